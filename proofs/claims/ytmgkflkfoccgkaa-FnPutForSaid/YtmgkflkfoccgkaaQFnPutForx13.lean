-- Written by this session's own program (wip/x/xprint.py, over the kit's printer); Lean checks it.
import Derived.Test.YtmgkflkfoccgkaaQFnPutForx0
import Derived.Test.YtmgkflkfoccgkaaQFnPutForx1
import Derived.Test.YtmgkflkfoccgkaaQFnPutForx2
namespace Go.Proofs.Ytmgkflkfoccgkaa.QFnPutFor
open Go.RowKit Go.Proofs.YtmgkflkfoccgkaaW.PrintWords Go.Proofs.YtmgkflkfoccgkaaW.PrintLast Go.Proofs.YtmgkflkfoccgkaaW.PrintMore
attribute [local go_sem] max2_int min2_int max_two min_two max_three min_three max_four min_four   -- for this text's walks alone
set_option linter.unusedVariables false
set_option linter.unusedSimpArgs false

/-! ### spec_l1Cur_lit: function 87 -/
def spec_l1Cur_lit.f (k:Nat) (s0_0:List Int) (s0_1:Int) (s0_2:Int) (l1_0:List Int):Option (Bool × List Int × List Int × Int × Int):=(spec_l1Cur_one.f s0_0 s0_1 s0_2 3).bind fun bt404=>((spec_l1Cur_pick.f s0_0 bt404.2.1 bt404.2.2 3).bind fun bt407=>((spec_l1Cur_term.f k s0_0 bt407.2.1 bt407.2.2 l1_0 (wrap64 (1 + bt407.1)) 3).bind fun bt410=>((spec_l1Cur_pick.f s0_0 bt410.2.1 bt410.2.2 2).bind fun bt415=>((spec_l1Cur_term.f k s0_0 bt415.2.1 bt415.2.2 l1_0 (wrap64 (1 + bt415.1)) 3).bind fun bt418=>((spec_l1Cur_one.f s0_0 bt418.2.1 bt418.2.2 3).bind fun bt424=>(if bt424.1 = true then (some (!bt404.1,bt410.1,(([0]:List Int)),bt424.2.1,bt424.2.2)) else (some (!bt404.1,bt410.1,bt418.1,bt424.2.1,bt424.2.2))))))))
theorem spec_l1Cur_lit.mono:∀ a0 a1 a2 a3 k,LeO (spec_l1Cur_lit.f k a0 a1 a2 a3) (spec_l1Cur_lit.f (k + 1) a0 a1 a2 a3):=by
 intro a0 a1 a2 a3 k
 unfold spec_l1Cur_lit.f
 have m0:=@spec_l1Cur_term.mono
 exact mO
def spec_l1Cur_lit.T1:Bool × List (List Nat × List Nat):=(true,[([],[]),([0],[0]),([1],[1]),([],[]),([],[]),([],[]),([5,1],[5]),([6],[6]),([3,4,7,6],[3,4,7]),([],[]),([],[]),([],[]),([11,8],[11]),([12],[12]),([9,10,13,12],[9,10,13]),([2,8,14],[2,8,14]),([],[]),([16,15,14,0,1,2,3,4,5,6,7,8,9,10,11,12,13,14,15,16],[15,16])])
def spec_l1Cur_lit.B1:List Nat:=[0,1,3,0,0,0,35,99,251,0,0,0,2555,6651,16379,32767,0,131071]
theorem spec_l1Cur_lit.tab1:rtab .any (opsOf Try.f87 1) = spec_l1Cur_lit.T1:=by kernel_rfl
theorem spec_l1Cur_lit.bits1:waitsOk spec_l1Cur_lit.T1.2 spec_l1Cur_lit.B1 = true:=by kernel_rfl
set_option maxHeartbeats 8000000 in
set_option maxRecDepth 100000 in
theorem spec_l1Cur_lit.calls (k:Nat) (g:Nat) (s0_0:List Int) (s0_1:Int) (s0_2:Int) (A1_0:Option Addr) (c1_0:Nat) (l1_0:List Int) (r1:Bool) (r2:List Int) (r3:List Int) (r4:Int) (r5:Int) (w0 w:World) (hI:IsS60 w0 w g s0_0 s0_1 s0_2) (hB:Below w0.heap.size w0 w) (hr1_0:Kd.C (Kd.int .i64) w A1_0 l1_0.length l1_0) (hc1_0:l1_0.length ≤ c1_0) (hf1_0:∀ ad,A1_0 = some ad → 0 < l1_0.length → ad.block ≠ g) (h:spec_l1Cur_lit.f k s0_0 s0_1 s0_2 l1_0 = some (r1,r2,r3,r4,r5)) :
  Calls Try.prog 87 #[.pointer (some ⟨g,0,none⟩),.agg #[.slice A1_0 l1_0.length c1_0]] w fun e w'=>∃ v1_ v2_:Value,e = .returned (.agg #[.bool r1,v1_,v2_]) ∧ Kd.R (Kd.int .i64) 3 w' w.heap.size (fun k_=>some k_ ≠ (v2_:Value).ownBlock) v1_ r2 ∧ Kd.R (Kd.int .i64) 3 w' w.heap.size (fun k_=>some k_ ≠ (v1_:Value).ownBlock) v2_ r3 ∧ IsS60 w0 w' g s0_0 r4 r5 ∧ Below w0.heap.size w0 w' ∧ KeepBut w w' g none:=by
 have hu26:=Try.underlying26
 have hu83:=Try.underlying83
 have HR1_0:=Aside0.mk hr1_0
 have HC1_0:=Aside0.mk hc1_0
 clear hr1_0 hc1_0
 have HI0:=Aside0.mk hI
 have HK:=Aside0.mk (KeepBut.refl w g none)
 have HL:=Aside0.mk hB.size
 clear hI
 have HW0:=Aside0.mk hB.size
 have HB:=Aside0.mk hB
 clear hB
 have H:((spec_l1Cur_one.f s0_0 s0_1 s0_2 3).bind fun bt404=>((spec_l1Cur_pick.f s0_0 bt404.2.1 bt404.2.2 3).bind fun bt407=>((spec_l1Cur_term.f k s0_0 bt407.2.1 bt407.2.2 l1_0 (wrap64 (1 + bt407.1)) 3).bind fun bt410=>((spec_l1Cur_pick.f s0_0 bt410.2.1 bt410.2.2 2).bind fun bt415=>((spec_l1Cur_term.f k s0_0 bt415.2.1 bt415.2.2 l1_0 (wrap64 (1 + bt415.1)) 3).bind fun bt418=>((spec_l1Cur_one.f s0_0 bt418.2.1 bt418.2.2 3).bind fun bt424=>(if bt424.1 = true then (some (!bt404.1,bt410.1,(([0]:List Int)),bt424.2.1,bt424.2.2)) else (some (!bt404.1,bt410.1,bt418.1,bt424.2.1,bt424.2.2))))))))) = some (r1,r2,r3,r4,r5):=h
 clear h
 replace H:=Option.bind_eq_some_iff.mp H
 obtain ⟨⟨t404,t405,t406⟩,A30,H⟩:=H
 replace H:((spec_l1Cur_pick.f s0_0 t405 t406 3).bind fun bt407=>((spec_l1Cur_term.f k s0_0 bt407.2.1 bt407.2.2 l1_0 (wrap64 (1 + bt407.1)) 3).bind fun bt410=>((spec_l1Cur_pick.f s0_0 bt410.2.1 bt410.2.2 2).bind fun bt415=>((spec_l1Cur_term.f k s0_0 bt415.2.1 bt415.2.2 l1_0 (wrap64 (1 + bt415.1)) 3).bind fun bt418=>((spec_l1Cur_one.f s0_0 bt418.2.1 bt418.2.2 3).bind fun bt424=>(if bt424.1 = true then (some (!t404,bt410.1,(([0]:List Int)),bt424.2.1,bt424.2.2)) else (some (!t404,bt410.1,bt418.1,bt424.2.1,bt424.2.2)))))))) = some (r1,r2,r3,r4,r5):=H
 have A3:=Aside0.mk A30
 clear A30
 replace H:=Option.bind_eq_some_iff.mp H
 obtain ⟨⟨t407,t408,t409⟩,A40,H⟩:=H
 replace H:((spec_l1Cur_term.f k s0_0 t408 t409 l1_0 (wrap64 (1 + t407)) 3).bind fun bt410=>((spec_l1Cur_pick.f s0_0 bt410.2.1 bt410.2.2 2).bind fun bt415=>((spec_l1Cur_term.f k s0_0 bt415.2.1 bt415.2.2 l1_0 (wrap64 (1 + bt415.1)) 3).bind fun bt418=>((spec_l1Cur_one.f s0_0 bt418.2.1 bt418.2.2 3).bind fun bt424=>(if bt424.1 = true then (some (!t404,bt410.1,(([0]:List Int)),bt424.2.1,bt424.2.2)) else (some (!t404,bt410.1,bt418.1,bt424.2.1,bt424.2.2))))))) = some (r1,r2,r3,r4,r5):=H
 have A4:=Aside0.mk A40
 clear A40
 replace H:=Option.bind_eq_some_iff.mp H
 obtain ⟨⟨t410,t413,t414⟩,A50,H⟩:=H
 replace H:((spec_l1Cur_pick.f s0_0 t413 t414 2).bind fun bt415=>((spec_l1Cur_term.f k s0_0 bt415.2.1 bt415.2.2 l1_0 (wrap64 (1 + bt415.1)) 3).bind fun bt418=>((spec_l1Cur_one.f s0_0 bt418.2.1 bt418.2.2 3).bind fun bt424=>(if bt424.1 = true then (some (!t404,t410,(([0]:List Int)),bt424.2.1,bt424.2.2)) else (some (!t404,t410,bt418.1,bt424.2.1,bt424.2.2)))))) = some (r1,r2,r3,r4,r5):=H
 have A5:=Aside0.mk A50
 clear A50
 replace H:=Option.bind_eq_some_iff.mp H
 obtain ⟨⟨t415,t416,t417⟩,A60,H⟩:=H
 replace H:((spec_l1Cur_term.f k s0_0 t416 t417 l1_0 (wrap64 (1 + t415)) 3).bind fun bt418=>((spec_l1Cur_one.f s0_0 bt418.2.1 bt418.2.2 3).bind fun bt424=>(if bt424.1 = true then (some (!t404,t410,(([0]:List Int)),bt424.2.1,bt424.2.2)) else (some (!t404,t410,bt418.1,bt424.2.1,bt424.2.2))))) = some (r1,r2,r3,r4,r5):=H
 have A6:=Aside0.mk A60
 clear A60
 replace H:=Option.bind_eq_some_iff.mp H
 obtain ⟨⟨t418,t421,t422⟩,A70,H⟩:=H
 replace H:((spec_l1Cur_one.f s0_0 t421 t422 3).bind fun bt424=>(if bt424.1 = true then (some (!t404,t410,(([0]:List Int)),bt424.2.1,bt424.2.2)) else (some (!t404,t410,t418,bt424.2.1,bt424.2.2)))) = some (r1,r2,r3,r4,r5):=H
 have A7:=Aside0.mk A70
 clear A70
 replace H:=Option.bind_eq_some_iff.mp H
 obtain ⟨⟨t424,t425,t426⟩,A80,H⟩:=H
 replace H:(if t424 = true then (some (!t404,t410,(([0]:List Int)),t425,t426)) else (some (!t404,t410,t418,t425,t426))) = some (r1,r2,r3,r4,r5):=H
 have A8:=Aside0.mk A80
 clear A80
 by_cases c9:t424 = true
 ·subst c9
  have H1:(some (!t404,t410,(([0]:List Int)),t425,t426)) = some (r1,r2,r3,r4,r5):=by rw [if_pos rfl] at H;exact H
  clear H
  have H:=H1
  clear H1
  obtain ⟨y427,hy427⟩:∃ y_:List Int,y_ = (([0]:List Int)):=⟨_,rfl⟩
  replace H:(some (!t404,t410,y427,t425,t426)) = some (r1,r2,r3,r4,r5):=by first|(rw [hy427];with_reducible exact H)|(have H2_:=(Option.bind_some _ _).symm.trans H;rw [hy427];with_reducible exact H2_)|(have H2_:=(Option.bind_some _ _).symm.trans H;with_reducible exact H2_)|with_reducible exact H|(rw [hy427];exact H)|exact H
  have Ny427:=Aside0.mk hy427
  clear hy427
  simp only [Option.some.injEq,Prod.mk.injEq] at H
  obtain ⟨rfl,rfl,rfl,rfl,rfl⟩:=H
  go_enter Try.func87,Try.ntmps87
  try go_wp2_with (first|((with_reducible refine gate_dst (N:=3) rfl ?_);refine box_event ?hg (N:=3) ?hd (cs:=#[.slice A1_0 l1_0.length c1_0]) (t:=26) ?hr ?_;(case hd=>rfl);(case hg=>rfl);(case hr=>exact Yd);intro gb402 hg w10 hbox hb;replace HB:=Aside0.mk (below_step bH hb);have BK402:=Aside0.mk (hbox);have GW402:=Aside0.mk ((by rw [hg];exact (keep_size (w:=w) (g:=g) (row:=none) kB):w.heap.size ≤ gb402));have GE402:=Aside0.mk ((Nat.le_trans HW0.out (by rw [hg];exact (keep_size (w:=w) (g:=g) (row:=none) kB):w.heap.size ≤ gb402):w0.heap.size ≤ gb402));replace HK:=Aside0.mk (KeepBut.trans kB (KeepBut.of_below hb g none) (.inl rfl));have NB0_402:=Aside0.mk ((by rw [hg];exact Nat.ne_of_lt (IsS60.lt (show IsS60 w0 _ g s0_0 s0_1 s0_2 from iIsS60)):g ≠ gb402));have NB402_0:=Aside0.mk ((by rw [hg];exact Nat.ne_of_gt (IsS60.lt (show IsS60 w0 _ g s0_0 s0_1 s0_2 from iIsS60)):gb402 ≠ g));replace HI0:=Aside0.mk (IsS60.below iIsS60 hb);clear hb hbox hg)|((with_reducible refine gate_dst (N:=4) rfl ?_);refine box_event ?hg (N:=4) ?hd (cs:=#[.bool false,.slice none 0 0,.slice none 0 0]) (t:=83) ?hr ?_;(case hd=>rfl);(case hg=>rfl);(case hr=>exact Yd);intro gb403 hg w11 hbox hb;replace HB:=Aside0.mk (below_step bH hb);have BK403:=Aside0.mk (hbox);have GW403:=Aside0.mk ((by rw [hg];exact (keep_size (w:=w) (g:=g) (row:=none) kB):w.heap.size ≤ gb403));have GE403:=Aside0.mk ((Nat.le_trans HW0.out (by rw [hg];exact (keep_size (w:=w) (g:=g) (row:=none) kB):w.heap.size ≤ gb403):w0.heap.size ≤ gb403));replace HK:=Aside0.mk (KeepBut.trans kB (KeepBut.of_below hb g none) (.inl rfl));have NB402_403:=Aside0.mk ((nL BK402:gb402 ≠ gb403));have NB403_402:=Aside0.mk ((nG BK402:gb403 ≠ gb402));replace BK402:=Aside0.mk (blk_below (bB BK402) hb);have NB0_403:=Aside0.mk ((by rw [hg];exact Nat.ne_of_lt (IsS60.lt (show IsS60 w0 _ g s0_0 s0_1 s0_2 from iIsS60)):g ≠ gb403));have NB403_0:=Aside0.mk ((by rw [hg];exact Nat.ne_of_gt (IsS60.lt (show IsS60 w0 _ g s0_0 s0_1 s0_2 from iIsS60)):gb403 ≠ g));replace HI0:=Aside0.mk (IsS60.below iIsS60 hb);clear hb hbox hg))
  replace BK402:=Aside0.mk (blk_drew BK402.out);replace BK403:=Aside0.mk (blk_drew BK403.out);replace HI0:=Aside0.mk (IsS60.drew HI0.out);replace HK:=Aside0.mk (keep_drew HK.out);replace HB:=Aside0.mk (below_drew1 HB.out)
  refine start_ (n:=18) (S:=fun w'=>w'.cell? ⟨gb402,0,none⟩ = some (.slice A1_0 l1_0.length c1_0)) (ds:=[]) #[false,false,false,false,false,false,false,false,false,false,false,false,false,false,false,false,false,false] (by kernel_rfl) rfl rfl ((blk_cell BK402.out 0).trans rfl) (fun hHeld=>?_);refine with_tabW spec_l1Cur_lit.tab1 spec_l1Cur_lit.bits1 (fun HT_ HW_=>?_)
  generalize w11.drew = w12 at BK402 BK403 HI0 HK HB hHeld ⊢
  refine pU (i:=0) (N:=some 6) #[true,false,false,false,false,false,false,false,false,false,false,false,false,false,false,false,false,false] (any_of HT_.out (by kernel_rfl)) ?_
  refine pU (i:=3) (N:=some 9) #[true,false,false,true,false,false,false,false,false,false,false,false,false,false,false,false,false,false] (any_of HT_.out (by kernel_rfl)) ?_
  refine pU (i:=5) (N:=some 11) #[true,false,false,true,false,true,false,false,false,false,false,false,false,false,false,false,false,false] (any_of HT_.out (by kernel_rfl)) ?_
  refine pU (i:=9) (N:=some 15) #[true,false,false,true,false,true,false,false,false,true,false,false,false,false,false,false,false,false] (any_of HT_.out (by kernel_rfl)) ?_
  refine pU (i:=11) (N:=some 17) #[true,false,false,true,false,true,false,false,false,true,false,true,false,false,false,false,false,false] (any_of HT_.out (by kernel_rfl)) ?_
  refine tK1 (i:=4) (N:=some 10) #[true,false,false,true,true,true,false,false,false,true,false,true,false,false,false,false,false,false] (take_ofW HT_.out HW_.out (by kernel_rfl)) hHeld ?_
  refine tK1 (i:=10) (N:=some 16) #[true,false,false,true,true,true,false,false,false,true,true,true,false,false,false,false,false,false] (take_ofW HT_.out HW_.out (by kernel_rfl)) hHeld ?_
  refine join_ (σ:=Value × Value × Nat) 1 #[true,true,true,true,true,true,true,true,true,true,true,true,true,true,true,true,true,false] (fun s_=>[(7,.bool t404),(12,.int .i64 t407),(14,s_.1),(18,.int .i64 t415),(20,s_.2.1),(5,.pointer (some ⟨s_.2.2,0,none⟩)),(8,.bool (!t404)),(13,.int .i64 (wrap64 (1 + t407))),(19,.int .i64 (wrap64 (1 + t415))),(21,.agg #[.bool (!t404),s_.1,s_.2.1])]) (fun s_ w'=>(w'.cell? ⟨gb402,0,none⟩ = some (.slice A1_0 l1_0.length c1_0)) ∧ (Kd.R (Kd.int .i64) 3 w' w.heap.size (fun k_=>some k_ ≠ (s_.2.1:Value).ownBlock) s_.1 t410) ∧ (Kd.R (Kd.int .i64) 3 w' w.heap.size (fun k_=>some k_ ≠ (s_.1:Value).ownBlock) s_.2.1 t418) ∧ (w'.heap[gb402]? = some (.cells #[.slice A1_0 l1_0.length c1_0] 26 (0,0))) ∧ (w'.heap[gb403]? = some (.cells #[.bool false,.slice none 0 0,.slice none 0 0] 83 (0,0))) ∧ (w'.heap[s_.2.2]? = some (.cells #[.bool false,.slice none 0 0,.slice none 0 0] 83 (0,0))) ∧ (w.heap.size ≤ s_.2.2) ∧ (w0.heap.size ≤ s_.2.2) ∧ (g ≠ s_.2.2) ∧ (s_.2.2 ≠ g) ∧ (gb402 ≠ s_.2.2) ∧ (s_.2.2 ≠ gb402) ∧ (gb403 ≠ s_.2.2) ∧ (s_.2.2 ≠ gb403) ∧ (IsS60 w0 w' g s0_0 t421 t422) ∧ (KeepBut w w' g none) ∧ (Below w0.heap.size w0 w')) ?_ ?_
  rotate_left
  ·intro hJ1_6_8_12_14_16
   refine join_ (σ:=Value × Value) 2 #[true,true,true,true,true,true,true,true,true,true,true,true,true,true,true,true,false,false] (fun s_=>[(7,.bool t404),(12,.int .i64 t407),(14,s_.1),(18,.int .i64 t415),(20,s_.2),(8,.bool (!t404)),(13,.int .i64 (wrap64 (1 + t407))),(19,.int .i64 (wrap64 (1 + t415))),(21,.agg #[.bool (!t404),s_.1,s_.2])]) (fun s_ w'=>(w'.cell? ⟨gb402,0,none⟩ = some (.slice A1_0 l1_0.length c1_0)) ∧ (Kd.R (Kd.int .i64) 3 w' w.heap.size (fun k_=>some k_ ≠ (s_.2:Value).ownBlock) s_.1 t410) ∧ (Kd.R (Kd.int .i64) 3 w' w.heap.size (fun k_=>some k_ ≠ (s_.1:Value).ownBlock) s_.2 t418) ∧ (w'.heap[gb402]? = some (.cells #[.slice A1_0 l1_0.length c1_0] 26 (0,0))) ∧ (w'.heap[gb403]? = some (.cells #[.bool false,.slice none 0 0,.slice none 0 0] 83 (0,0))) ∧ (IsS60 w0 w' g s0_0 t421 t422) ∧ (KeepBut w w' g none) ∧ (Below w0.heap.size w0 w')) ?_ ?_
   rotate_left
   ·intro hJ1_6_8_12_14
    refine join_ (σ:=Value × Nat) 3 #[true,true,true,true,true,true,true,true,true,true,true,true,true,true,false,false,true,false] (fun s_=>[(7,.bool t404),(12,.int .i64 t407),(14,s_.1),(18,.int .i64 t415),(5,.pointer (some ⟨s_.2,0,none⟩)),(8,.bool (!t404)),(13,.int .i64 (wrap64 (1 + t407))),(19,.int .i64 (wrap64 (1 + t415)))]) (fun s_ w'=>(w'.cell? ⟨gb402,0,none⟩ = some (.slice A1_0 l1_0.length c1_0)) ∧ (Kd.R (Kd.int .i64) 3 w' w.heap.size (fun _=>True) s_.1 t410) ∧ (w'.heap[gb402]? = some (.cells #[.slice A1_0 l1_0.length c1_0] 26 (0,0))) ∧ (w'.heap[gb403]? = some (.cells #[.bool false,.slice none 0 0,.slice none 0 0] 83 (0,0))) ∧ (w'.heap[s_.2]? = some (.cells #[.bool false,.slice none 0 0,.slice none 0 0] 83 (0,0))) ∧ (w.heap.size ≤ s_.2) ∧ (w0.heap.size ≤ s_.2) ∧ (g ≠ s_.2) ∧ (s_.2 ≠ g) ∧ (gb402 ≠ s_.2) ∧ (s_.2 ≠ gb402) ∧ (gb403 ≠ s_.2) ∧ (s_.2 ≠ gb403) ∧ (IsS60 w0 w' g s0_0 t416 t417) ∧ (KeepBut w w' g none) ∧ (Below w0.heap.size w0 w')) ?_ ?_
    rotate_left
    ·intro hJ1_6_8_12_16
     refine join_ (σ:=Value) 4 #[true,true,true,true,true,true,true,true,true,true,true,true,true,true,false,false,false,false] (fun s_=>[(7,.bool t404),(12,.int .i64 t407),(14,s_),(18,.int .i64 t415),(8,.bool (!t404)),(13,.int .i64 (wrap64 (1 + t407))),(19,.int .i64 (wrap64 (1 + t415)))]) (fun s_ w'=>(w'.cell? ⟨gb402,0,none⟩ = some (.slice A1_0 l1_0.length c1_0)) ∧ (Kd.R (Kd.int .i64) 3 w' w.heap.size (fun _=>True) s_ t410) ∧ (w'.heap[gb402]? = some (.cells #[.slice A1_0 l1_0.length c1_0] 26 (0,0))) ∧ (w'.heap[gb403]? = some (.cells #[.bool false,.slice none 0 0,.slice none 0 0] 83 (0,0))) ∧ (IsS60 w0 w' g s0_0 t416 t417) ∧ (KeepBut w w' g none) ∧ (Below w0.heap.size w0 w')) ?_ ?_
     rotate_left
     ·intro hJ1_6_8_12
      refine join_ (σ:=Value × Nat) 5 #[true,true,true,true,true,true,true,true,true,true,true,true,false,false,false,false,true,false] (fun s_=>[(7,.bool t404),(12,.int .i64 t407),(14,s_.1),(5,.pointer (some ⟨s_.2,0,none⟩)),(8,.bool (!t404)),(13,.int .i64 (wrap64 (1 + t407)))]) (fun s_ w'=>(w'.cell? ⟨gb402,0,none⟩ = some (.slice A1_0 l1_0.length c1_0)) ∧ (Kd.R (Kd.int .i64) 3 w' w.heap.size (fun _=>True) s_.1 t410) ∧ (w'.heap[gb402]? = some (.cells #[.slice A1_0 l1_0.length c1_0] 26 (0,0))) ∧ (w'.heap[gb403]? = some (.cells #[.bool false,.slice none 0 0,.slice none 0 0] 83 (0,0))) ∧ (w'.heap[s_.2]? = some (.cells #[.bool false,.slice none 0 0,.slice none 0 0] 83 (0,0))) ∧ (w.heap.size ≤ s_.2) ∧ (w0.heap.size ≤ s_.2) ∧ (g ≠ s_.2) ∧ (s_.2 ≠ g) ∧ (gb402 ≠ s_.2) ∧ (s_.2 ≠ gb402) ∧ (gb403 ≠ s_.2) ∧ (s_.2 ≠ gb403) ∧ (IsS60 w0 w' g s0_0 t413 t414) ∧ (KeepBut w w' g none) ∧ (Below w0.heap.size w0 w')) ?_ ?_
      rotate_left
      ·intro hJ1_6_8_16
       refine join_ (σ:=Value) 6 #[true,true,true,true,true,true,true,true,true,true,true,true,false,false,false,false,false,false] (fun s_=>[(7,.bool t404),(12,.int .i64 t407),(14,s_),(8,.bool (!t404)),(13,.int .i64 (wrap64 (1 + t407)))]) (fun s_ w'=>(w'.cell? ⟨gb402,0,none⟩ = some (.slice A1_0 l1_0.length c1_0)) ∧ (Kd.R (Kd.int .i64) 3 w' w.heap.size (fun _=>True) s_ t410) ∧ (w'.heap[gb402]? = some (.cells #[.slice A1_0 l1_0.length c1_0] 26 (0,0))) ∧ (w'.heap[gb403]? = some (.cells #[.bool false,.slice none 0 0,.slice none 0 0] 83 (0,0))) ∧ (IsS60 w0 w' g s0_0 t413 t414) ∧ (KeepBut w w' g none) ∧ (Below w0.heap.size w0 w')) ?_ ?_
       rotate_left
       ·intro hJ1_6_8
        refine join_ (σ:=Nat) 6 #[true,true,true,true,true,true,true,true,false,true,true,true,false,false,false,false,true,false] (fun s_=>[(7,.bool t404),(12,.int .i64 t407),(5,.pointer (some ⟨s_,0,none⟩)),(8,.bool (!t404)),(13,.int .i64 (wrap64 (1 + t407)))]) (fun s_ w'=>(w'.cell? ⟨gb402,0,none⟩ = some (.slice A1_0 l1_0.length c1_0)) ∧ (w'.heap[gb402]? = some (.cells #[.slice A1_0 l1_0.length c1_0] 26 (0,0))) ∧ (w'.heap[gb403]? = some (.cells #[.bool false,.slice none 0 0,.slice none 0 0] 83 (0,0))) ∧ (w'.heap[s_]? = some (.cells #[.bool false,.slice none 0 0,.slice none 0 0] 83 (0,0))) ∧ (w.heap.size ≤ s_) ∧ (w0.heap.size ≤ s_) ∧ (g ≠ s_) ∧ (s_ ≠ g) ∧ (gb402 ≠ s_) ∧ (s_ ≠ gb402) ∧ (gb403 ≠ s_) ∧ (s_ ≠ gb403) ∧ (IsS60 w0 w' g s0_0 t408 t409) ∧ (KeepBut w w' g none) ∧ (Below w0.heap.size w0 w')) ?_ ?_
        rotate_left
        ·intro hJ1_6_16
         refine join_ (σ:=Unit) 7 #[true,true,true,true,true,true,true,true,false,true,true,true,false,false,false,false,false,false] (fun s_=>[(7,.bool t404),(12,.int .i64 t407),(8,.bool (!t404)),(13,.int .i64 (wrap64 (1 + t407)))]) (fun s_ w'=>(w'.cell? ⟨gb402,0,none⟩ = some (.slice A1_0 l1_0.length c1_0)) ∧ (w'.heap[gb402]? = some (.cells #[.slice A1_0 l1_0.length c1_0] 26 (0,0))) ∧ (w'.heap[gb403]? = some (.cells #[.bool false,.slice none 0 0,.slice none 0 0] 83 (0,0))) ∧ (IsS60 w0 w' g s0_0 t408 t409) ∧ (KeepBut w w' g none) ∧ (Below w0.heap.size w0 w')) ?_ ?_
         rotate_left
         ·intro hJ1_6
          refine join_ (σ:=Nat) 8 #[true,true,true,true,true,true,false,false,false,true,true,true,false,false,false,false,true,false] (fun s_=>[(7,.bool t404),(5,.pointer (some ⟨s_,0,none⟩)),(8,.bool (!t404))]) (fun s_ w'=>(w'.cell? ⟨gb402,0,none⟩ = some (.slice A1_0 l1_0.length c1_0)) ∧ (w'.heap[gb402]? = some (.cells #[.slice A1_0 l1_0.length c1_0] 26 (0,0))) ∧ (w'.heap[gb403]? = some (.cells #[.bool false,.slice none 0 0,.slice none 0 0] 83 (0,0))) ∧ (w'.heap[s_]? = some (.cells #[.bool false,.slice none 0 0,.slice none 0 0] 83 (0,0))) ∧ (w.heap.size ≤ s_) ∧ (w0.heap.size ≤ s_) ∧ (g ≠ s_) ∧ (s_ ≠ g) ∧ (gb402 ≠ s_) ∧ (s_ ≠ gb402) ∧ (gb403 ≠ s_) ∧ (s_ ≠ gb403) ∧ (IsS60 w0 w' g s0_0 t405 t406) ∧ (KeepBut w w' g none) ∧ (Below w0.heap.size w0 w')) ?_ ?_
          rotate_left
          ·intro hJ1_16
           refine join_ (σ:=Unit) 9 #[true,true,true,true,true,true,false,false,false,true,true,true,false,false,false,false,false,false] (fun s_=>[(7,.bool t404),(8,.bool (!t404))]) (fun s_ w'=>(w'.cell? ⟨gb402,0,none⟩ = some (.slice A1_0 l1_0.length c1_0)) ∧ (w'.heap[gb402]? = some (.cells #[.slice A1_0 l1_0.length c1_0] 26 (0,0))) ∧ (w'.heap[gb403]? = some (.cells #[.bool false,.slice none 0 0,.slice none 0 0] 83 (0,0))) ∧ (IsS60 w0 w' g s0_0 t405 t406) ∧ (KeepBut w w' g none) ∧ (Below w0.heap.size w0 w')) ?_ ?_
           rotate_left
           ·intro hJ1
            refine join_ (σ:=Nat) 10 #[true,false,false,true,true,true,false,false,false,true,true,true,false,false,false,false,true,false] (fun s_=>[(5,.pointer (some ⟨s_,0,none⟩))]) (fun s_ w'=>(w'.cell? ⟨gb402,0,none⟩ = some (.slice A1_0 l1_0.length c1_0)) ∧ (w'.heap[gb402]? = some (.cells #[.slice A1_0 l1_0.length c1_0] 26 (0,0))) ∧ (w'.heap[gb403]? = some (.cells #[.bool false,.slice none 0 0,.slice none 0 0] 83 (0,0))) ∧ (w'.heap[s_]? = some (.cells #[.bool false,.slice none 0 0,.slice none 0 0] 83 (0,0))) ∧ (w.heap.size ≤ s_) ∧ (w0.heap.size ≤ s_) ∧ (g ≠ s_) ∧ (s_ ≠ g) ∧ (gb402 ≠ s_) ∧ (s_ ≠ gb402) ∧ (gb403 ≠ s_) ∧ (s_ ≠ gb403) ∧ (IsS60 w0 w' g s0_0 s0_1 s0_2) ∧ (KeepBut w w' g none) ∧ (Below w0.heap.size w0 w')) ?_ ?_
            rotate_left
            ·intro hJ16
             refine two_ (i:=1) (j:=16) (Ni:=some 7) (Nj:=some 5) #[true,true,false,true,true,true,false,false,false,true,true,true,false,false,false,false,false,false] #[true,false,false,true,true,true,false,false,false,true,true,true,false,false,false,false,true,false] rfl rfl rfl rfl (two_of HT_.out (by kernel_rfl)) (by decide) (by decide) (fun K hK=>?_) (fun K hK=>?_)
             ·skip
              refine goes_ Try.func75 (by kernel_rfl) rfl #[.pointer (some ⟨g,0,none⟩),.int .i64 3] (by rfl) rfl rfl Ya ?_
              with_reducible refine (spec_l1Cur_one.calls g s0_0 s0_1 s0_2 3 t404 t405 t406 w0 _ ?side1 ?side2 A3.out).mono ?_
              (case side1=>exact iIsS60)
              (case side2=>exact bH)
              rintro e w13 ⟨rfl,hi,hb,hk⟩
              refine ⟨_,rfl,?_⟩
              replace BK402:=Aside0.mk (KeepBut.blk hk (g':=gb402) (o:=.cells #[.slice A1_0 l1_0.length c1_0] 26 (0,0)) (bB BK402) NB402_0.out (by simp));replace BK403:=Aside0.mk (KeepBut.blk hk (g':=gb403) (o:=.cells #[.bool false,.slice none 0 0,.slice none 0 0] 83 (0,0)) (bB BK403) NB403_0.out (by simp));replace HK:=Aside0.mk (KeepBut.trans kB hk (.inl rfl));replace HB:=Aside0.mk (hb);replace HI0:=Aside0.mk (hi)
              (try clear hb)
              (try clear hb2)
              (try clear hk)
              (try clear hi)
              refine hK.out _ _ ((blk_cell BK402.out 0).trans rfl) (fun hHeld=>?_)
              clear hK K
              refine nM (N:=some 7) ?_
              refine pU (i:=2) (N:=some 8) #[true,true,true,true,true,true,false,false,false,true,true,true,false,false,false,false,false,false] (any_of HT_.out (by kernel_rfl)) ?_
              exact norm_ Yc (hJ1 () _ ⟨hHeld,(bB BK402),(bB BK403),iIsS60,kB,bH⟩)
             ·skip
              refine box_step ?hg (N:=5) ?hd (cs:=#[.bool false,.slice none 0 0,.slice none 0 0]) (t:=83) ?hr ?_;(case hd=>rfl);(case hg=>rfl);(case hr=>exact Yd)
              intro gb423 hg w13 hbox hb
              replace HB:=Aside0.mk (below_step bH hb);have BK423:=Aside0.mk (hbox);have GW423:=Aside0.mk ((by rw [hg];exact (keep_size (w:=w) (g:=g) (row:=none) kB):w.heap.size ≤ gb423));have GE423:=Aside0.mk ((Nat.le_trans HW0.out (by rw [hg];exact (keep_size (w:=w) (g:=g) (row:=none) kB):w.heap.size ≤ gb423):w0.heap.size ≤ gb423));replace HK:=Aside0.mk (KeepBut.trans kB (KeepBut.of_below hb g none) (.inl rfl));have NB402_423:=Aside0.mk ((nL BK402:gb402 ≠ gb423));have NB423_402:=Aside0.mk ((nG BK402:gb423 ≠ gb402));replace BK402:=Aside0.mk (blk_below (bB BK402) hb);have NB403_423:=Aside0.mk ((nL BK403:gb403 ≠ gb423));have NB423_403:=Aside0.mk ((nG BK403:gb423 ≠ gb403));replace BK403:=Aside0.mk (blk_below (bB BK403) hb);have NB0_423:=Aside0.mk ((by rw [hg];exact Nat.ne_of_lt (IsS60.lt (show IsS60 w0 _ g s0_0 s0_1 s0_2 from iIsS60)):g ≠ gb423));have NB423_0:=Aside0.mk ((by rw [hg];exact Nat.ne_of_gt (IsS60.lt (show IsS60 w0 _ g s0_0 s0_1 s0_2 from iIsS60)):gb423 ≠ g));replace HI0:=Aside0.mk (IsS60.below iIsS60 hb)
              clear hb hbox hg
              refine hK.out _ _ ((blk_cell BK402.out 0).trans rfl) (fun hHeld=>?_)
              clear hK K
              refine nM (N:=some 5) ?_
              exact norm_ Yc (hJ16 (gb423) _ ⟨hHeld,(bB BK402),(bB BK403),(bB BK423),GW423.out,GE423.out,NB0_423.out,NB423_0.out,NB402_423.out,NB423_402.out,NB403_423.out,NB423_403.out,iIsS60,kB,bH⟩)
            ·skip
             rintro gb423 w14 ⟨hS_,h0_,h1_,h2_,h3_,h4_,h5_,h6_,h7_,h8_,h9_,h10_,h11_,h12_,h13_⟩
             have n0_:Aside0 (w14.heap[gb402]? = some (.cells #[.slice A1_0 l1_0.length c1_0] 26 (0,0))):=⟨h0_⟩
             have n1_:Aside0 (w14.heap[gb403]? = some (.cells #[.bool false,.slice none 0 0,.slice none 0 0] 83 (0,0))):=⟨h1_⟩
             have n2_:Aside0 (w14.heap[gb423]? = some (.cells #[.bool false,.slice none 0 0,.slice none 0 0] 83 (0,0))):=⟨h2_⟩
             have n3_:Aside0 (w.heap.size ≤ gb423):=⟨h3_⟩
             have n4_:Aside0 (w0.heap.size ≤ gb423):=⟨h4_⟩
             have n5_:Aside0 (g ≠ gb423):=⟨h5_⟩
             have n6_:Aside0 (gb423 ≠ g):=⟨h6_⟩
             have n7_:Aside0 (gb402 ≠ gb423):=⟨h7_⟩
             have n8_:Aside0 (gb423 ≠ gb402):=⟨h8_⟩
             have n9_:Aside0 (gb403 ≠ gb423):=⟨h9_⟩
             have n10_:Aside0 (gb423 ≠ gb403):=⟨h10_⟩
             have n11_:Aside0 (IsS60 w0 w14 g s0_0 s0_1 s0_2):=⟨h11_⟩
             have n12_:Aside0 (KeepBut w w14 g none):=⟨h12_⟩
             have n13_:Aside0 (Below w0.heap.size w0 w14):=⟨h13_⟩
             clear BK402
             clear BK403
             clear HI0
             clear HK
             clear HB
             clear h0_ h1_ h2_ h3_ h4_ h5_ h6_ h7_ h8_ h9_ h10_ h11_ h12_ h13_
             have BK402:=n0_
             have BK403:=n1_
             have BK423:=n2_
             have GW423:=n3_
             have GE423:=n4_
             have NB0_423:=n5_
             have NB423_0:=n6_
             have NB402_423:=n7_
             have NB423_402:=n8_
             have NB403_423:=n9_
             have NB423_403:=n10_
             have HI0:=n11_
             have HK:=n12_
             have HB:=n13_
             clear n0_ n1_ n2_ n3_ n4_ n5_ n6_ n7_ n8_ n9_ n10_ n11_ n12_ n13_
             have hHeld:w14.cell? ⟨gb402,0,none⟩ = some (.slice A1_0 l1_0.length c1_0):=hS_
             refine norm_ (a':=?_) ?_ ?_
             rotate_left
             ·simp only [putAll,Act.put,List.setIfInBounds_toArray,List.set_cons_zero,List.set_cons_succ]
              rfl
             refine one_ (i:=1) (N:=some 7) #[true,true,false,true,true,true,false,false,false,true,true,true,false,false,false,false,true,false] rfl rfl (one_of HT_.out (by kernel_rfl)) (by decide) (fun K hK=>?_)
             refine goes_ Try.func75 (by kernel_rfl) rfl #[.pointer (some ⟨g,0,none⟩),.int .i64 3] (by rfl) rfl rfl Ya ?_
             with_reducible refine (spec_l1Cur_one.calls g s0_0 s0_1 s0_2 3 t404 t405 t406 w0 _ ?side1 ?side2 A3.out).mono ?_
             (case side1=>exact iIsS60)
             (case side2=>exact bH)
             rintro e w15 ⟨rfl,hi,hb,hk⟩
             refine ⟨_,rfl,?_⟩
             replace BK402:=Aside0.mk (KeepBut.blk hk (g':=gb402) (o:=.cells #[.slice A1_0 l1_0.length c1_0] 26 (0,0)) (bB BK402) NB402_0.out (by simp));replace BK403:=Aside0.mk (KeepBut.blk hk (g':=gb403) (o:=.cells #[.bool false,.slice none 0 0,.slice none 0 0] 83 (0,0)) (bB BK403) NB403_0.out (by simp));replace BK423:=Aside0.mk (KeepBut.blk hk (g':=gb423) (o:=.cells #[.bool false,.slice none 0 0,.slice none 0 0] 83 (0,0)) (bB BK423) NB423_0.out (by simp));replace HK:=Aside0.mk (KeepBut.trans kB hk (.inl rfl));replace HB:=Aside0.mk (hb);replace HI0:=Aside0.mk (hi)
             (try clear hb)
             (try clear hb2)
             (try clear hk)
             (try clear hi)
             refine hK.out _ _ ((blk_cell BK402.out 0).trans rfl) (fun hHeld=>?_)
             clear hK K
             refine nM (N:=some 7) ?_
             refine pU (i:=2) (N:=some 8) #[true,true,true,true,true,true,false,false,false,true,true,true,false,false,false,false,true,false] (any_of HT_.out (by kernel_rfl)) ?_
             exact norm_ Yc (hJ1_16 (gb423) _ ⟨hHeld,(bB BK402),(bB BK403),(bB BK423),GW423.out,GE423.out,NB0_423.out,NB423_0.out,NB402_423.out,NB423_402.out,NB403_423.out,NB423_403.out,iIsS60,kB,bH⟩)
           ·skip
            rintro _ w14 ⟨hS_,h0_,h1_,h2_,h3_,h4_⟩
            have n0_:Aside0 (w14.heap[gb402]? = some (.cells #[.slice A1_0 l1_0.length c1_0] 26 (0,0))):=⟨h0_⟩
            have n1_:Aside0 (w14.heap[gb403]? = some (.cells #[.bool false,.slice none 0 0,.slice none 0 0] 83 (0,0))):=⟨h1_⟩
            have n2_:Aside0 (IsS60 w0 w14 g s0_0 t405 t406):=⟨h2_⟩
            have n3_:Aside0 (KeepBut w w14 g none):=⟨h3_⟩
            have n4_:Aside0 (Below w0.heap.size w0 w14):=⟨h4_⟩
            clear BK402
            clear BK403
            clear HI0
            clear HK
            clear HB
            clear h0_ h1_ h2_ h3_ h4_
            have BK402:=n0_
            have BK403:=n1_
            have HI0:=n2_
            have HK:=n3_
            have HB:=n4_
            clear n0_ n1_ n2_ n3_ n4_
            have hHeld:w14.cell? ⟨gb402,0,none⟩ = some (.slice A1_0 l1_0.length c1_0):=hS_
            refine norm_ (a':=?_) ?_ ?_
            rotate_left
            ·simp only [putAll,Act.put,List.setIfInBounds_toArray,List.set_cons_zero,List.set_cons_succ]
             rfl
            refine two_ (i:=6) (j:=16) (Ni:=some 12) (Nj:=some 5) #[true,true,true,true,true,true,true,false,false,true,true,true,false,false,false,false,false,false] #[true,true,true,true,true,true,false,false,false,true,true,true,false,false,false,false,true,false] rfl rfl rfl rfl (two_of HT_.out (by kernel_rfl)) (by decide) (by decide) (fun K hK=>?_) (fun K hK=>?_)
            ·skip
             refine goes_ Try.func73 (by kernel_rfl) rfl #[.pointer (some ⟨g,0,none⟩),.int .i64 3] (by rfl) rfl rfl Ya ?_
             with_reducible refine (spec_l1Cur_pick.calls g s0_0 t405 t406 3 t407 t408 t409 w0 _ ?side1 ?side2 A4.out).mono ?_
             (case side1=>exact iIsS60)
             (case side2=>exact bH)
             rintro e w15 ⟨rfl,hi,hb,hk⟩
             refine ⟨_,rfl,?_⟩
             replace BK402:=Aside0.mk (KeepBut.blk hk (g':=gb402) (o:=.cells #[.slice A1_0 l1_0.length c1_0] 26 (0,0)) (bB BK402) NB402_0.out (by simp));replace BK403:=Aside0.mk (KeepBut.blk hk (g':=gb403) (o:=.cells #[.bool false,.slice none 0 0,.slice none 0 0] 83 (0,0)) (bB BK403) NB403_0.out (by simp));replace HK:=Aside0.mk (KeepBut.trans kB hk (.inl rfl));replace HB:=Aside0.mk (hb);replace HI0:=Aside0.mk (hi)
             (try clear hb)
             (try clear hb2)
             (try clear hk)
             (try clear hi)
             refine hK.out _ _ ((blk_cell BK402.out 0).trans rfl) (fun hHeld=>?_)
             clear hK K
             refine nM (N:=some 12) ?_
             refine pU (i:=7) (N:=some 13) #[true,true,true,true,true,true,true,true,false,true,true,true,false,false,false,false,false,false] (any_of HT_.out (by kernel_rfl)) ?_
             exact norm_ Yc (hJ1_6 () _ ⟨hHeld,(bB BK402),(bB BK403),iIsS60,kB,bH⟩)
            ·skip
             refine box_step ?hg (N:=5) ?hd (cs:=#[.bool false,.slice none 0 0,.slice none 0 0]) (t:=83) ?hr ?_;(case hd=>rfl);(case hg=>rfl);(case hr=>exact Yd)
             intro gb423 hg w15 hbox hb
             replace HB:=Aside0.mk (below_step bH hb);have BK423:=Aside0.mk (hbox);have GW423:=Aside0.mk ((by rw [hg];exact (keep_size (w:=w) (g:=g) (row:=none) kB):w.heap.size ≤ gb423));have GE423:=Aside0.mk ((Nat.le_trans HW0.out (by rw [hg];exact (keep_size (w:=w) (g:=g) (row:=none) kB):w.heap.size ≤ gb423):w0.heap.size ≤ gb423));replace HK:=Aside0.mk (KeepBut.trans kB (KeepBut.of_below hb g none) (.inl rfl));have NB402_423:=Aside0.mk ((nL BK402:gb402 ≠ gb423));have NB423_402:=Aside0.mk ((nG BK402:gb423 ≠ gb402));replace BK402:=Aside0.mk (blk_below (bB BK402) hb);have NB403_423:=Aside0.mk ((nL BK403:gb403 ≠ gb423));have NB423_403:=Aside0.mk ((nG BK403:gb423 ≠ gb403));replace BK403:=Aside0.mk (blk_below (bB BK403) hb);have NB0_423:=Aside0.mk ((by rw [hg];exact Nat.ne_of_lt (IsS60.lt (show IsS60 w0 _ g s0_0 t405 t406 from iIsS60)):g ≠ gb423));have NB423_0:=Aside0.mk ((by rw [hg];exact Nat.ne_of_gt (IsS60.lt (show IsS60 w0 _ g s0_0 t405 t406 from iIsS60)):gb423 ≠ g));replace HI0:=Aside0.mk (IsS60.below iIsS60 hb)
             clear hb hbox hg
             refine hK.out _ _ ((blk_cell BK402.out 0).trans rfl) (fun hHeld=>?_)
             clear hK K
             refine nM (N:=some 5) ?_
             exact norm_ Yc (hJ1_16 (gb423) _ ⟨hHeld,(bB BK402),(bB BK403),(bB BK423),GW423.out,GE423.out,NB0_423.out,NB423_0.out,NB402_423.out,NB423_402.out,NB403_423.out,NB423_403.out,iIsS60,kB,bH⟩)
          ·skip
           rintro gb423 w15 ⟨hS_,h0_,h1_,h2_,h3_,h4_,h5_,h6_,h7_,h8_,h9_,h10_,h11_,h12_,h13_⟩
           have n0_:Aside0 (w15.heap[gb402]? = some (.cells #[.slice A1_0 l1_0.length c1_0] 26 (0,0))):=⟨h0_⟩
           have n1_:Aside0 (w15.heap[gb403]? = some (.cells #[.bool false,.slice none 0 0,.slice none 0 0] 83 (0,0))):=⟨h1_⟩
           have n2_:Aside0 (w15.heap[gb423]? = some (.cells #[.bool false,.slice none 0 0,.slice none 0 0] 83 (0,0))):=⟨h2_⟩
           have n3_:Aside0 (w.heap.size ≤ gb423):=⟨h3_⟩
           have n4_:Aside0 (w0.heap.size ≤ gb423):=⟨h4_⟩
           have n5_:Aside0 (g ≠ gb423):=⟨h5_⟩
           have n6_:Aside0 (gb423 ≠ g):=⟨h6_⟩
           have n7_:Aside0 (gb402 ≠ gb423):=⟨h7_⟩
           have n8_:Aside0 (gb423 ≠ gb402):=⟨h8_⟩
           have n9_:Aside0 (gb403 ≠ gb423):=⟨h9_⟩
           have n10_:Aside0 (gb423 ≠ gb403):=⟨h10_⟩
           have n11_:Aside0 (IsS60 w0 w15 g s0_0 t405 t406):=⟨h11_⟩
           have n12_:Aside0 (KeepBut w w15 g none):=⟨h12_⟩
           have n13_:Aside0 (Below w0.heap.size w0 w15):=⟨h13_⟩
           clear BK402
           clear BK403
           clear HI0
           clear HK
           clear HB
           clear h0_ h1_ h2_ h3_ h4_ h5_ h6_ h7_ h8_ h9_ h10_ h11_ h12_ h13_
           have BK402:=n0_
           have BK403:=n1_
           have BK423:=n2_
           have GW423:=n3_
           have GE423:=n4_
           have NB0_423:=n5_
           have NB423_0:=n6_
           have NB402_423:=n7_
           have NB423_402:=n8_
           have NB403_423:=n9_
           have NB423_403:=n10_
           have HI0:=n11_
           have HK:=n12_
           have HB:=n13_
           clear n0_ n1_ n2_ n3_ n4_ n5_ n6_ n7_ n8_ n9_ n10_ n11_ n12_ n13_
           have hHeld:w15.cell? ⟨gb402,0,none⟩ = some (.slice A1_0 l1_0.length c1_0):=hS_
           refine norm_ (a':=?_) ?_ ?_
           rotate_left
           ·simp only [putAll,Act.put,List.setIfInBounds_toArray,List.set_cons_zero,List.set_cons_succ]
            rfl
           refine one_ (i:=6) (N:=some 12) #[true,true,true,true,true,true,true,false,false,true,true,true,false,false,false,false,true,false] rfl rfl (one_of HT_.out (by kernel_rfl)) (by decide) (fun K hK=>?_)
           refine goes_ Try.func73 (by kernel_rfl) rfl #[.pointer (some ⟨g,0,none⟩),.int .i64 3] (by rfl) rfl rfl Ya ?_
           with_reducible refine (spec_l1Cur_pick.calls g s0_0 t405 t406 3 t407 t408 t409 w0 _ ?side1 ?side2 A4.out).mono ?_
           (case side1=>exact iIsS60)
           (case side2=>exact bH)
           rintro e w16 ⟨rfl,hi,hb,hk⟩
           refine ⟨_,rfl,?_⟩
           replace BK402:=Aside0.mk (KeepBut.blk hk (g':=gb402) (o:=.cells #[.slice A1_0 l1_0.length c1_0] 26 (0,0)) (bB BK402) NB402_0.out (by simp));replace BK403:=Aside0.mk (KeepBut.blk hk (g':=gb403) (o:=.cells #[.bool false,.slice none 0 0,.slice none 0 0] 83 (0,0)) (bB BK403) NB403_0.out (by simp));replace BK423:=Aside0.mk (KeepBut.blk hk (g':=gb423) (o:=.cells #[.bool false,.slice none 0 0,.slice none 0 0] 83 (0,0)) (bB BK423) NB423_0.out (by simp));replace HK:=Aside0.mk (KeepBut.trans kB hk (.inl rfl));replace HB:=Aside0.mk (hb);replace HI0:=Aside0.mk (hi)
           (try clear hb)
           (try clear hb2)
           (try clear hk)
           (try clear hi)
           refine hK.out _ _ ((blk_cell BK402.out 0).trans rfl) (fun hHeld=>?_)
           clear hK K
           refine nM (N:=some 12) ?_
           refine pU (i:=7) (N:=some 13) #[true,true,true,true,true,true,true,true,false,true,true,true,false,false,false,false,true,false] (any_of HT_.out (by kernel_rfl)) ?_
           exact norm_ Yc (hJ1_6_16 (gb423) _ ⟨hHeld,(bB BK402),(bB BK403),(bB BK423),GW423.out,GE423.out,NB0_423.out,NB423_0.out,NB402_423.out,NB423_402.out,NB403_423.out,NB423_403.out,iIsS60,kB,bH⟩)
         ·skip
          rintro _ w15 ⟨hS_,h0_,h1_,h2_,h3_,h4_⟩
          have n0_:Aside0 (w15.heap[gb402]? = some (.cells #[.slice A1_0 l1_0.length c1_0] 26 (0,0))):=⟨h0_⟩
          have n1_:Aside0 (w15.heap[gb403]? = some (.cells #[.bool false,.slice none 0 0,.slice none 0 0] 83 (0,0))):=⟨h1_⟩
          have n2_:Aside0 (IsS60 w0 w15 g s0_0 t408 t409):=⟨h2_⟩
          have n3_:Aside0 (KeepBut w w15 g none):=⟨h3_⟩
          have n4_:Aside0 (Below w0.heap.size w0 w15):=⟨h4_⟩
          clear BK402
          clear BK403
          clear HI0
          clear HK
          clear HB
          clear h0_ h1_ h2_ h3_ h4_
          have BK402:=n0_
          have BK403:=n1_
          have HI0:=n2_
          have HK:=n3_
          have HB:=n4_
          clear n0_ n1_ n2_ n3_ n4_
          have hHeld:w15.cell? ⟨gb402,0,none⟩ = some (.slice A1_0 l1_0.length c1_0):=hS_
          refine norm_ (a':=?_) ?_ ?_
          rotate_left
          ·simp only [putAll,Act.put,List.setIfInBounds_toArray,List.set_cons_zero,List.set_cons_succ]
           rfl
          refine two_ (i:=8) (j:=16) (Ni:=some 14) (Nj:=some 5) #[true,true,true,true,true,true,true,true,true,true,true,true,false,false,false,false,false,false] #[true,true,true,true,true,true,true,true,false,true,true,true,false,false,false,false,true,false] rfl rfl rfl rfl (two_of HT_.out (by kernel_rfl)) (by decide) (by decide) (fun K hK=>?_) (fun K hK=>?_)
          ·skip
           refine goes_ Try.func74 (by kernel_rfl) rfl #[.pointer (some ⟨g,0,none⟩),.agg #[.slice A1_0 l1_0.length c1_0],.int .i64 (wrap64 (1 + t407)),.int .i64 3] (by rfl) rfl rfl Ya ?_
           with_reducible refine (spec_l1Cur_term.calls k g s0_0 t408 t409 _ _ l1_0 (wrap64 (1 + t407)) 3 t410 t413 t414 w0 _ ?side1 ?side2 ?side3 ?side4 ?side5 A5.out).mono ?_
           (case side1=>exact iIsS60)
           (case side2=>exact bH)
           (case side3=>exact YF)
           (case side4=>exact Zh)
           (case side5=>exact hf1_0)
           rintro e w16 ⟨v411,rfl,ho0,hi,hb,hk⟩
           refine ⟨_,rfl,?_⟩
           replace BK402:=Aside0.mk (KeepBut.blk hk (g':=gb402) (o:=.cells #[.slice A1_0 l1_0.length c1_0] 26 (0,0)) (bB BK402) NB402_0.out (by simp));replace BK403:=Aside0.mk (KeepBut.blk hk (g':=gb403) (o:=.cells #[.bool false,.slice none 0 0,.slice none 0 0] 83 (0,0)) (bB BK403) NB403_0.out (by simp));have HO412:=Aside0.mk (Kd.R_lower ho0 (keep_size (w:=w) (g:=g) (row:=none) kB));replace HK:=Aside0.mk (KeepBut.trans kB hk (.inl rfl));replace HB:=Aside0.mk (hb);replace HI0:=Aside0.mk (hi)
           (try clear hb)
           (try clear hb2)
           (try clear hk)
           (try clear hi)
           (try clear ho0)
           refine hK.out _ _ ((blk_cell BK402.out 0).trans rfl) (fun hHeld=>?_)
           clear hK K
           refine nM (N:=some 14) ?_
           exact norm_ Yc (hJ1_6_8 (v411) _ ⟨hHeld,(rR HO412),(bB BK402),(bB BK403),iIsS60,kB,bH⟩)
          ·skip
           refine box_step ?hg (N:=5) ?hd (cs:=#[.bool false,.slice none 0 0,.slice none 0 0]) (t:=83) ?hr ?_;(case hd=>rfl);(case hg=>rfl);(case hr=>exact Yd)
           intro gb423 hg w16 hbox hb
           replace HB:=Aside0.mk (below_step bH hb);have BK423:=Aside0.mk (hbox);have GW423:=Aside0.mk ((by rw [hg];exact (keep_size (w:=w) (g:=g) (row:=none) kB):w.heap.size ≤ gb423));have GE423:=Aside0.mk ((Nat.le_trans HW0.out (by rw [hg];exact (keep_size (w:=w) (g:=g) (row:=none) kB):w.heap.size ≤ gb423):w0.heap.size ≤ gb423));replace HK:=Aside0.mk (KeepBut.trans kB (KeepBut.of_below hb g none) (.inl rfl));have NB402_423:=Aside0.mk ((nL BK402:gb402 ≠ gb423));have NB423_402:=Aside0.mk ((nG BK402:gb423 ≠ gb402));replace BK402:=Aside0.mk (blk_below (bB BK402) hb);have NB403_423:=Aside0.mk ((nL BK403:gb403 ≠ gb423));have NB423_403:=Aside0.mk ((nG BK403:gb423 ≠ gb403));replace BK403:=Aside0.mk (blk_below (bB BK403) hb);have NB0_423:=Aside0.mk ((by rw [hg];exact Nat.ne_of_lt (IsS60.lt (show IsS60 w0 _ g s0_0 t408 t409 from iIsS60)):g ≠ gb423));have NB423_0:=Aside0.mk ((by rw [hg];exact Nat.ne_of_gt (IsS60.lt (show IsS60 w0 _ g s0_0 t408 t409 from iIsS60)):gb423 ≠ g));replace HI0:=Aside0.mk (IsS60.below iIsS60 hb)
           clear hb hbox hg
           refine hK.out _ _ ((blk_cell BK402.out 0).trans rfl) (fun hHeld=>?_)
           clear hK K
           refine nM (N:=some 5) ?_
           exact norm_ Yc (hJ1_6_16 (gb423) _ ⟨hHeld,(bB BK402),(bB BK403),(bB BK423),GW423.out,GE423.out,NB0_423.out,NB423_0.out,NB402_423.out,NB423_402.out,NB403_423.out,NB423_403.out,iIsS60,kB,bH⟩)
        ·skip
         rintro gb423 w16 ⟨hS_,h0_,h1_,h2_,h3_,h4_,h5_,h6_,h7_,h8_,h9_,h10_,h11_,h12_,h13_⟩
         have n0_:Aside0 (w16.heap[gb402]? = some (.cells #[.slice A1_0 l1_0.length c1_0] 26 (0,0))):=⟨h0_⟩
         have n1_:Aside0 (w16.heap[gb403]? = some (.cells #[.bool false,.slice none 0 0,.slice none 0 0] 83 (0,0))):=⟨h1_⟩
         have n2_:Aside0 (w16.heap[gb423]? = some (.cells #[.bool false,.slice none 0 0,.slice none 0 0] 83 (0,0))):=⟨h2_⟩
         have n3_:Aside0 (w.heap.size ≤ gb423):=⟨h3_⟩
         have n4_:Aside0 (w0.heap.size ≤ gb423):=⟨h4_⟩
         have n5_:Aside0 (g ≠ gb423):=⟨h5_⟩
         have n6_:Aside0 (gb423 ≠ g):=⟨h6_⟩
         have n7_:Aside0 (gb402 ≠ gb423):=⟨h7_⟩
         have n8_:Aside0 (gb423 ≠ gb402):=⟨h8_⟩
         have n9_:Aside0 (gb403 ≠ gb423):=⟨h9_⟩
         have n10_:Aside0 (gb423 ≠ gb403):=⟨h10_⟩
         have n11_:Aside0 (IsS60 w0 w16 g s0_0 t408 t409):=⟨h11_⟩
         have n12_:Aside0 (KeepBut w w16 g none):=⟨h12_⟩
         have n13_:Aside0 (Below w0.heap.size w0 w16):=⟨h13_⟩
         clear BK402
         clear BK403
         clear HI0
         clear HK
         clear HB
         clear h0_ h1_ h2_ h3_ h4_ h5_ h6_ h7_ h8_ h9_ h10_ h11_ h12_ h13_
         have BK402:=n0_
         have BK403:=n1_
         have BK423:=n2_
         have GW423:=n3_
         have GE423:=n4_
         have NB0_423:=n5_
         have NB423_0:=n6_
         have NB402_423:=n7_
         have NB423_402:=n8_
         have NB403_423:=n9_
         have NB423_403:=n10_
         have HI0:=n11_
         have HK:=n12_
         have HB:=n13_
         clear n0_ n1_ n2_ n3_ n4_ n5_ n6_ n7_ n8_ n9_ n10_ n11_ n12_ n13_
         have hHeld:w16.cell? ⟨gb402,0,none⟩ = some (.slice A1_0 l1_0.length c1_0):=hS_
         refine norm_ (a':=?_) ?_ ?_
         rotate_left
         ·simp only [putAll,Act.put,List.setIfInBounds_toArray,List.set_cons_zero,List.set_cons_succ]
          rfl
         refine one_ (i:=8) (N:=some 14) #[true,true,true,true,true,true,true,true,true,true,true,true,false,false,false,false,true,false] rfl rfl (one_of HT_.out (by kernel_rfl)) (by decide) (fun K hK=>?_)
         refine goes_ Try.func74 (by kernel_rfl) rfl #[.pointer (some ⟨g,0,none⟩),.agg #[.slice A1_0 l1_0.length c1_0],.int .i64 (wrap64 (1 + t407)),.int .i64 3] (by rfl) rfl rfl Ya ?_
         with_reducible refine (spec_l1Cur_term.calls k g s0_0 t408 t409 _ _ l1_0 (wrap64 (1 + t407)) 3 t410 t413 t414 w0 _ ?side1 ?side2 ?side3 ?side4 ?side5 A5.out).mono ?_
         (case side1=>exact iIsS60)
         (case side2=>exact bH)
         (case side3=>exact YF)
         (case side4=>exact Zh)
         (case side5=>exact hf1_0)
         rintro e w17 ⟨v411,rfl,ho0,hi,hb,hk⟩
         refine ⟨_,rfl,?_⟩
         replace BK402:=Aside0.mk (KeepBut.blk hk (g':=gb402) (o:=.cells #[.slice A1_0 l1_0.length c1_0] 26 (0,0)) (bB BK402) NB402_0.out (by simp));replace BK403:=Aside0.mk (KeepBut.blk hk (g':=gb403) (o:=.cells #[.bool false,.slice none 0 0,.slice none 0 0] 83 (0,0)) (bB BK403) NB403_0.out (by simp));replace BK423:=Aside0.mk (KeepBut.blk hk (g':=gb423) (o:=.cells #[.bool false,.slice none 0 0,.slice none 0 0] 83 (0,0)) (bB BK423) NB423_0.out (by simp));have HO412:=Aside0.mk (Kd.R_lower ho0 (keep_size (w:=w) (g:=g) (row:=none) kB));replace HK:=Aside0.mk (KeepBut.trans kB hk (.inl rfl));replace HB:=Aside0.mk (hb);replace HI0:=Aside0.mk (hi)
         (try clear hb)
         (try clear hb2)
         (try clear hk)
         (try clear hi)
         (try clear ho0)
         refine hK.out _ _ ((blk_cell BK402.out 0).trans rfl) (fun hHeld=>?_)
         clear hK K
         refine nM (N:=some 14) ?_
         exact norm_ Yc (hJ1_6_8_16 (v411,gb423) _ ⟨hHeld,(rR HO412),(bB BK402),(bB BK403),(bB BK423),GW423.out,GE423.out,NB0_423.out,NB423_0.out,NB402_423.out,NB423_402.out,NB403_423.out,NB423_403.out,iIsS60,kB,bH⟩)
       ·skip
        rintro v411 w16 ⟨hS_,h0_,h1_,h2_,h3_,h4_,h5_⟩
        have n0_:Aside0 (Kd.R (Kd.int .i64) 3 w16 w.heap.size (fun _=>True) v411 t410):=⟨h0_⟩
        have n1_:Aside0 (w16.heap[gb402]? = some (.cells #[.slice A1_0 l1_0.length c1_0] 26 (0,0))):=⟨h1_⟩
        have n2_:Aside0 (w16.heap[gb403]? = some (.cells #[.bool false,.slice none 0 0,.slice none 0 0] 83 (0,0))):=⟨h2_⟩
        have n3_:Aside0 (IsS60 w0 w16 g s0_0 t413 t414):=⟨h3_⟩
        have n4_:Aside0 (KeepBut w w16 g none):=⟨h4_⟩
        have n5_:Aside0 (Below w0.heap.size w0 w16):=⟨h5_⟩
        clear BK402
        clear BK403
        clear HI0
        clear HK
        clear HB
        clear h0_ h1_ h2_ h3_ h4_ h5_
        have HO412:=n0_
        have BK402:=n1_
        have BK403:=n2_
        have HI0:=n3_
        have HK:=n4_
        have HB:=n5_
        clear n0_ n1_ n2_ n3_ n4_ n5_
        have hHeld:w16.cell? ⟨gb402,0,none⟩ = some (.slice A1_0 l1_0.length c1_0):=hS_
        refine norm_ (a':=?_) ?_ ?_
        rotate_left
        ·simp only [putAll,Act.put,List.setIfInBounds_toArray,List.set_cons_zero,List.set_cons_succ]
         rfl
        refine two_ (i:=12) (j:=16) (Ni:=some 18) (Nj:=some 5) #[true,true,true,true,true,true,true,true,true,true,true,true,true,false,false,false,false,false] #[true,true,true,true,true,true,true,true,true,true,true,true,false,false,false,false,true,false] rfl rfl rfl rfl (two_of HT_.out (by kernel_rfl)) (by decide) (by decide) (fun K hK=>?_) (fun K hK=>?_)
        ·skip
         refine goes_ Try.func73 (by kernel_rfl) rfl #[.pointer (some ⟨g,0,none⟩),.int .i64 2] (by rfl) rfl rfl Ya ?_
         with_reducible refine (spec_l1Cur_pick.calls g s0_0 t413 t414 2 t415 t416 t417 w0 _ ?side1 ?side2 A6.out).mono ?_
         (case side1=>exact iIsS60)
         (case side2=>exact bH)
         rintro e w17 ⟨rfl,hi,hb,hk⟩
         refine ⟨_,rfl,?_⟩
         replace BK402:=Aside0.mk (KeepBut.blk hk (g':=gb402) (o:=.cells #[.slice A1_0 l1_0.length c1_0] 26 (0,0)) (bB BK402) NB402_0.out (by simp));replace BK403:=Aside0.mk (KeepBut.blk hk (g':=gb403) (o:=.cells #[.bool false,.slice none 0 0,.slice none 0 0] 83 (0,0)) (bB BK403) NB403_0.out (by simp));replace HO412:=Aside0.mk (Kd.R_mono (Kd.R_keep (IsS60.apart (show IsS60 w0 _ g s0_0 t413 t414 from iIsS60) (rR HO412) (by decide)) hk (fun _ h=>h.2)) (fun _ h=>h.1));replace HK:=Aside0.mk (KeepBut.trans kB hk (.inl rfl));replace HB:=Aside0.mk (hb);replace HI0:=Aside0.mk (hi)
         (try clear hb)
         (try clear hb2)
         (try clear hk)
         (try clear hi)
         refine hK.out _ _ ((blk_cell BK402.out 0).trans rfl) (fun hHeld=>?_)
         clear hK K
         refine nM (N:=some 18) ?_
         refine pU (i:=13) (N:=some 19) #[true,true,true,true,true,true,true,true,true,true,true,true,true,true,false,false,false,false] (any_of HT_.out (by kernel_rfl)) ?_
         exact norm_ Yc (hJ1_6_8_12 (v411) _ ⟨hHeld,(rR HO412),(bB BK402),(bB BK403),iIsS60,kB,bH⟩)
        ·skip
         refine box_step ?hg (N:=5) ?hd (cs:=#[.bool false,.slice none 0 0,.slice none 0 0]) (t:=83) ?hr ?_;(case hd=>rfl);(case hg=>rfl);(case hr=>exact Yd)
         intro gb423 hg w17 hbox hb
         replace HO412:=Aside0.mk (Kd.R_below (rR HO412) hb);replace HB:=Aside0.mk (below_step bH hb);have BK423:=Aside0.mk (hbox);have GW423:=Aside0.mk ((by rw [hg];exact (keep_size (w:=w) (g:=g) (row:=none) kB):w.heap.size ≤ gb423));have GE423:=Aside0.mk ((Nat.le_trans HW0.out (by rw [hg];exact (keep_size (w:=w) (g:=g) (row:=none) kB):w.heap.size ≤ gb423):w0.heap.size ≤ gb423));replace HK:=Aside0.mk (KeepBut.trans kB (KeepBut.of_below hb g none) (.inl rfl));have NB402_423:=Aside0.mk ((nL BK402:gb402 ≠ gb423));have NB423_402:=Aside0.mk ((nG BK402:gb423 ≠ gb402));replace BK402:=Aside0.mk (blk_below (bB BK402) hb);have NB403_423:=Aside0.mk ((nL BK403:gb403 ≠ gb423));have NB423_403:=Aside0.mk ((nG BK403:gb423 ≠ gb403));replace BK403:=Aside0.mk (blk_below (bB BK403) hb);have NB0_423:=Aside0.mk ((by rw [hg];exact Nat.ne_of_lt (IsS60.lt (show IsS60 w0 _ g s0_0 t413 t414 from iIsS60)):g ≠ gb423));have NB423_0:=Aside0.mk ((by rw [hg];exact Nat.ne_of_gt (IsS60.lt (show IsS60 w0 _ g s0_0 t413 t414 from iIsS60)):gb423 ≠ g));replace HI0:=Aside0.mk (IsS60.below iIsS60 hb)
         clear hb hbox hg
         refine hK.out _ _ ((blk_cell BK402.out 0).trans rfl) (fun hHeld=>?_)
         clear hK K
         refine nM (N:=some 5) ?_
         exact norm_ Yc (hJ1_6_8_16 (v411,gb423) _ ⟨hHeld,(rR HO412),(bB BK402),(bB BK403),(bB BK423),GW423.out,GE423.out,NB0_423.out,NB423_0.out,NB402_423.out,NB423_402.out,NB403_423.out,NB423_403.out,iIsS60,kB,bH⟩)
      ·skip
       rintro ⟨v411,gb423⟩ w17 ⟨hS_,h0_,h1_,h2_,h3_,h4_,h5_,h6_,h7_,h8_,h9_,h10_,h11_,h12_,h13_,h14_⟩
       have n0_:Aside0 (Kd.R (Kd.int .i64) 3 w17 w.heap.size (fun _=>True) v411 t410):=⟨h0_⟩
       have n1_:Aside0 (w17.heap[gb402]? = some (.cells #[.slice A1_0 l1_0.length c1_0] 26 (0,0))):=⟨h1_⟩
       have n2_:Aside0 (w17.heap[gb403]? = some (.cells #[.bool false,.slice none 0 0,.slice none 0 0] 83 (0,0))):=⟨h2_⟩
       have n3_:Aside0 (w17.heap[gb423]? = some (.cells #[.bool false,.slice none 0 0,.slice none 0 0] 83 (0,0))):=⟨h3_⟩
       have n4_:Aside0 (w.heap.size ≤ gb423):=⟨h4_⟩
       have n5_:Aside0 (w0.heap.size ≤ gb423):=⟨h5_⟩
       have n6_:Aside0 (g ≠ gb423):=⟨h6_⟩
       have n7_:Aside0 (gb423 ≠ g):=⟨h7_⟩
       have n8_:Aside0 (gb402 ≠ gb423):=⟨h8_⟩
       have n9_:Aside0 (gb423 ≠ gb402):=⟨h9_⟩
       have n10_:Aside0 (gb403 ≠ gb423):=⟨h10_⟩
       have n11_:Aside0 (gb423 ≠ gb403):=⟨h11_⟩
       have n12_:Aside0 (IsS60 w0 w17 g s0_0 t413 t414):=⟨h12_⟩
       have n13_:Aside0 (KeepBut w w17 g none):=⟨h13_⟩
       have n14_:Aside0 (Below w0.heap.size w0 w17):=⟨h14_⟩
       clear BK402
       clear BK403
       clear HI0
       clear HK
       clear HB
       clear h0_ h1_ h2_ h3_ h4_ h5_ h6_ h7_ h8_ h9_ h10_ h11_ h12_ h13_ h14_
       have HO412:=n0_
       have BK402:=n1_
       have BK403:=n2_
       have BK423:=n3_
       have GW423:=n4_
       have GE423:=n5_
       have NB0_423:=n6_
       have NB423_0:=n7_
       have NB402_423:=n8_
       have NB423_402:=n9_
       have NB403_423:=n10_
       have NB423_403:=n11_
       have HI0:=n12_
       have HK:=n13_
       have HB:=n14_
       clear n0_ n1_ n2_ n3_ n4_ n5_ n6_ n7_ n8_ n9_ n10_ n11_ n12_ n13_ n14_
       have hHeld:w17.cell? ⟨gb402,0,none⟩ = some (.slice A1_0 l1_0.length c1_0):=hS_
       refine norm_ (a':=?_) ?_ ?_
       rotate_left
       ·simp only [putAll,Act.put,List.setIfInBounds_toArray,List.set_cons_zero,List.set_cons_succ]
        rfl
       refine one_ (i:=12) (N:=some 18) #[true,true,true,true,true,true,true,true,true,true,true,true,true,false,false,false,true,false] rfl rfl (one_of HT_.out (by kernel_rfl)) (by decide) (fun K hK=>?_)
       refine goes_ Try.func73 (by kernel_rfl) rfl #[.pointer (some ⟨g,0,none⟩),.int .i64 2] (by rfl) rfl rfl Ya ?_
       with_reducible refine (spec_l1Cur_pick.calls g s0_0 t413 t414 2 t415 t416 t417 w0 _ ?side1 ?side2 A6.out).mono ?_
       (case side1=>exact iIsS60)
       (case side2=>exact bH)
       rintro e w18 ⟨rfl,hi,hb,hk⟩
       refine ⟨_,rfl,?_⟩
       replace BK402:=Aside0.mk (KeepBut.blk hk (g':=gb402) (o:=.cells #[.slice A1_0 l1_0.length c1_0] 26 (0,0)) (bB BK402) NB402_0.out (by simp));replace BK403:=Aside0.mk (KeepBut.blk hk (g':=gb403) (o:=.cells #[.bool false,.slice none 0 0,.slice none 0 0] 83 (0,0)) (bB BK403) NB403_0.out (by simp));replace HO412:=Aside0.mk (Kd.R_mono (Kd.R_keep (IsS60.apart (show IsS60 w0 _ g s0_0 t413 t414 from iIsS60) (rR HO412) (by decide)) hk (fun _ h=>h.2)) (fun _ h=>h.1));replace BK423:=Aside0.mk (KeepBut.blk hk (g':=gb423) (o:=.cells #[.bool false,.slice none 0 0,.slice none 0 0] 83 (0,0)) (bB BK423) NB423_0.out (by simp));replace HK:=Aside0.mk (KeepBut.trans kB hk (.inl rfl));replace HB:=Aside0.mk (hb);replace HI0:=Aside0.mk (hi)
       (try clear hb)
       (try clear hb2)
       (try clear hk)
       (try clear hi)
       refine hK.out _ _ ((blk_cell BK402.out 0).trans rfl) (fun hHeld=>?_)
       clear hK K
       refine nM (N:=some 18) ?_
       refine pU (i:=13) (N:=some 19) #[true,true,true,true,true,true,true,true,true,true,true,true,true,true,false,false,true,false] (any_of HT_.out (by kernel_rfl)) ?_
       exact norm_ Yc (hJ1_6_8_12_16 (v411,gb423) _ ⟨hHeld,(rR HO412),(bB BK402),(bB BK403),(bB BK423),GW423.out,GE423.out,NB0_423.out,NB423_0.out,NB402_423.out,NB423_402.out,NB403_423.out,NB423_403.out,iIsS60,kB,bH⟩)
     ·skip
      rintro v411 w17 ⟨hS_,h0_,h1_,h2_,h3_,h4_,h5_⟩
      have n0_:Aside0 (Kd.R (Kd.int .i64) 3 w17 w.heap.size (fun _=>True) v411 t410):=⟨h0_⟩
      have n1_:Aside0 (w17.heap[gb402]? = some (.cells #[.slice A1_0 l1_0.length c1_0] 26 (0,0))):=⟨h1_⟩
      have n2_:Aside0 (w17.heap[gb403]? = some (.cells #[.bool false,.slice none 0 0,.slice none 0 0] 83 (0,0))):=⟨h2_⟩
      have n3_:Aside0 (IsS60 w0 w17 g s0_0 t416 t417):=⟨h3_⟩
      have n4_:Aside0 (KeepBut w w17 g none):=⟨h4_⟩
      have n5_:Aside0 (Below w0.heap.size w0 w17):=⟨h5_⟩
      clear BK402
      clear BK403
      clear HI0
      clear HK
      clear HB
      clear h0_ h1_ h2_ h3_ h4_ h5_
      have HO412:=n0_
      have BK402:=n1_
      have BK403:=n2_
      have HI0:=n3_
      have HK:=n4_
      have HB:=n5_
      clear n0_ n1_ n2_ n3_ n4_ n5_
      have hHeld:w17.cell? ⟨gb402,0,none⟩ = some (.slice A1_0 l1_0.length c1_0):=hS_
      refine norm_ (a':=?_) ?_ ?_
      rotate_left
      ·simp only [putAll,Act.put,List.setIfInBounds_toArray,List.set_cons_zero,List.set_cons_succ]
       rfl
      refine two_ (i:=14) (j:=16) (Ni:=some 20) (Nj:=some 5) #[true,true,true,true,true,true,true,true,true,true,true,true,true,true,true,false,false,false] #[true,true,true,true,true,true,true,true,true,true,true,true,true,true,false,false,true,false] rfl rfl rfl rfl (two_of HT_.out (by kernel_rfl)) (by decide) (by decide) (fun K hK=>?_) (fun K hK=>?_)
      ·skip
       refine goes_ Try.func74 (by kernel_rfl) rfl #[.pointer (some ⟨g,0,none⟩),.agg #[.slice A1_0 l1_0.length c1_0],.int .i64 (wrap64 (1 + t415)),.int .i64 3] (by rfl) rfl rfl Ya ?_
       with_reducible refine (spec_l1Cur_term.calls k g s0_0 t416 t417 _ _ l1_0 (wrap64 (1 + t415)) 3 t418 t421 t422 w0 _ ?side1 ?side2 ?side3 ?side4 ?side5 A7.out).mono ?_
       (case side1=>exact iIsS60)
       (case side2=>exact bH)
       (case side3=>exact YF)
       (case side4=>exact Zh)
       (case side5=>exact hf1_0)
       rintro e w18 ⟨v419,rfl,ho0,hi,hb,hk⟩
       refine ⟨_,rfl,?_⟩
       replace BK402:=Aside0.mk (KeepBut.blk hk (g':=gb402) (o:=.cells #[.slice A1_0 l1_0.length c1_0] 26 (0,0)) (bB BK402) NB402_0.out (by simp));replace BK403:=Aside0.mk (KeepBut.blk hk (g':=gb403) (o:=.cells #[.bool false,.slice none 0 0,.slice none 0 0] 83 (0,0)) (bB BK403) NB403_0.out (by simp));have HO420:=Aside0.mk (Kd.R_lower (Kd.R_new' ho0 (Kd.R_lt (rR HO412))) (keep_size (w:=w) (g:=g) (row:=none) kB));replace HO412:=Aside0.mk (Kd.R_mono (Kd.R_told (Kd.R_oldK (IsS60.apart (show IsS60 w0 _ g s0_0 t416 t417 from iIsS60) (rR HO412) (by decide)) hk) (Kd.R_base ho0)) (fun _ h_=>h_.1));replace HK:=Aside0.mk (KeepBut.trans kB hk (.inl rfl));replace HB:=Aside0.mk (hb);replace HI0:=Aside0.mk (hi)
       (try clear hb)
       (try clear hb2)
       (try clear hk)
       (try clear hi)
       (try clear ho0)
       obtain ⟨Ao19,co19,eo19⟩:=Kd.R_slice HO420.out
       (first|subst eo19|(injection eo19 with f1_ f2_ f3_;have f4_:=f1_.symm;have f5_:=f3_.symm;clear f1_ f2_ f3_;subst f4_;subst f5_))
       obtain ⟨Ao20,co20,eo20⟩:=Kd.R_slice HO412.out
       (first|subst eo20|(injection eo20 with f1_ f2_ f3_;have f4_:=f1_.symm;have f5_:=f3_.symm;clear f1_ f2_ f3_;subst f4_;subst f5_))
       refine hK.out _ _ ((blk_cell BK402.out 0).trans rfl) (fun hHeld=>?_)
       clear hK K
       refine nM (N:=some 20) ?_
       refine pU (i:=15) (N:=some 21) #[true,true,true,true,true,true,true,true,true,true,true,true,true,true,true,true,false,false] (any_of HT_.out (by kernel_rfl)) ?_
       exact norm_ Yc (hJ1_6_8_12_14 (.slice Ao20 t410.length co20,.slice Ao19 t418.length co19) _ ⟨hHeld,YM,YL,(bB BK402),(bB BK403),iIsS60,kB,bH⟩)
      ·skip
       refine box_step ?hg (N:=5) ?hd (cs:=#[.bool false,.slice none 0 0,.slice none 0 0]) (t:=83) ?hr ?_;(case hd=>rfl);(case hg=>rfl);(case hr=>exact Yd)
       intro gb423 hg w18 hbox hb
       replace HO412:=Aside0.mk (Kd.R_below (rR HO412) hb);replace HB:=Aside0.mk (below_step bH hb);have BK423:=Aside0.mk (hbox);have GW423:=Aside0.mk ((by rw [hg];exact (keep_size (w:=w) (g:=g) (row:=none) kB):w.heap.size ≤ gb423));have GE423:=Aside0.mk ((Nat.le_trans HW0.out (by rw [hg];exact (keep_size (w:=w) (g:=g) (row:=none) kB):w.heap.size ≤ gb423):w0.heap.size ≤ gb423));replace HK:=Aside0.mk (KeepBut.trans kB (KeepBut.of_below hb g none) (.inl rfl));have NB402_423:=Aside0.mk ((nL BK402:gb402 ≠ gb423));have NB423_402:=Aside0.mk ((nG BK402:gb423 ≠ gb402));replace BK402:=Aside0.mk (blk_below (bB BK402) hb);have NB403_423:=Aside0.mk ((nL BK403:gb403 ≠ gb423));have NB423_403:=Aside0.mk ((nG BK403:gb423 ≠ gb403));replace BK403:=Aside0.mk (blk_below (bB BK403) hb);have NB0_423:=Aside0.mk ((by rw [hg];exact Nat.ne_of_lt (IsS60.lt (show IsS60 w0 _ g s0_0 t416 t417 from iIsS60)):g ≠ gb423));have NB423_0:=Aside0.mk ((by rw [hg];exact Nat.ne_of_gt (IsS60.lt (show IsS60 w0 _ g s0_0 t416 t417 from iIsS60)):gb423 ≠ g));replace HI0:=Aside0.mk (IsS60.below iIsS60 hb)
       clear hb hbox hg
       refine hK.out _ _ ((blk_cell BK402.out 0).trans rfl) (fun hHeld=>?_)
       clear hK K
       refine nM (N:=some 5) ?_
       exact norm_ Yc (hJ1_6_8_12_16 (v411,gb423) _ ⟨hHeld,(rR HO412),(bB BK402),(bB BK403),(bB BK423),GW423.out,GE423.out,NB0_423.out,NB423_0.out,NB402_423.out,NB423_402.out,NB403_423.out,NB423_403.out,iIsS60,kB,bH⟩)
    ·skip
     rintro ⟨v411,gb423⟩ w18 ⟨hS_,h0_,h1_,h2_,h3_,h4_,h5_,h6_,h7_,h8_,h9_,h10_,h11_,h12_,h13_,h14_⟩
     have n0_:Aside0 (Kd.R (Kd.int .i64) 3 w18 w.heap.size (fun _=>True) v411 t410):=⟨h0_⟩
     have n1_:Aside0 (w18.heap[gb402]? = some (.cells #[.slice A1_0 l1_0.length c1_0] 26 (0,0))):=⟨h1_⟩
     have n2_:Aside0 (w18.heap[gb403]? = some (.cells #[.bool false,.slice none 0 0,.slice none 0 0] 83 (0,0))):=⟨h2_⟩
     have n3_:Aside0 (w18.heap[gb423]? = some (.cells #[.bool false,.slice none 0 0,.slice none 0 0] 83 (0,0))):=⟨h3_⟩
     have n4_:Aside0 (w.heap.size ≤ gb423):=⟨h4_⟩
     have n5_:Aside0 (w0.heap.size ≤ gb423):=⟨h5_⟩
     have n6_:Aside0 (g ≠ gb423):=⟨h6_⟩
     have n7_:Aside0 (gb423 ≠ g):=⟨h7_⟩
     have n8_:Aside0 (gb402 ≠ gb423):=⟨h8_⟩
     have n9_:Aside0 (gb423 ≠ gb402):=⟨h9_⟩
     have n10_:Aside0 (gb403 ≠ gb423):=⟨h10_⟩
     have n11_:Aside0 (gb423 ≠ gb403):=⟨h11_⟩
     have n12_:Aside0 (IsS60 w0 w18 g s0_0 t416 t417):=⟨h12_⟩
     have n13_:Aside0 (KeepBut w w18 g none):=⟨h13_⟩
     have n14_:Aside0 (Below w0.heap.size w0 w18):=⟨h14_⟩
     clear BK402
     clear BK403
     clear HI0
     clear HK
     clear HB
     clear h0_ h1_ h2_ h3_ h4_ h5_ h6_ h7_ h8_ h9_ h10_ h11_ h12_ h13_ h14_
     have HO412:=n0_
     have BK402:=n1_
     have BK403:=n2_
     have BK423:=n3_
     have GW423:=n4_
     have GE423:=n5_
     have NB0_423:=n6_
     have NB423_0:=n7_
     have NB402_423:=n8_
     have NB423_402:=n9_
     have NB403_423:=n10_
     have NB423_403:=n11_
     have HI0:=n12_
     have HK:=n13_
     have HB:=n14_
     clear n0_ n1_ n2_ n3_ n4_ n5_ n6_ n7_ n8_ n9_ n10_ n11_ n12_ n13_ n14_
     have hHeld:w18.cell? ⟨gb402,0,none⟩ = some (.slice A1_0 l1_0.length c1_0):=hS_
     refine norm_ (a':=?_) ?_ ?_
     rotate_left
     ·simp only [putAll,Act.put,List.setIfInBounds_toArray,List.set_cons_zero,List.set_cons_succ]
      rfl
     refine one_ (i:=14) (N:=some 20) #[true,true,true,true,true,true,true,true,true,true,true,true,true,true,true,false,true,false] rfl rfl (one_of HT_.out (by kernel_rfl)) (by decide) (fun K hK=>?_)
     refine goes_ Try.func74 (by kernel_rfl) rfl #[.pointer (some ⟨g,0,none⟩),.agg #[.slice A1_0 l1_0.length c1_0],.int .i64 (wrap64 (1 + t415)),.int .i64 3] (by rfl) rfl rfl Ya ?_
     with_reducible refine (spec_l1Cur_term.calls k g s0_0 t416 t417 _ _ l1_0 (wrap64 (1 + t415)) 3 t418 t421 t422 w0 _ ?side1 ?side2 ?side3 ?side4 ?side5 A7.out).mono ?_
     (case side1=>exact iIsS60)
     (case side2=>exact bH)
     (case side3=>exact YF)
     (case side4=>exact Zh)
     (case side5=>exact hf1_0)
     rintro e w19 ⟨v419,rfl,ho0,hi,hb,hk⟩
     refine ⟨_,rfl,?_⟩
     replace BK402:=Aside0.mk (KeepBut.blk hk (g':=gb402) (o:=.cells #[.slice A1_0 l1_0.length c1_0] 26 (0,0)) (bB BK402) NB402_0.out (by simp));replace BK403:=Aside0.mk (KeepBut.blk hk (g':=gb403) (o:=.cells #[.bool false,.slice none 0 0,.slice none 0 0] 83 (0,0)) (bB BK403) NB403_0.out (by simp));replace BK423:=Aside0.mk (KeepBut.blk hk (g':=gb423) (o:=.cells #[.bool false,.slice none 0 0,.slice none 0 0] 83 (0,0)) (bB BK423) NB423_0.out (by simp));have HO420:=Aside0.mk (Kd.R_lower (Kd.R_new' ho0 (Kd.R_lt (rR HO412))) (keep_size (w:=w) (g:=g) (row:=none) kB));replace HO412:=Aside0.mk (Kd.R_mono (Kd.R_told (Kd.R_oldK (IsS60.apart (show IsS60 w0 _ g s0_0 t416 t417 from iIsS60) (rR HO412) (by decide)) hk) (Kd.R_base ho0)) (fun _ h_=>h_.1));replace HK:=Aside0.mk (KeepBut.trans kB hk (.inl rfl));replace HB:=Aside0.mk (hb);replace HI0:=Aside0.mk (hi)
     (try clear hb)
     (try clear hb2)
     (try clear hk)
     (try clear hi)
     (try clear ho0)
     obtain ⟨Ao20,co20,eo20⟩:=Kd.R_slice HO420.out
     (first|subst eo20|(injection eo20 with f1_ f2_ f3_;have f4_:=f1_.symm;have f5_:=f3_.symm;clear f1_ f2_ f3_;subst f4_;subst f5_))
     obtain ⟨Ao21,co21,eo21⟩:=Kd.R_slice HO412.out
     (first|subst eo21|(injection eo21 with f1_ f2_ f3_;have f4_:=f1_.symm;have f5_:=f3_.symm;clear f1_ f2_ f3_;subst f4_;subst f5_))
     refine hK.out _ _ ((blk_cell BK402.out 0).trans rfl) (fun hHeld=>?_)
     clear hK K
     refine nM (N:=some 20) ?_
     refine pU (i:=15) (N:=some 21) #[true,true,true,true,true,true,true,true,true,true,true,true,true,true,true,true,true,false] (any_of HT_.out (by kernel_rfl)) ?_
     exact norm_ Yc (hJ1_6_8_12_14_16 (.slice Ao21 t410.length co21,.slice Ao20 t418.length co20,gb423) _ ⟨hHeld,YM,YL,(bB BK402),(bB BK403),(bB BK423),GW423.out,GE423.out,NB0_423.out,NB423_0.out,NB402_423.out,NB423_402.out,NB403_423.out,NB423_403.out,iIsS60,kB,bH⟩)
   ·skip
    rintro ⟨v411,v419⟩ w20 ⟨hS_,h0_,h1_,h2_,h3_,h4_,h5_,h6_⟩
    have n0_:Aside0 (Kd.R (Kd.int .i64) 3 w20 w.heap.size (fun k_=>some k_ ≠ (v419:Value).ownBlock) v411 t410):=⟨h0_⟩
    have n1_:Aside0 (Kd.R (Kd.int .i64) 3 w20 w.heap.size (fun k_=>some k_ ≠ (v411:Value).ownBlock) v419 t418):=⟨h1_⟩
    have n2_:Aside0 (w20.heap[gb402]? = some (.cells #[.slice A1_0 l1_0.length c1_0] 26 (0,0))):=⟨h2_⟩
    have n3_:Aside0 (w20.heap[gb403]? = some (.cells #[.bool false,.slice none 0 0,.slice none 0 0] 83 (0,0))):=⟨h3_⟩
    have n4_:Aside0 (IsS60 w0 w20 g s0_0 t421 t422):=⟨h4_⟩
    have n5_:Aside0 (KeepBut w w20 g none):=⟨h5_⟩
    have n6_:Aside0 (Below w0.heap.size w0 w20):=⟨h6_⟩
    clear BK402
    clear BK403
    clear HI0
    clear HK
    clear HB
    clear h0_ h1_ h2_ h3_ h4_ h5_ h6_
    have HO412:=n0_
    have HO420:=n1_
    have BK402:=n2_
    have BK403:=n3_
    have HI0:=n4_
    have HK:=n5_
    have HB:=n6_
    clear n0_ n1_ n2_ n3_ n4_ n5_ n6_
    have hHeld:w20.cell? ⟨gb402,0,none⟩ = some (.slice A1_0 l1_0.length c1_0):=hS_
    obtain ⟨Ao21,co21,eo21⟩:=Kd.R_slice HO420.out
    (first|subst eo21|(injection eo21 with f1_ f2_ f3_;have f4_:=f1_.symm;have f5_:=f3_.symm;clear f1_ f2_ f3_;subst f4_;subst f5_))
    obtain ⟨Ao22,co22,eo22⟩:=Kd.R_slice HO412.out
    (first|subst eo22|(injection eo22 with f1_ f2_ f3_;have f4_:=f1_.symm;have f5_:=f3_.symm;clear f1_ f2_ f3_;subst f4_;subst f5_))
    refine norm_ (a':=?_) ?_ ?_
    rotate_left
    ·simp only [putAll,Act.put,List.setIfInBounds_toArray,List.set_cons_zero,List.set_cons_succ]
     rfl
    refine one_ (i:=16) (N:=some 5) #[true,true,true,true,true,true,true,true,true,true,true,true,true,true,true,true,true,false] rfl rfl (one_of HT_.out (by kernel_rfl)) (by decide) (fun K hK=>?_)
    refine box_step ?hg (N:=5) ?hd (cs:=#[.bool false,.slice none 0 0,.slice none 0 0]) (t:=83) ?hr ?_;(case hd=>rfl);(case hg=>rfl);(case hr=>exact Yd)
    intro gb423 hg w23 hbox hb
    replace HO412:=Aside0.mk (Kd.R_below (rR HO412) hb);replace HO420:=Aside0.mk (Kd.R_below (rR HO420) hb);replace HB:=Aside0.mk (below_step bH hb);have BK423:=Aside0.mk (hbox);have GW423:=Aside0.mk ((by rw [hg];exact (keep_size (w:=w) (g:=g) (row:=none) kB):w.heap.size ≤ gb423));have GE423:=Aside0.mk ((Nat.le_trans HW0.out (by rw [hg];exact (keep_size (w:=w) (g:=g) (row:=none) kB):w.heap.size ≤ gb423):w0.heap.size ≤ gb423));replace HK:=Aside0.mk (KeepBut.trans kB (KeepBut.of_below hb g none) (.inl rfl));have NB402_423:=Aside0.mk ((nL BK402:gb402 ≠ gb423));have NB423_402:=Aside0.mk ((nG BK402:gb423 ≠ gb402));replace BK402:=Aside0.mk (blk_below (bB BK402) hb);have NB403_423:=Aside0.mk ((nL BK403:gb403 ≠ gb423));have NB423_403:=Aside0.mk ((nG BK403:gb423 ≠ gb403));replace BK403:=Aside0.mk (blk_below (bB BK403) hb);have NB0_423:=Aside0.mk ((by rw [hg];exact Nat.ne_of_lt (IsS60.lt (show IsS60 w0 _ g s0_0 t421 t422 from iIsS60)):g ≠ gb423));have NB423_0:=Aside0.mk ((by rw [hg];exact Nat.ne_of_gt (IsS60.lt (show IsS60 w0 _ g s0_0 t421 t422 from iIsS60)):gb423 ≠ g));replace HI0:=Aside0.mk (IsS60.below iIsS60 hb)
    clear hb hbox hg
    refine hK.out _ _ ((blk_cell BK402.out 0).trans rfl) (fun hHeld=>?_)
    clear hK K
    refine nM (N:=some 5) ?_
    exact norm_ Yc (hJ1_6_8_12_14_16 (.slice Ao22 t410.length co22,.slice Ao21 t418.length co21,gb423) _ ⟨hHeld,(rR HO412),(rR HO420),(bB BK402),(bB BK403),(bB BK423),GW423.out,GE423.out,NB0_423.out,NB423_0.out,NB402_423.out,NB423_402.out,NB403_423.out,NB423_403.out,iIsS60,kB,bH⟩)
  rintro ⟨v411,v419,gb423⟩ w21 ⟨hS_,h0_,h1_,h2_,h3_,h4_,h5_,h6_,h7_,h8_,h9_,h10_,h11_,h12_,h13_,h14_,h15_⟩
  have n0_:Aside0 (Kd.R (Kd.int .i64) 3 w21 w.heap.size (fun k_=>some k_ ≠ (v419:Value).ownBlock) v411 t410):=⟨h0_⟩
  have n1_:Aside0 (Kd.R (Kd.int .i64) 3 w21 w.heap.size (fun k_=>some k_ ≠ (v411:Value).ownBlock) v419 t418):=⟨h1_⟩
  have n2_:Aside0 (w21.heap[gb402]? = some (.cells #[.slice A1_0 l1_0.length c1_0] 26 (0,0))):=⟨h2_⟩
  have n3_:Aside0 (w21.heap[gb403]? = some (.cells #[.bool false,.slice none 0 0,.slice none 0 0] 83 (0,0))):=⟨h3_⟩
  have n4_:Aside0 (w21.heap[gb423]? = some (.cells #[.bool false,.slice none 0 0,.slice none 0 0] 83 (0,0))):=⟨h4_⟩
  have n5_:Aside0 (w.heap.size ≤ gb423):=⟨h5_⟩
  have n6_:Aside0 (w0.heap.size ≤ gb423):=⟨h6_⟩
  have n7_:Aside0 (g ≠ gb423):=⟨h7_⟩
  have n8_:Aside0 (gb423 ≠ g):=⟨h8_⟩
  have n9_:Aside0 (gb402 ≠ gb423):=⟨h9_⟩
  have n10_:Aside0 (gb423 ≠ gb402):=⟨h10_⟩
  have n11_:Aside0 (gb403 ≠ gb423):=⟨h11_⟩
  have n12_:Aside0 (gb423 ≠ gb403):=⟨h12_⟩
  have n13_:Aside0 (IsS60 w0 w21 g s0_0 t421 t422):=⟨h13_⟩
  have n14_:Aside0 (KeepBut w w21 g none):=⟨h14_⟩
  have n15_:Aside0 (Below w0.heap.size w0 w21):=⟨h15_⟩
  clear BK402
  clear BK403
  clear HI0
  clear HK
  clear HB
  clear h0_ h1_ h2_ h3_ h4_ h5_ h6_ h7_ h8_ h9_ h10_ h11_ h12_ h13_ h14_ h15_
  have HO412:=n0_
  have HO420:=n1_
  have BK402:=n2_
  have BK403:=n3_
  have BK423:=n4_
  have GW423:=n5_
  have GE423:=n6_
  have NB0_423:=n7_
  have NB423_0:=n8_
  have NB402_423:=n9_
  have NB423_402:=n10_
  have NB403_423:=n11_
  have NB423_403:=n12_
  have HI0:=n13_
  have HK:=n14_
  have HB:=n15_
  clear n0_ n1_ n2_ n3_ n4_ n5_ n6_ n7_ n8_ n9_ n10_ n11_ n12_ n13_ n14_ n15_
  have hHeld:w21.cell? ⟨gb402,0,none⟩ = some (.slice A1_0 l1_0.length c1_0):=hS_
  obtain ⟨Ao22,co22,eo22⟩:=Kd.R_slice HO420.out
  (first|subst eo22|(injection eo22 with f1_ f2_ f3_;have f4_:=f1_.symm;have f5_:=f3_.symm;clear f1_ f2_ f3_;subst f4_;subst f5_))
  obtain ⟨Ao23,co23,eo23⟩:=Kd.R_slice HO412.out
  (first|subst eo23|(injection eo23 with f1_ f2_ f3_;have f4_:=f1_.symm;have f5_:=f3_.symm;clear f1_ f2_ f3_;subst f4_;subst f5_))
  refine norm_ (a':=?_) ?_ ?_
  rotate_left
  ·simp only [putAll,Act.put,List.setIfInBounds_toArray,List.set_cons_zero,List.set_cons_succ]
   rfl
  refine one_ (i:=17) (N:=none) #[true,true,true,true,true,true,true,true,true,true,true,true,true,true,true,true,true,true] rfl rfl (one_of HT_.out (by kernel_rfl)) (by decide) (fun K hK=>?_)
  have hs24:w21.cell? ⟨gb423,0,none⟩ = some (.bool false):=(blk_cell BK423.out 0).trans rfl
  have hfs24:=blk_frozen BK423.out 0
  have hns24_0:=NB402_423.out
  have hns24_1:=NB403_423.out
  have hms24_0:=NB423_402.out
  have hms24_1:=NB423_403.out
  have hs25:w21.cell? ⟨gb423,1,none⟩ = some (.slice none 0 0):=(blk_cell BK423.out 1).trans rfl
  have hfs25:=blk_frozen BK423.out 1
  have hns25_0:=NB402_423.out
  have hns25_1:=NB403_423.out
  have hms25_0:=NB423_402.out
  have hms25_1:=NB423_403.out
  have hs26:w21.cell? ⟨gb423,2,none⟩ = some (.slice none 0 0):=(blk_cell BK423.out 2).trans rfl
  have hfs26:=blk_frozen BK423.out 2
  have hns26_0:=NB402_423.out
  have hns26_1:=NB403_423.out
  have hms26_0:=NB423_402.out
  have hms26_1:=NB423_403.out
  refine skip_ (w1:=?_) (by rfl) rfl ?_ ?_
  rotate_left
  ·go_simp
   rfl
  refine hK.out _ _ (((cell_far (p:=⟨gb423,_,none⟩) NB402_423.out _).trans (((cell_far (p:=⟨gb423,_,none⟩) NB402_423.out _).trans (((cell_far (p:=⟨gb423,_,none⟩) NB402_423.out _).trans (hHeld))))))) (fun hHeld=>?_)
  clear hK K
  refine done_ (done_of HT_.out (by kernel_rfl)) ?_
  try go_wp2_with (first|((with_reducible refine gate_callee (f:=75) rfl ?_);refine goesL_ (some 23) rfl rfl Try.func75 (by kernel_rfl) rfl #[.pointer (some ⟨g,0,none⟩),.int .i64 3] rfl Ya ?_;(with_reducible refine (spec_l1Cur_one.calls g s0_0 t421 t422 3 true t425 t426 w0 _ ?side1 ?side2 A8.out).mono ?_);(case side1=>exact iIsS60);(case side2=>exact bH);rintro e w27 ⟨rfl,hi,hb,hk⟩;refine ⟨_,rfl,?_⟩;replace BK402:=Aside0.mk (KeepBut.blk hk (g':=gb402) (o:=.cells #[.slice A1_0 l1_0.length c1_0] 26 (0,0)) YA NB402_0.out (by simp));replace BK403:=Aside0.mk (KeepBut.blk hk (g':=gb403) (o:=.cells #[.bool false,.slice none 0 0,.slice none 0 0] 83 (0,0)) Yz NB403_0.out (by simp));replace HO412:=Aside0.mk (Kd.R_mono (Kd.R_keep (IsS60.apart (show IsS60 w0 _ g s0_0 t421 t422 from iIsS60) (by (with_reducible repeat (first|apply Kd.R_alloc|apply Kd.R_drewN|apply Kd.R_drew));exact (Kd.R_mono (Kd.R_far (p:=⟨gb423,2,none⟩) (Kd.R_far (p:=⟨gb423,1,none⟩) (Kd.R_far (p:=⟨gb423,0,none⟩) (Kd.R_types HO412.out BK423.out (by decide)) (fun _ hk=>hk.2) (.bool (!t404))) (fun _ hk=>hk.2) (.slice Ao23 t410.length co23)) (fun _ hk=>hk.2) (.slice Ao22 t418.length co22)) (fun _ h_=>h_.1))) (by decide)) hk (fun _ h=>h.2)) (fun _ h=>h.1));replace HO420:=Aside0.mk (Kd.R_mono (Kd.R_keep (IsS60.apart (show IsS60 w0 _ g s0_0 t421 t422 from iIsS60) (by (with_reducible repeat (first|apply Kd.R_alloc|apply Kd.R_drewN|apply Kd.R_drew));exact (Kd.R_mono (Kd.R_far (p:=⟨gb423,2,none⟩) (Kd.R_far (p:=⟨gb423,1,none⟩) (Kd.R_far (p:=⟨gb423,0,none⟩) (Kd.R_types HO420.out BK423.out (by decide)) (fun _ hk=>hk.2) (.bool (!t404))) (fun _ hk=>hk.2) (.slice Ao23 t410.length co23)) (fun _ hk=>hk.2) (.slice Ao22 t418.length co22)) (fun _ h_=>h_.1))) (by decide)) hk (fun _ h=>h.2)) (fun _ h=>h.1));replace BK423:=Aside0.mk (KeepBut.blk hk (g':=gb423) (o:=.cells #[.bool (!t404),.slice Ao23 t410.length co23,.slice Ao22 t418.length co22] 83 (0,0)) (by (with_reducible repeat (first|refine blk_drewN ?_ _|refine blk_drew ?_|refine blk_alloc ?_ _));refine blk_put (cs:=#[.bool (!t404),.slice Ao23 t410.length co23,.slice none 0 0]) ?_ 2 _ rfl;(with_reducible repeat (first|refine blk_drewN ?_ _|refine blk_drew ?_|refine blk_alloc ?_ _));refine blk_put (cs:=#[.bool (!t404),.slice none 0 0,.slice none 0 0]) ?_ 1 _ rfl;(with_reducible repeat (first|refine blk_drewN ?_ _|refine blk_drew ?_|refine blk_alloc ?_ _));refine blk_put (cs:=#[.bool false,.slice none 0 0,.slice none 0 0]) ?_ 0 _ rfl;(with_reducible repeat (first|refine blk_drewN ?_ _|refine blk_drew ?_|refine blk_alloc ?_ _));exact BK423.out) NB423_0.out (by simp));replace HK:=Aside0.mk (KeepBut.trans kB hk (.inl rfl));replace HB:=Aside0.mk (hb);replace HI0:=Aside0.mk (hi);(try clear hb);(try clear hb2);(try clear hk);(try clear hi))|((with_reducible refine gate_dst (N:=24) rfl ?_);refine Kd.R_lit (Kd.int .i64) _ 3 ?hg (N:=24) ?hd (xs:=([0]:List Int)) (inner:=[.int .i64 0]) (ok:=fun _=>True) (okp:=fun _=>True) ?hr ?hp (fun _ hk=>hk) trivial (Below.refl _ _) (Nat.le_refl _) (by simp) ?_;(case hd=>rfl);(case hg=>rfl);(case hr=>exact Yd);(case hp=>exact YZ);intro v428 w28 ho29 hb hg_ hnew_;clear hg_ hnew_;(first|rw [← Ny427.out] at ho29|(simp only [Int.reduceToNat] at ho29;rw [← Ny427.out] at ho29));have HO429:=Aside0.mk (Kd.R_lower (Kd.R_new' (Kd.R_new' ho29 (Kd.R_lt (rR HO412))) (Kd.R_lt (rR HO420))) (keep_size (w:=w) (g:=g) (row:=none) kB));replace HO412:=Aside0.mk (Kd.R_elder' (rR HO412) (Kd.R_base ho29) hb);replace HO420:=Aside0.mk (Kd.R_elder' (rR HO420) (Kd.R_base ho29) hb);replace BK402:=Aside0.mk (blk_below (bB BK402) hb);replace BK403:=Aside0.mk (blk_below (bB BK403) hb);replace BK423:=Aside0.mk (blk_below (bB BK423) hb);replace HK:=Aside0.mk (KeepBut.trans kB (KeepBut.of_below hb g none) (.inl rfl));replace HB:=Aside0.mk (below_step bH hb);replace HI0:=Aside0.mk (IsS60.below iIsS60 hb);clear hb ho29;obtain ⟨Ao30,co30,eo30⟩:=Kd.R_slice HO429.out;subst eo30;have hnb31:=NB423_402.out;have hnc31:=NB402_423.out;have hnb32:=NB423_403.out;have hnc32:=NB403_423.out;have hnb33:=NB423_0.out;have hnc33:=NB0_423.out;have hcz34_0:w28.cell? ⟨gb423,0,none⟩ = some (.bool (!t404)):=(blk_cell BK423.out 0).trans rfl;have hcz34_1:w28.cell? ⟨gb423,1,none⟩ = some (.slice Ao23 t410.length co23):=(blk_cell BK423.out 1).trans rfl;have hcz34_2:w28.cell? ⟨gb423,2,none⟩ = some (.slice Ao22 t418.length co22):=(blk_cell BK423.out 2).trans rfl;have hfz34_0:=blk_frozen BK423.out 0;have hfz34_1:=blk_frozen BK423.out 1;have hfz34_2:=blk_frozen BK423.out 2;have hnb35:=NB403_402.out;have hnc35:=NB402_403.out;have hnb36:=NB403_0.out;have hnc36:=NB0_403.out;have hcz37_0:w28.cell? ⟨gb403,0,none⟩ = some (.bool false):=(blk_cell BK403.out 0).trans rfl;have hcz37_1:w28.cell? ⟨gb403,1,none⟩ = some (.slice none 0 0):=(blk_cell BK403.out 1).trans rfl;have hcz37_2:w28.cell? ⟨gb403,2,none⟩ = some (.slice none 0 0):=(blk_cell BK403.out 2).trans rfl;have hfz37_0:=blk_frozen BK403.out 0;have hfz37_1:=blk_frozen BK403.out 1;have hfz37_2:=blk_frozen BK403.out 2))
  refine bodyPost_ret (results_cell_row rfl _ _ gb403 83 #[.bool (!t404),.slice Ao23 t410.length co23,.slice Ao30 y427.length co30] (0,0) _ rfl (by (with_reducible repeat (first|refine blk_drewN ?_ _|refine blk_drew ?_|refine blk_alloc ?_ _));refine blk_put (cs:=#[.bool (!t404),.slice Ao23 t410.length co23,.slice none 0 0]) ?_ 2 _ rfl;(with_reducible repeat (first|refine blk_drewN ?_ _|refine blk_drew ?_|refine blk_alloc ?_ _));refine blk_put (cs:=#[.bool (!t404),.slice none 0 0,.slice none 0 0]) ?_ 1 _ rfl;(with_reducible repeat (first|refine blk_drewN ?_ _|refine blk_drew ?_|refine blk_alloc ?_ _));refine blk_put (cs:=#[.bool false,.slice none 0 0,.slice none 0 0]) ?_ 0 _ rfl;(with_reducible repeat (first|refine blk_drewN ?_ _|refine blk_drew ?_|refine blk_alloc ?_ _));refine blk_far ?_ NB403_423.out _;(with_reducible repeat (first|refine blk_drewN ?_ _|refine blk_drew ?_|refine blk_alloc ?_ _));exact BK403.out) Try.underlying83 rfl (by kernel_rfl)) rfl ?_
  exact ⟨_,_,Yb,by (with_reducible repeat (first|apply Kd.R_alloc|apply Kd.R_drewN|apply Kd.R_drew));exact Kd.R_mono (Kd.R_far (p:=⟨gb403,2,none⟩) (Kd.R_far (p:=⟨gb403,1,none⟩) (Kd.R_far (p:=⟨gb403,0,none⟩) (Kd.R_far (p:=⟨gb423,2,none⟩) (Kd.R_types (Kd.R_types HO412.out BK423.out (by decide)) BK403.out (by decide)) (fun _ hk=>hk.1.2) (.slice Ao30 y427.length co30)) (fun _ hk=>hk.2) (.bool (!t404))) (fun _ hk=>hk.2) (.slice Ao23 t410.length co23)) (fun _ hk=>hk.2) (.slice Ao30 y427.length co30)) (fun _ hk=>hk.1.1.2),by (with_reducible repeat (first|apply Kd.R_alloc|apply Kd.R_drewN|apply Kd.R_drew));exact Kd.R_mono (Kd.R_far (p:=⟨gb403,2,none⟩) (Kd.R_far (p:=⟨gb403,1,none⟩) (Kd.R_far (p:=⟨gb403,0,none⟩) (Kd.R_far (p:=⟨gb423,2,none⟩) (Kd.R_types (Kd.R_types HO429.out BK423.out (by decide)) BK403.out (by decide)) (fun _ hk=>hk.1.2) (.slice Ao30 y427.length co30)) (fun _ hk=>hk.2) (.bool (!t404))) (fun _ hk=>hk.2) (.slice Ao23 t410.length co23)) (fun _ hk=>hk.2) (.slice Ao30 y427.length co30)) (fun _ hk=>hk.1.1.1.2),iIsS60,bH,kB⟩
 ·replace c9:=Bool.eq_false_iff.mpr c9
  subst c9
  have H1:(some (!t404,t410,t418,t425,t426)) = some (r1,r2,r3,r4,r5):=by rw [if_neg (show ¬ (false = true) by decide)] at H;exact H
  clear H
  have H:=H1
  clear H1
  simp only [Option.some.injEq,Prod.mk.injEq] at H
  obtain ⟨rfl,rfl,rfl,rfl,rfl⟩:=H
  go_enter Try.func87,Try.ntmps87
  try go_wp2_with (first|((with_reducible refine gate_dst (N:=3) rfl ?_);refine box_event ?hg (N:=3) ?hd (cs:=#[.slice A1_0 l1_0.length c1_0]) (t:=26) ?hr ?_;(case hd=>rfl);(case hg=>rfl);(case hr=>exact Yd);intro gb402 hg w38 hbox hb;replace HB:=Aside0.mk (below_step bH hb);have BK402:=Aside0.mk (hbox);have GW402:=Aside0.mk ((by rw [hg];exact (keep_size (w:=w) (g:=g) (row:=none) kB):w.heap.size ≤ gb402));have GE402:=Aside0.mk ((Nat.le_trans HW0.out (by rw [hg];exact (keep_size (w:=w) (g:=g) (row:=none) kB):w.heap.size ≤ gb402):w0.heap.size ≤ gb402));replace HK:=Aside0.mk (KeepBut.trans kB (KeepBut.of_below hb g none) (.inl rfl));have NB0_402:=Aside0.mk ((by rw [hg];exact Nat.ne_of_lt (IsS60.lt (show IsS60 w0 _ g s0_0 s0_1 s0_2 from iIsS60)):g ≠ gb402));have NB402_0:=Aside0.mk ((by rw [hg];exact Nat.ne_of_gt (IsS60.lt (show IsS60 w0 _ g s0_0 s0_1 s0_2 from iIsS60)):gb402 ≠ g));replace HI0:=Aside0.mk (IsS60.below iIsS60 hb);clear hb hbox hg)|((with_reducible refine gate_dst (N:=4) rfl ?_);refine box_event ?hg (N:=4) ?hd (cs:=#[.bool false,.slice none 0 0,.slice none 0 0]) (t:=83) ?hr ?_;(case hd=>rfl);(case hg=>rfl);(case hr=>exact Yd);intro gb403 hg w39 hbox hb;replace HB:=Aside0.mk (below_step bH hb);have BK403:=Aside0.mk (hbox);have GW403:=Aside0.mk ((by rw [hg];exact (keep_size (w:=w) (g:=g) (row:=none) kB):w.heap.size ≤ gb403));have GE403:=Aside0.mk ((Nat.le_trans HW0.out (by rw [hg];exact (keep_size (w:=w) (g:=g) (row:=none) kB):w.heap.size ≤ gb403):w0.heap.size ≤ gb403));replace HK:=Aside0.mk (KeepBut.trans kB (KeepBut.of_below hb g none) (.inl rfl));have NB402_403:=Aside0.mk ((nL BK402:gb402 ≠ gb403));have NB403_402:=Aside0.mk ((nG BK402:gb403 ≠ gb402));replace BK402:=Aside0.mk (blk_below (bB BK402) hb);have NB0_403:=Aside0.mk ((by rw [hg];exact Nat.ne_of_lt (IsS60.lt (show IsS60 w0 _ g s0_0 s0_1 s0_2 from iIsS60)):g ≠ gb403));have NB403_0:=Aside0.mk ((by rw [hg];exact Nat.ne_of_gt (IsS60.lt (show IsS60 w0 _ g s0_0 s0_1 s0_2 from iIsS60)):gb403 ≠ g));replace HI0:=Aside0.mk (IsS60.below iIsS60 hb);clear hb hbox hg))
  replace BK402:=Aside0.mk (blk_drew BK402.out);replace BK403:=Aside0.mk (blk_drew BK403.out);replace HI0:=Aside0.mk (IsS60.drew HI0.out);replace HK:=Aside0.mk (keep_drew HK.out);replace HB:=Aside0.mk (below_drew1 HB.out)
  refine start_ (n:=18) (S:=fun w'=>w'.cell? ⟨gb402,0,none⟩ = some (.slice A1_0 l1_0.length c1_0)) (ds:=[]) #[false,false,false,false,false,false,false,false,false,false,false,false,false,false,false,false,false,false] (by kernel_rfl) rfl rfl ((blk_cell BK402.out 0).trans rfl) (fun hHeld=>?_);refine with_tabW spec_l1Cur_lit.tab1 spec_l1Cur_lit.bits1 (fun HT_ HW_=>?_)
  generalize w39.drew = w40 at BK402 BK403 HI0 HK HB hHeld ⊢
  refine pU (i:=0) (N:=some 6) #[true,false,false,false,false,false,false,false,false,false,false,false,false,false,false,false,false,false] (any_of HT_.out (by kernel_rfl)) ?_
  refine pU (i:=3) (N:=some 9) #[true,false,false,true,false,false,false,false,false,false,false,false,false,false,false,false,false,false] (any_of HT_.out (by kernel_rfl)) ?_
  refine pU (i:=5) (N:=some 11) #[true,false,false,true,false,true,false,false,false,false,false,false,false,false,false,false,false,false] (any_of HT_.out (by kernel_rfl)) ?_
  refine pU (i:=9) (N:=some 15) #[true,false,false,true,false,true,false,false,false,true,false,false,false,false,false,false,false,false] (any_of HT_.out (by kernel_rfl)) ?_
  refine pU (i:=11) (N:=some 17) #[true,false,false,true,false,true,false,false,false,true,false,true,false,false,false,false,false,false] (any_of HT_.out (by kernel_rfl)) ?_
  refine tK1 (i:=4) (N:=some 10) #[true,false,false,true,true,true,false,false,false,true,false,true,false,false,false,false,false,false] (take_ofW HT_.out HW_.out (by kernel_rfl)) hHeld ?_
  refine tK1 (i:=10) (N:=some 16) #[true,false,false,true,true,true,false,false,false,true,true,true,false,false,false,false,false,false] (take_ofW HT_.out HW_.out (by kernel_rfl)) hHeld ?_
  refine join_ (σ:=Value × Value × Nat) 1 #[true,true,true,true,true,true,true,true,true,true,true,true,true,true,true,true,true,false] (fun s_=>[(7,.bool t404),(12,.int .i64 t407),(14,s_.1),(18,.int .i64 t415),(20,s_.2.1),(5,.pointer (some ⟨s_.2.2,0,none⟩)),(8,.bool (!t404)),(13,.int .i64 (wrap64 (1 + t407))),(19,.int .i64 (wrap64 (1 + t415))),(21,.agg #[.bool (!t404),s_.1,s_.2.1])]) (fun s_ w'=>(w'.cell? ⟨gb402,0,none⟩ = some (.slice A1_0 l1_0.length c1_0)) ∧ (Kd.R (Kd.int .i64) 3 w' w.heap.size (fun k_=>some k_ ≠ (s_.2.1:Value).ownBlock) s_.1 t410) ∧ (Kd.R (Kd.int .i64) 3 w' w.heap.size (fun k_=>some k_ ≠ (s_.1:Value).ownBlock) s_.2.1 t418) ∧ (w'.heap[gb402]? = some (.cells #[.slice A1_0 l1_0.length c1_0] 26 (0,0))) ∧ (w'.heap[gb403]? = some (.cells #[.bool false,.slice none 0 0,.slice none 0 0] 83 (0,0))) ∧ (w'.heap[s_.2.2]? = some (.cells #[.bool false,.slice none 0 0,.slice none 0 0] 83 (0,0))) ∧ (w.heap.size ≤ s_.2.2) ∧ (w0.heap.size ≤ s_.2.2) ∧ (g ≠ s_.2.2) ∧ (s_.2.2 ≠ g) ∧ (gb402 ≠ s_.2.2) ∧ (s_.2.2 ≠ gb402) ∧ (gb403 ≠ s_.2.2) ∧ (s_.2.2 ≠ gb403) ∧ (IsS60 w0 w' g s0_0 t421 t422) ∧ (KeepBut w w' g none) ∧ (Below w0.heap.size w0 w')) ?_ ?_
  rotate_left
  ·intro hJ1_6_8_12_14_16
   refine join_ (σ:=Value × Value) 2 #[true,true,true,true,true,true,true,true,true,true,true,true,true,true,true,true,false,false] (fun s_=>[(7,.bool t404),(12,.int .i64 t407),(14,s_.1),(18,.int .i64 t415),(20,s_.2),(8,.bool (!t404)),(13,.int .i64 (wrap64 (1 + t407))),(19,.int .i64 (wrap64 (1 + t415))),(21,.agg #[.bool (!t404),s_.1,s_.2])]) (fun s_ w'=>(w'.cell? ⟨gb402,0,none⟩ = some (.slice A1_0 l1_0.length c1_0)) ∧ (Kd.R (Kd.int .i64) 3 w' w.heap.size (fun k_=>some k_ ≠ (s_.2:Value).ownBlock) s_.1 t410) ∧ (Kd.R (Kd.int .i64) 3 w' w.heap.size (fun k_=>some k_ ≠ (s_.1:Value).ownBlock) s_.2 t418) ∧ (w'.heap[gb402]? = some (.cells #[.slice A1_0 l1_0.length c1_0] 26 (0,0))) ∧ (w'.heap[gb403]? = some (.cells #[.bool false,.slice none 0 0,.slice none 0 0] 83 (0,0))) ∧ (IsS60 w0 w' g s0_0 t421 t422) ∧ (KeepBut w w' g none) ∧ (Below w0.heap.size w0 w')) ?_ ?_
   rotate_left
   ·intro hJ1_6_8_12_14
    refine join_ (σ:=Value × Nat) 3 #[true,true,true,true,true,true,true,true,true,true,true,true,true,true,false,false,true,false] (fun s_=>[(7,.bool t404),(12,.int .i64 t407),(14,s_.1),(18,.int .i64 t415),(5,.pointer (some ⟨s_.2,0,none⟩)),(8,.bool (!t404)),(13,.int .i64 (wrap64 (1 + t407))),(19,.int .i64 (wrap64 (1 + t415)))]) (fun s_ w'=>(w'.cell? ⟨gb402,0,none⟩ = some (.slice A1_0 l1_0.length c1_0)) ∧ (Kd.R (Kd.int .i64) 3 w' w.heap.size (fun _=>True) s_.1 t410) ∧ (w'.heap[gb402]? = some (.cells #[.slice A1_0 l1_0.length c1_0] 26 (0,0))) ∧ (w'.heap[gb403]? = some (.cells #[.bool false,.slice none 0 0,.slice none 0 0] 83 (0,0))) ∧ (w'.heap[s_.2]? = some (.cells #[.bool false,.slice none 0 0,.slice none 0 0] 83 (0,0))) ∧ (w.heap.size ≤ s_.2) ∧ (w0.heap.size ≤ s_.2) ∧ (g ≠ s_.2) ∧ (s_.2 ≠ g) ∧ (gb402 ≠ s_.2) ∧ (s_.2 ≠ gb402) ∧ (gb403 ≠ s_.2) ∧ (s_.2 ≠ gb403) ∧ (IsS60 w0 w' g s0_0 t416 t417) ∧ (KeepBut w w' g none) ∧ (Below w0.heap.size w0 w')) ?_ ?_
    rotate_left
    ·intro hJ1_6_8_12_16
     refine join_ (σ:=Value) 4 #[true,true,true,true,true,true,true,true,true,true,true,true,true,true,false,false,false,false] (fun s_=>[(7,.bool t404),(12,.int .i64 t407),(14,s_),(18,.int .i64 t415),(8,.bool (!t404)),(13,.int .i64 (wrap64 (1 + t407))),(19,.int .i64 (wrap64 (1 + t415)))]) (fun s_ w'=>(w'.cell? ⟨gb402,0,none⟩ = some (.slice A1_0 l1_0.length c1_0)) ∧ (Kd.R (Kd.int .i64) 3 w' w.heap.size (fun _=>True) s_ t410) ∧ (w'.heap[gb402]? = some (.cells #[.slice A1_0 l1_0.length c1_0] 26 (0,0))) ∧ (w'.heap[gb403]? = some (.cells #[.bool false,.slice none 0 0,.slice none 0 0] 83 (0,0))) ∧ (IsS60 w0 w' g s0_0 t416 t417) ∧ (KeepBut w w' g none) ∧ (Below w0.heap.size w0 w')) ?_ ?_
     rotate_left
     ·intro hJ1_6_8_12
      refine join_ (σ:=Value × Nat) 5 #[true,true,true,true,true,true,true,true,true,true,true,true,false,false,false,false,true,false] (fun s_=>[(7,.bool t404),(12,.int .i64 t407),(14,s_.1),(5,.pointer (some ⟨s_.2,0,none⟩)),(8,.bool (!t404)),(13,.int .i64 (wrap64 (1 + t407)))]) (fun s_ w'=>(w'.cell? ⟨gb402,0,none⟩ = some (.slice A1_0 l1_0.length c1_0)) ∧ (Kd.R (Kd.int .i64) 3 w' w.heap.size (fun _=>True) s_.1 t410) ∧ (w'.heap[gb402]? = some (.cells #[.slice A1_0 l1_0.length c1_0] 26 (0,0))) ∧ (w'.heap[gb403]? = some (.cells #[.bool false,.slice none 0 0,.slice none 0 0] 83 (0,0))) ∧ (w'.heap[s_.2]? = some (.cells #[.bool false,.slice none 0 0,.slice none 0 0] 83 (0,0))) ∧ (w.heap.size ≤ s_.2) ∧ (w0.heap.size ≤ s_.2) ∧ (g ≠ s_.2) ∧ (s_.2 ≠ g) ∧ (gb402 ≠ s_.2) ∧ (s_.2 ≠ gb402) ∧ (gb403 ≠ s_.2) ∧ (s_.2 ≠ gb403) ∧ (IsS60 w0 w' g s0_0 t413 t414) ∧ (KeepBut w w' g none) ∧ (Below w0.heap.size w0 w')) ?_ ?_
      rotate_left
      ·intro hJ1_6_8_16
       refine join_ (σ:=Value) 6 #[true,true,true,true,true,true,true,true,true,true,true,true,false,false,false,false,false,false] (fun s_=>[(7,.bool t404),(12,.int .i64 t407),(14,s_),(8,.bool (!t404)),(13,.int .i64 (wrap64 (1 + t407)))]) (fun s_ w'=>(w'.cell? ⟨gb402,0,none⟩ = some (.slice A1_0 l1_0.length c1_0)) ∧ (Kd.R (Kd.int .i64) 3 w' w.heap.size (fun _=>True) s_ t410) ∧ (w'.heap[gb402]? = some (.cells #[.slice A1_0 l1_0.length c1_0] 26 (0,0))) ∧ (w'.heap[gb403]? = some (.cells #[.bool false,.slice none 0 0,.slice none 0 0] 83 (0,0))) ∧ (IsS60 w0 w' g s0_0 t413 t414) ∧ (KeepBut w w' g none) ∧ (Below w0.heap.size w0 w')) ?_ ?_
       rotate_left
       ·intro hJ1_6_8
        refine join_ (σ:=Nat) 6 #[true,true,true,true,true,true,true,true,false,true,true,true,false,false,false,false,true,false] (fun s_=>[(7,.bool t404),(12,.int .i64 t407),(5,.pointer (some ⟨s_,0,none⟩)),(8,.bool (!t404)),(13,.int .i64 (wrap64 (1 + t407)))]) (fun s_ w'=>(w'.cell? ⟨gb402,0,none⟩ = some (.slice A1_0 l1_0.length c1_0)) ∧ (w'.heap[gb402]? = some (.cells #[.slice A1_0 l1_0.length c1_0] 26 (0,0))) ∧ (w'.heap[gb403]? = some (.cells #[.bool false,.slice none 0 0,.slice none 0 0] 83 (0,0))) ∧ (w'.heap[s_]? = some (.cells #[.bool false,.slice none 0 0,.slice none 0 0] 83 (0,0))) ∧ (w.heap.size ≤ s_) ∧ (w0.heap.size ≤ s_) ∧ (g ≠ s_) ∧ (s_ ≠ g) ∧ (gb402 ≠ s_) ∧ (s_ ≠ gb402) ∧ (gb403 ≠ s_) ∧ (s_ ≠ gb403) ∧ (IsS60 w0 w' g s0_0 t408 t409) ∧ (KeepBut w w' g none) ∧ (Below w0.heap.size w0 w')) ?_ ?_
        rotate_left
        ·intro hJ1_6_16
         refine join_ (σ:=Unit) 7 #[true,true,true,true,true,true,true,true,false,true,true,true,false,false,false,false,false,false] (fun s_=>[(7,.bool t404),(12,.int .i64 t407),(8,.bool (!t404)),(13,.int .i64 (wrap64 (1 + t407)))]) (fun s_ w'=>(w'.cell? ⟨gb402,0,none⟩ = some (.slice A1_0 l1_0.length c1_0)) ∧ (w'.heap[gb402]? = some (.cells #[.slice A1_0 l1_0.length c1_0] 26 (0,0))) ∧ (w'.heap[gb403]? = some (.cells #[.bool false,.slice none 0 0,.slice none 0 0] 83 (0,0))) ∧ (IsS60 w0 w' g s0_0 t408 t409) ∧ (KeepBut w w' g none) ∧ (Below w0.heap.size w0 w')) ?_ ?_
         rotate_left
         ·intro hJ1_6
          refine join_ (σ:=Nat) 8 #[true,true,true,true,true,true,false,false,false,true,true,true,false,false,false,false,true,false] (fun s_=>[(7,.bool t404),(5,.pointer (some ⟨s_,0,none⟩)),(8,.bool (!t404))]) (fun s_ w'=>(w'.cell? ⟨gb402,0,none⟩ = some (.slice A1_0 l1_0.length c1_0)) ∧ (w'.heap[gb402]? = some (.cells #[.slice A1_0 l1_0.length c1_0] 26 (0,0))) ∧ (w'.heap[gb403]? = some (.cells #[.bool false,.slice none 0 0,.slice none 0 0] 83 (0,0))) ∧ (w'.heap[s_]? = some (.cells #[.bool false,.slice none 0 0,.slice none 0 0] 83 (0,0))) ∧ (w.heap.size ≤ s_) ∧ (w0.heap.size ≤ s_) ∧ (g ≠ s_) ∧ (s_ ≠ g) ∧ (gb402 ≠ s_) ∧ (s_ ≠ gb402) ∧ (gb403 ≠ s_) ∧ (s_ ≠ gb403) ∧ (IsS60 w0 w' g s0_0 t405 t406) ∧ (KeepBut w w' g none) ∧ (Below w0.heap.size w0 w')) ?_ ?_
          rotate_left
          ·intro hJ1_16
           refine join_ (σ:=Unit) 9 #[true,true,true,true,true,true,false,false,false,true,true,true,false,false,false,false,false,false] (fun s_=>[(7,.bool t404),(8,.bool (!t404))]) (fun s_ w'=>(w'.cell? ⟨gb402,0,none⟩ = some (.slice A1_0 l1_0.length c1_0)) ∧ (w'.heap[gb402]? = some (.cells #[.slice A1_0 l1_0.length c1_0] 26 (0,0))) ∧ (w'.heap[gb403]? = some (.cells #[.bool false,.slice none 0 0,.slice none 0 0] 83 (0,0))) ∧ (IsS60 w0 w' g s0_0 t405 t406) ∧ (KeepBut w w' g none) ∧ (Below w0.heap.size w0 w')) ?_ ?_
           rotate_left
           ·intro hJ1
            refine join_ (σ:=Nat) 10 #[true,false,false,true,true,true,false,false,false,true,true,true,false,false,false,false,true,false] (fun s_=>[(5,.pointer (some ⟨s_,0,none⟩))]) (fun s_ w'=>(w'.cell? ⟨gb402,0,none⟩ = some (.slice A1_0 l1_0.length c1_0)) ∧ (w'.heap[gb402]? = some (.cells #[.slice A1_0 l1_0.length c1_0] 26 (0,0))) ∧ (w'.heap[gb403]? = some (.cells #[.bool false,.slice none 0 0,.slice none 0 0] 83 (0,0))) ∧ (w'.heap[s_]? = some (.cells #[.bool false,.slice none 0 0,.slice none 0 0] 83 (0,0))) ∧ (w.heap.size ≤ s_) ∧ (w0.heap.size ≤ s_) ∧ (g ≠ s_) ∧ (s_ ≠ g) ∧ (gb402 ≠ s_) ∧ (s_ ≠ gb402) ∧ (gb403 ≠ s_) ∧ (s_ ≠ gb403) ∧ (IsS60 w0 w' g s0_0 s0_1 s0_2) ∧ (KeepBut w w' g none) ∧ (Below w0.heap.size w0 w')) ?_ ?_
            rotate_left
            ·intro hJ16
             refine two_ (i:=1) (j:=16) (Ni:=some 7) (Nj:=some 5) #[true,true,false,true,true,true,false,false,false,true,true,true,false,false,false,false,false,false] #[true,false,false,true,true,true,false,false,false,true,true,true,false,false,false,false,true,false] rfl rfl rfl rfl (two_of HT_.out (by kernel_rfl)) (by decide) (by decide) (fun K hK=>?_) (fun K hK=>?_)
             ·skip
              refine goes_ Try.func75 (by kernel_rfl) rfl #[.pointer (some ⟨g,0,none⟩),.int .i64 3] (by rfl) rfl rfl Ya ?_
              with_reducible refine (spec_l1Cur_one.calls g s0_0 s0_1 s0_2 3 t404 t405 t406 w0 _ ?side1 ?side2 A3.out).mono ?_
              (case side1=>exact iIsS60)
              (case side2=>exact bH)
              rintro e w41 ⟨rfl,hi,hb,hk⟩
              refine ⟨_,rfl,?_⟩
              replace BK402:=Aside0.mk (KeepBut.blk hk (g':=gb402) (o:=.cells #[.slice A1_0 l1_0.length c1_0] 26 (0,0)) (bB BK402) NB402_0.out (by simp));replace BK403:=Aside0.mk (KeepBut.blk hk (g':=gb403) (o:=.cells #[.bool false,.slice none 0 0,.slice none 0 0] 83 (0,0)) (bB BK403) NB403_0.out (by simp));replace HK:=Aside0.mk (KeepBut.trans kB hk (.inl rfl));replace HB:=Aside0.mk (hb);replace HI0:=Aside0.mk (hi)
              (try clear hb)
              (try clear hb2)
              (try clear hk)
              (try clear hi)
              refine hK.out _ _ ((blk_cell BK402.out 0).trans rfl) (fun hHeld=>?_)
              clear hK K
              refine nM (N:=some 7) ?_
              refine pU (i:=2) (N:=some 8) #[true,true,true,true,true,true,false,false,false,true,true,true,false,false,false,false,false,false] (any_of HT_.out (by kernel_rfl)) ?_
              exact norm_ Yc (hJ1 () _ ⟨hHeld,(bB BK402),(bB BK403),iIsS60,kB,bH⟩)
             ·skip
              refine box_step ?hg (N:=5) ?hd (cs:=#[.bool false,.slice none 0 0,.slice none 0 0]) (t:=83) ?hr ?_;(case hd=>rfl);(case hg=>rfl);(case hr=>exact Yd)
              intro gb423 hg w41 hbox hb
              replace HB:=Aside0.mk (below_step bH hb);have BK423:=Aside0.mk (hbox);have GW423:=Aside0.mk ((by rw [hg];exact (keep_size (w:=w) (g:=g) (row:=none) kB):w.heap.size ≤ gb423));have GE423:=Aside0.mk ((Nat.le_trans HW0.out (by rw [hg];exact (keep_size (w:=w) (g:=g) (row:=none) kB):w.heap.size ≤ gb423):w0.heap.size ≤ gb423));replace HK:=Aside0.mk (KeepBut.trans kB (KeepBut.of_below hb g none) (.inl rfl));have NB402_423:=Aside0.mk ((nL BK402:gb402 ≠ gb423));have NB423_402:=Aside0.mk ((nG BK402:gb423 ≠ gb402));replace BK402:=Aside0.mk (blk_below (bB BK402) hb);have NB403_423:=Aside0.mk ((nL BK403:gb403 ≠ gb423));have NB423_403:=Aside0.mk ((nG BK403:gb423 ≠ gb403));replace BK403:=Aside0.mk (blk_below (bB BK403) hb);have NB0_423:=Aside0.mk ((by rw [hg];exact Nat.ne_of_lt (IsS60.lt (show IsS60 w0 _ g s0_0 s0_1 s0_2 from iIsS60)):g ≠ gb423));have NB423_0:=Aside0.mk ((by rw [hg];exact Nat.ne_of_gt (IsS60.lt (show IsS60 w0 _ g s0_0 s0_1 s0_2 from iIsS60)):gb423 ≠ g));replace HI0:=Aside0.mk (IsS60.below iIsS60 hb)
              clear hb hbox hg
              refine hK.out _ _ ((blk_cell BK402.out 0).trans rfl) (fun hHeld=>?_)
              clear hK K
              refine nM (N:=some 5) ?_
              exact norm_ Yc (hJ16 (gb423) _ ⟨hHeld,(bB BK402),(bB BK403),(bB BK423),GW423.out,GE423.out,NB0_423.out,NB423_0.out,NB402_423.out,NB423_402.out,NB403_423.out,NB423_403.out,iIsS60,kB,bH⟩)
            ·skip
             rintro gb423 w42 ⟨hS_,h0_,h1_,h2_,h3_,h4_,h5_,h6_,h7_,h8_,h9_,h10_,h11_,h12_,h13_⟩
             have n0_:Aside0 (w42.heap[gb402]? = some (.cells #[.slice A1_0 l1_0.length c1_0] 26 (0,0))):=⟨h0_⟩
             have n1_:Aside0 (w42.heap[gb403]? = some (.cells #[.bool false,.slice none 0 0,.slice none 0 0] 83 (0,0))):=⟨h1_⟩
             have n2_:Aside0 (w42.heap[gb423]? = some (.cells #[.bool false,.slice none 0 0,.slice none 0 0] 83 (0,0))):=⟨h2_⟩
             have n3_:Aside0 (w.heap.size ≤ gb423):=⟨h3_⟩
             have n4_:Aside0 (w0.heap.size ≤ gb423):=⟨h4_⟩
             have n5_:Aside0 (g ≠ gb423):=⟨h5_⟩
             have n6_:Aside0 (gb423 ≠ g):=⟨h6_⟩
             have n7_:Aside0 (gb402 ≠ gb423):=⟨h7_⟩
             have n8_:Aside0 (gb423 ≠ gb402):=⟨h8_⟩
             have n9_:Aside0 (gb403 ≠ gb423):=⟨h9_⟩
             have n10_:Aside0 (gb423 ≠ gb403):=⟨h10_⟩
             have n11_:Aside0 (IsS60 w0 w42 g s0_0 s0_1 s0_2):=⟨h11_⟩
             have n12_:Aside0 (KeepBut w w42 g none):=⟨h12_⟩
             have n13_:Aside0 (Below w0.heap.size w0 w42):=⟨h13_⟩
             clear BK402
             clear BK403
             clear HI0
             clear HK
             clear HB
             clear h0_ h1_ h2_ h3_ h4_ h5_ h6_ h7_ h8_ h9_ h10_ h11_ h12_ h13_
             have BK402:=n0_
             have BK403:=n1_
             have BK423:=n2_
             have GW423:=n3_
             have GE423:=n4_
             have NB0_423:=n5_
             have NB423_0:=n6_
             have NB402_423:=n7_
             have NB423_402:=n8_
             have NB403_423:=n9_
             have NB423_403:=n10_
             have HI0:=n11_
             have HK:=n12_
             have HB:=n13_
             clear n0_ n1_ n2_ n3_ n4_ n5_ n6_ n7_ n8_ n9_ n10_ n11_ n12_ n13_
             have hHeld:w42.cell? ⟨gb402,0,none⟩ = some (.slice A1_0 l1_0.length c1_0):=hS_
             refine norm_ (a':=?_) ?_ ?_
             rotate_left
             ·simp only [putAll,Act.put,List.setIfInBounds_toArray,List.set_cons_zero,List.set_cons_succ]
              rfl
             refine one_ (i:=1) (N:=some 7) #[true,true,false,true,true,true,false,false,false,true,true,true,false,false,false,false,true,false] rfl rfl (one_of HT_.out (by kernel_rfl)) (by decide) (fun K hK=>?_)
             refine goes_ Try.func75 (by kernel_rfl) rfl #[.pointer (some ⟨g,0,none⟩),.int .i64 3] (by rfl) rfl rfl Ya ?_
             with_reducible refine (spec_l1Cur_one.calls g s0_0 s0_1 s0_2 3 t404 t405 t406 w0 _ ?side1 ?side2 A3.out).mono ?_
             (case side1=>exact iIsS60)
             (case side2=>exact bH)
             rintro e w43 ⟨rfl,hi,hb,hk⟩
             refine ⟨_,rfl,?_⟩
             replace BK402:=Aside0.mk (KeepBut.blk hk (g':=gb402) (o:=.cells #[.slice A1_0 l1_0.length c1_0] 26 (0,0)) (bB BK402) NB402_0.out (by simp));replace BK403:=Aside0.mk (KeepBut.blk hk (g':=gb403) (o:=.cells #[.bool false,.slice none 0 0,.slice none 0 0] 83 (0,0)) (bB BK403) NB403_0.out (by simp));replace BK423:=Aside0.mk (KeepBut.blk hk (g':=gb423) (o:=.cells #[.bool false,.slice none 0 0,.slice none 0 0] 83 (0,0)) (bB BK423) NB423_0.out (by simp));replace HK:=Aside0.mk (KeepBut.trans kB hk (.inl rfl));replace HB:=Aside0.mk (hb);replace HI0:=Aside0.mk (hi)
             (try clear hb)
             (try clear hb2)
             (try clear hk)
             (try clear hi)
             refine hK.out _ _ ((blk_cell BK402.out 0).trans rfl) (fun hHeld=>?_)
             clear hK K
             refine nM (N:=some 7) ?_
             refine pU (i:=2) (N:=some 8) #[true,true,true,true,true,true,false,false,false,true,true,true,false,false,false,false,true,false] (any_of HT_.out (by kernel_rfl)) ?_
             exact norm_ Yc (hJ1_16 (gb423) _ ⟨hHeld,(bB BK402),(bB BK403),(bB BK423),GW423.out,GE423.out,NB0_423.out,NB423_0.out,NB402_423.out,NB423_402.out,NB403_423.out,NB423_403.out,iIsS60,kB,bH⟩)
           ·skip
            rintro _ w42 ⟨hS_,h0_,h1_,h2_,h3_,h4_⟩
            have n0_:Aside0 (w42.heap[gb402]? = some (.cells #[.slice A1_0 l1_0.length c1_0] 26 (0,0))):=⟨h0_⟩
            have n1_:Aside0 (w42.heap[gb403]? = some (.cells #[.bool false,.slice none 0 0,.slice none 0 0] 83 (0,0))):=⟨h1_⟩
            have n2_:Aside0 (IsS60 w0 w42 g s0_0 t405 t406):=⟨h2_⟩
            have n3_:Aside0 (KeepBut w w42 g none):=⟨h3_⟩
            have n4_:Aside0 (Below w0.heap.size w0 w42):=⟨h4_⟩
            clear BK402
            clear BK403
            clear HI0
            clear HK
            clear HB
            clear h0_ h1_ h2_ h3_ h4_
            have BK402:=n0_
            have BK403:=n1_
            have HI0:=n2_
            have HK:=n3_
            have HB:=n4_
            clear n0_ n1_ n2_ n3_ n4_
            have hHeld:w42.cell? ⟨gb402,0,none⟩ = some (.slice A1_0 l1_0.length c1_0):=hS_
            refine norm_ (a':=?_) ?_ ?_
            rotate_left
            ·simp only [putAll,Act.put,List.setIfInBounds_toArray,List.set_cons_zero,List.set_cons_succ]
             rfl
            refine two_ (i:=6) (j:=16) (Ni:=some 12) (Nj:=some 5) #[true,true,true,true,true,true,true,false,false,true,true,true,false,false,false,false,false,false] #[true,true,true,true,true,true,false,false,false,true,true,true,false,false,false,false,true,false] rfl rfl rfl rfl (two_of HT_.out (by kernel_rfl)) (by decide) (by decide) (fun K hK=>?_) (fun K hK=>?_)
            ·skip
             refine goes_ Try.func73 (by kernel_rfl) rfl #[.pointer (some ⟨g,0,none⟩),.int .i64 3] (by rfl) rfl rfl Ya ?_
             with_reducible refine (spec_l1Cur_pick.calls g s0_0 t405 t406 3 t407 t408 t409 w0 _ ?side1 ?side2 A4.out).mono ?_
             (case side1=>exact iIsS60)
             (case side2=>exact bH)
             rintro e w43 ⟨rfl,hi,hb,hk⟩
             refine ⟨_,rfl,?_⟩
             replace BK402:=Aside0.mk (KeepBut.blk hk (g':=gb402) (o:=.cells #[.slice A1_0 l1_0.length c1_0] 26 (0,0)) (bB BK402) NB402_0.out (by simp));replace BK403:=Aside0.mk (KeepBut.blk hk (g':=gb403) (o:=.cells #[.bool false,.slice none 0 0,.slice none 0 0] 83 (0,0)) (bB BK403) NB403_0.out (by simp));replace HK:=Aside0.mk (KeepBut.trans kB hk (.inl rfl));replace HB:=Aside0.mk (hb);replace HI0:=Aside0.mk (hi)
             (try clear hb)
             (try clear hb2)
             (try clear hk)
             (try clear hi)
             refine hK.out _ _ ((blk_cell BK402.out 0).trans rfl) (fun hHeld=>?_)
             clear hK K
             refine nM (N:=some 12) ?_
             refine pU (i:=7) (N:=some 13) #[true,true,true,true,true,true,true,true,false,true,true,true,false,false,false,false,false,false] (any_of HT_.out (by kernel_rfl)) ?_
             exact norm_ Yc (hJ1_6 () _ ⟨hHeld,(bB BK402),(bB BK403),iIsS60,kB,bH⟩)
            ·skip
             refine box_step ?hg (N:=5) ?hd (cs:=#[.bool false,.slice none 0 0,.slice none 0 0]) (t:=83) ?hr ?_;(case hd=>rfl);(case hg=>rfl);(case hr=>exact Yd)
             intro gb423 hg w43 hbox hb
             replace HB:=Aside0.mk (below_step bH hb);have BK423:=Aside0.mk (hbox);have GW423:=Aside0.mk ((by rw [hg];exact (keep_size (w:=w) (g:=g) (row:=none) kB):w.heap.size ≤ gb423));have GE423:=Aside0.mk ((Nat.le_trans HW0.out (by rw [hg];exact (keep_size (w:=w) (g:=g) (row:=none) kB):w.heap.size ≤ gb423):w0.heap.size ≤ gb423));replace HK:=Aside0.mk (KeepBut.trans kB (KeepBut.of_below hb g none) (.inl rfl));have NB402_423:=Aside0.mk ((nL BK402:gb402 ≠ gb423));have NB423_402:=Aside0.mk ((nG BK402:gb423 ≠ gb402));replace BK402:=Aside0.mk (blk_below (bB BK402) hb);have NB403_423:=Aside0.mk ((nL BK403:gb403 ≠ gb423));have NB423_403:=Aside0.mk ((nG BK403:gb423 ≠ gb403));replace BK403:=Aside0.mk (blk_below (bB BK403) hb);have NB0_423:=Aside0.mk ((by rw [hg];exact Nat.ne_of_lt (IsS60.lt (show IsS60 w0 _ g s0_0 t405 t406 from iIsS60)):g ≠ gb423));have NB423_0:=Aside0.mk ((by rw [hg];exact Nat.ne_of_gt (IsS60.lt (show IsS60 w0 _ g s0_0 t405 t406 from iIsS60)):gb423 ≠ g));replace HI0:=Aside0.mk (IsS60.below iIsS60 hb)
             clear hb hbox hg
             refine hK.out _ _ ((blk_cell BK402.out 0).trans rfl) (fun hHeld=>?_)
             clear hK K
             refine nM (N:=some 5) ?_
             exact norm_ Yc (hJ1_16 (gb423) _ ⟨hHeld,(bB BK402),(bB BK403),(bB BK423),GW423.out,GE423.out,NB0_423.out,NB423_0.out,NB402_423.out,NB423_402.out,NB403_423.out,NB423_403.out,iIsS60,kB,bH⟩)
          ·skip
           rintro gb423 w43 ⟨hS_,h0_,h1_,h2_,h3_,h4_,h5_,h6_,h7_,h8_,h9_,h10_,h11_,h12_,h13_⟩
           have n0_:Aside0 (w43.heap[gb402]? = some (.cells #[.slice A1_0 l1_0.length c1_0] 26 (0,0))):=⟨h0_⟩
           have n1_:Aside0 (w43.heap[gb403]? = some (.cells #[.bool false,.slice none 0 0,.slice none 0 0] 83 (0,0))):=⟨h1_⟩
           have n2_:Aside0 (w43.heap[gb423]? = some (.cells #[.bool false,.slice none 0 0,.slice none 0 0] 83 (0,0))):=⟨h2_⟩
           have n3_:Aside0 (w.heap.size ≤ gb423):=⟨h3_⟩
           have n4_:Aside0 (w0.heap.size ≤ gb423):=⟨h4_⟩
           have n5_:Aside0 (g ≠ gb423):=⟨h5_⟩
           have n6_:Aside0 (gb423 ≠ g):=⟨h6_⟩
           have n7_:Aside0 (gb402 ≠ gb423):=⟨h7_⟩
           have n8_:Aside0 (gb423 ≠ gb402):=⟨h8_⟩
           have n9_:Aside0 (gb403 ≠ gb423):=⟨h9_⟩
           have n10_:Aside0 (gb423 ≠ gb403):=⟨h10_⟩
           have n11_:Aside0 (IsS60 w0 w43 g s0_0 t405 t406):=⟨h11_⟩
           have n12_:Aside0 (KeepBut w w43 g none):=⟨h12_⟩
           have n13_:Aside0 (Below w0.heap.size w0 w43):=⟨h13_⟩
           clear BK402
           clear BK403
           clear HI0
           clear HK
           clear HB
           clear h0_ h1_ h2_ h3_ h4_ h5_ h6_ h7_ h8_ h9_ h10_ h11_ h12_ h13_
           have BK402:=n0_
           have BK403:=n1_
           have BK423:=n2_
           have GW423:=n3_
           have GE423:=n4_
           have NB0_423:=n5_
           have NB423_0:=n6_
           have NB402_423:=n7_
           have NB423_402:=n8_
           have NB403_423:=n9_
           have NB423_403:=n10_
           have HI0:=n11_
           have HK:=n12_
           have HB:=n13_
           clear n0_ n1_ n2_ n3_ n4_ n5_ n6_ n7_ n8_ n9_ n10_ n11_ n12_ n13_
           have hHeld:w43.cell? ⟨gb402,0,none⟩ = some (.slice A1_0 l1_0.length c1_0):=hS_
           refine norm_ (a':=?_) ?_ ?_
           rotate_left
           ·simp only [putAll,Act.put,List.setIfInBounds_toArray,List.set_cons_zero,List.set_cons_succ]
            rfl
           refine one_ (i:=6) (N:=some 12) #[true,true,true,true,true,true,true,false,false,true,true,true,false,false,false,false,true,false] rfl rfl (one_of HT_.out (by kernel_rfl)) (by decide) (fun K hK=>?_)
           refine goes_ Try.func73 (by kernel_rfl) rfl #[.pointer (some ⟨g,0,none⟩),.int .i64 3] (by rfl) rfl rfl Ya ?_
           with_reducible refine (spec_l1Cur_pick.calls g s0_0 t405 t406 3 t407 t408 t409 w0 _ ?side1 ?side2 A4.out).mono ?_
           (case side1=>exact iIsS60)
           (case side2=>exact bH)
           rintro e w44 ⟨rfl,hi,hb,hk⟩
           refine ⟨_,rfl,?_⟩
           replace BK402:=Aside0.mk (KeepBut.blk hk (g':=gb402) (o:=.cells #[.slice A1_0 l1_0.length c1_0] 26 (0,0)) (bB BK402) NB402_0.out (by simp));replace BK403:=Aside0.mk (KeepBut.blk hk (g':=gb403) (o:=.cells #[.bool false,.slice none 0 0,.slice none 0 0] 83 (0,0)) (bB BK403) NB403_0.out (by simp));replace BK423:=Aside0.mk (KeepBut.blk hk (g':=gb423) (o:=.cells #[.bool false,.slice none 0 0,.slice none 0 0] 83 (0,0)) (bB BK423) NB423_0.out (by simp));replace HK:=Aside0.mk (KeepBut.trans kB hk (.inl rfl));replace HB:=Aside0.mk (hb);replace HI0:=Aside0.mk (hi)
           (try clear hb)
           (try clear hb2)
           (try clear hk)
           (try clear hi)
           refine hK.out _ _ ((blk_cell BK402.out 0).trans rfl) (fun hHeld=>?_)
           clear hK K
           refine nM (N:=some 12) ?_
           refine pU (i:=7) (N:=some 13) #[true,true,true,true,true,true,true,true,false,true,true,true,false,false,false,false,true,false] (any_of HT_.out (by kernel_rfl)) ?_
           exact norm_ Yc (hJ1_6_16 (gb423) _ ⟨hHeld,(bB BK402),(bB BK403),(bB BK423),GW423.out,GE423.out,NB0_423.out,NB423_0.out,NB402_423.out,NB423_402.out,NB403_423.out,NB423_403.out,iIsS60,kB,bH⟩)
         ·skip
          rintro _ w43 ⟨hS_,h0_,h1_,h2_,h3_,h4_⟩
          have n0_:Aside0 (w43.heap[gb402]? = some (.cells #[.slice A1_0 l1_0.length c1_0] 26 (0,0))):=⟨h0_⟩
          have n1_:Aside0 (w43.heap[gb403]? = some (.cells #[.bool false,.slice none 0 0,.slice none 0 0] 83 (0,0))):=⟨h1_⟩
          have n2_:Aside0 (IsS60 w0 w43 g s0_0 t408 t409):=⟨h2_⟩
          have n3_:Aside0 (KeepBut w w43 g none):=⟨h3_⟩
          have n4_:Aside0 (Below w0.heap.size w0 w43):=⟨h4_⟩
          clear BK402
          clear BK403
          clear HI0
          clear HK
          clear HB
          clear h0_ h1_ h2_ h3_ h4_
          have BK402:=n0_
          have BK403:=n1_
          have HI0:=n2_
          have HK:=n3_
          have HB:=n4_
          clear n0_ n1_ n2_ n3_ n4_
          have hHeld:w43.cell? ⟨gb402,0,none⟩ = some (.slice A1_0 l1_0.length c1_0):=hS_
          refine norm_ (a':=?_) ?_ ?_
          rotate_left
          ·simp only [putAll,Act.put,List.setIfInBounds_toArray,List.set_cons_zero,List.set_cons_succ]
           rfl
          refine two_ (i:=8) (j:=16) (Ni:=some 14) (Nj:=some 5) #[true,true,true,true,true,true,true,true,true,true,true,true,false,false,false,false,false,false] #[true,true,true,true,true,true,true,true,false,true,true,true,false,false,false,false,true,false] rfl rfl rfl rfl (two_of HT_.out (by kernel_rfl)) (by decide) (by decide) (fun K hK=>?_) (fun K hK=>?_)
          ·skip
           refine goes_ Try.func74 (by kernel_rfl) rfl #[.pointer (some ⟨g,0,none⟩),.agg #[.slice A1_0 l1_0.length c1_0],.int .i64 (wrap64 (1 + t407)),.int .i64 3] (by rfl) rfl rfl Ya ?_
           with_reducible refine (spec_l1Cur_term.calls k g s0_0 t408 t409 _ _ l1_0 (wrap64 (1 + t407)) 3 t410 t413 t414 w0 _ ?side1 ?side2 ?side3 ?side4 ?side5 A5.out).mono ?_
           (case side1=>exact iIsS60)
           (case side2=>exact bH)
           (case side3=>exact YF)
           (case side4=>exact Zh)
           (case side5=>exact hf1_0)
           rintro e w44 ⟨v411,rfl,ho0,hi,hb,hk⟩
           refine ⟨_,rfl,?_⟩
           replace BK402:=Aside0.mk (KeepBut.blk hk (g':=gb402) (o:=.cells #[.slice A1_0 l1_0.length c1_0] 26 (0,0)) (bB BK402) NB402_0.out (by simp));replace BK403:=Aside0.mk (KeepBut.blk hk (g':=gb403) (o:=.cells #[.bool false,.slice none 0 0,.slice none 0 0] 83 (0,0)) (bB BK403) NB403_0.out (by simp));have HO412:=Aside0.mk (Kd.R_lower ho0 (keep_size (w:=w) (g:=g) (row:=none) kB));replace HK:=Aside0.mk (KeepBut.trans kB hk (.inl rfl));replace HB:=Aside0.mk (hb);replace HI0:=Aside0.mk (hi)
           (try clear hb)
           (try clear hb2)
           (try clear hk)
           (try clear hi)
           (try clear ho0)
           refine hK.out _ _ ((blk_cell BK402.out 0).trans rfl) (fun hHeld=>?_)
           clear hK K
           refine nM (N:=some 14) ?_
           exact norm_ Yc (hJ1_6_8 (v411) _ ⟨hHeld,(rR HO412),(bB BK402),(bB BK403),iIsS60,kB,bH⟩)
          ·skip
           refine box_step ?hg (N:=5) ?hd (cs:=#[.bool false,.slice none 0 0,.slice none 0 0]) (t:=83) ?hr ?_;(case hd=>rfl);(case hg=>rfl);(case hr=>exact Yd)
           intro gb423 hg w44 hbox hb
           replace HB:=Aside0.mk (below_step bH hb);have BK423:=Aside0.mk (hbox);have GW423:=Aside0.mk ((by rw [hg];exact (keep_size (w:=w) (g:=g) (row:=none) kB):w.heap.size ≤ gb423));have GE423:=Aside0.mk ((Nat.le_trans HW0.out (by rw [hg];exact (keep_size (w:=w) (g:=g) (row:=none) kB):w.heap.size ≤ gb423):w0.heap.size ≤ gb423));replace HK:=Aside0.mk (KeepBut.trans kB (KeepBut.of_below hb g none) (.inl rfl));have NB402_423:=Aside0.mk ((nL BK402:gb402 ≠ gb423));have NB423_402:=Aside0.mk ((nG BK402:gb423 ≠ gb402));replace BK402:=Aside0.mk (blk_below (bB BK402) hb);have NB403_423:=Aside0.mk ((nL BK403:gb403 ≠ gb423));have NB423_403:=Aside0.mk ((nG BK403:gb423 ≠ gb403));replace BK403:=Aside0.mk (blk_below (bB BK403) hb);have NB0_423:=Aside0.mk ((by rw [hg];exact Nat.ne_of_lt (IsS60.lt (show IsS60 w0 _ g s0_0 t408 t409 from iIsS60)):g ≠ gb423));have NB423_0:=Aside0.mk ((by rw [hg];exact Nat.ne_of_gt (IsS60.lt (show IsS60 w0 _ g s0_0 t408 t409 from iIsS60)):gb423 ≠ g));replace HI0:=Aside0.mk (IsS60.below iIsS60 hb)
           clear hb hbox hg
           refine hK.out _ _ ((blk_cell BK402.out 0).trans rfl) (fun hHeld=>?_)
           clear hK K
           refine nM (N:=some 5) ?_
           exact norm_ Yc (hJ1_6_16 (gb423) _ ⟨hHeld,(bB BK402),(bB BK403),(bB BK423),GW423.out,GE423.out,NB0_423.out,NB423_0.out,NB402_423.out,NB423_402.out,NB403_423.out,NB423_403.out,iIsS60,kB,bH⟩)
        ·skip
         rintro gb423 w44 ⟨hS_,h0_,h1_,h2_,h3_,h4_,h5_,h6_,h7_,h8_,h9_,h10_,h11_,h12_,h13_⟩
         have n0_:Aside0 (w44.heap[gb402]? = some (.cells #[.slice A1_0 l1_0.length c1_0] 26 (0,0))):=⟨h0_⟩
         have n1_:Aside0 (w44.heap[gb403]? = some (.cells #[.bool false,.slice none 0 0,.slice none 0 0] 83 (0,0))):=⟨h1_⟩
         have n2_:Aside0 (w44.heap[gb423]? = some (.cells #[.bool false,.slice none 0 0,.slice none 0 0] 83 (0,0))):=⟨h2_⟩
         have n3_:Aside0 (w.heap.size ≤ gb423):=⟨h3_⟩
         have n4_:Aside0 (w0.heap.size ≤ gb423):=⟨h4_⟩
         have n5_:Aside0 (g ≠ gb423):=⟨h5_⟩
         have n6_:Aside0 (gb423 ≠ g):=⟨h6_⟩
         have n7_:Aside0 (gb402 ≠ gb423):=⟨h7_⟩
         have n8_:Aside0 (gb423 ≠ gb402):=⟨h8_⟩
         have n9_:Aside0 (gb403 ≠ gb423):=⟨h9_⟩
         have n10_:Aside0 (gb423 ≠ gb403):=⟨h10_⟩
         have n11_:Aside0 (IsS60 w0 w44 g s0_0 t408 t409):=⟨h11_⟩
         have n12_:Aside0 (KeepBut w w44 g none):=⟨h12_⟩
         have n13_:Aside0 (Below w0.heap.size w0 w44):=⟨h13_⟩
         clear BK402
         clear BK403
         clear HI0
         clear HK
         clear HB
         clear h0_ h1_ h2_ h3_ h4_ h5_ h6_ h7_ h8_ h9_ h10_ h11_ h12_ h13_
         have BK402:=n0_
         have BK403:=n1_
         have BK423:=n2_
         have GW423:=n3_
         have GE423:=n4_
         have NB0_423:=n5_
         have NB423_0:=n6_
         have NB402_423:=n7_
         have NB423_402:=n8_
         have NB403_423:=n9_
         have NB423_403:=n10_
         have HI0:=n11_
         have HK:=n12_
         have HB:=n13_
         clear n0_ n1_ n2_ n3_ n4_ n5_ n6_ n7_ n8_ n9_ n10_ n11_ n12_ n13_
         have hHeld:w44.cell? ⟨gb402,0,none⟩ = some (.slice A1_0 l1_0.length c1_0):=hS_
         refine norm_ (a':=?_) ?_ ?_
         rotate_left
         ·simp only [putAll,Act.put,List.setIfInBounds_toArray,List.set_cons_zero,List.set_cons_succ]
          rfl
         refine one_ (i:=8) (N:=some 14) #[true,true,true,true,true,true,true,true,true,true,true,true,false,false,false,false,true,false] rfl rfl (one_of HT_.out (by kernel_rfl)) (by decide) (fun K hK=>?_)
         refine goes_ Try.func74 (by kernel_rfl) rfl #[.pointer (some ⟨g,0,none⟩),.agg #[.slice A1_0 l1_0.length c1_0],.int .i64 (wrap64 (1 + t407)),.int .i64 3] (by rfl) rfl rfl Ya ?_
         with_reducible refine (spec_l1Cur_term.calls k g s0_0 t408 t409 _ _ l1_0 (wrap64 (1 + t407)) 3 t410 t413 t414 w0 _ ?side1 ?side2 ?side3 ?side4 ?side5 A5.out).mono ?_
         (case side1=>exact iIsS60)
         (case side2=>exact bH)
         (case side3=>exact YF)
         (case side4=>exact Zh)
         (case side5=>exact hf1_0)
         rintro e w45 ⟨v411,rfl,ho0,hi,hb,hk⟩
         refine ⟨_,rfl,?_⟩
         replace BK402:=Aside0.mk (KeepBut.blk hk (g':=gb402) (o:=.cells #[.slice A1_0 l1_0.length c1_0] 26 (0,0)) (bB BK402) NB402_0.out (by simp));replace BK403:=Aside0.mk (KeepBut.blk hk (g':=gb403) (o:=.cells #[.bool false,.slice none 0 0,.slice none 0 0] 83 (0,0)) (bB BK403) NB403_0.out (by simp));replace BK423:=Aside0.mk (KeepBut.blk hk (g':=gb423) (o:=.cells #[.bool false,.slice none 0 0,.slice none 0 0] 83 (0,0)) (bB BK423) NB423_0.out (by simp));have HO412:=Aside0.mk (Kd.R_lower ho0 (keep_size (w:=w) (g:=g) (row:=none) kB));replace HK:=Aside0.mk (KeepBut.trans kB hk (.inl rfl));replace HB:=Aside0.mk (hb);replace HI0:=Aside0.mk (hi)
         (try clear hb)
         (try clear hb2)
         (try clear hk)
         (try clear hi)
         (try clear ho0)
         refine hK.out _ _ ((blk_cell BK402.out 0).trans rfl) (fun hHeld=>?_)
         clear hK K
         refine nM (N:=some 14) ?_
         exact norm_ Yc (hJ1_6_8_16 (v411,gb423) _ ⟨hHeld,(rR HO412),(bB BK402),(bB BK403),(bB BK423),GW423.out,GE423.out,NB0_423.out,NB423_0.out,NB402_423.out,NB423_402.out,NB403_423.out,NB423_403.out,iIsS60,kB,bH⟩)
       ·skip
        rintro v411 w44 ⟨hS_,h0_,h1_,h2_,h3_,h4_,h5_⟩
        have n0_:Aside0 (Kd.R (Kd.int .i64) 3 w44 w.heap.size (fun _=>True) v411 t410):=⟨h0_⟩
        have n1_:Aside0 (w44.heap[gb402]? = some (.cells #[.slice A1_0 l1_0.length c1_0] 26 (0,0))):=⟨h1_⟩
        have n2_:Aside0 (w44.heap[gb403]? = some (.cells #[.bool false,.slice none 0 0,.slice none 0 0] 83 (0,0))):=⟨h2_⟩
        have n3_:Aside0 (IsS60 w0 w44 g s0_0 t413 t414):=⟨h3_⟩
        have n4_:Aside0 (KeepBut w w44 g none):=⟨h4_⟩
        have n5_:Aside0 (Below w0.heap.size w0 w44):=⟨h5_⟩
        clear BK402
        clear BK403
        clear HI0
        clear HK
        clear HB
        clear h0_ h1_ h2_ h3_ h4_ h5_
        have HO412:=n0_
        have BK402:=n1_
        have BK403:=n2_
        have HI0:=n3_
        have HK:=n4_
        have HB:=n5_
        clear n0_ n1_ n2_ n3_ n4_ n5_
        have hHeld:w44.cell? ⟨gb402,0,none⟩ = some (.slice A1_0 l1_0.length c1_0):=hS_
        refine norm_ (a':=?_) ?_ ?_
        rotate_left
        ·simp only [putAll,Act.put,List.setIfInBounds_toArray,List.set_cons_zero,List.set_cons_succ]
         rfl
        refine two_ (i:=12) (j:=16) (Ni:=some 18) (Nj:=some 5) #[true,true,true,true,true,true,true,true,true,true,true,true,true,false,false,false,false,false] #[true,true,true,true,true,true,true,true,true,true,true,true,false,false,false,false,true,false] rfl rfl rfl rfl (two_of HT_.out (by kernel_rfl)) (by decide) (by decide) (fun K hK=>?_) (fun K hK=>?_)
        ·skip
         refine goes_ Try.func73 (by kernel_rfl) rfl #[.pointer (some ⟨g,0,none⟩),.int .i64 2] (by rfl) rfl rfl Ya ?_
         with_reducible refine (spec_l1Cur_pick.calls g s0_0 t413 t414 2 t415 t416 t417 w0 _ ?side1 ?side2 A6.out).mono ?_
         (case side1=>exact iIsS60)
         (case side2=>exact bH)
         rintro e w45 ⟨rfl,hi,hb,hk⟩
         refine ⟨_,rfl,?_⟩
         replace BK402:=Aside0.mk (KeepBut.blk hk (g':=gb402) (o:=.cells #[.slice A1_0 l1_0.length c1_0] 26 (0,0)) (bB BK402) NB402_0.out (by simp));replace BK403:=Aside0.mk (KeepBut.blk hk (g':=gb403) (o:=.cells #[.bool false,.slice none 0 0,.slice none 0 0] 83 (0,0)) (bB BK403) NB403_0.out (by simp));replace HO412:=Aside0.mk (Kd.R_mono (Kd.R_keep (IsS60.apart (show IsS60 w0 _ g s0_0 t413 t414 from iIsS60) (rR HO412) (by decide)) hk (fun _ h=>h.2)) (fun _ h=>h.1));replace HK:=Aside0.mk (KeepBut.trans kB hk (.inl rfl));replace HB:=Aside0.mk (hb);replace HI0:=Aside0.mk (hi)
         (try clear hb)
         (try clear hb2)
         (try clear hk)
         (try clear hi)
         refine hK.out _ _ ((blk_cell BK402.out 0).trans rfl) (fun hHeld=>?_)
         clear hK K
         refine nM (N:=some 18) ?_
         refine pU (i:=13) (N:=some 19) #[true,true,true,true,true,true,true,true,true,true,true,true,true,true,false,false,false,false] (any_of HT_.out (by kernel_rfl)) ?_
         exact norm_ Yc (hJ1_6_8_12 (v411) _ ⟨hHeld,(rR HO412),(bB BK402),(bB BK403),iIsS60,kB,bH⟩)
        ·skip
         refine box_step ?hg (N:=5) ?hd (cs:=#[.bool false,.slice none 0 0,.slice none 0 0]) (t:=83) ?hr ?_;(case hd=>rfl);(case hg=>rfl);(case hr=>exact Yd)
         intro gb423 hg w45 hbox hb
         replace HO412:=Aside0.mk (Kd.R_below (rR HO412) hb);replace HB:=Aside0.mk (below_step bH hb);have BK423:=Aside0.mk (hbox);have GW423:=Aside0.mk ((by rw [hg];exact (keep_size (w:=w) (g:=g) (row:=none) kB):w.heap.size ≤ gb423));have GE423:=Aside0.mk ((Nat.le_trans HW0.out (by rw [hg];exact (keep_size (w:=w) (g:=g) (row:=none) kB):w.heap.size ≤ gb423):w0.heap.size ≤ gb423));replace HK:=Aside0.mk (KeepBut.trans kB (KeepBut.of_below hb g none) (.inl rfl));have NB402_423:=Aside0.mk ((nL BK402:gb402 ≠ gb423));have NB423_402:=Aside0.mk ((nG BK402:gb423 ≠ gb402));replace BK402:=Aside0.mk (blk_below (bB BK402) hb);have NB403_423:=Aside0.mk ((nL BK403:gb403 ≠ gb423));have NB423_403:=Aside0.mk ((nG BK403:gb423 ≠ gb403));replace BK403:=Aside0.mk (blk_below (bB BK403) hb);have NB0_423:=Aside0.mk ((by rw [hg];exact Nat.ne_of_lt (IsS60.lt (show IsS60 w0 _ g s0_0 t413 t414 from iIsS60)):g ≠ gb423));have NB423_0:=Aside0.mk ((by rw [hg];exact Nat.ne_of_gt (IsS60.lt (show IsS60 w0 _ g s0_0 t413 t414 from iIsS60)):gb423 ≠ g));replace HI0:=Aside0.mk (IsS60.below iIsS60 hb)
         clear hb hbox hg
         refine hK.out _ _ ((blk_cell BK402.out 0).trans rfl) (fun hHeld=>?_)
         clear hK K
         refine nM (N:=some 5) ?_
         exact norm_ Yc (hJ1_6_8_16 (v411,gb423) _ ⟨hHeld,(rR HO412),(bB BK402),(bB BK403),(bB BK423),GW423.out,GE423.out,NB0_423.out,NB423_0.out,NB402_423.out,NB423_402.out,NB403_423.out,NB423_403.out,iIsS60,kB,bH⟩)
      ·skip
       rintro ⟨v411,gb423⟩ w45 ⟨hS_,h0_,h1_,h2_,h3_,h4_,h5_,h6_,h7_,h8_,h9_,h10_,h11_,h12_,h13_,h14_⟩
       have n0_:Aside0 (Kd.R (Kd.int .i64) 3 w45 w.heap.size (fun _=>True) v411 t410):=⟨h0_⟩
       have n1_:Aside0 (w45.heap[gb402]? = some (.cells #[.slice A1_0 l1_0.length c1_0] 26 (0,0))):=⟨h1_⟩
       have n2_:Aside0 (w45.heap[gb403]? = some (.cells #[.bool false,.slice none 0 0,.slice none 0 0] 83 (0,0))):=⟨h2_⟩
       have n3_:Aside0 (w45.heap[gb423]? = some (.cells #[.bool false,.slice none 0 0,.slice none 0 0] 83 (0,0))):=⟨h3_⟩
       have n4_:Aside0 (w.heap.size ≤ gb423):=⟨h4_⟩
       have n5_:Aside0 (w0.heap.size ≤ gb423):=⟨h5_⟩
       have n6_:Aside0 (g ≠ gb423):=⟨h6_⟩
       have n7_:Aside0 (gb423 ≠ g):=⟨h7_⟩
       have n8_:Aside0 (gb402 ≠ gb423):=⟨h8_⟩
       have n9_:Aside0 (gb423 ≠ gb402):=⟨h9_⟩
       have n10_:Aside0 (gb403 ≠ gb423):=⟨h10_⟩
       have n11_:Aside0 (gb423 ≠ gb403):=⟨h11_⟩
       have n12_:Aside0 (IsS60 w0 w45 g s0_0 t413 t414):=⟨h12_⟩
       have n13_:Aside0 (KeepBut w w45 g none):=⟨h13_⟩
       have n14_:Aside0 (Below w0.heap.size w0 w45):=⟨h14_⟩
       clear BK402
       clear BK403
       clear HI0
       clear HK
       clear HB
       clear h0_ h1_ h2_ h3_ h4_ h5_ h6_ h7_ h8_ h9_ h10_ h11_ h12_ h13_ h14_
       have HO412:=n0_
       have BK402:=n1_
       have BK403:=n2_
       have BK423:=n3_
       have GW423:=n4_
       have GE423:=n5_
       have NB0_423:=n6_
       have NB423_0:=n7_
       have NB402_423:=n8_
       have NB423_402:=n9_
       have NB403_423:=n10_
       have NB423_403:=n11_
       have HI0:=n12_
       have HK:=n13_
       have HB:=n14_
       clear n0_ n1_ n2_ n3_ n4_ n5_ n6_ n7_ n8_ n9_ n10_ n11_ n12_ n13_ n14_
       have hHeld:w45.cell? ⟨gb402,0,none⟩ = some (.slice A1_0 l1_0.length c1_0):=hS_
       refine norm_ (a':=?_) ?_ ?_
       rotate_left
       ·simp only [putAll,Act.put,List.setIfInBounds_toArray,List.set_cons_zero,List.set_cons_succ]
        rfl
       refine one_ (i:=12) (N:=some 18) #[true,true,true,true,true,true,true,true,true,true,true,true,true,false,false,false,true,false] rfl rfl (one_of HT_.out (by kernel_rfl)) (by decide) (fun K hK=>?_)
       refine goes_ Try.func73 (by kernel_rfl) rfl #[.pointer (some ⟨g,0,none⟩),.int .i64 2] (by rfl) rfl rfl Ya ?_
       with_reducible refine (spec_l1Cur_pick.calls g s0_0 t413 t414 2 t415 t416 t417 w0 _ ?side1 ?side2 A6.out).mono ?_
       (case side1=>exact iIsS60)
       (case side2=>exact bH)
       rintro e w46 ⟨rfl,hi,hb,hk⟩
       refine ⟨_,rfl,?_⟩
       replace BK402:=Aside0.mk (KeepBut.blk hk (g':=gb402) (o:=.cells #[.slice A1_0 l1_0.length c1_0] 26 (0,0)) (bB BK402) NB402_0.out (by simp));replace BK403:=Aside0.mk (KeepBut.blk hk (g':=gb403) (o:=.cells #[.bool false,.slice none 0 0,.slice none 0 0] 83 (0,0)) (bB BK403) NB403_0.out (by simp));replace HO412:=Aside0.mk (Kd.R_mono (Kd.R_keep (IsS60.apart (show IsS60 w0 _ g s0_0 t413 t414 from iIsS60) (rR HO412) (by decide)) hk (fun _ h=>h.2)) (fun _ h=>h.1));replace BK423:=Aside0.mk (KeepBut.blk hk (g':=gb423) (o:=.cells #[.bool false,.slice none 0 0,.slice none 0 0] 83 (0,0)) (bB BK423) NB423_0.out (by simp));replace HK:=Aside0.mk (KeepBut.trans kB hk (.inl rfl));replace HB:=Aside0.mk (hb);replace HI0:=Aside0.mk (hi)
       (try clear hb)
       (try clear hb2)
       (try clear hk)
       (try clear hi)
       refine hK.out _ _ ((blk_cell BK402.out 0).trans rfl) (fun hHeld=>?_)
       clear hK K
       refine nM (N:=some 18) ?_
       refine pU (i:=13) (N:=some 19) #[true,true,true,true,true,true,true,true,true,true,true,true,true,true,false,false,true,false] (any_of HT_.out (by kernel_rfl)) ?_
       exact norm_ Yc (hJ1_6_8_12_16 (v411,gb423) _ ⟨hHeld,(rR HO412),(bB BK402),(bB BK403),(bB BK423),GW423.out,GE423.out,NB0_423.out,NB423_0.out,NB402_423.out,NB423_402.out,NB403_423.out,NB423_403.out,iIsS60,kB,bH⟩)
     ·skip
      rintro v411 w45 ⟨hS_,h0_,h1_,h2_,h3_,h4_,h5_⟩
      have n0_:Aside0 (Kd.R (Kd.int .i64) 3 w45 w.heap.size (fun _=>True) v411 t410):=⟨h0_⟩
      have n1_:Aside0 (w45.heap[gb402]? = some (.cells #[.slice A1_0 l1_0.length c1_0] 26 (0,0))):=⟨h1_⟩
      have n2_:Aside0 (w45.heap[gb403]? = some (.cells #[.bool false,.slice none 0 0,.slice none 0 0] 83 (0,0))):=⟨h2_⟩
      have n3_:Aside0 (IsS60 w0 w45 g s0_0 t416 t417):=⟨h3_⟩
      have n4_:Aside0 (KeepBut w w45 g none):=⟨h4_⟩
      have n5_:Aside0 (Below w0.heap.size w0 w45):=⟨h5_⟩
      clear BK402
      clear BK403
      clear HI0
      clear HK
      clear HB
      clear h0_ h1_ h2_ h3_ h4_ h5_
      have HO412:=n0_
      have BK402:=n1_
      have BK403:=n2_
      have HI0:=n3_
      have HK:=n4_
      have HB:=n5_
      clear n0_ n1_ n2_ n3_ n4_ n5_
      have hHeld:w45.cell? ⟨gb402,0,none⟩ = some (.slice A1_0 l1_0.length c1_0):=hS_
      refine norm_ (a':=?_) ?_ ?_
      rotate_left
      ·simp only [putAll,Act.put,List.setIfInBounds_toArray,List.set_cons_zero,List.set_cons_succ]
       rfl
      refine two_ (i:=14) (j:=16) (Ni:=some 20) (Nj:=some 5) #[true,true,true,true,true,true,true,true,true,true,true,true,true,true,true,false,false,false] #[true,true,true,true,true,true,true,true,true,true,true,true,true,true,false,false,true,false] rfl rfl rfl rfl (two_of HT_.out (by kernel_rfl)) (by decide) (by decide) (fun K hK=>?_) (fun K hK=>?_)
      ·skip
       refine goes_ Try.func74 (by kernel_rfl) rfl #[.pointer (some ⟨g,0,none⟩),.agg #[.slice A1_0 l1_0.length c1_0],.int .i64 (wrap64 (1 + t415)),.int .i64 3] (by rfl) rfl rfl Ya ?_
       with_reducible refine (spec_l1Cur_term.calls k g s0_0 t416 t417 _ _ l1_0 (wrap64 (1 + t415)) 3 t418 t421 t422 w0 _ ?side1 ?side2 ?side3 ?side4 ?side5 A7.out).mono ?_
       (case side1=>exact iIsS60)
       (case side2=>exact bH)
       (case side3=>exact YF)
       (case side4=>exact Zh)
       (case side5=>exact hf1_0)
       rintro e w46 ⟨v419,rfl,ho0,hi,hb,hk⟩
       refine ⟨_,rfl,?_⟩
       replace BK402:=Aside0.mk (KeepBut.blk hk (g':=gb402) (o:=.cells #[.slice A1_0 l1_0.length c1_0] 26 (0,0)) (bB BK402) NB402_0.out (by simp));replace BK403:=Aside0.mk (KeepBut.blk hk (g':=gb403) (o:=.cells #[.bool false,.slice none 0 0,.slice none 0 0] 83 (0,0)) (bB BK403) NB403_0.out (by simp));have HO420:=Aside0.mk (Kd.R_lower (Kd.R_new' ho0 (Kd.R_lt (rR HO412))) (keep_size (w:=w) (g:=g) (row:=none) kB));replace HO412:=Aside0.mk (Kd.R_mono (Kd.R_told (Kd.R_oldK (IsS60.apart (show IsS60 w0 _ g s0_0 t416 t417 from iIsS60) (rR HO412) (by decide)) hk) (Kd.R_base ho0)) (fun _ h_=>h_.1));replace HK:=Aside0.mk (KeepBut.trans kB hk (.inl rfl));replace HB:=Aside0.mk (hb);replace HI0:=Aside0.mk (hi)
       (try clear hb)
       (try clear hb2)
       (try clear hk)
       (try clear hi)
       (try clear ho0)
       obtain ⟨Ao47,co47,eo47⟩:=Kd.R_slice HO420.out
       (first|subst eo47|(injection eo47 with f1_ f2_ f3_;have f4_:=f1_.symm;have f5_:=f3_.symm;clear f1_ f2_ f3_;subst f4_;subst f5_))
       obtain ⟨Ao48,co48,eo48⟩:=Kd.R_slice HO412.out
       (first|subst eo48|(injection eo48 with f1_ f2_ f3_;have f4_:=f1_.symm;have f5_:=f3_.symm;clear f1_ f2_ f3_;subst f4_;subst f5_))
       refine hK.out _ _ ((blk_cell BK402.out 0).trans rfl) (fun hHeld=>?_)
       clear hK K
       refine nM (N:=some 20) ?_
       refine pU (i:=15) (N:=some 21) #[true,true,true,true,true,true,true,true,true,true,true,true,true,true,true,true,false,false] (any_of HT_.out (by kernel_rfl)) ?_
       exact norm_ Yc (hJ1_6_8_12_14 (.slice Ao48 t410.length co48,.slice Ao47 t418.length co47) _ ⟨hHeld,YM,YL,(bB BK402),(bB BK403),iIsS60,kB,bH⟩)
      ·skip
       refine box_step ?hg (N:=5) ?hd (cs:=#[.bool false,.slice none 0 0,.slice none 0 0]) (t:=83) ?hr ?_;(case hd=>rfl);(case hg=>rfl);(case hr=>exact Yd)
       intro gb423 hg w46 hbox hb
       replace HO412:=Aside0.mk (Kd.R_below (rR HO412) hb);replace HB:=Aside0.mk (below_step bH hb);have BK423:=Aside0.mk (hbox);have GW423:=Aside0.mk ((by rw [hg];exact (keep_size (w:=w) (g:=g) (row:=none) kB):w.heap.size ≤ gb423));have GE423:=Aside0.mk ((Nat.le_trans HW0.out (by rw [hg];exact (keep_size (w:=w) (g:=g) (row:=none) kB):w.heap.size ≤ gb423):w0.heap.size ≤ gb423));replace HK:=Aside0.mk (KeepBut.trans kB (KeepBut.of_below hb g none) (.inl rfl));have NB402_423:=Aside0.mk ((nL BK402:gb402 ≠ gb423));have NB423_402:=Aside0.mk ((nG BK402:gb423 ≠ gb402));replace BK402:=Aside0.mk (blk_below (bB BK402) hb);have NB403_423:=Aside0.mk ((nL BK403:gb403 ≠ gb423));have NB423_403:=Aside0.mk ((nG BK403:gb423 ≠ gb403));replace BK403:=Aside0.mk (blk_below (bB BK403) hb);have NB0_423:=Aside0.mk ((by rw [hg];exact Nat.ne_of_lt (IsS60.lt (show IsS60 w0 _ g s0_0 t416 t417 from iIsS60)):g ≠ gb423));have NB423_0:=Aside0.mk ((by rw [hg];exact Nat.ne_of_gt (IsS60.lt (show IsS60 w0 _ g s0_0 t416 t417 from iIsS60)):gb423 ≠ g));replace HI0:=Aside0.mk (IsS60.below iIsS60 hb)
       clear hb hbox hg
       refine hK.out _ _ ((blk_cell BK402.out 0).trans rfl) (fun hHeld=>?_)
       clear hK K
       refine nM (N:=some 5) ?_
       exact norm_ Yc (hJ1_6_8_12_16 (v411,gb423) _ ⟨hHeld,(rR HO412),(bB BK402),(bB BK403),(bB BK423),GW423.out,GE423.out,NB0_423.out,NB423_0.out,NB402_423.out,NB423_402.out,NB403_423.out,NB423_403.out,iIsS60,kB,bH⟩)
    ·skip
     rintro ⟨v411,gb423⟩ w46 ⟨hS_,h0_,h1_,h2_,h3_,h4_,h5_,h6_,h7_,h8_,h9_,h10_,h11_,h12_,h13_,h14_⟩
     have n0_:Aside0 (Kd.R (Kd.int .i64) 3 w46 w.heap.size (fun _=>True) v411 t410):=⟨h0_⟩
     have n1_:Aside0 (w46.heap[gb402]? = some (.cells #[.slice A1_0 l1_0.length c1_0] 26 (0,0))):=⟨h1_⟩
     have n2_:Aside0 (w46.heap[gb403]? = some (.cells #[.bool false,.slice none 0 0,.slice none 0 0] 83 (0,0))):=⟨h2_⟩
     have n3_:Aside0 (w46.heap[gb423]? = some (.cells #[.bool false,.slice none 0 0,.slice none 0 0] 83 (0,0))):=⟨h3_⟩
     have n4_:Aside0 (w.heap.size ≤ gb423):=⟨h4_⟩
     have n5_:Aside0 (w0.heap.size ≤ gb423):=⟨h5_⟩
     have n6_:Aside0 (g ≠ gb423):=⟨h6_⟩
     have n7_:Aside0 (gb423 ≠ g):=⟨h7_⟩
     have n8_:Aside0 (gb402 ≠ gb423):=⟨h8_⟩
     have n9_:Aside0 (gb423 ≠ gb402):=⟨h9_⟩
     have n10_:Aside0 (gb403 ≠ gb423):=⟨h10_⟩
     have n11_:Aside0 (gb423 ≠ gb403):=⟨h11_⟩
     have n12_:Aside0 (IsS60 w0 w46 g s0_0 t416 t417):=⟨h12_⟩
     have n13_:Aside0 (KeepBut w w46 g none):=⟨h13_⟩
     have n14_:Aside0 (Below w0.heap.size w0 w46):=⟨h14_⟩
     clear BK402
     clear BK403
     clear HI0
     clear HK
     clear HB
     clear h0_ h1_ h2_ h3_ h4_ h5_ h6_ h7_ h8_ h9_ h10_ h11_ h12_ h13_ h14_
     have HO412:=n0_
     have BK402:=n1_
     have BK403:=n2_
     have BK423:=n3_
     have GW423:=n4_
     have GE423:=n5_
     have NB0_423:=n6_
     have NB423_0:=n7_
     have NB402_423:=n8_
     have NB423_402:=n9_
     have NB403_423:=n10_
     have NB423_403:=n11_
     have HI0:=n12_
     have HK:=n13_
     have HB:=n14_
     clear n0_ n1_ n2_ n3_ n4_ n5_ n6_ n7_ n8_ n9_ n10_ n11_ n12_ n13_ n14_
     have hHeld:w46.cell? ⟨gb402,0,none⟩ = some (.slice A1_0 l1_0.length c1_0):=hS_
     refine norm_ (a':=?_) ?_ ?_
     rotate_left
     ·simp only [putAll,Act.put,List.setIfInBounds_toArray,List.set_cons_zero,List.set_cons_succ]
      rfl
     refine one_ (i:=14) (N:=some 20) #[true,true,true,true,true,true,true,true,true,true,true,true,true,true,true,false,true,false] rfl rfl (one_of HT_.out (by kernel_rfl)) (by decide) (fun K hK=>?_)
     refine goes_ Try.func74 (by kernel_rfl) rfl #[.pointer (some ⟨g,0,none⟩),.agg #[.slice A1_0 l1_0.length c1_0],.int .i64 (wrap64 (1 + t415)),.int .i64 3] (by rfl) rfl rfl Ya ?_
     with_reducible refine (spec_l1Cur_term.calls k g s0_0 t416 t417 _ _ l1_0 (wrap64 (1 + t415)) 3 t418 t421 t422 w0 _ ?side1 ?side2 ?side3 ?side4 ?side5 A7.out).mono ?_
     (case side1=>exact iIsS60)
     (case side2=>exact bH)
     (case side3=>exact YF)
     (case side4=>exact Zh)
     (case side5=>exact hf1_0)
     rintro e w47 ⟨v419,rfl,ho0,hi,hb,hk⟩
     refine ⟨_,rfl,?_⟩
     replace BK402:=Aside0.mk (KeepBut.blk hk (g':=gb402) (o:=.cells #[.slice A1_0 l1_0.length c1_0] 26 (0,0)) (bB BK402) NB402_0.out (by simp));replace BK403:=Aside0.mk (KeepBut.blk hk (g':=gb403) (o:=.cells #[.bool false,.slice none 0 0,.slice none 0 0] 83 (0,0)) (bB BK403) NB403_0.out (by simp));replace BK423:=Aside0.mk (KeepBut.blk hk (g':=gb423) (o:=.cells #[.bool false,.slice none 0 0,.slice none 0 0] 83 (0,0)) (bB BK423) NB423_0.out (by simp));have HO420:=Aside0.mk (Kd.R_lower (Kd.R_new' ho0 (Kd.R_lt (rR HO412))) (keep_size (w:=w) (g:=g) (row:=none) kB));replace HO412:=Aside0.mk (Kd.R_mono (Kd.R_told (Kd.R_oldK (IsS60.apart (show IsS60 w0 _ g s0_0 t416 t417 from iIsS60) (rR HO412) (by decide)) hk) (Kd.R_base ho0)) (fun _ h_=>h_.1));replace HK:=Aside0.mk (KeepBut.trans kB hk (.inl rfl));replace HB:=Aside0.mk (hb);replace HI0:=Aside0.mk (hi)
     (try clear hb)
     (try clear hb2)
     (try clear hk)
     (try clear hi)
     (try clear ho0)
     obtain ⟨Ao48,co48,eo48⟩:=Kd.R_slice HO420.out
     (first|subst eo48|(injection eo48 with f1_ f2_ f3_;have f4_:=f1_.symm;have f5_:=f3_.symm;clear f1_ f2_ f3_;subst f4_;subst f5_))
     obtain ⟨Ao49,co49,eo49⟩:=Kd.R_slice HO412.out
     (first|subst eo49|(injection eo49 with f1_ f2_ f3_;have f4_:=f1_.symm;have f5_:=f3_.symm;clear f1_ f2_ f3_;subst f4_;subst f5_))
     refine hK.out _ _ ((blk_cell BK402.out 0).trans rfl) (fun hHeld=>?_)
     clear hK K
     refine nM (N:=some 20) ?_
     refine pU (i:=15) (N:=some 21) #[true,true,true,true,true,true,true,true,true,true,true,true,true,true,true,true,true,false] (any_of HT_.out (by kernel_rfl)) ?_
     exact norm_ Yc (hJ1_6_8_12_14_16 (.slice Ao49 t410.length co49,.slice Ao48 t418.length co48,gb423) _ ⟨hHeld,YM,YL,(bB BK402),(bB BK403),(bB BK423),GW423.out,GE423.out,NB0_423.out,NB423_0.out,NB402_423.out,NB423_402.out,NB403_423.out,NB423_403.out,iIsS60,kB,bH⟩)
   ·skip
    rintro ⟨v411,v419⟩ w48 ⟨hS_,h0_,h1_,h2_,h3_,h4_,h5_,h6_⟩
    have n0_:Aside0 (Kd.R (Kd.int .i64) 3 w48 w.heap.size (fun k_=>some k_ ≠ (v419:Value).ownBlock) v411 t410):=⟨h0_⟩
    have n1_:Aside0 (Kd.R (Kd.int .i64) 3 w48 w.heap.size (fun k_=>some k_ ≠ (v411:Value).ownBlock) v419 t418):=⟨h1_⟩
    have n2_:Aside0 (w48.heap[gb402]? = some (.cells #[.slice A1_0 l1_0.length c1_0] 26 (0,0))):=⟨h2_⟩
    have n3_:Aside0 (w48.heap[gb403]? = some (.cells #[.bool false,.slice none 0 0,.slice none 0 0] 83 (0,0))):=⟨h3_⟩
    have n4_:Aside0 (IsS60 w0 w48 g s0_0 t421 t422):=⟨h4_⟩
    have n5_:Aside0 (KeepBut w w48 g none):=⟨h5_⟩
    have n6_:Aside0 (Below w0.heap.size w0 w48):=⟨h6_⟩
    clear BK402
    clear BK403
    clear HI0
    clear HK
    clear HB
    clear h0_ h1_ h2_ h3_ h4_ h5_ h6_
    have HO412:=n0_
    have HO420:=n1_
    have BK402:=n2_
    have BK403:=n3_
    have HI0:=n4_
    have HK:=n5_
    have HB:=n6_
    clear n0_ n1_ n2_ n3_ n4_ n5_ n6_
    have hHeld:w48.cell? ⟨gb402,0,none⟩ = some (.slice A1_0 l1_0.length c1_0):=hS_
    obtain ⟨Ao49,co49,eo49⟩:=Kd.R_slice HO420.out
    (first|subst eo49|(injection eo49 with f1_ f2_ f3_;have f4_:=f1_.symm;have f5_:=f3_.symm;clear f1_ f2_ f3_;subst f4_;subst f5_))
    obtain ⟨Ao50,co50,eo50⟩:=Kd.R_slice HO412.out
    (first|subst eo50|(injection eo50 with f1_ f2_ f3_;have f4_:=f1_.symm;have f5_:=f3_.symm;clear f1_ f2_ f3_;subst f4_;subst f5_))
    refine norm_ (a':=?_) ?_ ?_
    rotate_left
    ·simp only [putAll,Act.put,List.setIfInBounds_toArray,List.set_cons_zero,List.set_cons_succ]
     rfl
    refine one_ (i:=16) (N:=some 5) #[true,true,true,true,true,true,true,true,true,true,true,true,true,true,true,true,true,false] rfl rfl (one_of HT_.out (by kernel_rfl)) (by decide) (fun K hK=>?_)
    refine box_step ?hg (N:=5) ?hd (cs:=#[.bool false,.slice none 0 0,.slice none 0 0]) (t:=83) ?hr ?_;(case hd=>rfl);(case hg=>rfl);(case hr=>exact Yd)
    intro gb423 hg w51 hbox hb
    replace HO412:=Aside0.mk (Kd.R_below (rR HO412) hb);replace HO420:=Aside0.mk (Kd.R_below (rR HO420) hb);replace HB:=Aside0.mk (below_step bH hb);have BK423:=Aside0.mk (hbox);have GW423:=Aside0.mk ((by rw [hg];exact (keep_size (w:=w) (g:=g) (row:=none) kB):w.heap.size ≤ gb423));have GE423:=Aside0.mk ((Nat.le_trans HW0.out (by rw [hg];exact (keep_size (w:=w) (g:=g) (row:=none) kB):w.heap.size ≤ gb423):w0.heap.size ≤ gb423));replace HK:=Aside0.mk (KeepBut.trans kB (KeepBut.of_below hb g none) (.inl rfl));have NB402_423:=Aside0.mk ((nL BK402:gb402 ≠ gb423));have NB423_402:=Aside0.mk ((nG BK402:gb423 ≠ gb402));replace BK402:=Aside0.mk (blk_below (bB BK402) hb);have NB403_423:=Aside0.mk ((nL BK403:gb403 ≠ gb423));have NB423_403:=Aside0.mk ((nG BK403:gb423 ≠ gb403));replace BK403:=Aside0.mk (blk_below (bB BK403) hb);have NB0_423:=Aside0.mk ((by rw [hg];exact Nat.ne_of_lt (IsS60.lt (show IsS60 w0 _ g s0_0 t421 t422 from iIsS60)):g ≠ gb423));have NB423_0:=Aside0.mk ((by rw [hg];exact Nat.ne_of_gt (IsS60.lt (show IsS60 w0 _ g s0_0 t421 t422 from iIsS60)):gb423 ≠ g));replace HI0:=Aside0.mk (IsS60.below iIsS60 hb)
    clear hb hbox hg
    refine hK.out _ _ ((blk_cell BK402.out 0).trans rfl) (fun hHeld=>?_)
    clear hK K
    refine nM (N:=some 5) ?_
    exact norm_ Yc (hJ1_6_8_12_14_16 (.slice Ao50 t410.length co50,.slice Ao49 t418.length co49,gb423) _ ⟨hHeld,(rR HO412),(rR HO420),(bB BK402),(bB BK403),(bB BK423),GW423.out,GE423.out,NB0_423.out,NB423_0.out,NB402_423.out,NB423_402.out,NB403_423.out,NB423_403.out,iIsS60,kB,bH⟩)
  rintro ⟨v411,v419,gb423⟩ w49 ⟨hS_,h0_,h1_,h2_,h3_,h4_,h5_,h6_,h7_,h8_,h9_,h10_,h11_,h12_,h13_,h14_,h15_⟩
  have n0_:Aside0 (Kd.R (Kd.int .i64) 3 w49 w.heap.size (fun k_=>some k_ ≠ (v419:Value).ownBlock) v411 t410):=⟨h0_⟩
  have n1_:Aside0 (Kd.R (Kd.int .i64) 3 w49 w.heap.size (fun k_=>some k_ ≠ (v411:Value).ownBlock) v419 t418):=⟨h1_⟩
  have n2_:Aside0 (w49.heap[gb402]? = some (.cells #[.slice A1_0 l1_0.length c1_0] 26 (0,0))):=⟨h2_⟩
  have n3_:Aside0 (w49.heap[gb403]? = some (.cells #[.bool false,.slice none 0 0,.slice none 0 0] 83 (0,0))):=⟨h3_⟩
  have n4_:Aside0 (w49.heap[gb423]? = some (.cells #[.bool false,.slice none 0 0,.slice none 0 0] 83 (0,0))):=⟨h4_⟩
  have n5_:Aside0 (w.heap.size ≤ gb423):=⟨h5_⟩
  have n6_:Aside0 (w0.heap.size ≤ gb423):=⟨h6_⟩
  have n7_:Aside0 (g ≠ gb423):=⟨h7_⟩
  have n8_:Aside0 (gb423 ≠ g):=⟨h8_⟩
  have n9_:Aside0 (gb402 ≠ gb423):=⟨h9_⟩
  have n10_:Aside0 (gb423 ≠ gb402):=⟨h10_⟩
  have n11_:Aside0 (gb403 ≠ gb423):=⟨h11_⟩
  have n12_:Aside0 (gb423 ≠ gb403):=⟨h12_⟩
  have n13_:Aside0 (IsS60 w0 w49 g s0_0 t421 t422):=⟨h13_⟩
  have n14_:Aside0 (KeepBut w w49 g none):=⟨h14_⟩
  have n15_:Aside0 (Below w0.heap.size w0 w49):=⟨h15_⟩
  clear BK402
  clear BK403
  clear HI0
  clear HK
  clear HB
  clear h0_ h1_ h2_ h3_ h4_ h5_ h6_ h7_ h8_ h9_ h10_ h11_ h12_ h13_ h14_ h15_
  have HO412:=n0_
  have HO420:=n1_
  have BK402:=n2_
  have BK403:=n3_
  have BK423:=n4_
  have GW423:=n5_
  have GE423:=n6_
  have NB0_423:=n7_
  have NB423_0:=n8_
  have NB402_423:=n9_
  have NB423_402:=n10_
  have NB403_423:=n11_
  have NB423_403:=n12_
  have HI0:=n13_
  have HK:=n14_
  have HB:=n15_
  clear n0_ n1_ n2_ n3_ n4_ n5_ n6_ n7_ n8_ n9_ n10_ n11_ n12_ n13_ n14_ n15_
  have hHeld:w49.cell? ⟨gb402,0,none⟩ = some (.slice A1_0 l1_0.length c1_0):=hS_
  obtain ⟨Ao50,co50,eo50⟩:=Kd.R_slice HO420.out
  (first|subst eo50|(injection eo50 with f1_ f2_ f3_;have f4_:=f1_.symm;have f5_:=f3_.symm;clear f1_ f2_ f3_;subst f4_;subst f5_))
  obtain ⟨Ao51,co51,eo51⟩:=Kd.R_slice HO412.out
  (first|subst eo51|(injection eo51 with f1_ f2_ f3_;have f4_:=f1_.symm;have f5_:=f3_.symm;clear f1_ f2_ f3_;subst f4_;subst f5_))
  refine norm_ (a':=?_) ?_ ?_
  rotate_left
  ·simp only [putAll,Act.put,List.setIfInBounds_toArray,List.set_cons_zero,List.set_cons_succ]
   rfl
  refine one_ (i:=17) (N:=none) #[true,true,true,true,true,true,true,true,true,true,true,true,true,true,true,true,true,true] rfl rfl (one_of HT_.out (by kernel_rfl)) (by decide) (fun K hK=>?_)
  have hs52:w49.cell? ⟨gb423,0,none⟩ = some (.bool false):=(blk_cell BK423.out 0).trans rfl
  have hfs52:=blk_frozen BK423.out 0
  have hns52_0:=NB402_423.out
  have hns52_1:=NB403_423.out
  have hms52_0:=NB423_402.out
  have hms52_1:=NB423_403.out
  have hs53:w49.cell? ⟨gb423,1,none⟩ = some (.slice none 0 0):=(blk_cell BK423.out 1).trans rfl
  have hfs53:=blk_frozen BK423.out 1
  have hns53_0:=NB402_423.out
  have hns53_1:=NB403_423.out
  have hms53_0:=NB423_402.out
  have hms53_1:=NB423_403.out
  have hs54:w49.cell? ⟨gb423,2,none⟩ = some (.slice none 0 0):=(blk_cell BK423.out 2).trans rfl
  have hfs54:=blk_frozen BK423.out 2
  have hns54_0:=NB402_423.out
  have hns54_1:=NB403_423.out
  have hms54_0:=NB423_402.out
  have hms54_1:=NB423_403.out
  refine skip_ (w1:=?_) (by rfl) rfl ?_ ?_
  rotate_left
  ·go_simp
   rfl
  refine hK.out _ _ (((cell_far (p:=⟨gb423,_,none⟩) NB402_423.out _).trans (((cell_far (p:=⟨gb423,_,none⟩) NB402_423.out _).trans (((cell_far (p:=⟨gb423,_,none⟩) NB402_423.out _).trans (hHeld))))))) (fun hHeld=>?_)
  clear hK K
  refine done_ (done_of HT_.out (by kernel_rfl)) ?_
  try go_wp2_with (first|((with_reducible refine gate_callee (f:=75) rfl ?_);refine goesL_ (some 23) rfl rfl Try.func75 (by kernel_rfl) rfl #[.pointer (some ⟨g,0,none⟩),.int .i64 3] rfl Ya ?_;(with_reducible refine (spec_l1Cur_one.calls g s0_0 t421 t422 3 false t425 t426 w0 _ ?side1 ?side2 A8.out).mono ?_);(case side1=>exact iIsS60);(case side2=>exact bH);rintro e w55 ⟨rfl,hi,hb,hk⟩;refine ⟨_,rfl,?_⟩;replace BK402:=Aside0.mk (KeepBut.blk hk (g':=gb402) (o:=.cells #[.slice A1_0 l1_0.length c1_0] 26 (0,0)) YA NB402_0.out (by simp));replace BK403:=Aside0.mk (KeepBut.blk hk (g':=gb403) (o:=.cells #[.bool false,.slice none 0 0,.slice none 0 0] 83 (0,0)) Yz NB403_0.out (by simp));replace HO412:=Aside0.mk (Kd.R_mono (Kd.R_keep (IsS60.apart (show IsS60 w0 _ g s0_0 t421 t422 from iIsS60) (by (with_reducible repeat (first|apply Kd.R_alloc|apply Kd.R_drewN|apply Kd.R_drew));exact (Kd.R_mono (Kd.R_far (p:=⟨gb423,2,none⟩) (Kd.R_far (p:=⟨gb423,1,none⟩) (Kd.R_far (p:=⟨gb423,0,none⟩) (Kd.R_types HO412.out BK423.out (by decide)) (fun _ hk=>hk.2) (.bool (!t404))) (fun _ hk=>hk.2) (.slice Ao51 t410.length co51)) (fun _ hk=>hk.2) (.slice Ao50 t418.length co50)) (fun _ h_=>h_.1))) (by decide)) hk (fun _ h=>h.2)) (fun _ h=>h.1));replace HO420:=Aside0.mk (Kd.R_mono (Kd.R_keep (IsS60.apart (show IsS60 w0 _ g s0_0 t421 t422 from iIsS60) (by (with_reducible repeat (first|apply Kd.R_alloc|apply Kd.R_drewN|apply Kd.R_drew));exact (Kd.R_mono (Kd.R_far (p:=⟨gb423,2,none⟩) (Kd.R_far (p:=⟨gb423,1,none⟩) (Kd.R_far (p:=⟨gb423,0,none⟩) (Kd.R_types HO420.out BK423.out (by decide)) (fun _ hk=>hk.2) (.bool (!t404))) (fun _ hk=>hk.2) (.slice Ao51 t410.length co51)) (fun _ hk=>hk.2) (.slice Ao50 t418.length co50)) (fun _ h_=>h_.1))) (by decide)) hk (fun _ h=>h.2)) (fun _ h=>h.1));replace BK423:=Aside0.mk (KeepBut.blk hk (g':=gb423) (o:=.cells #[.bool (!t404),.slice Ao51 t410.length co51,.slice Ao50 t418.length co50] 83 (0,0)) (by (with_reducible repeat (first|refine blk_drewN ?_ _|refine blk_drew ?_|refine blk_alloc ?_ _));refine blk_put (cs:=#[.bool (!t404),.slice Ao51 t410.length co51,.slice none 0 0]) ?_ 2 _ rfl;(with_reducible repeat (first|refine blk_drewN ?_ _|refine blk_drew ?_|refine blk_alloc ?_ _));refine blk_put (cs:=#[.bool (!t404),.slice none 0 0,.slice none 0 0]) ?_ 1 _ rfl;(with_reducible repeat (first|refine blk_drewN ?_ _|refine blk_drew ?_|refine blk_alloc ?_ _));refine blk_put (cs:=#[.bool false,.slice none 0 0,.slice none 0 0]) ?_ 0 _ rfl;(with_reducible repeat (first|refine blk_drewN ?_ _|refine blk_drew ?_|refine blk_alloc ?_ _));exact BK423.out) NB423_0.out (by simp));replace HK:=Aside0.mk (KeepBut.trans kB hk (.inl rfl));replace HB:=Aside0.mk (hb);replace HI0:=Aside0.mk (hi);(try clear hb);(try clear hb2);(try clear hk);(try clear hi);have hnb56:=NB423_402.out;have hnc56:=NB402_423.out;have hnb57:=NB423_403.out;have hnc57:=NB403_423.out;have hnb58:=NB423_0.out;have hnc58:=NB0_423.out;have hcz59_0:w55.cell? ⟨gb423,0,none⟩ = some (.bool (!t404)):=(blk_cell BK423.out 0).trans rfl;have hcz59_1:w55.cell? ⟨gb423,1,none⟩ = some (.slice Ao51 t410.length co51):=(blk_cell BK423.out 1).trans rfl;have hcz59_2:w55.cell? ⟨gb423,2,none⟩ = some (.slice Ao50 t418.length co50):=(blk_cell BK423.out 2).trans rfl;have hfz59_0:=blk_frozen BK423.out 0;have hfz59_1:=blk_frozen BK423.out 1;have hfz59_2:=blk_frozen BK423.out 2;have hnb60:=NB403_402.out;have hnc60:=NB402_403.out;have hnb61:=NB403_0.out;have hnc61:=NB0_403.out;have hcz62_0:w55.cell? ⟨gb403,0,none⟩ = some (.bool false):=(blk_cell BK403.out 0).trans rfl;have hcz62_1:w55.cell? ⟨gb403,1,none⟩ = some (.slice none 0 0):=(blk_cell BK403.out 1).trans rfl;have hcz62_2:w55.cell? ⟨gb403,2,none⟩ = some (.slice none 0 0):=(blk_cell BK403.out 2).trans rfl;have hfz62_0:=blk_frozen BK403.out 0;have hfz62_1:=blk_frozen BK403.out 1;have hfz62_2:=blk_frozen BK403.out 2))
  refine bodyPost_ret (results_cell_row rfl _ _ gb403 83 #[.bool (!t404),.slice Ao51 t410.length co51,.slice Ao50 t418.length co50] (0,0) _ rfl (by (with_reducible repeat (first|refine blk_drewN ?_ _|refine blk_drew ?_|refine blk_alloc ?_ _));refine blk_put (cs:=#[.bool (!t404),.slice Ao51 t410.length co51,.slice none 0 0]) ?_ 2 _ rfl;(with_reducible repeat (first|refine blk_drewN ?_ _|refine blk_drew ?_|refine blk_alloc ?_ _));refine blk_put (cs:=#[.bool (!t404),.slice none 0 0,.slice none 0 0]) ?_ 1 _ rfl;(with_reducible repeat (first|refine blk_drewN ?_ _|refine blk_drew ?_|refine blk_alloc ?_ _));refine blk_put (cs:=#[.bool false,.slice none 0 0,.slice none 0 0]) ?_ 0 _ rfl;(with_reducible repeat (first|refine blk_drewN ?_ _|refine blk_drew ?_|refine blk_alloc ?_ _));exact BK403.out) Try.underlying83 rfl (by kernel_rfl)) rfl ?_
  exact ⟨_,_,Yb,by (with_reducible repeat (first|apply Kd.R_alloc|apply Kd.R_drewN|apply Kd.R_drew));exact Kd.R_mono (Kd.R_far (p:=⟨gb403,2,none⟩) (Kd.R_far (p:=⟨gb403,1,none⟩) (Kd.R_far (p:=⟨gb403,0,none⟩) (Kd.R_types HO412.out BK403.out (by decide)) (fun _ hk=>hk.2) (.bool (!t404))) (fun _ hk=>hk.2) (.slice Ao51 t410.length co51)) (fun _ hk=>hk.2) (.slice Ao50 t418.length co50)) (fun _ hk=>hk.1),by (with_reducible repeat (first|apply Kd.R_alloc|apply Kd.R_drewN|apply Kd.R_drew));exact Kd.R_mono (Kd.R_far (p:=⟨gb403,2,none⟩) (Kd.R_far (p:=⟨gb403,1,none⟩) (Kd.R_far (p:=⟨gb403,0,none⟩) (Kd.R_types HO420.out BK403.out (by decide)) (fun _ hk=>hk.2) (.bool (!t404))) (fun _ hk=>hk.2) (.slice Ao51 t410.length co51)) (fun _ hk=>hk.2) (.slice Ao50 t418.length co50)) (fun _ hk=>hk.1),iIsS60,bH,kB⟩

end Go.Proofs.Ytmgkflkfoccgkaa.QFnPutFor
