-- Written by this session's own program (wip/x/xprint.py, over the kit's printer); Lean checks it.
import Derived.Test.YtmgkflkfoccgkabQFnDiskx0
namespace Go.Proofs.Ytmgkflkfoccgkab.QFnDisk
open Go.RowKit Go.Proofs.YtmgkflkfoccgkabW.PrintWords Go.Proofs.YtmgkflkfoccgkabW.PrintLast Go.Proofs.YtmgkflkfoccgkabW.PrintMore
attribute [local go_sem] max2_int min2_int max_two min_two max_three min_three max_four min_four   -- for this text's walks alone
set_option linter.unusedVariables false
set_option linter.unusedSimpArgs false

/-! ### laws_big: function 6 -/
def laws_big.f (l0:List Int) (l1:List Int):Option (Bool):=if (l0.length:Int) > 1048576 then (some true) else (some (decide ((l1.length:Int) > (wrap64 (1048576 - (l0.length:Int))))))
set_option maxHeartbeats 8000000 in
set_option maxRecDepth 100000 in
theorem laws_big.calls (A0:Option Addr) (c0:Nat) (l0:List Int) (A1:Option Addr) (c1:Nat) (l1:List Int) (r:Bool) (w:World) (hr0:Kd.C (Kd.int .u8) w A0 l0.length l0) (hc0:l0.length ≤ c0) (hr1:Kd.C (Kd.int .u8) w A1 l1.length l1) (hc1:l1.length ≤ c1) (h:laws_big.f l0 l1 = some r) :
  Calls Try.prog 6 #[.slice A0 l0.length c0,.slice A1 l1.length c1] w fun e w'=>e = .returned (.bool r) ∧ Drawn0 w w':=by
 have HR0:=Aside0.mk hr0
 have HC0:=Aside0.mk hc0
 clear hr0 hc0
 have HR1:=Aside0.mk hr1
 have HC1:=Aside0.mk hc1
 clear hr1 hc1
 have H:(if (l0.length:Int) > 1048576 then (some true) else (some (decide ((l1.length:Int) > (wrap64 (1048576 - (l0.length:Int))))))) = some r:=h
 clear h
 by_cases c3:(l0.length:Int) > 1048576
 ·rw [if_pos c3] at H
  have c3b0:decide (1048576 < (l0.length:Int)) = true:=decide_eq_true c3
  have c3b1:decide (1048576 < l0.length) = true:=decide_eq_true (by omega)
  clear c3
  obtain rfl:=Option.some.inj H
  go_enter Try.func6,Try.ntmps6
  go_wp2
  go_ret
  exact ⟨Yh,Yp⟩
 ·rw [if_neg c3] at H
  have c3b0:decide (1048576 < (l0.length:Int)) = false:=decide_eq_false c3
  have c3b1:decide (1048576 < l0.length) = false:=decide_eq_false (by omega)
  clear c3
  obtain rfl:=Option.some.inj H
  go_enter Try.func6,Try.ntmps6
  go_wp2
  go_ret
  exact ⟨Yh,Yp⟩

/-! ### spec_GoodDisk: function 12 -/
def spec_GoodDisk.l0:Nat → List ByteArray → List ByteArray → Int → Int → Option (Bool)
 | 0,_,_,_,_=>none
 | k + 1,x3,x13,x14,x15=>if x15 < x14 then (if 0 ≤ x15 then (if x15 < (x13.length:Int) then (if ((rdOf ByteArray.empty x13 x15).size:Int) = 16 then (spec_GoodDisk.l0 k x3 x13 x14 (wrap64 (x15 + 1))) else (some false)) else (none)) else (none)) else (some (decide ((x3.length:Int) ≤ 400)))
def spec_GoodDisk.f (k:Nat) (l0_0:List ByteArray) (l0_1:List ByteArray):Option (Bool):=(some (([]:List ByteArray):List ByteArray)).bind fun y102=>(if y102.length + l0_0.length < 8796093022208 then ((some (y102 ++ l0_0:List ByteArray)).bind fun y105=>(if y105.length + l0_1.length < 8796093022208 then ((some (y105 ++ l0_1:List ByteArray)).bind fun y108=>(spec_GoodDisk.l0 k y108 y108 (y108.length:Int) 0)) else (none))) else (none))
theorem spec_GoodDisk.mono_l:∀ k,(∀ y0 y1 y2 y3,LeO (spec_GoodDisk.l0 k y0 y1 y2 y3) (spec_GoodDisk.l0 (k + 1) y0 y1 y2 y3))
 | 0=>fun _ _ _ _ r h=>by simp [spec_GoodDisk.l0] at h
 | k + 1=>by
  have ih0:=spec_GoodDisk.mono_l k
  ·intro y0 y1 y2 y3
   unfold spec_GoodDisk.l0
   exact mO
theorem spec_GoodDisk.mono:∀ a0 a1 k,LeO (spec_GoodDisk.f k a0 a1) (spec_GoodDisk.f (k + 1) a0 a1):=by
 intro a0 a1 k
 have ih0:=spec_GoodDisk.mono_l k
 unfold spec_GoodDisk.f
 exact mO
def spec_GoodDisk.T1:Bool × List (List Nat × List Nat):=(true,[([],[]),([],[]),([1],[1]),([0,2],[0,2]),([],[]),([4],[4]),([3,5,3],[3,5]),([6,6,0,1,2,3,4,5,6],[6])])
def spec_GoodDisk.B1:List Nat:=[0,0,2,7,0,16,63,127]
theorem spec_GoodDisk.tab1:rtab .any (opsOf Try.f12 1) = spec_GoodDisk.T1:=by kernel_rfl
theorem spec_GoodDisk.bits1:waitsOk spec_GoodDisk.T1.2 spec_GoodDisk.B1 = true:=by kernel_rfl
set_option maxHeartbeats 8000000 in
set_option maxRecDepth 100000 in
theorem spec_GoodDisk.calls (k:Nat) (A0_0:Option Addr) (c0_0:Nat) (l0_0:List ByteArray) (A0_1:Option Addr) (c0_1:Nat) (l0_1:List ByteArray) (r:Bool) (w:World) (hr0_0:Kd.C Kd.string w A0_0 l0_0.length l0_0) (hc0_0:l0_0.length ≤ c0_0) (hr0_1:Kd.C Kd.string w A0_1 l0_1.length l0_1) (hc0_1:l0_1.length ≤ c0_1) (h:spec_GoodDisk.f k l0_0 l0_1 = some r) :
  Calls Try.prog 12 #[.agg #[.slice A0_0 l0_0.length c0_0,.slice A0_1 l0_1.length c0_1]] w fun e w'=>e = .returned (.bool r) ∧ Below w.heap.size w w':=by
 have hu26:=Try.underlying26
 have HR0_0:=Aside0.mk hr0_0
 have HC0_0:=Aside0.mk hc0_0
 clear hr0_0 hc0_0
 have HR0_1:=Aside0.mk hr0_1
 have HC0_1:=Aside0.mk hc0_1
 clear hr0_1 hc0_1
 have HB:=Aside0.mk (Below.refl w.heap.size w)
 have H:((some (([]:List ByteArray):List ByteArray)).bind fun y102=>(if y102.length + l0_0.length < 8796093022208 then ((some (y102 ++ l0_0:List ByteArray)).bind fun y105=>(if y105.length + l0_1.length < 8796093022208 then ((some (y105 ++ l0_1:List ByteArray)).bind fun y108=>(spec_GoodDisk.l0 k y108 y108 (y108.length:Int) 0)) else (none))) else (none))) = some r:=h
 clear h
 obtain ⟨y102,hy102⟩:∃ y_:List ByteArray,y_ = (([]:List ByteArray)):=⟨_,rfl⟩
 replace H:(if y102.length + l0_0.length < 8796093022208 then ((some (y102 ++ l0_0:List ByteArray)).bind fun y105=>(if y105.length + l0_1.length < 8796093022208 then ((some (y105 ++ l0_1:List ByteArray)).bind fun y108=>(spec_GoodDisk.l0 k y108 y108 (y108.length:Int) 0)) else (none))) else (none)) = some r:=by first|(rw [hy102];with_reducible exact H)|(have H2_:=(Option.bind_some _ _).symm.trans H;rw [hy102];with_reducible exact H2_)|(have H2_:=(Option.bind_some _ _).symm.trans H;with_reducible exact H2_)|with_reducible exact H|(rw [hy102];exact H)|exact H
 have Ny102:=Aside0.mk hy102
 clear hy102
 by_cases c2:y102.length + l0_0.length < 8796093022208
 ·rw [if_pos c2] at H
  have LMc2:=Aside0.mk c2
  clear c2
  obtain ⟨y105,hy105⟩:∃ y_:List ByteArray,y_ = (y102 ++ l0_0):=⟨_,rfl⟩
  replace H:(if y105.length + l0_1.length < 8796093022208 then ((some (y105 ++ l0_1:List ByteArray)).bind fun y108=>(spec_GoodDisk.l0 k y108 y108 (y108.length:Int) 0)) else (none)) = some r:=by first|(rw [hy105];with_reducible exact H)|(have H2_:=(Option.bind_some _ _).symm.trans H;rw [hy105];with_reducible exact H2_)|(have H2_:=(Option.bind_some _ _).symm.trans H;with_reducible exact H2_)|with_reducible exact H|(rw [hy105];exact H)|exact H
  have Ny105:=Aside0.mk hy105
  clear hy105
  by_cases c3:y105.length + l0_1.length < 8796093022208
  ·rw [if_pos c3] at H
   have LMc3:=Aside0.mk c3
   clear c3
   obtain ⟨y108,hy108⟩:∃ y_:List ByteArray,y_ = (y105 ++ l0_1):=⟨_,rfl⟩
   replace H:(spec_GoodDisk.l0 k y108 y108 (y108.length:Int) 0) = some r:=by first|(rw [hy108];with_reducible exact H)|(have H2_:=(Option.bind_some _ _).symm.trans H;rw [hy108];with_reducible exact H2_)|(have H2_:=(Option.bind_some _ _).symm.trans H;with_reducible exact H2_)|with_reducible exact H|(rw [hy108];exact H)|exact H
   have Ny108:=Aside0.mk hy108
   clear hy108
   have H':=Aside0.mk H
   clear H
   go_enter Try.func12,Try.ntmps12
   try go_wp2_with (first|((with_reducible refine gate_dst (N:=1) rfl ?_);refine box_event ?hg (N:=1) ?hd (cs:=#[.slice A0_0 l0_0.length c0_0,.slice A0_1 l0_1.length c0_1]) (t:=26) ?hr ?_;(case hd=>rfl);(case hg=>rfl);(case hr=>exact Yg);intro gb101 hg w4 hbox hb;have BK101:=Aside0.mk (hbox);have GW101:=Aside0.mk ((hZ:w.heap.size ≤ gb101));have GE101:=Aside0.mk ((hZ:w.heap.size ≤ gb101));replace HB:=Aside0.mk (below_step bH hb);clear hb hbox hg))
   replace BK101:=Aside0.mk (blk_drew BK101.out);replace HB:=Aside0.mk (below_drew1 HB.out)
   refine start_ (n:=8) (S:=fun w'=>w'.cell? ⟨gb101,0,none⟩ = some (.slice A0_0 l0_0.length c0_0) ∧ w'.cell? ⟨gb101,1,none⟩ = some (.slice A0_1 l0_1.length c0_1)) (ds:=[]) #[false,false,false,false,false,false,false,false] (by kernel_rfl) rfl rfl ⟨(blk_cell BK101.out 0).trans rfl,(blk_cell BK101.out 1).trans rfl⟩ (fun hHeld=>?_);refine with_tabW spec_GoodDisk.tab1 spec_GoodDisk.bits1 (fun HT_ HW_=>?_)
   generalize w4.drew = w5 at BK101 HB hHeld ⊢
   refine pU (i:=1) (N:=some 7) #[false,true,false,false,false,false,false,false] (any_of HT_.out (by kernel_rfl)) ?_
   refine pU (i:=4) (N:=some 10) #[false,true,false,false,true,false,false,false] (any_of HT_.out (by kernel_rfl)) ?_
   refine take_ (i:=2) (N:=some 8) (v:=?_) (a':=?_) #[false,true,true,false,true,false,false,false] rfl rfl (take_ofW HT_.out HW_.out (by kernel_rfl)) (fun _ _ _ h=>h) (Or.inl ⟨by rfl,?_⟩) hHeld ?_ ?_
   rotate_left
   ·rintro w' ⟨s0,s1⟩
    go_simp
    with_reducible rfl
   rotate_left
   ·simp only [Act.put,List.setIfInBounds_toArray,List.set_cons_zero,List.set_cons_succ,i64_w,i32_w]
    rfl
   refine take_ (i:=5) (N:=some 11) (v:=?_) (a':=?_) #[false,true,true,false,true,true,false,false] rfl rfl (take_ofW HT_.out HW_.out (by kernel_rfl)) (fun _ _ _ h=>h) (Or.inl ⟨by rfl,?_⟩) hHeld ?_ ?_
   rotate_left
   ·rintro w' ⟨s0,s1⟩
    go_simp
    with_reducible rfl
   rotate_left
   ·simp only [Act.put,List.setIfInBounds_toArray,List.set_cons_zero,List.set_cons_succ,i64_w,i32_w]
    rfl
   refine one_ (i:=0) (N:=some 6) #[true,true,true,false,true,true,false,false] rfl rfl (one_of HT_.out (by kernel_rfl)) (by decide) (fun K hK=>?_)
   refine Kd.R_lit_step Kd.string _ 9 ?hg (N:=6) ?hd (xs:=([]:List ByteArray)) (inner:=[]) (ok:=fun _=>True) (okp:=fun _=>True) ?hr ?hp (fun _ hk=>hk) trivial (Below.refl _ _) (Nat.le_refl _) (by simp) ?_;(case hd=>rfl);(case hg=>rfl);(case hr=>exact Yg);(case hp=>exact ZN)
   intro v103 w6 ho7 hb hg_ hnew_
   clear hg_ hnew_
   (first|rw [← Ny102.out] at ho7|(simp only [Int.reduceToNat] at ho7;rw [← Ny102.out] at ho7))
   have HO104:=Aside0.mk (Kd.R_lower ho7 (below_size bH));replace BK101:=Aside0.mk (blk_below (bB BK101) hb);replace HB:=Aside0.mk (below_step bH hb)
   clear hb ho7
   refine hK.out _ _ ⟨(blk_cell BK101.out 0).trans rfl,(blk_cell BK101.out 1).trans rfl⟩ (fun hHeld=>?_)
   clear hK K
   refine nM (N:=some 6) ?_
   refine one_ (i:=3) (N:=some 9) #[true,true,true,true,true,true,false,false] rfl rfl (one_of HT_.out (by kernel_rfl)) (by decide) (fun K hK=>?_)
   refine Kd.R_append_rows_step Kd.string (w0:=w) w.heap.size (by rfl) (.tmp 6) (.tmp 8) 24 9 (.string ⟨#[]⟩) 16 rfl Try.underlying24 info9 rfl (by decide) Yy v103 y102 l0_0 _ _ _ (fun _=>True) (fun _=>False) rfl rfl ?aO ?aR (fun _ _ h=>h) (fun _ h=>h.elim) ?aF ?aB ?aS ?aL ?_
   (case aR=>exact ZB)
   (case aB=>exact bH)
   (case aF=>exact YE)
   (case aO=>exact (rR HO104))
   (case aS=>exact YB)
   (case aL=>have:=LMc2.out;omega)
   intro v106 w8 ho hb hg hat
   rw [← Ny105.out] at ho
   have n0_:=Aside0.mk (blk_grown (bB BK101) hg (Kd.R_ne HO104.out BK101.out (by decide)));have n1_:=Aside0.mk (hb);have n2_:=Aside0.mk (ho);clear BK101;clear HB;clear HO104;have BK101:=n0_;have HB:=n1_;have HO107:=n2_;clear n0_ n1_ n2_
   clear ho hb hg hat
   refine hK.out _ _ ⟨(blk_cell BK101.out 0).trans rfl,(blk_cell BK101.out 1).trans rfl⟩ (fun hHeld=>?_)
   clear hK K
   refine nM (N:=some 9) ?_
   refine one_ (i:=6) (N:=some 12) #[true,true,true,true,true,true,true,false] rfl rfl (one_of HT_.out (by kernel_rfl)) (by decide) (fun K hK=>?_)
   refine Kd.R_append_rows_step Kd.string (w0:=w) w.heap.size (by rfl) (.tmp 9) (.tmp 11) 24 9 (.string ⟨#[]⟩) 16 rfl Try.underlying24 info9 rfl (by decide) Yy v106 y105 l0_1 _ _ _ (fun _=>True) (fun _=>False) rfl rfl ?aO ?aR (fun _ _ h=>h) (fun _ h=>h.elim) ?aF ?aB ?aS ?aL ?_
   (case aR=>exact ZP)
   (case aB=>exact bH)
   (case aF=>exact YE)
   (case aO=>exact (rR HO107))
   (case aS=>exact YB)
   (case aL=>have:=LMc3.out;omega)
   intro v109 w9 ho hb hg hat
   rw [← Ny108.out] at ho
   have n0_:=Aside0.mk (blk_grown (bB BK101) hg (Kd.R_ne HO107.out BK101.out (by decide)));have n1_:=Aside0.mk (hb);have n2_:=Aside0.mk (ho);clear BK101;clear HB;clear HO107;have BK101:=n0_;have HB:=n1_;have HO110:=n2_;clear n0_ n1_ n2_
   clear ho hb hg hat
   refine hK.out _ _ ⟨(blk_cell BK101.out 0).trans rfl,(blk_cell BK101.out 1).trans rfl⟩ (fun hHeld=>?_)
   clear hK K
   refine nM (N:=some 12) ?_
   refine pU (i:=7) (N:=some 3) #[true,true,true,true,true,true,true,true] (any_of HT_.out (by kernel_rfl)) ?_
   refine done_ (done_of HT_.out (by kernel_rfl)) ?_
   obtain ⟨Ao10,co10,eo10⟩:=Kd.R_slice HO110.out
   subst eo10
   try go_wp2
   go_loopg [15] k (fun kq v15 w'=>∃ (x15_1:Int),v15 = .int .i64 x15_1 ∧ Aside0 (spec_GoodDisk.l0 kq y108 y108 (y108.length:Int) x15_1 = some r) ∧ Aside0 (kq ≤ k) ∧ Aside0 (Kd.R Kd.string 9 w' w.heap.size (fun _=>True) (.slice Ao10 y108.length co10) y108) ∧ Aside0 (Kd.R Kd.string 9 w' w.heap.size (fun _=>True) (.slice Ao10 y108.length co10) y108) ∧ Aside0 (w'.heap[gb101]? = some (.cells #[(.slice A0_0 l0_0.length c0_0),(.slice A0_1 l0_1.length c0_1)] 26 (0,0))) ∧ Aside0 (Below w.heap.size w w'))
   case atStart=>exact ⟨(0),Yh,H',⟨Nat.le_refl _⟩,⟨rR HO110⟩,⟨rR HO110⟩,⟨by (with_reducible repeat (first|refine blk_drewN ?_ _|refine blk_drew ?_|refine blk_alloc ?_ _));exact BK101.out⟩,⟨bH⟩⟩
   case round =>
    clear H'
    try clear c1
    try clear c2
    try clear p2
    try clear c3
    obtain ⟨x15_1,rfl,HA,HK1,HO_3,HO_13,BK101,HB⟩:=hrel
    cases gk with
    | zero=>exact absurd HA.out (by simp [spec_GoodDisk.l0])
    | succ k1 =>
     have H:=HA.out
     clear HA
     simp only [spec_GoodDisk.l0] at H
     by_cases c11:x15_1 < (y108.length:Int)
     ·rw [if_pos c11] at H
      have c11b0:=decide_eq_true c11
      clear c11
      by_cases c12:0 ≤ x15_1
      ·rw [if_pos c12] at H
       have c12b0:=decide_eq_true c12
       clear c12
       by_cases c13:x15_1 < (y108.length:Int)
       ·rw [if_pos c13] at H
        have c13b0:=decide_eq_true c13
        clear c13
        by_cases c14:((rdOf ByteArray.empty y108 x15_1).size:Int) = 16
        ·rw [if_pos c14] at H
         have c14b0:(((rdOf ByteArray.empty y108 x15_1).size:Int) == 16) = true:=beq_iff_eq.mpr c14
         have c14b1:(((rdOf ByteArray.empty y108 x15_1).size:Int) != 16) = false:=bne_eq_false_iff_eq.mpr c14
         clear c14
         have H':=Aside0.mk H
         clear H
         have p111:0 ≤ (x15_1:Int):=oD
         have q111:x15_1 < (y108.length:Int):=oD
         obtain ⟨ad111,e111,hx111_0⟩:=Kd.at_string (Kd.R_reads' HO_13.out).2.2 x15_1 p111 q111
         cases e111
         replace p111:=eq_true p111
         replace q111:=eq_true q111
         go_wp2
         go_roundg k1
         case measure=>have:=HK1.out;omega
         case rel=>exact ⟨(wrap64 (x15_1 + 1)),Yh,H',⟨by have:=HK1.out;omega⟩,⟨rR HO_3⟩,⟨rR HO_13⟩,⟨by (with_reducible repeat (first|refine blk_drewN ?_ _|refine blk_drew ?_|refine blk_alloc ?_ _));exact BK101.out⟩,⟨bH⟩⟩
        ·rw [if_neg c14] at H
         have c14b0:(((rdOf ByteArray.empty y108 x15_1).size:Int) == 16) = false:=beq_eq_false_iff_ne.mpr c14
         have c14b1:(((rdOf ByteArray.empty y108 x15_1).size:Int) != 16) = true:=bne_iff_ne.mpr c14
         obtain rfl:=Option.some.inj H
         have p111:0 ≤ (x15_1:Int):=oD
         have q111:x15_1 < (y108.length:Int):=oD
         obtain ⟨ad111,e111,hx111_0⟩:=Kd.at_string (Kd.R_reads' HO_13.out).2.2 x15_1 p111 q111
         cases e111
         replace p111:=eq_true p111
         replace q111:=eq_true q111
         go_wp2
         go_ret
         exact ⟨Yb,bH⟩
       ·rw [if_neg c13] at H
        exact absurd H (by simp)
      ·rw [if_neg c12] at H
       exact absurd H (by simp)
     ·rw [if_neg c11] at H
      have c11b0:decide (x15_1 < (y108.length:Int)) = false:=decide_eq_false c11
      clear c11
      obtain rfl:=Option.some.inj H
      go_wp2
      go_ret
      exact ⟨Yb,bH⟩
  ·rw [if_neg c3] at H
   exact absurd H (by simp)
 ·rw [if_neg c2] at H
  exact absurd H (by simp)

/-! ### spec_l1In: function 46 -/
def spec_l1In.f (a0:Int) (a1:Int) (a2:Int):Option (Bool):=if a0 ≥ a1 then (some (decide (a0 ≤ a2))) else (some false)
set_option maxHeartbeats 8000000 in
set_option maxRecDepth 100000 in
theorem spec_l1In.calls (a0:Int) (a1:Int) (a2:Int) (r:Bool) (w:World) (h:spec_l1In.f a0 a1 a2 = some r) :
  Calls Try.prog 46 #[.int .i64 a0,.int .i64 a1,.int .i64 a2] w fun e w'=>e = .returned (.bool r) ∧ Drawn0 w w':=by
 have H:(if a0 ≥ a1 then (some (decide (a0 ≤ a2))) else (some false)) = some r:=h
 clear h
 by_cases c4:a0 ≥ a1
 ·rw [if_pos c4] at H
  have c4b0:decide (a1 ≤ a0) = true:=decide_eq_true c4
  clear c4
  obtain rfl:=Option.some.inj H
  go_enter Try.func46,Try.ntmps46
  go_wp2
  go_ret
  exact ⟨Yh,Yp⟩
 ·rw [if_neg c4] at H
  have c4b0:decide (a1 ≤ a0) = false:=decide_eq_false c4
  clear c4
  obtain rfl:=Option.some.inj H
  go_enter Try.func46,Try.ntmps46
  go_wp2
  go_ret
  exact ⟨Yh,Yp⟩

end Go.Proofs.Ytmgkflkfoccgkab.QFnDisk
