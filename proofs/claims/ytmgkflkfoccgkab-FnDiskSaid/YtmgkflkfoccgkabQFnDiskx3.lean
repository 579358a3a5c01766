-- Written by this session's own program (wip/x/xprint.py, over the kit's printer); Lean checks it.
import Derived.Test.YtmgkflkfoccgkabQFnDiskx0
namespace Go.Proofs.Ytmgkflkfoccgkab.QFnDisk
open Go.RowKit Go.Proofs.YtmgkflkfoccgkabW.PrintWords Go.Proofs.YtmgkflkfoccgkabW.PrintLast Go.Proofs.YtmgkflkfoccgkabW.PrintMore
attribute [local go_sem] max2_int min2_int max_two min_two max_three min_three max_four min_four   -- for this text's walks alone
set_option linter.unusedVariables false
set_option linter.unusedSimpArgs false

/-! ### spec_l13All: function 55 -/
def spec_l13All.f (l0_0:List ByteArray) (l0_1:List ByteArray):Option (List ByteArray):=(some (([]:List ByteArray):List ByteArray)).bind fun y136=>(if y136.length + l0_0.length < 8796093022208 then ((some (y136 ++ l0_0:List ByteArray)).bind fun y139=>(if y139.length + l0_1.length < 8796093022208 then (some (y139 ++ l0_1)) else (none))) else (none))
def spec_l13All.T1:Bool × List (List Nat × List Nat):=(true,[([],[]),([],[]),([1],[1]),([0,2],[0,2]),([],[]),([4],[4]),([3,5,3],[3,5]),([6,6,0,1,2,3,4,5,6],[6])])
def spec_l13All.B1:List Nat:=[0,0,2,7,0,16,63,127]
theorem spec_l13All.tab1:rtab .any (opsOf Try.f55 1) = spec_l13All.T1:=by kernel_rfl
theorem spec_l13All.bits1:waitsOk spec_l13All.T1.2 spec_l13All.B1 = true:=by kernel_rfl
set_option maxHeartbeats 8000000 in
set_option maxRecDepth 100000 in
theorem spec_l13All.calls (A0_0:Option Addr) (c0_0:Nat) (l0_0:List ByteArray) (A0_1:Option Addr) (c0_1:Nat) (l0_1:List ByteArray) (r:List ByteArray) (w:World) (hr0_0:Kd.C Kd.string w A0_0 l0_0.length l0_0) (hc0_0:l0_0.length ≤ c0_0) (hr0_1:Kd.C Kd.string w A0_1 l0_1.length l0_1) (hc0_1:l0_1.length ≤ c0_1) (h:spec_l13All.f l0_0 l0_1 = some r) :
  Calls Try.prog 55 #[.agg #[.slice A0_0 l0_0.length c0_0,.slice A0_1 l0_1.length c0_1]] w fun e w'=>∃ v0_:Value,e = .returned (v0_) ∧ Kd.R Kd.string 9 w' w.heap.size (fun _=>True) v0_ r ∧ Below w.heap.size w w':=by
 have hu26:=Try.underlying26
 have HR0_0:=Aside0.mk hr0_0
 have HC0_0:=Aside0.mk hc0_0
 clear hr0_0 hc0_0
 have HR0_1:=Aside0.mk hr0_1
 have HC0_1:=Aside0.mk hc0_1
 clear hr0_1 hc0_1
 have HB:=Aside0.mk (Below.refl w.heap.size w)
 have H:((some (([]:List ByteArray):List ByteArray)).bind fun y136=>(if y136.length + l0_0.length < 8796093022208 then ((some (y136 ++ l0_0:List ByteArray)).bind fun y139=>(if y139.length + l0_1.length < 8796093022208 then (some (y139 ++ l0_1)) else (none))) else (none))) = some r:=h
 clear h
 obtain ⟨y136,hy136⟩:∃ y_:List ByteArray,y_ = (([]:List ByteArray)):=⟨_,rfl⟩
 replace H:(if y136.length + l0_0.length < 8796093022208 then ((some (y136 ++ l0_0:List ByteArray)).bind fun y139=>(if y139.length + l0_1.length < 8796093022208 then (some (y139 ++ l0_1)) else (none))) else (none)) = some r:=by first|(rw [hy136];with_reducible exact H)|(have H2_:=(Option.bind_some _ _).symm.trans H;rw [hy136];with_reducible exact H2_)|(have H2_:=(Option.bind_some _ _).symm.trans H;with_reducible exact H2_)|with_reducible exact H|(rw [hy136];exact H)|exact H
 have Ny136:=Aside0.mk hy136
 clear hy136
 by_cases c2:y136.length + l0_0.length < 8796093022208
 ·rw [if_pos c2] at H
  have LMc2:=Aside0.mk c2
  clear c2
  obtain ⟨y139,hy139⟩:∃ y_:List ByteArray,y_ = (y136 ++ l0_0):=⟨_,rfl⟩
  replace H:(if y139.length + l0_1.length < 8796093022208 then (some (y139 ++ l0_1)) else (none)) = some r:=by first|(rw [hy139];with_reducible exact H)|(have H2_:=(Option.bind_some _ _).symm.trans H;rw [hy139];with_reducible exact H2_)|(have H2_:=(Option.bind_some _ _).symm.trans H;with_reducible exact H2_)|with_reducible exact H|(rw [hy139];exact H)|exact H
  have Ny139:=Aside0.mk hy139
  clear hy139
  by_cases c3:y139.length + l0_1.length < 8796093022208
  ·rw [if_pos c3] at H
   have LMc3:=Aside0.mk c3
   clear c3
   obtain ⟨y142,hy142⟩:∃ y_:List ByteArray,y_ = (y139 ++ l0_1):=⟨_,rfl⟩
   replace H:(some y142) = some r:=by first|(rw [hy142];with_reducible exact H)|(have H2_:=(Option.bind_some _ _).symm.trans H;rw [hy142];with_reducible exact H2_)|(have H2_:=(Option.bind_some _ _).symm.trans H;with_reducible exact H2_)|with_reducible exact H|(rw [hy142];exact H)|exact H
   have Ny142:=Aside0.mk hy142
   clear hy142
   obtain rfl:=Option.some.inj H
   go_enter Try.func55,Try.ntmps55
   try go_wp2_with (first|((with_reducible refine gate_dst (N:=1) rfl ?_);refine box_event ?hg (N:=1) ?hd (cs:=#[.slice A0_0 l0_0.length c0_0,.slice A0_1 l0_1.length c0_1]) (t:=26) ?hr ?_;(case hd=>rfl);(case hg=>rfl);(case hr=>exact Yg);intro gb135 hg w4 hbox hb;have BK135:=Aside0.mk (hbox);have GW135:=Aside0.mk ((hZ:w.heap.size ≤ gb135));have GE135:=Aside0.mk ((hZ:w.heap.size ≤ gb135));replace HB:=Aside0.mk (below_step bH hb);clear hb hbox hg))
   replace BK135:=Aside0.mk (blk_drew BK135.out);replace HB:=Aside0.mk (below_drew1 HB.out)
   refine start_ (n:=8) (S:=fun w'=>w'.cell? ⟨gb135,0,none⟩ = some (.slice A0_0 l0_0.length c0_0) ∧ w'.cell? ⟨gb135,1,none⟩ = some (.slice A0_1 l0_1.length c0_1)) (ds:=[]) #[false,false,false,false,false,false,false,false] (by kernel_rfl) rfl rfl ⟨(blk_cell BK135.out 0).trans rfl,(blk_cell BK135.out 1).trans rfl⟩ (fun hHeld=>?_);refine with_tabW spec_l13All.tab1 spec_l13All.bits1 (fun HT_ HW_=>?_)
   generalize w4.drew = w5 at BK135 HB hHeld ⊢
   refine pU (i:=1) (N:=some 4) #[false,true,false,false,false,false,false,false] (any_of HT_.out (by kernel_rfl)) ?_
   refine pU (i:=4) (N:=some 7) #[false,true,false,false,true,false,false,false] (any_of HT_.out (by kernel_rfl)) ?_
   refine take_ (i:=2) (N:=some 5) (v:=?_) (a':=?_) #[false,true,true,false,true,false,false,false] rfl rfl (take_ofW HT_.out HW_.out (by kernel_rfl)) (fun _ _ _ h=>h) (Or.inl ⟨by rfl,?_⟩) hHeld ?_ ?_
   rotate_left
   ·rintro w' ⟨s0,s1⟩
    go_simp
    with_reducible rfl
   rotate_left
   ·simp only [Act.put,List.setIfInBounds_toArray,List.set_cons_zero,List.set_cons_succ,i64_w,i32_w]
    rfl
   refine take_ (i:=5) (N:=some 8) (v:=?_) (a':=?_) #[false,true,true,false,true,true,false,false] rfl rfl (take_ofW HT_.out HW_.out (by kernel_rfl)) (fun _ _ _ h=>h) (Or.inl ⟨by rfl,?_⟩) hHeld ?_ ?_
   rotate_left
   ·rintro w' ⟨s0,s1⟩
    go_simp
    with_reducible rfl
   rotate_left
   ·simp only [Act.put,List.setIfInBounds_toArray,List.set_cons_zero,List.set_cons_succ,i64_w,i32_w]
    rfl
   refine one_ (i:=0) (N:=some 3) #[true,true,true,false,true,true,false,false] rfl rfl (one_of HT_.out (by kernel_rfl)) (by decide) (fun K hK=>?_)
   refine Kd.R_lit_step Kd.string _ 9 ?hg (N:=3) ?hd (xs:=([]:List ByteArray)) (inner:=[]) (ok:=fun _=>True) (okp:=fun _=>True) ?hr ?hp (fun _ hk=>hk) trivial (Below.refl _ _) (Nat.le_refl _) (by simp) ?_;(case hd=>rfl);(case hg=>rfl);(case hr=>exact Yg);(case hp=>exact ZN)
   intro v137 w6 ho7 hb hg_ hnew_
   clear hg_ hnew_
   (first|rw [← Ny136.out] at ho7|(simp only [Int.reduceToNat] at ho7;rw [← Ny136.out] at ho7))
   have HO138:=Aside0.mk (Kd.R_lower ho7 (below_size bH));replace BK135:=Aside0.mk (blk_below (bB BK135) hb);replace HB:=Aside0.mk (below_step bH hb)
   clear hb ho7
   refine hK.out _ _ ⟨(blk_cell BK135.out 0).trans rfl,(blk_cell BK135.out 1).trans rfl⟩ (fun hHeld=>?_)
   clear hK K
   refine nM (N:=some 3) ?_
   refine one_ (i:=3) (N:=some 6) #[true,true,true,true,true,true,false,false] rfl rfl (one_of HT_.out (by kernel_rfl)) (by decide) (fun K hK=>?_)
   refine Kd.R_append_rows_step Kd.string (w0:=w) w.heap.size (by rfl) (.tmp 3) (.tmp 5) 24 9 (.string ⟨#[]⟩) 16 rfl Try.underlying24 info9 rfl (by decide) Yy v137 y136 l0_0 _ _ _ (fun _=>True) (fun _=>False) rfl rfl ?aO ?aR (fun _ _ h=>h) (fun _ h=>h.elim) ?aF ?aB ?aS ?aL ?_
   (case aR=>exact ZB)
   (case aB=>exact bH)
   (case aF=>exact YE)
   (case aO=>exact (rR HO138))
   (case aS=>exact YB)
   (case aL=>have:=LMc2.out;omega)
   intro v140 w8 ho hb hg hat
   rw [← Ny139.out] at ho
   have n0_:=Aside0.mk (blk_grown (bB BK135) hg (Kd.R_ne HO138.out BK135.out (by decide)));have n1_:=Aside0.mk (hb);have n2_:=Aside0.mk (ho);clear BK135;clear HB;clear HO138;have BK135:=n0_;have HB:=n1_;have HO141:=n2_;clear n0_ n1_ n2_
   clear ho hb hg hat
   refine hK.out _ _ ⟨(blk_cell BK135.out 0).trans rfl,(blk_cell BK135.out 1).trans rfl⟩ (fun hHeld=>?_)
   clear hK K
   refine nM (N:=some 6) ?_
   refine one_ (i:=6) (N:=some 9) #[true,true,true,true,true,true,true,false] rfl rfl (one_of HT_.out (by kernel_rfl)) (by decide) (fun K hK=>?_)
   refine Kd.R_append_rows_step Kd.string (w0:=w) w.heap.size (by rfl) (.tmp 6) (.tmp 8) 24 9 (.string ⟨#[]⟩) 16 rfl Try.underlying24 info9 rfl (by decide) Yy v140 y139 l0_1 _ _ _ (fun _=>True) (fun _=>False) rfl rfl ?aO ?aR (fun _ _ h=>h) (fun _ h=>h.elim) ?aF ?aB ?aS ?aL ?_
   (case aR=>exact ZP)
   (case aB=>exact bH)
   (case aF=>exact YE)
   (case aO=>exact (rR HO141))
   (case aS=>exact YB)
   (case aL=>have:=LMc3.out;omega)
   intro v143 w9 ho hb hg hat
   rw [← Ny142.out] at ho
   have n0_:=Aside0.mk (blk_grown (bB BK135) hg (Kd.R_ne HO141.out BK135.out (by decide)));have n1_:=Aside0.mk (hb);have n2_:=Aside0.mk (ho);clear BK135;clear HB;clear HO141;have BK135:=n0_;have HB:=n1_;have HO144:=n2_;clear n0_ n1_ n2_
   clear ho hb hg hat
   refine hK.out _ _ ⟨(blk_cell BK135.out 0).trans rfl,(blk_cell BK135.out 1).trans rfl⟩ (fun hHeld=>?_)
   clear hK K
   refine nM (N:=some 9) ?_
   refine pU (i:=7) (N:=some 2) #[true,true,true,true,true,true,true,true] (any_of HT_.out (by kernel_rfl)) ?_
   refine done_ (done_of HT_.out (by kernel_rfl)) ?_
   try go_wp2
   go_ret
   exact ⟨_,Yb,rR HO144,bH⟩
  ·rw [if_neg c3] at H
   exact absurd H (by simp)
 ·rw [if_neg c2] at H
  exact absurd H (by simp)

/-! ### spec_l10Sum: function 105 -/
mutual
def spec_l10Sum.l0:Nat → ByteArray → Int → Int → Option (Int)
 | 0,_,_,_=>none
 | k + 1,x0,x3,x4=>if x4 < (x0.size:Int) then (if 0 ≤ x4 then (spec_l10Sum.l1 k x0 (Go.bits .xor .i64 x3 (wrap64 (256 * (wrap64 (bt x0 x4))))) x4 0) else (none)) else (some x3)
def spec_l10Sum.l1:Nat → ByteArray → Int → Int → Int → Option (Int)
 | 0,_,_,_,_=>none
 | k + 1,x0,x3,x4,x5=>if x5 < 8 then (if (wrap64 (x3 * 2)) ≥ 65536 then (spec_l10Sum.l1 k x0 (Go.bits .xor .i64 (wrap64 (x3 * 2)) 69665) x4 (wrap64 (x5 + 1))) else (spec_l10Sum.l1 k x0 (wrap64 (x3 * 2)) x4 (wrap64 (x5 + 1)))) else (spec_l10Sum.l0 k x0 x3 (wrap64 (x4 + 1)))
end
def spec_l10Sum.f (k:Nat) (a0:ByteArray):Option (Int):=spec_l10Sum.l0 k a0 65535 0
theorem spec_l10Sum.mono_l:∀ k,(∀ y0 y1 y2,LeO (spec_l10Sum.l0 k y0 y1 y2) (spec_l10Sum.l0 (k + 1) y0 y1 y2)) ∧ (∀ y0 y1 y2 y3,LeO (spec_l10Sum.l1 k y0 y1 y2 y3) (spec_l10Sum.l1 (k + 1) y0 y1 y2 y3))
 | 0=>⟨fun _ _ _ r h=>by simp [spec_l10Sum.l0] at h,fun _ _ _ _ r h=>by simp [spec_l10Sum.l1] at h⟩
 | k + 1=>by
  obtain ⟨ih0,ih1⟩:=spec_l10Sum.mono_l k
  refine ⟨?_,?_⟩
  ·intro y0 y1 y2
   unfold spec_l10Sum.l0
   exact mO
  ·intro y0 y1 y2 y3
   unfold spec_l10Sum.l1
   exact mO
theorem spec_l10Sum.mono:∀ a0 k,LeO (spec_l10Sum.f k a0) (spec_l10Sum.f (k + 1) a0):=by
 intro a0 k
 obtain ⟨ih0,ih1⟩:=spec_l10Sum.mono_l k
 unfold spec_l10Sum.f
 exact mO
set_option maxHeartbeats 8000000 in
set_option maxRecDepth 100000 in
theorem spec_l10Sum.calls (k:Nat) (a0:ByteArray) (r:Int) (w:World) (h:spec_l10Sum.f k a0 = some r) :
  Calls Try.prog 105 #[.string a0] w fun e w'=>e = .returned (.int .i64 r) ∧ Drawn0 w w':=by
 have H:(spec_l10Sum.l0 k a0 65535 0) = some r:=h
 clear h
 have H':=Aside0.mk H
 clear H
 go_enter Try.func105,Try.ntmps105
 go_wp2
 go_loopg [3,4] k (fun kq v3 v4 w'=>∃ (x3_1:Int) (x4_1:Int),v3 = .int .i64 x3_1 ∧ v4 = .int .i64 x4_1 ∧ Aside0 (spec_l10Sum.l0 kq a0 x3_1 x4_1 = some r) ∧ Aside0 (kq ≤ k) ∧ Drawn0 w w')
 case atStart=>exact ⟨(65535),(0),Yh,Yh,H',⟨Nat.le_refl _⟩,Yp⟩
 case round =>
  clear H'
  try clear c1
  obtain ⟨x3_1,x4_1,rfl,rfl,HA,HK1,⟨m1,rfl⟩⟩:=hrel
  cases gk with
  | zero=>exact absurd HA.out (by simp [spec_l10Sum.l0])
  | succ k1 =>
   have H:=HA.out
   clear HA
   simp only [spec_l10Sum.l0] at H
   by_cases c2:x4_1 < (a0.size:Int)
   ·rw [if_pos c2] at H
    have c2b0:=decide_eq_true c2
    clear c2
    by_cases c3:0 ≤ x4_1
    ·rw [if_pos c3] at H
     have c3b0:=decide_eq_true c3
     clear c3
     have H':=Aside0.mk H
     clear H
     have p4:0 ≤ (x4_1:Int):=oD
     have q4:x4_1 < (a0.size:Int):=oD
     have hx4:=bt_at a0 x4_1
     replace p4:=eq_true p4
     replace q4:=eq_true q4
     go_wp2
     go_loopg [3,5] k1 (fun kq v3 v5 w'=>∃ (x3_2:Int) (x5_2:Int),v3 = .int .i64 x3_2 ∧ v5 = .int .i64 x5_2 ∧ Aside0 (spec_l10Sum.l1 kq a0 x3_2 x4_1 x5_2 = some r) ∧ Aside0 (kq ≤ k1) ∧ Drawn0 w w')
     case atStart=>exact ⟨(Go.bits .xor .i64 x3_1 (wrap64 (256 * (wrap64 (bt a0 x4_1))))),(0),Yh,Yh,H',⟨Nat.le_refl _⟩,Yp⟩
     case round =>
      clear H'
      try clear c1
      try clear c2
      try clear c2b0
      try clear p2
      try clear c3
      try clear c3b0
      try clear p4
      try clear q4
      try clear hx4
      try clear p4
      try clear q4
      obtain ⟨x3_2,x5_2,rfl,rfl,HA,HK2,⟨m2,rfl⟩⟩:=hrel
      cases gk with
      | zero=>exact absurd HA.out (by simp [spec_l10Sum.l1])
      | succ k2 =>
       have H:=HA.out
       clear HA
       simp only [spec_l10Sum.l1] at H
       by_cases c5:x5_2 < 8
       ·rw [if_pos c5] at H
        have c5b0:=decide_eq_true c5
        clear c5
        by_cases c6:(wrap64 (x3_2 * 2)) ≥ 65536
        ·rw [if_pos c6] at H
         have c6b0:decide (65536 ≤ (wrap64 (x3_2 * 2))) = true:=decide_eq_true c6
         clear c6
         have H':=Aside0.mk H
         clear H
         go_wp2
         go_roundg k2
         case measure=>have:=HK1.out;have:=HK2.out;omega
         case rel=>exact ⟨(Go.bits .xor .i64 (wrap64 (x3_2 * 2)) 69665),(wrap64 (x5_2 + 1)),Yh,Yh,H',⟨ZQ⟩,Yp⟩
        ·rw [if_neg c6] at H
         have c6b0:decide (65536 ≤ (wrap64 (x3_2 * 2))) = false:=decide_eq_false c6
         clear c6
         have H':=Aside0.mk H
         clear H
         go_wp2
         go_roundg k2
         case measure=>have:=HK1.out;have:=HK2.out;omega
         case rel=>exact ⟨(wrap64 (x3_2 * 2)),(wrap64 (x5_2 + 1)),Yh,Yh,H',⟨ZQ⟩,Yp⟩
       ·rw [if_neg c5] at H
        have c5b0:decide (x5_2 < 8) = false:=decide_eq_false c5
        clear c5
        have H':=Aside0.mk H
        clear H
        go_wp2
        go_roundg k2
        case measure=>have:=HK1.out;have:=HK2.out;omega
        case rel=>exact ⟨(x3_2),(wrap64 (x4_1 + 1)),Yh,Yh,H',⟨ZQ⟩,Yp⟩
    ·rw [if_neg c3] at H
     exact absurd H (by simp)
   ·rw [if_neg c2] at H
    have c2b0:decide (x4_1 < (a0.size:Int)) = false:=decide_eq_false c2
    clear c2
    obtain rfl:=Option.some.inj H
    go_wp2
    go_ret
    exact ⟨Yh,Yp⟩

end Go.Proofs.Ytmgkflkfoccgkab.QFnDisk
