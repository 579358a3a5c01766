-- Written by this session's own program (wip/x/xprint.py, over the kit's printer); Lean checks it.
import Derived.Test.YtmgkflkfoccgkaaQFnPutForx0
import Derived.Test.YtmgkflkfoccgkaaQFnPutForx1
import Derived.Test.YtmgkflkfoccgkaaQFnPutForx4
import Derived.Test.YtmgkflkfoccgkaaQFnPutForx9
namespace Go.Proofs.Ytmgkflkfoccgkaa.QFnPutFor
open Go.RowKit Go.Proofs.YtmgkflkfoccgkaaW.PrintWords Go.Proofs.YtmgkflkfoccgkaaW.PrintLast Go.Proofs.YtmgkflkfoccgkaaW.PrintMore
attribute [local go_sem] max2_int min2_int max_two min_two max_three min_three max_four min_four   -- for this text's walks alone
set_option linter.unusedVariables false
set_option linter.unusedSimpArgs false

/-! ### spec_l1Most: function 82 -/
def spec_l1Most.f (a0:Int) (a1:Int):Option (Int):=if a0 > a1 then (some a0) else (some a1)
set_option maxHeartbeats 8000000 in
set_option maxRecDepth 100000 in
theorem spec_l1Most.calls (a0:Int) (a1:Int) (r:Int) (w:World) (h:spec_l1Most.f a0 a1 = some r) :
  Calls Try.prog 82 #[.int .i64 a0,.int .i64 a1] w fun e w'=>e = .returned (.int .i64 r) ∧ Drawn0 w w':=by
 have H:(if a0 > a1 then (some a0) else (some a1)) = some r:=h
 clear h
 by_cases c3:a0 > a1
 ·rw [if_pos c3] at H
  have c3b0:decide (a1 < a0) = true:=decide_eq_true c3
  clear c3
  obtain rfl:=Option.some.inj H
  go_enter Try.func82,Try.ntmps82
  go_wp2
  go_ret
  exact ⟨Ye,Yk⟩
 ·rw [if_neg c3] at H
  have c3b0:decide (a1 < a0) = false:=decide_eq_false c3
  clear c3
  obtain rfl:=Option.some.inj H
  go_enter Try.func82,Try.ntmps82
  go_wp2
  go_ret
  exact ⟨Ye,Yk⟩

/-! ### spec_l1Cur_env: function 45 -/
def spec_l1Cur_env.l0:Nat → List Int → Int → List Int → Int → Int → Int → List (List Int) → Option (List Int × Int × Int)
 | 0,_,_,_,_,_,_,_=>none
 | k + 1,x5,x6,x1000,x1001,x1002,x310000,x310001=>if x6 < 12 then ((spec_l1Most.f 1 x310000).bind fun t310=>((spec_l1Cur_pick.f x1000 x1001 x1002 t310).bind fun bt311=>(if x5.length < 17592186044416 then (spec_l1Cur_env.l0 k (x5 ++ [bt311.1]) (wrap64 (x6 + 1)) x1000 bt311.2.1 bt311.2.2 x310000 x310001) else (none)))) else ((spec_l1Cur_one.f x1000 x1001 x1002 40).bind fun bt317=>(if bt317.1 = true then (if 0 < (x5.length:Int) then (some ((x5.set (0:Int).toNat x310000),bt317.2.1,bt317.2.2)) else (none)) else (some (x5,bt317.2.1,bt317.2.2))))
def spec_l1Cur_env.f (k:Nat) (s0_0:List Int) (s0_1:Int) (s0_2:Int) (a1_0:Int) (l1_1:List (List Int)):Option (List Int × Int × Int):=spec_l1Cur_env.l0 k ([]:List Int) 0 s0_0 s0_1 s0_2 a1_0 l1_1
theorem spec_l1Cur_env.mono_l:∀ k,(∀ y0 y1 y2 y3 y4 y5 y6,LeO (spec_l1Cur_env.l0 k y0 y1 y2 y3 y4 y5 y6) (spec_l1Cur_env.l0 (k + 1) y0 y1 y2 y3 y4 y5 y6))
 | 0=>fun _ _ _ _ _ _ _ r h=>by simp [spec_l1Cur_env.l0] at h
 | k + 1=>by
  have ih0:=spec_l1Cur_env.mono_l k
  ·intro y0 y1 y2 y3 y4 y5 y6
   unfold spec_l1Cur_env.l0
   exact mO
theorem spec_l1Cur_env.mono:∀ a0 a1 a2 a3 a4 k,LeO (spec_l1Cur_env.f k a0 a1 a2 a3 a4) (spec_l1Cur_env.f (k + 1) a0 a1 a2 a3 a4):=by
 intro a0 a1 a2 a3 a4 k
 have ih0:=spec_l1Cur_env.mono_l k
 unfold spec_l1Cur_env.f
 exact mO
set_option maxHeartbeats 8000000 in
set_option maxRecDepth 100000 in
theorem spec_l1Cur_env.calls (k:Nat) (g:Nat) (s0_0:List Int) (s0_1:Int) (s0_2:Int) (a1_0:Int) (A1_1:Option Addr) (c1_1:Nat) (l1_1:List (List Int)) (r1:List Int) (r2:Int) (r3:Int) (w0 w:World) (hI:IsS60 w0 w g s0_0 s0_1 s0_2) (hB:Below w0.heap.size w0 w) (hr1_1:∀ W_,KeepBut w W_ g none → Kd.C (Kd.slice 3 (Kd.int .i64)) W_ A1_1 l1_1.length l1_1) (hc1_1:l1_1.length ≤ c1_1) (h:spec_l1Cur_env.f k s0_0 s0_1 s0_2 a1_0 l1_1 = some (r1,r2,r3)) :
  Calls Try.prog 45 #[.pointer (some ⟨g,0,none⟩),.agg #[.int .i64 a1_0,.slice A1_1 l1_1.length c1_1]] w fun e w'=>∃ v0_:Value,e = .returned (v0_) ∧ Kd.R (Kd.int .i64) 3 w' w.heap.size (fun _=>True) v0_ r1 ∧ IsS60 w0 w' g s0_0 r2 r3 ∧ Below w0.heap.size w0 w' ∧ KeepBut w w' g none:=by
 have hu31:=Try.underlying31
 have HR1_1:=Aside0.mk hr1_1
 have HC1_1:=Aside0.mk hc1_1
 clear hr1_1 hc1_1
 have HI0:=Aside0.mk hI
 have HK:=Aside0.mk (KeepBut.refl w g none)
 have HL:=Aside0.mk hB.size
 clear hI
 have HW0:=Aside0.mk hB.size
 have HB:=Aside0.mk hB
 clear hB
 have H:(spec_l1Cur_env.l0 k ([]:List Int) 0 s0_0 s0_1 s0_2 a1_0 l1_1) = some (r1,r2,r3):=h
 clear h
 have H':=Aside0.mk H
 clear H
 go_enter Try.func45,Try.ntmps45
 go_wp2_with (first|((with_reducible refine gate_dst (N:=3) rfl ?_);refine box_event ?hg (N:=3) ?hd (cs:=#[.int .i64 a1_0,.slice A1_1 l1_1.length c1_1]) (t:=31) ?hr ?_;(case hd=>rfl);(case hg=>rfl);(case hr=>exact Yd);intro gb309 hg w3 hbox hb;replace HB:=Aside0.mk (below_step bH hb);have BK309:=Aside0.mk (hbox);have GW309:=Aside0.mk ((by rw [hg];exact (keep_size (w:=w) (g:=g) (row:=none) kB):w.heap.size ≤ gb309));have GE309:=Aside0.mk ((Nat.le_trans HW0.out (by rw [hg];exact (keep_size (w:=w) (g:=g) (row:=none) kB):w.heap.size ≤ gb309):w0.heap.size ≤ gb309));replace HK:=Aside0.mk (KeepBut.trans kB (KeepBut.of_below hb g none) (.inl rfl));have NB0_309:=Aside0.mk ((by rw [hg];exact Nat.ne_of_lt (IsS60.lt (show IsS60 w0 _ g s0_0 s0_1 s0_2 from iIsS60)):g ≠ gb309));have NB309_0:=Aside0.mk ((by rw [hg];exact Nat.ne_of_gt (IsS60.lt (show IsS60 w0 _ g s0_0 s0_1 s0_2 from iIsS60)):gb309 ≠ g));replace HI0:=Aside0.mk (IsS60.below iIsS60 hb);clear hb hbox hg))
 go_loopg [5,6] k (fun kq v5 v6 w'=>∃ (x5_1:List Int) (x6_1:Int) (x1001_1:Int) (x1002_1:Int),v6 = .int .i64 x6_1 ∧ Aside0 (spec_l1Cur_env.l0 kq x5_1 x6_1 s0_0 x1001_1 x1002_1 a1_0 l1_1 = some (r1,r2,r3)) ∧ Aside0 (kq ≤ k) ∧ Aside0 (Kd.R (Kd.int .i64) 3 w' w.heap.size (fun _=>True) v5 x5_1) ∧ Aside0 (w'.heap[gb309]? = some (.cells #[.int .i64 a1_0,(.slice A1_1 l1_1.length c1_1)] 31 (0,0))) ∧ Aside0 (IsS60 w0 w' g s0_0 x1001_1 x1002_1) ∧ Aside0 (KeepBut w w' g none) ∧ Aside0 (Below w0.heap.size w0 w'))
 case atStart=>exact ⟨(([]:List Int)),(0),(s0_1),(s0_2),Ye,H',⟨Nat.le_refl _⟩,⟨Yg⟩,⟨by (with_reducible repeat (first|refine blk_drewN ?_ _|refine blk_drew ?_|refine blk_alloc ?_ _));exact BK309.out⟩,⟨iIsS60⟩,⟨kB⟩,⟨bH⟩⟩
 case round =>
  clear H'
  try clear c1
  try clear p2
  obtain ⟨x5_1,x6_1,x1001_1,x1002_1,rfl,HA,HK1,HO_5,BK309,HI0,HK,HB⟩:=hrel
  cases gk with
  | zero=>exact absurd HA.out (by simp [spec_l1Cur_env.l0])
  | succ k1 =>
   have H:=HA.out
   clear HA
   simp only [spec_l1Cur_env.l0] at H
   by_cases c4:x6_1 < 12
   ·rw [if_pos c4] at H
    have c4b0:=decide_eq_true c4
    clear c4
    replace H:=Option.bind_eq_some_iff.mp H
    obtain ⟨t310,A50,H⟩:=H
    replace H:((spec_l1Cur_pick.f s0_0 x1001_1 x1002_1 t310).bind fun bt311=>(if x5_1.length < 17592186044416 then (spec_l1Cur_env.l0 k1 (x5_1 ++ [bt311.1]) (wrap64 (x6_1 + 1)) s0_0 bt311.2.1 bt311.2.2 a1_0 l1_1) else (none))) = some (r1,r2,r3):=H
    have A5:=Aside0.mk A50
    clear A50
    replace H:=Option.bind_eq_some_iff.mp H
    obtain ⟨⟨t311,t312,t313⟩,A60,H⟩:=H
    replace H:(if x5_1.length < 17592186044416 then (spec_l1Cur_env.l0 k1 (x5_1 ++ [t311]) (wrap64 (x6_1 + 1)) s0_0 t312 t313 a1_0 l1_1) else (none)) = some (r1,r2,r3):=H
    have A6:=Aside0.mk A60
    clear A60
    by_cases c7:x5_1.length < 17592186044416
    ·rw [if_pos c7] at H
     have LMc7:=Aside0.mk c7
     clear c7
     obtain ⟨y314,hy314⟩:∃ y_:List Int,y_ = (x5_1 ++ [t311]):=⟨_,rfl⟩
     replace H:(spec_l1Cur_env.l0 k1 y314 (wrap64 (x6_1 + 1)) s0_0 t312 t313 a1_0 l1_1) = some (r1,r2,r3):=by first|(rw [hy314];with_reducible exact H)|(have H2_:=(Option.bind_some _ _).symm.trans H;rw [hy314];with_reducible exact H2_)|(have H2_:=(Option.bind_some _ _).symm.trans H;with_reducible exact H2_)|with_reducible exact H|(rw [hy314];exact H)|exact H
     have Ny314:=Aside0.mk hy314
     clear hy314
     have H':=Aside0.mk H
     clear H
     have hnb8:=NB309_0.out
     have hnc8:=NB0_309.out
     have hcz9_0:wr.cell? ⟨gb309,0,none⟩ = some (.int .i64 a1_0):=(blk_cell BK309.out 0).trans rfl
     have hcz9_1:wr.cell? ⟨gb309,1,none⟩ = some (.slice A1_1 l1_1.length c1_1):=(blk_cell BK309.out 1).trans rfl
     have hfz9_0:=blk_frozen BK309.out 0
     have hfz9_1:=blk_frozen BK309.out 1
     go_wp2_with (first|((with_reducible refine gate_callee (f:=82) rfl ?_);refine goesL_ (some 15) rfl rfl Try.func82 (by kernel_rfl) rfl #[.int .i64 1,.int .i64 a1_0] rfl Ya ?_;(with_reducible refine (spec_l1Most.calls 1 a1_0 t310 _ A5.out).mono ?_);rintro e w' ⟨rfl,⟨nd,rfl⟩⟩;refine ⟨_,rfl,?_⟩)|((with_reducible refine gate_callee (f:=73) rfl ?_);refine goesL_ (some 16) rfl rfl Try.func73 (by kernel_rfl) rfl #[.pointer (some ⟨g,0,none⟩),.int .i64 t310] rfl Ya ?_;(with_reducible refine (spec_l1Cur_pick.calls g s0_0 x1001_1 x1002_1 t310 t311 t312 t313 w0 _ ?side1 ?side2 A6.out).mono ?_);(case side1=>exact iIsS60);(case side2=>exact bH);rintro e w10 ⟨rfl,hi,hb,hk⟩;refine ⟨_,rfl,?_⟩;replace HO_5:=Aside0.mk (Kd.R_mono (Kd.R_keep (IsS60.apart (show IsS60 w0 _ g s0_0 x1001_1 x1002_1 from iIsS60) (rR HO_5) (by decide)) hk (fun _ h=>h.2)) (fun _ h=>h.1));replace BK309:=Aside0.mk (KeepBut.blk hk (g':=gb309) (o:=.cells #[.int .i64 a1_0,.slice A1_1 l1_1.length c1_1] 31 (0,0)) (bB BK309) NB309_0.out (by simp));replace HK:=Aside0.mk (KeepBut.trans kB hk (.inl rfl));replace HB:=Aside0.mk (hb);replace HI0:=Aside0.mk (hi);(try clear hb);(try clear hb2);(try clear hk);(try clear hi))|((with_reducible refine gate_builtin (b:=.append) (xs:=#[.tmp 11,.tmp 17]) rfl ?_);at_builtin;refine Kd.R_append (Kd.int .i64) w.heap.size rfl (.tmp 11) (.tmp 17) 24 3 (.int .i64 0) 8 rfl Try.underlying24 info3 rfl (by decide) Zc u5 x5_1 t311 [.int .i64 t311] (fun _=>True) (fun _=>False) rfl rfl ?aP (fun _ hk=>hk.elim) ?aF ?aO (Below.refl _ _) ?aS ?aL ?_;(case aP=>exact rfl);(case aF=>exact YW);(case aO=>exact (rR HO_5));(case aS=>exact YO);(case aL=>have:=LMc7.out;omega);intro v315 w11 ho hb hg hat;rw [← Ny314.out] at ho;have n0_:=Aside0.mk (blk_grown (bB BK309) hg (Kd.R_ne HO_5.out BK309.out (by decide)));have n1_:=Aside0.mk (IsS60.grown iIsS60 hg (IsS60.own_ne HI0.out HO_5.out (by decide)));have n2_:=Aside0.mk (below_weaken bH HL.out hb);have n3_:=Aside0.mk (KeepBut.trans kB (KeepBut.of_grown hg g) (Kd.R_base2 HO_5.out));have n4_:=Aside0.mk (ho);clear BK309;clear HI0;clear HB;clear HK;clear HO_5;have BK309:=n0_;have HI0:=n1_;have HB:=n2_;have HK:=n3_;have HO316:=n4_;clear n0_ n1_ n2_ n3_ n4_;clear ho hb hg hat))
     go_roundg k1
     case measure=>have:=HK1.out;omega
     case rel=>exact ⟨(y314),(wrap64 (x6_1 + 1)),(t312),(t313),Ye,H',⟨Ze⟩,⟨rR HO316⟩,⟨by (with_reducible repeat (first|refine blk_drewN ?_ _|refine blk_drew ?_|refine blk_alloc ?_ _));exact BK309.out⟩,⟨iIsS60⟩,⟨kB⟩,⟨bH⟩⟩
    ·rw [if_neg c7] at H
     exact absurd H (by simp)
   ·rw [if_neg c4] at H
    have c4b0:decide (x6_1 < 12) = false:=decide_eq_false c4
    clear c4
    replace H:=Option.bind_eq_some_iff.mp H
    obtain ⟨⟨t317,t318,t319⟩,A120,H⟩:=H
    replace H:(if t317 = true then (if 0 < (x5_1.length:Int) then (some ((x5_1.set (0:Int).toNat a1_0),t318,t319)) else (none)) else (some (x5_1,t318,t319))) = some (r1,r2,r3):=H
    have A12:=Aside0.mk A120
    clear A120
    by_cases c13:t317 = true
    ·subst c13
     have H1:(if 0 < (x5_1.length:Int) then (some ((x5_1.set (0:Int).toNat a1_0),t318,t319)) else (none)) = some (r1,r2,r3):=by rw [if_pos rfl] at H;exact H
     clear H
     have H:=H1
     clear H1
     by_cases c14:0 < (x5_1.length:Int)
     ·rw [if_pos c14] at H
      have c14b0:=decide_eq_true c14
      have c14b1:decide (0 < x5_1.length) = true:=decide_eq_true (by omega)
      clear c14
      obtain ⟨y320,hy320⟩:∃ y_:List Int,y_ = (x5_1.set (0:Int).toNat a1_0):=⟨_,rfl⟩
      replace H:(some (y320,t318,t319)) = some (r1,r2,r3):=by first|(rw [hy320];with_reducible exact H)|(have H2_:=(Option.bind_some _ _).symm.trans H;rw [hy320];with_reducible exact H2_)|(have H2_:=(Option.bind_some _ _).symm.trans H;with_reducible exact H2_)|with_reducible exact H|(rw [hy320];exact H)|exact H
      have Ny320:=Aside0.mk hy320
      clear hy320
      simp only [Option.some.injEq,Prod.mk.injEq] at H
      obtain ⟨rfl,rfl,rfl⟩:=H
      go_wp2_with (first|((with_reducible refine gate_callee (f:=75) rfl ?_);refine goesL_ (some 20) rfl rfl Try.func75 (by kernel_rfl) rfl #[.pointer (some ⟨g,0,none⟩),.int .i64 40] rfl Ya ?_;(with_reducible refine (spec_l1Cur_one.calls g s0_0 x1001_1 x1002_1 40 true t318 t319 w0 _ ?side1 ?side2 A12.out).mono ?_);(case side1=>exact iIsS60);(case side2=>exact bH);rintro e w16 ⟨rfl,hi,hb,hk⟩;refine ⟨_,rfl,?_⟩;replace HO_5:=Aside0.mk (Kd.R_mono (Kd.R_keep (IsS60.apart (show IsS60 w0 _ g s0_0 x1001_1 x1002_1 from iIsS60) (rR HO_5) (by decide)) hk (fun _ h=>h.2)) (fun _ h=>h.1));replace BK309:=Aside0.mk (KeepBut.blk hk (g':=gb309) (o:=.cells #[.int .i64 a1_0,.slice A1_1 l1_1.length c1_1] 31 (0,0)) (bB BK309) NB309_0.out (by simp));replace HK:=Aside0.mk (KeepBut.trans kB hk (.inl rfl));replace HB:=Aside0.mk (hb);replace HI0:=Aside0.mk (hi);(try clear hb);(try clear hb2);(try clear hk);(try clear hi);have hnb17:=NB309_0.out;have hnc17:=NB0_309.out;have hcz18_0:w16.cell? ⟨gb309,0,none⟩ = some (.int .i64 a1_0):=(blk_cell BK309.out 0).trans rfl;have hcz18_1:w16.cell? ⟨gb309,1,none⟩ = some (.slice A1_1 l1_1.length c1_1):=(blk_cell BK309.out 1).trans rfl;have hfz18_0:=blk_frozen BK309.out 0;have hfz18_1:=blk_frozen BK309.out 1;have p15:0 ≤ (0:Int):=(by omega);have q15:(0:Int) < ((x5_1.length:Int):Int):=oD;have qi15:(0 < x5_1.length) = True:=eq_true (by omega);obtain ⟨go15,co15,eo15,gb15,gl15,cl15,HG15⟩:=Kd.R_form HO_5.out (by omega);(first|cases eo15|(injection eo15 with ea_ en_ ec_;(first|subst ea_|(injection ea_ with ea_;subst ea_));subst ec_;clear en_));have GB15:=Aside0.mk gb15;have GG15:=Aside0.mk HG15;clear gb15 gl15 HG15;obtain ⟨hx15_0,hf15_0⟩:=Kd.R_celln 0 HO_5.out (0:Int) p15 q15;(try rw [show ((0:Int)).toNat = 0 from rfl] at hx15_0);(try simp only [Nat.reduceMul,Nat.zero_mul,Nat.zero_add,Nat.reduceAdd] at hx15_0);(try rw [show ((0:Int)).toNat = 0 from rfl] at hf15_0);(try simp only [Nat.reduceMul,Nat.zero_mul,Nat.zero_add,Nat.reduceAdd] at hf15_0);replace p15:=eq_true p15;replace q15:=eq_true q15;obtain ⟨hy19_,hz19_⟩:=Kd.R_celln 0 HO_5.out (0:Int) (by omega) (oD);(try simp only [Int.reduceToNat,Int.toNat_zero,Int.toNat_ofNat,Nat.reduceMul,Nat.zero_mul,Nat.zero_add] at hy19_ hz19_);(try rw [show ((0:Int)).toNat = 0 from rfl] at hy19_);(try rw [show ((0:Int)).toNat = 0 from rfl] at hz19_);have HP19:=Kd.R_putg HO_5.out (0:Int) a1_0)|((with_reducible refine gate_store (t:=3) (p:=24) rfl ?_);refine store_event (t:=3) (p:=24) (v:=?vo_w20) (w1:=(w16.setCell ⟨go15,(0:Int).toNat,none⟩ (.int .i64 a1_0))) ?hg ?ho ?hn ?hr ?_;(case ho=>rfl);(case hg=>rfl);(case hn=>rfl);(case hr=>exact Yd);intro w20 hw;have hg:w16.grownBy w20 (some go15):=(by rw [hw];exact HP19.2);have hp_:Kd.R (Kd.int .i64) 3 w20 w.heap.size (fun _=>True) (.slice (some ⟨go15,0,none⟩) x5_1.length co15) y320:=(by rw [hw,Ny320.out];exact HP19.1);clear HP19;replace BK309:=Aside0.mk (blk_grown (bB BK309) hg (Kd.R_ne HO_5.out BK309.out (by decide)));replace HI0:=Aside0.mk (IsS60.grown iIsS60 hg (IsS60.own_ne HI0.out HO_5.out (by decide)));replace HB:=Aside0.mk ((by rw [hw];exact below_set (HB.out) (Nat.le_trans HL.out GB15.out):Below w0.heap.size w0 w20));replace HK:=Aside0.mk (KeepBut.trans kB (KeepBut.of_grown hg g) (Kd.R_base2 HO_5.out));replace HO_5:=Aside0.mk (hp_);clear hg hw hp_))
      go_ret
      exact ⟨_,Yb,rR HO_5,iIsS60,bH,kB⟩
     ·rw [if_neg c14] at H
      exact absurd H (by simp)
    ·replace c13:=Bool.eq_false_iff.mpr c13
     subst c13
     have H1:(some (x5_1,t318,t319)) = some (r1,r2,r3):=by rw [if_neg (show ¬ (false = true) by decide)] at H;exact H
     clear H
     have H:=H1
     clear H1
     simp only [Option.some.injEq,Prod.mk.injEq] at H
     obtain ⟨rfl,rfl,rfl⟩:=H
     go_wp2_with (first|((with_reducible refine gate_callee (f:=75) rfl ?_);refine goesL_ (some 20) rfl rfl Try.func75 (by kernel_rfl) rfl #[.pointer (some ⟨g,0,none⟩),.int .i64 40] rfl Ya ?_;(with_reducible refine (spec_l1Cur_one.calls g s0_0 x1001_1 x1002_1 40 false t318 t319 w0 _ ?side1 ?side2 A12.out).mono ?_);(case side1=>exact iIsS60);(case side2=>exact bH);rintro e w21 ⟨rfl,hi,hb,hk⟩;refine ⟨_,rfl,?_⟩;replace HO_5:=Aside0.mk (Kd.R_mono (Kd.R_keep (IsS60.apart (show IsS60 w0 _ g s0_0 x1001_1 x1002_1 from iIsS60) (rR HO_5) (by decide)) hk (fun _ h=>h.2)) (fun _ h=>h.1));replace BK309:=Aside0.mk (KeepBut.blk hk (g':=gb309) (o:=.cells #[.int .i64 a1_0,.slice A1_1 l1_1.length c1_1] 31 (0,0)) (bB BK309) NB309_0.out (by simp));replace HK:=Aside0.mk (KeepBut.trans kB hk (.inl rfl));replace HB:=Aside0.mk (hb);replace HI0:=Aside0.mk (hi);(try clear hb);(try clear hb2);(try clear hk);(try clear hi)))
     go_ret
     exact ⟨_,Yb,rR HO_5,iIsS60,bH,kB⟩

/-! ### spec_DrawEvalIn: function 11 -/
def spec_DrawEvalIn.f (k:Nat) (l0:List Int):Option (List Int × Int × (List (List Int)) × List Int × List Int):=(spec_l1Cur_sign.f l0 0 0).bind fun bt324=>((spec_l1Cur_world.f k l0 bt324.2.1 bt324.2.2 bt324.1).bind fun bt330=>((spec_l1Cur_anyTerm.f k l0 bt330.2.2.1 bt330.2.2.2 bt324.1).bind fun bt337=>((spec_l1Cur_env.f k l0 bt337.2.1 bt337.2.2 bt330.1 bt330.2.1).bind fun bt342=>(some (bt324.1,bt330.1,bt330.2.1,bt337.1,bt342.1)))))
theorem spec_DrawEvalIn.mono:∀ a0 k,LeO (spec_DrawEvalIn.f k a0) (spec_DrawEvalIn.f (k + 1) a0):=by
 intro a0 k
 unfold spec_DrawEvalIn.f
 have m0:=@spec_l1Cur_anyTerm.mono
 have m1:=@spec_l1Cur_env.mono
 have m2:=@spec_l1Cur_world.mono
 exact mO
def spec_DrawEvalIn.T4:Bool × List (List Nat × List Nat):=(true,[([],[]),([],[]),([],[]),([],[]),([2,3],[2,3]),([],[]),([],[]),([5,6,4],[5,6]),([0,7,0],[0]),([1,8,0,1,8],[1]),([4,9,0,1,2,3,4,8,9],[4]),([7,10,0,1,2,3,4,5,6,7,8,9,10],[7])])
def spec_DrawEvalIn.B4:List Nat:=[0,0,0,0,12,0,0,124,253,511,1023,2047]
theorem spec_DrawEvalIn.tab4:rtab .any (opsOf Try.f11 4) = spec_DrawEvalIn.T4:=by kernel_rfl
theorem spec_DrawEvalIn.bits4:waitsOk spec_DrawEvalIn.T4.2 spec_DrawEvalIn.B4 = true:=by kernel_rfl
set_option maxHeartbeats 8000000 in
set_option maxRecDepth 100000 in
theorem spec_DrawEvalIn.calls (k:Nat) (A0:Option Addr) (c0:Nat) (l0:List Int) (r1:List Int) (r2:Int) (r3:List (List Int)) (r4:List Int) (r5:List Int) (w:World) (hr0:Kd.C (Kd.int .u8) w A0 l0.length l0) (hc0:l0.length ≤ c0) (h:spec_DrawEvalIn.f k l0 = some (r1,r2,r3,r4,r5)) :
  Calls Try.prog 11 #[.slice A0 l0.length c0] w fun e w'=>∃ v0_ v2_ v3_ v4_:Value,e = .returned (.tuple #[.agg #[v0_],.agg #[.int .i64 r2,v2_],v3_,v4_]) ∧ Kd.R (Kd.int .i64) 3 w' w.heap.size (fun k_=>some k_ ≠ (v3_:Value).ownBlock ∧ some k_ ≠ (v4_:Value).ownBlock) v0_ r1 ∧ Kd.S (Kd.slice 3 (Kd.int .i64)) 24 w' w.heap.size (fun k_=>some k_ ≠ (v0_:Value).ownBlock ∧ some k_ ≠ (v3_:Value).ownBlock ∧ some k_ ≠ (v4_:Value).ownBlock) v2_ r3 ∧ Kd.Q (Kd.int .i64) 3 w' w.heap.size (fun k_=>some k_ ≠ (v0_:Value).ownBlock ∧ some k_ ≠ (v4_:Value).ownBlock) v3_ r4 ∧ Kd.R (Kd.int .i64) 3 w' w.heap.size (fun k_=>some k_ ≠ (v0_:Value).ownBlock ∧ some k_ ≠ (v3_:Value).ownBlock) v4_ r5 ∧ Below w.heap.size w w':=by
 have hu26:=Try.underlying26
 have hu31:=Try.underlying31
 have hu60:=Try.underlying60
 have HR0:=Aside0.mk hr0
 have HC0:=Aside0.mk hc0
 clear hr0 hc0
 have HB:=Aside0.mk (Below.refl w.heap.size w)
 have H:((spec_l1Cur_sign.f l0 0 0).bind fun bt324=>((spec_l1Cur_world.f k l0 bt324.2.1 bt324.2.2 bt324.1).bind fun bt330=>((spec_l1Cur_anyTerm.f k l0 bt330.2.2.1 bt330.2.2.2 bt324.1).bind fun bt337=>((spec_l1Cur_env.f k l0 bt337.2.1 bt337.2.2 bt330.1 bt330.2.1).bind fun bt342=>(some (bt324.1,bt330.1,bt330.2.1,bt337.1,bt342.1)))))) = some (r1,r2,r3,r4,r5):=h
 clear h
 replace H:=Option.bind_eq_some_iff.mp H
 obtain ⟨⟨t324,t327,t328⟩,A20,H⟩:=H
 replace H:((spec_l1Cur_world.f k l0 t327 t328 t324).bind fun bt330=>((spec_l1Cur_anyTerm.f k l0 bt330.2.2.1 bt330.2.2.2 t324).bind fun bt337=>((spec_l1Cur_env.f k l0 bt337.2.1 bt337.2.2 bt330.1 bt330.2.1).bind fun bt342=>(some (t324,bt330.1,bt330.2.1,bt337.1,bt342.1))))) = some (r1,r2,r3,r4,r5):=H
 have A2:=Aside0.mk A20
 clear A20
 replace H:=Option.bind_eq_some_iff.mp H
 obtain ⟨⟨t330,t331,t334,t335⟩,A30,H⟩:=H
 replace H:((spec_l1Cur_anyTerm.f k l0 t334 t335 t324).bind fun bt337=>((spec_l1Cur_env.f k l0 bt337.2.1 bt337.2.2 t330 t331).bind fun bt342=>(some (t324,t330,t331,bt337.1,bt342.1)))) = some (r1,r2,r3,r4,r5):=H
 have A3:=Aside0.mk A30
 clear A30
 replace H:=Option.bind_eq_some_iff.mp H
 obtain ⟨⟨t337,t340,t341⟩,A40,H⟩:=H
 replace H:((spec_l1Cur_env.f k l0 t340 t341 t330 t331).bind fun bt342=>(some (t324,t330,t331,t337,bt342.1))) = some (r1,r2,r3,r4,r5):=H
 have A4:=Aside0.mk A40
 clear A40
 replace H:=Option.bind_eq_some_iff.mp H
 obtain ⟨⟨t342,t345,t346⟩,A50,H⟩:=H
 replace H:(some (t324,t330,t331,t337,t342)) = some (r1,r2,r3,r4,r5):=H
 have A5:=Aside0.mk A50
 clear A50
 simp only [Option.some.injEq,Prod.mk.injEq] at H
 obtain ⟨rfl,rfl,rfl,rfl,rfl⟩:=H
 go_enter Try.func11,Try.ntmps11
 try go_wp2_with (first|((with_reducible refine gate_dst (N:=2) rfl ?_);refine box_event ?hg (N:=2) ?hd (cs:=#[.slice none 0 0]) (t:=26) ?hr ?_;(case hd=>rfl);(case hg=>rfl);(case hr=>exact Yd);intro gb321 hg w6 hbox hb;have BK321:=Aside0.mk (hbox);have GW321:=Aside0.mk ((hZ:w.heap.size ≤ gb321));have GE321:=Aside0.mk ((hZ:w.heap.size ≤ gb321));replace HB:=Aside0.mk (below_step bH hb);clear hb hbox hg)|((with_reducible refine gate_dst (N:=3) rfl ?_);refine box_event ?hg (N:=3) ?hd (cs:=#[.int .i64 0,.slice none 0 0]) (t:=31) ?hr ?_;(case hd=>rfl);(case hg=>rfl);(case hr=>exact Yd);intro gb322 hg w7 hbox hb;have BK322:=Aside0.mk (hbox);have GW322:=Aside0.mk ((hZ:w.heap.size ≤ gb322));have GE322:=Aside0.mk ((hZ:w.heap.size ≤ gb322));replace HB:=Aside0.mk (below_step bH hb);have NB321_322:=Aside0.mk ((nL BK321:gb321 ≠ gb322));have NB322_321:=Aside0.mk ((nG BK321:gb322 ≠ gb321));replace BK321:=Aside0.mk (blk_below (bB BK321) hb);clear hb hbox hg)|((with_reducible refine gate_dst (N:=11) rfl ?_);refine box_event ?hg (N:=11) ?hd (cs:=#[.slice A0 l0.length c0,.int .i64 0,.int .u64 0]) (t:=60) ?hr ?_;(case hd=>rfl);(case hg=>rfl);(case hr=>exact Yd);intro gb323 hg w8 hbox hb;have BK323:=Aside0.mk (hbox);have GW323:=Aside0.mk ((hZ:w.heap.size ≤ gb323));have GE323:=Aside0.mk ((hZ:w.heap.size ≤ gb323));replace HB:=Aside0.mk (below_step bH hb);have NB321_323:=Aside0.mk ((nL BK321:gb321 ≠ gb323));have NB323_321:=Aside0.mk ((nG BK321:gb323 ≠ gb321));replace BK321:=Aside0.mk (blk_below (bB BK321) hb);have NB322_323:=Aside0.mk ((nL BK322:gb322 ≠ gb323));have NB323_322:=Aside0.mk ((nG BK322:gb323 ≠ gb322));replace BK322:=Aside0.mk (blk_below (bB BK322) hb);clear hb hbox hg;have HI323:=Aside0.mk (show IsS60 w w8 gb323 l0 0 0 from ⟨_,_,BK323.out,GW323.out,HR0.out⟩);clear BK323)|((with_reducible refine gate_callee (f:=35) rfl ?_);refine goesL_ (some 13) rfl rfl Try.func35 (by kernel_rfl) rfl #[.pointer (some ⟨gb323,0,none⟩)] rfl Ya ?_;(with_reducible refine (spec_l1Cur_sign.calls gb323 l0 0 0 t324 t327 t328 w _ ?side1 ?side2 A2.out).mono ?_);(case side1=>exact YE);(case side2=>exact bH);rintro e w9 ⟨v325,rfl,ho0,hi,hb,hk⟩;refine ⟨_,rfl,?_⟩;replace BK321:=Aside0.mk (KeepBut.blk hk (g':=gb321) (o:=.cells #[.slice none 0 0] 26 (0,0)) (bB BK321) NB321_323.out (by simp));replace BK322:=Aside0.mk (KeepBut.blk hk (g':=gb322) (o:=.cells #[.int .i64 0,.slice none 0 0] 31 (0,0)) (bB BK322) NB322_323.out (by simp));have HO326:=Aside0.mk (Kd.R_lower ho0 (below_size bH));replace HB:=Aside0.mk (hb);replace HI323:=Aside0.mk (hi);(try clear hb);(try clear hb2);(try clear hk);(try clear hi);(try clear ho0))|((with_reducible refine gate_dst (N:=7) rfl ?_);refine box_event ?hg (N:=7) ?hd (cs:=#[.slice none 0 0]) (t:=26) ?hr ?_;(case hd=>rfl);(case hg=>rfl);(case hr=>exact Yd);intro gb329 hg w10 hbox hb;replace HO326:=Aside0.mk (Kd.R_below (rR HO326) hb);have BK329:=Aside0.mk (hbox);have GW329:=Aside0.mk ((by rw [hg];exact (below_size bH):w.heap.size ≤ gb329));have GE329:=Aside0.mk ((by rw [hg];exact (below_size bH):w.heap.size ≤ gb329));replace HB:=Aside0.mk (below_step bH hb);have NB321_329:=Aside0.mk ((nL BK321:gb321 ≠ gb329));have NB329_321:=Aside0.mk ((nG BK321:gb329 ≠ gb321));replace BK321:=Aside0.mk (blk_below (bB BK321) hb);have NB322_329:=Aside0.mk ((nL BK322:gb322 ≠ gb329));have NB329_322:=Aside0.mk ((nG BK322:gb329 ≠ gb322));replace BK322:=Aside0.mk (blk_below (bB BK322) hb);have NB323_329:=Aside0.mk ((by rw [hg];exact Nat.ne_of_lt (IsS60.lt (show IsS60 w _ gb323 l0 t327 t328 from YE)):gb323 ≠ gb329));have NB329_323:=Aside0.mk ((by rw [hg];exact Nat.ne_of_gt (IsS60.lt (show IsS60 w _ gb323 l0 t327 t328 from YE)):gb329 ≠ gb323));replace HI323:=Aside0.mk (IsS60.below YE hb);clear hb hbox hg;obtain ⟨Ao11,co11,eo11⟩:=Kd.R_slice HO326.out;subst eo11;have hnb12:=NB329_321.out;have hnc12:=NB321_329.out;have hnb13:=NB329_322.out;have hnc13:=NB322_329.out;have hnb14:=NB329_323.out;have hnc14:=NB323_329.out;have hcz15_0:w10.cell? ⟨gb329,0,none⟩ = some (.slice none 0 0):=(blk_cell BK329.out 0).trans rfl;have hfz15_0:=blk_frozen BK329.out 0)|((with_reducible refine gate_callee (f:=44) rfl ?_);refine goesL_ (some 16) rfl rfl Try.func44 (by kernel_rfl) rfl #[.pointer (some ⟨gb323,0,none⟩),.agg #[.slice Ao11 t324.length co11]] rfl Ya ?_;(with_reducible refine (spec_l1Cur_world.calls k gb323 l0 t327 t328 _ _ t324 t330 t331 t334 t335 w _ ?side1 ?side2 ?side3 ?side4 ?side5 A3.out).mono ?_);(case side1=>exact Yn);(case side2=>exact bH);(case side3=>refine (Kd.R_reads' (e:=3) (base:=w.heap.size) (ok:=fun k_=>True) (n:=t324.length) (c:=co11) ?_).2.2;exact YC);(case side4=>exact (Kd.R_reads' HO326.out).2.1);(case side5=>exact far_slice (IsS60.own_ne HI323.out HO326.out (by decide)));rintro e w16 ⟨v332,rfl,ho0,hi,hb,hk⟩;refine ⟨_,rfl,?_⟩;replace BK321:=Aside0.mk (KeepBut.blk hk (g':=gb321) (o:=.cells #[.slice none 0 0] 26 (0,0)) (by (with_reducible repeat (first|refine blk_drewN ?_ _|refine blk_drew ?_|refine blk_alloc ?_ _));refine blk_far ?_ NB321_329.out _;(with_reducible repeat (first|refine blk_drewN ?_ _|refine blk_drew ?_|refine blk_alloc ?_ _));exact BK321.out) NB321_323.out (by simp));replace BK322:=Aside0.mk (KeepBut.blk hk (g':=gb322) (o:=.cells #[.int .i64 0,.slice none 0 0] 31 (0,0)) (by (with_reducible repeat (first|refine blk_drewN ?_ _|refine blk_drew ?_|refine blk_alloc ?_ _));refine blk_far ?_ NB322_329.out _;(with_reducible repeat (first|refine blk_drewN ?_ _|refine blk_drew ?_|refine blk_alloc ?_ _));exact BK322.out) NB322_323.out (by simp));have HO333:=Aside0.mk (Kd.S_lower (Kd.S_new' ho0 (Kd.R_lt YC)) (below_size bH));replace HO326:=Aside0.mk (Kd.R_mono (Kd.R_keep (IsS60.apart (show IsS60 w _ gb323 l0 t327 t328 from Yn) YC (by decide)) hk (fun _ h=>h.2)) (fun _ h=>h.1));replace BK329:=Aside0.mk (KeepBut.blk hk (g':=gb329) (o:=.cells #[.slice Ao11 t324.length co11] 26 (0,0)) (by (with_reducible repeat (first|refine blk_drewN ?_ _|refine blk_drew ?_|refine blk_alloc ?_ _));refine blk_put (cs:=#[.slice none 0 0]) ?_ 0 _ rfl;(with_reducible repeat (first|refine blk_drewN ?_ _|refine blk_drew ?_|refine blk_alloc ?_ _));exact BK329.out) NB329_323.out (by simp));replace HB:=Aside0.mk (hb);replace HI323:=Aside0.mk (hi);(try clear hb);(try clear hb2);(try clear hk);(try clear hi);(try clear ho0))|((with_reducible refine gate_dst (N:=8) rfl ?_);refine box_event ?hg (N:=8) ?hd (cs:=#[.int .i64 0,.slice none 0 0]) (t:=31) ?hr ?_;(case hd=>rfl);(case hg=>rfl);(case hr=>exact Yd);intro gb336 hg w17 hbox hb;replace HO326:=Aside0.mk (Kd.R_below (rR HO326) hb);replace HO333:=Aside0.mk (Kd.S_below (rS HO333) hb);have BK336:=Aside0.mk (hbox);have GW336:=Aside0.mk ((by rw [hg];exact (below_size bH):w.heap.size ≤ gb336));have GE336:=Aside0.mk ((by rw [hg];exact (below_size bH):w.heap.size ≤ gb336));replace HB:=Aside0.mk (below_step bH hb);have NB321_336:=Aside0.mk ((nL BK321:gb321 ≠ gb336));have NB336_321:=Aside0.mk ((nG BK321:gb336 ≠ gb321));replace BK321:=Aside0.mk (blk_below (bB BK321) hb);have NB322_336:=Aside0.mk ((nL BK322:gb322 ≠ gb336));have NB336_322:=Aside0.mk ((nG BK322:gb336 ≠ gb322));replace BK322:=Aside0.mk (blk_below (bB BK322) hb);have NB329_336:=Aside0.mk ((nL BK329:gb329 ≠ gb336));have NB336_329:=Aside0.mk ((nG BK329:gb336 ≠ gb329));replace BK329:=Aside0.mk (blk_below (bB BK329) hb);have NB323_336:=Aside0.mk ((by rw [hg];exact Nat.ne_of_lt (IsS60.lt (show IsS60 w _ gb323 l0 t334 t335 from Yn)):gb323 ≠ gb336));have NB336_323:=Aside0.mk ((by rw [hg];exact Nat.ne_of_gt (IsS60.lt (show IsS60 w _ gb323 l0 t334 t335 from Yn)):gb336 ≠ gb323));replace HI323:=Aside0.mk (IsS60.below Yn hb);clear hb hbox hg;have hnb18:=NB336_321.out;have hnc18:=NB321_336.out;have hnb19:=NB336_322.out;have hnc19:=NB322_336.out;have hnb20:=NB336_329.out;have hnc20:=NB329_336.out;have hnb21:=NB336_323.out;have hnc21:=NB323_336.out;have hcz22_0:w17.cell? ⟨gb336,0,none⟩ = some (.int .i64 0):=(blk_cell BK336.out 0).trans rfl;have hcz22_1:w17.cell? ⟨gb336,1,none⟩ = some (.slice none 0 0):=(blk_cell BK336.out 1).trans rfl;have hfz22_0:=blk_frozen BK336.out 0;have hfz22_1:=blk_frozen BK336.out 1;obtain ⟨Ao23,co23,eo23⟩:=Kd.S_slice HO333.out;subst eo23))
 have n0_:Aside0 (Kd.R (Kd.int .i64) 3 ((w17.setCell ⟨gb336,0,none⟩ (.int .i64 t330)).setCell ⟨gb336,1,none⟩ (.slice Ao23 t331.length co23)) w.heap.size (fun _=>True) (.slice Ao11 t324.length co11) t324):=⟨by (with_reducible repeat (first|apply Kd.R_alloc|apply Kd.R_drewN|apply Kd.R_drew));exact Kd.R_mono (Kd.R_far (p:=⟨gb336,1,none⟩) (Kd.R_far (p:=⟨gb336,0,none⟩) (Kd.R_types HO326.out BK336.out (by decide)) (fun _ hk=>hk.2) (.int .i64 t330)) (fun _ hk=>hk.2) (.slice Ao23 t331.length co23)) (fun _ hk=>trivial)⟩
 have n1_:Aside0 (Kd.S (Kd.slice 3 (Kd.int .i64)) 24 ((w17.setCell ⟨gb336,0,none⟩ (.int .i64 t330)).setCell ⟨gb336,1,none⟩ (.slice Ao23 t331.length co23)) w.heap.size (fun k_=>some k_ ≠ (.slice Ao11 t324.length co11:Value).ownBlock) (.slice Ao23 t331.length co23) t331):=⟨by (with_reducible repeat (first|apply Kd.S_alloc|apply Kd.S_drewN|apply Kd.S_drew));exact Kd.S_mono (Kd.S_far (p:=⟨gb336,1,none⟩) (Kd.S_far (p:=⟨gb336,0,none⟩) (Kd.S_types HO333.out BK336.out (by decide)) (fun _ hk=>hk.2) (.int .i64 t330)) (fun _ hk=>hk.2) (.slice Ao23 t331.length co23)) (fun _ hk=>hk.1.2)⟩
 have n2_:Aside0 (((w17.setCell ⟨gb336,0,none⟩ (.int .i64 t330)).setCell ⟨gb336,1,none⟩ (.slice Ao23 t331.length co23)).heap[gb321]? = some (.cells #[.slice none 0 0] 26 (0,0))):=⟨by (with_reducible repeat (first|refine blk_drewN ?_ _|refine blk_drew ?_|refine blk_alloc ?_ _));refine blk_far ?_ NB321_336.out _;(with_reducible repeat (first|refine blk_drewN ?_ _|refine blk_drew ?_|refine blk_alloc ?_ _));refine blk_far ?_ NB321_336.out _;(with_reducible repeat (first|refine blk_drewN ?_ _|refine blk_drew ?_|refine blk_alloc ?_ _));exact BK321.out⟩
 have n3_:Aside0 (((w17.setCell ⟨gb336,0,none⟩ (.int .i64 t330)).setCell ⟨gb336,1,none⟩ (.slice Ao23 t331.length co23)).heap[gb322]? = some (.cells #[.int .i64 0,.slice none 0 0] 31 (0,0))):=⟨by (with_reducible repeat (first|refine blk_drewN ?_ _|refine blk_drew ?_|refine blk_alloc ?_ _));refine blk_far ?_ NB322_336.out _;(with_reducible repeat (first|refine blk_drewN ?_ _|refine blk_drew ?_|refine blk_alloc ?_ _));refine blk_far ?_ NB322_336.out _;(with_reducible repeat (first|refine blk_drewN ?_ _|refine blk_drew ?_|refine blk_alloc ?_ _));exact BK322.out⟩
 have n4_:Aside0 (((w17.setCell ⟨gb336,0,none⟩ (.int .i64 t330)).setCell ⟨gb336,1,none⟩ (.slice Ao23 t331.length co23)).heap[gb329]? = some (.cells #[.slice Ao11 t324.length co11] 26 (0,0))):=⟨by (with_reducible repeat (first|refine blk_drewN ?_ _|refine blk_drew ?_|refine blk_alloc ?_ _));refine blk_far ?_ NB329_336.out _;(with_reducible repeat (first|refine blk_drewN ?_ _|refine blk_drew ?_|refine blk_alloc ?_ _));refine blk_far ?_ NB329_336.out _;(with_reducible repeat (first|refine blk_drewN ?_ _|refine blk_drew ?_|refine blk_alloc ?_ _));exact BK329.out⟩
 have n5_:Aside0 (((w17.setCell ⟨gb336,0,none⟩ (.int .i64 t330)).setCell ⟨gb336,1,none⟩ (.slice Ao23 t331.length co23)).heap[gb336]? = some (.cells #[.int .i64 t330,.slice Ao23 t331.length co23] 31 (0,0))):=⟨by (with_reducible repeat (first|refine blk_drewN ?_ _|refine blk_drew ?_|refine blk_alloc ?_ _));refine blk_put (cs:=#[.int .i64 t330,.slice none 0 0]) ?_ 1 _ rfl;(with_reducible repeat (first|refine blk_drewN ?_ _|refine blk_drew ?_|refine blk_alloc ?_ _));refine blk_put (cs:=#[.int .i64 0,.slice none 0 0]) ?_ 0 _ rfl;(with_reducible repeat (first|refine blk_drewN ?_ _|refine blk_drew ?_|refine blk_alloc ?_ _));exact BK336.out⟩
 have n6_:Aside0 (IsS60 w ((w17.setCell ⟨gb336,0,none⟩ (.int .i64 t330)).setCell ⟨gb336,1,none⟩ (.slice Ao23 t331.length co23)) gb323 l0 t334 t335):=⟨Yf⟩
 have n7_:Aside0 (Below w.heap.size w ((w17.setCell ⟨gb336,0,none⟩ (.int .i64 t330)).setCell ⟨gb336,1,none⟩ (.slice Ao23 t331.length co23))):=⟨bH⟩
 (try clear HO326)
 (try clear HO333)
 (try clear BK321)
 (try clear BK322)
 (try clear BK329)
 (try clear BK336)
 (try clear HI323)
 (try clear HB)
 generalize ((w17.setCell ⟨gb336,0,none⟩ (.int .i64 t330)).setCell ⟨gb336,1,none⟩ (.slice Ao23 t331.length co23)) = w24 at n0_ n1_ n2_ n3_ n4_ n5_ n6_ n7_ ⊢
 have HO326:=n0_
 have HO333:=n1_
 have BK321:=n2_
 have BK322:=n3_
 have BK329:=n4_
 have BK336:=n5_
 have HI323:=n6_
 have HB:=n7_
 clear n0_ n1_ n2_ n3_ n4_ n5_ n6_ n7_
 replace HO326:=Aside0.mk (Kd.R_drew HO326.out);replace HO333:=Aside0.mk (Kd.S_drew HO333.out);replace BK321:=Aside0.mk (blk_drew BK321.out);replace BK322:=Aside0.mk (blk_drew BK322.out);replace BK329:=Aside0.mk (blk_drew BK329.out);replace BK336:=Aside0.mk (blk_drew BK336.out);replace HI323:=Aside0.mk (IsS60.drew HI323.out);replace HB:=Aside0.mk (below_drew1 HB.out)
 refine start_ (n:=12) (S:=fun w'=>w'.cell? ⟨gb329,0,none⟩ = some (.slice Ao11 t324.length co11) ∧ w'.cell? ⟨gb336,0,none⟩ = some (.int .i64 t330) ∧ w'.cell? ⟨gb336,1,none⟩ = some (.slice Ao23 t331.length co23)) (ds:=[]) #[false,false,false,false,false,false,false,false,false,false,false,false] (by kernel_rfl) rfl rfl ⟨(blk_cell BK329.out 0).trans rfl,(blk_cell BK336.out 0).trans rfl,(blk_cell BK336.out 1).trans rfl⟩ (fun hHeld=>?_);refine with_tabW spec_DrawEvalIn.tab4 spec_DrawEvalIn.bits4 (fun HT_ HW_=>?_)
 generalize w24.drew = w25 at HO326 HO333 BK321 BK322 BK329 BK336 HI323 HB hHeld ⊢
 refine pU (i:=2) (N:=some 19) #[false,false,true,false,false,false,false,false,false,false,false,false] (any_of HT_.out (by kernel_rfl)) ?_
 refine pU (i:=5) (N:=some 22) #[false,false,true,false,false,true,false,false,false,false,false,false] (any_of HT_.out (by kernel_rfl)) ?_
 refine take_ (i:=0) (N:=some 17) (v:=?_) (a':=?_) #[true,false,true,false,false,true,false,false,false,false,false,false] rfl rfl (take_ofW HT_.out HW_.out (by kernel_rfl)) (fun _ _ _ h=>h) (Or.inl ⟨by rfl,?_⟩) hHeld ?_ ?_
 rotate_left
 ·rintro w' ⟨s0,s1,s2⟩
  go_simp
  with_reducible rfl
 rotate_left
 ·simp only [Act.put,List.setIfInBounds_toArray,List.set_cons_zero,List.set_cons_succ,i64_w,i32_w]
  rfl
 refine take_ (i:=1) (N:=some 18) (v:=?_) (a':=?_) #[true,true,true,false,false,true,false,false,false,false,false,false] rfl rfl (take_ofW HT_.out HW_.out (by kernel_rfl)) (fun _ _ _ h=>h) (Or.inl ⟨by rfl,?_⟩) hHeld ?_ ?_
 rotate_left
 ·rintro w' ⟨s0,s1,s2⟩
  go_simp
  with_reducible rfl
 rotate_left
 ·simp only [Act.put,List.setIfInBounds_toArray,List.set_cons_zero,List.set_cons_succ,i64_w,i32_w]
  rfl
 refine take_ (i:=3) (N:=some 20) (v:=?_) (a':=?_) #[true,true,true,true,false,true,false,false,false,false,false,false] rfl rfl (take_ofW HT_.out HW_.out (by kernel_rfl)) (fun _ _ _ h=>h) (Or.inl ⟨by rfl,?_⟩) hHeld ?_ ?_
 rotate_left
 ·rintro w' ⟨s0,s1,s2⟩
  go_simp
  with_reducible rfl
 rotate_left
 ·simp only [Act.put,List.setIfInBounds_toArray,List.set_cons_zero,List.set_cons_succ,i64_w,i32_w]
  rfl
 refine take_ (i:=6) (N:=some 23) (v:=?_) (a':=?_) #[true,true,true,true,false,true,true,false,false,false,false,false] rfl rfl (take_ofW HT_.out HW_.out (by kernel_rfl)) (fun _ _ _ h=>h) (Or.inl ⟨by rfl,?_⟩) hHeld ?_ ?_
 rotate_left
 ·rintro w' ⟨s0,s1,s2⟩
  go_simp
  with_reducible rfl
 rotate_left
 ·simp only [Act.put,List.setIfInBounds_toArray,List.set_cons_zero,List.set_cons_succ,i64_w,i32_w]
  rfl
 refine one_ (i:=4) (N:=some 21) #[true,true,true,true,true,true,true,false,false,false,false,false] rfl rfl (one_of HT_.out (by kernel_rfl)) (by decide) (fun K hK=>?_)
 refine goes_ Try.func37 (by kernel_rfl) rfl #[.pointer (some ⟨gb323,0,none⟩),.agg #[.slice Ao11 t324.length co11]] (by rfl) rfl rfl Ya ?_
 with_reducible refine (spec_l1Cur_anyTerm.calls k gb323 l0 t334 t335 _ _ t324 t337 t340 t341 w _ ?side1 ?side2 ?side3 ?side4 ?side5 A4.out).mono ?_
 (case side1=>exact Yf)
 (case side2=>exact bH)
 (case side3=>repeat (first|exact (Kd.R_reads' HO326.out).2.2|(with_reducible refine Kd.C_alloc ?_ _)|(with_reducible refine Kd.C_drewN ?_ _)|(with_reducible refine Kd.C_drew ?_)))
 (case side4=>exact (Kd.R_reads' HO326.out).2.1)
 (case side5=>exact far_slice (IsS60.own_ne HI323.out HO326.out (by decide)))
 rintro e w26 ⟨v338,rfl,ho0,hi,hb,hk⟩
 refine ⟨_,rfl,?_⟩
 replace BK321:=Aside0.mk (KeepBut.blk hk (g':=gb321) (o:=.cells #[.slice none 0 0] 26 (0,0)) (bB BK321) NB321_323.out (by simp));replace BK322:=Aside0.mk (KeepBut.blk hk (g':=gb322) (o:=.cells #[.int .i64 0,.slice none 0 0] 31 (0,0)) (bB BK322) NB322_323.out (by simp));replace BK329:=Aside0.mk (KeepBut.blk hk (g':=gb329) (o:=.cells #[.slice Ao11 t324.length co11] 26 (0,0)) (bB BK329) NB329_323.out (by simp));replace HO333:=Aside0.mk (Kd.S_mono (Kd.S_told (Kd.S_oldK (IsS60.apartS (show IsS60 w _ gb323 l0 t334 t335 from Yf) (rS HO333) (by decide)) hk) (Kd.Q_base ho0)) (fun _ h_=>h_.1));replace BK336:=Aside0.mk (KeepBut.blk hk (g':=gb336) (o:=.cells #[.int .i64 t330,.slice Ao23 t331.length co23] 31 (0,0)) (bB BK336) NB336_323.out (by simp));have HO339:=Aside0.mk (Kd.Q_lower (Kd.Q_new' ho0 (Kd.R_lt (rR HO326))) (below_size bH));replace HO326:=Aside0.mk (Kd.R_mono (Kd.R_told (Kd.R_oldK (IsS60.apart (show IsS60 w _ gb323 l0 t334 t335 from Yf) (rR HO326) (by decide)) hk) (Kd.Q_base ho0)) (fun _ h_=>h_.1));replace HB:=Aside0.mk (hb);replace HI323:=Aside0.mk (hi)
 (try clear hb)
 (try clear hb2)
 (try clear hk)
 (try clear hi)
 (try clear ho0)
 refine hK.out _ _ ⟨(blk_cell BK329.out 0).trans rfl,(blk_cell BK336.out 0).trans rfl,(blk_cell BK336.out 1).trans rfl⟩ (fun hHeld=>?_)
 clear hK K
 refine nM (N:=some 21) ?_
 refine one_ (i:=7) (N:=some 24) #[true,true,true,true,true,true,true,true,false,false,false,false] rfl rfl (one_of HT_.out (by kernel_rfl)) (by decide) (fun K hK=>?_)
 refine goes_ Try.func45 (by kernel_rfl) rfl #[.pointer (some ⟨gb323,0,none⟩),.agg #[.int .i64 t330,.slice Ao23 t331.length co23]] (by rfl) rfl rfl Ya ?_
 with_reducible refine (spec_l1Cur_env.calls k gb323 l0 t340 t341 t330 _ _ t331 t342 t345 t346 w _ ?side1 ?side2 ?side3 ?side4 A5.out).mono ?_
 (case side1=>exact Yf)
 (case side2=>exact bH)
 (case side3=>exact Kd.C_foot_own ((Kd.S_R (IsS60.apartS (show IsS60 w _ gb323 l0 t340 t341 from Yf) (rS HO333) (by decide)))) (fun _ h_=>h_.2))
 (case side4=>exact (Kd.S_reads' HO333.out).2.1)
 rintro e w27 ⟨v343,rfl,ho0,hi,hb,hk⟩
 refine ⟨_,rfl,?_⟩
 replace BK321:=Aside0.mk (KeepBut.blk hk (g':=gb321) (o:=.cells #[.slice none 0 0] 26 (0,0)) (bB BK321) NB321_323.out (by simp));replace BK322:=Aside0.mk (KeepBut.blk hk (g':=gb322) (o:=.cells #[.int .i64 0,.slice none 0 0] 31 (0,0)) (bB BK322) NB322_323.out (by simp));replace BK329:=Aside0.mk (KeepBut.blk hk (g':=gb329) (o:=.cells #[.slice Ao11 t324.length co11] 26 (0,0)) (bB BK329) NB329_323.out (by simp));replace HO333:=Aside0.mk (Kd.S_mono (Kd.S_told (Kd.S_oldK (IsS60.apartS (show IsS60 w _ gb323 l0 t340 t341 from Yf) (rS HO333) (by decide)) hk) (Kd.R_base ho0)) (fun _ h_=>h_.1));replace BK336:=Aside0.mk (KeepBut.blk hk (g':=gb336) (o:=.cells #[.int .i64 t330,.slice Ao23 t331.length co23] 31 (0,0)) (bB BK336) NB336_323.out (by simp));have HO344:=Aside0.mk (Kd.R_lower (Kd.R_new' (Kd.R_new' ho0 (Kd.R_lt (rR HO326))) (Kd.Q_lt (rQ HO339))) (below_size bH));replace HO326:=Aside0.mk (Kd.R_mono (Kd.R_told (Kd.R_oldK (IsS60.apart (show IsS60 w _ gb323 l0 t340 t341 from Yf) (rR HO326) (by decide)) hk) (Kd.R_base ho0)) (fun _ h_=>h_.1));replace HO339:=Aside0.mk (Kd.Q_mono (Kd.Q_told (Kd.Q_oldK (IsS60.apartQ (show IsS60 w _ gb323 l0 t340 t341 from Yf) (rQ HO339) (by decide)) hk) (Kd.R_base ho0)) (fun _ h_=>h_.1));replace HB:=Aside0.mk (hb);replace HI323:=Aside0.mk (hi)
 (try clear hb)
 (try clear hb2)
 (try clear hk)
 (try clear hi)
 (try clear ho0)
 refine hK.out _ _ ⟨(blk_cell BK329.out 0).trans rfl,(blk_cell BK336.out 0).trans rfl,(blk_cell BK336.out 1).trans rfl⟩ (fun hHeld=>?_)
 clear hK K
 refine nM (N:=some 24) ?_
 refine one_ (i:=8) (N:=none) #[true,true,true,true,true,true,true,true,true,false,false,false] rfl rfl (one_of HT_.out (by kernel_rfl)) (by decide) (fun K hK=>?_)
 have hs28:w27.cell? ⟨gb321,0,none⟩ = some (.slice none 0 0):=(blk_cell BK321.out 0).trans rfl
 have hfs28:=blk_frozen BK321.out 0
 have hns28_1:=NB322_321.out
 have hns28_2:=NB329_321.out
 have hns28_3:=NB336_321.out
 have hms28_1:=NB321_322.out
 have hms28_2:=NB321_329.out
 have hms28_3:=NB321_336.out
 refine skip_ (w1:=?_) (by rfl) rfl ?_ ?_
 rotate_left
 ·go_simp
  rfl
 refine hK.out _ _ ⟨((cell_far (p:=⟨gb321,_,none⟩) NB329_321.out _).trans (hHeld.1)),((cell_far (p:=⟨gb321,_,none⟩) NB336_321.out _).trans (hHeld.2.1)),((cell_far (p:=⟨gb321,_,none⟩) NB336_321.out _).trans (hHeld.2.2))⟩ (fun hHeld=>?_)
 clear hK K
 refine one_ (i:=9) (N:=none) #[true,true,true,true,true,true,true,true,true,true,false,false] rfl rfl (one_of HT_.out (by kernel_rfl)) (by decide) (fun K hK=>?_)
 have hs29:w27.cell? ⟨gb322,0,none⟩ = some (.int .i64 0):=(blk_cell BK322.out 0).trans rfl
 have hfs29:=blk_frozen BK322.out 0
 have hns29_0:=NB321_322.out
 have hns29_2:=NB329_322.out
 have hns29_3:=NB336_322.out
 have hms29_0:=NB322_321.out
 have hms29_2:=NB322_329.out
 have hms29_3:=NB322_336.out
 have hs30:w27.cell? ⟨gb322,1,none⟩ = some (.slice none 0 0):=(blk_cell BK322.out 1).trans rfl
 have hfs30:=blk_frozen BK322.out 1
 have hns30_0:=NB321_322.out
 have hns30_2:=NB329_322.out
 have hns30_3:=NB336_322.out
 have hms30_0:=NB322_321.out
 have hms30_2:=NB322_329.out
 have hms30_3:=NB322_336.out
 refine skip_ (w1:=?_) (by rfl) rfl ?_ ?_
 rotate_left
 ·go_simp
  rfl
 refine hK.out _ _ ⟨((cell_far (p:=⟨gb322,_,none⟩) NB329_322.out _).trans (((cell_far (p:=⟨gb322,_,none⟩) NB329_322.out _).trans (hHeld.1)))),((cell_far (p:=⟨gb322,_,none⟩) NB336_322.out _).trans (((cell_far (p:=⟨gb322,_,none⟩) NB336_322.out _).trans (hHeld.2.1)))),((cell_far (p:=⟨gb322,_,none⟩) NB336_322.out _).trans (((cell_far (p:=⟨gb322,_,none⟩) NB336_322.out _).trans (hHeld.2.2))))⟩ (fun hHeld=>?_)
 clear hK K
 refine pU (i:=10) (N:=some 4) #[true,true,true,true,true,true,true,true,true,true,true,false] (any_of HT_.out (by kernel_rfl)) ?_
 refine pU (i:=11) (N:=some 5) #[true,true,true,true,true,true,true,true,true,true,true,true] (any_of HT_.out (by kernel_rfl)) ?_
 refine done_ (done_of HT_.out (by kernel_rfl)) ?_
 try go_wp2
 refine bodyPost_ret (results_list (rs:=[.cell 2 26,.cell 3 31,.tmp 4,.tmp 5]) rfl (by simp) (.cell gb321 26 #[.slice Ao11 t324.length co11] (0,0) _ rfl (by (with_reducible repeat (first|refine blk_drewN ?_ _|refine blk_drew ?_|refine blk_alloc ?_ _));refine blk_far ?_ NB321_322.out _;(with_reducible repeat (first|refine blk_drewN ?_ _|refine blk_drew ?_|refine blk_alloc ?_ _));refine blk_far ?_ NB321_322.out _;(with_reducible repeat (first|refine blk_drewN ?_ _|refine blk_drew ?_|refine blk_alloc ?_ _));refine blk_put (cs:=#[.slice none 0 0]) ?_ 0 _ rfl;(with_reducible repeat (first|refine blk_drewN ?_ _|refine blk_drew ?_|refine blk_alloc ?_ _));exact BK321.out) Try.underlying26 rfl (by kernel_rfl) (.cell gb322 31 #[.int .i64 t330,.slice Ao23 t331.length co23] (0,0) _ rfl (by (with_reducible repeat (first|refine blk_drewN ?_ _|refine blk_drew ?_|refine blk_alloc ?_ _));refine blk_put (cs:=#[.int .i64 t330,.slice none 0 0]) ?_ 1 _ rfl;(with_reducible repeat (first|refine blk_drewN ?_ _|refine blk_drew ?_|refine blk_alloc ?_ _));refine blk_put (cs:=#[.int .i64 0,.slice none 0 0]) ?_ 0 _ rfl;(with_reducible repeat (first|refine blk_drewN ?_ _|refine blk_drew ?_|refine blk_alloc ?_ _));refine blk_far ?_ NB322_321.out _;(with_reducible repeat (first|refine blk_drewN ?_ _|refine blk_drew ?_|refine blk_alloc ?_ _));exact BK322.out) Try.underlying31 rfl (by kernel_rfl) (.tmp (.tmp .nil))))) rfl ?_
 exact ⟨_,_,_,_,Yb,by (with_reducible repeat (first|apply Kd.R_alloc|apply Kd.R_drewN|apply Kd.R_drew));exact Kd.R_mono (Kd.R_far (p:=⟨gb322,1,none⟩) (Kd.R_far (p:=⟨gb322,0,none⟩) (Kd.R_far (p:=⟨gb321,0,none⟩) (Kd.R_types (Kd.R_types HO326.out BK321.out (by decide)) BK322.out (by decide)) (fun _ hk=>hk.1.2) (.slice Ao11 t324.length co11)) (fun _ hk=>hk.2) (.int .i64 t330)) (fun _ hk=>hk.2) (.slice Ao23 t331.length co23)) (fun _ hk=>⟨hk.1.1.1.2,hk.1.1.2⟩),by (with_reducible repeat (first|apply Kd.S_alloc|apply Kd.S_drewN|apply Kd.S_drew));exact Kd.S_mono (Kd.S_far (p:=⟨gb322,1,none⟩) (Kd.S_far (p:=⟨gb322,0,none⟩) (Kd.S_far (p:=⟨gb321,0,none⟩) (Kd.S_types (Kd.S_types HO333.out BK321.out (by decide)) BK322.out (by decide)) (fun _ hk=>hk.1.2) (.slice Ao11 t324.length co11)) (fun _ hk=>hk.2) (.int .i64 t330)) (fun _ hk=>hk.2) (.slice Ao23 t331.length co23)) (fun _ hk=>⟨hk.1.1.1.1,⟨hk.1.1.1.2,hk.1.1.2⟩⟩),by (with_reducible repeat (first|apply Kd.Q_alloc|apply Kd.Q_drewN|apply Kd.Q_drew));exact Kd.Q_mono (Kd.Q_far (p:=⟨gb322,1,none⟩) (Kd.Q_far (p:=⟨gb322,0,none⟩) (Kd.Q_far (p:=⟨gb321,0,none⟩) (Kd.Q_types (Kd.Q_types HO339.out BK321.out (by decide)) BK322.out (by decide)) (fun _ hk=>hk.1.2) (.slice Ao11 t324.length co11)) (fun _ hk=>hk.2) (.int .i64 t330)) (fun _ hk=>hk.2) (.slice Ao23 t331.length co23)) (fun _ hk=>⟨hk.1.1.1.2,hk.1.1.2⟩),by (with_reducible repeat (first|apply Kd.R_alloc|apply Kd.R_drewN|apply Kd.R_drew));exact Kd.R_mono (Kd.R_far (p:=⟨gb322,1,none⟩) (Kd.R_far (p:=⟨gb322,0,none⟩) (Kd.R_far (p:=⟨gb321,0,none⟩) (Kd.R_types (Kd.R_types HO344.out BK321.out (by decide)) BK322.out (by decide)) (fun _ hk=>hk.1.2) (.slice Ao11 t324.length co11)) (fun _ hk=>hk.2) (.int .i64 t330)) (fun _ hk=>hk.2) (.slice Ao23 t331.length co23)) (fun _ hk=>⟨hk.1.1.1.2,hk.1.1.2⟩),bH⟩

/-! ### spec_l1In: function 83 -/
def spec_l1In.f (a0:Int) (a1:Int) (a2:Int):Option (Bool):=if a0 ≥ a1 then (some (decide (a0 ≤ a2))) else (some false)
set_option maxHeartbeats 8000000 in
set_option maxRecDepth 100000 in
theorem spec_l1In.calls (a0:Int) (a1:Int) (a2:Int) (r:Bool) (w:World) (h:spec_l1In.f a0 a1 a2 = some r) :
  Calls Try.prog 83 #[.int .i64 a0,.int .i64 a1,.int .i64 a2] w fun e w'=>e = .returned (.bool r) ∧ Drawn0 w w':=by
 have H:(if a0 ≥ a1 then (some (decide (a0 ≤ a2))) else (some false)) = some r:=h
 clear h
 by_cases c4:a0 ≥ a1
 ·rw [if_pos c4] at H
  have c4b0:decide (a1 ≤ a0) = true:=decide_eq_true c4
  clear c4
  obtain rfl:=Option.some.inj H
  go_enter Try.func83,Try.ntmps83
  go_wp2
  go_ret
  exact ⟨Ye,Yk⟩
 ·rw [if_neg c4] at H
  have c4b0:decide (a1 ≤ a0) = false:=decide_eq_false c4
  clear c4
  obtain rfl:=Option.some.inj H
  go_enter Try.func83,Try.ntmps83
  go_wp2
  go_ret
  exact ⟨Ye,Yk⟩

/-! ### spec_l1All: function 85 -/
def spec_l1All.l0:Nat → Int → Int → List Int → Int → Int → Option (Bool)
 | 0,_,_,_,_,_=>none
 | k + 1,x1,x2,x9,x10,x11=>if x11 < x10 then (if 0 ≤ x11 then (if x11 < (x9.length:Int) then ((spec_l1In.f (rd x9 x11) x1 x2).bind fun t348=>(if t348 = true then (spec_l1All.l0 k x1 x2 x9 x10 (wrap64 (x11 + 1))) else (some false))) else (none)) else (none)) else (some true)
def spec_l1All.f (k:Nat) (l0:List Int) (a1:Int) (a2:Int):Option (Bool):=spec_l1All.l0 k a1 a2 l0 (l0.length:Int) 0
theorem spec_l1All.mono_l:∀ k,(∀ y0 y1 y2 y3 y4,LeO (spec_l1All.l0 k y0 y1 y2 y3 y4) (spec_l1All.l0 (k + 1) y0 y1 y2 y3 y4))
 | 0=>fun _ _ _ _ _ r h=>by simp [spec_l1All.l0] at h
 | k + 1=>by
  have ih0:=spec_l1All.mono_l k
  ·intro y0 y1 y2 y3 y4
   unfold spec_l1All.l0
   exact mO
theorem spec_l1All.mono:∀ a0 a1 a2 k,LeO (spec_l1All.f k a0 a1 a2) (spec_l1All.f (k + 1) a0 a1 a2):=by
 intro a0 a1 a2 k
 have ih0:=spec_l1All.mono_l k
 unfold spec_l1All.f
 exact mO
set_option maxHeartbeats 8000000 in
set_option maxRecDepth 100000 in
theorem spec_l1All.calls (k:Nat) (A0:Option Addr) (c0:Nat) (l0:List Int) (a1:Int) (a2:Int) (r:Bool) (w:World) (hr0:Kd.C (Kd.int .i64) w A0 l0.length l0) (hc0:l0.length ≤ c0) (h:spec_l1All.f k l0 a1 a2 = some r) :
  Calls Try.prog 85 #[.slice A0 l0.length c0,.int .i64 a1,.int .i64 a2] w fun e w'=>e = .returned (.bool r) ∧ Drawn0 w w':=by
 have HR0:=Aside0.mk hr0
 have HC0:=Aside0.mk hc0
 clear hr0 hc0
 have H:(spec_l1All.l0 k a1 a2 l0 (l0.length:Int) 0) = some r:=h
 clear h
 have H':=Aside0.mk H
 clear H
 go_enter Try.func85,Try.ntmps85
 go_wp2
 go_loopg [11] k (fun kq v11 w'=>∃ (x11_1:Int),v11 = .int .i64 x11_1 ∧ Aside0 (spec_l1All.l0 kq a1 a2 l0 (l0.length:Int) x11_1 = some r) ∧ Aside0 (kq ≤ k) ∧ Drawn0 w w')
 case atStart=>exact ⟨(0),Ye,H',⟨Nat.le_refl _⟩,Yk⟩
 case round =>
  clear H'
  try clear p2
  obtain ⟨x11_1,rfl,HA,HK1,⟨m1,rfl⟩⟩:=hrel
  cases gk with
  | zero=>exact absurd HA.out (by simp [spec_l1All.l0])
  | succ k1 =>
   have H:=HA.out
   clear HA
   simp only [spec_l1All.l0] at H
   by_cases c4:x11_1 < (l0.length:Int)
   ·rw [if_pos c4] at H
    have c4b0:=decide_eq_true c4
    clear c4
    by_cases c5:0 ≤ x11_1
    ·rw [if_pos c5] at H
     have c5b0:=decide_eq_true c5
     clear c5
     by_cases c6:x11_1 < (l0.length:Int)
     ·rw [if_pos c6] at H
      have c6b0:=decide_eq_true c6
      clear c6
      replace H:=Option.bind_eq_some_iff.mp H
      obtain ⟨t348,A70,H⟩:=H
      replace H:(if t348 = true then (spec_l1All.l0 k1 a1 a2 l0 (l0.length:Int) (wrap64 (x11_1 + 1))) else (some false)) = some r:=H
      have A7:=Aside0.mk A70
      clear A70
      by_cases c8:t348 = true
      ·subst c8
       have H1:(spec_l1All.l0 k1 a1 a2 l0 (l0.length:Int) (wrap64 (x11_1 + 1))) = some r:=by rw [if_pos rfl] at H;exact H
       clear H
       have H:=H1
       clear H1
       have H':=Aside0.mk H
       clear H
       have p347:0 ≤ (x11_1:Int):=oD
       have q347:x11_1 < (l0.length:Int):=oD
       obtain ⟨ad347,e347,hx347_0⟩:=Kd.at_int HR0.out x11_1 p347 q347
       cases e347
       replace p347:=eq_true p347
       replace q347:=eq_true q347
       go_wp2_with (first|((with_reducible refine gate_callee (f:=83) rfl ?_);refine goesL_ (some 18) rfl rfl Try.func83 (by kernel_rfl) rfl #[.int .i64 (rd l0 x11_1),.int .i64 a1,.int .i64 a2] rfl Ya ?_;(with_reducible refine (spec_l1In.calls (rd l0 x11_1) a1 a2 true _ A7.out).mono ?_);rintro e w' ⟨rfl,⟨nd,rfl⟩⟩;refine ⟨_,rfl,?_⟩))
       go_roundg k1
       case measure=>have:=HK1.out;omega
       case rel=>exact ⟨(wrap64 (x11_1 + 1)),Ye,H',⟨Ze⟩,Yk⟩
      ·replace c8:=Bool.eq_false_iff.mpr c8
       subst c8
       have H1:(some false) = some r:=by rw [if_neg (show ¬ (false = true) by decide)] at H;exact H
       clear H
       have H:=H1
       clear H1
       obtain rfl:=Option.some.inj H
       have p347:0 ≤ (x11_1:Int):=oD
       have q347:x11_1 < (l0.length:Int):=oD
       obtain ⟨ad347,e347,hx347_0⟩:=Kd.at_int HR0.out x11_1 p347 q347
       cases e347
       replace p347:=eq_true p347
       replace q347:=eq_true q347
       go_wp2_with (first|((with_reducible refine gate_callee (f:=83) rfl ?_);refine goesL_ (some 18) rfl rfl Try.func83 (by kernel_rfl) rfl #[.int .i64 (rd l0 x11_1),.int .i64 a1,.int .i64 a2] rfl Ya ?_;(with_reducible refine (spec_l1In.calls (rd l0 x11_1) a1 a2 false _ A7.out).mono ?_);rintro e w' ⟨rfl,⟨nd,rfl⟩⟩;refine ⟨_,rfl,?_⟩))
       go_ret
       exact ⟨Ye,Yk⟩
     ·rw [if_neg c6] at H
      exact absurd H (by simp)
    ·rw [if_neg c5] at H
     exact absurd H (by simp)
   ·rw [if_neg c4] at H
    have c4b0:decide (x11_1 < (l0.length:Int)) = false:=decide_eq_false c4
    clear c4
    obtain rfl:=Option.some.inj H
    go_wp2
    go_ret
    exact ⟨Ye,Yk⟩

/-! ### spec_GoodSign: function 56 -/
def spec_GoodSign.f (k:Nat) (l0_0:List Int):Option (Bool):=(spec_l1In.f (l0_0.length:Int) 1 10).bind fun t350=>(if t350 = true then ((spec_l1All.f k l0_0 0 3).bind fun t351=>(if t351 = true then (if 0 < (l0_0.length:Int) then (some ((rd l0_0 0) == 0)) else (none)) else (some false))) else (some false))
theorem spec_GoodSign.mono:∀ a0 k,LeO (spec_GoodSign.f k a0) (spec_GoodSign.f (k + 1) a0):=by
 intro a0 k
 unfold spec_GoodSign.f
 have m0:=@spec_l1All.mono
 exact mO
set_option maxHeartbeats 8000000 in
set_option maxRecDepth 100000 in
theorem spec_GoodSign.calls (k:Nat) (A0_0:Option Addr) (c0_0:Nat) (l0_0:List Int) (r:Bool) (w:World) (hr0_0:Kd.C (Kd.int .i64) w A0_0 l0_0.length l0_0) (hc0_0:l0_0.length ≤ c0_0) (h:spec_GoodSign.f k l0_0 = some r) :
  Calls Try.prog 56 #[.agg #[.slice A0_0 l0_0.length c0_0]] w fun e w'=>e = .returned (.bool r) ∧ Below w.heap.size w w':=by
 have hu26:=Try.underlying26
 have HR0_0:=Aside0.mk hr0_0
 have HC0_0:=Aside0.mk hc0_0
 clear hr0_0 hc0_0
 have HB:=Aside0.mk (Below.refl w.heap.size w)
 have H:((spec_l1In.f (l0_0.length:Int) 1 10).bind fun t350=>(if t350 = true then ((spec_l1All.f k l0_0 0 3).bind fun t351=>(if t351 = true then (if 0 < (l0_0.length:Int) then (some ((rd l0_0 0) == 0)) else (none)) else (some false))) else (some false))) = some r:=h
 clear h
 replace H:=Option.bind_eq_some_iff.mp H
 obtain ⟨t350,A20,H⟩:=H
 replace H:(if t350 = true then ((spec_l1All.f k l0_0 0 3).bind fun t351=>(if t351 = true then (if 0 < (l0_0.length:Int) then (some ((rd l0_0 0) == 0)) else (none)) else (some false))) else (some false)) = some r:=H
 have A2:=Aside0.mk A20
 clear A20
 by_cases c3:t350 = true
 ·subst c3
  have H1:((spec_l1All.f k l0_0 0 3).bind fun t351=>(if t351 = true then (if 0 < (l0_0.length:Int) then (some ((rd l0_0 0) == 0)) else (none)) else (some false))) = some r:=by rw [if_pos rfl] at H;exact H
  clear H
  have H:=H1
  clear H1
  replace H:=Option.bind_eq_some_iff.mp H
  obtain ⟨t351,A40,H⟩:=H
  replace H:(if t351 = true then (if 0 < (l0_0.length:Int) then (some ((rd l0_0 0) == 0)) else (none)) else (some false)) = some r:=H
  have A4:=Aside0.mk A40
  clear A40
  by_cases c5:t351 = true
  ·subst c5
   have H1:(if 0 < (l0_0.length:Int) then (some ((rd l0_0 0) == 0)) else (none)) = some r:=by rw [if_pos rfl] at H;exact H
   clear H
   have H:=H1
   clear H1
   by_cases c6:0 < (l0_0.length:Int)
   ·rw [if_pos c6] at H
    have c6b0:=decide_eq_true c6
    have c6b1:decide (0 < l0_0.length) = true:=decide_eq_true (by omega)
    clear c6
    obtain rfl:=Option.some.inj H
    go_enter Try.func56,Try.ntmps56
    go_wp2_with (first|((with_reducible refine gate_dst (N:=1) rfl ?_);refine box_event ?hg (N:=1) ?hd (cs:=#[.slice A0_0 l0_0.length c0_0]) (t:=26) ?hr ?_;(case hd=>rfl);(case hg=>rfl);(case hr=>exact Yd);intro gb349 hg w7 hbox hb;have BK349:=Aside0.mk (hbox);have GW349:=Aside0.mk ((hZ:w.heap.size ≤ gb349));have GE349:=Aside0.mk ((hZ:w.heap.size ≤ gb349));replace HB:=Aside0.mk (below_step bH hb);clear hb hbox hg;have hcz8_0:w7.cell? ⟨gb349,0,none⟩ = some (.slice A0_0 l0_0.length c0_0):=(blk_cell BK349.out 0).trans rfl;have hfz8_0:=blk_frozen BK349.out 0)|((with_reducible refine gate_callee (f:=83) rfl ?_);refine goesL_ (some 6) rfl rfl Try.func83 (by kernel_rfl) rfl #[.int .i64 (l0_0.length:Int),.int .i64 1,.int .i64 10] rfl Ya ?_;(with_reducible refine (spec_l1In.calls (l0_0.length:Int) 1 10 true _ A2.out).mono ?_);rintro e w' ⟨rfl,⟨nd,rfl⟩⟩;refine ⟨_,rfl,?_⟩)|(go_at_call 85;(with_reducible refine (spec_l1All.calls k _ _ l0_0 0 3 true _ ?side1 ?side2 A4.out).mono ?_);(case side1=>repeat (first|exact (Kd.C_below HR0_0.out bH)|(with_reducible refine Kd.C_alloc ?_ _)|(with_reducible refine Kd.C_drewN ?_ _)|(with_reducible refine Kd.C_drew ?_)));(case side2=>exact Yu);rintro e w' ⟨rfl,⟨nd,rfl⟩⟩;have p352:0 ≤ (0:Int):=(by omega);have q352:0 < (l0_0.length:Int):=oD;obtain ⟨ad352,e352,hx352_0⟩:=Kd.at_int HR0_0.out 0 p352 q352;cases e352;have qi352:(0 < l0_0.length) = True:=eq_true (by omega);(try rw [show ((0:Int)).toNat = 0 from rfl] at hx352_0);(try rw [Addr.add_zero'] at hx352_0);replace hx352_0:=(HB.out.cell (World.block_lt_of_cell? w _ hx352_0)).trans hx352_0;replace p352:=eq_true p352;replace q352:=eq_true q352))
    go_ret
    exact ⟨Yb,bH⟩
   ·rw [if_neg c6] at H
    exact absurd H (by simp)
  ·replace c5:=Bool.eq_false_iff.mpr c5
   subst c5
   have H1:(some false) = some r:=by rw [if_neg (show ¬ (false = true) by decide)] at H;exact H
   clear H
   have H:=H1
   clear H1
   obtain rfl:=Option.some.inj H
   go_enter Try.func56,Try.ntmps56
   go_wp2_with (first|((with_reducible refine gate_dst (N:=1) rfl ?_);refine box_event ?hg (N:=1) ?hd (cs:=#[.slice A0_0 l0_0.length c0_0]) (t:=26) ?hr ?_;(case hd=>rfl);(case hg=>rfl);(case hr=>exact Yd);intro gb349 hg w9 hbox hb;have BK349:=Aside0.mk (hbox);have GW349:=Aside0.mk ((hZ:w.heap.size ≤ gb349));have GE349:=Aside0.mk ((hZ:w.heap.size ≤ gb349));replace HB:=Aside0.mk (below_step bH hb);clear hb hbox hg;have hcz10_0:w9.cell? ⟨gb349,0,none⟩ = some (.slice A0_0 l0_0.length c0_0):=(blk_cell BK349.out 0).trans rfl;have hfz10_0:=blk_frozen BK349.out 0)|((with_reducible refine gate_callee (f:=83) rfl ?_);refine goesL_ (some 6) rfl rfl Try.func83 (by kernel_rfl) rfl #[.int .i64 (l0_0.length:Int),.int .i64 1,.int .i64 10] rfl Ya ?_;(with_reducible refine (spec_l1In.calls (l0_0.length:Int) 1 10 true _ A2.out).mono ?_);rintro e w' ⟨rfl,⟨nd,rfl⟩⟩;refine ⟨_,rfl,?_⟩)|(go_at_call 85;(with_reducible refine (spec_l1All.calls k _ _ l0_0 0 3 false _ ?side1 ?side2 A4.out).mono ?_);(case side1=>repeat (first|exact (Kd.C_below HR0_0.out bH)|(with_reducible refine Kd.C_alloc ?_ _)|(with_reducible refine Kd.C_drewN ?_ _)|(with_reducible refine Kd.C_drew ?_)));(case side2=>exact Yu);rintro e w' ⟨rfl,⟨nd,rfl⟩⟩))
   go_ret
   exact ⟨Yb,bH⟩
 ·replace c3:=Bool.eq_false_iff.mpr c3
  subst c3
  have H1:(some false) = some r:=by rw [if_neg (show ¬ (false = true) by decide)] at H;exact H
  clear H
  have H:=H1
  clear H1
  obtain rfl:=Option.some.inj H
  go_enter Try.func56,Try.ntmps56
  go_wp2_with (first|((with_reducible refine gate_dst (N:=1) rfl ?_);refine box_event ?hg (N:=1) ?hd (cs:=#[.slice A0_0 l0_0.length c0_0]) (t:=26) ?hr ?_;(case hd=>rfl);(case hg=>rfl);(case hr=>exact Yd);intro gb349 hg w11 hbox hb;have BK349:=Aside0.mk (hbox);have GW349:=Aside0.mk ((hZ:w.heap.size ≤ gb349));have GE349:=Aside0.mk ((hZ:w.heap.size ≤ gb349));replace HB:=Aside0.mk (below_step bH hb);clear hb hbox hg;have hcz12_0:w11.cell? ⟨gb349,0,none⟩ = some (.slice A0_0 l0_0.length c0_0):=(blk_cell BK349.out 0).trans rfl;have hfz12_0:=blk_frozen BK349.out 0)|((with_reducible refine gate_callee (f:=83) rfl ?_);refine goesL_ (some 6) rfl rfl Try.func83 (by kernel_rfl) rfl #[.int .i64 (l0_0.length:Int),.int .i64 1,.int .i64 10] rfl Ya ?_;(with_reducible refine (spec_l1In.calls (l0_0.length:Int) 1 10 false _ A2.out).mono ?_);rintro e w' ⟨rfl,⟨nd,rfl⟩⟩;refine ⟨_,rfl,?_⟩))
  go_ret
  exact ⟨Yb,bH⟩

end Go.Proofs.Ytmgkflkfoccgkaa.QFnPutFor
