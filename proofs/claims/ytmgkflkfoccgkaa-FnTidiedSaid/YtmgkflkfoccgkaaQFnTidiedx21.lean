-- Written by this session's own program (wip/x/xprint.py, over the kit's printer); Lean checks it.
import Derived.Test.YtmgkflkfoccgkaaQFnTidiedx0
import Derived.Test.YtmgkflkfoccgkaaQFnTidiedx11
import Derived.Test.YtmgkflkfoccgkaaQFnTidiedx20
namespace Go.Proofs.Ytmgkflkfoccgkaa.QFnTidied
open Go.RowKit Go.Proofs.YtmgkflkfoccgkaaW.PrintWords Go.Proofs.YtmgkflkfoccgkaaW.PrintLast Go.Proofs.YtmgkflkfoccgkaaW.PrintMore
attribute [local go_sem] max2_int min2_int max_two min_two max_three min_three max_four min_four   -- for this text's walks alone
set_option linter.unusedVariables false
set_option linter.unusedSimpArgs false

/-! ### spec_l4Vars: function 72 -/
mutual
def spec_l4Vars.l0:Nat → List Int → List (S83) → Int → Int → Option (List Int)
 | 0,_,_,_,_=>none
 | k + 1,x3,x8,x9,x10=>if x10 < x9 then (if 0 ≤ x10 then (if x10 < (x8.length:Int) then ((spec_l1Vars.f k ((rd_T83 x8 x10).f1)).bind fun t604=>((spec_l1Vars.f k ((rd_T83 x8 x10).f2)).bind fun t607=>(if t604.length + t607.length < 17592186044416 then ((some (t604 ++ t607:List Int)).bind fun y610=>(spec_l4Vars.l1 k x3 x8 x9 x10 y610 (y610.length:Int) 0)) else (none)))) else (none)) else (none)) else (some x3)
def spec_l4Vars.l1:Nat → List Int → List (S83) → Int → Int → List Int → Int → Int → Option (List Int)
 | 0,_,_,_,_,_,_,_=>none
 | k + 1,x3,x8,x9,x10,x20,x21,x22=>if x22 < x21 then (if 0 ≤ x22 then (if x22 < (x20.length:Int) then ((spec_l1Put.f k x3 (rd x20 x22)).bind fun t614=>(spec_l4Vars.l1 k t614 x8 x9 x10 x20 x21 (wrap64 (x22 + 1)))) else (none)) else (none)) else (spec_l4Vars.l0 k x3 x8 x9 (wrap64 (x10 + 1)))
end
def spec_l4Vars.f (k:Nat) (l0:List (S83)):Option (List Int):=spec_l4Vars.l0 k ([]:List Int) l0 (l0.length:Int) 0
theorem spec_l4Vars.mono_l:∀ k,(∀ y0 y1 y2 y3,LeO (spec_l4Vars.l0 k y0 y1 y2 y3) (spec_l4Vars.l0 (k + 1) y0 y1 y2 y3)) ∧ (∀ y0 y1 y2 y3 y4 y5 y6,LeO (spec_l4Vars.l1 k y0 y1 y2 y3 y4 y5 y6) (spec_l4Vars.l1 (k + 1) y0 y1 y2 y3 y4 y5 y6))
 | 0=>⟨fun _ _ _ _ r h=>by simp [spec_l4Vars.l0] at h,fun _ _ _ _ _ _ _ r h=>by simp [spec_l4Vars.l1] at h⟩
 | k + 1=>by
  obtain ⟨ih0,ih1⟩:=spec_l4Vars.mono_l k
  refine ⟨?_,?_⟩
  ·intro y0 y1 y2 y3
   unfold spec_l4Vars.l0
   have m0:=@spec_l1Put.mono
   have m1:=@spec_l1Vars.mono
   exact mO
  ·intro y0 y1 y2 y3 y4 y5 y6
   unfold spec_l4Vars.l1
   have m0:=@spec_l1Put.mono
   have m1:=@spec_l1Vars.mono
   exact mO
theorem spec_l4Vars.mono:∀ a0 k,LeO (spec_l4Vars.f k a0) (spec_l4Vars.f (k + 1) a0):=by
 intro a0 k
 obtain ⟨ih0,ih1⟩:=spec_l4Vars.mono_l k
 unfold spec_l4Vars.f
 have m0:=@spec_l1Put.mono
 have m1:=@spec_l1Vars.mono
 exact mO
def spec_l4Vars.T5:Bool × List (List Nat × List Nat):=(true,[([],[]),([0],[0]),([1],[1]),([],[]),([3],[3]),([4,2],[4]),([2,5,5],[2,5]),([6],[6]),([],[])])
def spec_l4Vars.B5:List Nat:=[0,1,3,0,8,31,63,127,0]
theorem spec_l4Vars.tab5:rtab .any (opsOf Try.f72 5) = spec_l4Vars.T5:=by kernel_rfl
theorem spec_l4Vars.bits5:waitsOk spec_l4Vars.T5.2 spec_l4Vars.B5 = true:=by kernel_rfl
set_option maxHeartbeats 8000000 in
set_option maxRecDepth 100000 in
theorem spec_l4Vars.calls (k:Nat) (A0:Option Addr) (c0:Nat) (l0:List (S83)) (r:List Int) (w:World) (hr0:Kd.C k83 w A0 l0.length l0) (hc0:l0.length ≤ c0) (h:spec_l4Vars.f k l0 = some r) :
  Calls Try.prog 72 #[.slice A0 l0.length c0] w fun e w'=>∃ v0_:Value,e = .returned (v0_) ∧ Kd.R (Kd.int .i64) 3 w' w.heap.size (fun _=>True) v0_ r ∧ Below w.heap.size w w':=by
 have hu83:=Try.underlying83
 have HR0:=Aside0.mk hr0
 have HC0:=Aside0.mk hc0
 clear hr0 hc0
 have HB:=Aside0.mk (Below.refl w.heap.size w)
 have H:(spec_l4Vars.l0 k ([]:List Int) l0 (l0.length:Int) 0) = some r:=h
 clear h
 have H':=Aside0.mk H
 clear H
 go_enter Try.func72,Try.ntmps72
 go_wp2
 go_loopg [3,10] k (fun kq v3 v10 w'=>∃ (x3_1:List Int) (x10_1:Int),v10 = .int .i64 x10_1 ∧ Aside0 (spec_l4Vars.l0 kq x3_1 l0 (l0.length:Int) x10_1 = some r) ∧ Aside0 (kq ≤ k) ∧ Aside0 (Kd.R (Kd.int .i64) 3 w' w.heap.size (fun _=>True) v3 x3_1) ∧ Aside0 (Below w.heap.size w w'))
 case atStart=>exact ⟨(([]:List Int)),(0),Yd,H',⟨Nat.le_refl _⟩,⟨Yi⟩,⟨bH⟩⟩
 case round =>
  clear H'
  obtain ⟨x3_1,x10_1,rfl,HA,HK1,HO_3,HB⟩:=hrel
  cases gk with
  | zero=>exact absurd HA.out (by simp [spec_l4Vars.l0])
  | succ k1 =>
   have H:=HA.out
   clear HA
   simp only [spec_l4Vars.l0] at H
   by_cases c2:x10_1 < (l0.length:Int)
   ·rw [if_pos c2] at H
    have c2b0:=decide_eq_true c2
    clear c2
    replace H:=gI H;obtain ⟨c3b0,H⟩:=H
    replace H:=gI H;obtain ⟨c4b0,H⟩:=H
    replace H:=bI H;obtain ⟨t604,A5,H⟩:=H
    replace H:=bI H;obtain ⟨t607,A6,H⟩:=H
    replace H:=gK H;obtain ⟨LMc7,H⟩:=H
    obtain ⟨y610,hy610⟩:∃ y_:List Int,y_ = (t604 ++ t607):=⟨_,rfl⟩
    replace H:(spec_l4Vars.l1 k1 x3_1 l0 (l0.length:Int) x10_1 y610 (y610.length:Int) 0) = some r:=by first|(rw [hy610];with_reducible exact H)|(have H2_:=(Option.bind_some _ _).symm.trans H;rw [hy610];with_reducible exact H2_)|(have H2_:=(Option.bind_some _ _).symm.trans H;with_reducible exact H2_)|with_reducible exact H|(rw [hy610];exact H)|exact H
    have Ny610:=Aside0.mk hy610
    clear hy610
    have H':=Aside0.mk H
    clear H
    have p602:0 ≤ (x10_1:Int):=oD
    have q602:x10_1 < (l0.length:Int):=oD
    obtain ⟨ad602,A602_1,c602_1,A602_2,c602_2,e602,hx602_0,hx602_1,hx602_2,hl602_1,hi602_1,hl602_2,hi602_2⟩:=at_T83 HR0.out x10_1 p602 q602
    cases e602
    replace hx602_0:=(HB.out.cell (World.block_lt_of_cell? w _ hx602_0)).trans hx602_0
    replace hx602_1:=(HB.out.cell (World.block_lt_of_cell? w _ hx602_1)).trans hx602_1
    replace hx602_2:=(HB.out.cell (World.block_lt_of_cell? w _ hx602_2)).trans hx602_2
    have HR602_1:=Aside0.mk hi602_1
    have HC602_1:=Aside0.mk hl602_1
    clear hi602_1 hl602_1
    have HR602_2:=Aside0.mk hi602_2
    have HC602_2:=Aside0.mk hl602_2
    clear hi602_2 hl602_2
    replace p602:=eq_true p602
    replace q602:=eq_true q602
    try go_wp2_with (first|(refine xB 5 #[.bool false,.slice none 0 0,.slice none 0 0] 83 ?_;intro gb603 hg w8 hbox hb;replace HO_3:=rB HO_3 hb;have BK603:=Aside0.mk (hbox);have GW603:=gZ w gb603;have GE603:=GW603;replace HB:=bS hb;clear hb hbox hg;have hcz9_0:=qc3_0 BK603;have hcz9_1:=qc3_1 BK603;have hcz9_2:=qc3_2 BK603;have hfz9_0:=fz BK603 0;have hfz9_1:=fz BK603 1;have hfz9_2:=fz BK603 2))
    have n0_:Aside0 (Kd.R (Kd.int .i64) 3 (((w8.setCell ⟨gb603,0,none⟩ (.bool ((rd_T83 l0 x10_1).f0))).setCell ⟨gb603,1,none⟩ (.slice A602_1 ((rd_T83 l0 x10_1).f1).length c602_1)).setCell ⟨gb603,2,none⟩ (.slice A602_2 ((rd_T83 l0 x10_1).f2).length c602_2)) w.heap.size (fun _=>True) u3 x3_1):=⟨by (with_reducible repeat (first|apply Kd.R_alloc|apply Kd.R_drewN|apply Kd.R_drew));exact Kd.R_mono (Kd.R_far (p:=⟨gb603,2,none⟩) (Kd.R_far (p:=⟨gb603,1,none⟩) (Kd.R_far (p:=⟨gb603,0,none⟩) (Kd.R_types HO_3.out BK603.out (by decide)) (fun _ hk=>hk.2) (.bool ((rd_T83 l0 x10_1).f0))) (fun _ hk=>hk.2) (.slice A602_1 ((rd_T83 l0 x10_1).f1).length c602_1)) (fun _ hk=>hk.2) (.slice A602_2 ((rd_T83 l0 x10_1).f2).length c602_2)) (fun _ hk=>trivial)⟩
    have n1_:Aside0 ((((w8.setCell ⟨gb603,0,none⟩ (.bool ((rd_T83 l0 x10_1).f0))).setCell ⟨gb603,1,none⟩ (.slice A602_1 ((rd_T83 l0 x10_1).f1).length c602_1)).setCell ⟨gb603,2,none⟩ (.slice A602_2 ((rd_T83 l0 x10_1).f2).length c602_2)).heap[gb603]? = some (.cells #[.bool ((rd_T83 l0 x10_1).f0),.slice A602_1 ((rd_T83 l0 x10_1).f1).length c602_1,.slice A602_2 ((rd_T83 l0 x10_1).f2).length c602_2] 83 (0,0))):=⟨by (with_reducible repeat (first|refine blk_drewN ?_ _|refine blk_drew ?_|refine blk_alloc ?_ _));refine blk_put (cs:=#[.bool ((rd_T83 l0 x10_1).f0),.slice A602_1 ((rd_T83 l0 x10_1).f1).length c602_1,.slice none 0 0]) ?_ 2 _ rfl;(with_reducible repeat (first|refine blk_drewN ?_ _|refine blk_drew ?_|refine blk_alloc ?_ _));refine blk_put (cs:=#[.bool ((rd_T83 l0 x10_1).f0),.slice none 0 0,.slice none 0 0]) ?_ 1 _ rfl;(with_reducible repeat (first|refine blk_drewN ?_ _|refine blk_drew ?_|refine blk_alloc ?_ _));refine blk_put (cs:=#[.bool false,.slice none 0 0,.slice none 0 0]) ?_ 0 _ rfl;(with_reducible repeat (first|refine blk_drewN ?_ _|refine blk_drew ?_|refine blk_alloc ?_ _));exact BK603.out⟩
    have n2_:Aside0 (Below w.heap.size w (((w8.setCell ⟨gb603,0,none⟩ (.bool ((rd_T83 l0 x10_1).f0))).setCell ⟨gb603,1,none⟩ (.slice A602_1 ((rd_T83 l0 x10_1).f1).length c602_1)).setCell ⟨gb603,2,none⟩ (.slice A602_2 ((rd_T83 l0 x10_1).f2).length c602_2))):=⟨bH⟩
    (try clear HO_3);(try clear BK603);(try clear HB)
    generalize (((w8.setCell ⟨gb603,0,none⟩ (.bool ((rd_T83 l0 x10_1).f0))).setCell ⟨gb603,1,none⟩ (.slice A602_1 ((rd_T83 l0 x10_1).f1).length c602_1)).setCell ⟨gb603,2,none⟩ (.slice A602_2 ((rd_T83 l0 x10_1).f2).length c602_2)) = w10 at n0_ n1_ n2_ ⊢
    have HO_3:=n0_
    have BK603:=n1_
    have HB:=n2_
    clear n0_ n1_ n2_
    replace HO_3:=Aside0.mk (Kd.R_drew HO_3.out);replace BK603:=Aside0.mk (blk_drew BK603.out);replace HB:=Aside0.mk (below_drew1 HB.out)
    refine start_ (n:=9) (S:=fun w'=>w'.cell? ⟨gb603,0,none⟩ = some (.bool ((rd_T83 l0 x10_1).f0)) ∧ w'.cell? ⟨gb603,1,none⟩ = some (.slice A602_1 ((rd_T83 l0 x10_1).f1).length c602_1) ∧ w'.cell? ⟨gb603,2,none⟩ = some (.slice A602_2 ((rd_T83 l0 x10_1).f2).length c602_2)) (ds:=[]) #[false,false,false,false,false,false,false,false,false] (by kernel_rfl) rfl rfl (qA3 BK603) (fun hHeld=>?_);refine with_tabW spec_l4Vars.tab5 spec_l4Vars.bits5 (fun HT_ HW_=>?_)
    generalize w10.drew = w11 at HO_3 BK603 HB hHeld ⊢
    refine pV 0 (some 14) (bs 9 1) HT_ ?_
    refine pV 3 (some 17) (bs 9 9) HT_ ?_
    refine pV 8 (some 22) (bs 9 265) HT_ ?_
    refine tV3 1 (some 15) (bs 9 267) HT_ HW_ hHeld ?_
    refine tV3 4 (some 18) (bs 9 283) HT_ HW_ hHeld ?_
    refine oN 2 (some 16) (bs 9 287) HT_ fun K hK=>?_
    refine goes_ Try.func112 (by kernel_rfl) rfl #[.slice A602_1 ((rd_T83 l0 x10_1).f1).length c602_1] (by rfl) rfl rfl Ya ?_
    with_reducible refine (spec_l1Vars.calls k1 _ _ ((rd_T83 l0 x10_1).f1) t604 _ ?side1 ?side2 A5.out).mono ?_
    (case side1=>exact sC HR602_1)
    (case side2=>exact HC602_1.out)
    rintro e w12 ⟨v605,rfl,ho0,hb⟩
    refine ⟨_,rfl,?_⟩
    have HO606:=Aside0.mk (Kd.R_lower (Kd.R_new' ho0 (Kd.R_lt (rR HO_3))) (below_size bH));replace HO_3:=Aside0.mk (Kd.R_elder' (rR HO_3) (Kd.R_base ho0) hb);replace BK603:=bb BK603 hb;replace HB:=bS hb
    (try clear hb);(try clear hk);(try clear ho0)
    refine hK.out _ _ (qA3 BK603) (fun hHeld=>?_)
    clear hK K
    refine nM (N:=some 16) ?_
    refine oN 5 (some 19) (bs 9 319) HT_ fun K hK=>?_
    refine goes_ Try.func112 (by kernel_rfl) rfl #[.slice A602_2 ((rd_T83 l0 x10_1).f2).length c602_2] (by rfl) rfl rfl Ya ?_
    with_reducible refine (spec_l1Vars.calls k1 _ _ ((rd_T83 l0 x10_1).f2) t607 _ ?side1 ?side2 A6.out).mono ?_
    (case side1=>exact sC HR602_2)
    (case side2=>exact HC602_2.out)
    rintro e w13 ⟨v608,rfl,ho0,hb⟩
    refine ⟨_,rfl,?_⟩
    have HO609:=Aside0.mk (Kd.R_lower (Kd.R_new' (Kd.R_new' ho0 (Kd.R_lt (rR HO_3))) (Kd.R_lt (rR HO606))) (below_size bH));replace HO_3:=Aside0.mk (Kd.R_elder' (rR HO_3) (Kd.R_base ho0) hb);replace HO606:=Aside0.mk (Kd.R_elder' (rR HO606) (Kd.R_base ho0) hb);replace BK603:=bb BK603 hb;replace HB:=bS hb
    (try clear hb);(try clear hk);(try clear ho0)
    obtain ⟨Ao15,co15,eo15⟩:=Kd.R_slice HO609.out
    (first|subst eo15|(injection eo15 with f1_ f2_ f3_;have f4_:=f1_.symm;have f5_:=f3_.symm;clear f1_ f2_ f3_;subst f4_;subst f5_))
    refine hK.out _ _ (qA3 BK603) (fun hHeld=>?_)
    clear hK K
    refine nM (N:=some 19) ?_
    refine oN 6 (some 20) (bs 9 383) HT_ fun K hK=>?_
    refine Kd.R_append_rows_step (Kd.int .i64) (w0:=w) w.heap.size (by rfl) (.tmp 16) (.tmp 19) 24 3 (.int .i64 0) 8 rfl Try.underlying24 info3 rfl (by decide) YP v605 t604 t607 _ _ _ (fun k_=>some k_ ≠ (u3:Value).ownBlock ∧ some k_ ≠ (.slice Ao15 t607.length co15:Value).ownBlock) (fun _=>False) rfl rfl ?aO ?aR (fun _ _ h=>h) (fun _ h=>h.elim) ?aF ?aB ?aS ?aL ?_
    (case aR=>repeat (first|exact (Kd.R_reads' HO609.out).2.2|(with_reducible refine Kd.C_alloc ?_ _)|(with_reducible refine Kd.C_drewN ?_ _)|(with_reducible refine Kd.C_drew ?_)))
    (case aB=>exact bH)
    (case aF=>exact (fun k_ hk=>⟨Kd.fresh' (Kd.R_lt (rR HO_3)) k_ hk,Kd.fresh' (Kd.R_lt (rR HO609)) k_ hk⟩))
    (case aO=>exact (by (with_reducible repeat (first|apply Kd.R_alloc|apply Kd.R_drewN|apply Kd.R_drew));exact Kd.R_mono HO606.out (fun _ hk=>⟨hk.1.2,hk.2⟩)))
    (case aS=>exact YR)
    (case aL=>have:=LMc7.out;omega)
    intro v611 w14 ho hb hg hat
    rw [← Ny610.out] at ho
    have n0_:=Aside0.mk (Kd.R_after (ok:=(fun k_=>some k_ ≠ (.slice Ao15 t607.length co15:Value).ownBlock)) (by (with_reducible repeat (first|apply Kd.R_alloc|apply Kd.R_drewN|apply Kd.R_drew));exact Kd.R_mono HO_3.out (fun _ hk=>⟨hk.2,hk.1.2⟩)) hg hat);have n1_:=Aside0.mk (blk_grown (bB BK603) hg (Kd.R_ne HO606.out BK603.out (by decide)));have n2_:=Aside0.mk (Kd.R_after (ok:=(fun k_=>some k_ ≠ (u3:Value).ownBlock)) (by (with_reducible repeat (first|apply Kd.R_alloc|apply Kd.R_drewN|apply Kd.R_drew));exact Kd.R_mono HO609.out (fun _ hk=>⟨hk.1.2,hk.2⟩)) hg hat);have n3_:=Aside0.mk (hb);have n4_:=Aside0.mk (ho);clear HO_3;clear BK603;clear HO609;clear HB;clear HO606;have HO_3:=n0_;have BK603:=n1_;have HO609:=n2_;have HB:=n3_;have HO612:=n4_;clear n0_ n1_ n2_ n3_ n4_
    clear ho hb hg hat
    obtain ⟨Ao16,co16,eo16⟩:=Kd.R_slice HO612.out
    (first|subst eo16|(injection eo16 with f1_ f2_ f3_;have f4_:=f1_.symm;have f5_:=f3_.symm;clear f1_ f2_ f3_;subst f4_;subst f5_))
    refine hK.out _ _ (qA3 BK603) (fun hHeld=>?_)
    clear hK K
    refine nM (N:=some 20) ?_
    refine pV 7 (some 21) (bs 9 511) HT_ ?_
    refine done_ (done_of HT_.out (by kernel_rfl)) ?_
    try go_wp2
    go_loopg [3,22] k1 (fun kq v3 v22 w'=>∃ (x3_2:List Int) (x22_2:Int),v22 = .int .i64 x22_2 ∧ Aside0 (spec_l4Vars.l1 kq x3_2 l0 (l0.length:Int) x10_1 y610 (y610.length:Int) x22_2 = some r) ∧ Aside0 (kq ≤ k1) ∧ Aside0 (Kd.R (Kd.int .i64) 3 w' w.heap.size (fun k_=>some k_ ≠ ((.slice Ao16 y610.length co16):Value).ownBlock) v3 x3_2) ∧ Aside0 (Kd.R (Kd.int .i64) 3 w' w.heap.size (fun k_=>some k_ ≠ (v3:Value).ownBlock) (.slice Ao16 y610.length co16) y610) ∧ Aside0 (w'.heap[gb603]? = some (.cells #[.bool ((rd_T83 l0 x10_1).f0),(.slice A602_1 ((rd_T83 l0 x10_1).f1).length c602_1),(.slice A602_2 ((rd_T83 l0 x10_1).f2).length c602_2)] 83 (0,0))) ∧ Aside0 (Below w.heap.size w w'))
    case atStart=>exact ⟨(x3_1),(0),Yd,H',⟨Nat.le_refl _⟩,⟨YG⟩,⟨by (with_reducible repeat (first|apply Kd.R_alloc|apply Kd.R_drewN|apply Kd.R_drew));exact Kd.R_mono HO612.out (fun _ hk=>hk.1)⟩,⟨by (with_reducible repeat (first|refine blk_drewN ?_ _|refine blk_drew ?_|refine blk_alloc ?_ _));exact BK603.out⟩,⟨bH⟩⟩
    case round =>
     clear H'
     (try clear c2);(try clear c2b0);(try clear c3b0);(try clear c4b0);(try clear hcz9_0);(try clear hcz9_1);(try clear hcz9_2);(try clear hfz9_0);(try clear hfz9_1);(try clear hfz9_2);(try clear hx602_0);(try clear hx602_1);(try clear hx602_2);(try clear p602);(try clear q602)
     obtain ⟨x3_2,x22_2,rfl,HA,HK2,HO_3,HO_20,BK603,HB⟩:=hrel
     cases gk with
     | zero=>exact absurd HA.out (by simp [spec_l4Vars.l1])
     | succ k2 =>
      have H:=HA.out
      clear HA
      simp only [spec_l4Vars.l1] at H
      by_cases c17:x22_2 < (y610.length:Int)
      ·rw [if_pos c17] at H
       have c17b0:=decide_eq_true c17
       clear c17
       replace H:=gI H;obtain ⟨c18b0,H⟩:=H
       replace H:=gI H;obtain ⟨c19b0,H⟩:=H
       replace H:=bI H;obtain ⟨t614,A20,H⟩:=H
       have H':=Aside0.mk H
       clear H
       obtain ⟨p613,q613,ad613,e613,hx613_0⟩:=aI (Kd.R_reads' HO_20.out).2.2 x22_2;cases e613
       obtain ⟨Ao21,co21,eo21⟩:=Kd.R_slice HO_3.out
       subst eo21
       go_wp2_with (first|((with_reducible refine gate_callee (f:=113) rfl ?_);refine goesL_ (some 28) rfl rfl Try.func113 (by kernel_rfl) rfl #[.slice Ao21 x3_2.length co21,.int .i64 (rd y610 x22_2)] rfl Ya ?_;(with_reducible refine (spec_l1Put.calls k2 (fun k_=>some k_ = (.slice Ao21 x3_2.length co21:Value).ownBlock) (.slice Ao21 x3_2.length co21) x3_2 (rd y610 x22_2) t614 w _ ?side1 ?side2 A20.out).mono ?_);(case side1=>exact bH);(case side2=>exact Kd.R_tight rfl HO_3.out);rintro e w22 ⟨v615,rfl,ho0,hb,hkp⟩;refine ⟨_,rfl,?_⟩;have n0_:=Aside0.mk (Kd.R_mono (ok':=fun k_=>some k_ ≠ (v615:Value).ownBlock) (Kd.R_keptB (HO_20.out) hkp (fun k_ hk_ hs_=>(hk_) hs_)) (fun k_ hk_=>fun e_=>Or.elim (ho0.1 k_ e_.symm) (fun hs_=>hk_.2.1 hs_) (fun hn_=>Nat.not_le.2 hk_.2.2 hn_)));have n1_:=Aside0.mk (blk_kept (bB BK603) hkp (fun hs_=>(fun e_=>(Kd.R_ne HO_3.out BK603.out (by decide)) e_) hs_));have n2_:=Aside0.mk (Kd.R_mono (ok':=fun k_=>some k_ ≠ (.slice (some ad613) y610.length co16:Value).ownBlock) ho0 (fun k_ hk_=>Or.elim hk_ (fun hs_=>fun e_=>(((HO_20.out).1 k_ e_.symm)) hs_) (fun hn_=>(Kd.fresh' (Kd.R_lt (rR HO_20)) k_ hn_))));have n3_:=Aside0.mk (hb);clear HO_20;clear BK603;clear HB;clear HO_3;have HO_20:=n0_;have BK603:=n1_;have HO616:=n2_;have HB:=n3_;clear n0_ n1_ n2_ n3_;(try clear hb);(try clear hkp);clear ho0))
       go_roundg k2
       case measure=>have:=HK1.out;have:=HK2.out;omega
       case rel=>exact ⟨(t614),(wrap64 (x22_2 + 1)),Yd,H',⟨by have:=HK1.out;have:=HK2.out;omega⟩,⟨rR HO616⟩,⟨rR HO_20⟩,⟨by (with_reducible repeat (first|refine blk_drewN ?_ _|refine blk_drew ?_|refine blk_alloc ?_ _));exact BK603.out⟩,⟨bH⟩⟩
      ·rw [if_neg c17] at H
       have c17b0:decide (x22_2 < (y610.length:Int)) = false:=decide_eq_false c17
       clear c17
       have H':=Aside0.mk H
       clear H
       go_wp2
       go_roundg k2
       case measure=>have:=HK1.out;have:=HK2.out;omega
       case rel=>exact ⟨(x3_2),(wrap64 (x10_1 + 1)),Yd,H',⟨by have:=HK1.out;have:=HK2.out;omega⟩,⟨YU⟩,⟨bH⟩⟩
   ·rw [if_neg c2] at H
    have c2b0:decide (x10_1 < (l0.length:Int)) = false:=decide_eq_false c2
    clear c2
    obtain rfl:=Option.some.inj H
    go_wp2
    go_ret
    exact ⟨_,Yb,rR HO_3,bH⟩

/-! ### spec_VarsIn: function 33 -/
def spec_VarsIn.f (k:Nat) (l0_0:List Int) (l1:List (S83)):Option (List Int × Bool):=(spec_GoodClause.f k l0_0 l1).bind fun t618=>(if t618 = true then ((spec_l4Vars.f k l1).bind fun t619=>(some (t619,true))) else (some (([]:List Int),false)))
theorem spec_VarsIn.mono:∀ a0 a1 k,LeO (spec_VarsIn.f k a0 a1) (spec_VarsIn.f (k + 1) a0 a1):=by
 intro a0 a1 k
 unfold spec_VarsIn.f
 have m0:=@spec_GoodClause.mono
 have m1:=@spec_l4Vars.mono
 exact mO
set_option maxHeartbeats 8000000 in
set_option maxRecDepth 100000 in
theorem spec_VarsIn.calls (k:Nat) (A0_0:Option Addr) (c0_0:Nat) (l0_0:List Int) (A1:Option Addr) (c1:Nat) (l1:List (S83)) (r1:List Int) (r2:Bool) (w:World) (hr0_0:Kd.C (Kd.int .i64) w A0_0 l0_0.length l0_0) (hc0_0:l0_0.length ≤ c0_0) (hr1:Kd.C k83 w A1 l1.length l1) (hc1:l1.length ≤ c1) (h:spec_VarsIn.f k l0_0 l1 = some (r1,r2)) :
  Calls Try.prog 33 #[.agg #[.slice A0_0 l0_0.length c0_0],.slice A1 l1.length c1] w fun e w'=>∃ v0_:Value,e = .returned (.tuple #[v0_,.bool r2]) ∧ Kd.R (Kd.int .i64) 3 w' w.heap.size (fun _=>True) v0_ r1 ∧ Below w.heap.size w w':=by
 have hu26:=Try.underlying26
 have HR0_0:=Aside0.mk hr0_0
 have HC0_0:=Aside0.mk hc0_0
 clear hr0_0 hc0_0
 have HR1:=Aside0.mk hr1
 have HC1:=Aside0.mk hc1
 clear hr1 hc1
 have HB:=Aside0.mk (Below.refl w.heap.size w)
 have H:((spec_GoodClause.f k l0_0 l1).bind fun t618=>(if t618 = true then ((spec_l4Vars.f k l1).bind fun t619=>(some (t619,true))) else (some (([]:List Int),false)))) = some (r1,r2):=h
 clear h
 replace H:=bI H;obtain ⟨t618,A3,H⟩:=H
 by_cases c4:t618 = true
 ·subst c4
  replace H:=pT H
  replace H:=bI H;obtain ⟨t619,A5,H⟩:=H
  simp only [Option.some.injEq,Prod.mk.injEq] at H
  obtain ⟨rfl,rfl⟩:=H
  go_enter Try.func33,Try.ntmps33
  go_wp2_with (first|(refine xB 2 #[.slice A0_0 l0_0.length c0_0] 26 ?_;intro gb617 hg w6 hbox hb;have BK617:=Aside0.mk (hbox);have GW617:=gZ w gb617;have GE617:=GW617;replace HB:=bS hb;clear hb hbox hg;have hcz7_0:=qc1_0 BK617;have hfz7_0:=fz BK617 0)|((with_reducible refine gate_callee (f:=27) rfl ?_);refine goesL_ (some 8) rfl rfl Try.func27 (by kernel_rfl) rfl #[.agg #[.slice A0_0 l0_0.length c0_0],.slice A1 l1.length c1] rfl Ya ?_;(with_reducible refine (spec_GoodClause.calls k _ _ l0_0 _ _ l1 true _ ?side1 ?side2 ?side3 ?side4 A3.out).mono ?_);(case side1=>exact Yx);(case side2=>exact Yw);(case side3=>exact sC HR1);(case side4=>exact HC1.out);rintro e w8 ⟨rfl,hb⟩;refine ⟨_,rfl,?_⟩;replace BK617:=bb BK617 hb;replace HB:=bS hb;clear hb)|((with_reducible refine gate_callee (f:=72) rfl ?_);refine goesL_ (some 11) rfl rfl Try.func72 (by kernel_rfl) rfl #[.slice A1 l1.length c1] rfl Ya ?_;(with_reducible refine (spec_l4Vars.calls k _ _ l1 t619 _ ?side1 ?side2 A5.out).mono ?_);(case side1=>exact sC HR1);(case side2=>exact HC1.out);rintro e w9 ⟨v620,rfl,ho0,hb⟩;refine ⟨_,rfl,?_⟩;have HO621:=Aside0.mk (Kd.R_lower ho0 (below_size bH));replace BK617:=bb BK617 hb;replace HB:=bS hb;clear hb ho0))
  go_ret2
  exact ⟨_,Yb,rR HO621,bH⟩
 ·replace c4:=Bool.eq_false_iff.mpr c4
  subst c4
  replace H:=pF H
  simp only [Option.some.injEq,Prod.mk.injEq] at H
  obtain ⟨rfl,rfl⟩:=H
  go_enter Try.func33,Try.ntmps33
  go_wp2_with (first|(refine xB 2 #[.slice A0_0 l0_0.length c0_0] 26 ?_;intro gb617 hg w10 hbox hb;have BK617:=Aside0.mk (hbox);have GW617:=gZ w gb617;have GE617:=GW617;replace HB:=bS hb;clear hb hbox hg;have hcz11_0:=qc1_0 BK617;have hfz11_0:=fz BK617 0)|((with_reducible refine gate_callee (f:=27) rfl ?_);refine goesL_ (some 8) rfl rfl Try.func27 (by kernel_rfl) rfl #[.agg #[.slice A0_0 l0_0.length c0_0],.slice A1 l1.length c1] rfl Ya ?_;(with_reducible refine (spec_GoodClause.calls k _ _ l0_0 _ _ l1 false _ ?side1 ?side2 ?side3 ?side4 A3.out).mono ?_);(case side1=>exact Yx);(case side2=>exact Yw);(case side3=>exact sC HR1);(case side4=>exact HC1.out);rintro e w12 ⟨rfl,hb⟩;refine ⟨_,rfl,?_⟩;replace BK617:=bb BK617 hb;replace HB:=bS hb;clear hb))
  go_ret2
  exact ⟨_,Yb,Yi,bH⟩

end Go.Proofs.Ytmgkflkfoccgkaa.QFnTidied
