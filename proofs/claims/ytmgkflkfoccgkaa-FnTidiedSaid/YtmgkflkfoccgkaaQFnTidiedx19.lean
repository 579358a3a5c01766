-- Written by this session's own program (wip/x/xprint.py, over the kit's printer); Lean checks it.
import Derived.Test.YtmgkflkfoccgkaaQFnTidiedx0
import Derived.Test.YtmgkflkfoccgkaaQFnTidiedx4
import Derived.Test.YtmgkflkfoccgkaaQFnTidiedx5
import Derived.Test.YtmgkflkfoccgkaaQFnTidiedx9
import Derived.Test.YtmgkflkfoccgkaaQFnTidiedx12
import Derived.Test.YtmgkflkfoccgkaaQFnTidiedx18
namespace Go.Proofs.Ytmgkflkfoccgkaa.QFnTidied
open Go.RowKit Go.Proofs.YtmgkflkfoccgkaaW.PrintWords Go.Proofs.YtmgkflkfoccgkaaW.PrintLast Go.Proofs.YtmgkflkfoccgkaaW.PrintMore
attribute [local go_sem] max2_int min2_int max_two min_two max_three min_three max_four min_four   -- for this text's walks alone
set_option linter.unusedVariables false
set_option linter.unusedSimpArgs false

/-! ### impl_Sign_falseAt: function 67 -/
mutual
def impl_Sign_falseAt.l0:Nat → List (S83) → List Int → List Int → List Int → Int → List (List Int) → Option (List Int × Bool)
 | 0,_,_,_,_,_,_=>none
 | k + 1,x2,x8,x9,x504000,x505000,x505001=>(impl_Sign_holdsAt.f k x504000 x505000 x505001 x2 x9).bind fun t514=>(if t514 = true then (impl_Sign_falseAt.l1 k x2 x8 x9 (wrap64 ((x8.length:Int) - 1)) x504000 x505000 x505001) else (some (x9,true)))
def impl_Sign_falseAt.l1:Nat → List (S83) → List Int → List Int → Int → List Int → Int → List (List Int) → Option (List Int × Bool)
 | 0,_,_,_,_,_,_,_=>none
 | k + 1,x2,x8,x9,x10,x504000,x505000,x505001=>if x10 ≥ 0 then (if 0 ≤ x10 then (if x10 < (x8.length:Int) then (if 0 ≤ (rd x8 x10) then (if (rd x8 x10) < (x9.length:Int) then (if (rd x9 (rd x8 x10)) = (wrap64 (x505000 - 1)) then (impl_Sign_falseAt.l1 k x2 x8 (x9.set ((rd x8 x10):Int).toNat 0) (wrap64 (x10 - 1)) x504000 x505000 x505001) else (if x10 < 0 then (some (([]:List Int),false)) else (impl_Sign_falseAt.l0 k x2 x8 (x9.set ((rd x8 x10):Int).toNat (wrap64 ((rd x9 (rd x8 x10)) + 1))) x504000 x505000 x505001))) else (none)) else (none)) else (none)) else (none)) else (if x10 < 0 then (some (([]:List Int),false)) else (if 0 ≤ x10 then (if x10 < (x8.length:Int) then (if 0 ≤ (rd x8 x10) then (if (rd x8 x10) < (x9.length:Int) then (impl_Sign_falseAt.l0 k x2 x8 (x9.set ((rd x8 x10):Int).toNat (wrap64 ((rd x9 (rd x8 x10)) + 1))) x504000 x505000 x505001) else (none)) else (none)) else (none)) else (none)))
end
def impl_Sign_falseAt.f (k:Nat) (l0_0:List Int) (a1_0:Int) (l1_1:List (List Int)) (l2:List (S83)):Option (List Int × Bool):=(impl_termsOf.f l2).bind fun t505=>((impl_varsIn.f k t505).bind fun t508=>(if 12 ≤ 35184372088832 then (impl_Sign_falseAt.l0 k l2 t508 (List.replicate 12 0) l0_0 a1_0 l1_1) else (none)))
theorem impl_Sign_falseAt.mono_l:∀ k,(∀ y0 y1 y2 y3 y4 y5,LeO (impl_Sign_falseAt.l0 k y0 y1 y2 y3 y4 y5) (impl_Sign_falseAt.l0 (k + 1) y0 y1 y2 y3 y4 y5)) ∧ (∀ y0 y1 y2 y3 y4 y5 y6,LeO (impl_Sign_falseAt.l1 k y0 y1 y2 y3 y4 y5 y6) (impl_Sign_falseAt.l1 (k + 1) y0 y1 y2 y3 y4 y5 y6))
 | 0=>⟨fun _ _ _ _ _ _ r h=>by simp [impl_Sign_falseAt.l0] at h,fun _ _ _ _ _ _ _ r h=>by simp [impl_Sign_falseAt.l1] at h⟩
 | k + 1=>by
  obtain ⟨ih0,ih1⟩:=impl_Sign_falseAt.mono_l k
  refine ⟨?_,?_⟩
  ·intro y0 y1 y2 y3 y4 y5
   unfold impl_Sign_falseAt.l0
   have m0:=@impl_Sign_holdsAt.mono
   have m1:=@impl_varsIn.mono
   exact mO
  ·intro y0 y1 y2 y3 y4 y5 y6
   unfold impl_Sign_falseAt.l1
   have m0:=@impl_Sign_holdsAt.mono
   have m1:=@impl_varsIn.mono
   exact mO
theorem impl_Sign_falseAt.mono:∀ a0 a1 a2 a3 k,LeO (impl_Sign_falseAt.f k a0 a1 a2 a3) (impl_Sign_falseAt.f (k + 1) a0 a1 a2 a3):=by
 intro a0 a1 a2 a3 k
 obtain ⟨ih0,ih1⟩:=impl_Sign_falseAt.mono_l k
 unfold impl_Sign_falseAt.f
 have m0:=@impl_Sign_holdsAt.mono
 have m1:=@impl_varsIn.mono
 exact mO
set_option maxHeartbeats 8000000 in
set_option maxRecDepth 100000 in
theorem impl_Sign_falseAt.calls (k:Nat) (A0_0:Option Addr) (c0_0:Nat) (l0_0:List Int) (a1_0:Int) (A1_1:Option Addr) (c1_1:Nat) (l1_1:List (List Int)) (A2:Option Addr) (c2:Nat) (l2:List (S83)) (r1:List Int) (r2:Bool) (w:World) (hr0_0:Kd.C (Kd.int .i64) w A0_0 l0_0.length l0_0) (hc0_0:l0_0.length ≤ c0_0) (hr1_1:Kd.C (Kd.slice 3 (Kd.int .i64)) w A1_1 l1_1.length l1_1) (hc1_1:l1_1.length ≤ c1_1) (hr2:Kd.C k83 w A2 l2.length l2) (hc2:l2.length ≤ c2) (h:impl_Sign_falseAt.f k l0_0 a1_0 l1_1 l2 = some (r1,r2)) :
  Calls Try.prog 67 #[.agg #[.slice A0_0 l0_0.length c0_0],.agg #[.int .i64 a1_0,.slice A1_1 l1_1.length c1_1],.slice A2 l2.length c2] w fun e w'=>∃ v0_:Value,e = .returned (.tuple #[v0_,.bool r2]) ∧ Kd.R (Kd.int .i64) 3 w' w.heap.size (fun _=>True) v0_ r1 ∧ Below w.heap.size w w':=by
 have hu26:=Try.underlying26
 have hu31:=Try.underlying31
 have HR0_0:=Aside0.mk hr0_0
 have HC0_0:=Aside0.mk hc0_0
 clear hr0_0 hc0_0
 have HR1_1:=Aside0.mk hr1_1
 have HC1_1:=Aside0.mk hc1_1
 clear hr1_1 hc1_1
 have HR2:=Aside0.mk hr2
 have HC2:=Aside0.mk hc2
 clear hr2 hc2
 have HB:=Aside0.mk (Below.refl w.heap.size w)
 have H:((impl_termsOf.f l2).bind fun t505=>((impl_varsIn.f k t505).bind fun t508=>(if 12 ≤ 35184372088832 then (impl_Sign_falseAt.l0 k l2 t508 (List.replicate 12 0) l0_0 a1_0 l1_1) else (none)))) = some (r1,r2):=h
 clear h
 replace H:=bI H;obtain ⟨t505,A4,H⟩:=H
 replace H:=bI H;obtain ⟨t508,A5,H⟩:=H
 replace H:=gJ H;obtain ⟨c6,H⟩:=H
 have c6b0:=eq_true c6
 have c6b1:=decide_eq_true c6
 clear c6
 obtain ⟨y511,hy511⟩:∃ y_:List Int,y_ = (List.replicate 12 0):=⟨_,rfl⟩
 replace H:(impl_Sign_falseAt.l0 k l2 t508 y511 l0_0 a1_0 l1_1) = some (r1,r2):=by first|(rw [hy511];with_reducible exact H)|(have H2_:=(Option.bind_some _ _).symm.trans H;rw [hy511];with_reducible exact H2_)|(have H2_:=(Option.bind_some _ _).symm.trans H;with_reducible exact H2_)|with_reducible exact H|(rw [hy511];exact H)|exact H
 have Ny511:=Aside0.mk hy511
 clear hy511
 have H':=Aside0.mk H
 clear H
 go_enter Try.func67,Try.ntmps67
 go_wp2_with (first|(refine xB 3 #[.slice A0_0 l0_0.length c0_0] 26 ?_;intro gb503 hg w7 hbox hb;have BK503:=Aside0.mk (hbox);have GW503:=gZ w gb503;have GE503:=GW503;replace HB:=bS hb;clear hb hbox hg)|(refine xB 4 #[.int .i64 a1_0,.slice A1_1 l1_1.length c1_1] 31 ?_;intro gb504 hg w8 hbox hb;have BK504:=Aside0.mk (hbox);have GW504:=gZ w gb504;have GE504:=GW504;replace HB:=bS hb;have NB503_504:=nl BK503 gb503 gb504;have NB504_503:=nr NB503_504;replace BK503:=bb BK503 hb;clear hb hbox hg)|(go_at_call 71;(with_reducible refine (impl_termsOf.calls _ _ l2 t505 _ ?side1 ?side2 A4.out).mono ?_);(case side1=>exact sC HR2);(case side2=>exact HC2.out);rintro e w9 ⟨v506,rfl,ho0,hb⟩;have HO507:=Aside0.mk (Kd.N_lower ho0 (below_size bH));replace BK503:=bb BK503 hb;replace BK504:=bb BK504 hb;replace HB:=bS hb;(try clear hb);(try clear hb2);(try clear hk);(try clear hi);(try clear ho0);obtain ⟨Ao10,co10,eo10⟩:=Kd.N_slice HO507.out;subst eo10)|(go_at_call 70;(with_reducible refine (impl_varsIn.calls k _ _ t505 t508 _ ?side1 ?side2 A5.out).mono ?_);(case side1=>repeat (first|exact (Kd.N_reads' HO507.out).2.2|(with_reducible refine Kd.C_alloc ?_ _)|(with_reducible refine Kd.C_drewN ?_ _)|(with_reducible refine Kd.C_drew ?_)));(case side2=>exact (Kd.N_reads' HO507.out).2.1);rintro e w11 ⟨v509,rfl,ho0,hb⟩;replace HO507:=Aside0.mk (Kd.N_elder' (rN HO507) (Kd.R_base ho0) hb);have HO510:=Aside0.mk (Kd.R_lower ho0 (below_size bH));replace BK503:=bb BK503 hb;replace BK504:=bb BK504 hb;replace HB:=bS hb;clear hb ho0)|((with_reducible refine gate_dst (N:=14) rfl ?_);refine Kd.R_make (Kd.int .i64) _ 3 rfl (N:=14) rfl 24 _ _ rfl 12 rfl rfl Try.underlying24 (.int .i64 0) 8 info3 rfl (by decide) YP 0 (ok:=fun _=>True) (okp:=fun _=>True) rfl (fun _ hk=>hk) trivial (by omega) (by omega) (Below.refl _ _) (Nat.le_refl _) ?_;intro v512 w12 ho13 hb hg_ hnew_;clear hg_ hnew_;(first|rw [← Ny511.out] at ho13|(simp only [Int.reduceToNat] at ho13;rw [← Ny511.out] at ho13));replace HO507:=Aside0.mk (Kd.N_elder' (rN HO507) (Kd.R_base ho13) hb);have HO513:=Aside0.mk (Kd.R_lower (Kd.R_new' ho13 (Kd.R_lt (rR HO510))) (below_size bH));replace HO510:=Aside0.mk (Kd.R_elder' (rR HO510) (Kd.R_base ho13) hb);replace BK503:=bb BK503 hb;replace BK504:=bb BK504 hb;replace HB:=bS hb;clear hb ho13))
 repeat (go_quiet (first|(refine xB 3 #[.slice A0_0 l0_0.length c0_0] 26 ?_;intro gb503 hg w7 hbox hb;have BK503:=Aside0.mk (hbox);have GW503:=gZ w gb503;have GE503:=GW503;replace HB:=bS hb;clear hb hbox hg)|(refine xB 4 #[.int .i64 a1_0,.slice A1_1 l1_1.length c1_1] 31 ?_;intro gb504 hg w8 hbox hb;have BK504:=Aside0.mk (hbox);have GW504:=gZ w gb504;have GE504:=GW504;replace HB:=bS hb;have NB503_504:=nl BK503 gb503 gb504;have NB504_503:=nr NB503_504;replace BK503:=bb BK503 hb;clear hb hbox hg)|(go_at_call 71;(with_reducible refine (impl_termsOf.calls _ _ l2 t505 _ ?side1 ?side2 A4.out).mono ?_);(case side1=>exact sC HR2);(case side2=>exact HC2.out);rintro e w9 ⟨v506,rfl,ho0,hb⟩;have HO507:=Aside0.mk (Kd.N_lower ho0 (below_size bH));replace BK503:=bb BK503 hb;replace BK504:=bb BK504 hb;replace HB:=bS hb;(try clear hb);(try clear hb2);(try clear hk);(try clear hi);(try clear ho0);obtain ⟨Ao10,co10,eo10⟩:=Kd.N_slice HO507.out;subst eo10)|(go_at_call 70;(with_reducible refine (impl_varsIn.calls k _ _ t505 t508 _ ?side1 ?side2 A5.out).mono ?_);(case side1=>repeat (first|exact (Kd.N_reads' HO507.out).2.2|(with_reducible refine Kd.C_alloc ?_ _)|(with_reducible refine Kd.C_drewN ?_ _)|(with_reducible refine Kd.C_drew ?_)));(case side2=>exact (Kd.N_reads' HO507.out).2.1);rintro e w11 ⟨v509,rfl,ho0,hb⟩;replace HO507:=Aside0.mk (Kd.N_elder' (rN HO507) (Kd.R_base ho0) hb);have HO510:=Aside0.mk (Kd.R_lower ho0 (below_size bH));replace BK503:=bb BK503 hb;replace BK504:=bb BK504 hb;replace HB:=bS hb;clear hb ho0)|((with_reducible refine gate_dst (N:=14) rfl ?_);refine Kd.R_make (Kd.int .i64) _ 3 rfl (N:=14) rfl 24 _ _ rfl 12 rfl rfl Try.underlying24 (.int .i64 0) 8 info3 rfl (by decide) YP 0 (ok:=fun _=>True) (okp:=fun _=>True) rfl (fun _ hk=>hk) trivial (by omega) (by omega) (Below.refl _ _) (Nat.le_refl _) ?_;intro v512 w12 ho13 hb hg_ hnew_;clear hg_ hnew_;(first|rw [← Ny511.out] at ho13|(simp only [Int.reduceToNat] at ho13;rw [← Ny511.out] at ho13));replace HO507:=Aside0.mk (Kd.N_elder' (rN HO507) (Kd.R_base ho13) hb);have HO513:=Aside0.mk (Kd.R_lower (Kd.R_new' ho13 (Kd.R_lt (rR HO510))) (below_size bH));replace HO510:=Aside0.mk (Kd.R_elder' (rR HO510) (Kd.R_base ho13) hb);replace BK503:=bb BK503 hb;replace BK504:=bb BK504 hb;replace HB:=bS hb;clear hb ho13));try go_wp2_with (first|(refine xB 3 #[.slice A0_0 l0_0.length c0_0] 26 ?_;intro gb503 hg w7 hbox hb;have BK503:=Aside0.mk (hbox);have GW503:=gZ w gb503;have GE503:=GW503;replace HB:=bS hb;clear hb hbox hg)|(refine xB 4 #[.int .i64 a1_0,.slice A1_1 l1_1.length c1_1] 31 ?_;intro gb504 hg w8 hbox hb;have BK504:=Aside0.mk (hbox);have GW504:=gZ w gb504;have GE504:=GW504;replace HB:=bS hb;have NB503_504:=nl BK503 gb503 gb504;have NB504_503:=nr NB503_504;replace BK503:=bb BK503 hb;clear hb hbox hg)|(go_at_call 71;(with_reducible refine (impl_termsOf.calls _ _ l2 t505 _ ?side1 ?side2 A4.out).mono ?_);(case side1=>exact sC HR2);(case side2=>exact HC2.out);rintro e w9 ⟨v506,rfl,ho0,hb⟩;have HO507:=Aside0.mk (Kd.N_lower ho0 (below_size bH));replace BK503:=bb BK503 hb;replace BK504:=bb BK504 hb;replace HB:=bS hb;(try clear hb);(try clear hb2);(try clear hk);(try clear hi);(try clear ho0);obtain ⟨Ao10,co10,eo10⟩:=Kd.N_slice HO507.out;subst eo10)|(go_at_call 70;(with_reducible refine (impl_varsIn.calls k _ _ t505 t508 _ ?side1 ?side2 A5.out).mono ?_);(case side1=>repeat (first|exact (Kd.N_reads' HO507.out).2.2|(with_reducible refine Kd.C_alloc ?_ _)|(with_reducible refine Kd.C_drewN ?_ _)|(with_reducible refine Kd.C_drew ?_)));(case side2=>exact (Kd.N_reads' HO507.out).2.1);rintro e w11 ⟨v509,rfl,ho0,hb⟩;replace HO507:=Aside0.mk (Kd.N_elder' (rN HO507) (Kd.R_base ho0) hb);have HO510:=Aside0.mk (Kd.R_lower ho0 (below_size bH));replace BK503:=bb BK503 hb;replace BK504:=bb BK504 hb;replace HB:=bS hb;clear hb ho0)|((with_reducible refine gate_dst (N:=14) rfl ?_);refine Kd.R_make (Kd.int .i64) _ 3 rfl (N:=14) rfl 24 _ _ rfl 12 rfl rfl Try.underlying24 (.int .i64 0) 8 info3 rfl (by decide) YP 0 (ok:=fun _=>True) (okp:=fun _=>True) rfl (fun _ hk=>hk) trivial (by omega) (by omega) (Below.refl _ _) (Nat.le_refl _) ?_;intro v512 w12 ho13 hb hg_ hnew_;clear hg_ hnew_;(first|rw [← Ny511.out] at ho13|(simp only [Int.reduceToNat] at ho13;rw [← Ny511.out] at ho13));replace HO507:=Aside0.mk (Kd.N_elder' (rN HO507) (Kd.R_base ho13) hb);have HO513:=Aside0.mk (Kd.R_lower (Kd.R_new' ho13 (Kd.R_lt (rR HO510))) (below_size bH));replace HO510:=Aside0.mk (Kd.R_elder' (rR HO510) (Kd.R_base ho13) hb);replace BK503:=bb BK503 hb;replace BK504:=bb BK504 hb;replace HB:=bS hb;clear hb ho13)))
 go_loopg [] k (fun kq w'=>∃ (x9_1:List Int),Aside0 (impl_Sign_falseAt.l0 kq l2 t508 x9_1 l0_0 a1_0 l1_1 = some (r1,r2)) ∧ Aside0 (kq ≤ k) ∧ Aside0 (Kd.R (Kd.int .i64) 3 w' w.heap.size (fun k_=>some k_ ≠ (v512:Value).ownBlock) v509 t508) ∧ Aside0 (Kd.R (Kd.int .i64) 3 w' w.heap.size (fun k_=>some k_ ≠ (v509:Value).ownBlock) v512 x9_1) ∧ Aside0 (w'.heap[gb503]? = some (.cells #[(.slice A0_0 l0_0.length c0_0)] 26 (0,0))) ∧ Aside0 (w'.heap[gb504]? = some (.cells #[.int .i64 a1_0,(.slice A1_1 l1_1.length c1_1)] 31 (0,0))) ∧ Aside0 (Below w.heap.size w w'))
 case atStart=>exact ⟨(y511),H',⟨Nat.le_refl _⟩,⟨by (with_reducible repeat (first|apply Kd.R_alloc|apply Kd.R_drewN|apply Kd.R_drew));exact Kd.R_mono HO510.out (fun _ hk=>hk.2)⟩,⟨by (with_reducible repeat (first|apply Kd.R_alloc|apply Kd.R_drewN|apply Kd.R_drew));exact Kd.R_mono HO513.out (fun _ hk=>hk.2)⟩,⟨by (with_reducible repeat (first|refine blk_drewN ?_ _|refine blk_drew ?_|refine blk_alloc ?_ _));exact BK503.out⟩,⟨by (with_reducible repeat (first|refine blk_drewN ?_ _|refine blk_drew ?_|refine blk_alloc ?_ _));exact BK504.out⟩,⟨bH⟩⟩
 case round =>
  clear H'
  (try clear c2);(try clear c6);(try clear c6b0);(try clear c6b1)
  obtain ⟨x9_1,HA,HK1,HO_8,HO_9,BK503,BK504,HB⟩:=hrel
  cases gk with
  | zero=>exact absurd HA.out (by simp [impl_Sign_falseAt.l0])
  | succ k1 =>
   have H:=HA.out
   clear HA
   simp only [impl_Sign_falseAt.l0] at H
   replace H:=bI H;obtain ⟨t514,A14,H⟩:=H
   by_cases c15:t514 = true
   ·subst c15
    replace H:=pT H
    have H':=Aside0.mk H
    clear H
    have hnb16:=NB503_504.out
    have hnc16:=NB504_503.out
    have hcz17_0:=qc1_0 BK503
    have hfz17_0:=fz BK503 0
    have hcz18_0:=qc2_0 BK504
    have hcz18_1:=qc2_1 BK504
    have hfz18_0:=fz BK504 0
    have hfz18_1:=fz BK504 1
    obtain ⟨Ao19,co19,eo19⟩:=Kd.R_slice HO_9.out
    subst eo19
    go_wp2_with (first|(go_at_call 51;(with_reducible refine (impl_Sign_holdsAt.calls k1 _ _ l0_0 a1_0 _ _ l1_1 _ _ l2 _ _ x9_1 true _ ?side1 ?side2 ?side3 ?side4 ?side5 ?side6 ?side7 ?side8 A14.out).mono ?_);(case side1=>exact Yx);(case side2=>exact Yw);(case side3=>exact YY);(case side4=>exact YW);(case side5=>exact sC HR2);(case side6=>exact HC2.out);(case side7=>repeat (first|exact (Kd.R_reads' HO_9.out).2.2|(with_reducible refine Kd.C_alloc ?_ _)|(with_reducible refine Kd.C_drewN ?_ _)|(with_reducible refine Kd.C_drew ?_)));(case side8=>exact (Kd.R_reads' HO_9.out).2.1);rintro e w20 ⟨rfl,hb⟩;replace HO_8:=rB HO_8 hb;replace HO_9:=rB HO_9 hb;replace BK503:=bb BK503 hb;replace BK504:=bb BK504 hb;replace HB:=bS hb;(try clear hb);(try clear hb2);(try clear hk);(try clear hi);obtain ⟨Ao21,co21,eo21⟩:=Kd.R_slice HO_8.out;subst eo21))
    repeat (go_quiet (first|(go_at_call 51;(with_reducible refine (impl_Sign_holdsAt.calls k1 _ _ l0_0 a1_0 _ _ l1_1 _ _ l2 _ _ x9_1 true _ ?side1 ?side2 ?side3 ?side4 ?side5 ?side6 ?side7 ?side8 A14.out).mono ?_);(case side1=>exact Yx);(case side2=>exact Yw);(case side3=>exact YY);(case side4=>exact YW);(case side5=>exact sC HR2);(case side6=>exact HC2.out);(case side7=>repeat (first|exact (Kd.R_reads' HO_9.out).2.2|(with_reducible refine Kd.C_alloc ?_ _)|(with_reducible refine Kd.C_drewN ?_ _)|(with_reducible refine Kd.C_drew ?_)));(case side8=>exact (Kd.R_reads' HO_9.out).2.1);rintro e w20 ⟨rfl,hb⟩;replace HO_8:=rB HO_8 hb;replace HO_9:=rB HO_9 hb;replace BK503:=bb BK503 hb;replace BK504:=bb BK504 hb;replace HB:=bS hb;(try clear hb);(try clear hb2);(try clear hk);(try clear hi);obtain ⟨Ao21,co21,eo21⟩:=Kd.R_slice HO_8.out;subst eo21));try go_wp2_with (first|(go_at_call 51;(with_reducible refine (impl_Sign_holdsAt.calls k1 _ _ l0_0 a1_0 _ _ l1_1 _ _ l2 _ _ x9_1 true _ ?side1 ?side2 ?side3 ?side4 ?side5 ?side6 ?side7 ?side8 A14.out).mono ?_);(case side1=>exact Yx);(case side2=>exact Yw);(case side3=>exact YY);(case side4=>exact YW);(case side5=>exact sC HR2);(case side6=>exact HC2.out);(case side7=>repeat (first|exact (Kd.R_reads' HO_9.out).2.2|(with_reducible refine Kd.C_alloc ?_ _)|(with_reducible refine Kd.C_drewN ?_ _)|(with_reducible refine Kd.C_drew ?_)));(case side8=>exact (Kd.R_reads' HO_9.out).2.1);rintro e w20 ⟨rfl,hb⟩;replace HO_8:=rB HO_8 hb;replace HO_9:=rB HO_9 hb;replace BK503:=bb BK503 hb;replace BK504:=bb BK504 hb;replace HB:=bS hb;(try clear hb);(try clear hb2);(try clear hk);(try clear hi);obtain ⟨Ao21,co21,eo21⟩:=Kd.R_slice HO_8.out;subst eo21)))
    go_loopg [10] k1 (fun kq v10 w'=>∃ (x9_2:List Int) (x10_2:Int),v10 = .int .i64 x10_2 ∧ Aside0 (impl_Sign_falseAt.l1 kq l2 t508 x9_2 x10_2 l0_0 a1_0 l1_1 = some (r1,r2)) ∧ Aside0 (kq ≤ k1) ∧ Aside0 (Kd.R (Kd.int .i64) 3 w' w.heap.size (fun k_=>some k_ ≠ ((.slice Ao19 x9_1.length co19):Value).ownBlock) (.slice Ao21 t508.length co21) t508) ∧ Aside0 (Kd.R (Kd.int .i64) 3 w' w.heap.size (fun k_=>some k_ ≠ ((.slice Ao21 t508.length co21):Value).ownBlock) (.slice Ao19 x9_1.length co19) x9_2) ∧ Aside0 (w'.heap[gb503]? = some (.cells #[(.slice A0_0 l0_0.length c0_0)] 26 (0,0))) ∧ Aside0 (w'.heap[gb504]? = some (.cells #[.int .i64 a1_0,(.slice A1_1 l1_1.length c1_1)] 31 (0,0))) ∧ Aside0 (Below w.heap.size w w'))
    case atStart=>exact ⟨(x9_1),(wrap64 ((t508.length:Int) - 1)),Yd,H',⟨Nat.le_refl _⟩,⟨rR HO_8⟩,⟨rR HO_9⟩,⟨by (with_reducible repeat (first|refine blk_drewN ?_ _|refine blk_drew ?_|refine blk_alloc ?_ _));exact BK503.out⟩,⟨by (with_reducible repeat (first|refine blk_drewN ?_ _|refine blk_drew ?_|refine blk_alloc ?_ _));exact BK504.out⟩,⟨bH⟩⟩
    case round =>
     clear H'
     (try clear c2);(try clear c6);(try clear c6b0);(try clear c6b1);(try clear c15);(try clear hcz17_0);(try clear hcz18_0);(try clear hcz18_1);(try clear hfz17_0);(try clear hfz18_0);(try clear hfz18_1)
     obtain ⟨x9_2,x10_2,rfl,HA,HK2,HO_8,HO_9,BK503,BK504,HB⟩:=hrel
     have hl9_2:=(Kd.R_reads' HO_9.out).1
     rw [hl9_2] at HO_9
     (try simp only [hl9_2])
     (try simp only [hl9_2] at BK503)
     (try simp only [hl9_2] at BK504)
     (try simp only [hl9_2] at HO_8)
     cases gk with
     | zero=>exact absurd HA.out (by simp [impl_Sign_falseAt.l1])
     | succ k2 =>
      have H:=HA.out
      clear HA
      simp only [impl_Sign_falseAt.l1] at H
      by_cases c22:x10_2 ≥ 0
      ·rw [if_pos c22] at H
       have c22b0:decide (0 ≤ x10_2) = true:=decide_eq_true c22
       clear c22
       replace H:=gI H;obtain ⟨c23b0,H⟩:=H
       replace H:=gI H;obtain ⟨c24b0,H⟩:=H
       replace H:=gI H;obtain ⟨c25b0,H⟩:=H
       replace H:=gI H;obtain ⟨c26b0,H⟩:=H
       by_cases c27:(rd x9_2 (rd t508 x10_2)) = (wrap64 (a1_0 - 1))
       ·rw [if_pos c27] at H
        have c27b0:((rd x9_2 (rd t508 x10_2)) == (wrap64 (a1_0 - 1))) = true:=beq_iff_eq.mpr c27
        have c27b1:((rd x9_2 (rd t508 x10_2)) != (wrap64 (a1_0 - 1))) = false:=bne_eq_false_iff_eq.mpr c27
        clear c27
        obtain ⟨y518,hy518⟩:∃ y_:List Int,y_ = (x9_2.set ((rd t508 x10_2):Int).toNat 0):=⟨_,rfl⟩
        replace H:(impl_Sign_falseAt.l1 k2 l2 t508 y518 (wrap64 (x10_2 - 1)) l0_0 a1_0 l1_1) = some (r1,r2):=by first|(rw [hy518];with_reducible exact H)|(have H2_:=(Option.bind_some _ _).symm.trans H;rw [hy518];with_reducible exact H2_)|(have H2_:=(Option.bind_some _ _).symm.trans H;with_reducible exact H2_)|with_reducible exact H|(rw [hy518];exact H)|exact H
        have Ny518:=Aside0.mk hy518
        clear hy518
        have H':=Aside0.mk H
        clear H
        obtain ⟨p515,q515,ad515,e515,hx515_0⟩:=aI (Kd.R_reads' HO_8.out).2.2 x10_2;cases e515
        obtain ⟨p516,q516,ad516,e516,hx516_0⟩:=aI (Kd.R_reads' HO_9.out).2.2 (rd t508 x10_2);cases e516
        have hnb29:=NB504_503.out
        have hnc29:=NB503_504.out
        have hcz30_0:=qc2_0 BK504
        have hcz30_1:=qc2_1 BK504
        have hfz30_0:=fz BK504 0
        have hfz30_1:=fz BK504 1
        have p517:0 ≤ (x10_2:Int):=oD
        have q517:x10_2 < (t508.length:Int):=oD
        obtain ⟨ad517,e517,hx517_0⟩:=Kd.at_int (Kd.R_reads' HO_8.out).2.2 x10_2 p517 q517
        obtain rfl:ad515 = ad517:=(by injection e517)
        replace p517:=eq_true p517
        replace q517:=eq_true q517
        have p28:0 ≤ ((rd t508 x10_2):Int):=oD
        have q28:((rd t508 x10_2):Int) < ((x9_2.length:Int):Int):=oD
        obtain ⟨go28,co28,eo28,gb28,gl28,cl28,HG28⟩:=Kd.R_form HO_9.out (by omega)
        (first|cases eo28|(injection eo28 with ea_ en_ ec_;(first|subst ea_|(injection ea_ with ea_;subst ea_));subst ec_;clear en_))
        have GB28:=Aside0.mk gb28
        have GG28:=Aside0.mk HG28
        clear gb28 gl28 HG28
        (first|simp only [add_plain] at hx516_0|skip)
        obtain ⟨hx28_0,hf28_0⟩:=Kd.R_celln 0 HO_9.out ((rd t508 x10_2):Int) p28 q28
        replace p28:=eq_true p28
        replace q28:=eq_true q28
        have HP31:=Kd.R_putg HO_9.out ((rd t508 x10_2):Int) 0
        obtain ⟨w32,hw⟩:∃ w_,w_ = (wr.setCell ⟨go28,((rd t508 x10_2):Int).toNat,none⟩ (.int .i64 0)):=⟨_,rfl⟩
        have hsd_:∀ n_,((wr.drewN n_).setCell ⟨go28,((rd t508 x10_2):Int).toNat,none⟩ (.int .i64 0)) = w32.drewN n_:=fun _=>by rw [hw];rfl
        have hse_:(wr.setCell ⟨go28,((rd t508 x10_2):Int).toNat,none⟩ (.int .i64 0)) = w32:=hw.symm
        have hg:wr.grownBy w32 (some go28):=(by rw [hw];exact HP31.2)
        have hp_:Kd.R (Kd.int .i64) 3 w32 w.heap.size (fun k_=>some k_ ≠ (.slice (some ad515) t508.length co21:Value).ownBlock) (.slice (some ⟨go28,0,none⟩) x9_2.length co19) y518:=(by rw [hw,Ny518.out];exact HP31.1)
        clear HP31
        replace HO_8:=Aside0.mk (Kd.R_after (v:=(.slice (some ⟨go28,0,none⟩) x9_2.length co19)) (v1:=(.slice (some ⟨go28,0,none⟩) x9_2.length co19)) (ok:=(fun _=>True)) (by (with_reducible repeat (first|apply Kd.R_alloc|apply Kd.R_drewN|apply Kd.R_drew));exact Kd.R_mono HO_8.out (fun _ hk=>⟨trivial,hk⟩)) hg (.inl rfl));replace BK503:=Aside0.mk (blk_grown (bB BK503) hg (Kd.R_ne HO_9.out BK503.out (by decide)));replace BK504:=Aside0.mk (blk_grown (bB BK504) hg (Kd.R_ne HO_9.out BK504.out (by decide)));replace HO_9:=Aside0.mk (hp_);replace HB:=Aside0.mk ((by rw [hw];exact below_set (HB.out) GB28.out:Below w.heap.size w w32))
        clear hg hw hp_
        replace hsd_:=Aside0.mk hsd_
        replace hse_:=Aside0.mk hse_
        go_wp2
        repeat (go_quiet (fail))
        try go_wp2
        (try simp only [← hl9_2])
        go_roundg k2
        case measure=>have:=HK1.out;have:=HK2.out;omega
        case rel=>(first|rw [hsd_.out]|rw [hse_.out]|skip);exact ⟨(y518),(wrap64 (x10_2 - 1)),Yd,H',⟨by have:=HK1.out;have:=HK2.out;omega⟩,⟨by (try simp only [hl9_2]);(with_reducible repeat (first|apply Kd.R_alloc|apply Kd.R_drewN|apply Kd.R_drew));exact Kd.R_mono HO_8.out (fun _ hk=>hk.2)⟩,⟨by (try simp only [hl9_2]);(with_reducible repeat (first|apply Kd.R_alloc|apply Kd.R_drewN|apply Kd.R_drew));exact HO_9.out⟩,⟨by (try simp only [hl9_2]);(with_reducible repeat (first|refine blk_drewN ?_ _|refine blk_drew ?_|refine blk_alloc ?_ _));exact BK503.out⟩,⟨by (try simp only [hl9_2]);(with_reducible repeat (first|refine blk_drewN ?_ _|refine blk_drew ?_|refine blk_alloc ?_ _));exact BK504.out⟩,⟨bH⟩⟩
       ·rw [if_neg c27] at H
        have c27b0:((rd x9_2 (rd t508 x10_2)) == (wrap64 (a1_0 - 1))) = false:=beq_eq_false_iff_ne.mpr c27
        have c27b1:((rd x9_2 (rd t508 x10_2)) != (wrap64 (a1_0 - 1))) = true:=bne_iff_ne.mpr c27
        by_cases c33:x10_2 < 0
        ·rw [if_pos c33] at H
         have c33b0:=decide_eq_true c33
         clear c33
         simp only [Option.some.injEq,Prod.mk.injEq] at H
         obtain ⟨rfl,rfl⟩:=H
         obtain ⟨p515,q515,ad515,e515,hx515_0⟩:=aI (Kd.R_reads' HO_8.out).2.2 x10_2;cases e515
         obtain ⟨p516,q516,ad516,e516,hx516_0⟩:=aI (Kd.R_reads' HO_9.out).2.2 (rd t508 x10_2);cases e516
         have hnb34:=NB504_503.out
         have hnc34:=NB503_504.out
         have hcz35_0:=qc2_0 BK504
         have hcz35_1:=qc2_1 BK504
         have hfz35_0:=fz BK504 0
         have hfz35_1:=fz BK504 1
         go_wp2
         repeat (go_quiet (fail);try go_wp2)
         go_ret2
         exact ⟨_,Yb,Yi,bH⟩
        ·rw [if_neg c33] at H
         have c33b0:decide (x10_2 < 0) = false:=decide_eq_false c33
         clear c33
         obtain ⟨y521,hy521⟩:∃ y_:List Int,y_ = (x9_2.set ((rd t508 x10_2):Int).toNat (wrap64 ((rd x9_2 (rd t508 x10_2)) + 1))):=⟨_,rfl⟩
         replace H:(impl_Sign_falseAt.l0 k2 l2 t508 y521 l0_0 a1_0 l1_1) = some (r1,r2):=by first|(rw [hy521];with_reducible exact H)|(have H2_:=(Option.bind_some _ _).symm.trans H;rw [hy521];with_reducible exact H2_)|(have H2_:=(Option.bind_some _ _).symm.trans H;with_reducible exact H2_)|with_reducible exact H|(rw [hy521];exact H)|exact H
         have Ny521:=Aside0.mk hy521
         clear hy521
         have H':=Aside0.mk H
         clear H
         obtain ⟨p515,q515,ad515,e515,hx515_0⟩:=aI (Kd.R_reads' HO_8.out).2.2 x10_2;cases e515
         obtain ⟨p516,q516,ad516,e516,hx516_0⟩:=aI (Kd.R_reads' HO_9.out).2.2 (rd t508 x10_2);cases e516
         have hnb37:=NB504_503.out
         have hnc37:=NB503_504.out
         have hcz38_0:=qc2_0 BK504
         have hcz38_1:=qc2_1 BK504
         have hfz38_0:=fz BK504 0
         have hfz38_1:=fz BK504 1
         have p519:0 ≤ (x10_2:Int):=oD
         have q519:x10_2 < (t508.length:Int):=oD
         obtain ⟨ad519,e519,hx519_0⟩:=Kd.at_int (Kd.R_reads' HO_8.out).2.2 x10_2 p519 q519
         obtain rfl:ad515 = ad519:=(by injection e519)
         replace p519:=eq_true p519
         replace q519:=eq_true q519
         have p520:0 ≤ ((rd t508 x10_2):Int):=oD
         have q520:(rd t508 x10_2) < (x9_2.length:Int):=oD
         obtain ⟨ad520,e520,hx520_0⟩:=Kd.at_int (Kd.R_reads' HO_9.out).2.2 (rd t508 x10_2) p520 q520
         obtain rfl:ad516 = ad520:=(by injection e520)
         replace p520:=eq_true p520
         replace q520:=eq_true q520
         have p36:0 ≤ ((rd t508 x10_2):Int):=oD
         have q36:((rd t508 x10_2):Int) < ((x9_2.length:Int):Int):=oD
         obtain ⟨go36,co36,eo36,gb36,gl36,cl36,HG36⟩:=Kd.R_form HO_9.out (by omega)
         (first|cases eo36|(injection eo36 with ea_ en_ ec_;(first|subst ea_|(injection ea_ with ea_;subst ea_));subst ec_;clear en_))
         have GB36:=Aside0.mk gb36
         have GG36:=Aside0.mk HG36
         clear gb36 gl36 HG36
         (first|simp only [add_plain] at hx516_0|skip)
         (first|simp only [add_plain] at hx520_0|skip)
         obtain ⟨hx36_0,hf36_0⟩:=Kd.R_celln 0 HO_9.out ((rd t508 x10_2):Int) p36 q36
         replace p36:=eq_true p36
         replace q36:=eq_true q36
         have HP39:=Kd.R_putg HO_9.out ((rd t508 x10_2):Int) (wrap64 ((rd x9_2 (rd t508 x10_2)) + 1))
         obtain ⟨w40,hw⟩:∃ w_,w_ = (wr.setCell ⟨go36,((rd t508 x10_2):Int).toNat,none⟩ (.int .i64 (wrap64 ((rd x9_2 (rd t508 x10_2)) + 1)))):=⟨_,rfl⟩
         have hsd_:∀ n_,((wr.drewN n_).setCell ⟨go36,((rd t508 x10_2):Int).toNat,none⟩ (.int .i64 (wrap64 ((rd x9_2 (rd t508 x10_2)) + 1)))) = w40.drewN n_:=fun _=>by rw [hw];rfl
         have hse_:(wr.setCell ⟨go36,((rd t508 x10_2):Int).toNat,none⟩ (.int .i64 (wrap64 ((rd x9_2 (rd t508 x10_2)) + 1)))) = w40:=hw.symm
         have hg:wr.grownBy w40 (some go36):=(by rw [hw];exact HP39.2)
         have hp_:Kd.R (Kd.int .i64) 3 w40 w.heap.size (fun k_=>some k_ ≠ (.slice (some ad515) t508.length co21:Value).ownBlock) (.slice (some ⟨go36,0,none⟩) x9_2.length co19) y521:=(by rw [hw,Ny521.out];exact HP39.1)
         clear HP39
         replace HO_8:=Aside0.mk (Kd.R_after (v:=(.slice (some ⟨go36,0,none⟩) x9_2.length co19)) (v1:=(.slice (some ⟨go36,0,none⟩) x9_2.length co19)) (ok:=(fun _=>True)) (by (with_reducible repeat (first|apply Kd.R_alloc|apply Kd.R_drewN|apply Kd.R_drew));exact Kd.R_mono HO_8.out (fun _ hk=>⟨trivial,hk⟩)) hg (.inl rfl));replace BK503:=Aside0.mk (blk_grown (bB BK503) hg (Kd.R_ne HO_9.out BK503.out (by decide)));replace BK504:=Aside0.mk (blk_grown (bB BK504) hg (Kd.R_ne HO_9.out BK504.out (by decide)));replace HO_9:=Aside0.mk (hp_);replace HB:=Aside0.mk ((by rw [hw];exact below_set (HB.out) GB36.out:Below w.heap.size w w40))
         clear hg hw hp_
         replace hsd_:=Aside0.mk hsd_
         replace hse_:=Aside0.mk hse_
         go_wp2
         repeat (go_quiet (fail))
         try go_wp2
         (try simp only [← hl9_2])
         go_roundg k2
         case measure=>have:=HK1.out;have:=HK2.out;omega
         case rel=>(first|rw [hsd_.out]|rw [hse_.out]|skip);exact ⟨(y521),H',⟨by have:=HK1.out;have:=HK2.out;omega⟩,⟨by (try simp only [hl9_2]);(with_reducible repeat (first|apply Kd.R_alloc|apply Kd.R_drewN|apply Kd.R_drew));exact Kd.R_mono HO_8.out (fun _ hk=>hk.2)⟩,⟨by (try simp only [hl9_2]);(with_reducible repeat (first|apply Kd.R_alloc|apply Kd.R_drewN|apply Kd.R_drew));exact HO_9.out⟩,⟨by (try simp only [hl9_2]);(with_reducible repeat (first|refine blk_drewN ?_ _|refine blk_drew ?_|refine blk_alloc ?_ _));exact BK503.out⟩,⟨by (try simp only [hl9_2]);(with_reducible repeat (first|refine blk_drewN ?_ _|refine blk_drew ?_|refine blk_alloc ?_ _));exact BK504.out⟩,⟨bH⟩⟩
      ·rw [if_neg c22] at H
       have c22b0:decide (0 ≤ x10_2) = false:=decide_eq_false c22
       clear c22
       by_cases c41:x10_2 < 0
       ·rw [if_pos c41] at H
        have c41b0:=decide_eq_true c41
        clear c41
        simp only [Option.some.injEq,Prod.mk.injEq] at H
        obtain ⟨rfl,rfl⟩:=H
        go_wp2
        repeat (go_quiet (fail);try go_wp2)
        go_ret2
        exact ⟨_,Yb,Yi,bH⟩
       ·rw [if_neg c41] at H
        have c41b0:decide (x10_2 < 0) = false:=decide_eq_false c41
        clear c41
        replace H:=gI H;obtain ⟨c42b0,H⟩:=H
        replace H:=gI H;obtain ⟨c43b0,H⟩:=H
        replace H:=gI H;obtain ⟨c44b0,H⟩:=H
        replace H:=gI H;obtain ⟨c45b0,H⟩:=H
        obtain ⟨y524,hy524⟩:∃ y_:List Int,y_ = (x9_2.set ((rd t508 x10_2):Int).toNat (wrap64 ((rd x9_2 (rd t508 x10_2)) + 1))):=⟨_,rfl⟩
        replace H:(impl_Sign_falseAt.l0 k2 l2 t508 y524 l0_0 a1_0 l1_1) = some (r1,r2):=by first|(rw [hy524];with_reducible exact H)|(have H2_:=(Option.bind_some _ _).symm.trans H;rw [hy524];with_reducible exact H2_)|(have H2_:=(Option.bind_some _ _).symm.trans H;with_reducible exact H2_)|with_reducible exact H|(rw [hy524];exact H)|exact H
        have Ny524:=Aside0.mk hy524
        clear hy524
        have H':=Aside0.mk H
        clear H
        obtain ⟨p522,q522,ad522,e522,hx522_0⟩:=aI (Kd.R_reads' HO_8.out).2.2 x10_2;cases e522
        obtain ⟨p523,q523,ad523,e523,hx523_0⟩:=aI (Kd.R_reads' HO_9.out).2.2 (rd t508 x10_2);cases e523
        have p46:0 ≤ ((rd t508 x10_2):Int):=oD
        have q46:((rd t508 x10_2):Int) < ((x9_2.length:Int):Int):=oD
        obtain ⟨go46,co46,eo46,gb46,gl46,cl46,HG46⟩:=Kd.R_form HO_9.out (by omega)
        (first|cases eo46|(injection eo46 with ea_ en_ ec_;(first|subst ea_|(injection ea_ with ea_;subst ea_));subst ec_;clear en_))
        have GB46:=Aside0.mk gb46
        have GG46:=Aside0.mk HG46
        clear gb46 gl46 HG46
        (first|simp only [add_plain] at hx523_0|skip)
        obtain ⟨hx46_0,hf46_0⟩:=Kd.R_celln 0 HO_9.out ((rd t508 x10_2):Int) p46 q46
        replace p46:=eq_true p46
        replace q46:=eq_true q46
        have HP47:=Kd.R_putg HO_9.out ((rd t508 x10_2):Int) (wrap64 ((rd x9_2 (rd t508 x10_2)) + 1))
        exact absurd (of_decide_eq_true (show decide (0 ≤ x10_2) = true by assumption)) (of_decide_eq_false (show decide (x10_2 ≥ 0) = false by assumption))
   ·replace c15:=Bool.eq_false_iff.mpr c15
    subst c15
    replace H:=pF H
    simp only [Option.some.injEq,Prod.mk.injEq] at H
    obtain ⟨rfl,rfl⟩:=H
    have hnb49:=NB503_504.out
    have hnc49:=NB504_503.out
    have hcz50_0:=qc1_0 BK503
    have hfz50_0:=fz BK503 0
    have hcz51_0:=qc2_0 BK504
    have hcz51_1:=qc2_1 BK504
    have hfz51_0:=fz BK504 0
    have hfz51_1:=fz BK504 1
    obtain ⟨Ao52,co52,eo52⟩:=Kd.R_slice HO_9.out
    subst eo52
    go_wp2_with (first|(go_at_call 51;(with_reducible refine (impl_Sign_holdsAt.calls k1 _ _ l0_0 a1_0 _ _ l1_1 _ _ l2 _ _ x9_1 false _ ?side1 ?side2 ?side3 ?side4 ?side5 ?side6 ?side7 ?side8 A14.out).mono ?_);(case side1=>exact Yx);(case side2=>exact Yw);(case side3=>exact YY);(case side4=>exact YW);(case side5=>exact sC HR2);(case side6=>exact HC2.out);(case side7=>repeat (first|exact (Kd.R_reads' HO_9.out).2.2|(with_reducible refine Kd.C_alloc ?_ _)|(with_reducible refine Kd.C_drewN ?_ _)|(with_reducible refine Kd.C_drew ?_)));(case side8=>exact (Kd.R_reads' HO_9.out).2.1);rintro e w53 ⟨rfl,hb⟩;replace HO_8:=rB HO_8 hb;replace HO_9:=rB HO_9 hb;replace BK503:=bb BK503 hb;replace BK504:=bb BK504 hb;replace HB:=bS hb;clear hb))
    repeat (go_quiet (first|(go_at_call 51;(with_reducible refine (impl_Sign_holdsAt.calls k1 _ _ l0_0 a1_0 _ _ l1_1 _ _ l2 _ _ x9_1 false _ ?side1 ?side2 ?side3 ?side4 ?side5 ?side6 ?side7 ?side8 A14.out).mono ?_);(case side1=>exact Yx);(case side2=>exact Yw);(case side3=>exact YY);(case side4=>exact YW);(case side5=>exact sC HR2);(case side6=>exact HC2.out);(case side7=>repeat (first|exact (Kd.R_reads' HO_9.out).2.2|(with_reducible refine Kd.C_alloc ?_ _)|(with_reducible refine Kd.C_drewN ?_ _)|(with_reducible refine Kd.C_drew ?_)));(case side8=>exact (Kd.R_reads' HO_9.out).2.1);rintro e w53 ⟨rfl,hb⟩;replace HO_8:=rB HO_8 hb;replace HO_9:=rB HO_9 hb;replace BK503:=bb BK503 hb;replace BK504:=bb BK504 hb;replace HB:=bS hb;clear hb));try go_wp2_with (first|(go_at_call 51;(with_reducible refine (impl_Sign_holdsAt.calls k1 _ _ l0_0 a1_0 _ _ l1_1 _ _ l2 _ _ x9_1 false _ ?side1 ?side2 ?side3 ?side4 ?side5 ?side6 ?side7 ?side8 A14.out).mono ?_);(case side1=>exact Yx);(case side2=>exact Yw);(case side3=>exact YY);(case side4=>exact YW);(case side5=>exact sC HR2);(case side6=>exact HC2.out);(case side7=>repeat (first|exact (Kd.R_reads' HO_9.out).2.2|(with_reducible refine Kd.C_alloc ?_ _)|(with_reducible refine Kd.C_drewN ?_ _)|(with_reducible refine Kd.C_drew ?_)));(case side8=>exact (Kd.R_reads' HO_9.out).2.1);rintro e w53 ⟨rfl,hb⟩;replace HO_8:=rB HO_8 hb;replace HO_9:=rB HO_9 hb;replace BK503:=bb BK503 hb;replace BK504:=bb BK504 hb;replace HB:=bS hb;clear hb)))
    go_ret2
    exact ⟨_,Yb,by (with_reducible repeat (first|apply Kd.R_alloc|apply Kd.R_drewN|apply Kd.R_drew));exact Kd.R_mono HO_9.out (fun _ hk=>trivial),bH⟩

/-! ### impl_HoldsIn: function 28 -/
def impl_HoldsIn.f (k:Nat) (l0_0:List Int) (a1_0:Int) (l1_1:List (List Int)) (l2:List (S83)):Option (Bool × Bool):=(impl_GoodWorld.f k l0_0 a1_0 l1_1).bind fun t527=>(if t527 = true then ((impl_Sign_isAsked.f k l0_0 l2).bind fun t528=>(if t528 = true then ((impl_Sign_falseAt.f k l0_0 a1_0 l1_1 l2).bind fun bt529=>(some (!bt529.2,true))) else (some (false,false)))) else (some (false,false)))
theorem impl_HoldsIn.mono:∀ a0 a1 a2 a3 k,LeO (impl_HoldsIn.f k a0 a1 a2 a3) (impl_HoldsIn.f (k + 1) a0 a1 a2 a3):=by
 intro a0 a1 a2 a3 k
 unfold impl_HoldsIn.f
 have m0:=@impl_GoodWorld.mono
 have m1:=@impl_Sign_falseAt.mono
 have m2:=@impl_Sign_isAsked.mono
 exact mO
set_option maxHeartbeats 8000000 in
set_option maxRecDepth 100000 in
theorem impl_HoldsIn.calls (k:Nat) (A0_0:Option Addr) (c0_0:Nat) (l0_0:List Int) (a1_0:Int) (A1_1:Option Addr) (c1_1:Nat) (l1_1:List (List Int)) (A2:Option Addr) (c2:Nat) (l2:List (S83)) (r1:Bool) (r2:Bool) (w:World) (hr0_0:Kd.C (Kd.int .i64) w A0_0 l0_0.length l0_0) (hc0_0:l0_0.length ≤ c0_0) (hr1_1:Kd.C (Kd.slice 3 (Kd.int .i64)) w A1_1 l1_1.length l1_1) (hc1_1:l1_1.length ≤ c1_1) (hr2:Kd.C k83 w A2 l2.length l2) (hc2:l2.length ≤ c2) (h:impl_HoldsIn.f k l0_0 a1_0 l1_1 l2 = some (r1,r2)) :
  Calls Try.prog 28 #[.agg #[.slice A0_0 l0_0.length c0_0],.agg #[.int .i64 a1_0,.slice A1_1 l1_1.length c1_1],.slice A2 l2.length c2] w fun e w'=>e = .returned (.tuple #[.bool r1,.bool r2]) ∧ Below w.heap.size w w':=by
 have hu26:=Try.underlying26
 have hu31:=Try.underlying31
 have HR0_0:=Aside0.mk hr0_0
 have HC0_0:=Aside0.mk hc0_0
 clear hr0_0 hc0_0
 have HR1_1:=Aside0.mk hr1_1
 have HC1_1:=Aside0.mk hc1_1
 clear hr1_1 hc1_1
 have HR2:=Aside0.mk hr2
 have HC2:=Aside0.mk hc2
 clear hr2 hc2
 have HB:=Aside0.mk (Below.refl w.heap.size w)
 have H:((impl_GoodWorld.f k l0_0 a1_0 l1_1).bind fun t527=>(if t527 = true then ((impl_Sign_isAsked.f k l0_0 l2).bind fun t528=>(if t528 = true then ((impl_Sign_falseAt.f k l0_0 a1_0 l1_1 l2).bind fun bt529=>(some (!bt529.2,true))) else (some (false,false)))) else (some (false,false)))) = some (r1,r2):=h
 clear h
 replace H:=bI H;obtain ⟨t527,A4,H⟩:=H
 by_cases c5:t527 = true
 ·subst c5
  replace H:=pT H
  replace H:=bI H;obtain ⟨t528,A6,H⟩:=H
  by_cases c7:t528 = true
  ·subst c7
   replace H:=pT H
   replace H:=bI H;obtain ⟨⟨t529,t532⟩,A8,H⟩:=H
   dsimp only at H
   simp only [Option.some.injEq,Prod.mk.injEq] at H
   obtain ⟨rfl,rfl⟩:=H
   go_enter Try.func28,Try.ntmps28
   go_wp2_with (first|(refine xB 3 #[.slice A0_0 l0_0.length c0_0] 26 ?_;intro gb525 hg w9 hbox hb;have BK525:=Aside0.mk (hbox);have GW525:=gZ w gb525;have GE525:=GW525;replace HB:=bS hb;clear hb hbox hg)|(refine xB 4 #[.int .i64 a1_0,.slice A1_1 l1_1.length c1_1] 31 ?_;intro gb526 hg w10 hbox hb;have BK526:=Aside0.mk (hbox);have GW526:=gZ w gb526;have GE526:=GW526;replace HB:=bS hb;have NB525_526:=nl BK525 gb525 gb526;have NB526_525:=nr NB525_526;replace BK525:=bb BK525 hb;clear hb hbox hg;have hnb11:=NB525_526.out;have hnc11:=NB526_525.out;have hcz12_0:=qc1_0 BK525;have hfz12_0:=fz BK525 0;have hcz13_0:=qc2_0 BK526;have hcz13_1:=qc2_1 BK526;have hfz13_0:=fz BK526 0;have hfz13_1:=fz BK526 1)|((with_reducible refine gate_callee (f:=16) rfl ?_);refine goesL_ (some 12) rfl rfl Try.func16 (by kernel_rfl) rfl #[.agg #[.slice A0_0 l0_0.length c0_0],.agg #[.int .i64 a1_0,.slice A1_1 l1_1.length c1_1]] rfl Ya ?_;(with_reducible refine (impl_GoodWorld.calls k _ _ l0_0 a1_0 _ _ l1_1 true _ ?side1 ?side2 ?side3 ?side4 A4.out).mono ?_);(case side1=>exact Yx);(case side2=>exact Yw);(case side3=>exact YY);(case side4=>exact YW);rintro e w14 ⟨rfl,hb⟩;refine ⟨_,rfl,?_⟩;replace BK525:=bb BK525 hb;replace BK526:=bb BK526 hb;replace HB:=bS hb;(try clear hb);(try clear hb2);(try clear hk);(try clear hi);have hcz15_0:=qc1_0 BK525;have hfz15_0:=fz BK525 0)|(go_at_call 66;(with_reducible refine (impl_Sign_isAsked.calls k _ _ l0_0 _ _ l2 true _ ?side1 ?side2 ?side3 ?side4 A6.out).mono ?_);(case side1=>exact Yx);(case side2=>exact Yw);(case side3=>exact sC HR2);(case side4=>exact HC2.out);rintro e w16 ⟨rfl,hb⟩;replace BK525:=bb BK525 hb;replace BK526:=bb BK526 hb;replace HB:=bS hb;(try clear hb);(try clear hb2);(try clear hk);(try clear hi);have hcz17_0:=qc1_0 BK525;have hfz17_0:=fz BK525 0;have hcz18_0:=qc2_0 BK526;have hcz18_1:=qc2_1 BK526;have hfz18_0:=fz BK526 0;have hfz18_1:=fz BK526 1)|((with_reducible refine gate_callee (f:=67) rfl ?_);refine goesL_ (some 24) rfl rfl Try.func67 (by kernel_rfl) rfl #[.agg #[.slice A0_0 l0_0.length c0_0],.agg #[.int .i64 a1_0,.slice A1_1 l1_1.length c1_1],.slice A2 l2.length c2] rfl Ya ?_;(with_reducible refine (impl_Sign_falseAt.calls k _ _ l0_0 a1_0 _ _ l1_1 _ _ l2 t529 t532 _ ?side1 ?side2 ?side3 ?side4 ?side5 ?side6 A8.out).mono ?_);(case side1=>exact Yx);(case side2=>exact Yw);(case side3=>exact YY);(case side4=>exact YW);(case side5=>exact sC HR2);(case side6=>exact HC2.out);rintro e w19 ⟨v530,rfl,ho0,hb⟩;refine ⟨_,rfl,?_⟩;have HO531:=Aside0.mk (Kd.R_lower ho0 (below_size bH));replace BK525:=bb BK525 hb;replace BK526:=bb BK526 hb;replace HB:=bS hb;clear hb ho0))
   go_ret2
   exact ⟨Yb,bH⟩
  ·replace c7:=Bool.eq_false_iff.mpr c7
   subst c7
   replace H:=pF H
   simp only [Option.some.injEq,Prod.mk.injEq] at H
   obtain ⟨rfl,rfl⟩:=H
   go_enter Try.func28,Try.ntmps28
   go_wp2_with (first|(refine xB 3 #[.slice A0_0 l0_0.length c0_0] 26 ?_;intro gb525 hg w20 hbox hb;have BK525:=Aside0.mk (hbox);have GW525:=gZ w gb525;have GE525:=GW525;replace HB:=bS hb;clear hb hbox hg)|(refine xB 4 #[.int .i64 a1_0,.slice A1_1 l1_1.length c1_1] 31 ?_;intro gb526 hg w21 hbox hb;have BK526:=Aside0.mk (hbox);have GW526:=gZ w gb526;have GE526:=GW526;replace HB:=bS hb;have NB525_526:=nl BK525 gb525 gb526;have NB526_525:=nr NB525_526;replace BK525:=bb BK525 hb;clear hb hbox hg;have hnb22:=NB525_526.out;have hnc22:=NB526_525.out;have hcz23_0:=qc1_0 BK525;have hfz23_0:=fz BK525 0;have hcz24_0:=qc2_0 BK526;have hcz24_1:=qc2_1 BK526;have hfz24_0:=fz BK526 0;have hfz24_1:=fz BK526 1)|((with_reducible refine gate_callee (f:=16) rfl ?_);refine goesL_ (some 12) rfl rfl Try.func16 (by kernel_rfl) rfl #[.agg #[.slice A0_0 l0_0.length c0_0],.agg #[.int .i64 a1_0,.slice A1_1 l1_1.length c1_1]] rfl Ya ?_;(with_reducible refine (impl_GoodWorld.calls k _ _ l0_0 a1_0 _ _ l1_1 true _ ?side1 ?side2 ?side3 ?side4 A4.out).mono ?_);(case side1=>exact Yx);(case side2=>exact Yw);(case side3=>exact YY);(case side4=>exact YW);rintro e w25 ⟨rfl,hb⟩;refine ⟨_,rfl,?_⟩;replace BK525:=bb BK525 hb;replace BK526:=bb BK526 hb;replace HB:=bS hb;(try clear hb);(try clear hb2);(try clear hk);(try clear hi);have hcz26_0:=qc1_0 BK525;have hfz26_0:=fz BK525 0)|(go_at_call 66;(with_reducible refine (impl_Sign_isAsked.calls k _ _ l0_0 _ _ l2 false _ ?side1 ?side2 ?side3 ?side4 A6.out).mono ?_);(case side1=>exact Yx);(case side2=>exact Yw);(case side3=>exact sC HR2);(case side4=>exact HC2.out);rintro e w27 ⟨rfl,hb⟩;replace BK525:=bb BK525 hb;replace BK526:=bb BK526 hb;replace HB:=bS hb;clear hb))
   go_ret2
   exact ⟨Yb,bH⟩
 ·replace c5:=Bool.eq_false_iff.mpr c5
  subst c5
  replace H:=pF H
  simp only [Option.some.injEq,Prod.mk.injEq] at H
  obtain ⟨rfl,rfl⟩:=H
  go_enter Try.func28,Try.ntmps28
  go_wp2_with (first|(refine xB 3 #[.slice A0_0 l0_0.length c0_0] 26 ?_;intro gb525 hg w28 hbox hb;have BK525:=Aside0.mk (hbox);have GW525:=gZ w gb525;have GE525:=GW525;replace HB:=bS hb;clear hb hbox hg)|(refine xB 4 #[.int .i64 a1_0,.slice A1_1 l1_1.length c1_1] 31 ?_;intro gb526 hg w29 hbox hb;have BK526:=Aside0.mk (hbox);have GW526:=gZ w gb526;have GE526:=GW526;replace HB:=bS hb;have NB525_526:=nl BK525 gb525 gb526;have NB526_525:=nr NB525_526;replace BK525:=bb BK525 hb;clear hb hbox hg;have hnb30:=NB525_526.out;have hnc30:=NB526_525.out;have hcz31_0:=qc1_0 BK525;have hfz31_0:=fz BK525 0;have hcz32_0:=qc2_0 BK526;have hcz32_1:=qc2_1 BK526;have hfz32_0:=fz BK526 0;have hfz32_1:=fz BK526 1)|((with_reducible refine gate_callee (f:=16) rfl ?_);refine goesL_ (some 12) rfl rfl Try.func16 (by kernel_rfl) rfl #[.agg #[.slice A0_0 l0_0.length c0_0],.agg #[.int .i64 a1_0,.slice A1_1 l1_1.length c1_1]] rfl Ya ?_;(with_reducible refine (impl_GoodWorld.calls k _ _ l0_0 a1_0 _ _ l1_1 false _ ?side1 ?side2 ?side3 ?side4 A4.out).mono ?_);(case side1=>exact Yx);(case side2=>exact Yw);(case side3=>exact YY);(case side4=>exact YW);rintro e w33 ⟨rfl,hb⟩;refine ⟨_,rfl,?_⟩;replace BK525:=bb BK525 hb;replace BK526:=bb BK526 hb;replace HB:=bS hb;clear hb))
  go_ret2
  exact ⟨Yb,bH⟩

/-! ### spec_DrawWeightOf: function 29 -/
def spec_DrawWeightOf.f (k:Nat) (l0:List Int):Option (List Int × (List (S83))):=(spec_DrawGoodClause.f k l0).bind fun bt534=>(some (bt534.1,bt534.2))
theorem spec_DrawWeightOf.mono:∀ a0 k,LeO (spec_DrawWeightOf.f k a0) (spec_DrawWeightOf.f (k + 1) a0):=by
 intro a0 k
 unfold spec_DrawWeightOf.f
 have m0:=@spec_DrawGoodClause.mono
 exact mO
set_option maxHeartbeats 8000000 in
set_option maxRecDepth 100000 in
theorem spec_DrawWeightOf.calls (k:Nat) (A0:Option Addr) (c0:Nat) (l0:List Int) (r1:List Int) (r2:List (S83)) (w:World) (hr0:Kd.C (Kd.int .u8) w A0 l0.length l0) (hc0:l0.length ≤ c0) (h:spec_DrawWeightOf.f k l0 = some (r1,r2)) :
  Calls Try.prog 29 #[.slice A0 l0.length c0] w fun e w'=>∃ v0_ v1_:Value,e = .returned (.tuple #[.agg #[v0_],v1_]) ∧ Kd.R (Kd.int .i64) 3 w' w.heap.size (fun k_=>(w.heap.size ≤ k_)) v0_ r1 ∧ Kd.N k83 83 w' w.heap.size (fun k_=>(w.heap.size ≤ k_) ∧ some k_ ≠ (v0_:Value).ownBlock) v1_ r2 ∧ Below w.heap.size w w':=by
 have hu26:=Try.underlying26
 have HR0:=Aside0.mk hr0
 have HC0:=Aside0.mk hc0
 clear hr0 hc0
 have HB:=Aside0.mk (Below.refl w.heap.size w)
 have H:((spec_DrawGoodClause.f k l0).bind fun bt534=>(some (bt534.1,bt534.2))) = some (r1,r2):=h
 clear h
 replace H:=bI H;obtain ⟨⟨t534,t537⟩,A2,H⟩:=H
 dsimp only at H
 simp only [Option.some.injEq,Prod.mk.injEq] at H
 obtain ⟨rfl,rfl⟩:=H
 go_enter Try.func29,Try.ntmps29
 go_wp2_with (first|(refine xB 2 #[.slice none 0 0] 26 ?_;intro gb533 hg w3 hbox hb;have BK533:=Aside0.mk (hbox);have GW533:=gZ w gb533;have GE533:=GW533;replace HB:=bS hb;clear hb hbox hg)|((with_reducible refine gate_callee (f:=58) rfl ?_);refine goesL_ (some 5) rfl rfl Try.func58 (by kernel_rfl) rfl #[.slice A0 l0.length c0] rfl Ya ?_;(with_reducible refine (spec_DrawGoodClause.calls k _ _ l0 t534 t537 _ ?side1 ?side2 A2.out).mono ?_);(case side1=>exact sC HR0);(case side2=>exact HC0.out);rintro e w4 ⟨v535,v538,rfl,ho0,ho1,hb⟩;refine ⟨_,rfl,?_⟩;have HO536:=Aside0.mk (Kd.R_lower (Kd.R_newM (M:=fun k_=>(w.heap.size ≤ k_)) (Kd.R_mono (ok':=fun k_=>True) ho0 (fun _ hk_=>trivial)) (below_size bH) (fun k_ h_=>h_)) (below_size bH));have HO539:=Aside0.mk (Kd.N_lower (Kd.N_mono (ok':=fun k_=>(w.heap.size ≤ k_) ∧ some k_ ≠ (v535:Value).ownBlock ∧ k_ ≠ gb533) ho1 (fun k_ hk_=>⟨(Nat.le_trans (below_size bH) hk_.1),hk_.2,(Kd.freshB (bB BK533) k_ hk_.1)⟩)) (below_size bH));replace BK533:=bb BK533 hb;replace HB:=bS hb;(try clear hb);(try clear hb2);(try clear hk);(try clear hi);(try clear ho0);(try clear ho1);obtain ⟨Ao5,co5,eo5⟩:=Kd.R_slice HO536.out;subst eo5;have hcz6_0:=qc1_0 BK533;have hfz6_0:=fz BK533 0))
 refine bodyPost_ret (results_ct rfl _ _ gb533 26 #[.slice Ao5 t534.length co5] (0,0) _ rfl (by (with_reducible repeat (first|refine blk_drewN ?_ _|refine blk_drew ?_|refine blk_alloc ?_ _));refine blk_put (cs:=#[.slice none 0 0]) ?_ 0 _ rfl;(with_reducible repeat (first|refine blk_drewN ?_ _|refine blk_drew ?_|refine blk_alloc ?_ _));exact BK533.out) Try.underlying26 rfl (by kernel_rfl)) rfl ?_
 exact ⟨_,_,Yb,by (with_reducible repeat (first|apply Kd.R_alloc|apply Kd.R_drewN|apply Kd.R_drew));exact Kd.R_mono (Kd.R_far (p:=⟨gb533,0,none⟩) (Kd.R_types HO536.out BK533.out (by decide)) (fun _ hk=>hk.2) (.slice Ao5 t534.length co5)) (fun _ hk=>hk.1.1),by (with_reducible repeat (first|apply Kd.N_alloc|apply Kd.N_drewN|apply Kd.N_drew));exact Kd.N_mono (Kd.N_far (p:=⟨gb533,0,none⟩) (Kd.N_mono HO539.out (fun k_ hk=>(⟨hk,hk.2.2⟩:_ ∧ k_ ≠ gb533))) (fun _ hk=>hk.2) (.slice Ao5 t534.length co5)) (fun _ hk=>⟨hk.1.1,hk.1.2.1⟩),bH⟩

/-! ### impl_weight: function 68, by a walk of this session's own -/
def cellV (w:World) (b off j:Nat):Value:=(w.cell? ⟨b,off + j,none⟩).getD undef
/-- The terms' rows, as the clause's own cells have them. -/
def tv (w:World) (b off:Nat):Nat → List Value
 | 0=>[]
 | k + 1=>tv w b off k ++ [cellV w b off (k * 3 + 1),cellV w b off (k * 3 + 2)]
theorem tv_length (w:World) (b off k:Nat):(tv w b off k).length = 2 * k:=by
 induction k with
 | zero=>rfl
 | succ k ih=>simp only [tv,List.length_append,List.length_cons,List.length_nil,ih];omega
theorem Try.terms_info:(Try.prog.info? 24).map (fun i=>(i.zero,i.size,i.bytes)) = some (some (.slice none 0 0),1,24):=by kernel_rfl
set_option maxHeartbeats 8000000 in
set_option maxRecDepth 1000000 in
theorem Try.terms_walk (A0:Option Addr) (c0 b off n:Nat) (w:World) (hA:0 < n → A0 = some ⟨b,off,none⟩) (hn:n ≤ 1000000)
  (hc:∀ j,j < n → ∃ (x:Bool) (A1:Option Addr) (n1 c1:Nat) (A2:Option Addr) (n2 c2:Nat),w.cell? ⟨b,off + j * 3,none⟩ = some (.bool x) ∧ w.cell? ⟨b,off + j * 3 + 1,none⟩ = some (.slice A1 n1 c1) ∧ w.cell? ⟨b,off + j * 3 + 2,none⟩ = some (.slice A2 n2 c2)) :
  Calls Try.prog 71 #[.slice A0 n c0] w fun e w'=>∃ v:Value,e = .returned v ∧ w'.ownsRow w.heap.size 24 1 v (2 * n) (tv w b off n) ∧ Below w.heap.size w w':=by
 obtain ⟨i0,hi,hz0,hz1,hz2⟩:=info_parts Try.terms_info
 go_enter Try.func71,Try.ntmps71
 go_wp2
 go_loopw [3,8] (fun v i wr=>∃ k:Nat,k ≤ n ∧ i = .int .i64 k ∧ Hid (wr.ownsRow w.heap.size 24 1 v (2 * k) (tv w b off k)) ∧ Hid (Below w.heap.size w wr)) (fun _ i _=>n - (intOf i).toNat)
 case atStart=>exact ⟨0,Nat.zero_le _,rfl,World.ownsRow_nil _ _ _ _,Below.refl _ _⟩
 case round =>
  obtain ⟨k,hk,rfl,hown,hbw⟩:=hrel
  by_cases hp:k < n
  ·obtain rfl:=hA (by omega)
   obtain ⟨x,A1,n1,p1,A2,n2,p2,g0,g1,g2⟩:=hc k hp
   have hbb:b < w.heap.size:=World.block_lt_of_cell? w _ g0
   have e1:cellV w b off (k * 3 + 1) = .slice A1 n1 p1:=by unfold cellV;rw [← Nat.add_assoc,g1];rfl
   have e2:cellV w b off (k * 3 + 2) = .slice A2 n2 p2:=by unfold cellV;rw [← Nat.add_assoc,g2];rfl
   have r0:wr.cell? ⟨b,off + k * 3,none⟩ = some (.bool x):=(Below.cell hbw hbb).trans g0
   have r1:wr.cell? ⟨b,off + k * 3 + 1,none⟩ = some (.slice A1 n1 p1):=(Below.cell hbw hbb).trans g1
   have r2:wr.cell? ⟨b,off + k * 3 + 2,none⟩ = some (.slice A2 n2 p2):=(Below.cell hbw hbb).trans g2
   go_wp2_with (first
    | (at_builtin;refine wpList_append_own _ rfl (.tmp 12) (.tmp 17) 27 rfl w.heap.size 24 i0 (.slice none 0 0) 1 24 Try.underlying27 hi hz0 hz1 hz2 rfl (by decide) _ _ _ rfl (World.ownsRow.alloc (World.ownsRow.alloc hown _) _) ⟨wr.heap.size + 1,0,none⟩ 2 2 [.slice A1 n1 p1,.slice A2 n2 p2] rfl rfl ?c1 ?c2 ?c3 ?c4 ?c5 ?_)
    | go_in)
   case c2=>exact ⟨rfl,rfl⟩
   case c3=>unfold maxLen;omega
   case c4=>omega
   case c5=>have:=Below.size hbw;omega
   ·intro v1 w1 hown1 hgrow1 _
    have hown2:Hid (w1.ownsRow w.heap.size 24 1 v1 (2 * (k + 1)) (tv w b off (k + 1))):=by
     rw [tv,e1,e2,show 2 * (k + 1) = 2 * k + 2 by omega]
     exact hown1
    have hbw2:Hid (Below w.heap.size w w1):=by
     exact Below.grown (Below.alloc (Below.alloc hbw (Below.size hbw) _) (by have:=Below.size hbw;simp;omega) _) hgrow1 (by have:=Below.size hbw;simp;omega) (fun k_ hk_=>(World.ownsRow.lt hown k_ hk_).1)
    clear hown1 hown
    go_wp2
    go_roundw
    case rel=>exact ⟨k + 1,by omega,rfl,hown2,hbw2⟩
    case measure=>simp [intOf];omega
  ·obtain rfl:k = n:=by omega
   go_wp2
   go_ret
   exact ⟨_,rfl,hown,hbw⟩
theorem tv_get (w:World) (b off:Nat) (n:Nat):∀ k,k < 2 * n → (tv w b off n).getD k undef = if k % 2 = 0 then cellV w b off (k / 2 * 3 + 1) else cellV w b off (k / 2 * 3 + 2):=by
 induction n with
 | zero=>intro k hk;omega
 | succ n ih =>
  intro k hk
  rw [tv,List.getD_eq_getElem?_getD]
  by_cases g:k < 2 * n
  ·rw [List.getElem?_append_left (by rw [tv_length];exact g),← List.getD_eq_getElem?_getD]
   exact ih k g
  ·rw [List.getElem?_append_right (by rw [tv_length];omega),tv_length]
   by_cases g2:k = 2 * n
   ·subst g2
    rw [if_pos (by omega),Nat.sub_self,show 2 * n / 2 = n by omega];rfl
   ·obtain rfl:k = 2 * n + 1:=by omega
    rw [if_neg (by omega),show 2 * n + 1 - 2 * n = 1 by omega,show (2 * n + 1) / 2 = n by omega];rfl
def tlen (l:List S83) (j:Nat):Nat:=if j % 2 = 0 then (rd_T83 l ((j / 2:Nat):Int)).f1.length else (rd_T83 l ((j / 2:Nat):Int)).f2.length
def tsum (l:List S83):Nat → Nat
 | 0=>0
 | k + 1=>tsum l k + tlen l k
theorem tsum_le (l:List S83) (d:Nat):∀ k,tsum l k ≤ tsum l (k + d):=by
 induction d with
 | zero=>intro k;exact Nat.le_refl _
 | succ d ih=>intro k;have:=ih k;rw [← Nat.add_assoc,tsum];omega
theorem own_slice {w:World} {B n:Nat} {v:Value} {xs:List Value} (h:w.ownsRow B 24 1 v n xs):∃ (g:Nat) (ao:Option Addr) (cv:Nat),v = .slice ao n cv ∧ (0 < n → ao = some ⟨g,0,none⟩) ∧ ∀ k,k < n → w.cell? ⟨g,k,none⟩ = some (xs.getD k undef):=by
 have hl:=h.1
 rw [Nat.mul_one] at hl
 rcases h.2 with ⟨h',h0⟩|⟨g,cap,cur,h',_⟩
 ·exact ⟨0,none,0,by rw [h',h0],fun h=>by omega,fun k hk=>by omega⟩
 ·refine ⟨g,some ⟨g,0,none⟩,cap,h',fun _=>rfl,fun k hk=>?_⟩
  have:=h.cells (g:=g) (by rw [h'];rfl) k (xs.getD k undef) (by rw [List.getD_eq_getElem?_getD,List.getElem?_eq_getElem (by omega)];rfl)
  rw [show (⟨g,0,none⟩:Addr).add k = ⟨g,k,none⟩ from by unfold Addr.add;split <;> simp_all] at this
  exact this
set_option maxHeartbeats 8000000 in
set_option maxRecDepth 1000000 in
theorem Try.weight_walk (A0:Option Addr) (c0 b off:Nat) (l:List S83) (w:World) (hA:0 < l.length → A0 = some ⟨b,off,none⟩) (hn:l.length ≤ 1000000) (hsum:tsum l (2 * l.length) ≤ 4611686018427387904)
  (hc:∀ j,j < l.length → ∃ (x:Bool) (A1:Option Addr) (c1:Nat) (A2:Option Addr) (c2:Nat),w.cell? ⟨b,off + j * 3,none⟩ = some (.bool x) ∧ w.cell? ⟨b,off + j * 3 + 1,none⟩ = some (.slice A1 (rd_T83 l (j:Int)).f1.length c1) ∧ w.cell? ⟨b,off + j * 3 + 2,none⟩ = some (.slice A2 (rd_T83 l (j:Int)).f2.length c2)) :
  Calls Try.prog 68 #[.slice A0 l.length c0] w fun e w'=>e = .returned (.int .i64 (tsum l (2 * l.length))) ∧ Below w.heap.size w w':=by
 have hval:∀ k,k < 2 * l.length → ∃ (A':Option Addr) (p':Nat),(tv w b off l.length).getD k undef = .slice A' (tlen l k) p':=by
  intro k hk
  obtain ⟨x,A1,p1,A2,p2,g0,g1,g2⟩:=hc (k / 2) (by omega)
  rw [tv_get w b off l.length k hk]
  unfold tlen cellV
  by_cases g:k % 2 = 0
  ·rw [if_pos g,if_pos g,← Nat.add_assoc,g1];exact ⟨A1,p1,rfl⟩
  ·rw [if_neg g,if_neg g,← Nat.add_assoc,g2];exact ⟨A2,p2,rfl⟩
 have hT:=Try.terms_walk A0 c0 b off l.length w hA hn (fun j hj=>by
  obtain ⟨x,A1,p1,A2,p2,g⟩:=hc j hj
  exact ⟨x,A1,_,p1,A2,_,p2,g⟩)
 have hmono:∀ k,k ≤ 2 * l.length → tsum l k ≤ tsum l (2 * l.length):=fun k hk=>by
  have h:=tsum_le l (2 * l.length - k) k
  rw [show k + (2 * l.length - k) = 2 * l.length by omega] at h
  exact h
 clear hc hA
 go_enter Try.func68,Try.ntmps68
 go_wp2_with (go_at_call 71;refine hT.mono ?_)
 rintro e W1 ⟨v,rfl,hown,hb⟩
 obtain ⟨g,ao,cv,rfl,hao,hcell⟩:=own_slice hown
 clear hown hT
 go_wp2
 go_loopw [3,9] (fun vs vi wr=>∃ k:Nat,k ≤ 2 * l.length ∧ vs = .int .i64 (tsum l k) ∧ vi = .int .i64 k ∧ Hid (wr = W1)) (fun _ vi _=>2 * l.length - (intOf vi).toNat)
 case atStart=>exact ⟨0,Nat.zero_le _,rfl,rfl,rfl⟩
 case round =>
  obtain ⟨k,hk,rfl,rfl,hw⟩:=hrel
  unfold Hid at hw
  subst hw
  by_cases hp:k < 2 * l.length
  ·obtain rfl:=hao (by omega)
   obtain ⟨A',p',hv⟩:=hval k hp
   have hck:=hcell k hp
   rw [hv] at hck
   have hm1:=hmono (k + 1) (by omega)
   have hm2:tsum l (k + 1) = tsum l k + tlen l k:=rfl
   clear hcell hval hmono
   go_wp2
   go_roundw
   case rel=>exact ⟨k + 1,by omega,by rw [hm2];simp,rfl,trivial⟩
   case measure=>simp [intOf];omega
  ·obtain rfl:k = 2 * l.length:=by omega
   go_wp2
   go_ret
   exact ⟨rfl,hb⟩
def impl_weight.f (l0:List (S83)):Option (Int):=if l0.length ≤ 1000000 ∧ tsum l0 (2 * l0.length) ≤ 4611686018427387904 then some (tsum l0 (2 * l0.length):Int) else none
theorem impl_weight.calls (A0:Option Addr) (c0:Nat) (l0:List (S83)) (r:Int) (w:World) (hr0:Kd.C k83 w A0 l0.length l0) (hc0:l0.length ≤ c0) (h:impl_weight.f l0 = some r) :
  Calls Try.prog 68 #[.slice A0 l0.length c0] w fun e w'=>e = .returned (.int .i64 r) ∧ Below w.heap.size w w':=by
 unfold impl_weight.f at h
 split at h
 ·rename_i g
  obtain rfl:=Option.some.inj h
  obtain ⟨b,off,hA,hc⟩:∃ b off:Nat,(0 < l0.length → A0 = some ⟨b,off,none⟩) ∧ ∀ j,j < l0.length → ∃ (x:Bool) (A1:Option Addr) (c1:Nat) (A2:Option Addr) (c2:Nat),w.cell? ⟨b,off + j * 3,none⟩ = some (.bool x) ∧ w.cell? ⟨b,off + j * 3 + 1,none⟩ = some (.slice A1 (rd_T83 l0 (j:Int)).f1.length c1) ∧ w.cell? ⟨b,off + j * 3 + 2,none⟩ = some (.slice A2 (rd_T83 l0 (j:Int)).f2.length c2):=by
   rcases Nat.eq_zero_or_pos l0.length with h0|h0
   ·exact ⟨0,0,fun h=>by omega,fun j hj=>by omega⟩
   ·obtain ⟨⟨b,off,sp⟩,_,_,_,_,e,k0,_⟩:=at_T83 hr0 0 (by omega) (by omega)
    have hsp:sp = none:=by
     cases sp with
     | none=>rfl
     | some x=>simp [Addr.add,World.cell?] at k0;split at k0 <;> simp at k0
    subst hsp
    refine ⟨b,off,fun _=>e,fun j hj=>?_⟩
    obtain ⟨ad,A1,c1,A2,c2,e',k0,k1,k2,_⟩:=at_T83 hr0 (j:Int) (by omega) (by omega)
    rw [e] at e'
    obtain rfl:=Option.some.inj e'
    rw [Int.toNat_natCast,Addr.add_lit b off (j * 3)] at k0 k1 k2
    exact ⟨_,A1,c1,A2,c2,k0,k1,k2⟩
  exact Try.weight_walk A0 c0 b off l0 w hA g.1 g.2 hc
 ·simp at h

/-! ### impl_WeightOf: function 30 -/
def impl_WeightOf.f (k:Nat) (l0_0:List Int) (l1:List (S83)):Option (Int × Bool):=(impl_GoodClause.f k l0_0 l1).bind fun t541=>(if t541 = true then ((impl_weight.f l1).bind fun t542=>(some (t542,true))) else (some (0,false)))
theorem impl_WeightOf.mono:∀ a0 a1 k,LeO (impl_WeightOf.f k a0 a1) (impl_WeightOf.f (k + 1) a0 a1):=by
 intro a0 a1 k
 unfold impl_WeightOf.f
 have m0:=@impl_GoodClause.mono
 exact mO
set_option maxHeartbeats 8000000 in
set_option maxRecDepth 100000 in
theorem impl_WeightOf.calls (k:Nat) (A0_0:Option Addr) (c0_0:Nat) (l0_0:List Int) (A1:Option Addr) (c1:Nat) (l1:List (S83)) (r1:Int) (r2:Bool) (w:World) (hr0_0:Kd.C (Kd.int .i64) w A0_0 l0_0.length l0_0) (hc0_0:l0_0.length ≤ c0_0) (hr1:Kd.C k83 w A1 l1.length l1) (hc1:l1.length ≤ c1) (h:impl_WeightOf.f k l0_0 l1 = some (r1,r2)) :
  Calls Try.prog 30 #[.agg #[.slice A0_0 l0_0.length c0_0],.slice A1 l1.length c1] w fun e w'=>e = .returned (.tuple #[.int .i64 r1,.bool r2]) ∧ Below w.heap.size w w':=by
 have hu26:=Try.underlying26
 have HR0_0:=Aside0.mk hr0_0
 have HC0_0:=Aside0.mk hc0_0
 clear hr0_0 hc0_0
 have HR1:=Aside0.mk hr1
 have HC1:=Aside0.mk hc1
 clear hr1 hc1
 have HB:=Aside0.mk (Below.refl w.heap.size w)
 have H:((impl_GoodClause.f k l0_0 l1).bind fun t541=>(if t541 = true then ((impl_weight.f l1).bind fun t542=>(some (t542,true))) else (some (0,false)))) = some (r1,r2):=h
 clear h
 replace H:=bI H;obtain ⟨t541,A3,H⟩:=H
 by_cases c4:t541 = true
 ·subst c4
  replace H:=pT H
  replace H:=bI H;obtain ⟨t542,A5,H⟩:=H
  simp only [Option.some.injEq,Prod.mk.injEq] at H
  obtain ⟨rfl,rfl⟩:=H
  go_enter Try.func30,Try.ntmps30
  go_wp2_with (first|(refine xB 2 #[.slice A0_0 l0_0.length c0_0] 26 ?_;intro gb540 hg w6 hbox hb;have BK540:=Aside0.mk (hbox);have GW540:=gZ w gb540;have GE540:=GW540;replace HB:=bS hb;clear hb hbox hg;have hcz7_0:=qc1_0 BK540;have hfz7_0:=fz BK540 0)|((with_reducible refine gate_callee (f:=26) rfl ?_);refine goesL_ (some 8) rfl rfl Try.func26 (by kernel_rfl) rfl #[.agg #[.slice A0_0 l0_0.length c0_0],.slice A1 l1.length c1] rfl Ya ?_;(with_reducible refine (impl_GoodClause.calls k _ _ l0_0 _ _ l1 true _ ?side1 ?side2 ?side3 ?side4 A3.out).mono ?_);(case side1=>exact Yx);(case side2=>exact Yw);(case side3=>exact sC HR1);(case side4=>exact HC1.out);rintro e w8 ⟨rfl,hb⟩;refine ⟨_,rfl,?_⟩;replace BK540:=bb BK540 hb;replace HB:=bS hb;clear hb)|((with_reducible refine gate_callee (f:=68) rfl ?_);refine goesL_ (some 11) rfl rfl Try.func68 (by kernel_rfl) rfl #[.slice A1 l1.length c1] rfl Ya ?_;(with_reducible refine (impl_weight.calls _ _ l1 t542 _ ?side1 ?side2 A5.out).mono ?_);(case side1=>exact sC HR1);(case side2=>exact HC1.out);rintro e w9 ⟨rfl,hb⟩;refine ⟨_,rfl,?_⟩;replace BK540:=bb BK540 hb;replace HB:=bS hb;clear hb))
  go_ret2
  exact ⟨Yb,bH⟩
 ·replace c4:=Bool.eq_false_iff.mpr c4
  subst c4
  replace H:=pF H
  simp only [Option.some.injEq,Prod.mk.injEq] at H
  obtain ⟨rfl,rfl⟩:=H
  go_enter Try.func30,Try.ntmps30
  go_wp2_with (first|(refine xB 2 #[.slice A0_0 l0_0.length c0_0] 26 ?_;intro gb540 hg w10 hbox hb;have BK540:=Aside0.mk (hbox);have GW540:=gZ w gb540;have GE540:=GW540;replace HB:=bS hb;clear hb hbox hg;have hcz11_0:=qc1_0 BK540;have hfz11_0:=fz BK540 0)|((with_reducible refine gate_callee (f:=26) rfl ?_);refine goesL_ (some 8) rfl rfl Try.func26 (by kernel_rfl) rfl #[.agg #[.slice A0_0 l0_0.length c0_0],.slice A1 l1.length c1] rfl Ya ?_;(with_reducible refine (impl_GoodClause.calls k _ _ l0_0 _ _ l1 false _ ?side1 ?side2 ?side3 ?side4 A3.out).mono ?_);(case side1=>exact Yx);(case side2=>exact Yw);(case side3=>exact sC HR1);(case side4=>exact HC1.out);rintro e w12 ⟨rfl,hb⟩;refine ⟨_,rfl,?_⟩;replace BK540:=bb BK540 hb;replace HB:=bS hb;clear hb))
  go_ret2
  exact ⟨Yb,bH⟩

end Go.Proofs.Ytmgkflkfoccgkaa.QFnTidied
