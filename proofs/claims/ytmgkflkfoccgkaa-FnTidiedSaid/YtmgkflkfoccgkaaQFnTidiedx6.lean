-- Written by this session's own program (wip/x/xprint.py, over the kit's printer); Lean checks it.
import Derived.Test.YtmgkflkfoccgkaaQFnTidiedx0
import Derived.Test.YtmgkflkfoccgkaaQFnTidiedx5
namespace Go.Proofs.Ytmgkflkfoccgkaa.QFnTidied
open Go.RowKit Go.Proofs.YtmgkflkfoccgkaaW.PrintWords Go.Proofs.YtmgkflkfoccgkaaW.PrintLast Go.Proofs.YtmgkflkfoccgkaaW.PrintMore
attribute [local go_sem] max2_int min2_int max_two min_two max_three min_three max_four min_four   -- for this text's walks alone
set_option linter.unusedVariables false
set_option linter.unusedSimpArgs false

/-! ### spec_l1Cur_term: function 74 -/
mutual
def spec_l1Cur_term.j0:Nat → Int → Int → Bool → List Int → Int → Int → List Int → Option (List Int × Int × Int)
 | 0,_,_,_,_,_,_,_=>none
 | k + 1,x2,x3,x22,x1000,x1001,x1002,x204000=>if x22 = true then ((spec_l1Cur_pick.f x1000 x1001 x1002 x3).bind fun bt210=>(some ((([wrap64 ((-1) - bt210.1)]:List Int)),bt210.2.1,bt210.2.2))) else ((spec_l1Cur_pick.f x1000 x1001 x1002 (x204000.length:Int)).bind fun bt216=>(if 0 ≤ bt216.1 then (if bt216.1 < (x204000.length:Int) then (if (rd x204000 bt216.1) > 0 then (spec_l1Cur_term.j1 k x2 x3 bt216.1 (decide (x2 ≤ 1)) x1000 bt216.2.1 bt216.2.2 x204000) else (spec_l1Cur_term.j1 k x2 x3 bt216.1 false x1000 bt216.2.1 bt216.2.2 x204000)) else (none)) else (none)))
def spec_l1Cur_term.j1:Nat → Int → Int → Int → Bool → List Int → Int → Int → List Int → Option (List Int × Int × Int)
 | 0,_,_,_,_,_,_,_,_=>none
 | k + 1,x2,x3,x9,x42,x1000,x1001,x1002,x204000=>if x42 = true then ((spec_l1Cur_pick.f x1000 x1001 x1002 (x204000.length:Int)).bind fun bt220=>(spec_l1Cur_term.j2 k x2 x3 (wrap64 (Int.tdiv bt220.1 2)) x1000 bt220.2.1 bt220.2.2 x204000)) else (spec_l1Cur_term.j2 k x2 x3 x9 x1000 x1001 x1002 x204000)
def spec_l1Cur_term.j2:Nat → Int → Int → Int → List Int → Int → Int → List Int → Option (List Int × Int × Int)
 | 0,_,_,_,_,_,_,_=>none
 | k + 1,x2,x3,x9,x1000,x1001,x1002,x204000=>if 0 ≤ x9 then (if x9 < (x204000.length:Int) then (if (rd x204000 x9) > 0 then (spec_l1Cur_term.j3 k x2 x3 x9 (decide (x2 ≤ 1)) x1000 x1001 x1002 x204000) else (spec_l1Cur_term.j3 k x2 x3 x9 false x1000 x1001 x1002 x204000)) else (none)) else (none)
def spec_l1Cur_term.j3:Nat → Int → Int → Int → Bool → List Int → Int → Int → List Int → Option (List Int × Int × Int)
 | 0,_,_,_,_,_,_,_,_=>none
 | k + 1,x2,x3,x9,x58,x1000,x1001,x1002,x204000=>if x58 = true then (some ((([0]:List Int)),x1001,x1002)) else (if 0 ≤ x9 then (if x9 < (x204000.length:Int) then (spec_l1Cur_term.l0 k x2 x3 (([x9]:List Int)) (rd x204000 x9) x1000 x1001 x1002 x204000) else (none)) else (none))
def spec_l1Cur_term.l0:Nat → Int → Int → List Int → Int → List Int → Int → Int → List Int → Option (List Int × Int × Int)
 | 0,_,_,_,_,_,_,_,_=>none
 | k + 1,x2,x3,x10,x11,x1000,x1001,x1002,x204000=>if x11 > 0 then ((spec_l1Cur_term.f k x1000 x1001 x1002 x204000 (wrap64 (x2 - 1)) x3).bind fun bt231=>(if x10.length + bt231.1.length < 17592186044416 then (spec_l1Cur_term.l0 k x2 x3 (x10 ++ bt231.1) (wrap64 (x11 - 1)) x1000 bt231.2.1 bt231.2.2 x204000) else (none))) else (some (x10,x1001,x1002))
def spec_l1Cur_term.f:Nat → List Int → Int → Int → List Int → Int → Int → Option (List Int × Int × Int)
 | 0,_,_,_,_,_,_=>none
 | k + 1,s0_0,s0_1,s0_2,l1_0,a2,a3=>if (l1_0.length:Int) = 0 then (some ((([0]:List Int)),s0_1,s0_2)) else (if a3 > 0 then ((spec_l1Cur_one.f s0_0 s0_1 s0_2 3).bind fun bt207=>(spec_l1Cur_term.j0 k a2 a3 bt207.1 s0_0 bt207.2.1 bt207.2.2 l1_0)) else (spec_l1Cur_term.j0 k a2 a3 false s0_0 s0_1 s0_2 l1_0))
end
theorem spec_l1Cur_term.mono_l:∀ k,(∀ y0 y1 y2 y3 y4 y5,LeO (spec_l1Cur_term.f k y0 y1 y2 y3 y4 y5) (spec_l1Cur_term.f (k + 1) y0 y1 y2 y3 y4 y5)) ∧ (∀ y0 y1 y2 y3 y4 y5 y6,LeO (spec_l1Cur_term.j0 k y0 y1 y2 y3 y4 y5 y6) (spec_l1Cur_term.j0 (k + 1) y0 y1 y2 y3 y4 y5 y6)) ∧ (∀ y0 y1 y2 y3 y4 y5 y6 y7,LeO (spec_l1Cur_term.j1 k y0 y1 y2 y3 y4 y5 y6 y7) (spec_l1Cur_term.j1 (k + 1) y0 y1 y2 y3 y4 y5 y6 y7)) ∧ (∀ y0 y1 y2 y3 y4 y5 y6,LeO (spec_l1Cur_term.j2 k y0 y1 y2 y3 y4 y5 y6) (spec_l1Cur_term.j2 (k + 1) y0 y1 y2 y3 y4 y5 y6)) ∧ (∀ y0 y1 y2 y3 y4 y5 y6 y7,LeO (spec_l1Cur_term.j3 k y0 y1 y2 y3 y4 y5 y6 y7) (spec_l1Cur_term.j3 (k + 1) y0 y1 y2 y3 y4 y5 y6 y7)) ∧ (∀ y0 y1 y2 y3 y4 y5 y6 y7,LeO (spec_l1Cur_term.l0 k y0 y1 y2 y3 y4 y5 y6 y7) (spec_l1Cur_term.l0 (k + 1) y0 y1 y2 y3 y4 y5 y6 y7))
 | 0=>⟨fun _ _ _ _ _ _ r h=>by simp [spec_l1Cur_term.f] at h,fun _ _ _ _ _ _ _ r h=>by simp [spec_l1Cur_term.j0] at h,fun _ _ _ _ _ _ _ _ r h=>by simp [spec_l1Cur_term.j1] at h,fun _ _ _ _ _ _ _ r h=>by simp [spec_l1Cur_term.j2] at h,fun _ _ _ _ _ _ _ _ r h=>by simp [spec_l1Cur_term.j3] at h,fun _ _ _ _ _ _ _ _ r h=>by simp [spec_l1Cur_term.l0] at h⟩
 | k + 1=>by
  obtain ⟨ih0,ih1,ih2,ih3,ih4,ih5⟩:=spec_l1Cur_term.mono_l k
  refine ⟨?_,?_,?_,?_,?_,?_⟩
  ·intro y0 y1 y2 y3 y4 y5
   unfold spec_l1Cur_term.f
   have m0:=@ih4
   have m1:=@ih5
   exact mO
  ·intro y0 y1 y2 y3 y4 y5 y6
   unfold spec_l1Cur_term.j0
   have m0:=@ih4
   have m1:=@ih5
   exact mO
  ·intro y0 y1 y2 y3 y4 y5 y6 y7
   unfold spec_l1Cur_term.j1
   have m0:=@ih4
   have m1:=@ih5
   exact mO
  ·intro y0 y1 y2 y3 y4 y5 y6
   unfold spec_l1Cur_term.j2
   have m0:=@ih4
   have m1:=@ih5
   exact mO
  ·intro y0 y1 y2 y3 y4 y5 y6 y7
   unfold spec_l1Cur_term.j3
   have m0:=@ih4
   have m1:=@ih5
   exact mO
  ·intro y0 y1 y2 y3 y4 y5 y6 y7
   unfold spec_l1Cur_term.l0
   have m0:=@ih4
   have m1:=@ih5
   exact mO
theorem spec_l1Cur_term.mono:∀ a0 a1 a2 a3 a4 a5 k,LeO (spec_l1Cur_term.f k a0 a1 a2 a3 a4 a5) (spec_l1Cur_term.f (k + 1) a0 a1 a2 a3 a4 a5):=by
 intro a0 a1 a2 a3 a4 a5 k
 obtain ⟨ih0,ih1,ih2,ih3,ih4,ih5⟩:=spec_l1Cur_term.mono_l k
 exact ih0 a0 a1 a2 a3 a4 a5
set_option maxHeartbeats 8000000 in
set_option maxRecDepth 100000 in
theorem spec_l1Cur_term.calls (k:Nat):∀ (g:Nat) (s0_0:List Int) (s0_1:Int) (s0_2:Int) (A1_0:Option Addr) (c1_0:Nat) (l1_0:List Int) (a2:Int) (a3:Int) (r1:List Int) (r2:Int) (r3:Int) (w0 w:World) (hI:IsS60 w0 w g s0_0 s0_1 s0_2) (hB:Below w0.heap.size w0 w) (hr1_0:Kd.C (Kd.int .i64) w A1_0 l1_0.length l1_0) (hc1_0:l1_0.length ≤ c1_0) (hf1_0:∀ ad,A1_0 = some ad → 0 < l1_0.length → ad.block ≠ g) (h:spec_l1Cur_term.f k s0_0 s0_1 s0_2 l1_0 a2 a3 = some (r1,r2,r3)),
  Calls Try.prog 74 #[.pointer (some ⟨g,0,none⟩),.agg #[.slice A1_0 l1_0.length c1_0],.int .i64 a2,.int .i64 a3] w fun e w'=>∃ v0_:Value,e = .returned (v0_) ∧ Kd.R (Kd.int .i64) 3 w' w.heap.size (fun _=>True) v0_ r1 ∧ IsS60 w0 w' g s0_0 r2 r3 ∧ Below w0.heap.size w0 w' ∧ KeepBut w w' g none:=by
 induction k using Nat.strongRecOn with
 | _ k ih =>
 intro g s0_0 s0_1 s0_2 A1_0 c1_0 l1_0 a2 a3 r1 r2 r3 w0 w hI hB hr1_0 hc1_0 hf1_0 h
 cases k with
 | zero=>exact absurd h (by simp [spec_l1Cur_term.f])
 | succ k =>
 simp only [spec_l1Cur_term.f] at h
 have hu26:=Try.underlying26
 have HR1_0:=Aside0.mk hr1_0
 have HC1_0:=Aside0.mk hc1_0
 clear hr1_0 hc1_0
 have HI0:=Aside0.mk hI
 have HK:=Aside0.mk (KeepBut.refl w g none)
 have HL:=Aside0.mk hB.size
 clear hI
 have HW0:=Aside0.mk hB.size
 have HB:=Aside0.mk hB
 clear hB
 have H:(if (l1_0.length:Int) = 0 then (some ((([0]:List Int)),s0_1,s0_2)) else (if a3 > 0 then ((spec_l1Cur_one.f s0_0 s0_1 s0_2 3).bind fun bt207=>(spec_l1Cur_term.j0 k a2 a3 bt207.1 s0_0 bt207.2.1 bt207.2.2 l1_0)) else (spec_l1Cur_term.j0 k a2 a3 false s0_0 s0_1 s0_2 l1_0))) = some (r1,r2,r3):=h
 clear h
 by_cases c5:(l1_0.length:Int) = 0
 ·rw [if_pos c5] at H
  have c5b0:((l1_0.length:Int) == 0) = true:=beq_iff_eq.mpr c5
  have c5b1:((l1_0.length:Int) != 0) = false:=bne_eq_false_iff_eq.mpr c5
  clear c5
  obtain ⟨y204,hy204⟩:∃ y_:List Int,y_ = (([0]:List Int)):=⟨_,rfl⟩
  replace H:(some (y204,s0_1,s0_2)) = some (r1,r2,r3):=by first|(rw [hy204];with_reducible exact H)|(have H2_:=(Option.bind_some _ _).symm.trans H;rw [hy204];with_reducible exact H2_)|(have H2_:=(Option.bind_some _ _).symm.trans H;with_reducible exact H2_)|with_reducible exact H|(rw [hy204];exact H)|exact H
  have Ny204:=Aside0.mk hy204
  clear hy204
  simp only [Option.some.injEq,Prod.mk.injEq] at H
  obtain ⟨rfl,rfl,rfl⟩:=H
  go_enter Try.func74,Try.ntmps74
  go_wp2_with (first|(refine xB 5 #[.slice A1_0 l1_0.length c1_0] 26 ?_;intro gb203 hg w6 hbox hb;replace HB:=bS hb;have BK203:=Aside0.mk (hbox);have GW203:=gY w gb203;have GE203:=gX HW0 GW203;replace HK:=kT w g hb;have NB0_203:=iN60 g gb203;have NB203_0:=nr NB0_203;replace HI0:=iB60 hb;clear hb hbox hg;have hnb7:=NB203_0.out;have hnc7:=NB0_203.out;have hcz8_0:=qc1_0 BK203;have hfz8_0:=fz BK203 0)|((with_reducible refine gate_dst (N:=16) rfl ?_);refine Kd.R_lit (Kd.int .i64) _ 3 ?hg (N:=16) ?hd (xs:=([0]:List Int)) (inner:=[.int .i64 0]) (ok:=fun _=>True) (okp:=fun _=>True) ?hr ?hp (fun _ hk=>hk) trivial (Below.refl _ _) (Nat.le_refl _) (by simp) ?_;(case hd=>rfl);(case hg=>rfl);(case hr=>exact Yc);(case hp=>exact YS);intro v205 w9 ho10 hb hg_ hnew_;clear hg_ hnew_;(first|rw [← Ny204.out] at ho10|(simp only [Int.reduceToNat] at ho10;rw [← Ny204.out] at ho10));have HO206:=Aside0.mk (Kd.R_lower ho10 (keep_size (w:=w) (g:=g) (row:=none) kB));replace BK203:=bb BK203 hb;replace HK:=kT w g hb;replace HB:=bS hb;replace HI0:=iB60 hb;clear hb ho10))
  go_ret
  exact ⟨_,Yb,rR HO206,iIsS60,bH,kB⟩
 ·rw [if_neg c5] at H
  have c5b0:((l1_0.length:Int) == 0) = false:=beq_eq_false_iff_ne.mpr c5
  have c5b1:((l1_0.length:Int) != 0) = true:=bne_iff_ne.mpr c5
  have c5b2:¬ (l1_0 = []):=fun h_=>c5 (by rw [h_];rfl)
  have HC11:=Aside0.mk H
  clear H
  go_enter Try.func74,Try.ntmps74
  go_upto_region 3 with (first|(refine xB 5 #[.slice A1_0 l1_0.length c1_0] 26 ?_;intro gb203 hg w12 hbox hb;replace HB:=bS hb;have BK203:=Aside0.mk (hbox);have GW203:=gY w gb203;have GE203:=gX HW0 GW203;replace HK:=kT w g hb;have NB0_203:=iN60 g gb203;have NB203_0:=nr NB0_203;replace HI0:=iB60 hb;clear hb hbox hg;have hnb13:=NB203_0.out;have hnc13:=NB0_203.out;have hcz14_0:=qc1_0 BK203;have hfz14_0:=fz BK203 0))
  (try simp only [Act.put,List.setIfInBounds_toArray,List.set_cons_zero,List.set_cons_succ])
  go_cut [22] (fun v22 wc=>∃ (kq:Nat) (x22_10:Bool) (x1001_10:Int) (x1002_10:Int),v22 = .bool x22_10 ∧ Aside0 (spec_l1Cur_term.j0 kq a2 a3 x22_10 s0_0 x1001_10 x1002_10 l1_0 = some (r1,r2,r3)) ∧ Aside0 (kq ≤ k) ∧ Aside0 (wc.heap[gb203]? = some (.cells #[(.slice A1_0 l1_0.length c1_0)] 26 (0,0))) ∧ Aside0 (IsS60 w0 wc g s0_0 x1001_10 x1002_10) ∧ Aside0 (KeepBut w wc g none) ∧ Aside0 (Below w0.heap.size w0 wc))
  case first =>
   have H:=HC11.out
   clear HC11
   by_cases c15:a3 > 0
   ·rw [if_pos c15] at H
    have c15b0:decide (0 < a3) = true:=decide_eq_true c15
    clear c15
    (first|rw [c15b0]|(simp only [i64_w,i32_w];rw [c15b0])|skip)
    replace H:=bI H;obtain ⟨⟨t207,t208,t209⟩,A16,H⟩:=H
    dsimp only at H
    have H':=Aside0.mk H
    clear H
    go_wp2_with (first|(go_at_call 75;(with_reducible refine (spec_l1Cur_one.calls g s0_0 s0_1 s0_2 3 t207 t208 t209 w0 _ ?side1 ?side2 A16.out).mono ?_);(case side1=>exact iIsS60);(case side2=>exact bH);rintro e w17 ⟨rfl,hi,hb,hk⟩;replace BK203:=kU hk NB203_0 (bB BK203);replace HK:=Aside0.mk (KeepBut.trans kB hk (.inl rfl));replace HB:=Aside0.mk (hb);replace HI0:=Aside0.mk (hi);clear hb hk hi))
    go_meet
    case rel=>exact ⟨_,(t207),(t208),(t209),Yd,H',⟨by first|omega|exact Nat.le_refl _⟩,⟨Yn⟩,⟨iIsS60⟩,⟨kB⟩,⟨bH⟩⟩
   ·rw [if_neg c15] at H
    have c15b0:decide (0 < a3) = false:=decide_eq_false c15
    clear c15
    (first|rw [c15b0]|(simp only [i64_w,i32_w];rw [c15b0])|skip)
    have H':=Aside0.mk H
    clear H
    go_wp2
    go_meet
    case rel=>exact ⟨_,(false),(s0_1),(s0_2),Yd,H',⟨by first|omega|exact Nat.le_refl _⟩,⟨Yn⟩,⟨iIsS60⟩,⟨kB⟩,⟨bH⟩⟩
  case rest =>
   clear HC11
   (try clear c5);(try clear c5b0);(try clear c5b1);(try clear c5b2);(try clear c15);(try clear c15b0);(try clear hcz14_0);(try clear hcz8_0);(try clear hfz14_0);(try clear hfz8_0)
   obtain ⟨kq,x22_10,x1001_10,x1002_10,rfl,HA,HJ10,BK203,HI0,HK,HB⟩:=hcut
   cases kq with
   | zero=>exact absurd HA.out (by simp [spec_l1Cur_term.j0])
   | succ kj10 =>
    have H:=HA.out
    clear HA
    simp only [spec_l1Cur_term.j0] at H
    by_cases c18:x22_10 = true
    ·subst c18
     replace H:=pT H
     replace H:=bI H;obtain ⟨⟨t210,t211,t212⟩,A19,H⟩:=H
     dsimp only at H
     obtain ⟨y213,hy213⟩:∃ y_:List Int,y_ = (([wrap64 ((-1) - t210)]:List Int)):=⟨_,rfl⟩
     replace H:(some (y213,t211,t212)) = some (r1,r2,r3):=by first|(rw [hy213];with_reducible exact H)|(have H2_:=(Option.bind_some _ _).symm.trans H;rw [hy213];with_reducible exact H2_)|(have H2_:=(Option.bind_some _ _).symm.trans H;with_reducible exact H2_)|with_reducible exact H|(rw [hy213];exact H)|exact H
     have Ny213:=Aside0.mk hy213
     clear hy213
     simp only [Option.some.injEq,Prod.mk.injEq] at H
     obtain ⟨rfl,rfl,rfl⟩:=H
     go_wp2_with (first|((with_reducible refine gate_callee (f:=73) rfl ?_);refine goesL_ (some 25) rfl rfl Try.func73 (by kernel_rfl) rfl #[.pointer (some ⟨g,0,none⟩),.int .i64 a3] rfl Ya ?_;(with_reducible refine (spec_l1Cur_pick.calls g s0_0 x1001_10 x1002_10 a3 t210 t211 t212 w0 _ ?side1 ?side2 A19.out).mono ?_);(case side1=>exact iIsS60);(case side2=>exact bH);rintro e w20 ⟨rfl,hi,hb,hk⟩;refine ⟨_,rfl,?_⟩;replace BK203:=kU hk NB203_0 (bB BK203);replace HK:=Aside0.mk (KeepBut.trans kB hk (.inl rfl));replace HB:=Aside0.mk (hb);replace HI0:=Aside0.mk (hi);clear hb hk hi)|((with_reducible refine gate_dst (N:=27) rfl ?_);refine Kd.R_lit (Kd.int .i64) _ 3 ?hg (N:=27) ?hd (xs:=([wrap64 ((-1) - t210)]:List Int)) (inner:=[.int .i64 (wrap64 ((-1) - t210))]) (ok:=fun _=>True) (okp:=fun _=>True) ?hr ?hp (fun _ hk=>hk) trivial (Below.refl _ _) (Nat.le_refl _) (by simp) ?_;(case hd=>rfl);(case hg=>rfl);(case hr=>exact Yc);(case hp=>exact (Reps.one (show Kd.M (Kd.int .i64) _ _ _ (wrap64 ((-1) - t210)) [.int .i64 (wrap64 ((-1) - t210))] from rfl) (Reps.none _ _)));intro v214 w21 ho22 hb hg_ hnew_;clear hg_ hnew_;(first|rw [← Ny213.out] at ho22|(simp only [Int.reduceToNat] at ho22;rw [← Ny213.out] at ho22));have HO215:=Aside0.mk (Kd.R_lower ho22 (keep_size (w:=w) (g:=g) (row:=none) kB));replace BK203:=bb BK203 hb;replace HK:=kT w g hb;replace HB:=bS hb;replace HI0:=iB60 hb;clear hb ho22))
     go_ret
     exact ⟨_,Yb,rR HO215,iIsS60,bH,kB⟩
    ·replace c18:=Bool.eq_false_iff.mpr c18
     subst c18
     replace H:=pF H
     replace H:=bI H;obtain ⟨⟨t216,t217,t218⟩,A23,H⟩:=H
     dsimp only at H
     have HC24:=Aside0.mk H
     clear H
     have hnb25:=NB203_0.out
     have hnc25:=NB0_203.out
     have hcz26_0:=qc1_0 BK203
     have hfz26_0:=fz BK203 0
     go_upto_region 6 with (first|((with_reducible refine gate_callee (f:=73) rfl ?_);refine goesL_ (some 32) rfl rfl Try.func73 (by kernel_rfl) rfl #[.pointer (some ⟨g,0,none⟩),.int .i64 (l1_0.length:Int)] rfl Ya ?_;(with_reducible refine (spec_l1Cur_pick.calls g s0_0 x1001_10 x1002_10 (l1_0.length:Int) t216 t217 t218 w0 _ ?side1 ?side2 A23.out).mono ?_);(case side1=>exact iIsS60);(case side2=>exact bH);rintro e w27 ⟨rfl,hi,hb,hk⟩;refine ⟨_,rfl,?_⟩;replace BK203:=kU hk NB203_0 (bB BK203);replace HK:=Aside0.mk (KeepBut.trans kB hk (.inl rfl));replace HB:=Aside0.mk (hb);replace HI0:=Aside0.mk (hi);clear hb hk hi))
     (try simp only [Act.put,List.setIfInBounds_toArray,List.set_cons_zero,List.set_cons_succ])
     go_cut [42] (fun v42 wc=>∃ (kq:Nat) (x42_23:Bool),v42 = .bool x42_23 ∧ Aside0 (spec_l1Cur_term.j1 kq a2 a3 t216 x42_23 s0_0 t217 t218 l1_0 = some (r1,r2,r3)) ∧ Aside0 (kq ≤ kj10) ∧ Aside0 (wc.heap[gb203]? = some (.cells #[(.slice A1_0 l1_0.length c1_0)] 26 (0,0))) ∧ Aside0 (IsS60 w0 wc g s0_0 t217 t218) ∧ Aside0 (KeepBut w wc g none) ∧ Aside0 (Below w0.heap.size w0 wc))
     case first =>
      have H:=HC24.out
      clear HC24
      replace H:=gI H;obtain ⟨c28b0,H⟩:=H
      (first|rw [c28b0]|(simp only [i64_w,i32_w];rw [c28b0])|skip)
      replace H:=gI H;obtain ⟨c29b0,H⟩:=H
      by_cases c30:(rd l1_0 t216) > 0
      ·rw [if_pos c30] at H
       have c30b0:decide (0 < (rd l1_0 t216)) = true:=decide_eq_true c30
       clear c30
       have H':=Aside0.mk H
       clear H
       have hnb31:=NB203_0.out
       have hnc31:=NB0_203.out
       have hcz32_0:=qc1_0 BK203
       have hfz32_0:=fz BK203 0
       have p219:0 ≤ (t216:Int):=oD
       have q219:t216 < (l1_0.length:Int):=oD
       obtain ⟨ad219,e219,hx219_0⟩:=Kd.at_int HR1_0.out t216 p219 q219
       cases e219
       replace hx219_0:=keep_cell HK.out hx219_0 (by first|(rw [add_block];exact hf1_0 _ rfl (by omega))|exact hf1_0 _ rfl (by omega)|exact hf1_0 ad219 rfl (by omega))
       replace p219:=eq_true p219
       replace q219:=eq_true q219
       go_wp2
       go_meet
       case rel=>exact ⟨_,(decide (a2 ≤ 1)),Yd,H',⟨by have:=HJ10.out;first|omega|exact Nat.le_refl _⟩,⟨Yn⟩,⟨iIsS60⟩,⟨kB⟩,⟨bH⟩⟩
      ·rw [if_neg c30] at H
       have c30b0:decide (0 < (rd l1_0 t216)) = false:=decide_eq_false c30
       clear c30
       have H':=Aside0.mk H
       clear H
       have hnb33:=NB203_0.out
       have hnc33:=NB0_203.out
       have hcz34_0:=qc1_0 BK203
       have hfz34_0:=fz BK203 0
       have p219:0 ≤ (t216:Int):=oD
       have q219:t216 < (l1_0.length:Int):=oD
       obtain ⟨ad219,e219,hx219_0⟩:=Kd.at_int HR1_0.out t216 p219 q219
       cases e219
       replace hx219_0:=keep_cell HK.out hx219_0 (by first|(rw [add_block];exact hf1_0 _ rfl (by omega))|exact hf1_0 _ rfl (by omega)|exact hf1_0 ad219 rfl (by omega))
       replace p219:=eq_true p219
       replace q219:=eq_true q219
       go_wp2
       go_meet
       case rel=>exact ⟨_,(false),Yd,H',⟨by have:=HJ10.out;first|omega|exact Nat.le_refl _⟩,⟨Yn⟩,⟨iIsS60⟩,⟨kB⟩,⟨bH⟩⟩
     case rest =>
      clear HC24
      (try clear c5);(try clear c5b0);(try clear c5b1);(try clear c5b2);(try clear c15);(try clear c15b0);(try clear c18);(try clear c28b0);(try clear c29b0);(try clear c30);(try clear c30b0);(try clear hcz14_0);(try clear hcz26_0);(try clear hcz32_0);(try clear hcz34_0);(try clear hcz8_0);(try clear hfz14_0);(try clear hfz26_0);(try clear hfz32_0);(try clear hfz34_0);(try clear hfz8_0);(try clear hx219_0);(try clear p219);(try clear q219)
      obtain ⟨kq,x42_23,rfl,HA,HJ23,BK203,HI0,HK,HB⟩:=hcut
      cases kq with
      | zero=>exact absurd HA.out (by simp [spec_l1Cur_term.j1])
      | succ kj23 =>
       have H:=HA.out
       clear HA
       simp only [spec_l1Cur_term.j1] at H
       have HC35:=Aside0.mk H
       clear H
       go_upto_if 42 with (fail)
       go_cut [9] (fun v9 wc=>∃ (kq:Nat) (x9_34:Int) (x1001_34:Int) (x1002_34:Int),v9 = .int .i64 x9_34 ∧ Aside0 (spec_l1Cur_term.j2 kq a2 a3 x9_34 s0_0 x1001_34 x1002_34 l1_0 = some (r1,r2,r3)) ∧ Aside0 (kq ≤ kj23) ∧ Aside0 (wc.heap[gb203]? = some (.cells #[(.slice A1_0 l1_0.length c1_0)] 26 (0,0))) ∧ Aside0 (IsS60 w0 wc g s0_0 x1001_34 x1002_34) ∧ Aside0 (KeepBut w wc g none) ∧ Aside0 (Below w0.heap.size w0 wc))
       case first =>
        have H:=HC35.out
        clear HC35
        by_cases c36:x42_23 = true
        ·subst c36
         replace H:=pT H
         replace H:=bI H;obtain ⟨⟨t220,t221,t222⟩,A37,H⟩:=H
         dsimp only at H
         have H':=Aside0.mk H
         clear H
         have hnb38:=NB203_0.out
         have hnc38:=NB0_203.out
         have hcz39_0:=qc1_0 BK203
         have hfz39_0:=fz BK203 0
         go_wp2_with (first|((with_reducible refine gate_callee (f:=73) rfl ?_);refine goesL_ (some 47) rfl rfl Try.func73 (by kernel_rfl) rfl #[.pointer (some ⟨g,0,none⟩),.int .i64 (l1_0.length:Int)] rfl Ya ?_;(with_reducible refine (spec_l1Cur_pick.calls g s0_0 t217 t218 (l1_0.length:Int) t220 t221 t222 w0 _ ?side1 ?side2 A37.out).mono ?_);(case side1=>exact iIsS60);(case side2=>exact bH);rintro e w40 ⟨rfl,hi,hb,hk⟩;refine ⟨_,rfl,?_⟩;replace BK203:=kU hk NB203_0 (bB BK203);replace HK:=Aside0.mk (KeepBut.trans kB hk (.inl rfl));replace HB:=Aside0.mk (hb);replace HI0:=Aside0.mk (hi);clear hb hk hi))
         go_meet
         case rel=>exact ⟨_,(wrap64 (Int.tdiv t220 2)),(t221),(t222),Yd,H',⟨by have:=HJ10.out;have:=HJ23.out;first|omega|exact Nat.le_refl _⟩,⟨Yn⟩,⟨iIsS60⟩,⟨kB⟩,⟨bH⟩⟩
        ·replace c36:=Bool.eq_false_iff.mpr c36
         subst c36
         replace H:=pF H
         have H':=Aside0.mk H
         clear H
         go_wp2
         go_meet
         case rel=>exact ⟨_,(t216),(t217),(t218),Yd,H',⟨by have:=HJ10.out;have:=HJ23.out;first|omega|exact Nat.le_refl _⟩,⟨Yn⟩,⟨iIsS60⟩,⟨kB⟩,⟨bH⟩⟩
       case rest =>
        clear HC35
        (try clear c5);(try clear c5b0);(try clear c5b1);(try clear c5b2);(try clear c15);(try clear c15b0);(try clear c18);(try clear c28b0);(try clear c29b0);(try clear c30);(try clear c30b0);(try clear c36);(try clear hcz14_0);(try clear hcz26_0);(try clear hcz32_0);(try clear hcz34_0);(try clear hcz39_0);(try clear hcz8_0);(try clear hfz14_0);(try clear hfz26_0);(try clear hfz32_0);(try clear hfz34_0);(try clear hfz39_0);(try clear hfz8_0);(try clear hx219_0);(try clear p219);(try clear q219)
        obtain ⟨kq,x9_34,x1001_34,x1002_34,rfl,HA,HJ34,BK203,HI0,HK,HB⟩:=hcut
        cases kq with
        | zero=>exact absurd HA.out (by simp [spec_l1Cur_term.j2])
        | succ kj34 =>
         have H:=HA.out
         clear HA
         simp only [spec_l1Cur_term.j2] at H
         have HC41:=Aside0.mk H
         clear H
         go_upto_region 8 with (fail)
         go_cut [58] (fun v58 wc=>∃ (kq:Nat) (x58_40:Bool),v58 = .bool x58_40 ∧ Aside0 (spec_l1Cur_term.j3 kq a2 a3 x9_34 x58_40 s0_0 x1001_34 x1002_34 l1_0 = some (r1,r2,r3)) ∧ Aside0 (kq ≤ kj34) ∧ Aside0 (wc.heap[gb203]? = some (.cells #[(.slice A1_0 l1_0.length c1_0)] 26 (0,0))) ∧ Aside0 (IsS60 w0 wc g s0_0 x1001_34 x1002_34) ∧ Aside0 (KeepBut w wc g none) ∧ Aside0 (Below w0.heap.size w0 wc))
         case first =>
          have H:=HC41.out
          clear HC41
          replace H:=gI H;obtain ⟨c42b0,H⟩:=H
          (first|rw [c42b0]|(simp only [i64_w,i32_w];rw [c42b0])|skip)
          replace H:=gI H;obtain ⟨c43b0,H⟩:=H
          by_cases c44:(rd l1_0 x9_34) > 0
          ·rw [if_pos c44] at H
           have c44b0:decide (0 < (rd l1_0 x9_34)) = true:=decide_eq_true c44
           clear c44
           have H':=Aside0.mk H
           clear H
           have hnb45:=NB203_0.out
           have hnc45:=NB0_203.out
           have hcz46_0:=qc1_0 BK203
           have hfz46_0:=fz BK203 0
           have p223:0 ≤ (x9_34:Int):=oD
           have q223:x9_34 < (l1_0.length:Int):=oD
           obtain ⟨ad223,e223,hx223_0⟩:=Kd.at_int HR1_0.out x9_34 p223 q223
           cases e223
           replace hx223_0:=keep_cell HK.out hx223_0 (by first|(rw [add_block];exact hf1_0 _ rfl (by omega))|exact hf1_0 _ rfl (by omega)|exact hf1_0 ad223 rfl (by omega))
           replace p223:=eq_true p223
           replace q223:=eq_true q223
           go_wp2
           go_meet
           case rel=>exact ⟨_,(decide (a2 ≤ 1)),Yd,H',⟨by have:=HJ10.out;have:=HJ23.out;have:=HJ34.out;first|omega|exact Nat.le_refl _⟩,⟨Yn⟩,⟨iIsS60⟩,⟨kB⟩,⟨bH⟩⟩
          ·rw [if_neg c44] at H
           have c44b0:decide (0 < (rd l1_0 x9_34)) = false:=decide_eq_false c44
           clear c44
           have H':=Aside0.mk H
           clear H
           have hnb47:=NB203_0.out
           have hnc47:=NB0_203.out
           have hcz48_0:=qc1_0 BK203
           have hfz48_0:=fz BK203 0
           have p223:0 ≤ (x9_34:Int):=oD
           have q223:x9_34 < (l1_0.length:Int):=oD
           obtain ⟨ad223,e223,hx223_0⟩:=Kd.at_int HR1_0.out x9_34 p223 q223
           cases e223
           replace hx223_0:=keep_cell HK.out hx223_0 (by first|(rw [add_block];exact hf1_0 _ rfl (by omega))|exact hf1_0 _ rfl (by omega)|exact hf1_0 ad223 rfl (by omega))
           replace p223:=eq_true p223
           replace q223:=eq_true q223
           go_wp2
           go_meet
           case rel=>exact ⟨_,(false),Yd,H',⟨by have:=HJ10.out;have:=HJ23.out;have:=HJ34.out;first|omega|exact Nat.le_refl _⟩,⟨Yn⟩,⟨iIsS60⟩,⟨kB⟩,⟨bH⟩⟩
         case rest =>
          clear HC41
          (try clear c5);(try clear c5b0);(try clear c5b1);(try clear c5b2);(try clear c15);(try clear c15b0);(try clear c18);(try clear c28b0);(try clear c29b0);(try clear c30);(try clear c30b0);(try clear c36);(try clear c42b0);(try clear c43b0);(try clear c44);(try clear c44b0);(try clear hcz14_0);(try clear hcz26_0);(try clear hcz32_0);(try clear hcz34_0);(try clear hcz39_0);(try clear hcz46_0);(try clear hcz48_0);(try clear hcz8_0);(try clear hfz14_0);(try clear hfz26_0);(try clear hfz32_0);(try clear hfz34_0);(try clear hfz39_0);(try clear hfz46_0);(try clear hfz48_0);(try clear hfz8_0);(try clear hx219_0);(try clear hx223_0);(try clear p219);(try clear p223);(try clear q219);(try clear q223)
          obtain ⟨kq,x58_40,rfl,HA,HJ40,BK203,HI0,HK,HB⟩:=hcut
          cases kq with
          | zero=>exact absurd HA.out (by simp [spec_l1Cur_term.j3])
          | succ kj40 =>
           have H:=HA.out
           clear HA
           simp only [spec_l1Cur_term.j3] at H
           by_cases c49:x58_40 = true
           ·subst c49
            replace H:=pT H
            obtain ⟨y224,hy224⟩:∃ y_:List Int,y_ = (([0]:List Int)):=⟨_,rfl⟩
            replace H:(some (y224,x1001_34,x1002_34)) = some (r1,r2,r3):=by first|(rw [hy224];with_reducible exact H)|(have H2_:=(Option.bind_some _ _).symm.trans H;rw [hy224];with_reducible exact H2_)|(have H2_:=(Option.bind_some _ _).symm.trans H;with_reducible exact H2_)|with_reducible exact H|(rw [hy224];exact H)|exact H
            have Ny224:=Aside0.mk hy224
            clear hy224
            simp only [Option.some.injEq,Prod.mk.injEq] at H
            obtain ⟨rfl,rfl,rfl⟩:=H
            go_wp2_with (first|((with_reducible refine gate_dst (N:=59) rfl ?_);refine Kd.R_lit (Kd.int .i64) _ 3 ?hg (N:=59) ?hd (xs:=([0]:List Int)) (inner:=[.int .i64 0]) (ok:=fun _=>True) (okp:=fun _=>True) ?hr ?hp (fun _ hk=>hk) trivial (Below.refl _ _) (Nat.le_refl _) (by simp) ?_;(case hd=>rfl);(case hg=>rfl);(case hr=>exact Yc);(case hp=>exact YS);intro v225 w50 ho51 hb hg_ hnew_;clear hg_ hnew_;(first|rw [← Ny224.out] at ho51|(simp only [Int.reduceToNat] at ho51;rw [← Ny224.out] at ho51));have HO226:=Aside0.mk (Kd.R_lower ho51 (keep_size (w:=w) (g:=g) (row:=none) kB));replace BK203:=bb BK203 hb;replace HK:=kT w g hb;replace HB:=bS hb;replace HI0:=iB60 hb;clear hb ho51))
            go_ret
            exact ⟨_,Yb,rR HO226,iIsS60,bH,kB⟩
           ·replace c49:=Bool.eq_false_iff.mpr c49
            subst c49
            replace H:=pF H
            obtain ⟨y227,hy227⟩:∃ y_:List Int,y_ = (([x9_34]:List Int)):=⟨_,rfl⟩
            replace H:(if 0 ≤ x9_34 then (if x9_34 < (l1_0.length:Int) then (spec_l1Cur_term.l0 kj40 a2 a3 y227 (rd l1_0 x9_34) s0_0 x1001_34 x1002_34 l1_0) else (none)) else (none)) = some (r1,r2,r3):=by first|(rw [hy227];with_reducible exact H)|(have H2_:=(Option.bind_some _ _).symm.trans H;rw [hy227];with_reducible exact H2_)|(have H2_:=(Option.bind_some _ _).symm.trans H;with_reducible exact H2_)|with_reducible exact H|(rw [hy227];exact H)|exact H
            have Ny227:=Aside0.mk hy227
            clear hy227
            replace H:=gI H;obtain ⟨c52b0,H⟩:=H
            replace H:=gI H;obtain ⟨c53b0,H⟩:=H
            have H':=Aside0.mk H
            clear H
            go_wp2_with (first|((with_reducible refine gate_dst (N:=61) rfl ?_);refine Kd.R_lit (Kd.int .i64) _ 3 ?hg (N:=61) ?hd (xs:=([x9_34]:List Int)) (inner:=[.int .i64 x9_34]) (ok:=fun _=>True) (okp:=fun _=>True) ?hr ?hp (fun _ hk=>hk) trivial (Below.refl _ _) (Nat.le_refl _) (by simp) ?_;(case hd=>rfl);(case hg=>rfl);(case hr=>exact Yc);(case hp=>exact (Reps.one (show Kd.M (Kd.int .i64) _ _ _ x9_34 [.int .i64 x9_34] from rfl) (Reps.none _ _)));intro v228 w54 ho55 hb hg_ hnew_;clear hg_ hnew_;(first|rw [← Ny227.out] at ho55|(simp only [Int.reduceToNat] at ho55;rw [← Ny227.out] at ho55));have HO229:=Aside0.mk (Kd.R_lower ho55 (keep_size (w:=w) (g:=g) (row:=none) kB));replace BK203:=bb BK203 hb;replace HK:=kT w g hb;replace HB:=bS hb;replace HI0:=iB60 hb;clear hb ho55;have hnb56:=NB203_0.out;have hnc56:=NB0_203.out;have hcz57_0:=qc1_0 BK203;have hfz57_0:=fz BK203 0;have p230:0 ≤ (x9_34:Int):=oD;have q230:x9_34 < (l1_0.length:Int):=oD;obtain ⟨ad230,e230,hx230_0⟩:=Kd.at_int HR1_0.out x9_34 p230 q230;cases e230;replace hx230_0:=keep_cell HK.out hx230_0 (by first|(rw [add_block];exact hf1_0 _ rfl (by omega))|exact hf1_0 _ rfl (by omega)|exact hf1_0 ad230 rfl (by omega));replace p230:=eq_true p230;replace q230:=eq_true q230))
            go_loopg [10,11] kj40 (fun kq v10 v11 w'=>∃ (x10_5:List Int) (x11_5:Int) (x1001_5:Int) (x1002_5:Int),v11 = .int .i64 x11_5 ∧ Aside0 (spec_l1Cur_term.l0 kq a2 a3 x10_5 x11_5 s0_0 x1001_5 x1002_5 l1_0 = some (r1,r2,r3)) ∧ Aside0 (kq ≤ kj40) ∧ Aside0 (Kd.R (Kd.int .i64) 3 w' w.heap.size (fun _=>True) v10 x10_5) ∧ Aside0 (w'.heap[gb203]? = some (.cells #[(.slice (some ad230) l1_0.length c1_0)] 26 (0,0))) ∧ Aside0 (IsS60 w0 w' g s0_0 x1001_5 x1002_5) ∧ Aside0 (KeepBut w w' g none) ∧ Aside0 (Below w0.heap.size w0 w'))
            case atStart=>exact ⟨(y227),(rd l1_0 x9_34),(x1001_34),(x1002_34),Yd,H',⟨Nat.le_refl _⟩,⟨rR HO229⟩,⟨Yn⟩,⟨iIsS60⟩,⟨kB⟩,⟨bH⟩⟩
            case round =>
             clear H'
             (try clear c5);(try clear c5b0);(try clear c5b1);(try clear c5b2);(try clear c15);(try clear c15b0);(try clear c18);(try clear c28b0);(try clear c29b0);(try clear c30);(try clear c30b0);(try clear c36);(try clear c42b0);(try clear c43b0);(try clear c44);(try clear c44b0);(try clear c49);(try clear c52b0);(try clear c53b0);(try clear hcz14_0);(try clear hcz26_0);(try clear hcz32_0);(try clear hcz34_0);(try clear hcz39_0);(try clear hcz46_0);(try clear hcz48_0);(try clear hcz57_0);(try clear hcz8_0);(try clear hfz14_0);(try clear hfz26_0);(try clear hfz32_0);(try clear hfz34_0);(try clear hfz39_0);(try clear hfz46_0);(try clear hfz48_0);(try clear hfz57_0);(try clear hfz8_0);(try clear hx219_0);(try clear hx223_0);(try clear hx230_0);(try clear p219);(try clear p223);(try clear p230);(try clear q219);(try clear q223);(try clear q230)
             obtain ⟨x10_5,x11_5,x1001_5,x1002_5,rfl,HA,HK5,HO_10,BK203,HI0,HK,HB⟩:=hrel
             cases gk with
             | zero=>exact absurd HA.out (by simp [spec_l1Cur_term.l0])
             | succ k5 =>
              have H:=HA.out
              clear HA
              simp only [spec_l1Cur_term.l0] at H
              by_cases c58:x11_5 > 0
              ·rw [if_pos c58] at H
               have c58b0:decide (0 < x11_5) = true:=decide_eq_true c58
               clear c58
               replace H:=bI H;obtain ⟨⟨t231,t234,t235⟩,A59,H⟩:=H
               dsimp only at H
               replace H:=gK H;obtain ⟨LMc60,H⟩:=H
               obtain ⟨y236,hy236⟩:∃ y_:List Int,y_ = (x10_5 ++ t231):=⟨_,rfl⟩
               replace H:(spec_l1Cur_term.l0 k5 a2 a3 y236 (wrap64 (x11_5 - 1)) s0_0 t234 t235 l1_0) = some (r1,r2,r3):=by first|(rw [hy236];with_reducible exact H)|(have H2_:=(Option.bind_some _ _).symm.trans H;rw [hy236];with_reducible exact H2_)|(have H2_:=(Option.bind_some _ _).symm.trans H;with_reducible exact H2_)|with_reducible exact H|(rw [hy236];exact H)|exact H
               have Ny236:=Aside0.mk hy236
               clear hy236
               have H':=Aside0.mk H
               clear H
               have hnb61:=NB203_0.out
               have hnc61:=NB0_203.out
               have hcz62_0:=qc1_0 BK203
               have hfz62_0:=fz BK203 0
               go_wp2_with (first|((with_reducible refine gate_callee (f:=74) rfl ?_);refine goesL_ (some 77) rfl rfl Try.func74 (by kernel_rfl) rfl #[.pointer (some ⟨g,0,none⟩),.agg #[.slice (some ad230) l1_0.length c1_0],.int .i64 (wrap64 (a2 - 1)),.int .i64 a3] rfl Ya ?_;(with_reducible refine (ih k5 (by have:=HJ10.out;have:=HJ23.out;have:=HJ34.out;have:=HJ40.out;have:=HK5.out;omega) g s0_0 x1001_5 x1002_5 _ _ l1_0 (wrap64 (a2 - 1)) a3 t231 t234 t235 w0 _ ?side1 ?side2 ?side3 ?side4 ?side5 A59.out).mono ?_);(case side1=>exact iIsS60);(case side2=>exact bH);(case side3=>exact Za);(case side4=>exact HC1_0.out);(case side5=>exact hf1_0);rintro e w63 ⟨v232,rfl,ho0,hi,hb,hk⟩;refine ⟨_,rfl,?_⟩;replace BK203:=kU hk NB203_0 (bB BK203);have HO233:=Aside0.mk (Kd.R_lower (Kd.R_new' ho0 (Kd.R_lt (rR HO_10))) (keep_size (w:=w) (g:=g) (row:=none) kB));replace HO_10:=Aside0.mk (Kd.R_mono (Kd.R_told (Kd.R_oldK (IsS60.apart (show IsS60 w0 _ g s0_0 x1001_5 x1002_5 from iIsS60) (rR HO_10) (by decide)) hk) (Kd.R_base ho0)) (fun _ h_=>h_.1));replace HK:=Aside0.mk (KeepBut.trans kB hk (.inl rfl));replace HB:=Aside0.mk (hb);replace HI0:=Aside0.mk (hi);(try clear hb);(try clear hb2);(try clear hk);(try clear hi);(try clear ho0);obtain ⟨Ao65,co65,eo65⟩:=Kd.R_slice HO233.out;subst eo65)|((with_reducible refine gate_builtin (b:=.append) (xs:=#[.tmp 71,.tmp 77]) rfl ?_);at_builtin;refine Kd.R_append_rows (Kd.int .i64) w.heap.size rfl (.tmp 71) (.tmp 77) 24 3 (.int .i64 0) 8 rfl Try.underlying24 info3 rfl (by decide) YP u10 x10_5 t231 _ _ _ (fun k_=>some k_ ≠ (.slice Ao65 t231.length co65:Value).ownBlock) (fun _=>False) rfl rfl ?aO ?aR (fun _ _ h=>h) (fun _ h=>h.elim) ?aF (Below.refl _ _) ?aS ?aL ?_;(case aR=>repeat (first|exact (Kd.R_reads' HO233.out).2.2|(with_reducible refine Kd.C_alloc ?_ _)|(with_reducible refine Kd.C_drewN ?_ _)|(with_reducible refine Kd.C_drew ?_)));(case aF=>exact (fun k_ hk=>Kd.fresh' (Kd.R_lt (rR HO233)) k_ hk));(case aO=>exact (by (with_reducible repeat (first|apply Kd.R_alloc|apply Kd.R_drewN|apply Kd.R_drew));exact Kd.R_mono HO_10.out (fun _ hk=>hk.2)));(case aS=>exact Ze);(case aL=>have:=LMc60.out;omega);intro v237 w64 ho hb hg hat;rw [← Ny236.out] at ho;have n0_:=Aside0.mk (blk_grown (bB BK203) hg (Kd.R_ne HO_10.out BK203.out (by decide)));have n1_:=Aside0.mk (IsS60.grown iIsS60 hg (IsS60.own_ne HI0.out HO_10.out (by decide)));have n2_:=Aside0.mk (Kd.R_after (ok:=(fun _=>True)) (rR HO233) hg hat);have n3_:=Aside0.mk (below_weaken bH HL.out hb);have n4_:=Aside0.mk (KeepBut.trans kB (KeepBut.of_grown hg g) (Kd.R_base2 HO_10.out));have n5_:=Aside0.mk (ho);clear BK203;clear HI0;clear HO233;clear HB;clear HK;clear HO_10;have BK203:=n0_;have HI0:=n1_;have HO233:=n2_;have HB:=n3_;have HK:=n4_;have HO238:=n5_;clear n0_ n1_ n2_ n3_ n4_ n5_;clear ho hb hg hat))
               go_roundg k5
               case measure=>have:=HJ10.out;have:=HJ23.out;have:=HJ34.out;have:=HJ40.out;have:=HK5.out;omega
               case rel=>exact ⟨(y236),(wrap64 (x11_5 - 1)),(t234),(t235),Yd,H',⟨by have:=HJ10.out;have:=HJ23.out;have:=HJ34.out;have:=HJ40.out;have:=HK5.out;omega⟩,⟨by (with_reducible repeat (first|apply Kd.R_alloc|apply Kd.R_drewN|apply Kd.R_drew));exact Kd.R_mono HO238.out (fun _ hk=>trivial)⟩,⟨Yn⟩,⟨iIsS60⟩,⟨kB⟩,⟨bH⟩⟩
              ·rw [if_neg c58] at H
               have c58b0:decide (0 < x11_5) = false:=decide_eq_false c58
               clear c58
               simp only [Option.some.injEq,Prod.mk.injEq] at H
               obtain ⟨rfl,rfl,rfl⟩:=H
               go_wp2
               go_ret
               exact ⟨_,Yb,rR HO_10,iIsS60,bH,kB⟩

end Go.Proofs.Ytmgkflkfoccgkaa.QFnTidied
