-- Written by this session's own program (wip/x/xprint.py, over the kit's printer); Lean checks it.
import Derived.Test.YtlgnanbnicmdaaaQFnExactTrimStepsx0
namespace Go.Proofs.Ytlgnanbnicmdaaa.QFnExactTrimSteps
open Go.RowKit Go.Proofs.YtlgnanbnicmdaaaW.PrintWords Go.Proofs.YtlgnanbnicmdaaaW.PrintLast Go.Proofs.YtlgnanbnicmdaaaW.PrintMore
attribute [local go_sem] max2_int min2_int max_two min_two max_three min_three max_four min_four   -- for this text's walks alone
set_option linter.unusedVariables false
set_option linter.unusedSimpArgs false

/-! ### impl_needed: function 68 -/
mutual
def impl_needed.l0:Nat → List (S83) → List Bool → Int → Option (List Int)
 | 0,_,_,_=>none
 | k + 1,x0,x5,x6=>if x6 ≥ 0 then (if 0 ≤ x6 then (if x6 < (x5.length:Int) then (if rdOf false x5 x6 = true then (if x6 < (x0.length:Int) then (impl_needed.l1 k x0 x5 x6 ((rd_T83 x0 x6).f1) (((rd_T83 x0 x6).f1).length:Int) 0) else (none)) else (impl_needed.l0 k x0 x5 (wrap64 (x6 - 1)))) else (none)) else (none)) else (impl_needed.l2 k ([]:List Int) x5 (x5.length:Int) 0)
def impl_needed.l1:Nat → List (S83) → List Bool → Int → List Int → Int → Int → Option (List Int)
 | 0,_,_,_,_,_,_=>none
 | k + 1,x0,x5,x6,x31,x32,x33=>if x33 < x32 then (if 0 ≤ x33 then (if x33 < (x31.length:Int) then (if 0 ≤ (rd x31 x33) then (if (rd x31 x33) < (x5.length:Int) then (impl_needed.l1 k x0 (x5.set ((rd x31 x33):Int).toNat true) x6 x31 x32 (wrap64 (x33 + 1))) else (none)) else (none)) else (none)) else (none)) else (impl_needed.l0 k x0 x5 (wrap64 (x6 - 1)))
def impl_needed.l2:Nat → List Int → List Bool → Int → Int → Option (List Int)
 | 0,_,_,_,_=>none
 | k + 1,x9,x41,x42,x43=>if x43 < x42 then (if 0 ≤ x43 then (if x43 < (x41.length:Int) then (if rdOf false x41 x43 = true then (if x9.length < 17592186044416 then (impl_needed.l2 k (x9 ++ [x43]) x41 x42 (wrap64 (x43 + 1))) else (none)) else (impl_needed.l2 k x9 x41 x42 (wrap64 (x43 + 1)))) else (none)) else (none)) else (some x9)
end
def impl_needed.f (k:Nat) (l0:List (S83)) (a1:Int):Option (List Int):=if 0 ≤ (l0.length:Int) then (if ((l0.length:Int):Int).toNat ≤ 281474976710656 then ((some (List.replicate ((l0.length:Int):Int).toNat false:List Bool)).bind fun y296=>(if 0 ≤ a1 then (if a1 < (y296.length:Int) then (impl_needed.l0 k l0 (y296.set (a1:Int).toNat true) a1) else (none)) else (none))) else (none)) else (none)
theorem impl_needed.mono_l:∀ k,(∀ y0 y1 y2,LeO (impl_needed.l0 k y0 y1 y2) (impl_needed.l0 (k + 1) y0 y1 y2)) ∧ (∀ y0 y1 y2 y3 y4 y5,LeO (impl_needed.l1 k y0 y1 y2 y3 y4 y5) (impl_needed.l1 (k + 1) y0 y1 y2 y3 y4 y5)) ∧ (∀ y0 y1 y2 y3,LeO (impl_needed.l2 k y0 y1 y2 y3) (impl_needed.l2 (k + 1) y0 y1 y2 y3))
 | 0=>⟨fun _ _ _ r h=>by simp [impl_needed.l0] at h,fun _ _ _ _ _ _ r h=>by simp [impl_needed.l1] at h,fun _ _ _ _ r h=>by simp [impl_needed.l2] at h⟩
 | k + 1=>by
  obtain ⟨ih0,ih1,ih2⟩:=impl_needed.mono_l k
  refine ⟨?_,?_,?_⟩
  ·intro y0 y1 y2
   unfold impl_needed.l0
   repeat' first
   | (with_reducible exact ih0 _ _ _)
   | (with_reducible exact ih1 _ _ _ _ _ _)
   | (with_reducible exact ih2 _ _ _ _)
   | (with_reducible exact LeO.refl _)
   | (with_reducible exact LeO.none _)
   | (with_reducible refine LeO.ite ?_ ?_)
   | (with_reducible refine LeO.bind ?_ (fun _=>?_))
   | exact ih0 _ _ _
   | exact ih1 _ _ _ _ _ _
   | exact ih2 _ _ _ _
   | exact LeO.none _
   | refine LeO.ite ?_ ?_
   | refine LeO.bind ?_ (fun _=>?_)
  ·intro y0 y1 y2 y3 y4 y5
   unfold impl_needed.l1
   repeat' first
   | (with_reducible exact ih0 _ _ _)
   | (with_reducible exact ih1 _ _ _ _ _ _)
   | (with_reducible exact ih2 _ _ _ _)
   | (with_reducible exact LeO.refl _)
   | (with_reducible exact LeO.none _)
   | (with_reducible refine LeO.ite ?_ ?_)
   | (with_reducible refine LeO.bind ?_ (fun _=>?_))
   | exact ih0 _ _ _
   | exact ih1 _ _ _ _ _ _
   | exact ih2 _ _ _ _
   | exact LeO.none _
   | refine LeO.ite ?_ ?_
   | refine LeO.bind ?_ (fun _=>?_)
  ·intro y0 y1 y2 y3
   unfold impl_needed.l2
   repeat' first
   | (with_reducible exact ih0 _ _ _)
   | (with_reducible exact ih1 _ _ _ _ _ _)
   | (with_reducible exact ih2 _ _ _ _)
   | (with_reducible exact LeO.refl _)
   | (with_reducible exact LeO.none _)
   | (with_reducible refine LeO.ite ?_ ?_)
   | (with_reducible refine LeO.bind ?_ (fun _=>?_))
   | exact ih0 _ _ _
   | exact ih1 _ _ _ _ _ _
   | exact ih2 _ _ _ _
   | exact LeO.none _
   | refine LeO.ite ?_ ?_
   | refine LeO.bind ?_ (fun _=>?_)
theorem impl_needed.mono:∀ a0 a1 k,LeO (impl_needed.f k a0 a1) (impl_needed.f (k + 1) a0 a1):=by
 intro a0 a1 k
 obtain ⟨ih0,ih1,ih2⟩:=impl_needed.mono_l k
 unfold impl_needed.f
 repeat' first
   | (with_reducible exact ih0 _ _ _)
   | (with_reducible exact ih1 _ _ _ _ _ _)
   | (with_reducible exact ih2 _ _ _ _)
   | (with_reducible exact LeO.refl _)
   | (with_reducible exact LeO.none _)
   | (with_reducible refine LeO.ite ?_ ?_)
   | (with_reducible refine LeO.bind ?_ (fun _=>?_))
   | exact ih0 _ _ _
   | exact ih1 _ _ _ _ _ _
   | exact ih2 _ _ _ _
   | exact LeO.none _
   | refine LeO.ite ?_ ?_
   | refine LeO.bind ?_ (fun _=>?_)
set_option maxHeartbeats 8000000 in
set_option maxRecDepth 100000 in
theorem impl_needed.calls (k:Nat) (A0:Option Addr) (c0:Nat) (l0:List (S83)) (a1:Int) (r:List Int) (w:World) (hr0:Kd.C k83 w A0 l0.length l0) (hc0:l0.length ≤ c0) (h:impl_needed.f k l0 a1 = some r) :
  Calls Try.prog 68 #[.slice A0 l0.length c0,.int .i64 a1] w fun e w'=>∃ v0_:Value,e = .returned (v0_) ∧ Kd.R (Kd.int .i64) 3 w' w.heap.size (fun _=>True) v0_ r ∧ Below w.heap.size w w':=by
 have HR0:=Aside0.mk hr0
 have HC0:=Aside0.mk hc0
 clear hr0 hc0
 have HB:=Aside0.mk (Below.refl w.heap.size w)
 have H:(if 0 ≤ (l0.length:Int) then (if ((l0.length:Int):Int).toNat ≤ 281474976710656 then ((some (List.replicate ((l0.length:Int):Int).toNat false:List Bool)).bind fun y296=>(if 0 ≤ a1 then (if a1 < (y296.length:Int) then (impl_needed.l0 k l0 (y296.set (a1:Int).toNat true) a1) else (none)) else (none))) else (none)) else (none)) = some r:=h
 clear h
 by_cases c3:0 ≤ (l0.length:Int)
 ·rw [if_pos c3] at H
  have c3b0:=eq_true c3
  have c3b1:decide (0 ≤ (l0.length:Int)) = true:=decide_eq_true c3
  clear c3
  by_cases c4:((l0.length:Int):Int).toNat ≤ 281474976710656
  ·rw [if_pos c4] at H
   have c4b0:=eq_true c4
   have c4b1:decide (((l0.length:Int):Int).toNat ≤ 281474976710656) = true:=decide_eq_true c4
   clear c4
   obtain ⟨y296,hy296⟩:∃ y_:List Bool,y_ = (List.replicate ((l0.length:Int):Int).toNat false):=⟨_,rfl⟩
   replace H:(if 0 ≤ a1 then (if a1 < (y296.length:Int) then (impl_needed.l0 k l0 (y296.set (a1:Int).toNat true) a1) else (none)) else (none)) = some r:=by first|(rw [hy296];with_reducible exact H)|(have H2_:=(Option.bind_some _ _).symm.trans H;rw [hy296];with_reducible exact H2_)|(have H2_:=(Option.bind_some _ _).symm.trans H;with_reducible exact H2_)|with_reducible exact H|(rw [hy296];exact H)|exact H
   have Ny296:=Aside0.mk hy296
   clear hy296
   by_cases c5:0 ≤ a1
   ·rw [if_pos c5] at H
    have c5b0:decide (0 ≤ a1) = true:=decide_eq_true c5
    clear c5
    by_cases c6:a1 < (y296.length:Int)
    ·rw [if_pos c6] at H
     have c6b0:decide (a1 < (y296.length:Int)) = true:=decide_eq_true c6
     clear c6
     obtain ⟨y299,hy299⟩:∃ y_:List Bool,y_ = (y296.set (a1:Int).toNat true):=⟨_,rfl⟩
     replace H:(impl_needed.l0 k l0 y299 a1) = some r:=by first|(rw [hy299];with_reducible exact H)|(have H2_:=(Option.bind_some _ _).symm.trans H;rw [hy299];with_reducible exact H2_)|(have H2_:=(Option.bind_some _ _).symm.trans H;with_reducible exact H2_)|with_reducible exact H|(rw [hy299];exact H)|exact H
     have Ny299:=Aside0.mk hy299
     clear hy299
     have H':=Aside0.mk H
     clear H
     go_enter Try.func68,Try.ntmps68
     go_wp2_with (first|((with_reducible refine gate_dst (N:=14) rfl ?_);refine Kd.R_make Kd.bool _ 4 rfl (N:=14) rfl 108 _ _ rfl (l0.length:Int) rfl rfl Try.underlying108 (.bool false) 1 info4 rfl (by decide) (by first|decide|omega) false (ok:=fun _=>True) (okp:=fun _=>True) rfl (fun _ hk=>hk) trivial (of_decide_eq_true (by first|(with_reducible assumption)|assumption)) (Nat.le_trans (Nat.mul_le_mul_right _ (of_decide_eq_true (by first|(with_reducible assumption)|assumption):(l0.length:Int).toNat ≤ 281474976710656)) (by first|decide|omega)) (Below.refl _ _) (Nat.le_refl _) ?_;intro v297 w8 ho9 hb hg_ hnew_;clear hg_ hnew_;(first|rw [← Ny296.out] at ho9|(simp only [Int.reduceToNat] at ho9;rw [← Ny296.out] at ho9));have n0_:=Aside0.mk (Kd.R_lower ho9 (below_size (by repeat (first|(with_reducible first|exact HB.out|apply below_alloc|apply pw_below_drewN|apply below_drew1)|exact HB.out))));have n1_:=Aside0.mk (below_step (by repeat (first|(with_reducible first|exact HB.out|apply below_alloc|apply pw_below_drewN|apply below_drew1)|exact HB.out)) hb);clear HB;have HO298:=n0_;have HB:=n1_;clear n0_ n1_;clear hb ho9;have p7:0 ≤ (a1:Int):=of_decide_eq_true (by first|(with_reducible assumption)|assumption);have q7:(a1:Int) < ((y296.length:Int):Int):=of_decide_eq_true (by first|(with_reducible assumption)|assumption);obtain ⟨go7,co7,eo7,gb7,gl7,cl7,HG7⟩:=Kd.R_form HO298.out (by omega);(first|cases eo7|(injection eo7 with ea_ en_ ec_;(first|subst ea_|(injection ea_ with ea_;subst ea_));subst ec_;clear en_));have GB7:=Aside0.mk gb7;have GG7:=Aside0.mk HG7;clear gb7 gl7 HG7;obtain ⟨hx7_0,hf7_0⟩:=Kd.R_celln false HO298.out (a1:Int) p7 q7;replace p7:=eq_true p7;replace q7:=eq_true q7;obtain ⟨hy10_,hz10_⟩:=Kd.R_celln false HO298.out (a1:Int) (of_decide_eq_true (by first|(with_reducible assumption)|assumption)) (of_decide_eq_true (by first|(with_reducible assumption)|assumption));have HP10:=Kd.R_putg HO298.out (a1:Int) true)|((with_reducible refine gate_store (t:=4) (p:=17) rfl ?_);refine store_event (t:=4) (p:=17) (v:=?vo_w11) (w1:=(w8.setCell ⟨go7,(a1:Int).toNat,none⟩ (.bool true))) ?hg ?ho ?hn ?hr ?_;(case ho=>rfl);(case hg=>rfl);(case hn=>rfl);(case hr=>first|(go_simp;done)|(go_simp;rfl));intro w11 hw;have hg:w8.grownBy w11 (some go7):=(by rw [hw];exact HP10.2);have hp_:Kd.R Kd.bool 4 w11 w.heap.size (fun _=>True) (.slice (some ⟨go7,0,none⟩) y296.length co7) y299:=(by rw [hw,Ny299.out];exact HP10.1);clear HP10;have n0_:=Aside0.mk (hp_);have n1_:=Aside0.mk ((by rw [hw];exact below_set (HB.out) GB7.out:Below w.heap.size w w11));clear HO298;clear HB;have HO298:=n0_;have HB:=n1_;clear n0_ n1_;clear hg hw hp_))
     go_loopg [6] k (fun kq v6 w'=>∃ (x5_1:List Bool) (x6_1:Int),v6 = .int .i64 x6_1 ∧ Aside0 (impl_needed.l0 kq l0 x5_1 x6_1 = some r) ∧ Aside0 (kq ≤ k) ∧ Aside0 (Kd.R Kd.bool 4 w' w.heap.size (fun _=>True) (.slice (some ⟨go7,0,none⟩) y296.length co7) x5_1) ∧ Aside0 (Below w.heap.size w w'))
     case atStart=>exact ⟨(y299),(a1),(by first|rfl|(simp;done)|(simp [*];done)),H',⟨Nat.le_refl _⟩,⟨by (with_reducible repeat (first|apply Kd.R_alloc|apply Kd.R_drewN|apply Kd.R_drew));exact HO298.out⟩,⟨by repeat (first|(with_reducible first|exact HB.out|apply below_alloc|apply pw_below_drewN|apply below_drew1)|exact HB.out)⟩⟩
     case round =>
      clear H'
      try clear p2
      try clear c3
      try clear c3b0
      try clear c3b1
      try clear c4
      try clear c4b0
      try clear c4b1
      try clear c5
      try clear c5b0
      try clear c6
      try clear c6b0
      try clear p7
      try clear q7
      try clear hx7
      try clear hf7
      try clear hx7_0
      try clear p7
      try clear q7
      obtain ⟨x5_1,x6_1,rfl,HA,HK1,HO_5,HB⟩:=hrel
      have hl5_1:=(Kd.R_reads' HO_5.out).1
      rw [hl5_1] at HO_5
      (try simp only [hl5_1])
      cases gk with
      | zero=>exact absurd HA.out (by simp [impl_needed.l0])
      | succ k1 =>
       have H:=HA.out
       clear HA
       simp only [impl_needed.l0] at H
       by_cases c12:x6_1 ≥ 0
       ·rw [if_pos c12] at H
        have c12b0:decide (0 ≤ x6_1) = true:=decide_eq_true c12
        clear c12
        by_cases c13:0 ≤ x6_1
        ·rw [if_pos c13] at H
         have c13b0:decide (0 ≤ x6_1) = true:=decide_eq_true c13
         clear c13
         by_cases c14:x6_1 < (x5_1.length:Int)
         ·rw [if_pos c14] at H
          have c14b0:decide (x6_1 < (x5_1.length:Int)) = true:=decide_eq_true c14
          clear c14
          obtain ⟨bq15,hbq15⟩:∃ b_:Bool,b_ = (rdOf false x5_1 x6_1):=⟨_,rfl⟩
          replace H:(if bq15 = true then (if x6_1 < (l0.length:Int) then (impl_needed.l1 k1 l0 x5_1 x6_1 ((rd_T83 l0 x6_1).f1) (((rd_T83 l0 x6_1).f1).length:Int) 0) else (none)) else (impl_needed.l0 k1 l0 x5_1 (wrap64 (x6_1 - 1)))) = some r:=by rw [← hbq15] at H;exact H
          have Nbq15:=Aside0.mk hbq15
          clear hbq15
          by_cases c16:bq15 = true
          ·subst c16
           have H1:(if x6_1 < (l0.length:Int) then (impl_needed.l1 k1 l0 x5_1 x6_1 ((rd_T83 l0 x6_1).f1) (((rd_T83 l0 x6_1).f1).length:Int) 0) else (none)) = some r:=by rw [if_pos rfl] at H;exact H
           clear H
           have H:=H1
           clear H1
           by_cases c17:x6_1 < (l0.length:Int)
           ·rw [if_pos c17] at H
            have c17b0:decide (x6_1 < (l0.length:Int)) = true:=decide_eq_true c17
            clear c17
            have H':=Aside0.mk H
            clear H
            have p300:0 ≤ (x6_1:Int):=of_decide_eq_true (by first|(with_reducible assumption)|assumption)
            have q300:x6_1 < (x5_1.length:Int):=of_decide_eq_true (by first|(with_reducible assumption)|assumption)
            obtain ⟨ad300,e300,hx300_0⟩:=Kd.at_bool (Kd.R_reads' HO_5.out).2.2 x6_1 p300 q300
            (try rw [← Nbq15.out] at hx300_0)
            obtain rfl:(⟨go7,0,none⟩:Addr) = ad300:=(by injection e300)
            (first|simp only [add_plain] at hx300_0|simp only [add_at] at hx300_0|simp only [Addr.add,Nat.zero_add] at hx300_0|skip)
            replace p300:=eq_true p300
            replace q300:=eq_true q300
            have p301:0 ≤ (x6_1:Int):=of_decide_eq_true (by first|(with_reducible assumption)|assumption)
            have q301:x6_1 < (l0.length:Int):=of_decide_eq_true (by first|(with_reducible assumption)|assumption)
            obtain ⟨ad301,A301_1,c301_1,A301_2,c301_2,A301_3,c301_3,e301,hx301_0,hx301_1,hx301_2,hx301_3,hl301_1,hi301_1,hl301_2,hi301_2,hl301_3,hi301_3⟩:=at_T83 HR0.out x6_1 p301 q301
            cases e301
            replace hx301_0:=(HB.out.cell (World.block_lt_of_cell? w _ hx301_0)).trans hx301_0
            replace hx301_1:=(HB.out.cell (World.block_lt_of_cell? w _ hx301_1)).trans hx301_1
            replace hx301_2:=(HB.out.cell (World.block_lt_of_cell? w _ hx301_2)).trans hx301_2
            replace hx301_3:=(HB.out.cell (World.block_lt_of_cell? w _ hx301_3)).trans hx301_3
            have HR301_1:=Aside0.mk hi301_1
            have HC301_1:=Aside0.mk hl301_1
            clear hi301_1 hl301_1
            have HR301_2:=Aside0.mk hi301_2
            have HC301_2:=Aside0.mk hl301_2
            clear hi301_2 hl301_2
            have HR301_3:=Aside0.mk hi301_3
            have HC301_3:=Aside0.mk hl301_3
            clear hi301_3 hl301_3
            replace p301:=eq_true p301
            replace q301:=eq_true q301
            go_wp2
            go_loopg [33] k1 (fun kq v33 w'=>∃ (x5_2:List Bool) (x33_2:Int),v33 = .int .i64 x33_2 ∧ Aside0 (impl_needed.l1 kq l0 x5_2 x6_1 ((rd_T83 l0 x6_1).f1) (((rd_T83 l0 x6_1).f1).length:Int) x33_2 = some r) ∧ Aside0 (kq ≤ k1) ∧ Aside0 (Kd.R Kd.bool 4 w' w.heap.size (fun _=>True) (.slice (some ⟨go7,0,none⟩) x5_1.length co7) x5_2) ∧ Aside0 (Below w.heap.size w w'))
            case atStart=>exact ⟨(x5_1),(0),(by first|rfl|(simp;done)|(simp [*];done)),H',⟨Nat.le_refl _⟩,⟨by (try simp only [hl5_1]);(with_reducible repeat (first|apply Kd.R_alloc|apply Kd.R_drewN|apply Kd.R_drew));exact HO_5.out⟩,⟨by repeat (first|(with_reducible first|exact HB.out|apply below_alloc|apply pw_below_drewN|apply below_drew1)|exact HB.out)⟩⟩
            case round =>
             clear H'
             try clear c1
             try clear q1
             try clear p2
             try clear c3
             try clear c3b0
             try clear c3b1
             try clear p3
             try clear q3
             try clear hx3
             try clear c4
             try clear c4b0
             try clear c4b1
             try clear c5
             try clear c5b0
             try clear c6
             try clear c6b0
             try clear p6
             try clear p7
             try clear q7
             try clear hx7
             try clear hf7
             try clear c12
             try clear c12b0
             try clear c13
             try clear c13b0
             try clear c14
             try clear c14b0
             try clear q15
             try clear c16
             try clear c17
             try clear c17b0
             try clear hx300_0
             try clear hx301_0
             try clear hx301_1
             try clear hx301_2
             try clear hx301_3
             try clear hx7_0
             try clear p2
             try clear p300
             try clear p301
             try clear p7
             try clear q300
             try clear q301
             try clear q7
             obtain ⟨x5_2,x33_2,rfl,HA,HK2,HO_5,HB⟩:=hrel
             have hl5_2:=(Kd.R_reads' HO_5.out).1
             rw [hl5_2] at HO_5
             (try simp only [hl5_2])
             cases gk with
             | zero=>exact absurd HA.out (by simp [impl_needed.l1])
             | succ k2 =>
              have H:=HA.out
              clear HA
              simp only [impl_needed.l1] at H
              by_cases c18:x33_2 < (((rd_T83 l0 x6_1).f1).length:Int)
              ·rw [if_pos c18] at H
               have c18b0:decide (x33_2 < (((rd_T83 l0 x6_1).f1).length:Int)) = true:=decide_eq_true c18
               clear c18
               by_cases c19:0 ≤ x33_2
               ·rw [if_pos c19] at H
                have c19b0:decide (0 ≤ x33_2) = true:=decide_eq_true c19
                clear c19
                by_cases c20:x33_2 < (((rd_T83 l0 x6_1).f1).length:Int)
                ·rw [if_pos c20] at H
                 have c20b0:decide (x33_2 < (((rd_T83 l0 x6_1).f1).length:Int)) = true:=decide_eq_true c20
                 clear c20
                 by_cases c21:0 ≤ (rd ((rd_T83 l0 x6_1).f1) x33_2)
                 ·rw [if_pos c21] at H
                  have c21b0:decide (0 ≤ (rd ((rd_T83 l0 x6_1).f1) x33_2)) = true:=decide_eq_true c21
                  clear c21
                  by_cases c22:(rd ((rd_T83 l0 x6_1).f1) x33_2) < (x5_2.length:Int)
                  ·rw [if_pos c22] at H
                   have c22b0:decide ((rd ((rd_T83 l0 x6_1).f1) x33_2) < (x5_2.length:Int)) = true:=decide_eq_true c22
                   clear c22
                   obtain ⟨y303,hy303⟩:∃ y_:List Bool,y_ = (x5_2.set ((rd ((rd_T83 l0 x6_1).f1) x33_2):Int).toNat true):=⟨_,rfl⟩
                   replace H:(impl_needed.l1 k2 l0 y303 x6_1 ((rd_T83 l0 x6_1).f1) (((rd_T83 l0 x6_1).f1).length:Int) (wrap64 (x33_2 + 1))) = some r:=by first|(rw [hy303];with_reducible exact H)|(have H2_:=(Option.bind_some _ _).symm.trans H;rw [hy303];with_reducible exact H2_)|(have H2_:=(Option.bind_some _ _).symm.trans H;with_reducible exact H2_)|with_reducible exact H|(rw [hy303];exact H)|exact H
                   have Ny303:=Aside0.mk hy303
                   clear hy303
                   have H':=Aside0.mk H
                   clear H
                   have p302:0 ≤ (x33_2:Int):=of_decide_eq_true (by first|(with_reducible assumption)|assumption)
                   have q302:x33_2 < (((rd_T83 l0 x6_1).f1).length:Int):=of_decide_eq_true (by first|(with_reducible assumption)|assumption)
                   obtain ⟨ad302,e302,hx302_0⟩:=Kd.at_int HR301_1.out x33_2 p302 q302
                   cases e302
                   replace hx302_0:=(HB.out.cell (World.block_lt_of_cell? w _ hx302_0)).trans hx302_0
                   replace p302:=eq_true p302
                   replace q302:=eq_true q302
                   have p23:0 ≤ ((rd ((rd_T83 l0 x6_1).f1) x33_2):Int):=of_decide_eq_true (by first|(with_reducible assumption)|assumption)
                   have q23:((rd ((rd_T83 l0 x6_1).f1) x33_2):Int) < ((x5_2.length:Int):Int):=of_decide_eq_true (by first|(with_reducible assumption)|assumption)
                   obtain ⟨hx23_0,hf23_0⟩:=Kd.R_celln false HO_5.out ((rd ((rd_T83 l0 x6_1).f1) x33_2):Int) p23 q23
                   replace p23:=eq_true p23
                   replace q23:=eq_true q23
                   have HP24:=Kd.R_putg HO_5.out ((rd ((rd_T83 l0 x6_1).f1) x33_2):Int) true
                   go_wp2_with (first|((with_reducible refine gate_store (t:=4) (p:=39) rfl ?_);refine store_event (t:=4) (p:=39) (v:=?vo_w25) (w1:=(wr.setCell ⟨go7,((rd ((rd_T83 l0 x6_1).f1) x33_2):Int).toNat,none⟩ (.bool true))) ?hg ?ho ?hn ?hr ?_;(case ho=>rfl);(case hg=>rfl);(case hn=>rfl);(case hr=>first|(go_simp;done)|(go_simp;rfl));intro w25 hw;have hg:wr.grownBy w25 (some go7):=(by rw [hw];exact HP24.2);have hp_:Kd.R Kd.bool 4 w25 w.heap.size (fun _=>True) (.slice (some ⟨go7,0,none⟩) x5_2.length co7) y303:=(by rw [hw,Ny303.out];exact HP24.1);clear HP24;have n0_:=Aside0.mk (hp_);have n1_:=Aside0.mk ((by rw [hw];exact below_set (HB.out) GB7.out:Below w.heap.size w w25));clear HO_5;clear HB;have HO_5:=n0_;have HB:=n1_;clear n0_ n1_;clear hg hw hp_))
                   (try simp only [← hl5_2])
                   go_roundg k2
                   case measure=>have:=HK1.out;have:=HK2.out;omega
                   case rel=>exact ⟨(y303),(wrap64 (x33_2 + 1)),(by first|rfl|(simp;done)|(simp [*];done)),H',⟨by have:=HK1.out;have:=HK2.out;omega⟩,⟨by (try simp only [hl5_1]);(try simp only [hl5_2]);(with_reducible repeat (first|apply Kd.R_alloc|apply Kd.R_drewN|apply Kd.R_drew));exact HO_5.out⟩,⟨by repeat (first|(with_reducible first|exact HB.out|apply below_alloc|apply pw_below_drewN|apply below_drew1)|exact HB.out)⟩⟩
                  ·rw [if_neg c22] at H
                   exact absurd H (by simp)
                 ·rw [if_neg c21] at H
                  exact absurd H (by simp)
                ·rw [if_neg c20] at H
                 exact absurd H (by simp)
               ·rw [if_neg c19] at H
                exact absurd H (by simp)
              ·rw [if_neg c18] at H
               have c18b0:decide (x33_2 < (((rd_T83 l0 x6_1).f1).length:Int)) = false:=decide_eq_false c18
               clear c18
               have H':=Aside0.mk H
               clear H
               go_wp2
               (try simp only [← hl5_1,← hl5_2])
               go_roundg k2
               case measure=>have:=HK1.out;have:=HK2.out;omega
               case rel=>exact ⟨(x5_2),(wrap64 (x6_1 - 1)),(by first|rfl|(simp;done)|(simp [*];done)),H',⟨by have:=HK1.out;have:=HK2.out;omega⟩,⟨by (try simp only [hl5_1]);(try simp only [hl5_2]);(with_reducible repeat (first|apply Kd.R_alloc|apply Kd.R_drewN|apply Kd.R_drew));exact HO_5.out⟩,⟨by repeat (first|(with_reducible first|exact HB.out|apply below_alloc|apply pw_below_drewN|apply below_drew1)|exact HB.out)⟩⟩
           ·rw [if_neg c17] at H
            exact absurd H (by simp)
          ·replace c16:=Bool.eq_false_iff.mpr c16
           subst c16
           have H1:(impl_needed.l0 k1 l0 x5_1 (wrap64 (x6_1 - 1))) = some r:=by rw [if_neg (show ¬ (false = true) by decide)] at H;exact H
           clear H
           have H:=H1
           clear H1
           have H':=Aside0.mk H
           clear H
           have p300:0 ≤ (x6_1:Int):=of_decide_eq_true (by first|(with_reducible assumption)|assumption)
           have q300:x6_1 < (x5_1.length:Int):=of_decide_eq_true (by first|(with_reducible assumption)|assumption)
           obtain ⟨ad300,e300,hx300_0⟩:=Kd.at_bool (Kd.R_reads' HO_5.out).2.2 x6_1 p300 q300
           (try rw [← Nbq15.out] at hx300_0)
           obtain rfl:(⟨go7,0,none⟩:Addr) = ad300:=(by injection e300)
           (first|simp only [add_plain] at hx300_0|simp only [add_at] at hx300_0|simp only [Addr.add,Nat.zero_add] at hx300_0|skip)
           replace p300:=eq_true p300
           replace q300:=eq_true q300
           go_wp2
           (try simp only [← hl5_1])
           go_roundg k1
           case measure=>have:=HK1.out;omega
           case rel=>exact ⟨(x5_1),(wrap64 (x6_1 - 1)),(by first|rfl|(simp;done)|(simp [*];done)),H',⟨by have:=HK1.out;omega⟩,⟨by (try simp only [hl5_1]);(with_reducible repeat (first|apply Kd.R_alloc|apply Kd.R_drewN|apply Kd.R_drew));exact HO_5.out⟩,⟨by repeat (first|(with_reducible first|exact HB.out|apply below_alloc|apply pw_below_drewN|apply below_drew1)|exact HB.out)⟩⟩
         ·rw [if_neg c14] at H
          exact absurd H (by simp)
        ·rw [if_neg c13] at H
         exact absurd H (by simp)
       ·rw [if_neg c12] at H
        have c12b0:decide (0 ≤ x6_1) = false:=decide_eq_false c12
        clear c12
        have H':=Aside0.mk H
        clear H
        go_wp2
        go_loopg [9,43] k1 (fun kq v9 v43 w'=>∃ (x9_2:List Int) (x43_2:Int),v43 = .int .i64 x43_2 ∧ Aside0 (impl_needed.l2 kq x9_2 x5_1 (x5_1.length:Int) x43_2 = some r) ∧ Aside0 (kq ≤ k1) ∧ Aside0 (Kd.R (Kd.int .i64) 3 w' w.heap.size (fun _=>True) v9 x9_2) ∧ Aside0 (Kd.R Kd.bool 4 w' w.heap.size (fun _=>True) (.slice (some ⟨go7,0,none⟩) x5_1.length co7) x5_1) ∧ Aside0 (Below w.heap.size w w'))
        case atStart=>exact ⟨(([]:List Int)),(0),(by first|rfl|(simp;done)|(simp [*];done)),H',⟨Nat.le_refl _⟩,⟨by (try simp only [hl5_1]);first|exact Kd.R_nil _ _ _ _ _|exact Kd.N_nil _ _ _ _ _|exact Kd.V_nil _ _ _ _ _|exact Kd.Q_nil _ _ _ _ _|exact Kd.S_nil _ _ _ _ _⟩,⟨by (try simp only [hl5_1]);(with_reducible repeat (first|apply Kd.R_alloc|apply Kd.R_drewN|apply Kd.R_drew));exact HO_5.out⟩,⟨by repeat (first|(with_reducible first|exact HB.out|apply below_alloc|apply pw_below_drewN|apply below_drew1)|exact HB.out)⟩⟩
        case round =>
         clear H'
         try clear c1
         try clear q1
         try clear c2
         try clear p2
         try clear q2
         try clear hx2
         try clear hf2
         try clear c3
         try clear c3b0
         try clear c3b1
         try clear p3
         try clear q3
         try clear hx3
         try clear c4
         try clear c4b0
         try clear c4b1
         try clear c5
         try clear c5b0
         try clear c6
         try clear c6b0
         try clear p6
         try clear p7
         try clear q7
         try clear hx7
         try clear hf7
         try clear c12
         try clear c12b0
         try clear c13
         try clear c13b0
         try clear c14
         try clear c14b0
         try clear q15
         try clear c16
         try clear c17
         try clear c17b0
         try clear c18
         try clear c18b0
         try clear c19
         try clear c19b0
         try clear c20
         try clear c20b0
         try clear c21
         try clear c21b0
         try clear c22
         try clear c22b0
         try clear p23
         try clear q23
         try clear hx23
         try clear hf23
         try clear hx23_0
         try clear hx300_0
         try clear hx301_0
         try clear hx301_1
         try clear hx301_2
         try clear hx301_3
         try clear hx302_0
         try clear hx7_0
         try clear p2
         try clear p23
         try clear p3
         try clear p300
         try clear p301
         try clear p302
         try clear p6
         try clear p7
         try clear q1
         try clear q15
         try clear q23
         try clear q3
         try clear q300
         try clear q301
         try clear q302
         try clear q7
         obtain ⟨x9_2,x43_2,rfl,HA,HK2,HO_9,HO_41,HB⟩:=hrel
         cases gk with
         | zero=>exact absurd HA.out (by simp [impl_needed.l2])
         | succ k2 =>
          have H:=HA.out
          clear HA
          simp only [impl_needed.l2] at H
          by_cases c26:x43_2 < (x5_1.length:Int)
          ·rw [if_pos c26] at H
           have c26b0:decide (x43_2 < (x5_1.length:Int)) = true:=decide_eq_true c26
           clear c26
           by_cases c27:0 ≤ x43_2
           ·rw [if_pos c27] at H
            have c27b0:decide (0 ≤ x43_2) = true:=decide_eq_true c27
            clear c27
            by_cases c28:x43_2 < (x5_1.length:Int)
            ·rw [if_pos c28] at H
             have c28b0:decide (x43_2 < (x5_1.length:Int)) = true:=decide_eq_true c28
             clear c28
             obtain ⟨bq29,hbq29⟩:∃ b_:Bool,b_ = (rdOf false x5_1 x43_2):=⟨_,rfl⟩
             replace H:(if bq29 = true then (if x9_2.length < 17592186044416 then (impl_needed.l2 k2 (x9_2 ++ [x43_2]) x5_1 (x5_1.length:Int) (wrap64 (x43_2 + 1))) else (none)) else (impl_needed.l2 k2 x9_2 x5_1 (x5_1.length:Int) (wrap64 (x43_2 + 1)))) = some r:=by rw [← hbq29] at H;exact H
             have Nbq29:=Aside0.mk hbq29
             clear hbq29
             by_cases c30:bq29 = true
             ·subst c30
              have H1:(if x9_2.length < 17592186044416 then (impl_needed.l2 k2 (x9_2 ++ [x43_2]) x5_1 (x5_1.length:Int) (wrap64 (x43_2 + 1))) else (none)) = some r:=by rw [if_pos rfl] at H;exact H
              clear H
              have H:=H1
              clear H1
              by_cases c31:x9_2.length < 17592186044416
              ·rw [if_pos c31] at H
               have LMc31:=Aside0.mk c31
               clear c31
               obtain ⟨y305,hy305⟩:∃ y_:List Int,y_ = (x9_2 ++ [x43_2]):=⟨_,rfl⟩
               replace H:(impl_needed.l2 k2 y305 x5_1 (x5_1.length:Int) (wrap64 (x43_2 + 1))) = some r:=by first|(rw [hy305];with_reducible exact H)|(have H2_:=(Option.bind_some _ _).symm.trans H;rw [hy305];with_reducible exact H2_)|(have H2_:=(Option.bind_some _ _).symm.trans H;with_reducible exact H2_)|with_reducible exact H|(rw [hy305];exact H)|exact H
               have Ny305:=Aside0.mk hy305
               clear hy305
               have H':=Aside0.mk H
               clear H
               have p304:0 ≤ (x43_2:Int):=of_decide_eq_true (by first|(with_reducible assumption)|assumption)
               have q304:x43_2 < (x5_1.length:Int):=of_decide_eq_true (by first|(with_reducible assumption)|assumption)
               obtain ⟨ad304,e304,hx304_0⟩:=Kd.at_bool (Kd.R_reads' HO_41.out).2.2 x43_2 p304 q304
               (try rw [← Nbq29.out] at hx304_0)
               obtain rfl:(⟨go7,0,none⟩:Addr) = ad304:=(by injection e304)
               (first|simp only [add_plain] at hx304_0|simp only [add_at] at hx304_0|simp only [Addr.add,Nat.zero_add] at hx304_0|skip)
               replace p304:=eq_true p304
               replace q304:=eq_true q304
               go_wp2_with (first|((with_reducible refine gate_builtin (b:=.append) (xs:=#[.tmp 49,.tmp 51]) rfl ?_);at_builtin;refine Kd.R_append (Kd.int .i64) (w0:=w) w.heap.size rfl (.tmp 49) (.tmp 51) 22 3 (.int .i64 0) 8 rfl Try.underlying22 info3 rfl (by decide) (by first|decide|omega) u9 x9_2 x43_2 [.int .i64 x43_2] (fun _=>True) (fun _=>False) rfl rfl ?aP (fun _ hk=>hk.elim) ?aF ?aO ?aB ?aS ?aL ?_;(case aP=>exact rfl);(case aB=>exact (by repeat (first|(with_reducible first|exact HB.out|apply below_alloc|apply pw_below_drewN|apply below_drew1)|exact HB.out)));(case aF=>exact (fun _ _=>trivial));(case aO=>exact (by (with_reducible repeat (first|apply Kd.R_alloc|apply Kd.R_drewN|apply Kd.R_drew));exact HO_9.out));(case aS=>exact (below_size (by repeat (first|(with_reducible first|exact HB.out|apply below_alloc|apply pw_below_drewN|apply below_drew1)|exact HB.out))));(case aL=>have:=LMc31.out;omega);intro v306 w32 ho hb hg hat;rw [← Ny305.out] at ho;have n0_:=Aside0.mk (Kd.R_over' (by (with_reducible repeat (first|apply Kd.R_alloc|apply Kd.R_drewN|apply Kd.R_drew));exact HO_41.out) (Kd.R_typed (by (with_reducible repeat (first|apply Kd.R_alloc|apply Kd.R_drewN|apply Kd.R_drew));exact HO_9.out)) (by decide) hg);have n1_:=Aside0.mk (hb);have n2_:=Aside0.mk (ho);clear HO_41;clear HB;clear HO_9;have HO_41:=n0_;have HB:=n1_;have HO307:=n2_;clear n0_ n1_ n2_;clear ho hb hg hat))
               go_roundg k2
               case measure=>have:=HK1.out;have:=HK2.out;omega
               case rel=>exact ⟨(y305),(wrap64 (x43_2 + 1)),(by first|rfl|(simp;done)|(simp [*];done)),H',⟨by have:=HK1.out;have:=HK2.out;omega⟩,⟨by (try simp only [hl5_1]);(with_reducible repeat (first|apply Kd.R_alloc|apply Kd.R_drewN|apply Kd.R_drew));exact HO307.out⟩,⟨by (try simp only [hl5_1]);(with_reducible repeat (first|apply Kd.R_alloc|apply Kd.R_drewN|apply Kd.R_drew));exact HO_41.out⟩,⟨by repeat (first|(with_reducible first|exact HB.out|apply below_alloc|apply pw_below_drewN|apply below_drew1)|exact HB.out)⟩⟩
              ·rw [if_neg c31] at H
               exact absurd H (by simp)
             ·replace c30:=Bool.eq_false_iff.mpr c30
              subst c30
              have H1:(impl_needed.l2 k2 x9_2 x5_1 (x5_1.length:Int) (wrap64 (x43_2 + 1))) = some r:=by rw [if_neg (show ¬ (false = true) by decide)] at H;exact H
              clear H
              have H:=H1
              clear H1
              have H':=Aside0.mk H
              clear H
              have p304:0 ≤ (x43_2:Int):=of_decide_eq_true (by first|(with_reducible assumption)|assumption)
              have q304:x43_2 < (x5_1.length:Int):=of_decide_eq_true (by first|(with_reducible assumption)|assumption)
              obtain ⟨ad304,e304,hx304_0⟩:=Kd.at_bool (Kd.R_reads' HO_41.out).2.2 x43_2 p304 q304
              (try rw [← Nbq29.out] at hx304_0)
              obtain rfl:(⟨go7,0,none⟩:Addr) = ad304:=(by injection e304)
              (first|simp only [add_plain] at hx304_0|simp only [add_at] at hx304_0|simp only [Addr.add,Nat.zero_add] at hx304_0|skip)
              replace p304:=eq_true p304
              replace q304:=eq_true q304
              go_wp2
              go_roundg k2
              case measure=>have:=HK1.out;have:=HK2.out;omega
              case rel=>exact ⟨(x9_2),(wrap64 (x43_2 + 1)),(by first|rfl|(simp;done)|(simp [*];done)),H',⟨by have:=HK1.out;have:=HK2.out;omega⟩,⟨by (try simp only [hl5_1]);(with_reducible repeat (first|apply Kd.R_alloc|apply Kd.R_drewN|apply Kd.R_drew));exact HO_9.out⟩,⟨by (try simp only [hl5_1]);(with_reducible repeat (first|apply Kd.R_alloc|apply Kd.R_drewN|apply Kd.R_drew));exact HO_41.out⟩,⟨by repeat (first|(with_reducible first|exact HB.out|apply below_alloc|apply pw_below_drewN|apply below_drew1)|exact HB.out)⟩⟩
            ·rw [if_neg c28] at H
             exact absurd H (by simp)
           ·rw [if_neg c27] at H
            exact absurd H (by simp)
          ·rw [if_neg c26] at H
           have c26b0:decide (x43_2 < (x5_1.length:Int)) = false:=decide_eq_false c26
           clear c26
           obtain rfl:=Option.some.inj H
           go_wp2
           go_ret
           exact ⟨_,by first|rfl|(simp [errW_none,errW_some] <;> rfl)|(simp [*,errW_none,errW_some] <;> rfl),by (with_reducible repeat (first|apply Kd.R_alloc|apply Kd.R_drewN|apply Kd.R_drew));exact HO_9.out,by repeat (first|(with_reducible first|exact HB.out|apply below_alloc|apply pw_below_drewN|apply below_drew1)|exact HB.out)⟩
    ·rw [if_neg c6] at H
     exact absurd H (by simp)
   ·rw [if_neg c5] at H
    exact absurd H (by simp)
  ·rw [if_neg c4] at H
   exact absurd H (by simp)
 ·rw [if_neg c3] at H
  exact absurd H (by simp)

/-! ### impl_GoodSign_1: function 93 -/
def impl_GoodSign_1.f (a0:Int):Option (Bool):=if a0 < 0 then (some true) else (some (decide (a0 > 3)))
set_option maxHeartbeats 8000000 in
set_option maxRecDepth 100000 in
theorem impl_GoodSign_1.calls (a0:Int) (r:Bool) (w:World) (h:impl_GoodSign_1.f a0 = some r) :
  Calls Try.prog 93 #[.int .i64 a0] w fun e w'=>e = .returned (.bool r) ∧ Drawn0 w w':=by
 have H:(if a0 < 0 then (some true) else (some (decide (a0 > 3)))) = some r:=h
 clear h
 by_cases c2:a0 < 0
 ·rw [if_pos c2] at H
  have c2b0:decide (a0 < 0) = true:=decide_eq_true c2
  clear c2
  obtain rfl:=Option.some.inj H
  go_enter Try.func93,Try.ntmps93
  go_wp2
  go_ret
  exact ⟨by first|rfl|(simp;done)|(simp [*];done),by repeat (first|exact Drawn0.refl _|apply Drawn0.step)⟩
 ·rw [if_neg c2] at H
  have c2b0:decide (a0 < 0) = false:=decide_eq_false c2
  clear c2
  obtain rfl:=Option.some.inj H
  go_enter Try.func93,Try.ntmps93
  go_wp2
  go_ret
  exact ⟨by first|rfl|(simp;done)|(simp [*];done),by repeat (first|exact Drawn0.refl _|apply Drawn0.step)⟩

/-! ### slices.ContainsFunc and IndexFunc, told -/
/-- The place of the first element of which f holds, told from i on; -1. -/
def idxO {α:Type} (f:α → Option Bool):Int → List α → Option Int
  | _,[]=>some (-1)
  | i,x :: t=>(f x).bind fun b=>if b = true then some i else idxO f (i + 1) t
/-- Does f hold of an element? -/
def anyO {α:Type} (f:α → Option Bool):List α → Option Bool
  | []=>some false
  | x :: t=>(f x).bind fun b=>if b = true then some true else anyO f t
theorem idxO_any {α:Type} (f:α → Option Bool) (l:List α):∀ (i:Int) (r:Bool),0 ≤ i → anyO f l = some r → ∃ j,idxO f i l = some j ∧ r = decide (0 ≤ j):=by
  induction l with
  | nil=>intro i r hi h;exact ⟨-1,rfl,by simpa [anyO] using h.symm⟩
  | cons x t ih =>
    intro i r hi h
    simp only [anyO] at h
    simp only [idxO]
    cases hx:f x with
    | none=>rw [hx] at h;simp at h
    | some b =>
      rw [hx] at h
      cases b with
      | true=>simp at h;exact ⟨i,by simp,by simp [hi,← h]⟩
      | false =>
        simp at h
        obtain ⟨j,h1,h2⟩:=ih (i + 1) r (by omega) h
        exact ⟨j,by simpa using h1,h2⟩
theorem anyO_mono {α:Type} {f g:α → Option Bool} (h:∀ x,LeO (f x) (g x)) (l:List α):LeO (anyO f l) (anyO g l):=by
  induction l with
  | nil=>exact LeO.refl _
  | cons x t ih =>
    simp only [anyO]
    exact LeO.bind (h x) (fun b=>LeO.ite (LeO.refl _) ih)
theorem idxO_mono {α:Type} {f g:α → Option Bool} (h:∀ x,LeO (f x) (g x)) (l:List α):∀ i,LeO (idxO f i l) (idxO g i l):=by
  induction l with
  | nil=>exact fun _=>LeO.refl _
  | cons x t ih =>
    intro i
    simp only [idxO]
    exact LeO.bind (h x) (fun b=>LeO.ite (LeO.refl _) (ih _))

/-! ### slices_IndexFunc: function 120 -/
set_option maxHeartbeats 2000000 in
set_option maxRecDepth 100000 in
theorem idx120 (g:Nat) (lb:Array Value) (eg:∀ args w,(callFunc g args).run Try.prog w = .ok (.enter g args) w) (f:Int → Option Bool) (A:Option Addr) (c:Nat) (l:List Int) (r:Int) (w:World) (hr:Kd.C (Kd.int .i64) w A l.length l) (hc:l.length ≤ c)
    (hp:∀ (W:World) (x:Int) (b:Bool),Below w.heap.size w W → f x = some b → Calls Try.prog g (#[.int .i64 x] ++ lb) W fun e w'=>e = .returned (.bool b) ∧ Below W.heap.size W w')
    (h:idxO f 0 l = some r) :
    Calls Try.prog 120 #[.slice A l.length c,.func (.func g) #[] lb] w fun e w'=>e = .returned (.int .i64 r) ∧ Below w.heap.size w w':=by
  have HR:=Aside0.mk hr
  have HP:=Aside0.mk hp
  have HL:=Aside0.mk hr.2.1
  have H:=Aside0.mk h
  clear hr hp h hc
  go_enter Try.func120,Try.ntmps120
  go_wp2
  go_loopg [5,8] (l.length + 1) (fun kq _ v8 w'=>∃ kk:Nat,v8 = .int .i64 kk ∧ Aside0 (kk ≤ l.length ∧ l.length + 1 ≤ kq + kk) ∧ Aside0 (idxO f kk (l.drop kk) = some r) ∧ Aside0 (Below w.heap.size w w'))
  case atStart=>exact ⟨0,rfl,⟨Nat.zero_le _,by omega⟩,⟨by simpa using H.out⟩,⟨Below.refl _ _⟩⟩
  case round =>
    obtain ⟨kk,rfl,HK,HI,HB⟩:=hrel
    have hkk:=HK.out.1
    by_cases hlt:kk < l.length
    · have hd:l.drop kk = l[kk] :: l.drop (kk + 1):=List.drop_eq_getElem_cons hlt
      have hi:=HI.out
      rw [hd] at hi
      simp only [idxO] at hi
      obtain ⟨b,hb,hi⟩:=Option.bind_eq_some_iff.1 hi
      have HW:=Aside0.mk (show wrap64 ((kk:Int) + 1) = ((kk + 1:Nat):Int) from by have:=HL.out;unfold wrap64;omega)
      have p:0 ≤ (kk:Int):=by omega
      have q:(kk:Int) < (l.length:Int):=by omega
      have q1:decide (kk < l.length) = true:=decide_eq_true hlt
      have q2:decide ((kk:Int) < (l.length:Int)) = true:=decide_eq_true q
      obtain ⟨ad,e1,hx0⟩:=Kd.at_int HR.out (kk:Int) p q
      cases e1
      have hrd:rd l (kk:Int) = l[kk]:=by unfold rd;simp [List.getD_eq_getElem?_getD,List.getElem?_eq_getElem hlt]
      rw [hrd] at hx0
      clear hrd
      replace hx0:=(HB.out.cell (World.block_lt_of_cell? w _ hx0)).trans hx0
      rw [Int.toNat_natCast] at hx0
      generalize hy:l[kk] = y at hx0 hb
      clear hy hd
      have HC:=Aside0.mk (HP.out wr y b HB.out hb)
      clear HI hkk
      cases b with
      | true =>
        have HE:=Aside0.mk (Option.some.inj hi)
        clear hi hb
        go_wp2_with fail
        refine HC.out.mono ?_
        rintro e w' ⟨rfl,hb'⟩
        have HB2:=Aside0.mk (below_step HB.out hb')
        clear HB hb' HC hx0
        have HB:=HB2
        clear HB2
        go_wp2_with fail
        go_ret
        exact ⟨by rw [← HE.out];rfl,HB.out⟩
      | false =>
        have HE:=Aside0.mk hi
        clear hi hb
        go_wp2_with fail
        refine HC.out.mono ?_
        rintro e w' ⟨rfl,hb'⟩
        have HB2:=Aside0.mk (below_step HB.out hb')
        clear HB hb' HC hx0
        have HB:=HB2
        clear HB2
        go_wp2_with fail
        go_roundg (l.length - kk)
        case measure=>have:=HK.out;omega
        case rel=>exact ⟨kk + 1,by rw [HW.out],⟨by have:=HK.out;omega⟩,⟨by rw [show ((kk + 1:Nat):Int) = (kk:Int) + 1 from by omega];simpa using HE.out⟩,HB⟩
    · have HE:=Aside0.mk (show -1 = r from by have:=HI.out;rw [List.drop_eq_nil_of_le (by omega)] at this;simp [idxO] at this;exact this)
      have q1:decide (kk < l.length) = false:=decide_eq_false hlt
      have q2:decide ((kk:Int) < (l.length:Int)) = false:=decide_eq_false (by omega)
      clear HI hkk
      go_wp2
      go_ret
      exact ⟨by rw [← HE.out];rfl,HB.out⟩

/-! ### slices_ContainsFunc: function 92 -/
set_option maxHeartbeats 2000000 in
theorem any92 (g:Nat) (lb:Array Value) (eg:∀ args w,(callFunc g args).run Try.prog w = .ok (.enter g args) w) (f:Int → Option Bool) (A:Option Addr) (c:Nat) (l:List Int) (r:Bool) (w:World) (hr:Kd.C (Kd.int .i64) w A l.length l) (hc:l.length ≤ c)
    (hp:∀ (W:World) (x:Int) (b:Bool),Below w.heap.size w W → f x = some b → Calls Try.prog g (#[.int .i64 x] ++ lb) W fun e w'=>e = .returned (.bool b) ∧ Below W.heap.size W w')
    (h:anyO f l = some r) :
    Calls Try.prog 92 #[.slice A l.length c,.func (.func g) #[] lb] w fun e w'=>e = .returned (.bool r) ∧ Below w.heap.size w w':=by
  obtain ⟨j,hj,hr2⟩:=idxO_any f l 0 r (Int.le_refl _) h
  have HR:=Aside0.mk hr2
  have HC:=Aside0.mk (fun W hW=>idx120 g lb eg f A c l j W (Kd.C_below hr hW) hc (fun W' x b h1=>hp W' x b (hW.trans (h1.mono hW.size))) hj)
  clear hr hp h hc hj hr2 eg
  go_enter Try.func92,Try.ntmps92
  go_wp2_with fail
  refine (HC.out _ (Below.refl _ _)).mono ?_
  rintro e w' ⟨rfl,hb⟩
  have HB:=Aside0.mk hb
  clear hb HC
  go_wp2
  go_ret
  exact ⟨by rw [HR.out];rfl,HB.out⟩

/-! ### impl_GoodSign_1_any: function 1000000 -/
def impl_GoodSign_1_any.f (l0:List Int):Option (Bool):=anyO (fun x=>impl_GoodSign_1.f x) l0
theorem impl_GoodSign_1_any.calls (A0:Option Addr) (c0:Nat) (l0:List Int) (r:Bool) (w:World) (hr0:Kd.C (Kd.int .i64) w A0 l0.length l0) (hc0:l0.length ≤ c0) (h:impl_GoodSign_1_any.f l0 = some r) :
    Calls Try.prog 92 #[.slice A0 l0.length c0,.func (.func 93) #[] #[]] w fun e w'=>e = .returned (.bool r) ∧ Below w.heap.size w w':=by
  exact any92 93 #[] (enters_of Try.func93 (by kernel_rfl) rfl) (fun x=>impl_GoodSign_1.f x) A0 c0 l0 r w hr0 hc0 (fun W x b hW hx=>(impl_GoodSign_1.calls x b W    hx).mono fun _ _ h_=>⟨h_.1,h_.2.below⟩) h

/-! ### impl_GoodSign: function 59 -/
def impl_GoodSign.f (l0_0:List Int):Option (Bool):=if (l0_0.length:Int) < 1 then (some false) else (if (l0_0.length:Int) > 10 then (some false) else (if 0 < (l0_0.length:Int) then (if (rd l0_0 0) = 0 then ((impl_GoodSign_1_any.f l0_0).bind fun t310=>(some (!t310))) else (some false)) else (none)))
set_option maxHeartbeats 8000000 in
set_option maxRecDepth 100000 in
theorem impl_GoodSign.calls (A0_0:Option Addr) (c0_0:Nat) (l0_0:List Int) (r:Bool) (w:World) (hr0_0:Kd.C (Kd.int .i64) w A0_0 l0_0.length l0_0) (hc0_0:l0_0.length ≤ c0_0) (h:impl_GoodSign.f l0_0 = some r) :
  Calls Try.prog 59 #[.agg #[.slice A0_0 l0_0.length c0_0]] w fun e w'=>e = .returned (.bool r) ∧ Below w.heap.size w w':=by
 have hu30:=Try.underlying30
 have HR0_0:=Aside0.mk hr0_0
 have HC0_0:=Aside0.mk hc0_0
 clear hr0_0 hc0_0
 have HB:=Aside0.mk (Below.refl w.heap.size w)
 have H:(if (l0_0.length:Int) < 1 then (some false) else (if (l0_0.length:Int) > 10 then (some false) else (if 0 < (l0_0.length:Int) then (if (rd l0_0 0) = 0 then ((impl_GoodSign_1_any.f l0_0).bind fun t310=>(some (!t310))) else (some false)) else (none)))) = some r:=h
 clear h
 by_cases c2:(l0_0.length:Int) < 1
 ·rw [if_pos c2] at H
  have c2b0:decide ((l0_0.length:Int) < 1) = true:=decide_eq_true c2
  have c2b1:decide (l0_0.length < 1) = true:=decide_eq_true (by omega)
  clear c2
  obtain rfl:=Option.some.inj H
  go_enter Try.func59,Try.ntmps59
  go_wp2_with (first|((with_reducible refine gate_dst (N:=1) rfl ?_);(try (refine gate_guard (by rfl) ?_;dsimp only));refine box_event ?hg (N:=1) ?hd (cs:=#[.slice A0_0 l0_0.length c0_0]) (t:=30) ?hr ?_;(case hd=>rfl);(case hg=>rfl);(case hr=>first|(go_simp;done)|(go_simp;rfl));intro gb308 hg w3 hbox hb;have n0_:=Aside0.mk (below_step (by repeat (first|(with_reducible first|exact HB.out|apply below_alloc|apply pw_below_drewN|apply below_drew1)|exact HB.out)) hb);have n1_:=Aside0.mk (hbox);have n2_:=Aside0.mk ((by rw [hg];exact (below_size (by repeat (first|(with_reducible first|exact HB.out|apply below_alloc|apply pw_below_drewN|apply below_drew1)|exact HB.out))):w.heap.size ≤ gb308));have n3_:=Aside0.mk ((by rw [hg];exact (below_size (by repeat (first|(with_reducible first|exact HB.out|apply below_alloc|apply pw_below_drewN|apply below_drew1)|exact HB.out))):w.heap.size ≤ gb308));clear HB;have HB:=n0_;have BK308:=n1_;have GW308:=n2_;have GE308:=n3_;clear n0_ n1_ n2_ n3_;clear hb hbox hg;have hcz4_0:w3.cell? ⟨gb308,0,none⟩ = some (.slice A0_0 l0_0.length c0_0):=(blk_cell BK308.out 0).trans rfl;have hfz4_0:=blk_frozen BK308.out 0))
  go_ret
  exact ⟨by first|rfl|(simp [errW_none,errW_some] <;> rfl)|(simp [*,errW_none,errW_some] <;> rfl),by repeat (first|(with_reducible first|exact HB.out|apply below_alloc|apply pw_below_drewN|apply below_drew1|refine below_set ?_ GE308.out)|exact HB.out)⟩
 ·rw [if_neg c2] at H
  have c2b0:decide ((l0_0.length:Int) < 1) = false:=decide_eq_false c2
  have c2b1:decide (l0_0.length < 1) = false:=decide_eq_false (by omega)
  clear c2
  by_cases c5:(l0_0.length:Int) > 10
  ·rw [if_pos c5] at H
   have c5b0:decide (10 < (l0_0.length:Int)) = true:=decide_eq_true c5
   have c5b1:decide (10 < l0_0.length) = true:=decide_eq_true (by omega)
   clear c5
   obtain rfl:=Option.some.inj H
   go_enter Try.func59,Try.ntmps59
   go_wp2_with (first|((with_reducible refine gate_dst (N:=1) rfl ?_);(try (refine gate_guard (by rfl) ?_;dsimp only));refine box_event ?hg (N:=1) ?hd (cs:=#[.slice A0_0 l0_0.length c0_0]) (t:=30) ?hr ?_;(case hd=>rfl);(case hg=>rfl);(case hr=>first|(go_simp;done)|(go_simp;rfl));intro gb308 hg w6 hbox hb;have n0_:=Aside0.mk (below_step (by repeat (first|(with_reducible first|exact HB.out|apply below_alloc|apply pw_below_drewN|apply below_drew1)|exact HB.out)) hb);have n1_:=Aside0.mk (hbox);have n2_:=Aside0.mk ((by rw [hg];exact (below_size (by repeat (first|(with_reducible first|exact HB.out|apply below_alloc|apply pw_below_drewN|apply below_drew1)|exact HB.out))):w.heap.size ≤ gb308));have n3_:=Aside0.mk ((by rw [hg];exact (below_size (by repeat (first|(with_reducible first|exact HB.out|apply below_alloc|apply pw_below_drewN|apply below_drew1)|exact HB.out))):w.heap.size ≤ gb308));clear HB;have HB:=n0_;have BK308:=n1_;have GW308:=n2_;have GE308:=n3_;clear n0_ n1_ n2_ n3_;clear hb hbox hg;have hcz7_0:w6.cell? ⟨gb308,0,none⟩ = some (.slice A0_0 l0_0.length c0_0):=(blk_cell BK308.out 0).trans rfl;have hfz7_0:=blk_frozen BK308.out 0))
   go_ret
   exact ⟨by first|rfl|(simp [errW_none,errW_some] <;> rfl)|(simp [*,errW_none,errW_some] <;> rfl),by repeat (first|(with_reducible first|exact HB.out|apply below_alloc|apply pw_below_drewN|apply below_drew1|refine below_set ?_ GE308.out)|exact HB.out)⟩
  ·rw [if_neg c5] at H
   have c5b0:decide (10 < (l0_0.length:Int)) = false:=decide_eq_false c5
   have c5b1:decide (10 < l0_0.length) = false:=decide_eq_false (by omega)
   clear c5
   by_cases c8:0 < (l0_0.length:Int)
   ·rw [if_pos c8] at H
    have c8b0:decide (0 < (l0_0.length:Int)) = true:=decide_eq_true c8
    have c8b1:decide (0 < l0_0.length) = true:=decide_eq_true (by omega)
    clear c8
    by_cases c9:(rd l0_0 0) = 0
    ·rw [if_pos c9] at H
     have c9b0:((rd l0_0 0) == 0) = true:=beq_iff_eq.mpr c9
     have c9b1:((rd l0_0 0) != 0) = false:=bne_eq_false_iff_eq.mpr c9
     clear c9
     replace H:=Option.bind_eq_some_iff.mp H
     obtain ⟨t310,A100,H⟩:=H
     replace H:(some (!t310)) = some r:=H
     have A10:=Aside0.mk A100
     clear A100
     obtain rfl:=Option.some.inj H
     go_enter Try.func59,Try.ntmps59
     go_wp2_with (first|((with_reducible refine gate_dst (N:=1) rfl ?_);(try (refine gate_guard (by rfl) ?_;dsimp only));refine box_event ?hg (N:=1) ?hd (cs:=#[.slice A0_0 l0_0.length c0_0]) (t:=30) ?hr ?_;(case hd=>rfl);(case hg=>rfl);(case hr=>first|(go_simp;done)|(go_simp;rfl));intro gb308 hg w11 hbox hb;have n0_:=Aside0.mk (below_step (by repeat (first|(with_reducible first|exact HB.out|apply below_alloc|apply pw_below_drewN|apply below_drew1)|exact HB.out)) hb);have n1_:=Aside0.mk (hbox);have n2_:=Aside0.mk ((by rw [hg];exact (below_size (by repeat (first|(with_reducible first|exact HB.out|apply below_alloc|apply pw_below_drewN|apply below_drew1)|exact HB.out))):w.heap.size ≤ gb308));have n3_:=Aside0.mk ((by rw [hg];exact (below_size (by repeat (first|(with_reducible first|exact HB.out|apply below_alloc|apply pw_below_drewN|apply below_drew1)|exact HB.out))):w.heap.size ≤ gb308));clear HB;have HB:=n0_;have BK308:=n1_;have GW308:=n2_;have GE308:=n3_;clear n0_ n1_ n2_ n3_;clear hb hbox hg;have hcz12_0:w11.cell? ⟨gb308,0,none⟩ = some (.slice A0_0 l0_0.length c0_0):=(blk_cell BK308.out 0).trans rfl;have hfz12_0:=blk_frozen BK308.out 0;have p309:0 ≤ (0:Int):=(by omega);have q309:0 < (l0_0.length:Int):=of_decide_eq_true (by first|(with_reducible assumption)|assumption);obtain ⟨ad309,e309,hx309_0⟩:=Kd.at_int HR0_0.out 0 p309 q309;cases e309;have qi309:(0 < l0_0.length) = True:=eq_true (by omega);(try rw [show ((0:Int)).toNat = 0 from rfl] at hx309_0);(try rw [Addr.add_zero'] at hx309_0);replace hx309_0:=(HB.out.cell (World.block_lt_of_cell? w _ hx309_0)).trans hx309_0;replace p309:=eq_true p309;replace q309:=eq_true q309)|(go_at_call 92;(with_reducible refine (impl_GoodSign_1_any.calls _ _ l0_0 t310 _ ?side1 ?side2 A10.out).mono ?_);(case side1=>repeat (first|exact (Kd.C_below HR0_0.out HB.out)|(with_reducible refine Kd.C_alloc ?_ _)|(with_reducible refine Kd.C_drewN ?_ _)|(with_reducible refine Kd.C_drew ?_)));(case side2=>exact HC0_0.out);rintro e w13 ⟨rfl,hb⟩;have n0_:=Aside0.mk (blk_below (g:=gb308) (o:=.cells #[.slice (some ad309) l0_0.length c0_0] 30 (0,0)) (by (with_reducible repeat (first|refine blk_drewN ?_ _|refine blk_drew ?_|refine blk_alloc ?_ _));exact BK308.out) hb);have n1_:=Aside0.mk (below_step (by repeat (first|(with_reducible first|exact HB.out|apply below_alloc|apply pw_below_drewN|apply below_drew1|refine below_set ?_ GE308.out)|exact HB.out)) hb);clear BK308;clear HB;have BK308:=n0_;have HB:=n1_;clear n0_ n1_;(try clear hb);(try clear hb2);(try clear hk);(try clear hi)))
     go_ret
     exact ⟨by first|rfl|(simp [errW_none,errW_some] <;> rfl)|(simp [*,errW_none,errW_some] <;> rfl),by repeat (first|(with_reducible first|exact HB.out|apply below_alloc|apply pw_below_drewN|apply below_drew1|refine below_set ?_ GE308.out)|exact HB.out)⟩
    ·rw [if_neg c9] at H
     have c9b0:((rd l0_0 0) == 0) = false:=beq_eq_false_iff_ne.mpr c9
     have c9b1:((rd l0_0 0) != 0) = true:=bne_iff_ne.mpr c9
     obtain rfl:=Option.some.inj H
     go_enter Try.func59,Try.ntmps59
     go_wp2_with (first|((with_reducible refine gate_dst (N:=1) rfl ?_);(try (refine gate_guard (by rfl) ?_;dsimp only));refine box_event ?hg (N:=1) ?hd (cs:=#[.slice A0_0 l0_0.length c0_0]) (t:=30) ?hr ?_;(case hd=>rfl);(case hg=>rfl);(case hr=>first|(go_simp;done)|(go_simp;rfl));intro gb308 hg w14 hbox hb;have n0_:=Aside0.mk (below_step (by repeat (first|(with_reducible first|exact HB.out|apply below_alloc|apply pw_below_drewN|apply below_drew1)|exact HB.out)) hb);have n1_:=Aside0.mk (hbox);have n2_:=Aside0.mk ((by rw [hg];exact (below_size (by repeat (first|(with_reducible first|exact HB.out|apply below_alloc|apply pw_below_drewN|apply below_drew1)|exact HB.out))):w.heap.size ≤ gb308));have n3_:=Aside0.mk ((by rw [hg];exact (below_size (by repeat (first|(with_reducible first|exact HB.out|apply below_alloc|apply pw_below_drewN|apply below_drew1)|exact HB.out))):w.heap.size ≤ gb308));clear HB;have HB:=n0_;have BK308:=n1_;have GW308:=n2_;have GE308:=n3_;clear n0_ n1_ n2_ n3_;clear hb hbox hg;have hcz15_0:w14.cell? ⟨gb308,0,none⟩ = some (.slice A0_0 l0_0.length c0_0):=(blk_cell BK308.out 0).trans rfl;have hfz15_0:=blk_frozen BK308.out 0;have p309:0 ≤ (0:Int):=(by omega);have q309:0 < (l0_0.length:Int):=of_decide_eq_true (by first|(with_reducible assumption)|assumption);obtain ⟨ad309,e309,hx309_0⟩:=Kd.at_int HR0_0.out 0 p309 q309;cases e309;have qi309:(0 < l0_0.length) = True:=eq_true (by omega);(try rw [show ((0:Int)).toNat = 0 from rfl] at hx309_0);(try rw [Addr.add_zero'] at hx309_0);replace hx309_0:=(HB.out.cell (World.block_lt_of_cell? w _ hx309_0)).trans hx309_0;replace p309:=eq_true p309;replace q309:=eq_true q309))
     go_ret
     exact ⟨by first|rfl|(simp [errW_none,errW_some] <;> rfl)|(simp [*,errW_none,errW_some] <;> rfl),by repeat (first|(with_reducible first|exact HB.out|apply below_alloc|apply pw_below_drewN|apply below_drew1|refine below_set ?_ GE308.out)|exact HB.out)⟩
   ·rw [if_neg c8] at H
    exact absurd H (by simp)

/-! ### impl_Sign_args: function 134 -/
def impl_Sign_args.f (l0_0:List Int) (a1:Int):Option (Int):=if a1 < 0 then (some 0) else (if 0 ≤ a1 then (if a1 < (l0_0.length:Int) then (some (rd l0_0 a1)) else (none)) else (none))
set_option maxHeartbeats 8000000 in
set_option maxRecDepth 100000 in
theorem impl_Sign_args.calls (A0_0:Option Addr) (c0_0:Nat) (l0_0:List Int) (a1:Int) (r:Int) (w:World) (hr0_0:Kd.C (Kd.int .i64) w A0_0 l0_0.length l0_0) (hc0_0:l0_0.length ≤ c0_0) (h:impl_Sign_args.f l0_0 a1 = some r) :
  Calls Try.prog 134 #[.agg #[.slice A0_0 l0_0.length c0_0],.int .i64 a1] w fun e w'=>e = .returned (.int .i64 r) ∧ Below w.heap.size w w':=by
 have hu30:=Try.underlying30
 have HR0_0:=Aside0.mk hr0_0
 have HC0_0:=Aside0.mk hc0_0
 clear hr0_0 hc0_0
 have HB:=Aside0.mk (Below.refl w.heap.size w)
 have H:(if a1 < 0 then (some 0) else (if 0 ≤ a1 then (if a1 < (l0_0.length:Int) then (some (rd l0_0 a1)) else (none)) else (none))) = some r:=h
 clear h
 by_cases c3:a1 < 0
 ·rw [if_pos c3] at H
  have c3b0:decide (a1 < 0) = true:=decide_eq_true c3
  clear c3
  obtain rfl:=Option.some.inj H
  go_enter Try.func134,Try.ntmps134
  go_wp2_with (first|((with_reducible refine gate_dst (N:=2) rfl ?_);refine box_event ?hg (N:=2) ?hd (cs:=#[.slice A0_0 l0_0.length c0_0]) (t:=30) ?hr ?_;(case hd=>rfl);(case hg=>rfl);(case hr=>first|(go_simp;done)|(go_simp;rfl));intro gb311 hg w4 hbox hb;have n0_:=Aside0.mk (below_step (by repeat (first|(with_reducible first|exact HB.out|apply below_alloc|apply pw_below_drewN|apply below_drew1)|exact HB.out)) hb);have n1_:=Aside0.mk (hbox);have n2_:=Aside0.mk ((by rw [hg];exact (below_size (by repeat (first|(with_reducible first|exact HB.out|apply below_alloc|apply pw_below_drewN|apply below_drew1)|exact HB.out))):w.heap.size ≤ gb311));have n3_:=Aside0.mk ((by rw [hg];exact (below_size (by repeat (first|(with_reducible first|exact HB.out|apply below_alloc|apply pw_below_drewN|apply below_drew1)|exact HB.out))):w.heap.size ≤ gb311));clear HB;have HB:=n0_;have BK311:=n1_;have GW311:=n2_;have GE311:=n3_;clear n0_ n1_ n2_ n3_;clear hb hbox hg))
  go_ret
  exact ⟨by first|rfl|(simp [errW_none,errW_some] <;> rfl)|(simp [*,errW_none,errW_some] <;> rfl),by repeat (first|(with_reducible first|exact HB.out|apply below_alloc|apply pw_below_drewN|apply below_drew1|refine below_set ?_ GE311.out)|exact HB.out)⟩
 ·rw [if_neg c3] at H
  have c3b0:decide (a1 < 0) = false:=decide_eq_false c3
  clear c3
  by_cases c5:0 ≤ a1
  ·rw [if_pos c5] at H
   have c5b0:decide (0 ≤ a1) = true:=decide_eq_true c5
   clear c5
   by_cases c6:a1 < (l0_0.length:Int)
   ·rw [if_pos c6] at H
    have c6b0:decide (a1 < (l0_0.length:Int)) = true:=decide_eq_true c6
    clear c6
    obtain rfl:=Option.some.inj H
    go_enter Try.func134,Try.ntmps134
    go_wp2_with (first|((with_reducible refine gate_dst (N:=2) rfl ?_);refine box_event ?hg (N:=2) ?hd (cs:=#[.slice A0_0 l0_0.length c0_0]) (t:=30) ?hr ?_;(case hd=>rfl);(case hg=>rfl);(case hr=>first|(go_simp;done)|(go_simp;rfl));intro gb311 hg w7 hbox hb;have n0_:=Aside0.mk (below_step (by repeat (first|(with_reducible first|exact HB.out|apply below_alloc|apply pw_below_drewN|apply below_drew1)|exact HB.out)) hb);have n1_:=Aside0.mk (hbox);have n2_:=Aside0.mk ((by rw [hg];exact (below_size (by repeat (first|(with_reducible first|exact HB.out|apply below_alloc|apply pw_below_drewN|apply below_drew1)|exact HB.out))):w.heap.size ≤ gb311));have n3_:=Aside0.mk ((by rw [hg];exact (below_size (by repeat (first|(with_reducible first|exact HB.out|apply below_alloc|apply pw_below_drewN|apply below_drew1)|exact HB.out))):w.heap.size ≤ gb311));clear HB;have HB:=n0_;have BK311:=n1_;have GW311:=n2_;have GE311:=n3_;clear n0_ n1_ n2_ n3_;clear hb hbox hg;have hcz8_0:w7.cell? ⟨gb311,0,none⟩ = some (.slice A0_0 l0_0.length c0_0):=(blk_cell BK311.out 0).trans rfl;have hfz8_0:=blk_frozen BK311.out 0;have p312:0 ≤ (a1:Int):=of_decide_eq_true (by first|(with_reducible assumption)|assumption);have q312:a1 < (l0_0.length:Int):=of_decide_eq_true (by first|(with_reducible assumption)|assumption);obtain ⟨ad312,e312,hx312_0⟩:=Kd.at_int HR0_0.out a1 p312 q312;cases e312;replace hx312_0:=(HB.out.cell (World.block_lt_of_cell? w _ hx312_0)).trans hx312_0;replace p312:=eq_true p312;replace q312:=eq_true q312))
    go_ret
    exact ⟨by first|rfl|(simp [errW_none,errW_some] <;> rfl)|(simp [*,errW_none,errW_some] <;> rfl),by repeat (first|(with_reducible first|exact HB.out|apply below_alloc|apply pw_below_drewN|apply below_drew1|refine below_set ?_ GE311.out)|exact HB.out)⟩
   ·rw [if_neg c6] at H
    exact absurd H (by simp)
  ·rw [if_neg c5] at H
   exact absurd H (by simp)

end Go.Proofs.Ytlgnanbnicmdaaa.QFnExactTrimSteps
