-- Written by this session's own program (wip/x/xprint.py, over the kit's printer); Lean checks it.
import Derived.Test.YtlgnanbnicmdaabQFnExactInputsOfx0
import Derived.Test.YtlgnanbnicmdaabQFnExactInputsOfx1
import Derived.Test.YtlgnanbnicmdaabQFnExactInputsOfx3
namespace Go.Proofs.Ytlgnanbnicmdaab.QFnExactInputsOf
open Go.RowKit Go.Proofs.YtlgnanbnicmdaabW.PrintWords Go.Proofs.YtlgnanbnicmdaabW.PrintLast Go.Proofs.YtlgnanbnicmdaabW.PrintMore
attribute [local go_sem] max2_int min2_int max_two min_two max_three min_three max_four min_four   -- for this text's walks alone
set_option linter.unusedVariables false
set_option linter.unusedSimpArgs false

/-! ### spec_l1Put: function 56 -/
def spec_l1Put.l0:Nat → List Int → Int → Int → Option (List Int)
 | 0,_,_,_=>none
 | k + 1,x0,x1,x5=>if x5 < (x0.length:Int) then (if 0 ≤ x5 then (if (rd x0 x5) < x1 then (spec_l1Put.l0 k x0 x1 (wrap64 (x5 + 1))) else (if (rd x0 x5) = x1 then (some x0) else ((some (([]:List Int):List Int)).bind fun y170=>(if x5 ≤ (x0.length:Int) then ((some (x0.take (x5:Int).toNat:List Int)).bind fun y173=>(if y170.length + y173.length < 17592186044416 then ((some (y170 ++ y173:List Int)).bind fun y177=>(if y177.length < 17592186044416 then ((some (y177 ++ [x1]:List Int)).bind fun y180=>((some (x0.drop (x5:Int).toNat:List Int)).bind fun y183=>(if y180.length + y183.length < 17592186044416 then (some (y180 ++ y183)) else (none)))) else (none))) else (none))) else (none))))) else (none)) else ((some (([]:List Int):List Int)).bind fun y190=>(if 0 ≤ x5 then (if x5 ≤ (x0.length:Int) then ((some (x0.take (x5:Int).toNat:List Int)).bind fun y193=>(if y190.length + y193.length < 17592186044416 then ((some (y190 ++ y193:List Int)).bind fun y197=>(if y197.length < 17592186044416 then ((some (y197 ++ [x1]:List Int)).bind fun y200=>((some (x0.drop (x5:Int).toNat:List Int)).bind fun y203=>(if y200.length + y203.length < 17592186044416 then (some (y200 ++ y203)) else (none)))) else (none))) else (none))) else (none)) else (none)))
def spec_l1Put.f (k:Nat) (l0:List Int) (a1:Int):Option (List Int):=spec_l1Put.l0 k l0 a1 0
theorem spec_l1Put.mono_l:∀ k,(∀ y0 y1 y2,LeO (spec_l1Put.l0 k y0 y1 y2) (spec_l1Put.l0 (k + 1) y0 y1 y2))
 | 0=>fun _ _ _ r h=>by simp [spec_l1Put.l0] at h
 | k + 1=>by
  have ih0:=spec_l1Put.mono_l k
  ·intro y0 y1 y2
   unfold spec_l1Put.l0
   repeat' first
   | (with_reducible exact ih0 _ _ _)
   | (with_reducible exact LeO.refl _)
   | (with_reducible exact LeO.none _)
   | (with_reducible refine LeO.ite ?_ ?_)
   | (with_reducible refine LeO.bind ?_ (fun _=>?_))
   | exact ih0 _ _ _
   | exact LeO.none _
   | refine LeO.ite ?_ ?_
   | refine LeO.bind ?_ (fun _=>?_)
theorem spec_l1Put.mono:∀ a0 a1 k,LeO (spec_l1Put.f k a0 a1) (spec_l1Put.f (k + 1) a0 a1):=by
 intro a0 a1 k
 have ih0:=spec_l1Put.mono_l k
 unfold spec_l1Put.f
 repeat' first
   | (with_reducible exact ih0 _ _ _)
   | (with_reducible exact LeO.refl _)
   | (with_reducible exact LeO.none _)
   | (with_reducible refine LeO.ite ?_ ?_)
   | (with_reducible refine LeO.bind ?_ (fun _=>?_))
   | exact ih0 _ _ _
   | exact LeO.none _
   | refine LeO.ite ?_ ?_
   | refine LeO.bind ?_ (fun _=>?_)
set_option maxHeartbeats 8000000 in
set_option maxRecDepth 100000 in
theorem spec_l1Put.calls (k:Nat) (P0_:Nat → Prop) (u9000_:Value) (l0:List Int) (a1:Int) (r:List Int) (w0 w:World) (hB:Below w0.heap.size w0 w) (ho0:Kd.R (Kd.int .i64) 3 w w0.heap.size P0_ u9000_ l0) (h:spec_l1Put.f k l0 a1 = some r) :
  Calls Try.prog 56 #[u9000_,.int .i64 a1] w fun e w'=>∃ v0_:Value,e = .returned (v0_) ∧ Kd.R (Kd.int .i64) 3 w' w0.heap.size (fun k_=>(P0_ k_ ∨ w.heap.size ≤ k_)) v0_ r ∧ Below w0.heap.size w0 w' ∧ Kept w w' (fun k_=>P0_ k_):=by
 have HO0:=Aside0.mk (show Kd.R (Kd.int .i64) 3 w w0.heap.size (fun k_=>(P0_ k_ ∨ w.heap.size ≤ k_)) u9000_ l0 from Kd.R_mono ho0 (fun k_ hk=>(.inl hk)))
 have HK:=Aside0.mk (Kept.refl w (fun k_=>P0_ k_))
 have HW0:=Aside0.mk hB.size
 have HB:=Aside0.mk hB
 clear hB
 have H:(spec_l1Put.l0 k l0 a1 0) = some r:=h
 clear h
 have H':=Aside0.mk H
 clear H
 go_enter Try.func56,Try.ntmps56
 go_wp2
 go_loopg [5] k (fun kq v5 w'=>∃ (x5_1:Int),v5 = .int .i64 x5_1 ∧ Aside0 (spec_l1Put.l0 kq l0 a1 x5_1 = some r) ∧ Aside0 (kq ≤ k) ∧ Aside0 (Kd.R (Kd.int .i64) 3 w' w0.heap.size (fun k_=>(P0_ k_ ∨ w.heap.size ≤ k_)) u9000_ l0) ∧ Aside0 (Kept w w' (fun k_=>P0_ k_)) ∧ Aside0 (Below w0.heap.size w0 w'))
 case atStart=>exact ⟨(0),(by first|rfl|(simp;done)|(simp [*];done)),H',⟨Nat.le_refl _⟩,⟨by (with_reducible repeat (first|apply Kd.R_alloc|apply Kd.R_drewN|apply Kd.R_drew));exact HO0.out⟩,⟨by repeat (first|(with_reducible first|exact HK.out|apply Kept.alloc|apply Kept.drewN|apply Kept.drew)|exact HK.out)⟩,⟨by repeat (first|(with_reducible first|exact HB.out|apply below_alloc|apply pw_below_drewN|apply below_drew1)|exact HB.out)⟩⟩
 case round =>
  clear H'
  try clear p2
  obtain ⟨x5_1,rfl,HA,HK1,HO_0,HK,HB⟩:=hrel
  cases gk with
  | zero=>exact absurd HA.out (by simp [spec_l1Put.l0])
  | succ k1 =>
   have H:=HA.out
   clear HA
   simp only [spec_l1Put.l0] at H
   by_cases c3:x5_1 < (l0.length:Int)
   ·rw [if_pos c3] at H
    have c3b0:decide (x5_1 < (l0.length:Int)) = true:=decide_eq_true c3
    clear c3
    by_cases c4:0 ≤ x5_1
    ·rw [if_pos c4] at H
     have c4b0:decide (0 ≤ x5_1) = true:=decide_eq_true c4
     clear c4
     by_cases c5:(rd l0 x5_1) < a1
     ·rw [if_pos c5] at H
      have c5b0:decide ((rd l0 x5_1) < a1) = true:=decide_eq_true c5
      clear c5
      have H':=Aside0.mk H
      clear H
      obtain ⟨Ao6,co6,eo6⟩:=Kd.R_slice HO_0.out
      subst eo6
      have p168:0 ≤ (x5_1:Int):=of_decide_eq_true (by first|(with_reducible assumption)|assumption)
      have q168:x5_1 < (l0.length:Int):=of_decide_eq_true (by first|(with_reducible assumption)|assumption)
      obtain ⟨ad168,e168,hx168_0⟩:=Kd.at_int (Kd.R_reads' HO_0.out).2.2 x5_1 p168 q168
      cases e168
      replace p168:=eq_true p168
      replace q168:=eq_true q168
      go_wp2
      go_roundg k1
      case measure=>have:=HK1.out;omega
      case rel=>exact ⟨(wrap64 (x5_1 + 1)),(by first|rfl|(simp;done)|(simp [*];done)),H',⟨by have:=HK1.out;omega⟩,⟨by (with_reducible repeat (first|apply Kd.R_alloc|apply Kd.R_drewN|apply Kd.R_drew));exact HO_0.out⟩,⟨by repeat (first|(with_reducible first|exact HK.out|apply Kept.alloc|apply Kept.drewN|apply Kept.drew)|exact HK.out)⟩,⟨by repeat (first|(with_reducible first|exact HB.out|apply below_alloc|apply pw_below_drewN|apply below_drew1)|exact HB.out)⟩⟩
     ·rw [if_neg c5] at H
      have c5b0:decide ((rd l0 x5_1) < a1) = false:=decide_eq_false c5
      clear c5
      by_cases c7:(rd l0 x5_1) = a1
      ·rw [if_pos c7] at H
       have c7b0:((rd l0 x5_1) == a1) = true:=beq_iff_eq.mpr c7
       have c7b1:((rd l0 x5_1) != a1) = false:=bne_eq_false_iff_eq.mpr c7
       clear c7
       obtain rfl:=Option.some.inj H
       obtain ⟨Ao8,co8,eo8⟩:=Kd.R_slice HO_0.out
       subst eo8
       have p168:0 ≤ (x5_1:Int):=of_decide_eq_true (by first|(with_reducible assumption)|assumption)
       have q168:x5_1 < (l0.length:Int):=of_decide_eq_true (by first|(with_reducible assumption)|assumption)
       obtain ⟨ad168,e168,hx168_0⟩:=Kd.at_int (Kd.R_reads' HO_0.out).2.2 x5_1 p168 q168
       cases e168
       replace p168:=eq_true p168
       replace q168:=eq_true q168
       have p169:0 ≤ (x5_1:Int):=of_decide_eq_true (by first|(with_reducible assumption)|assumption)
       have q169:x5_1 < (l0.length:Int):=of_decide_eq_true (by first|(with_reducible assumption)|assumption)
       obtain ⟨ad169,e169,hx169_0⟩:=Kd.at_int (Kd.R_reads' HO_0.out).2.2 x5_1 p169 q169
       obtain rfl:ad168 = ad169:=(by injection e169)
       replace p169:=eq_true p169
       replace q169:=eq_true q169
       go_wp2
       go_ret
       exact ⟨_,by first|rfl|(simp [errW_none,errW_some] <;> rfl)|(simp [*,errW_none,errW_some] <;> rfl),by (with_reducible repeat (first|apply Kd.R_alloc|apply Kd.R_drewN|apply Kd.R_drew));exact HO_0.out,by repeat (first|(with_reducible first|exact HB.out|apply below_alloc|apply pw_below_drewN|apply below_drew1)|exact HB.out),by repeat (first|(with_reducible first|exact HK.out|apply Kept.alloc|apply Kept.drewN|apply Kept.drew)|exact HK.out)⟩
      ·rw [if_neg c7] at H
       have c7b0:((rd l0 x5_1) == a1) = false:=beq_eq_false_iff_ne.mpr c7
       have c7b1:((rd l0 x5_1) != a1) = true:=bne_iff_ne.mpr c7
       obtain ⟨y170,hy170⟩:∃ y_:List Int,y_ = (([]:List Int)):=⟨_,rfl⟩
       replace H:(if x5_1 ≤ (l0.length:Int) then ((some (l0.take (x5_1:Int).toNat:List Int)).bind fun y173=>(if y170.length + y173.length < 17592186044416 then ((some (y170 ++ y173:List Int)).bind fun y177=>(if y177.length < 17592186044416 then ((some (y177 ++ [a1]:List Int)).bind fun y180=>((some (l0.drop (x5_1:Int).toNat:List Int)).bind fun y183=>(if y180.length + y183.length < 17592186044416 then (some (y180 ++ y183)) else (none)))) else (none))) else (none))) else (none)) = some r:=by first|(rw [hy170];with_reducible exact H)|(have H2_:=(Option.bind_some _ _).symm.trans H;rw [hy170];with_reducible exact H2_)|(have H2_:=(Option.bind_some _ _).symm.trans H;with_reducible exact H2_)|with_reducible exact H|(rw [hy170];exact H)|exact H
       have Ny170:=Aside0.mk hy170
       clear hy170
       have c9b0:=eq_true (of_decide_eq_true (by first|(with_reducible assumption)|assumption):0 ≤ x5_1)
       by_cases c10:x5_1 ≤ (l0.length:Int)
       ·rw [if_pos c10] at H
        have c10b0:=eq_true c10
        have c10b1:decide (x5_1 ≤ (l0.length:Int)) = true:=decide_eq_true c10
        clear c10
        obtain ⟨y173,hy173⟩:∃ y_:List Int,y_ = (l0.take (x5_1:Int).toNat):=⟨_,rfl⟩
        replace H:(if y170.length + y173.length < 17592186044416 then ((some (y170 ++ y173:List Int)).bind fun y177=>(if y177.length < 17592186044416 then ((some (y177 ++ [a1]:List Int)).bind fun y180=>((some (l0.drop (x5_1:Int).toNat:List Int)).bind fun y183=>(if y180.length + y183.length < 17592186044416 then (some (y180 ++ y183)) else (none)))) else (none))) else (none)) = some r:=by first|(rw [hy173];with_reducible exact H)|(have H2_:=(Option.bind_some _ _).symm.trans H;rw [hy173];with_reducible exact H2_)|(have H2_:=(Option.bind_some _ _).symm.trans H;with_reducible exact H2_)|with_reducible exact H|(rw [hy173];exact H)|exact H
        have Ny173:=Aside0.mk hy173
        clear hy173
        by_cases c11:y170.length + y173.length < 17592186044416
        ·rw [if_pos c11] at H
         have LMc11:=Aside0.mk c11
         clear c11
         obtain ⟨y177,hy177⟩:∃ y_:List Int,y_ = (y170 ++ y173):=⟨_,rfl⟩
         replace H:(if y177.length < 17592186044416 then ((some (y177 ++ [a1]:List Int)).bind fun y180=>((some (l0.drop (x5_1:Int).toNat:List Int)).bind fun y183=>(if y180.length + y183.length < 17592186044416 then (some (y180 ++ y183)) else (none)))) else (none)) = some r:=by first|(rw [hy177];with_reducible exact H)|(have H2_:=(Option.bind_some _ _).symm.trans H;rw [hy177];with_reducible exact H2_)|(have H2_:=(Option.bind_some _ _).symm.trans H;with_reducible exact H2_)|with_reducible exact H|(rw [hy177];exact H)|exact H
         have Ny177:=Aside0.mk hy177
         clear hy177
         by_cases c12:y177.length < 17592186044416
         ·rw [if_pos c12] at H
          have LMc12:=Aside0.mk c12
          clear c12
          obtain ⟨y180,hy180⟩:∃ y_:List Int,y_ = (y177 ++ [a1]):=⟨_,rfl⟩
          replace H:((some (l0.drop (x5_1:Int).toNat:List Int)).bind fun y183=>(if y180.length + y183.length < 17592186044416 then (some (y180 ++ y183)) else (none))) = some r:=by first|(rw [hy180];with_reducible exact H)|(have H2_:=(Option.bind_some _ _).symm.trans H;rw [hy180];with_reducible exact H2_)|(have H2_:=(Option.bind_some _ _).symm.trans H;with_reducible exact H2_)|with_reducible exact H|(rw [hy180];exact H)|exact H
          have Ny180:=Aside0.mk hy180
          clear hy180
          have c13b0:=eq_true (of_decide_eq_true (by first|(with_reducible assumption)|assumption):0 ≤ x5_1)
          have c14b0:=eq_true (of_decide_eq_true (by first|(with_reducible assumption)|assumption):x5_1 ≤ (l0.length:Int))
          obtain ⟨y183,hy183⟩:∃ y_:List Int,y_ = (l0.drop (x5_1:Int).toNat):=⟨_,rfl⟩
          replace H:(if y180.length + y183.length < 17592186044416 then (some (y180 ++ y183)) else (none)) = some r:=by first|(rw [hy183];with_reducible exact H)|(have H2_:=(Option.bind_some _ _).symm.trans H;rw [hy183];with_reducible exact H2_)|(have H2_:=(Option.bind_some _ _).symm.trans H;with_reducible exact H2_)|with_reducible exact H|(rw [hy183];exact H)|exact H
          have Ny183:=Aside0.mk hy183
          clear hy183
          by_cases c15:y180.length + y183.length < 17592186044416
          ·rw [if_pos c15] at H
           have LMc15:=Aside0.mk c15
           clear c15
           obtain ⟨y187,hy187⟩:∃ y_:List Int,y_ = (y180 ++ y183):=⟨_,rfl⟩
           replace H:(some y187) = some r:=by first|(rw [hy187];with_reducible exact H)|(have H2_:=(Option.bind_some _ _).symm.trans H;rw [hy187];with_reducible exact H2_)|(have H2_:=(Option.bind_some _ _).symm.trans H;with_reducible exact H2_)|with_reducible exact H|(rw [hy187];exact H)|exact H
           have Ny187:=Aside0.mk hy187
           clear hy187
           obtain rfl:=Option.some.inj H
           obtain ⟨Ao16,co16,eo16⟩:=Kd.R_slice HO_0.out
           subst eo16
           have p168:0 ≤ (x5_1:Int):=of_decide_eq_true (by first|(with_reducible assumption)|assumption)
           have q168:x5_1 < (l0.length:Int):=of_decide_eq_true (by first|(with_reducible assumption)|assumption)
           obtain ⟨ad168,e168,hx168_0⟩:=Kd.at_int (Kd.R_reads' HO_0.out).2.2 x5_1 p168 q168
           cases e168
           replace p168:=eq_true p168
           replace q168:=eq_true q168
           have p169:0 ≤ (x5_1:Int):=of_decide_eq_true (by first|(with_reducible assumption)|assumption)
           have q169:x5_1 < (l0.length:Int):=of_decide_eq_true (by first|(with_reducible assumption)|assumption)
           obtain ⟨ad169,e169,hx169_0⟩:=Kd.at_int (Kd.R_reads' HO_0.out).2.2 x5_1 p169 q169
           obtain rfl:ad168 = ad169:=(by injection e169)
           replace p169:=eq_true p169
           replace q169:=eq_true q169
           go_wp2_with (first|((with_reducible refine gate_dst (N:=34) rfl ?_);refine Kd.R_lit (Kd.int .i64) _ 3 ?hg (N:=34) ?hd (xs:=([]:List Int)) (inner:=[]) (ok:=fun _=>True) (okp:=fun _=>True) ?hr ?hp (fun _ hk=>hk) trivial (Below.refl _ _) (Nat.le_refl _) (by simp) ?_;(case hd=>rfl);(case hg=>rfl);(case hr=>first|(go_simp;done)|(go_simp;rfl));(case hp=>exact (Reps.none _ _));intro v171 w17 ho18 hb hg_ hnew_;clear hg_ hnew_;(first|rw [← Ny170.out] at ho18|(simp only [Int.reduceToNat] at ho18;rw [← Ny170.out] at ho18));have n0_:=Aside0.mk (Kd.R_elder' (by (with_reducible repeat (first|apply Kd.R_alloc|apply Kd.R_drewN|apply Kd.R_drew));exact HO_0.out) (Kd.R_base ho18) hb);have n1_:=Aside0.mk (Kd.R_lower (Kd.R_new' (Kd.R_newM (M:=fun k_=>(P0_ k_ ∨ w.heap.size ≤ k_)) ho18 (by first|exact HK.out.1|exact (show Kept w _ (fun k_=>P0_ k_) from by repeat (first|(with_reducible first|exact HK.out|apply Kept.alloc|apply Kept.drewN|apply Kept.drew)|exact HK.out)).1) (fun k_ h_=>.inr h_)) (Kd.R_lt (by (with_reducible repeat (first|apply Kd.R_alloc|apply Kd.R_drewN|apply Kd.R_drew));exact HO_0.out))) (below_size (by repeat (first|(with_reducible first|exact HB.out|apply below_alloc|apply pw_below_drewN|apply below_drew1)|exact HB.out))));have n2_:=Aside0.mk (Kept.below (S:=(fun k_=>P0_ k_)) (by repeat (first|(with_reducible first|exact HK.out|apply Kept.alloc|apply Kept.drewN|apply Kept.drew)|exact HK.out)) hb);have n3_:=Aside0.mk (below_step (by repeat (first|(with_reducible first|exact HB.out|apply below_alloc|apply pw_below_drewN|apply below_drew1)|exact HB.out)) hb);clear HO_0;clear HK;clear HB;have HO_0:=n0_;have HO172:=n1_;have HK:=n2_;have HB:=n3_;clear n0_ n1_ n2_ n3_;clear hb ho18;have q19:(x5_1:Int) ≤ ((l0.length:Int):Int):=of_decide_eq_true (by first|(with_reducible assumption)|assumption);obtain ⟨i019,hi019,_,hsz19,_⟩:=info_parts info3;have hroom19:l0.length ≤ co16:=(Kd.R_reads' HO_0.out).2.1;have hC19:Kd.C (Kd.int .i64) _ (some ad168) l0.length l0:=(Kd.R_reads' HO_0.out).2.2;have hcut19:=cut_to (P:=Try.prog) 22 3 .i64 Try.underlying22 hi019 (some ad168) l0.length co16 x5_1 (of_decide_eq_true (by first|(with_reducible assumption)|assumption)) q19 hroom19;have hr19:=Kd.C_take (m:=(x5_1:Int).toNat) hC19 (by omega);have hy19:y173.length = (x5_1:Int).toNat:=(by rw [Ny173.out,List.length_take];omega);rw [← Ny173.out] at hr19;rw [← hy19] at hcut19;have HR176:=Aside0.mk hr19;have HC176:=Aside0.mk (show y173.length ≤ co16 from by omega);clear hr19 hC19 hroom19 hi019 hsz19;have KY19:=Aside0.mk hy19;clear hy19;have KL19:=Aside0.mk (show (x5_1:Int).toNat ≤ l0.length from by omega);replace q19:=eq_true q19)|((with_reducible refine gate_builtin (b:=.append) (xs:=#[.tmp 34,.tmp 37]) rfl ?_);at_builtin;refine Kd.R_append_rows (Kd.int .i64) (w0:=w0) w0.heap.size rfl (.tmp 34) (.tmp 37) 22 3 (.int .i64 0) 8 rfl Try.underlying22 info3 rfl (by decide) (by first|decide|omega) v171 y170 y173 _ _ _ (fun k_=>(P0_ k_ ∨ w.heap.size ≤ k_) ∧ some k_ ≠ (.slice (some ad168) l0.length co16:Value).ownBlock) (fun _=>False) rfl rfl ?aO ?aR (fun _ _ h=>h) (fun _ h=>h.elim) ?aF ?aB ?aS ?aL ?_;(case aR=>repeat (first|exact (by repeat (first|(with_reducible exact HR176.out)|(with_reducible refine Kd.C_alloc ?_ _)|(with_reducible refine Kd.C_drewN ?_ _)|(with_reducible refine Kd.C_drew ?_)|exact HR176.out))|(with_reducible refine Kd.C_alloc ?_ _)|(with_reducible refine Kd.C_drewN ?_ _)|(with_reducible refine Kd.C_drew ?_)));(case aB=>exact (by repeat (first|(with_reducible first|exact HB.out|apply below_alloc|apply pw_below_drewN|apply below_drew1)|exact HB.out)));(case aF=>exact (fun k_ hk=>⟨(.inr (Nat.le_trans (by first|exact HK.out.1|exact (show Kept w _ (fun k_=>P0_ k_) from by repeat (first|(with_reducible first|exact HK.out|apply Kept.alloc|apply Kept.drewN|apply Kept.drew)|exact HK.out)).1) hk)),Kd.fresh' (Kd.R_lt (by (with_reducible repeat (first|apply Kd.R_alloc|apply Kd.R_drewN|apply Kd.R_drew));exact HO_0.out)) k_ hk⟩));(case aO=>exact (by (with_reducible repeat (first|apply Kd.R_alloc|apply Kd.R_drewN|apply Kd.R_drew));exact Kd.R_mono HO172.out (fun _ hk=>⟨hk.1.1,hk.2⟩)));(case aS=>exact (below_size (by repeat (first|(with_reducible first|exact HB.out|apply below_alloc|apply pw_below_drewN|apply below_drew1)|exact HB.out))));(case aL=>have:=LMc11.out;omega);intro v178 w20 ho hb hg hat;rw [← Ny177.out] at ho;have n0_:=Aside0.mk (Kd.R_after (ok:=(fun k_=>(P0_ k_ ∨ w.heap.size ≤ k_))) (by (with_reducible repeat (first|apply Kd.R_alloc|apply Kd.R_drewN|apply Kd.R_drew));exact HO_0.out) hg hat);have n1_:=Aside0.mk (hb);have n2_:=Aside0.mk (Kept.of_grown (S:=(fun k_=>P0_ k_)) hg (by repeat (first|(with_reducible first|exact HK.out|apply Kept.alloc|apply Kept.drewN|apply Kept.drew)|exact HK.out)) (fun k_ e_=>(HO172.out.1 k_ e_).1.1));have n3_:=Aside0.mk ((show Kd.C (Kd.int .i64) w20 (some ad168) y173.length y173 from by rw [Ny173.out];exact Kd.C_take (m:=(x5_1:Int).toNat) ((Kd.R_reads' (Kd.R_after (ok:=(fun k_=>(P0_ k_ ∨ w.heap.size ≤ k_))) (by (with_reducible repeat (first|apply Kd.R_alloc|apply Kd.R_drewN|apply Kd.R_drew));exact HO_0.out) hg hat)).2.2) KL19.out));have n4_:=Aside0.mk (ho);clear HO_0;clear HB;clear HK;clear HR176;clear HO172;have HO_0:=n0_;have HB:=n1_;have HK:=n2_;have HR176:=n3_;have HO179:=n4_;clear n0_ n1_ n2_ n3_ n4_;clear ho hb hg hat)|((with_reducible refine gate_builtin (b:=.append) (xs:=#[.tmp 39,.tmp 41]) rfl ?_);at_builtin;refine Kd.R_append (Kd.int .i64) (w0:=w0) w0.heap.size rfl (.tmp 39) (.tmp 41) 22 3 (.int .i64 0) 8 rfl Try.underlying22 info3 rfl (by decide) (by first|decide|omega) v178 y177 a1 [.int .i64 a1] (fun k_=>(P0_ k_ ∨ w.heap.size ≤ k_) ∧ some k_ ≠ (.slice (some ad168) l0.length co16:Value).ownBlock) (fun _=>False) rfl rfl ?aP (fun _ hk=>hk.elim) ?aF ?aO ?aB ?aS ?aL ?_;(case aP=>exact rfl);(case aB=>exact (by repeat (first|(with_reducible first|exact HB.out|apply below_alloc|apply pw_below_drewN|apply below_drew1)|exact HB.out)));(case aF=>exact (fun k_ hk=>⟨(.inr (Nat.le_trans (by first|exact HK.out.1|exact (show Kept w _ (fun k_=>P0_ k_) from by repeat (first|(with_reducible first|exact HK.out|apply Kept.alloc|apply Kept.drewN|apply Kept.drew)|exact HK.out)).1) hk)),Kd.fresh' (Kd.R_lt (by (with_reducible repeat (first|apply Kd.R_alloc|apply Kd.R_drewN|apply Kd.R_drew));exact HO_0.out)) k_ hk⟩));(case aO=>exact (by (with_reducible repeat (first|apply Kd.R_alloc|apply Kd.R_drewN|apply Kd.R_drew));exact HO179.out));(case aS=>exact (below_size (by repeat (first|(with_reducible first|exact HB.out|apply below_alloc|apply pw_below_drewN|apply below_drew1)|exact HB.out))));(case aL=>have:=LMc12.out;omega);intro v181 w21 ho hb hg hat;rw [← Ny180.out] at ho;have n0_:=Aside0.mk (Kd.R_after (ok:=(fun k_=>(P0_ k_ ∨ w.heap.size ≤ k_))) (by (with_reducible repeat (first|apply Kd.R_alloc|apply Kd.R_drewN|apply Kd.R_drew));exact HO_0.out) hg hat);have n1_:=Aside0.mk (hb);have n2_:=Aside0.mk (Kept.of_grown (S:=(fun k_=>P0_ k_)) hg (by repeat (first|(with_reducible first|exact HK.out|apply Kept.alloc|apply Kept.drewN|apply Kept.drew)|exact HK.out)) (fun k_ e_=>(HO179.out.1 k_ e_).1));have n3_:=Aside0.mk ((show Kd.C (Kd.int .i64) w21 (some ad168) y173.length y173 from by rw [Ny173.out];exact Kd.C_take (m:=(x5_1:Int).toNat) ((Kd.R_reads' (Kd.R_after (ok:=(fun k_=>(P0_ k_ ∨ w.heap.size ≤ k_))) (by (with_reducible repeat (first|apply Kd.R_alloc|apply Kd.R_drewN|apply Kd.R_drew));exact HO_0.out) hg hat)).2.2) KL19.out));have n4_:=Aside0.mk (ho);clear HO_0;clear HB;clear HK;clear HR176;clear HO179;have HO_0:=n0_;have HB:=n1_;have HK:=n2_;have HR176:=n3_;have HO182:=n4_;clear n0_ n1_ n2_ n3_ n4_;clear ho hb hg hat;have q22:(x5_1:Int) ≤ ((l0.length:Int):Int):=of_decide_eq_true (by first|(with_reducible assumption)|assumption);obtain ⟨i022,hi022,_,hsz22,_⟩:=info_parts info3;have hroom22:l0.length ≤ co16:=(Kd.R_reads' HO_0.out).2.1;have hC22:Kd.C (Kd.int .i64) _ (some ad168) l0.length l0:=(Kd.R_reads' HO_0.out).2.2;have q022:(0:Int) ≤ (x5_1:Int):=of_decide_eq_true (by first|(with_reducible assumption)|assumption);have hcut22:=cut_from (P:=Try.prog) 22 3 .i64 Try.underlying22 hi022 1 hsz22 (some ad168) l0.length co16 x5_1 q022 q22;have hr22:=Kd.C_drop (m:=(x5_1:Int).toNat) (c:=co16) hC22 (by omega) hroom22;obtain ⟨A22,hA22⟩:∃ A1_,A1_ = (if co16 = (x5_1:Int).toNat then (some ad168) else ((some ad168):Option Addr).map (·.add ((x5_1:Int).toNat * 1))):=⟨_,rfl⟩;obtain ⟨c22,hc22⟩:∃ c1_,c1_ = co16 - (x5_1:Int).toNat:=⟨_,rfl⟩;have hy22:y183.length = l0.length - (x5_1:Int).toNat:=(by rw [Ny183.out,List.length_drop] <;> omega);rw [show (l0).drop (x5_1:Int).toNat = y183 from Ny183.out.symm] at hr22;replace hr22:Kd.C (Kd.int .i64) _ A22 y183.length y183:=(by rw [hA22];exact hr22);rw [← hy22,← hA22,← hc22] at hcut22;have HR186:=Aside0.mk hr22;have HC186:=Aside0.mk (show y183.length ≤ c22 from by rw [hy22,hc22];exact Nat.sub_le_sub_right hroom22 _);clear hr22 hC22 hroom22 hi022 hsz22 hc22;have KY22:=Aside0.mk hy22;have KA22:=Aside0.mk hA22;clear hy22 hA22;have KL22:=Aside0.mk (show (x5_1:Int).toNat ≤ l0.length from by omega);replace q22:=eq_true q22)|((with_reducible refine gate_builtin (b:=.append) (xs:=#[.tmp 43,.tmp 46]) rfl ?_);at_builtin;refine Kd.R_append_rows (Kd.int .i64) (w0:=w0) w0.heap.size rfl (.tmp 43) (.tmp 46) 22 3 (.int .i64 0) 8 rfl Try.underlying22 info3 rfl (by decide) (by first|decide|omega) v181 y180 y183 _ _ _ (fun k_=>(P0_ k_ ∨ w.heap.size ≤ k_) ∧ some k_ ≠ (.slice (some ad168) l0.length co16:Value).ownBlock) (fun _=>False) rfl rfl ?aO ?aR (fun _ _ h=>h) (fun _ h=>h.elim) ?aF ?aB ?aS ?aL ?_;(case aR=>repeat (first|exact (by repeat (first|(with_reducible exact HR186.out)|(with_reducible refine Kd.C_alloc ?_ _)|(with_reducible refine Kd.C_drewN ?_ _)|(with_reducible refine Kd.C_drew ?_)|exact HR186.out))|(with_reducible refine Kd.C_alloc ?_ _)|(with_reducible refine Kd.C_drewN ?_ _)|(with_reducible refine Kd.C_drew ?_)));(case aB=>exact (by repeat (first|(with_reducible first|exact HB.out|apply below_alloc|apply pw_below_drewN|apply below_drew1)|exact HB.out)));(case aF=>exact (fun k_ hk=>⟨(.inr (Nat.le_trans (by first|exact HK.out.1|exact (show Kept w _ (fun k_=>P0_ k_) from by repeat (first|(with_reducible first|exact HK.out|apply Kept.alloc|apply Kept.drewN|apply Kept.drew)|exact HK.out)).1) hk)),Kd.fresh' (Kd.R_lt (by (with_reducible repeat (first|apply Kd.R_alloc|apply Kd.R_drewN|apply Kd.R_drew));exact HO_0.out)) k_ hk⟩));(case aO=>exact (by (with_reducible repeat (first|apply Kd.R_alloc|apply Kd.R_drewN|apply Kd.R_drew));exact HO182.out));(case aS=>exact (below_size (by repeat (first|(with_reducible first|exact HB.out|apply below_alloc|apply pw_below_drewN|apply below_drew1)|exact HB.out))));(case aL=>have:=LMc15.out;omega);intro v188 w23 ho hb hg hat;rw [← Ny187.out] at ho;have n0_:=Aside0.mk (Kd.R_after (ok:=(fun k_=>(P0_ k_ ∨ w.heap.size ≤ k_))) (by (with_reducible repeat (first|apply Kd.R_alloc|apply Kd.R_drewN|apply Kd.R_drew));exact HO_0.out) hg hat);have n1_:=Aside0.mk (hb);have n2_:=Aside0.mk (Kept.of_grown (S:=(fun k_=>P0_ k_)) hg (by repeat (first|(with_reducible first|exact HK.out|apply Kept.alloc|apply Kept.drewN|apply Kept.drew)|exact HK.out)) (fun k_ e_=>(HO182.out.1 k_ e_).1));have n3_:=Aside0.mk ((show Kd.C (Kd.int .i64) w23 (some ad168) y173.length y173 from by rw [Ny173.out];exact Kd.C_take (m:=(x5_1:Int).toNat) ((Kd.R_reads' (Kd.R_after (ok:=(fun k_=>(P0_ k_ ∨ w.heap.size ≤ k_))) (by (with_reducible repeat (first|apply Kd.R_alloc|apply Kd.R_drewN|apply Kd.R_drew));exact HO_0.out) hg hat)).2.2) KL19.out));have n4_:=Aside0.mk ((show Kd.C (Kd.int .i64) w23 A22 y183.length y183 from by rw [Ny183.out,KA22.out];exact Kd.C_drop (m:=(x5_1:Int).toNat) (c:=co16) ((Kd.R_reads' (Kd.R_after (ok:=(fun k_=>(P0_ k_ ∨ w.heap.size ≤ k_))) (by (with_reducible repeat (first|apply Kd.R_alloc|apply Kd.R_drewN|apply Kd.R_drew));exact HO_0.out) hg hat)).2.2) KL22.out ((Kd.R_reads' (Kd.R_after (ok:=(fun k_=>(P0_ k_ ∨ w.heap.size ≤ k_))) (by (with_reducible repeat (first|apply Kd.R_alloc|apply Kd.R_drewN|apply Kd.R_drew));exact HO_0.out) hg hat)).2.1)));have n5_:=Aside0.mk (ho);clear HO_0;clear HB;clear HK;clear HR176;clear HR186;clear HO182;have HO_0:=n0_;have HB:=n1_;have HK:=n2_;have HR176:=n3_;have HR186:=n4_;have HO189:=n5_;clear n0_ n1_ n2_ n3_ n4_ n5_;clear ho hb hg hat))
           go_ret
           exact ⟨_,by first|rfl|(simp [errW_none,errW_some] <;> rfl)|(simp [*,errW_none,errW_some] <;> rfl),by (with_reducible repeat (first|apply Kd.R_alloc|apply Kd.R_drewN|apply Kd.R_drew));exact Kd.R_mono HO189.out (fun _ hk=>hk.1),by repeat (first|(with_reducible first|exact HB.out|apply below_alloc|apply pw_below_drewN|apply below_drew1)|exact HB.out),by repeat (first|(with_reducible first|exact HK.out|apply Kept.alloc|apply Kept.drewN|apply Kept.drew)|exact HK.out)⟩
          ·rw [if_neg c15] at H
           exact absurd H (by simp)
         ·rw [if_neg c12] at H
          exact absurd H (by simp)
        ·rw [if_neg c11] at H
         exact absurd H (by simp)
       ·rw [if_neg c10] at H
        exact absurd H (by simp)
    ·rw [if_neg c4] at H
     exact absurd H (by simp)
   ·rw [if_neg c3] at H
    have c3b0:decide (x5_1 < (l0.length:Int)) = false:=decide_eq_false c3
    clear c3
    obtain ⟨y190,hy190⟩:∃ y_:List Int,y_ = (([]:List Int)):=⟨_,rfl⟩
    replace H:(if 0 ≤ x5_1 then (if x5_1 ≤ (l0.length:Int) then ((some (l0.take (x5_1:Int).toNat:List Int)).bind fun y193=>(if y190.length + y193.length < 17592186044416 then ((some (y190 ++ y193:List Int)).bind fun y197=>(if y197.length < 17592186044416 then ((some (y197 ++ [a1]:List Int)).bind fun y200=>((some (l0.drop (x5_1:Int).toNat:List Int)).bind fun y203=>(if y200.length + y203.length < 17592186044416 then (some (y200 ++ y203)) else (none)))) else (none))) else (none))) else (none)) else (none)) = some r:=by first|(rw [hy190];with_reducible exact H)|(have H2_:=(Option.bind_some _ _).symm.trans H;rw [hy190];with_reducible exact H2_)|(have H2_:=(Option.bind_some _ _).symm.trans H;with_reducible exact H2_)|with_reducible exact H|(rw [hy190];exact H)|exact H
    have Ny190:=Aside0.mk hy190
    clear hy190
    by_cases c24:0 ≤ x5_1
    ·rw [if_pos c24] at H
     have c24b0:=eq_true c24
     have c24b1:decide (0 ≤ x5_1) = true:=decide_eq_true c24
     clear c24
     by_cases c25:x5_1 ≤ (l0.length:Int)
     ·rw [if_pos c25] at H
      have c25b0:=eq_true c25
      have c25b1:decide (x5_1 ≤ (l0.length:Int)) = true:=decide_eq_true c25
      clear c25
      obtain ⟨y193,hy193⟩:∃ y_:List Int,y_ = (l0.take (x5_1:Int).toNat):=⟨_,rfl⟩
      replace H:(if y190.length + y193.length < 17592186044416 then ((some (y190 ++ y193:List Int)).bind fun y197=>(if y197.length < 17592186044416 then ((some (y197 ++ [a1]:List Int)).bind fun y200=>((some (l0.drop (x5_1:Int).toNat:List Int)).bind fun y203=>(if y200.length + y203.length < 17592186044416 then (some (y200 ++ y203)) else (none)))) else (none))) else (none)) = some r:=by first|(rw [hy193];with_reducible exact H)|(have H2_:=(Option.bind_some _ _).symm.trans H;rw [hy193];with_reducible exact H2_)|(have H2_:=(Option.bind_some _ _).symm.trans H;with_reducible exact H2_)|with_reducible exact H|(rw [hy193];exact H)|exact H
      have Ny193:=Aside0.mk hy193
      clear hy193
      by_cases c26:y190.length + y193.length < 17592186044416
      ·rw [if_pos c26] at H
       have LMc26:=Aside0.mk c26
       clear c26
       obtain ⟨y197,hy197⟩:∃ y_:List Int,y_ = (y190 ++ y193):=⟨_,rfl⟩
       replace H:(if y197.length < 17592186044416 then ((some (y197 ++ [a1]:List Int)).bind fun y200=>((some (l0.drop (x5_1:Int).toNat:List Int)).bind fun y203=>(if y200.length + y203.length < 17592186044416 then (some (y200 ++ y203)) else (none)))) else (none)) = some r:=by first|(rw [hy197];with_reducible exact H)|(have H2_:=(Option.bind_some _ _).symm.trans H;rw [hy197];with_reducible exact H2_)|(have H2_:=(Option.bind_some _ _).symm.trans H;with_reducible exact H2_)|with_reducible exact H|(rw [hy197];exact H)|exact H
       have Ny197:=Aside0.mk hy197
       clear hy197
       by_cases c27:y197.length < 17592186044416
       ·rw [if_pos c27] at H
        have LMc27:=Aside0.mk c27
        clear c27
        obtain ⟨y200,hy200⟩:∃ y_:List Int,y_ = (y197 ++ [a1]):=⟨_,rfl⟩
        replace H:((some (l0.drop (x5_1:Int).toNat:List Int)).bind fun y203=>(if y200.length + y203.length < 17592186044416 then (some (y200 ++ y203)) else (none))) = some r:=by first|(rw [hy200];with_reducible exact H)|(have H2_:=(Option.bind_some _ _).symm.trans H;rw [hy200];with_reducible exact H2_)|(have H2_:=(Option.bind_some _ _).symm.trans H;with_reducible exact H2_)|with_reducible exact H|(rw [hy200];exact H)|exact H
        have Ny200:=Aside0.mk hy200
        clear hy200
        have c28b0:=eq_true (of_decide_eq_true (by first|(with_reducible assumption)|assumption):0 ≤ x5_1)
        have c29b0:=eq_true (of_decide_eq_true (by first|(with_reducible assumption)|assumption):x5_1 ≤ (l0.length:Int))
        obtain ⟨y203,hy203⟩:∃ y_:List Int,y_ = (l0.drop (x5_1:Int).toNat):=⟨_,rfl⟩
        replace H:(if y200.length + y203.length < 17592186044416 then (some (y200 ++ y203)) else (none)) = some r:=by first|(rw [hy203];with_reducible exact H)|(have H2_:=(Option.bind_some _ _).symm.trans H;rw [hy203];with_reducible exact H2_)|(have H2_:=(Option.bind_some _ _).symm.trans H;with_reducible exact H2_)|with_reducible exact H|(rw [hy203];exact H)|exact H
        have Ny203:=Aside0.mk hy203
        clear hy203
        by_cases c30:y200.length + y203.length < 17592186044416
        ·rw [if_pos c30] at H
         have LMc30:=Aside0.mk c30
         clear c30
         obtain ⟨y207,hy207⟩:∃ y_:List Int,y_ = (y200 ++ y203):=⟨_,rfl⟩
         replace H:(some y207) = some r:=by first|(rw [hy207];with_reducible exact H)|(have H2_:=(Option.bind_some _ _).symm.trans H;rw [hy207];with_reducible exact H2_)|(have H2_:=(Option.bind_some _ _).symm.trans H;with_reducible exact H2_)|with_reducible exact H|(rw [hy207];exact H)|exact H
         have Ny207:=Aside0.mk hy207
         clear hy207
         obtain rfl:=Option.some.inj H
         obtain ⟨Ao31,co31,eo31⟩:=Kd.R_slice HO_0.out
         subst eo31
         go_wp2_with (first|((with_reducible refine gate_dst (N:=34) rfl ?_);refine Kd.R_lit (Kd.int .i64) _ 3 ?hg (N:=34) ?hd (xs:=([]:List Int)) (inner:=[]) (ok:=fun _=>True) (okp:=fun _=>True) ?hr ?hp (fun _ hk=>hk) trivial (Below.refl _ _) (Nat.le_refl _) (by simp) ?_;(case hd=>rfl);(case hg=>rfl);(case hr=>first|(go_simp;done)|(go_simp;rfl));(case hp=>exact (Reps.none _ _));intro v191 w32 ho33 hb hg_ hnew_;clear hg_ hnew_;(first|rw [← Ny190.out] at ho33|(simp only [Int.reduceToNat] at ho33;rw [← Ny190.out] at ho33));have n0_:=Aside0.mk (Kd.R_elder' (by (with_reducible repeat (first|apply Kd.R_alloc|apply Kd.R_drewN|apply Kd.R_drew));exact HO_0.out) (Kd.R_base ho33) hb);have n1_:=Aside0.mk (Kd.R_lower (Kd.R_new' (Kd.R_newM (M:=fun k_=>(P0_ k_ ∨ w.heap.size ≤ k_)) ho33 (by first|exact HK.out.1|exact (show Kept w _ (fun k_=>P0_ k_) from by repeat (first|(with_reducible first|exact HK.out|apply Kept.alloc|apply Kept.drewN|apply Kept.drew)|exact HK.out)).1) (fun k_ h_=>.inr h_)) (Kd.R_lt (by (with_reducible repeat (first|apply Kd.R_alloc|apply Kd.R_drewN|apply Kd.R_drew));exact HO_0.out))) (below_size (by repeat (first|(with_reducible first|exact HB.out|apply below_alloc|apply pw_below_drewN|apply below_drew1)|exact HB.out))));have n2_:=Aside0.mk (Kept.below (S:=(fun k_=>P0_ k_)) (by repeat (first|(with_reducible first|exact HK.out|apply Kept.alloc|apply Kept.drewN|apply Kept.drew)|exact HK.out)) hb);have n3_:=Aside0.mk (below_step (by repeat (first|(with_reducible first|exact HB.out|apply below_alloc|apply pw_below_drewN|apply below_drew1)|exact HB.out)) hb);clear HO_0;clear HK;clear HB;have HO_0:=n0_;have HO192:=n1_;have HK:=n2_;have HB:=n3_;clear n0_ n1_ n2_ n3_;clear hb ho33;have q34:(x5_1:Int) ≤ ((l0.length:Int):Int):=of_decide_eq_true (by first|(with_reducible assumption)|assumption);obtain ⟨i034,hi034,_,hsz34,_⟩:=info_parts info3;have hroom34:l0.length ≤ co31:=(Kd.R_reads' HO_0.out).2.1;have hC34:Kd.C (Kd.int .i64) _ Ao31 l0.length l0:=(Kd.R_reads' HO_0.out).2.2;have hcut34:=cut_to (P:=Try.prog) 22 3 .i64 Try.underlying22 hi034 Ao31 l0.length co31 x5_1 (of_decide_eq_true (by first|(with_reducible assumption)|assumption)) q34 hroom34;have hr34:=Kd.C_take (m:=(x5_1:Int).toNat) hC34 (by omega);have hy34:y193.length = (x5_1:Int).toNat:=(by rw [Ny193.out,List.length_take];omega);rw [← Ny193.out] at hr34;rw [← hy34] at hcut34;have HR196:=Aside0.mk hr34;have HC196:=Aside0.mk (show y193.length ≤ co31 from by omega);clear hr34 hC34 hroom34 hi034 hsz34;have KY34:=Aside0.mk hy34;clear hy34;have KL34:=Aside0.mk (show (x5_1:Int).toNat ≤ l0.length from by omega);replace q34:=eq_true q34)|((with_reducible refine gate_builtin (b:=.append) (xs:=#[.tmp 34,.tmp 37]) rfl ?_);at_builtin;refine Kd.R_append_rows (Kd.int .i64) (w0:=w0) w0.heap.size rfl (.tmp 34) (.tmp 37) 22 3 (.int .i64 0) 8 rfl Try.underlying22 info3 rfl (by decide) (by first|decide|omega) v191 y190 y193 _ _ _ (fun k_=>(P0_ k_ ∨ w.heap.size ≤ k_) ∧ some k_ ≠ (.slice Ao31 l0.length co31:Value).ownBlock) (fun _=>False) rfl rfl ?aO ?aR (fun _ _ h=>h) (fun _ h=>h.elim) ?aF ?aB ?aS ?aL ?_;(case aR=>repeat (first|exact (by repeat (first|(with_reducible exact HR196.out)|(with_reducible refine Kd.C_alloc ?_ _)|(with_reducible refine Kd.C_drewN ?_ _)|(with_reducible refine Kd.C_drew ?_)|exact HR196.out))|(with_reducible refine Kd.C_alloc ?_ _)|(with_reducible refine Kd.C_drewN ?_ _)|(with_reducible refine Kd.C_drew ?_)));(case aB=>exact (by repeat (first|(with_reducible first|exact HB.out|apply below_alloc|apply pw_below_drewN|apply below_drew1)|exact HB.out)));(case aF=>exact (fun k_ hk=>⟨(.inr (Nat.le_trans (by first|exact HK.out.1|exact (show Kept w _ (fun k_=>P0_ k_) from by repeat (first|(with_reducible first|exact HK.out|apply Kept.alloc|apply Kept.drewN|apply Kept.drew)|exact HK.out)).1) hk)),Kd.fresh' (Kd.R_lt (by (with_reducible repeat (first|apply Kd.R_alloc|apply Kd.R_drewN|apply Kd.R_drew));exact HO_0.out)) k_ hk⟩));(case aO=>exact (by (with_reducible repeat (first|apply Kd.R_alloc|apply Kd.R_drewN|apply Kd.R_drew));exact Kd.R_mono HO192.out (fun _ hk=>⟨hk.1.1,hk.2⟩)));(case aS=>exact (below_size (by repeat (first|(with_reducible first|exact HB.out|apply below_alloc|apply pw_below_drewN|apply below_drew1)|exact HB.out))));(case aL=>have:=LMc26.out;omega);intro v198 w35 ho hb hg hat;rw [← Ny197.out] at ho;have n0_:=Aside0.mk (Kd.R_after (ok:=(fun k_=>(P0_ k_ ∨ w.heap.size ≤ k_))) (by (with_reducible repeat (first|apply Kd.R_alloc|apply Kd.R_drewN|apply Kd.R_drew));exact HO_0.out) hg hat);have n1_:=Aside0.mk (hb);have n2_:=Aside0.mk (Kept.of_grown (S:=(fun k_=>P0_ k_)) hg (by repeat (first|(with_reducible first|exact HK.out|apply Kept.alloc|apply Kept.drewN|apply Kept.drew)|exact HK.out)) (fun k_ e_=>(HO192.out.1 k_ e_).1.1));have n3_:=Aside0.mk ((show Kd.C (Kd.int .i64) w35 Ao31 y193.length y193 from by rw [Ny193.out];exact Kd.C_take (m:=(x5_1:Int).toNat) ((Kd.R_reads' (Kd.R_after (ok:=(fun k_=>(P0_ k_ ∨ w.heap.size ≤ k_))) (by (with_reducible repeat (first|apply Kd.R_alloc|apply Kd.R_drewN|apply Kd.R_drew));exact HO_0.out) hg hat)).2.2) KL34.out));have n4_:=Aside0.mk (ho);clear HO_0;clear HB;clear HK;clear HR196;clear HO192;have HO_0:=n0_;have HB:=n1_;have HK:=n2_;have HR196:=n3_;have HO199:=n4_;clear n0_ n1_ n2_ n3_ n4_;clear ho hb hg hat)|((with_reducible refine gate_builtin (b:=.append) (xs:=#[.tmp 39,.tmp 41]) rfl ?_);at_builtin;refine Kd.R_append (Kd.int .i64) (w0:=w0) w0.heap.size rfl (.tmp 39) (.tmp 41) 22 3 (.int .i64 0) 8 rfl Try.underlying22 info3 rfl (by decide) (by first|decide|omega) v198 y197 a1 [.int .i64 a1] (fun k_=>(P0_ k_ ∨ w.heap.size ≤ k_) ∧ some k_ ≠ (.slice Ao31 l0.length co31:Value).ownBlock) (fun _=>False) rfl rfl ?aP (fun _ hk=>hk.elim) ?aF ?aO ?aB ?aS ?aL ?_;(case aP=>exact rfl);(case aB=>exact (by repeat (first|(with_reducible first|exact HB.out|apply below_alloc|apply pw_below_drewN|apply below_drew1)|exact HB.out)));(case aF=>exact (fun k_ hk=>⟨(.inr (Nat.le_trans (by first|exact HK.out.1|exact (show Kept w _ (fun k_=>P0_ k_) from by repeat (first|(with_reducible first|exact HK.out|apply Kept.alloc|apply Kept.drewN|apply Kept.drew)|exact HK.out)).1) hk)),Kd.fresh' (Kd.R_lt (by (with_reducible repeat (first|apply Kd.R_alloc|apply Kd.R_drewN|apply Kd.R_drew));exact HO_0.out)) k_ hk⟩));(case aO=>exact (by (with_reducible repeat (first|apply Kd.R_alloc|apply Kd.R_drewN|apply Kd.R_drew));exact HO199.out));(case aS=>exact (below_size (by repeat (first|(with_reducible first|exact HB.out|apply below_alloc|apply pw_below_drewN|apply below_drew1)|exact HB.out))));(case aL=>have:=LMc27.out;omega);intro v201 w36 ho hb hg hat;rw [← Ny200.out] at ho;have n0_:=Aside0.mk (Kd.R_after (ok:=(fun k_=>(P0_ k_ ∨ w.heap.size ≤ k_))) (by (with_reducible repeat (first|apply Kd.R_alloc|apply Kd.R_drewN|apply Kd.R_drew));exact HO_0.out) hg hat);have n1_:=Aside0.mk (hb);have n2_:=Aside0.mk (Kept.of_grown (S:=(fun k_=>P0_ k_)) hg (by repeat (first|(with_reducible first|exact HK.out|apply Kept.alloc|apply Kept.drewN|apply Kept.drew)|exact HK.out)) (fun k_ e_=>(HO199.out.1 k_ e_).1));have n3_:=Aside0.mk ((show Kd.C (Kd.int .i64) w36 Ao31 y193.length y193 from by rw [Ny193.out];exact Kd.C_take (m:=(x5_1:Int).toNat) ((Kd.R_reads' (Kd.R_after (ok:=(fun k_=>(P0_ k_ ∨ w.heap.size ≤ k_))) (by (with_reducible repeat (first|apply Kd.R_alloc|apply Kd.R_drewN|apply Kd.R_drew));exact HO_0.out) hg hat)).2.2) KL34.out));have n4_:=Aside0.mk (ho);clear HO_0;clear HB;clear HK;clear HR196;clear HO199;have HO_0:=n0_;have HB:=n1_;have HK:=n2_;have HR196:=n3_;have HO202:=n4_;clear n0_ n1_ n2_ n3_ n4_;clear ho hb hg hat;have q37:(x5_1:Int) ≤ ((l0.length:Int):Int):=of_decide_eq_true (by first|(with_reducible assumption)|assumption);obtain ⟨i037,hi037,_,hsz37,_⟩:=info_parts info3;have hroom37:l0.length ≤ co31:=(Kd.R_reads' HO_0.out).2.1;have hC37:Kd.C (Kd.int .i64) _ Ao31 l0.length l0:=(Kd.R_reads' HO_0.out).2.2;have q037:(0:Int) ≤ (x5_1:Int):=of_decide_eq_true (by first|(with_reducible assumption)|assumption);have hcut37:=cut_from (P:=Try.prog) 22 3 .i64 Try.underlying22 hi037 1 hsz37 Ao31 l0.length co31 x5_1 q037 q37;have hr37:=Kd.C_drop (m:=(x5_1:Int).toNat) (c:=co31) hC37 (by omega) hroom37;obtain ⟨A37,hA37⟩:∃ A1_,A1_ = (if co31 = (x5_1:Int).toNat then Ao31 else (Ao31:Option Addr).map (·.add ((x5_1:Int).toNat * 1))):=⟨_,rfl⟩;obtain ⟨c37,hc37⟩:∃ c1_,c1_ = co31 - (x5_1:Int).toNat:=⟨_,rfl⟩;have hy37:y203.length = l0.length - (x5_1:Int).toNat:=(by rw [Ny203.out,List.length_drop] <;> omega);rw [show (l0).drop (x5_1:Int).toNat = y203 from Ny203.out.symm] at hr37;replace hr37:Kd.C (Kd.int .i64) _ A37 y203.length y203:=(by rw [hA37];exact hr37);rw [← hy37,← hA37,← hc37] at hcut37;have HR206:=Aside0.mk hr37;have HC206:=Aside0.mk (show y203.length ≤ c37 from by rw [hy37,hc37];exact Nat.sub_le_sub_right hroom37 _);clear hr37 hC37 hroom37 hi037 hsz37 hc37;have KY37:=Aside0.mk hy37;have KA37:=Aside0.mk hA37;clear hy37 hA37;have KL37:=Aside0.mk (show (x5_1:Int).toNat ≤ l0.length from by omega);replace q37:=eq_true q37)|((with_reducible refine gate_builtin (b:=.append) (xs:=#[.tmp 43,.tmp 46]) rfl ?_);at_builtin;refine Kd.R_append_rows (Kd.int .i64) (w0:=w0) w0.heap.size rfl (.tmp 43) (.tmp 46) 22 3 (.int .i64 0) 8 rfl Try.underlying22 info3 rfl (by decide) (by first|decide|omega) v201 y200 y203 _ _ _ (fun k_=>(P0_ k_ ∨ w.heap.size ≤ k_) ∧ some k_ ≠ (.slice Ao31 l0.length co31:Value).ownBlock) (fun _=>False) rfl rfl ?aO ?aR (fun _ _ h=>h) (fun _ h=>h.elim) ?aF ?aB ?aS ?aL ?_;(case aR=>repeat (first|exact (by repeat (first|(with_reducible exact HR206.out)|(with_reducible refine Kd.C_alloc ?_ _)|(with_reducible refine Kd.C_drewN ?_ _)|(with_reducible refine Kd.C_drew ?_)|exact HR206.out))|(with_reducible refine Kd.C_alloc ?_ _)|(with_reducible refine Kd.C_drewN ?_ _)|(with_reducible refine Kd.C_drew ?_)));(case aB=>exact (by repeat (first|(with_reducible first|exact HB.out|apply below_alloc|apply pw_below_drewN|apply below_drew1)|exact HB.out)));(case aF=>exact (fun k_ hk=>⟨(.inr (Nat.le_trans (by first|exact HK.out.1|exact (show Kept w _ (fun k_=>P0_ k_) from by repeat (first|(with_reducible first|exact HK.out|apply Kept.alloc|apply Kept.drewN|apply Kept.drew)|exact HK.out)).1) hk)),Kd.fresh' (Kd.R_lt (by (with_reducible repeat (first|apply Kd.R_alloc|apply Kd.R_drewN|apply Kd.R_drew));exact HO_0.out)) k_ hk⟩));(case aO=>exact (by (with_reducible repeat (first|apply Kd.R_alloc|apply Kd.R_drewN|apply Kd.R_drew));exact HO202.out));(case aS=>exact (below_size (by repeat (first|(with_reducible first|exact HB.out|apply below_alloc|apply pw_below_drewN|apply below_drew1)|exact HB.out))));(case aL=>have:=LMc30.out;omega);intro v208 w38 ho hb hg hat;rw [← Ny207.out] at ho;have n0_:=Aside0.mk (Kd.R_after (ok:=(fun k_=>(P0_ k_ ∨ w.heap.size ≤ k_))) (by (with_reducible repeat (first|apply Kd.R_alloc|apply Kd.R_drewN|apply Kd.R_drew));exact HO_0.out) hg hat);have n1_:=Aside0.mk (hb);have n2_:=Aside0.mk (Kept.of_grown (S:=(fun k_=>P0_ k_)) hg (by repeat (first|(with_reducible first|exact HK.out|apply Kept.alloc|apply Kept.drewN|apply Kept.drew)|exact HK.out)) (fun k_ e_=>(HO202.out.1 k_ e_).1));have n3_:=Aside0.mk ((show Kd.C (Kd.int .i64) w38 Ao31 y193.length y193 from by rw [Ny193.out];exact Kd.C_take (m:=(x5_1:Int).toNat) ((Kd.R_reads' (Kd.R_after (ok:=(fun k_=>(P0_ k_ ∨ w.heap.size ≤ k_))) (by (with_reducible repeat (first|apply Kd.R_alloc|apply Kd.R_drewN|apply Kd.R_drew));exact HO_0.out) hg hat)).2.2) KL34.out));have n4_:=Aside0.mk ((show Kd.C (Kd.int .i64) w38 A37 y203.length y203 from by rw [Ny203.out,KA37.out];exact Kd.C_drop (m:=(x5_1:Int).toNat) (c:=co31) ((Kd.R_reads' (Kd.R_after (ok:=(fun k_=>(P0_ k_ ∨ w.heap.size ≤ k_))) (by (with_reducible repeat (first|apply Kd.R_alloc|apply Kd.R_drewN|apply Kd.R_drew));exact HO_0.out) hg hat)).2.2) KL37.out ((Kd.R_reads' (Kd.R_after (ok:=(fun k_=>(P0_ k_ ∨ w.heap.size ≤ k_))) (by (with_reducible repeat (first|apply Kd.R_alloc|apply Kd.R_drewN|apply Kd.R_drew));exact HO_0.out) hg hat)).2.1)));have n5_:=Aside0.mk (ho);clear HO_0;clear HB;clear HK;clear HR196;clear HR206;clear HO202;have HO_0:=n0_;have HB:=n1_;have HK:=n2_;have HR196:=n3_;have HR206:=n4_;have HO209:=n5_;clear n0_ n1_ n2_ n3_ n4_ n5_;clear ho hb hg hat))
         go_ret
         exact ⟨_,by first|rfl|(simp [errW_none,errW_some] <;> rfl)|(simp [*,errW_none,errW_some] <;> rfl),by (with_reducible repeat (first|apply Kd.R_alloc|apply Kd.R_drewN|apply Kd.R_drew));exact Kd.R_mono HO209.out (fun _ hk=>hk.1),by repeat (first|(with_reducible first|exact HB.out|apply below_alloc|apply pw_below_drewN|apply below_drew1)|exact HB.out),by repeat (first|(with_reducible first|exact HK.out|apply Kept.alloc|apply Kept.drewN|apply Kept.drew)|exact HK.out)⟩
        ·rw [if_neg c30] at H
         exact absurd H (by simp)
       ·rw [if_neg c27] at H
        exact absurd H (by simp)
      ·rw [if_neg c26] at H
       exact absurd H (by simp)
     ·rw [if_neg c25] at H
      exact absurd H (by simp)
    ·rw [if_neg c24] at H
     exact absurd H (by simp)

/-! ### spec_InputsOf: function 31 -/
def spec_InputsOf.l0:Nat → List Int → List (S81) → Int → Int → Option (List Int × Bool)
 | 0,_,_,_,_=>none
 | k + 1,x6,x13,x14,x15=>if x15 < x14 then (if 0 ≤ x15 then (if x15 < (x13.length:Int) then (if ((rd_T81 x13 x15).f0) = 1 then (if (((rd_T81 x13 x15).f2).length:Int) = 1 then (if 0 < (((rd_T81 x13 x15).f2).length:Int) then ((spec_l1Put.f k x6 (rd ((rd_T81 x13 x15).f2) 0)).bind fun t215=>(spec_InputsOf.l0 k t215 x13 x14 (wrap64 (x15 + 1)))) else (none)) else (spec_InputsOf.l0 k x6 x13 x14 (wrap64 (x15 + 1)))) else (spec_InputsOf.l0 k x6 x13 x14 (wrap64 (x15 + 1)))) else (none)) else (none)) else (some (x6,true))
def spec_InputsOf.f (k:Nat) (l0_0:List Int) (l1:List (S81)):Option (List Int × Bool):=(spec_l9Steps.f k l0_0 l1).bind fun t211=>(if t211 = true then (spec_InputsOf.l0 k ([]:List Int) l1 (l1.length:Int) 0) else (some (([]:List Int),false)))
theorem spec_InputsOf.mono_l:∀ k,(∀ y0 y1 y2 y3,LeO (spec_InputsOf.l0 k y0 y1 y2 y3) (spec_InputsOf.l0 (k + 1) y0 y1 y2 y3))
 | 0=>fun _ _ _ _ r h=>by simp [spec_InputsOf.l0] at h
 | k + 1=>by
  have ih0:=spec_InputsOf.mono_l k
  ·intro y0 y1 y2 y3
   unfold spec_InputsOf.l0
   repeat' first
   | (with_reducible exact ih0 _ _ _ _)
   | (with_reducible exact spec_l1Put.mono _ _ _)
   | (with_reducible exact spec_l9Steps.mono _ _ _)
   | (with_reducible exact LeO.refl _)
   | (with_reducible exact LeO.none _)
   | (with_reducible refine LeO.ite ?_ ?_)
   | (with_reducible refine LeO.bind ?_ (fun _=>?_))
   | exact ih0 _ _ _ _
   | exact spec_l1Put.mono _ _ _
   | exact spec_l9Steps.mono _ _ _
   | exact LeO.none _
   | refine LeO.ite ?_ ?_
   | refine LeO.bind ?_ (fun _=>?_)
theorem spec_InputsOf.mono:∀ a0 a1 k,LeO (spec_InputsOf.f k a0 a1) (spec_InputsOf.f (k + 1) a0 a1):=by
 intro a0 a1 k
 have ih0:=spec_InputsOf.mono_l k
 unfold spec_InputsOf.f
 repeat' first
   | (with_reducible exact ih0 _ _ _ _)
   | (with_reducible exact spec_l1Put.mono _ _ _)
   | (with_reducible exact spec_l9Steps.mono _ _ _)
   | (with_reducible exact LeO.refl _)
   | (with_reducible exact LeO.none _)
   | (with_reducible refine LeO.ite ?_ ?_)
   | (with_reducible refine LeO.bind ?_ (fun _=>?_))
   | exact ih0 _ _ _ _
   | exact spec_l1Put.mono _ _ _
   | exact spec_l9Steps.mono _ _ _
   | exact LeO.none _
   | refine LeO.ite ?_ ?_
   | refine LeO.bind ?_ (fun _=>?_)
set_option maxHeartbeats 8000000 in
set_option maxRecDepth 100000 in
theorem spec_InputsOf.calls (k:Nat) (A0_0:Option Addr) (c0_0:Nat) (l0_0:List Int) (A1:Option Addr) (c1:Nat) (l1:List (S81)) (r1:List Int) (r2:Bool) (w:World) (hr0_0:Kd.C (Kd.int .i64) w A0_0 l0_0.length l0_0) (hc0_0:l0_0.length ≤ c0_0) (hr1:Kd.C k81 w A1 l1.length l1) (hc1:l1.length ≤ c1) (h:spec_InputsOf.f k l0_0 l1 = some (r1,r2)) :
  Calls Try.prog 31 #[.agg #[.slice A0_0 l0_0.length c0_0],.slice A1 l1.length c1] w fun e w'=>∃ v0_:Value,e = .returned (.tuple #[v0_,.bool r2]) ∧ Kd.R (Kd.int .i64) 3 w' w.heap.size (fun _=>True) v0_ r1 ∧ Below w.heap.size w w':=by
 have hu30:=Try.underlying30
 have hu81:=Try.underlying81
 have HR0_0:=Aside0.mk hr0_0
 have HC0_0:=Aside0.mk hc0_0
 clear hr0_0 hc0_0
 have HR1:=Aside0.mk hr1
 have HC1:=Aside0.mk hc1
 clear hr1 hc1
 have HB:=Aside0.mk (Below.refl w.heap.size w)
 have H:((spec_l9Steps.f k l0_0 l1).bind fun t211=>(if t211 = true then (spec_InputsOf.l0 k ([]:List Int) l1 (l1.length:Int) 0) else (some (([]:List Int),false)))) = some (r1,r2):=h
 clear h
 replace H:=Option.bind_eq_some_iff.mp H
 obtain ⟨t211,A30,H⟩:=H
 replace H:(if t211 = true then (spec_InputsOf.l0 k ([]:List Int) l1 (l1.length:Int) 0) else (some (([]:List Int),false))) = some (r1,r2):=H
 have A3:=Aside0.mk A30
 clear A30
 by_cases c4:t211 = true
 ·subst c4
  have H1:(spec_InputsOf.l0 k ([]:List Int) l1 (l1.length:Int) 0) = some (r1,r2):=by rw [if_pos rfl] at H;exact H
  clear H
  have H:=H1
  clear H1
  have H':=Aside0.mk H
  clear H
  go_enter Try.func31,Try.ntmps31
  go_wp2_with (first|((with_reducible refine gate_dst (N:=2) rfl ?_);(try (refine gate_guard (by rfl) ?_;dsimp only));refine box_event ?hg (N:=2) ?hd (cs:=#[.slice A0_0 l0_0.length c0_0]) (t:=30) ?hr ?_;(case hd=>rfl);(case hg=>rfl);(case hr=>first|(go_simp;done)|(go_simp;rfl));intro gb210 hg w5 hbox hb;have n0_:=Aside0.mk (below_step (by repeat (first|(with_reducible first|exact HB.out|apply below_alloc|apply pw_below_drewN|apply below_drew1)|exact HB.out)) hb);have n1_:=Aside0.mk (hbox);have n2_:=Aside0.mk ((by rw [hg];exact (below_size (by repeat (first|(with_reducible first|exact HB.out|apply below_alloc|apply pw_below_drewN|apply below_drew1)|exact HB.out))):w.heap.size ≤ gb210));have n3_:=Aside0.mk ((by rw [hg];exact (below_size (by repeat (first|(with_reducible first|exact HB.out|apply below_alloc|apply pw_below_drewN|apply below_drew1)|exact HB.out))):w.heap.size ≤ gb210));clear HB;have HB:=n0_;have BK210:=n1_;have GW210:=n2_;have GE210:=n3_;clear n0_ n1_ n2_ n3_;clear hb hbox hg;have hcz6_0:w5.cell? ⟨gb210,0,none⟩ = some (.slice A0_0 l0_0.length c0_0):=(blk_cell BK210.out 0).trans rfl;have hfz6_0:=blk_frozen BK210.out 0)|((with_reducible refine gate_callee (f:=55) rfl ?_);refine goesL_ (some 11) rfl rfl Try.func55 (by kernel_rfl) rfl #[.agg #[.slice A0_0 l0_0.length c0_0],.slice A1 l1.length c1] rfl (by (try simp only [List.map_toArray,List.map_cons,List.map_nil]);first|done|rfl|(simp only [List.length_drop,List.length_take];rfl)) ?_;(with_reducible refine (spec_l9Steps.calls k _ _ l0_0 _ _ l1 true _ ?side1 ?side2 ?side3 ?side4 A3.out).mono ?_);(case side1=>repeat (first|exact (Kd.C_below HR0_0.out HB.out)|(with_reducible refine Kd.C_alloc ?_ _)|(with_reducible refine Kd.C_drewN ?_ _)|(with_reducible refine Kd.C_drew ?_)));(case side2=>exact HC0_0.out);(case side3=>repeat (first|exact (Kd.C_below HR1.out HB.out)|(with_reducible refine Kd.C_alloc ?_ _)|(with_reducible refine Kd.C_drewN ?_ _)|(with_reducible refine Kd.C_drew ?_)));(case side4=>exact HC1.out);rintro e w7 ⟨rfl,hb⟩;refine ⟨_,rfl,?_⟩;have n0_:=Aside0.mk (blk_below (g:=gb210) (o:=.cells #[.slice A0_0 l0_0.length c0_0] 30 (0,0)) (by (with_reducible repeat (first|refine blk_drewN ?_ _|refine blk_drew ?_|refine blk_alloc ?_ _));exact BK210.out) hb);have n1_:=Aside0.mk (below_step (by repeat (first|(with_reducible first|exact HB.out|apply below_alloc|apply pw_below_drewN|apply below_drew1|refine below_set ?_ GE210.out)|exact HB.out)) hb);clear BK210;clear HB;have BK210:=n0_;have HB:=n1_;clear n0_ n1_;(try clear hb);(try clear hb2);(try clear hk);(try clear hi)))
  go_loopg [6,15] k (fun kq v6 v15 w'=>∃ (x6_1:List Int) (x15_1:Int),v15 = .int .i64 x15_1 ∧ Aside0 (spec_InputsOf.l0 kq x6_1 l1 (l1.length:Int) x15_1 = some (r1,r2)) ∧ Aside0 (kq ≤ k) ∧ Aside0 (Kd.R (Kd.int .i64) 3 w' w.heap.size (fun _=>True) v6 x6_1) ∧ Aside0 (w'.heap[gb210]? = some (.cells #[(.slice A0_0 l0_0.length c0_0)] 30 (0,0))) ∧ Aside0 (Below w.heap.size w w'))
  case atStart=>exact ⟨(([]:List Int)),(0),(by first|rfl|(simp;done)|(simp [*];done)),H',⟨Nat.le_refl _⟩,⟨by first|exact Kd.R_nil _ _ _ _ _|exact Kd.N_nil _ _ _ _ _|exact Kd.V_nil _ _ _ _ _|exact Kd.Q_nil _ _ _ _ _|exact Kd.S_nil _ _ _ _ _⟩,⟨by (with_reducible repeat (first|refine blk_drewN ?_ _|refine blk_drew ?_|refine blk_alloc ?_ _));exact BK210.out⟩,⟨by repeat (first|(with_reducible first|exact HB.out|apply below_alloc|apply pw_below_drewN|apply below_drew1|refine below_set ?_ GE210.out)|exact HB.out)⟩⟩
  case round =>
   clear H'
   try clear c1
   try clear p2
   try clear c3
   try clear c4
   try clear c5
   try clear hcz6_0
   try clear hfz6_0
   obtain ⟨x6_1,x15_1,rfl,HA,HK1,HO_6,BK210,HB⟩:=hrel
   cases gk with
   | zero=>exact absurd HA.out (by simp [spec_InputsOf.l0])
   | succ k1 =>
    have H:=HA.out
    clear HA
    simp only [spec_InputsOf.l0] at H
    by_cases c8:x15_1 < (l1.length:Int)
    ·rw [if_pos c8] at H
     have c8b0:decide (x15_1 < (l1.length:Int)) = true:=decide_eq_true c8
     clear c8
     by_cases c9:0 ≤ x15_1
     ·rw [if_pos c9] at H
      have c9b0:decide (0 ≤ x15_1) = true:=decide_eq_true c9
      clear c9
      by_cases c10:x15_1 < (l1.length:Int)
      ·rw [if_pos c10] at H
       have c10b0:decide (x15_1 < (l1.length:Int)) = true:=decide_eq_true c10
       clear c10
       by_cases c11:((rd_T81 l1 x15_1).f0) = 1
       ·rw [if_pos c11] at H
        have c11b0:(((rd_T81 l1 x15_1).f0) == 1) = true:=beq_iff_eq.mpr c11
        have c11b1:(((rd_T81 l1 x15_1).f0) != 1) = false:=bne_eq_false_iff_eq.mpr c11
        clear c11
        by_cases c12:(((rd_T81 l1 x15_1).f2).length:Int) = 1
        ·rw [if_pos c12] at H
         have c12b0:((((rd_T81 l1 x15_1).f2).length:Int) == 1) = true:=beq_iff_eq.mpr c12
         have c12b1:((((rd_T81 l1 x15_1).f2).length:Int) != 1) = false:=bne_eq_false_iff_eq.mpr c12
         clear c12
         by_cases c13:0 < (((rd_T81 l1 x15_1).f2).length:Int)
         ·rw [if_pos c13] at H
          have c13b0:decide (0 < (((rd_T81 l1 x15_1).f2).length:Int)) = true:=decide_eq_true c13
          have c13b1:decide (0 < ((rd_T81 l1 x15_1).f2).length) = true:=decide_eq_true (by omega)
          clear c13
          replace H:=Option.bind_eq_some_iff.mp H
          obtain ⟨t215,A140,H⟩:=H
          replace H:(spec_InputsOf.l0 k1 t215 l1 (l1.length:Int) (wrap64 (x15_1 + 1))) = some (r1,r2):=H
          have A14:=Aside0.mk A140
          clear A140
          have H':=Aside0.mk H
          clear H
          have p212:0 ≤ (x15_1:Int):=of_decide_eq_true (by first|(with_reducible assumption)|assumption)
          have q212:x15_1 < (l1.length:Int):=of_decide_eq_true (by first|(with_reducible assumption)|assumption)
          obtain ⟨ad212,A212_1,c212_1,A212_2,c212_2,A212_3,c212_3,e212,hx212_0,hx212_1,hx212_2,hx212_3,hl212_1,hi212_1,hl212_2,hi212_2,hl212_3,hi212_3⟩:=at_T81 HR1.out x15_1 p212 q212
          cases e212
          replace hx212_0:=(HB.out.cell (World.block_lt_of_cell? w _ hx212_0)).trans hx212_0
          replace hx212_1:=(HB.out.cell (World.block_lt_of_cell? w _ hx212_1)).trans hx212_1
          replace hx212_2:=(HB.out.cell (World.block_lt_of_cell? w _ hx212_2)).trans hx212_2
          replace hx212_3:=(HB.out.cell (World.block_lt_of_cell? w _ hx212_3)).trans hx212_3
          have HR212_1:=Aside0.mk hi212_1
          have HC212_1:=Aside0.mk hl212_1
          clear hi212_1 hl212_1
          have HR212_2:=Aside0.mk hi212_2
          have HC212_2:=Aside0.mk hl212_2
          clear hi212_2 hl212_2
          have HR212_3:=Aside0.mk hi212_3
          have HC212_3:=Aside0.mk hl212_3
          clear hi212_3 hl212_3
          replace p212:=eq_true p212
          replace q212:=eq_true q212
          go_wp2_with (first|((with_reducible refine gate_dst (N:=8) rfl ?_);(try (refine gate_guard (by rfl) ?_;dsimp only));refine box_event ?hg (N:=8) ?hd (cs:=#[.int .i64 0,.slice none 0 0,.slice none 0 0,.slice none 0 0]) (t:=81) ?hr ?_;(case hd=>rfl);(case hg=>rfl);(case hr=>first|(go_simp;done)|(go_simp;rfl));intro gb213 hg w15 hbox hb;have n0_:=Aside0.mk (Kd.R_below (by (with_reducible repeat (first|apply Kd.R_alloc|apply Kd.R_drewN|apply Kd.R_drew));exact HO_6.out) hb);have n1_:=Aside0.mk (blk_below (g:=gb210) (o:=.cells #[.slice A0_0 l0_0.length c0_0] 30 (0,0)) (by (with_reducible repeat (first|refine blk_drewN ?_ _|refine blk_drew ?_|refine blk_alloc ?_ _));exact BK210.out) hb);have n2_:=Aside0.mk (below_step (by repeat (first|(with_reducible first|exact HB.out|apply below_alloc|apply pw_below_drewN|apply below_drew1|refine below_set ?_ GE210.out)|exact HB.out)) hb);have n3_:=Aside0.mk (hbox);have n4_:=Aside0.mk ((by rw [hg];exact (below_size (by repeat (first|(with_reducible first|exact HB.out|apply below_alloc|apply pw_below_drewN|apply below_drew1|refine below_set ?_ GE210.out)|exact HB.out))):w.heap.size ≤ gb213));have n5_:=Aside0.mk ((by rw [hg];exact (below_size (by repeat (first|(with_reducible first|exact HB.out|apply below_alloc|apply pw_below_drewN|apply below_drew1|refine below_set ?_ GE210.out)|exact HB.out))):w.heap.size ≤ gb213));have n6_:=Aside0.mk ((by rw [hg];exact Nat.ne_of_lt (blk_lt (g:=gb210) (o:=.cells #[.slice A0_0 l0_0.length c0_0] 30 (0,0)) (by (with_reducible repeat (first|refine blk_drewN ?_ _|refine blk_drew ?_|refine blk_alloc ?_ _));exact BK210.out)):gb210 ≠ gb213));have n7_:=Aside0.mk ((by rw [hg];exact Nat.ne_of_gt (blk_lt (g:=gb210) (o:=.cells #[.slice A0_0 l0_0.length c0_0] 30 (0,0)) (by (with_reducible repeat (first|refine blk_drewN ?_ _|refine blk_drew ?_|refine blk_alloc ?_ _));exact BK210.out)):gb213 ≠ gb210));clear HO_6;clear BK210;clear HB;have HO_6:=n0_;have BK210:=n1_;have HB:=n2_;have BK213:=n3_;have GW213:=n4_;have GE213:=n5_;have NB210_213:=n6_;have NB213_210:=n7_;clear n0_ n1_ n2_ n3_ n4_ n5_ n6_ n7_;clear hb hbox hg;have hnb16:=NB213_210.out;have hnc16:=NB210_213.out;have hcz17_0:w15.cell? ⟨gb213,0,none⟩ = some (.int .i64 0):=(blk_cell BK213.out 0).trans rfl;have hcz17_1:w15.cell? ⟨gb213,1,none⟩ = some (.slice none 0 0):=(blk_cell BK213.out 1).trans rfl;have hcz17_2:w15.cell? ⟨gb213,2,none⟩ = some (.slice none 0 0):=(blk_cell BK213.out 2).trans rfl;have hcz17_3:w15.cell? ⟨gb213,3,none⟩ = some (.slice none 0 0):=(blk_cell BK213.out 3).trans rfl;have hfz17_0:=blk_frozen BK213.out 0;have hfz17_1:=blk_frozen BK213.out 1;have hfz17_2:=blk_frozen BK213.out 2;have hfz17_3:=blk_frozen BK213.out 3)|((with_reducible refine gate_store (t:=81) (p:=8) rfl ?_);refine store_event (t:=81) (p:=8) (v:=?vo_w18) (w1:=((((w15.setCell ⟨gb213,0,none⟩ (.int .i64 ((rd_T81 l1 x15_1).f0))).setCell ⟨gb213,1,none⟩ (.slice A212_1 ((rd_T81 l1 x15_1).f1).length c212_1)).setCell ⟨gb213,2,none⟩ (.slice A212_2 ((rd_T81 l1 x15_1).f2).length c212_2)).setCell ⟨gb213,3,none⟩ (.slice A212_3 ((rd_T81 l1 x15_1).f3).length c212_3))) ?hg ?ho ?hn ?hr ?_;(case ho=>rfl);(case hg=>rfl);(case hn=>rfl);(case hr=>first|(go_simp;done)|(go_simp;rfl));intro w18 hw;have n0_:Aside0 (Kd.R (Kd.int .i64) 3 w18 w.heap.size (fun _=>True) u6 x6_1):=⟨(by rw [hw];exact (by (with_reducible repeat (first|apply Kd.R_alloc|apply Kd.R_drewN|apply Kd.R_drew));exact Kd.R_mono (Kd.R_far (p:=⟨gb213,3,none⟩) (Kd.R_far (p:=⟨gb213,2,none⟩) (Kd.R_far (p:=⟨gb213,1,none⟩) (Kd.R_far (p:=⟨gb213,0,none⟩) (Kd.R_types HO_6.out BK213.out (by decide)) (fun _ hk=>hk.2) (.int .i64 ((rd_T81 l1 x15_1).f0))) (fun _ hk=>hk.2) (.slice A212_1 ((rd_T81 l1 x15_1).f1).length c212_1)) (fun _ hk=>hk.2) (.slice A212_2 ((rd_T81 l1 x15_1).f2).length c212_2)) (fun _ hk=>hk.2) (.slice A212_3 ((rd_T81 l1 x15_1).f3).length c212_3)) (fun _ hk=>trivial)))⟩;have n1_:Aside0 (w18.heap[gb210]? = some (.cells #[.slice A0_0 l0_0.length c0_0] 30 (0,0))):=⟨(by rw [hw];exact (by (with_reducible repeat (first|refine blk_drewN ?_ _|refine blk_drew ?_|refine blk_alloc ?_ _));refine blk_far ?_ NB210_213.out _;(with_reducible repeat (first|refine blk_drewN ?_ _|refine blk_drew ?_|refine blk_alloc ?_ _));refine blk_far ?_ NB210_213.out _;(with_reducible repeat (first|refine blk_drewN ?_ _|refine blk_drew ?_|refine blk_alloc ?_ _));refine blk_far ?_ NB210_213.out _;(with_reducible repeat (first|refine blk_drewN ?_ _|refine blk_drew ?_|refine blk_alloc ?_ _));refine blk_far ?_ NB210_213.out _;(with_reducible repeat (first|refine blk_drewN ?_ _|refine blk_drew ?_|refine blk_alloc ?_ _));exact BK210.out))⟩;have n2_:Aside0 (w18.heap[gb213]? = some (.cells #[.int .i64 ((rd_T81 l1 x15_1).f0),.slice A212_1 ((rd_T81 l1 x15_1).f1).length c212_1,.slice A212_2 ((rd_T81 l1 x15_1).f2).length c212_2,.slice A212_3 ((rd_T81 l1 x15_1).f3).length c212_3] 81 (0,0))):=⟨(by rw [hw];exact (by (with_reducible repeat (first|refine blk_drewN ?_ _|refine blk_drew ?_|refine blk_alloc ?_ _));refine blk_put (cs:=#[.int .i64 ((rd_T81 l1 x15_1).f0),.slice A212_1 ((rd_T81 l1 x15_1).f1).length c212_1,.slice A212_2 ((rd_T81 l1 x15_1).f2).length c212_2,.slice none 0 0]) ?_ 3 _ rfl;(with_reducible repeat (first|refine blk_drewN ?_ _|refine blk_drew ?_|refine blk_alloc ?_ _));refine blk_put (cs:=#[.int .i64 ((rd_T81 l1 x15_1).f0),.slice A212_1 ((rd_T81 l1 x15_1).f1).length c212_1,.slice none 0 0,.slice none 0 0]) ?_ 2 _ rfl;(with_reducible repeat (first|refine blk_drewN ?_ _|refine blk_drew ?_|refine blk_alloc ?_ _));refine blk_put (cs:=#[.int .i64 ((rd_T81 l1 x15_1).f0),.slice none 0 0,.slice none 0 0,.slice none 0 0]) ?_ 1 _ rfl;(with_reducible repeat (first|refine blk_drewN ?_ _|refine blk_drew ?_|refine blk_alloc ?_ _));refine blk_put (cs:=#[.int .i64 0,.slice none 0 0,.slice none 0 0,.slice none 0 0]) ?_ 0 _ rfl;(with_reducible repeat (first|refine blk_drewN ?_ _|refine blk_drew ?_|refine blk_alloc ?_ _));exact BK213.out))⟩;have n3_:Aside0 (Below w.heap.size w w18):=⟨(by rw [hw];exact (by repeat (first|(with_reducible first|exact HB.out|apply below_alloc|apply pw_below_drewN|apply below_drew1|refine below_set ?_ GE210.out|refine below_set ?_ GE213.out)|exact HB.out)))⟩;clear hw;clear HO_6;clear BK210;clear BK213;clear HB;have HO_6:=n0_;have BK210:=n1_;have BK213:=n2_;have HB:=n3_;clear n0_ n1_ n2_ n3_;have hcz19_0:w18.cell? ⟨gb213,0,none⟩ = some (.int .i64 ((rd_T81 l1 x15_1).f0)):=(blk_cell BK213.out 0).trans rfl;have hcz19_1:w18.cell? ⟨gb213,1,none⟩ = some (.slice A212_1 ((rd_T81 l1 x15_1).f1).length c212_1):=(blk_cell BK213.out 1).trans rfl;have hcz19_2:w18.cell? ⟨gb213,2,none⟩ = some (.slice A212_2 ((rd_T81 l1 x15_1).f2).length c212_2):=(blk_cell BK213.out 2).trans rfl;have hcz19_3:w18.cell? ⟨gb213,3,none⟩ = some (.slice A212_3 ((rd_T81 l1 x15_1).f3).length c212_3):=(blk_cell BK213.out 3).trans rfl;have hfz19_0:=blk_frozen BK213.out 0;have hfz19_1:=blk_frozen BK213.out 1;have hfz19_2:=blk_frozen BK213.out 2;have hfz19_3:=blk_frozen BK213.out 3;have p214:0 ≤ (0:Int):=(by omega);have q214:0 < (((rd_T81 l1 x15_1).f2).length:Int):=of_decide_eq_true (by first|(with_reducible assumption)|assumption);obtain ⟨ad214,e214,hx214_0⟩:=Kd.at_int HR212_2.out 0 p214 q214;cases e214;have qi214:(0 < ((rd_T81 l1 x15_1).f2).length) = True:=eq_true (by omega);(try rw [show ((0:Int)).toNat = 0 from rfl] at hx214_0);(try rw [Addr.add_zero'] at hx214_0);replace hx214_0:=(HB.out.cell (World.block_lt_of_cell? w _ hx214_0)).trans hx214_0;replace p214:=eq_true p214;replace q214:=eq_true q214;obtain ⟨Ao20,co20,eo20⟩:=Kd.R_slice HO_6.out;subst eo20)|((with_reducible refine gate_callee (f:=56) rfl ?_);refine goesL_ (some 33) rfl rfl Try.func56 (by kernel_rfl) rfl #[.slice Ao20 x6_1.length co20,.int .i64 (rd ((rd_T81 l1 x15_1).f2) 0)] rfl (by (try simp only [List.map_toArray,List.map_cons,List.map_nil]);first|done|rfl|(simp only [List.length_drop,List.length_take];rfl)) ?_;(with_reducible refine (spec_l1Put.calls k1 (fun k_=>some k_ = (.slice Ao20 x6_1.length co20:Value).ownBlock) (.slice Ao20 x6_1.length co20) x6_1 (rd ((rd_T81 l1 x15_1).f2) 0) t215 w _ ?side1 ?side2 A14.out).mono ?_);(case side1=>repeat (first|(with_reducible first|exact HB.out|apply below_alloc|apply pw_below_drewN|apply below_drew1|refine below_set ?_ GE210.out|refine below_set ?_ GE213.out)|exact HB.out));(case side2=>exact Kd.R_tight rfl HO_6.out);rintro e w21 ⟨v216,rfl,ho0,hb,hkp⟩;refine ⟨_,rfl,?_⟩;have n0_:=Aside0.mk (blk_kept (by (with_reducible repeat (first|refine blk_drewN ?_ _|refine blk_drew ?_|refine blk_alloc ?_ _));exact BK210.out) hkp (fun hs_=>(fun e_=>(Kd.R_ne HO_6.out BK210.out (by decide)) e_) hs_));have n1_:=Aside0.mk (blk_kept (by (with_reducible repeat (first|refine blk_drewN ?_ _|refine blk_drew ?_|refine blk_alloc ?_ _));exact BK213.out) hkp (fun hs_=>(fun e_=>(Kd.R_ne HO_6.out BK213.out (by decide)) e_) hs_));have n2_:=Aside0.mk (Kd.R_mono (ok':=fun k_=>True) ho0 (fun k_ hk_=>trivial));have n3_:=Aside0.mk (hb);clear BK210;clear BK213;clear HB;clear HO_6;have BK210:=n0_;have BK213:=n1_;have HO217:=n2_;have HB:=n3_;clear n0_ n1_ n2_ n3_;(try clear hb);(try clear hkp);(try clear ho0)))
          go_roundg k1
          case measure=>have:=HK1.out;omega
          case rel=>exact ⟨(t215),(wrap64 (x15_1 + 1)),(by first|rfl|(simp;done)|(simp [*];done)),H',⟨by have:=HK1.out;omega⟩,⟨by (with_reducible repeat (first|apply Kd.R_alloc|apply Kd.R_drewN|apply Kd.R_drew));exact HO217.out⟩,⟨by (with_reducible repeat (first|refine blk_drewN ?_ _|refine blk_drew ?_|refine blk_alloc ?_ _));exact BK210.out⟩,⟨by repeat (first|(with_reducible first|exact HB.out|apply below_alloc|apply pw_below_drewN|apply below_drew1|refine below_set ?_ GE210.out|refine below_set ?_ GE213.out)|exact HB.out)⟩⟩
         ·rw [if_neg c13] at H
          exact absurd H (by simp)
        ·rw [if_neg c12] at H
         have c12b0:((((rd_T81 l1 x15_1).f2).length:Int) == 1) = false:=beq_eq_false_iff_ne.mpr c12
         have c12b1:((((rd_T81 l1 x15_1).f2).length:Int) != 1) = true:=bne_iff_ne.mpr c12
         have H':=Aside0.mk H
         clear H
         have p212:0 ≤ (x15_1:Int):=of_decide_eq_true (by first|(with_reducible assumption)|assumption)
         have q212:x15_1 < (l1.length:Int):=of_decide_eq_true (by first|(with_reducible assumption)|assumption)
         obtain ⟨ad212,A212_1,c212_1,A212_2,c212_2,A212_3,c212_3,e212,hx212_0,hx212_1,hx212_2,hx212_3,hl212_1,hi212_1,hl212_2,hi212_2,hl212_3,hi212_3⟩:=at_T81 HR1.out x15_1 p212 q212
         cases e212
         replace hx212_0:=(HB.out.cell (World.block_lt_of_cell? w _ hx212_0)).trans hx212_0
         replace hx212_1:=(HB.out.cell (World.block_lt_of_cell? w _ hx212_1)).trans hx212_1
         replace hx212_2:=(HB.out.cell (World.block_lt_of_cell? w _ hx212_2)).trans hx212_2
         replace hx212_3:=(HB.out.cell (World.block_lt_of_cell? w _ hx212_3)).trans hx212_3
         have HR212_1:=Aside0.mk hi212_1
         have HC212_1:=Aside0.mk hl212_1
         clear hi212_1 hl212_1
         have HR212_2:=Aside0.mk hi212_2
         have HC212_2:=Aside0.mk hl212_2
         clear hi212_2 hl212_2
         have HR212_3:=Aside0.mk hi212_3
         have HC212_3:=Aside0.mk hl212_3
         clear hi212_3 hl212_3
         replace p212:=eq_true p212
         replace q212:=eq_true q212
         go_wp2_with (first|((with_reducible refine gate_dst (N:=8) rfl ?_);(try (refine gate_guard (by rfl) ?_;dsimp only));refine box_event ?hg (N:=8) ?hd (cs:=#[.int .i64 0,.slice none 0 0,.slice none 0 0,.slice none 0 0]) (t:=81) ?hr ?_;(case hd=>rfl);(case hg=>rfl);(case hr=>first|(go_simp;done)|(go_simp;rfl));intro gb213 hg w22 hbox hb;have n0_:=Aside0.mk (Kd.R_below (by (with_reducible repeat (first|apply Kd.R_alloc|apply Kd.R_drewN|apply Kd.R_drew));exact HO_6.out) hb);have n1_:=Aside0.mk (blk_below (g:=gb210) (o:=.cells #[.slice A0_0 l0_0.length c0_0] 30 (0,0)) (by (with_reducible repeat (first|refine blk_drewN ?_ _|refine blk_drew ?_|refine blk_alloc ?_ _));exact BK210.out) hb);have n2_:=Aside0.mk (below_step (by repeat (first|(with_reducible first|exact HB.out|apply below_alloc|apply pw_below_drewN|apply below_drew1|refine below_set ?_ GE210.out)|exact HB.out)) hb);have n3_:=Aside0.mk (hbox);have n4_:=Aside0.mk ((by rw [hg];exact (below_size (by repeat (first|(with_reducible first|exact HB.out|apply below_alloc|apply pw_below_drewN|apply below_drew1|refine below_set ?_ GE210.out)|exact HB.out))):w.heap.size ≤ gb213));have n5_:=Aside0.mk ((by rw [hg];exact (below_size (by repeat (first|(with_reducible first|exact HB.out|apply below_alloc|apply pw_below_drewN|apply below_drew1|refine below_set ?_ GE210.out)|exact HB.out))):w.heap.size ≤ gb213));have n6_:=Aside0.mk ((by rw [hg];exact Nat.ne_of_lt (blk_lt (g:=gb210) (o:=.cells #[.slice A0_0 l0_0.length c0_0] 30 (0,0)) (by (with_reducible repeat (first|refine blk_drewN ?_ _|refine blk_drew ?_|refine blk_alloc ?_ _));exact BK210.out)):gb210 ≠ gb213));have n7_:=Aside0.mk ((by rw [hg];exact Nat.ne_of_gt (blk_lt (g:=gb210) (o:=.cells #[.slice A0_0 l0_0.length c0_0] 30 (0,0)) (by (with_reducible repeat (first|refine blk_drewN ?_ _|refine blk_drew ?_|refine blk_alloc ?_ _));exact BK210.out)):gb213 ≠ gb210));clear HO_6;clear BK210;clear HB;have HO_6:=n0_;have BK210:=n1_;have HB:=n2_;have BK213:=n3_;have GW213:=n4_;have GE213:=n5_;have NB210_213:=n6_;have NB213_210:=n7_;clear n0_ n1_ n2_ n3_ n4_ n5_ n6_ n7_;clear hb hbox hg;have hnb23:=NB213_210.out;have hnc23:=NB210_213.out;have hcz24_0:w22.cell? ⟨gb213,0,none⟩ = some (.int .i64 0):=(blk_cell BK213.out 0).trans rfl;have hcz24_1:w22.cell? ⟨gb213,1,none⟩ = some (.slice none 0 0):=(blk_cell BK213.out 1).trans rfl;have hcz24_2:w22.cell? ⟨gb213,2,none⟩ = some (.slice none 0 0):=(blk_cell BK213.out 2).trans rfl;have hcz24_3:w22.cell? ⟨gb213,3,none⟩ = some (.slice none 0 0):=(blk_cell BK213.out 3).trans rfl;have hfz24_0:=blk_frozen BK213.out 0;have hfz24_1:=blk_frozen BK213.out 1;have hfz24_2:=blk_frozen BK213.out 2;have hfz24_3:=blk_frozen BK213.out 3))
         go_roundg k1
         case measure=>have:=HK1.out;omega
         case rel=>exact ⟨(x6_1),(wrap64 (x15_1 + 1)),(by first|rfl|(simp;done)|(simp [*];done)),H',⟨by have:=HK1.out;omega⟩,⟨by (with_reducible repeat (first|apply Kd.R_alloc|apply Kd.R_drewN|apply Kd.R_drew));exact Kd.R_mono (Kd.R_far (p:=⟨gb213,3,none⟩) (Kd.R_far (p:=⟨gb213,2,none⟩) (Kd.R_far (p:=⟨gb213,1,none⟩) (Kd.R_far (p:=⟨gb213,0,none⟩) (Kd.R_types HO_6.out BK213.out (by decide)) (fun _ hk=>hk.2) (.int .i64 ((rd_T81 l1 x15_1).f0))) (fun _ hk=>hk.2) (.slice A212_1 ((rd_T81 l1 x15_1).f1).length c212_1)) (fun _ hk=>hk.2) (.slice A212_2 ((rd_T81 l1 x15_1).f2).length c212_2)) (fun _ hk=>hk.2) (.slice A212_3 ((rd_T81 l1 x15_1).f3).length c212_3)) (fun _ hk=>trivial)⟩,⟨by (with_reducible repeat (first|refine blk_drewN ?_ _|refine blk_drew ?_|refine blk_alloc ?_ _));refine blk_far ?_ NB210_213.out _;(with_reducible repeat (first|refine blk_drewN ?_ _|refine blk_drew ?_|refine blk_alloc ?_ _));refine blk_far ?_ NB210_213.out _;(with_reducible repeat (first|refine blk_drewN ?_ _|refine blk_drew ?_|refine blk_alloc ?_ _));refine blk_far ?_ NB210_213.out _;(with_reducible repeat (first|refine blk_drewN ?_ _|refine blk_drew ?_|refine blk_alloc ?_ _));refine blk_far ?_ NB210_213.out _;(with_reducible repeat (first|refine blk_drewN ?_ _|refine blk_drew ?_|refine blk_alloc ?_ _));exact BK210.out⟩,⟨by repeat (first|(with_reducible first|exact HB.out|apply below_alloc|apply pw_below_drewN|apply below_drew1|refine below_set ?_ GE210.out|refine below_set ?_ GE213.out)|exact HB.out)⟩⟩
       ·rw [if_neg c11] at H
        have c11b0:(((rd_T81 l1 x15_1).f0) == 1) = false:=beq_eq_false_iff_ne.mpr c11
        have c11b1:(((rd_T81 l1 x15_1).f0) != 1) = true:=bne_iff_ne.mpr c11
        have H':=Aside0.mk H
        clear H
        have p212:0 ≤ (x15_1:Int):=of_decide_eq_true (by first|(with_reducible assumption)|assumption)
        have q212:x15_1 < (l1.length:Int):=of_decide_eq_true (by first|(with_reducible assumption)|assumption)
        obtain ⟨ad212,A212_1,c212_1,A212_2,c212_2,A212_3,c212_3,e212,hx212_0,hx212_1,hx212_2,hx212_3,hl212_1,hi212_1,hl212_2,hi212_2,hl212_3,hi212_3⟩:=at_T81 HR1.out x15_1 p212 q212
        cases e212
        replace hx212_0:=(HB.out.cell (World.block_lt_of_cell? w _ hx212_0)).trans hx212_0
        replace hx212_1:=(HB.out.cell (World.block_lt_of_cell? w _ hx212_1)).trans hx212_1
        replace hx212_2:=(HB.out.cell (World.block_lt_of_cell? w _ hx212_2)).trans hx212_2
        replace hx212_3:=(HB.out.cell (World.block_lt_of_cell? w _ hx212_3)).trans hx212_3
        have HR212_1:=Aside0.mk hi212_1
        have HC212_1:=Aside0.mk hl212_1
        clear hi212_1 hl212_1
        have HR212_2:=Aside0.mk hi212_2
        have HC212_2:=Aside0.mk hl212_2
        clear hi212_2 hl212_2
        have HR212_3:=Aside0.mk hi212_3
        have HC212_3:=Aside0.mk hl212_3
        clear hi212_3 hl212_3
        replace p212:=eq_true p212
        replace q212:=eq_true q212
        go_wp2_with (first|((with_reducible refine gate_dst (N:=8) rfl ?_);(try (refine gate_guard (by rfl) ?_;dsimp only));refine box_event ?hg (N:=8) ?hd (cs:=#[.int .i64 0,.slice none 0 0,.slice none 0 0,.slice none 0 0]) (t:=81) ?hr ?_;(case hd=>rfl);(case hg=>rfl);(case hr=>first|(go_simp;done)|(go_simp;rfl));intro gb213 hg w25 hbox hb;have n0_:=Aside0.mk (Kd.R_below (by (with_reducible repeat (first|apply Kd.R_alloc|apply Kd.R_drewN|apply Kd.R_drew));exact HO_6.out) hb);have n1_:=Aside0.mk (blk_below (g:=gb210) (o:=.cells #[.slice A0_0 l0_0.length c0_0] 30 (0,0)) (by (with_reducible repeat (first|refine blk_drewN ?_ _|refine blk_drew ?_|refine blk_alloc ?_ _));exact BK210.out) hb);have n2_:=Aside0.mk (below_step (by repeat (first|(with_reducible first|exact HB.out|apply below_alloc|apply pw_below_drewN|apply below_drew1|refine below_set ?_ GE210.out)|exact HB.out)) hb);have n3_:=Aside0.mk (hbox);have n4_:=Aside0.mk ((by rw [hg];exact (below_size (by repeat (first|(with_reducible first|exact HB.out|apply below_alloc|apply pw_below_drewN|apply below_drew1|refine below_set ?_ GE210.out)|exact HB.out))):w.heap.size ≤ gb213));have n5_:=Aside0.mk ((by rw [hg];exact (below_size (by repeat (first|(with_reducible first|exact HB.out|apply below_alloc|apply pw_below_drewN|apply below_drew1|refine below_set ?_ GE210.out)|exact HB.out))):w.heap.size ≤ gb213));have n6_:=Aside0.mk ((by rw [hg];exact Nat.ne_of_lt (blk_lt (g:=gb210) (o:=.cells #[.slice A0_0 l0_0.length c0_0] 30 (0,0)) (by (with_reducible repeat (first|refine blk_drewN ?_ _|refine blk_drew ?_|refine blk_alloc ?_ _));exact BK210.out)):gb210 ≠ gb213));have n7_:=Aside0.mk ((by rw [hg];exact Nat.ne_of_gt (blk_lt (g:=gb210) (o:=.cells #[.slice A0_0 l0_0.length c0_0] 30 (0,0)) (by (with_reducible repeat (first|refine blk_drewN ?_ _|refine blk_drew ?_|refine blk_alloc ?_ _));exact BK210.out)):gb213 ≠ gb210));clear HO_6;clear BK210;clear HB;have HO_6:=n0_;have BK210:=n1_;have HB:=n2_;have BK213:=n3_;have GW213:=n4_;have GE213:=n5_;have NB210_213:=n6_;have NB213_210:=n7_;clear n0_ n1_ n2_ n3_ n4_ n5_ n6_ n7_;clear hb hbox hg;have hnb26:=NB213_210.out;have hnc26:=NB210_213.out;have hcz27_0:w25.cell? ⟨gb213,0,none⟩ = some (.int .i64 0):=(blk_cell BK213.out 0).trans rfl;have hcz27_1:w25.cell? ⟨gb213,1,none⟩ = some (.slice none 0 0):=(blk_cell BK213.out 1).trans rfl;have hcz27_2:w25.cell? ⟨gb213,2,none⟩ = some (.slice none 0 0):=(blk_cell BK213.out 2).trans rfl;have hcz27_3:w25.cell? ⟨gb213,3,none⟩ = some (.slice none 0 0):=(blk_cell BK213.out 3).trans rfl;have hfz27_0:=blk_frozen BK213.out 0;have hfz27_1:=blk_frozen BK213.out 1;have hfz27_2:=blk_frozen BK213.out 2;have hfz27_3:=blk_frozen BK213.out 3))
        go_roundg k1
        case measure=>have:=HK1.out;omega
        case rel=>exact ⟨(x6_1),(wrap64 (x15_1 + 1)),(by first|rfl|(simp;done)|(simp [*];done)),H',⟨by have:=HK1.out;omega⟩,⟨by (with_reducible repeat (first|apply Kd.R_alloc|apply Kd.R_drewN|apply Kd.R_drew));exact Kd.R_mono (Kd.R_far (p:=⟨gb213,3,none⟩) (Kd.R_far (p:=⟨gb213,2,none⟩) (Kd.R_far (p:=⟨gb213,1,none⟩) (Kd.R_far (p:=⟨gb213,0,none⟩) (Kd.R_types HO_6.out BK213.out (by decide)) (fun _ hk=>hk.2) (.int .i64 ((rd_T81 l1 x15_1).f0))) (fun _ hk=>hk.2) (.slice A212_1 ((rd_T81 l1 x15_1).f1).length c212_1)) (fun _ hk=>hk.2) (.slice A212_2 ((rd_T81 l1 x15_1).f2).length c212_2)) (fun _ hk=>hk.2) (.slice A212_3 ((rd_T81 l1 x15_1).f3).length c212_3)) (fun _ hk=>trivial)⟩,⟨by (with_reducible repeat (first|refine blk_drewN ?_ _|refine blk_drew ?_|refine blk_alloc ?_ _));refine blk_far ?_ NB210_213.out _;(with_reducible repeat (first|refine blk_drewN ?_ _|refine blk_drew ?_|refine blk_alloc ?_ _));refine blk_far ?_ NB210_213.out _;(with_reducible repeat (first|refine blk_drewN ?_ _|refine blk_drew ?_|refine blk_alloc ?_ _));refine blk_far ?_ NB210_213.out _;(with_reducible repeat (first|refine blk_drewN ?_ _|refine blk_drew ?_|refine blk_alloc ?_ _));refine blk_far ?_ NB210_213.out _;(with_reducible repeat (first|refine blk_drewN ?_ _|refine blk_drew ?_|refine blk_alloc ?_ _));exact BK210.out⟩,⟨by repeat (first|(with_reducible first|exact HB.out|apply below_alloc|apply pw_below_drewN|apply below_drew1|refine below_set ?_ GE210.out|refine below_set ?_ GE213.out)|exact HB.out)⟩⟩
      ·rw [if_neg c10] at H
       exact absurd H (by simp)
     ·rw [if_neg c9] at H
      exact absurd H (by simp)
    ·rw [if_neg c8] at H
     have c8b0:decide (x15_1 < (l1.length:Int)) = false:=decide_eq_false c8
     clear c8
     simp only [Option.some.injEq,Prod.mk.injEq] at H
     obtain ⟨rfl,rfl⟩:=H
     go_wp2
     go_ret2
     exact ⟨_,by first|rfl|(simp [errW_none,errW_some] <;> rfl)|(simp [*,errW_none,errW_some] <;> rfl),by (with_reducible repeat (first|apply Kd.R_alloc|apply Kd.R_drewN|apply Kd.R_drew));exact HO_6.out,by repeat (first|(with_reducible first|exact HB.out|apply below_alloc|apply pw_below_drewN|apply below_drew1|refine below_set ?_ GE210.out)|exact HB.out)⟩
 ·replace c4:=Bool.eq_false_iff.mpr c4
  subst c4
  have H1:(some (([]:List Int),false)) = some (r1,r2):=by rw [if_neg (show ¬ (false = true) by decide)] at H;exact H
  clear H
  have H:=H1
  clear H1
  simp only [Option.some.injEq,Prod.mk.injEq] at H
  obtain ⟨rfl,rfl⟩:=H
  go_enter Try.func31,Try.ntmps31
  go_wp2_with (first|((with_reducible refine gate_dst (N:=2) rfl ?_);(try (refine gate_guard (by rfl) ?_;dsimp only));refine box_event ?hg (N:=2) ?hd (cs:=#[.slice A0_0 l0_0.length c0_0]) (t:=30) ?hr ?_;(case hd=>rfl);(case hg=>rfl);(case hr=>first|(go_simp;done)|(go_simp;rfl));intro gb210 hg w28 hbox hb;have n0_:=Aside0.mk (below_step (by repeat (first|(with_reducible first|exact HB.out|apply below_alloc|apply pw_below_drewN|apply below_drew1)|exact HB.out)) hb);have n1_:=Aside0.mk (hbox);have n2_:=Aside0.mk ((by rw [hg];exact (below_size (by repeat (first|(with_reducible first|exact HB.out|apply below_alloc|apply pw_below_drewN|apply below_drew1)|exact HB.out))):w.heap.size ≤ gb210));have n3_:=Aside0.mk ((by rw [hg];exact (below_size (by repeat (first|(with_reducible first|exact HB.out|apply below_alloc|apply pw_below_drewN|apply below_drew1)|exact HB.out))):w.heap.size ≤ gb210));clear HB;have HB:=n0_;have BK210:=n1_;have GW210:=n2_;have GE210:=n3_;clear n0_ n1_ n2_ n3_;clear hb hbox hg;have hcz29_0:w28.cell? ⟨gb210,0,none⟩ = some (.slice A0_0 l0_0.length c0_0):=(blk_cell BK210.out 0).trans rfl;have hfz29_0:=blk_frozen BK210.out 0)|((with_reducible refine gate_callee (f:=55) rfl ?_);refine goesL_ (some 11) rfl rfl Try.func55 (by kernel_rfl) rfl #[.agg #[.slice A0_0 l0_0.length c0_0],.slice A1 l1.length c1] rfl (by (try simp only [List.map_toArray,List.map_cons,List.map_nil]);first|done|rfl|(simp only [List.length_drop,List.length_take];rfl)) ?_;(with_reducible refine (spec_l9Steps.calls k _ _ l0_0 _ _ l1 false _ ?side1 ?side2 ?side3 ?side4 A3.out).mono ?_);(case side1=>repeat (first|exact (Kd.C_below HR0_0.out HB.out)|(with_reducible refine Kd.C_alloc ?_ _)|(with_reducible refine Kd.C_drewN ?_ _)|(with_reducible refine Kd.C_drew ?_)));(case side2=>exact HC0_0.out);(case side3=>repeat (first|exact (Kd.C_below HR1.out HB.out)|(with_reducible refine Kd.C_alloc ?_ _)|(with_reducible refine Kd.C_drewN ?_ _)|(with_reducible refine Kd.C_drew ?_)));(case side4=>exact HC1.out);rintro e w30 ⟨rfl,hb⟩;refine ⟨_,rfl,?_⟩;have n0_:=Aside0.mk (blk_below (g:=gb210) (o:=.cells #[.slice A0_0 l0_0.length c0_0] 30 (0,0)) (by (with_reducible repeat (first|refine blk_drewN ?_ _|refine blk_drew ?_|refine blk_alloc ?_ _));exact BK210.out) hb);have n1_:=Aside0.mk (below_step (by repeat (first|(with_reducible first|exact HB.out|apply below_alloc|apply pw_below_drewN|apply below_drew1|refine below_set ?_ GE210.out)|exact HB.out)) hb);clear BK210;clear HB;have BK210:=n0_;have HB:=n1_;clear n0_ n1_;(try clear hb);(try clear hb2);(try clear hk);(try clear hi)))
  go_ret2
  exact ⟨_,by first|rfl|(simp [errW_none,errW_some] <;> rfl)|(simp [*,errW_none,errW_some] <;> rfl),by first|exact Kd.R_nil _ _ _ _ _|exact Kd.N_nil _ _ _ _ _|exact Kd.V_nil _ _ _ _ _|exact Kd.Q_nil _ _ _ _ _|exact Kd.S_nil _ _ _ _ _,by repeat (first|(with_reducible first|exact HB.out|apply below_alloc|apply pw_below_drewN|apply below_drew1|refine below_set ?_ GE210.out)|exact HB.out)⟩

/-! ### laws_toLit: function 43 -/
def laws_toLit.f (k:Nat) (a0_0:Bool) (l0_1:List Int) (l0_2:List Int):Option (Bool × List Int × List Int):=(laws_toIntS.f k l0_1).bind fun t221=>((laws_toIntS.f k l0_2).bind fun t224=>(some (a0_0,t221,t224)))
theorem laws_toLit.mono:∀ a0 a1 a2 k,LeO (laws_toLit.f k a0 a1 a2) (laws_toLit.f (k + 1) a0 a1 a2):=by
 intro a0 a1 a2 k
 unfold laws_toLit.f
 repeat' first
   | (with_reducible exact laws_toIntS.mono _ _)
   | (with_reducible exact LeO.refl _)
   | (with_reducible exact LeO.none _)
   | (with_reducible refine LeO.ite ?_ ?_)
   | (with_reducible refine LeO.bind ?_ (fun _=>?_))
   | exact laws_toIntS.mono _ _
   | exact LeO.none _
   | refine LeO.ite ?_ ?_
   | refine LeO.bind ?_ (fun _=>?_)
set_option maxHeartbeats 8000000 in
set_option maxRecDepth 100000 in
theorem laws_toLit.calls (k:Nat) (a0_0:Bool) (A0_1:Option Addr) (c0_1:Nat) (l0_1:List Int) (A0_2:Option Addr) (c0_2:Nat) (l0_2:List Int) (r1:Bool) (r2:List Int) (r3:List Int) (w:World) (hr0_1:Kd.C (Kd.int .i64) w A0_1 l0_1.length l0_1) (hc0_1:l0_1.length ≤ c0_1) (hr0_2:Kd.C (Kd.int .i64) w A0_2 l0_2.length l0_2) (hc0_2:l0_2.length ≤ c0_2) (h:laws_toLit.f k a0_0 l0_1 l0_2 = some (r1,r2,r3)) :
  Calls Try.prog 43 #[.agg #[.bool a0_0,.slice A0_1 l0_1.length c0_1,.slice A0_2 l0_2.length c0_2]] w fun e w'=>∃ v1_ v2_:Value,e = .returned (.agg #[.bool r1,v1_,v2_]) ∧ Kd.R (Kd.int .i64) 3 w' w.heap.size (fun k_=>some k_ ≠ (v2_:Value).ownBlock) v1_ r2 ∧ Kd.R (Kd.int .i64) 3 w' w.heap.size (fun k_=>some k_ ≠ (v1_:Value).ownBlock) v2_ r3 ∧ Below w.heap.size w w':=by
 have hu62:=Try.underlying62
 have hu65:=Try.underlying65
 have HR0_1:=Aside0.mk hr0_1
 have HC0_1:=Aside0.mk hc0_1
 clear hr0_1 hc0_1
 have HR0_2:=Aside0.mk hr0_2
 have HC0_2:=Aside0.mk hc0_2
 clear hr0_2 hc0_2
 have HB:=Aside0.mk (Below.refl w.heap.size w)
 have H:((laws_toIntS.f k l0_1).bind fun t221=>((laws_toIntS.f k l0_2).bind fun t224=>(some (a0_0,t221,t224)))) = some (r1,r2,r3):=h
 clear h
 replace H:=Option.bind_eq_some_iff.mp H
 obtain ⟨t221,A20,H⟩:=H
 replace H:((laws_toIntS.f k l0_2).bind fun t224=>(some (a0_0,t221,t224))) = some (r1,r2,r3):=H
 have A2:=Aside0.mk A20
 clear A20
 replace H:=Option.bind_eq_some_iff.mp H
 obtain ⟨t224,A30,H⟩:=H
 replace H:(some (a0_0,t221,t224)) = some (r1,r2,r3):=H
 have A3:=Aside0.mk A30
 clear A30
 simp only [Option.some.injEq,Prod.mk.injEq] at H
 obtain ⟨rfl,rfl,rfl⟩:=H
 go_enter Try.func43,Try.ntmps43
 go_wp2_with (first|((with_reducible refine gate_dst (N:=1) rfl ?_);refine box_event ?hg (N:=1) ?hd (cs:=#[.bool a0_0,.slice A0_1 l0_1.length c0_1,.slice A0_2 l0_2.length c0_2]) (t:=62) ?hr ?_;(case hd=>rfl);(case hg=>rfl);(case hr=>first|(go_simp;done)|(go_simp;rfl));intro gb218 hg w4 hbox hb;have n0_:=Aside0.mk (below_step (by repeat (first|(with_reducible first|exact HB.out|apply below_alloc|apply pw_below_drewN|apply below_drew1)|exact HB.out)) hb);have n1_:=Aside0.mk (hbox);have n2_:=Aside0.mk ((by rw [hg];exact (below_size (by repeat (first|(with_reducible first|exact HB.out|apply below_alloc|apply pw_below_drewN|apply below_drew1)|exact HB.out))):w.heap.size ≤ gb218));have n3_:=Aside0.mk ((by rw [hg];exact (below_size (by repeat (first|(with_reducible first|exact HB.out|apply below_alloc|apply pw_below_drewN|apply below_drew1)|exact HB.out))):w.heap.size ≤ gb218));clear HB;have HB:=n0_;have BK218:=n1_;have GW218:=n2_;have GE218:=n3_;clear n0_ n1_ n2_ n3_;clear hb hbox hg)|((with_reducible refine gate_dst (N:=2) rfl ?_);refine box_event ?hg (N:=2) ?hd (cs:=#[.bool false,.slice none 0 0,.slice none 0 0]) (t:=65) ?hr ?_;(case hd=>rfl);(case hg=>rfl);(case hr=>first|(go_simp;done)|(go_simp;rfl));intro gb219 hg w5 hbox hb;have n0_:=Aside0.mk (blk_below (g:=gb218) (o:=.cells #[.bool a0_0,.slice A0_1 l0_1.length c0_1,.slice A0_2 l0_2.length c0_2] 62 (0,0)) (by (with_reducible repeat (first|refine blk_drewN ?_ _|refine blk_drew ?_|refine blk_alloc ?_ _));exact BK218.out) hb);have n1_:=Aside0.mk (below_step (by repeat (first|(with_reducible first|exact HB.out|apply below_alloc|apply pw_below_drewN|apply below_drew1|refine below_set ?_ GE218.out)|exact HB.out)) hb);have n2_:=Aside0.mk (hbox);have n3_:=Aside0.mk ((by rw [hg];exact (below_size (by repeat (first|(with_reducible first|exact HB.out|apply below_alloc|apply pw_below_drewN|apply below_drew1|refine below_set ?_ GE218.out)|exact HB.out))):w.heap.size ≤ gb219));have n4_:=Aside0.mk ((by rw [hg];exact (below_size (by repeat (first|(with_reducible first|exact HB.out|apply below_alloc|apply pw_below_drewN|apply below_drew1|refine below_set ?_ GE218.out)|exact HB.out))):w.heap.size ≤ gb219));have n5_:=Aside0.mk ((by rw [hg];exact Nat.ne_of_lt (blk_lt (g:=gb218) (o:=.cells #[.bool a0_0,.slice A0_1 l0_1.length c0_1,.slice A0_2 l0_2.length c0_2] 62 (0,0)) (by (with_reducible repeat (first|refine blk_drewN ?_ _|refine blk_drew ?_|refine blk_alloc ?_ _));exact BK218.out)):gb218 ≠ gb219));have n6_:=Aside0.mk ((by rw [hg];exact Nat.ne_of_gt (blk_lt (g:=gb218) (o:=.cells #[.bool a0_0,.slice A0_1 l0_1.length c0_1,.slice A0_2 l0_2.length c0_2] 62 (0,0)) (by (with_reducible repeat (first|refine blk_drewN ?_ _|refine blk_drew ?_|refine blk_alloc ?_ _));exact BK218.out)):gb219 ≠ gb218));clear BK218;clear HB;have BK218:=n0_;have HB:=n1_;have BK219:=n2_;have GW219:=n3_;have GE219:=n4_;have NB218_219:=n5_;have NB219_218:=n6_;clear n0_ n1_ n2_ n3_ n4_ n5_ n6_;clear hb hbox hg)|((with_reducible refine gate_dst (N:=3) rfl ?_);refine box_event ?hg (N:=3) ?hd (cs:=#[.bool false,.slice none 0 0,.slice none 0 0]) (t:=65) ?hr ?_;(case hd=>rfl);(case hg=>rfl);(case hr=>first|(go_simp;done)|(go_simp;rfl));intro gb220 hg w6 hbox hb;have n0_:=Aside0.mk (blk_below (g:=gb218) (o:=.cells #[.bool a0_0,.slice A0_1 l0_1.length c0_1,.slice A0_2 l0_2.length c0_2] 62 (0,0)) (by (with_reducible repeat (first|refine blk_drewN ?_ _|refine blk_drew ?_|refine blk_alloc ?_ _));exact BK218.out) hb);have n1_:=Aside0.mk (blk_below (g:=gb219) (o:=.cells #[.bool false,.slice none 0 0,.slice none 0 0] 65 (0,0)) (by (with_reducible repeat (first|refine blk_drewN ?_ _|refine blk_drew ?_|refine blk_alloc ?_ _));exact BK219.out) hb);have n2_:=Aside0.mk (below_step (by repeat (first|(with_reducible first|exact HB.out|apply below_alloc|apply pw_below_drewN|apply below_drew1|refine below_set ?_ GE218.out|refine below_set ?_ GE219.out)|exact HB.out)) hb);have n3_:=Aside0.mk (hbox);have n4_:=Aside0.mk ((by rw [hg];exact (below_size (by repeat (first|(with_reducible first|exact HB.out|apply below_alloc|apply pw_below_drewN|apply below_drew1|refine below_set ?_ GE218.out|refine below_set ?_ GE219.out)|exact HB.out))):w.heap.size ≤ gb220));have n5_:=Aside0.mk ((by rw [hg];exact (below_size (by repeat (first|(with_reducible first|exact HB.out|apply below_alloc|apply pw_below_drewN|apply below_drew1|refine below_set ?_ GE218.out|refine below_set ?_ GE219.out)|exact HB.out))):w.heap.size ≤ gb220));have n6_:=Aside0.mk ((by rw [hg];exact Nat.ne_of_lt (blk_lt (g:=gb218) (o:=.cells #[.bool a0_0,.slice A0_1 l0_1.length c0_1,.slice A0_2 l0_2.length c0_2] 62 (0,0)) (by (with_reducible repeat (first|refine blk_drewN ?_ _|refine blk_drew ?_|refine blk_alloc ?_ _));exact BK218.out)):gb218 ≠ gb220));have n7_:=Aside0.mk ((by rw [hg];exact Nat.ne_of_gt (blk_lt (g:=gb218) (o:=.cells #[.bool a0_0,.slice A0_1 l0_1.length c0_1,.slice A0_2 l0_2.length c0_2] 62 (0,0)) (by (with_reducible repeat (first|refine blk_drewN ?_ _|refine blk_drew ?_|refine blk_alloc ?_ _));exact BK218.out)):gb220 ≠ gb218));have n8_:=Aside0.mk ((by rw [hg];exact Nat.ne_of_lt (blk_lt (g:=gb219) (o:=.cells #[.bool false,.slice none 0 0,.slice none 0 0] 65 (0,0)) (by (with_reducible repeat (first|refine blk_drewN ?_ _|refine blk_drew ?_|refine blk_alloc ?_ _));exact BK219.out)):gb219 ≠ gb220));have n9_:=Aside0.mk ((by rw [hg];exact Nat.ne_of_gt (blk_lt (g:=gb219) (o:=.cells #[.bool false,.slice none 0 0,.slice none 0 0] 65 (0,0)) (by (with_reducible repeat (first|refine blk_drewN ?_ _|refine blk_drew ?_|refine blk_alloc ?_ _));exact BK219.out)):gb220 ≠ gb219));clear BK218;clear BK219;clear HB;have BK218:=n0_;have BK219:=n1_;have HB:=n2_;have BK220:=n3_;have GW220:=n4_;have GE220:=n5_;have NB218_220:=n6_;have NB220_218:=n7_;have NB219_220:=n8_;have NB220_219:=n9_;clear n0_ n1_ n2_ n3_ n4_ n5_ n6_ n7_ n8_ n9_;clear hb hbox hg;have hnb7:=NB218_219.out;have hnc7:=NB219_218.out;have hnb8:=NB218_220.out;have hnc8:=NB220_218.out;have hcz9_0:w6.cell? ⟨gb218,0,none⟩ = some (.bool a0_0):=(blk_cell BK218.out 0).trans rfl;have hcz9_1:w6.cell? ⟨gb218,1,none⟩ = some (.slice A0_1 l0_1.length c0_1):=(blk_cell BK218.out 1).trans rfl;have hcz9_2:w6.cell? ⟨gb218,2,none⟩ = some (.slice A0_2 l0_2.length c0_2):=(blk_cell BK218.out 2).trans rfl;have hfz9_0:=blk_frozen BK218.out 0;have hfz9_1:=blk_frozen BK218.out 1;have hfz9_2:=blk_frozen BK218.out 2;have hnb10:=NB220_219.out;have hnc10:=NB219_220.out;have hcz11_0:w6.cell? ⟨gb220,0,none⟩ = some (.bool false):=(blk_cell BK220.out 0).trans rfl;have hcz11_1:w6.cell? ⟨gb220,1,none⟩ = some (.slice none 0 0):=(blk_cell BK220.out 1).trans rfl;have hcz11_2:w6.cell? ⟨gb220,2,none⟩ = some (.slice none 0 0):=(blk_cell BK220.out 2).trans rfl;have hfz11_0:=blk_frozen BK220.out 0;have hfz11_1:=blk_frozen BK220.out 1;have hfz11_2:=blk_frozen BK220.out 2)|((with_reducible refine gate_callee (f:=13) rfl ?_);refine goesL_ (some 9) rfl rfl Try.func13 (by kernel_rfl) rfl #[.slice A0_1 l0_1.length c0_1] rfl (by (try simp only [List.map_toArray,List.map_cons,List.map_nil]);first|done|rfl|(simp only [List.length_drop,List.length_take];rfl)) ?_;(with_reducible refine (laws_toIntS.calls k _ _ l0_1 t221 _ ?side1 ?side2 A2.out).mono ?_);(case side1=>exact Kd.C_below HR0_1.out (by repeat (first|(with_reducible first|exact HB.out|apply below_alloc|apply pw_below_drewN|apply below_drew1|refine below_set ?_ GE218.out|refine below_set ?_ GE219.out|refine below_set ?_ GE220.out)|exact HB.out)));(case side2=>exact HC0_1.out);rintro e w12 ⟨v222,rfl,ho0,hb⟩;refine ⟨_,rfl,?_⟩;have n0_:=Aside0.mk (Kd.R_lower ho0 (below_size (by repeat (first|(with_reducible first|exact HB.out|apply below_alloc|apply pw_below_drewN|apply below_drew1|refine below_set ?_ GE218.out|refine below_set ?_ GE219.out|refine below_set ?_ GE220.out)|exact HB.out))));have n1_:=Aside0.mk (blk_below (g:=gb218) (o:=.cells #[.bool a0_0,.slice A0_1 l0_1.length c0_1,.slice A0_2 l0_2.length c0_2] 62 (0,0)) (by (with_reducible repeat (first|refine blk_drewN ?_ _|refine blk_drew ?_|refine blk_alloc ?_ _));refine blk_far ?_ NB218_220.out _;(with_reducible repeat (first|refine blk_drewN ?_ _|refine blk_drew ?_|refine blk_alloc ?_ _));exact BK218.out) hb);have n2_:=Aside0.mk (blk_below (g:=gb219) (o:=.cells #[.bool false,.slice none 0 0,.slice none 0 0] 65 (0,0)) (by (with_reducible repeat (first|refine blk_drewN ?_ _|refine blk_drew ?_|refine blk_alloc ?_ _));refine blk_far ?_ NB219_220.out _;(with_reducible repeat (first|refine blk_drewN ?_ _|refine blk_drew ?_|refine blk_alloc ?_ _));exact BK219.out) hb);have n3_:=Aside0.mk (blk_below (g:=gb220) (o:=.cells #[.bool a0_0,.slice none 0 0,.slice none 0 0] 65 (0,0)) (by (with_reducible repeat (first|refine blk_drewN ?_ _|refine blk_drew ?_|refine blk_alloc ?_ _));refine blk_put (cs:=#[.bool false,.slice none 0 0,.slice none 0 0]) ?_ 0 _ rfl;(with_reducible repeat (first|refine blk_drewN ?_ _|refine blk_drew ?_|refine blk_alloc ?_ _));exact BK220.out) hb);have n4_:=Aside0.mk (below_step (by repeat (first|(with_reducible first|exact HB.out|apply below_alloc|apply pw_below_drewN|apply below_drew1|refine below_set ?_ GE218.out|refine below_set ?_ GE219.out|refine below_set ?_ GE220.out)|exact HB.out)) hb);clear BK218;clear BK219;clear BK220;clear HB;have HO223:=n0_;have BK218:=n1_;have BK219:=n2_;have BK220:=n3_;have HB:=n4_;clear n0_ n1_ n2_ n3_ n4_;(try clear hb);(try clear hb2);(try clear hk);(try clear hi);(try clear ho0);obtain ⟨Ao13,co13,eo13⟩:=Kd.R_slice HO223.out;subst eo13;have hcz14_0:w12.cell? ⟨gb220,0,none⟩ = some (.bool a0_0):=(blk_cell BK220.out 0).trans rfl;have hcz14_1:w12.cell? ⟨gb220,1,none⟩ = some (.slice none 0 0):=(blk_cell BK220.out 1).trans rfl;have hcz14_2:w12.cell? ⟨gb220,2,none⟩ = some (.slice none 0 0):=(blk_cell BK220.out 2).trans rfl;have hfz14_0:=blk_frozen BK220.out 0;have hfz14_1:=blk_frozen BK220.out 1;have hfz14_2:=blk_frozen BK220.out 2;have hcz15_0:w12.cell? ⟨gb218,0,none⟩ = some (.bool a0_0):=(blk_cell BK218.out 0).trans rfl;have hcz15_1:w12.cell? ⟨gb218,1,none⟩ = some (.slice A0_1 l0_1.length c0_1):=(blk_cell BK218.out 1).trans rfl;have hcz15_2:w12.cell? ⟨gb218,2,none⟩ = some (.slice A0_2 l0_2.length c0_2):=(blk_cell BK218.out 2).trans rfl;have hfz15_0:=blk_frozen BK218.out 0;have hfz15_1:=blk_frozen BK218.out 1;have hfz15_2:=blk_frozen BK218.out 2)|((with_reducible refine gate_callee (f:=13) rfl ?_);refine goesL_ (some 13) rfl rfl Try.func13 (by kernel_rfl) rfl #[.slice A0_2 l0_2.length c0_2] rfl (by (try simp only [List.map_toArray,List.map_cons,List.map_nil]);first|done|rfl|(simp only [List.length_drop,List.length_take];rfl)) ?_;(with_reducible refine (laws_toIntS.calls k _ _ l0_2 t224 _ ?side1 ?side2 A3.out).mono ?_);(case side1=>exact Kd.C_below HR0_2.out (by repeat (first|(with_reducible first|exact HB.out|apply below_alloc|apply pw_below_drewN|apply below_drew1|refine below_set ?_ GE218.out|refine below_set ?_ GE219.out|refine below_set ?_ GE220.out)|exact HB.out)));(case side2=>exact HC0_2.out);rintro e w16 ⟨v225,rfl,ho0,hb⟩;refine ⟨_,rfl,?_⟩;have n0_:=Aside0.mk (Kd.R_elder' (by (with_reducible repeat (first|apply Kd.R_alloc|apply Kd.R_drewN|apply Kd.R_drew));exact (Kd.R_mono (Kd.R_far (p:=⟨gb220,1,none⟩) (Kd.R_types HO223.out BK220.out (by decide)) (fun _ hk=>hk.2) (.slice Ao13 t221.length co13)) (fun _ h_=>h_.1))) (Kd.R_base ho0) hb);have n1_:=Aside0.mk (Kd.R_lower (Kd.R_new' ho0 (Kd.R_lt (by (with_reducible repeat (first|apply Kd.R_alloc|apply Kd.R_drewN|apply Kd.R_drew));exact (Kd.R_mono (Kd.R_far (p:=⟨gb220,1,none⟩) (Kd.R_types HO223.out BK220.out (by decide)) (fun _ hk=>hk.2) (.slice Ao13 t221.length co13)) (fun _ h_=>h_.1))))) (below_size (by repeat (first|(with_reducible first|exact HB.out|apply below_alloc|apply pw_below_drewN|apply below_drew1|refine below_set ?_ GE218.out|refine below_set ?_ GE219.out|refine below_set ?_ GE220.out)|exact HB.out))));have n2_:=Aside0.mk (blk_below (g:=gb218) (o:=.cells #[.bool a0_0,.slice A0_1 l0_1.length c0_1,.slice A0_2 l0_2.length c0_2] 62 (0,0)) (by (with_reducible repeat (first|refine blk_drewN ?_ _|refine blk_drew ?_|refine blk_alloc ?_ _));refine blk_far ?_ NB218_220.out _;(with_reducible repeat (first|refine blk_drewN ?_ _|refine blk_drew ?_|refine blk_alloc ?_ _));exact BK218.out) hb);have n3_:=Aside0.mk (blk_below (g:=gb219) (o:=.cells #[.bool false,.slice none 0 0,.slice none 0 0] 65 (0,0)) (by (with_reducible repeat (first|refine blk_drewN ?_ _|refine blk_drew ?_|refine blk_alloc ?_ _));refine blk_far ?_ NB219_220.out _;(with_reducible repeat (first|refine blk_drewN ?_ _|refine blk_drew ?_|refine blk_alloc ?_ _));exact BK219.out) hb);have n4_:=Aside0.mk (blk_below (g:=gb220) (o:=.cells #[.bool a0_0,.slice Ao13 t221.length co13,.slice none 0 0] 65 (0,0)) (by (with_reducible repeat (first|refine blk_drewN ?_ _|refine blk_drew ?_|refine blk_alloc ?_ _));refine blk_put (cs:=#[.bool a0_0,.slice none 0 0,.slice none 0 0]) ?_ 1 _ rfl;(with_reducible repeat (first|refine blk_drewN ?_ _|refine blk_drew ?_|refine blk_alloc ?_ _));exact BK220.out) hb);have n5_:=Aside0.mk (below_step (by repeat (first|(with_reducible first|exact HB.out|apply below_alloc|apply pw_below_drewN|apply below_drew1|refine below_set ?_ GE218.out|refine below_set ?_ GE219.out|refine below_set ?_ GE220.out)|exact HB.out)) hb);clear HO223;clear BK218;clear BK219;clear BK220;clear HB;have HO223:=n0_;have HO226:=n1_;have BK218:=n2_;have BK219:=n3_;have BK220:=n4_;have HB:=n5_;clear n0_ n1_ n2_ n3_ n4_ n5_;(try clear hb);(try clear hb2);(try clear hk);(try clear hi);(try clear ho0);obtain ⟨Ao17,co17,eo17⟩:=Kd.R_slice HO226.out;subst eo17;have hcz18_0:w16.cell? ⟨gb220,0,none⟩ = some (.bool a0_0):=(blk_cell BK220.out 0).trans rfl;have hcz18_1:w16.cell? ⟨gb220,1,none⟩ = some (.slice Ao13 t221.length co13):=(blk_cell BK220.out 1).trans rfl;have hcz18_2:w16.cell? ⟨gb220,2,none⟩ = some (.slice none 0 0):=(blk_cell BK220.out 2).trans rfl;have hfz18_0:=blk_frozen BK220.out 0;have hfz18_1:=blk_frozen BK220.out 1;have hfz18_2:=blk_frozen BK220.out 2;have hcz19_0:w16.cell? ⟨gb219,0,none⟩ = some (.bool false):=(blk_cell BK219.out 0).trans rfl;have hcz19_1:w16.cell? ⟨gb219,1,none⟩ = some (.slice none 0 0):=(blk_cell BK219.out 1).trans rfl;have hcz19_2:w16.cell? ⟨gb219,2,none⟩ = some (.slice none 0 0):=(blk_cell BK219.out 2).trans rfl;have hfz19_0:=blk_frozen BK219.out 0;have hfz19_1:=blk_frozen BK219.out 1;have hfz19_2:=blk_frozen BK219.out 2))
 refine bodyPost_ret (results_cell_row rfl _ _ gb219 65 #[.bool a0_0,.slice Ao13 t221.length co13,.slice Ao17 t224.length co17] (0,0) _ rfl (by (with_reducible repeat (first|refine blk_drewN ?_ _|refine blk_drew ?_|refine blk_alloc ?_ _));refine blk_put (cs:=#[.bool a0_0,.slice Ao13 t221.length co13,.slice none 0 0]) ?_ 2 _ rfl;(with_reducible repeat (first|refine blk_drewN ?_ _|refine blk_drew ?_|refine blk_alloc ?_ _));refine blk_put (cs:=#[.bool a0_0,.slice none 0 0,.slice none 0 0]) ?_ 1 _ rfl;(with_reducible repeat (first|refine blk_drewN ?_ _|refine blk_drew ?_|refine blk_alloc ?_ _));refine blk_put (cs:=#[.bool false,.slice none 0 0,.slice none 0 0]) ?_ 0 _ rfl;(with_reducible repeat (first|refine blk_drewN ?_ _|refine blk_drew ?_|refine blk_alloc ?_ _));refine blk_far ?_ NB219_220.out _;(with_reducible repeat (first|refine blk_drewN ?_ _|refine blk_drew ?_|refine blk_alloc ?_ _));exact BK219.out) Try.underlying65 rfl (by kernel_rfl)) rfl ?_
 exact ⟨_,_,by first|rfl|(simp [errW_none,errW_some] <;> rfl)|(simp [*,errW_none,errW_some] <;> rfl),by (with_reducible repeat (first|apply Kd.R_alloc|apply Kd.R_drewN|apply Kd.R_drew));exact Kd.R_mono (Kd.R_far (p:=⟨gb219,2,none⟩) (Kd.R_far (p:=⟨gb219,1,none⟩) (Kd.R_far (p:=⟨gb219,0,none⟩) (Kd.R_far (p:=⟨gb220,2,none⟩) (Kd.R_types (Kd.R_types HO223.out BK220.out (by decide)) BK219.out (by decide)) (fun _ hk=>hk.1.2) (.slice Ao17 t224.length co17)) (fun _ hk=>hk.2) (.bool a0_0)) (fun _ hk=>hk.2) (.slice Ao13 t221.length co13)) (fun _ hk=>hk.2) (.slice Ao17 t224.length co17)) (fun _ hk=>hk.1.1.2),by (with_reducible repeat (first|apply Kd.R_alloc|apply Kd.R_drewN|apply Kd.R_drew));exact Kd.R_mono (Kd.R_far (p:=⟨gb219,2,none⟩) (Kd.R_far (p:=⟨gb219,1,none⟩) (Kd.R_far (p:=⟨gb219,0,none⟩) (Kd.R_far (p:=⟨gb220,2,none⟩) (Kd.R_types (Kd.R_types HO226.out BK220.out (by decide)) BK219.out (by decide)) (fun _ hk=>hk.1.2) (.slice Ao17 t224.length co17)) (fun _ hk=>hk.2) (.bool a0_0)) (fun _ hk=>hk.2) (.slice Ao13 t221.length co13)) (fun _ hk=>hk.2) (.slice Ao17 t224.length co17)) (fun _ hk=>hk.1.1.2),by repeat (first|(with_reducible first|exact HB.out|apply below_alloc|apply pw_below_drewN|apply below_drew1|refine below_set ?_ GE218.out|refine below_set ?_ GE219.out|refine below_set ?_ GE220.out)|exact HB.out)⟩

/-! ### laws_toLitS: function 14 -/
def laws_toLitS.l0:Nat → List (S62) → List (S65) → Int → Option ((List (S65)))
 | 0,_,_,_=>none
 | k + 1,x0,x3,x4=>if x4 < (x0.length:Int) then (if 0 ≤ x4 then ((laws_toLit.f k ((rd_T62 x0 x4).f0) ((rd_T62 x0 x4).f1) ((rd_T62 x0 x4).f2)).bind fun bt231=>(if x4 < (x3.length:Int) then (laws_toLitS.l0 k x0 (x3.set (x4:Int).toNat (⟨bt231.1,bt231.2.1,bt231.2.2⟩:S65)) (wrap64 (x4 + 1))) else (none))) else (none)) else (some x3)
def laws_toLitS.f (k:Nat) (l0:List (S62)):Option ((List (S65))):=if 0 ≤ (l0.length:Int) then (if ((l0.length:Int):Int).toNat ≤ 5026338869833 then (laws_toLitS.l0 k l0 (List.replicate ((l0.length:Int):Int).toNat z65) 0) else (none)) else (none)
theorem laws_toLitS.mono_l:∀ k,(∀ y0 y1 y2,LeO (laws_toLitS.l0 k y0 y1 y2) (laws_toLitS.l0 (k + 1) y0 y1 y2))
 | 0=>fun _ _ _ r h=>by simp [laws_toLitS.l0] at h
 | k + 1=>by
  have ih0:=laws_toLitS.mono_l k
  ·intro y0 y1 y2
   unfold laws_toLitS.l0
   repeat' first
   | (with_reducible exact ih0 _ _ _)
   | (with_reducible exact laws_toLit.mono _ _ _ _)
   | (with_reducible exact LeO.refl _)
   | (with_reducible exact LeO.none _)
   | (with_reducible refine LeO.ite ?_ ?_)
   | (with_reducible refine LeO.bind ?_ (fun _=>?_))
   | exact ih0 _ _ _
   | exact laws_toLit.mono _ _ _ _
   | exact LeO.none _
   | refine LeO.ite ?_ ?_
   | refine LeO.bind ?_ (fun _=>?_)
theorem laws_toLitS.mono:∀ a0 k,LeO (laws_toLitS.f k a0) (laws_toLitS.f (k + 1) a0):=by
 intro a0 k
 have ih0:=laws_toLitS.mono_l k
 unfold laws_toLitS.f
 repeat' first
   | (with_reducible exact ih0 _ _ _)
   | (with_reducible exact laws_toLit.mono _ _ _ _)
   | (with_reducible exact LeO.refl _)
   | (with_reducible exact LeO.none _)
   | (with_reducible refine LeO.ite ?_ ?_)
   | (with_reducible refine LeO.bind ?_ (fun _=>?_))
   | exact ih0 _ _ _
   | exact laws_toLit.mono _ _ _ _
   | exact LeO.none _
   | refine LeO.ite ?_ ?_
   | refine LeO.bind ?_ (fun _=>?_)
set_option maxHeartbeats 8000000 in
set_option maxRecDepth 100000 in
theorem laws_toLitS.calls (k:Nat) (A0:Option Addr) (c0:Nat) (l0:List (S62)) (r:List (S65)) (w:World) (hr0:Kd.C k62 w A0 l0.length l0) (hc0:l0.length ≤ c0) (h:laws_toLitS.f k l0 = some r) :
  Calls Try.prog 14 #[.slice A0 l0.length c0] w fun e w'=>∃ v0_:Value,e = .returned (v0_) ∧ Kd.S k65 65 w' w.heap.size (fun _=>True) v0_ r ∧ Below w.heap.size w w':=by
 have hu62:=Try.underlying62
 have hu65:=Try.underlying65
 have HR0:=Aside0.mk hr0
 have HC0:=Aside0.mk hc0
 clear hr0 hc0
 have HB:=Aside0.mk (Below.refl w.heap.size w)
 have H:(if 0 ≤ (l0.length:Int) then (if ((l0.length:Int):Int).toNat ≤ 5026338869833 then (laws_toLitS.l0 k l0 (List.replicate ((l0.length:Int):Int).toNat z65) 0) else (none)) else (none)) = some r:=h
 clear h
 by_cases c2:0 ≤ (l0.length:Int)
 ·rw [if_pos c2] at H
  have c2b0:=eq_true c2
  have c2b1:decide (0 ≤ (l0.length:Int)) = true:=decide_eq_true c2
  clear c2
  by_cases c3:((l0.length:Int):Int).toNat ≤ 5026338869833
  ·rw [if_pos c3] at H
   have c3b0:=eq_true c3
   have c3b1:decide (((l0.length:Int):Int).toNat ≤ 5026338869833) = true:=decide_eq_true c3
   clear c3
   obtain ⟨y227,hy227⟩:∃ y_:List (S65),y_ = (List.replicate ((l0.length:Int):Int).toNat z65):=⟨_,rfl⟩
   replace H:(laws_toLitS.l0 k l0 y227 0) = some r:=by first|(rw [hy227];with_reducible exact H)|(have H2_:=(Option.bind_some _ _).symm.trans H;rw [hy227];with_reducible exact H2_)|(have H2_:=(Option.bind_some _ _).symm.trans H;with_reducible exact H2_)|with_reducible exact H|(rw [hy227];exact H)|exact H
   have Ny227:=Aside0.mk hy227
   clear hy227
   have H':=Aside0.mk H
   clear H
   go_enter Try.func14,Try.ntmps14
   go_wp2_with (first|((with_reducible refine gate_dst (N:=7) rfl ?_);refine Kd.S_make k65 _ 65 rfl (N:=7) rfl 33 _ _ rfl (l0.length:Int) rfl rfl Try.underlying33 (.agg #[(.bool false),(.slice none 0 0),(.slice none 0 0)]) 56 info65 rfl (by decide) (by first|decide|omega) z65 (ok:=fun _=>True) (okp:=fun _=>True) (k65_mkM _ _ _ z65 (Kd.R_nil _ _ _ _ _) (Kd.R_nil _ _ _ _ _)) (fun _ hk=>hk) trivial (of_decide_eq_true (by first|(with_reducible assumption)|assumption)) (Nat.le_trans (Nat.mul_le_mul_right _ (of_decide_eq_true (by first|(with_reducible assumption)|assumption):(l0.length:Int).toNat ≤ 5026338869833)) (by first|decide|omega)) (Below.refl _ _) (Nat.le_refl _) ?_;intro v228 w4 ho5 hb hg_ hnew_;clear hg_ hnew_;(first|rw [← Ny227.out] at ho5|(simp only [Int.reduceToNat] at ho5;rw [← Ny227.out] at ho5));have n0_:=Aside0.mk (Kd.S_lower ho5 (below_size (by repeat (first|(with_reducible first|exact HB.out|apply below_alloc|apply pw_below_drewN|apply below_drew1)|exact HB.out))));have n1_:=Aside0.mk (below_step (by repeat (first|(with_reducible first|exact HB.out|apply below_alloc|apply pw_below_drewN|apply below_drew1)|exact HB.out)) hb);clear HB;have HO229:=n0_;have HB:=n1_;clear n0_ n1_;clear hb ho5))
   go_loopg [4] k (fun kq v4 w'=>∃ (x3_1:List (S65)) (x4_1:Int),v4 = .int .i64 x4_1 ∧ Aside0 (laws_toLitS.l0 kq l0 x3_1 x4_1 = some r) ∧ Aside0 (kq ≤ k) ∧ Aside0 (Kd.S k65 65 w' w.heap.size (fun _=>True) v228 x3_1) ∧ Aside0 (Below w.heap.size w w'))
   case atStart=>exact ⟨(y227),(0),(by first|rfl|(simp;done)|(simp [*];done)),H',⟨Nat.le_refl _⟩,⟨by (with_reducible repeat (first|apply Kd.S_alloc|apply Kd.S_drewN|apply Kd.S_drew));exact HO229.out⟩,⟨by repeat (first|(with_reducible first|exact HB.out|apply below_alloc|apply pw_below_drewN|apply below_drew1)|exact HB.out)⟩⟩
   case round =>
    clear H'
    try clear c1
    try clear c2
    try clear c2b0
    try clear c2b1
    try clear p2
    try clear c3
    try clear c3b0
    try clear c3b1
    obtain ⟨x3_1,x4_1,rfl,HA,HK1,HO_3,HB⟩:=hrel
    cases gk with
    | zero=>exact absurd HA.out (by simp [laws_toLitS.l0])
    | succ k1 =>
     have H:=HA.out
     clear HA
     simp only [laws_toLitS.l0] at H
     by_cases c6:x4_1 < (l0.length:Int)
     ·rw [if_pos c6] at H
      have c6b0:decide (x4_1 < (l0.length:Int)) = true:=decide_eq_true c6
      clear c6
      by_cases c7:0 ≤ x4_1
      ·rw [if_pos c7] at H
       have c7b0:decide (0 ≤ x4_1) = true:=decide_eq_true c7
       clear c7
       replace H:=Option.bind_eq_some_iff.mp H
       obtain ⟨⟨t231,t232,t235⟩,A80,H⟩:=H
       replace H:(if x4_1 < (x3_1.length:Int) then (laws_toLitS.l0 k1 l0 (x3_1.set (x4_1:Int).toNat (⟨t231,t232,t235⟩:S65)) (wrap64 (x4_1 + 1))) else (none)) = some r:=H
       have A8:=Aside0.mk A80
       clear A80
       by_cases c9:x4_1 < (x3_1.length:Int)
       ·rw [if_pos c9] at H
        have c9b0:decide (x4_1 < (x3_1.length:Int)) = true:=decide_eq_true c9
        clear c9
        obtain ⟨y238,hy238⟩:∃ y_:List (S65),y_ = (x3_1.set (x4_1:Int).toNat (⟨t231,t232,t235⟩:S65)):=⟨_,rfl⟩
        replace H:(laws_toLitS.l0 k1 l0 y238 (wrap64 (x4_1 + 1))) = some r:=by first|(rw [hy238];with_reducible exact H)|(have H2_:=(Option.bind_some _ _).symm.trans H;rw [hy238];with_reducible exact H2_)|(have H2_:=(Option.bind_some _ _).symm.trans H;with_reducible exact H2_)|with_reducible exact H|(rw [hy238];exact H)|exact H
        have Ny238:=Aside0.mk hy238
        clear hy238
        have H':=Aside0.mk H
        clear H
        have p230:0 ≤ (x4_1:Int):=of_decide_eq_true (by first|(with_reducible assumption)|assumption)
        have q230:x4_1 < (l0.length:Int):=of_decide_eq_true (by first|(with_reducible assumption)|assumption)
        obtain ⟨ad230,A230_1,c230_1,A230_2,c230_2,e230,hx230_0,hx230_1,hx230_2,hl230_1,hi230_1,hl230_2,hi230_2⟩:=at_T62 HR0.out x4_1 p230 q230
        cases e230
        replace hx230_0:=(HB.out.cell (World.block_lt_of_cell? w _ hx230_0)).trans hx230_0
        replace hx230_1:=(HB.out.cell (World.block_lt_of_cell? w _ hx230_1)).trans hx230_1
        replace hx230_2:=(HB.out.cell (World.block_lt_of_cell? w _ hx230_2)).trans hx230_2
        have HR230_1:=Aside0.mk hi230_1
        have HC230_1:=Aside0.mk hl230_1
        clear hi230_1 hl230_1
        have HR230_2:=Aside0.mk hi230_2
        have HC230_2:=Aside0.mk hl230_2
        clear hi230_2 hl230_2
        replace p230:=eq_true p230
        replace q230:=eq_true q230
        go_wp2_with (first|((with_reducible refine gate_callee (f:=43) rfl ?_);refine goesL_ (some 20) rfl rfl Try.func43 (by kernel_rfl) rfl #[.agg #[.bool ((rd_T62 l0 x4_1).f0),.slice A230_1 ((rd_T62 l0 x4_1).f1).length c230_1,.slice A230_2 ((rd_T62 l0 x4_1).f2).length c230_2]] rfl (by (try simp only [List.map_toArray,List.map_cons,List.map_nil]);first|done|rfl|(simp only [List.length_drop,List.length_take];rfl)) ?_;(with_reducible refine (laws_toLit.calls k1 ((rd_T62 l0 x4_1).f0) _ _ ((rd_T62 l0 x4_1).f1) _ _ ((rd_T62 l0 x4_1).f2) t231 t232 t235 _ ?side1 ?side2 ?side3 ?side4 A8.out).mono ?_);(case side1=>repeat (first|exact (Kd.C_below HR230_1.out HB.out)|(with_reducible refine Kd.C_alloc ?_ _)|(with_reducible refine Kd.C_drewN ?_ _)|(with_reducible refine Kd.C_drew ?_)));(case side2=>exact HC230_1.out);(case side3=>repeat (first|exact (Kd.C_below HR230_2.out HB.out)|(with_reducible refine Kd.C_alloc ?_ _)|(with_reducible refine Kd.C_drewN ?_ _)|(with_reducible refine Kd.C_drew ?_)));(case side4=>exact HC230_2.out);rintro e w11 ⟨v233,v236,rfl,ho0,ho1,hb⟩;refine ⟨_,rfl,?_⟩;have n0_:=Aside0.mk (Kd.S_mono (Kd.S_told (Kd.S_told (Kd.S_old (by (with_reducible repeat (first|apply Kd.S_alloc|apply Kd.S_drewN|apply Kd.S_drew));exact HO_3.out) hb) (Kd.R_base ho0)) (Kd.R_base ho1)) (fun _ h_=>h_.1));have n1_:=Aside0.mk (Kd.R_lower ho0 (below_size (by repeat (first|(with_reducible first|exact HB.out|apply below_alloc|apply pw_below_drewN|apply below_drew1)|exact HB.out))));have n2_:=Aside0.mk (Kd.R_lower ho1 (below_size (by repeat (first|(with_reducible first|exact HB.out|apply below_alloc|apply pw_below_drewN|apply below_drew1)|exact HB.out))));have n3_:=Aside0.mk (below_step (by repeat (first|(with_reducible first|exact HB.out|apply below_alloc|apply pw_below_drewN|apply below_drew1)|exact HB.out)) hb);clear HO_3;clear HB;have HO_3:=n0_;have HO234:=n1_;have HO237:=n2_;have HB:=n3_;clear n0_ n1_ n2_ n3_;(try clear hb);(try clear hb2);(try clear hk);(try clear hi);(try clear ho0);(try clear ho1);have p10:0 ≤ (x4_1:Int):=of_decide_eq_true (by first|(with_reducible assumption)|assumption);have q10:(x4_1:Int) < ((x3_1.length:Int):Int):=of_decide_eq_true (by first|(with_reducible assumption)|assumption);obtain ⟨go10,co10,eo10,gb10,gl10,cl10,HG10⟩:=Kd.S_form HO_3.out (by omega);(first|cases eo10|(injection eo10 with ea_ en_ ec_;(first|subst ea_|(injection ea_ with ea_;subst ea_));subst ec_;clear en_));have GB10:=Aside0.mk gb10;have GG10:=Aside0.mk HG10;clear gb10 gl10 HG10;obtain ⟨_,ce10,hcl10,hM10,hcc10,hfr10,_,_⟩:=Kd.S_elem HO_3.out z65 (x4_1:Int) p10 q10;obtain ⟨ve10_1,ve10_2,rfl,ge10_1,ge10_2⟩:=k65_openM hM10;have hx10_0:w11.cell? ⟨go10,(x4_1:Int).toNat * 3,none⟩ = some (.bool ((rd_T65 x3_1 x4_1).f0)):=hcc10 0 _ rfl;have hx10_1:w11.cell? ⟨go10,(x4_1:Int).toNat * 3 + 1,none⟩ = some (ve10_1):=hcc10 1 _ rfl;have hx10_2:w11.cell? ⟨go10,(x4_1:Int).toNat * 3 + 2,none⟩ = some (ve10_2):=hcc10 2 _ rfl;have hf10_0:w11.frozen? ⟨go10,(x4_1:Int).toNat * 3,none⟩ = false:=hfr10 0;have hf10_1:w11.frozen? ⟨go10,(x4_1:Int).toNat * 3 + 1,none⟩ = false:=hfr10 1;have hf10_2:w11.frozen? ⟨go10,(x4_1:Int).toNat * 3 + 2,none⟩ = false:=hfr10 2;clear hcl10 hcc10 hfr10 hM10;replace p10:=eq_true p10;replace q10:=eq_true q10;have n_:=Aside0.mk (Kd.S_mono (ok':=(fun k_=>some k_ ≠ (v233:Value).ownBlock ∧ some k_ ≠ (v236:Value).ownBlock)) HO_3.out (fun k_ hk=>⟨hk.1.2,hk.2⟩));clear HO_3;have HO_3:=n_;clear n_;have HX12:=Aside0.mk (show Kd.S k65 65 w11 w.heap.size (fun k_=>((fun _=>True)) k_ ∧ ¬ ((fun k_=>some k_ = (v233:Value).ownBlock ∨ some k_ = (v236:Value).ownBlock)) k_) (.slice (some ⟨go10,0,none⟩) x3_1.length co10) x3_1 from (by (with_reducible repeat (first|apply Kd.S_alloc|apply Kd.S_drewN|apply Kd.S_drew));exact Kd.S_mono HO_3.out (fun k_ hk=>⟨trivial,fun e_=>e_.elim (fun h_=>hk.1 h_) (fun h_=>hk.2 h_)⟩)));obtain ⟨oki12,ce12,hcl12,hM12,hcc12,hfr12,hoki12,hH12⟩:=Kd.S_elem HX12.out z65 (x4_1:Int) (of_decide_eq_true (by first|(with_reducible assumption)|assumption)) (by have h_:(x4_1:Int) < ((x3_1.length:Int):Int):=of_decide_eq_true (by first|(with_reducible assumption)|assumption);first|exact h_|(have e_:=(Kd.S_reads' HO_3.out).1;omega)|simpa using h_);obtain ⟨ve12_1,ve12_2,rfl,ge12_1,ge12_2⟩:=k65_openM hM12;have HP12:=Kd.S_seg hH12 (of_decide_eq_true (by first|(with_reducible assumption)|assumption)) (by have h_:(x4_1:Int) < ((x3_1.length:Int):Int):=of_decide_eq_true (by first|(with_reducible assumption)|assumption);first|exact h_|(have e_:=(Kd.S_reads' HO_3.out).1;omega)|simpa using h_) (seg:=[.bool t231,v233,v236]) (j:=0) (show 3 ≤ 3 from by decide) (x':=(⟨t231,t232,t235⟩:S65)) (k65_mkM _ _ _ (⟨t231,t232,t235⟩:S65) (Kd.R_mono (Kd.R_tight rfl (Kd.R_mono (ok':=fun k_=>((fun _=>True)) k_ ∧ k_ ≠ go10) (Kd.R_apart' (HO234.out) (Kd.S_typed HO_3.out) (by decide)) (fun k_ hk=>⟨trivial,fun e_=>(hk.2) (by rw [e_];rfl)⟩))) (fun _ h_=>Or.inr (Or.inl h_))) (Kd.R_mono (Kd.R_tight rfl (Kd.R_mono (ok':=fun k_=>((fun _=>True)) k_ ∧ k_ ≠ go10) (Kd.R_apart' (HO237.out) (Kd.S_typed HO_3.out) (by decide)) (fun k_ hk=>⟨trivial,fun e_=>(hk.2) (by rw [e_];rfl)⟩))) (fun _ h_=>Or.inr (Or.inr (h_))))) (fun _ hk=>hk) (fun k_ hk_=>hk_.elim (fun h_=>((Kd.R_mono (ok':=fun k_=>((fun _=>True)) k_ ∧ k_ ≠ go10) (Kd.R_apart' (HO234.out) (Kd.S_typed HO_3.out) (by decide)) (fun k_ hk=>⟨trivial,fun e_=>(hk.2) (by rw [e_];rfl)⟩))).1 k_ h_.symm) (fun h_=>((Kd.R_mono (ok':=fun k_=>((fun _=>True)) k_ ∧ k_ ≠ go10) (Kd.R_apart' (HO237.out) (Kd.S_typed HO_3.out) (by decide)) (fun k_ hk=>⟨trivial,fun e_=>(hk.2) (by rw [e_];rfl)⟩))).1 k_ h_.symm));have hx12_0:=hcc12 0 _ rfl;(try simp only [show (k65).sz = 3 from rfl,Nat.mul_one,Nat.add_zero] at hx12_0);have hf12_0:=hfr12 0;(try simp only [show (k65).sz = 3 from rfl,Nat.mul_one,Nat.add_zero] at hf12_0);have hx12_1:=hcc12 1 _ rfl;(try simp only [show (k65).sz = 3 from rfl,Nat.mul_one,Nat.add_zero] at hx12_1);have hf12_1:=hfr12 1;(try simp only [show (k65).sz = 3 from rfl,Nat.mul_one,Nat.add_zero] at hf12_1);have hx12_2:=hcc12 2 _ rfl;(try simp only [show (k65).sz = 3 from rfl,Nat.mul_one,Nat.add_zero] at hx12_2);have hf12_2:=hfr12 2;(try simp only [show (k65).sz = 3 from rfl,Nat.mul_one,Nat.add_zero] at hf12_2);clear hcl12 hcc12 hfr12 hM12 hoki12 hH12)|((with_reducible refine gate_store (t:=65) (p:=21) rfl ?_);refine store_event (t:=65) (p:=21) (v:=?vo_w13) (w1:=(((w11.setCell ⟨go10,(x4_1:Int).toNat * 3,none⟩ (.bool t231)).setCell ⟨go10,(x4_1:Int).toNat * 3 + 1,none⟩ (v233)).setCell ⟨go10,(x4_1:Int).toNat * 3 + 2,none⟩ (v236))) ?hg ?ho ?hn ?hr ?_;(case ho=>rfl);(case hg=>rfl);(case hn=>rfl);(case hr=>first|(go_simp;done)|(go_simp;rfl)|((try (obtain ⟨_,_,e_⟩:=Kd.R_slice (HO234.out);rw [e_];clear e_));(try (obtain ⟨_,_,e_⟩:=Kd.R_slice (HO237.out);rw [e_];clear e_));first|(go_simp;done)|(go_simp;rfl)));intro w13 hw;have hg:w11.grownBy w13 (some go10):=(by rw [hw];exact HP12.2);have hp_:Kd.S k65 65 w13 w.heap.size (fun _=>True) (.slice (some ⟨go10,0,none⟩) x3_1.length co10) y238:=(by rw [hw,Ny238.out];exact HP12.1);clear HP12;have n0_:=Aside0.mk (hp_);have n1_:=Aside0.mk ((by rw [hw];exact below_set (below_set (below_set (HB.out) GB10.out) GB10.out) GB10.out:Below w.heap.size w w13));clear HO_3;clear HB;clear HO234;clear HO237;have HO_3:=n0_;have HB:=n1_;clear n0_ n1_;clear hg hw hp_))
        go_roundg k1
        case measure=>have:=HK1.out;omega
        case rel=>exact ⟨(y238),(wrap64 (x4_1 + 1)),(by first|rfl|(simp;done)|(simp [*];done)),H',⟨by have:=HK1.out;omega⟩,⟨by (with_reducible repeat (first|apply Kd.S_alloc|apply Kd.S_drewN|apply Kd.S_drew));exact HO_3.out⟩,⟨by repeat (first|(with_reducible first|exact HB.out|apply below_alloc|apply pw_below_drewN|apply below_drew1)|exact HB.out)⟩⟩
       ·rw [if_neg c9] at H
        exact absurd H (by simp)
      ·rw [if_neg c7] at H
       exact absurd H (by simp)
     ·rw [if_neg c6] at H
      have c6b0:decide (x4_1 < (l0.length:Int)) = false:=decide_eq_false c6
      clear c6
      obtain rfl:=Option.some.inj H
      go_wp2
      go_ret
      exact ⟨_,by first|rfl|(simp [errW_none,errW_some] <;> rfl)|(simp [*,errW_none,errW_some] <;> rfl),by (with_reducible repeat (first|apply Kd.S_alloc|apply Kd.S_drewN|apply Kd.S_drew));exact HO_3.out,by repeat (first|(with_reducible first|exact HB.out|apply below_alloc|apply pw_below_drewN|apply below_drew1)|exact HB.out)⟩
  ·rw [if_neg c3] at H
   exact absurd H (by simp)
 ·rw [if_neg c2] at H
  exact absurd H (by simp)

/-! ### laws_toStep: function 57 -/
def laws_toStep.f (k:Nat) (a0_0:Int) (l0_1:List Int) (l0_2:List Int) (l0_3:List (S62)):Option (Int × List Int × List Int × (List (S65))):=(laws_toIntS.f k l0_1).bind fun t242=>((laws_toIntS.f k l0_2).bind fun t245=>((laws_toLitS.f k l0_3).bind fun t248=>(some (a0_0,t242,t245,t248))))
theorem laws_toStep.mono:∀ a0 a1 a2 a3 k,LeO (laws_toStep.f k a0 a1 a2 a3) (laws_toStep.f (k + 1) a0 a1 a2 a3):=by
 intro a0 a1 a2 a3 k
 unfold laws_toStep.f
 repeat' first
   | (with_reducible exact laws_toIntS.mono _ _)
   | (with_reducible exact laws_toLitS.mono _ _)
   | (with_reducible exact LeO.refl _)
   | (with_reducible exact LeO.none _)
   | (with_reducible refine LeO.ite ?_ ?_)
   | (with_reducible refine LeO.bind ?_ (fun _=>?_))
   | exact laws_toIntS.mono _ _
   | exact laws_toLitS.mono _ _
   | exact LeO.none _
   | refine LeO.ite ?_ ?_
   | refine LeO.bind ?_ (fun _=>?_)
set_option maxHeartbeats 8000000 in
set_option maxRecDepth 100000 in
theorem laws_toStep.calls (k:Nat) (a0_0:Int) (A0_1:Option Addr) (c0_1:Nat) (l0_1:List Int) (A0_2:Option Addr) (c0_2:Nat) (l0_2:List Int) (A0_3:Option Addr) (c0_3:Nat) (l0_3:List (S62)) (r1:Int) (r2:List Int) (r3:List Int) (r4:List (S65)) (w:World) (hr0_1:Kd.C (Kd.int .i64) w A0_1 l0_1.length l0_1) (hc0_1:l0_1.length ≤ c0_1) (hr0_2:Kd.C (Kd.int .i64) w A0_2 l0_2.length l0_2) (hc0_2:l0_2.length ≤ c0_2) (hr0_3:Kd.C k62 w A0_3 l0_3.length l0_3) (hc0_3:l0_3.length ≤ c0_3) (h:laws_toStep.f k a0_0 l0_1 l0_2 l0_3 = some (r1,r2,r3,r4)) :
  Calls Try.prog 57 #[.agg #[.int .i64 a0_0,.slice A0_1 l0_1.length c0_1,.slice A0_2 l0_2.length c0_2,.slice A0_3 l0_3.length c0_3]] w fun e w'=>∃ v1_ v2_ v3_:Value,e = .returned (.agg #[.int .i64 r1,v1_,v2_,v3_]) ∧ Kd.R (Kd.int .i64) 3 w' w.heap.size (fun k_=>some k_ ≠ (v2_:Value).ownBlock) v1_ r2 ∧ Kd.R (Kd.int .i64) 3 w' w.heap.size (fun k_=>some k_ ≠ (v1_:Value).ownBlock) v2_ r3 ∧ Kd.S k65 65 w' w.heap.size (fun k_=>some k_ ≠ (v1_:Value).ownBlock ∧ some k_ ≠ (v2_:Value).ownBlock) v3_ r4 ∧ Below w.heap.size w w':=by
 have hu78:=Try.underlying78
 have hu81:=Try.underlying81
 have HR0_1:=Aside0.mk hr0_1
 have HC0_1:=Aside0.mk hc0_1
 clear hr0_1 hc0_1
 have HR0_2:=Aside0.mk hr0_2
 have HC0_2:=Aside0.mk hc0_2
 clear hr0_2 hc0_2
 have HR0_3:=Aside0.mk hr0_3
 have HC0_3:=Aside0.mk hc0_3
 clear hr0_3 hc0_3
 have HB:=Aside0.mk (Below.refl w.heap.size w)
 have H:((laws_toIntS.f k l0_1).bind fun t242=>((laws_toIntS.f k l0_2).bind fun t245=>((laws_toLitS.f k l0_3).bind fun t248=>(some (a0_0,t242,t245,t248))))) = some (r1,r2,r3,r4):=h
 clear h
 replace H:=Option.bind_eq_some_iff.mp H
 obtain ⟨t242,A20,H⟩:=H
 replace H:((laws_toIntS.f k l0_2).bind fun t245=>((laws_toLitS.f k l0_3).bind fun t248=>(some (a0_0,t242,t245,t248)))) = some (r1,r2,r3,r4):=H
 have A2:=Aside0.mk A20
 clear A20
 replace H:=Option.bind_eq_some_iff.mp H
 obtain ⟨t245,A30,H⟩:=H
 replace H:((laws_toLitS.f k l0_3).bind fun t248=>(some (a0_0,t242,t245,t248))) = some (r1,r2,r3,r4):=H
 have A3:=Aside0.mk A30
 clear A30
 replace H:=Option.bind_eq_some_iff.mp H
 obtain ⟨t248,A40,H⟩:=H
 replace H:(some (a0_0,t242,t245,t248)) = some (r1,r2,r3,r4):=H
 have A4:=Aside0.mk A40
 clear A40
 simp only [Option.some.injEq,Prod.mk.injEq] at H
 obtain ⟨rfl,rfl,rfl,rfl⟩:=H
 go_enter Try.func57,Try.ntmps57
 go_wp2_with (first|((with_reducible refine gate_dst (N:=1) rfl ?_);refine box_event ?hg (N:=1) ?hd (cs:=#[.int .i64 a0_0,.slice A0_1 l0_1.length c0_1,.slice A0_2 l0_2.length c0_2,.slice A0_3 l0_3.length c0_3]) (t:=78) ?hr ?_;(case hd=>rfl);(case hg=>rfl);(case hr=>first|(go_simp;done)|(go_simp;rfl));intro gb239 hg w5 hbox hb;have n0_:=Aside0.mk (below_step (by repeat (first|(with_reducible first|exact HB.out|apply below_alloc|apply pw_below_drewN|apply below_drew1)|exact HB.out)) hb);have n1_:=Aside0.mk (hbox);have n2_:=Aside0.mk ((by rw [hg];exact (below_size (by repeat (first|(with_reducible first|exact HB.out|apply below_alloc|apply pw_below_drewN|apply below_drew1)|exact HB.out))):w.heap.size ≤ gb239));have n3_:=Aside0.mk ((by rw [hg];exact (below_size (by repeat (first|(with_reducible first|exact HB.out|apply below_alloc|apply pw_below_drewN|apply below_drew1)|exact HB.out))):w.heap.size ≤ gb239));clear HB;have HB:=n0_;have BK239:=n1_;have GW239:=n2_;have GE239:=n3_;clear n0_ n1_ n2_ n3_;clear hb hbox hg)|((with_reducible refine gate_dst (N:=2) rfl ?_);refine box_event ?hg (N:=2) ?hd (cs:=#[.int .i64 0,.slice none 0 0,.slice none 0 0,.slice none 0 0]) (t:=81) ?hr ?_;(case hd=>rfl);(case hg=>rfl);(case hr=>first|(go_simp;done)|(go_simp;rfl));intro gb240 hg w6 hbox hb;have n0_:=Aside0.mk (blk_below (g:=gb239) (o:=.cells #[.int .i64 a0_0,.slice A0_1 l0_1.length c0_1,.slice A0_2 l0_2.length c0_2,.slice A0_3 l0_3.length c0_3] 78 (0,0)) (by (with_reducible repeat (first|refine blk_drewN ?_ _|refine blk_drew ?_|refine blk_alloc ?_ _));exact BK239.out) hb);have n1_:=Aside0.mk (below_step (by repeat (first|(with_reducible first|exact HB.out|apply below_alloc|apply pw_below_drewN|apply below_drew1|refine below_set ?_ GE239.out)|exact HB.out)) hb);have n2_:=Aside0.mk (hbox);have n3_:=Aside0.mk ((by rw [hg];exact (below_size (by repeat (first|(with_reducible first|exact HB.out|apply below_alloc|apply pw_below_drewN|apply below_drew1|refine below_set ?_ GE239.out)|exact HB.out))):w.heap.size ≤ gb240));have n4_:=Aside0.mk ((by rw [hg];exact (below_size (by repeat (first|(with_reducible first|exact HB.out|apply below_alloc|apply pw_below_drewN|apply below_drew1|refine below_set ?_ GE239.out)|exact HB.out))):w.heap.size ≤ gb240));have n5_:=Aside0.mk ((by rw [hg];exact Nat.ne_of_lt (blk_lt (g:=gb239) (o:=.cells #[.int .i64 a0_0,.slice A0_1 l0_1.length c0_1,.slice A0_2 l0_2.length c0_2,.slice A0_3 l0_3.length c0_3] 78 (0,0)) (by (with_reducible repeat (first|refine blk_drewN ?_ _|refine blk_drew ?_|refine blk_alloc ?_ _));exact BK239.out)):gb239 ≠ gb240));have n6_:=Aside0.mk ((by rw [hg];exact Nat.ne_of_gt (blk_lt (g:=gb239) (o:=.cells #[.int .i64 a0_0,.slice A0_1 l0_1.length c0_1,.slice A0_2 l0_2.length c0_2,.slice A0_3 l0_3.length c0_3] 78 (0,0)) (by (with_reducible repeat (first|refine blk_drewN ?_ _|refine blk_drew ?_|refine blk_alloc ?_ _));exact BK239.out)):gb240 ≠ gb239));clear BK239;clear HB;have BK239:=n0_;have HB:=n1_;have BK240:=n2_;have GW240:=n3_;have GE240:=n4_;have NB239_240:=n5_;have NB240_239:=n6_;clear n0_ n1_ n2_ n3_ n4_ n5_ n6_;clear hb hbox hg)|((with_reducible refine gate_dst (N:=3) rfl ?_);refine box_event ?hg (N:=3) ?hd (cs:=#[.int .i64 0,.slice none 0 0,.slice none 0 0,.slice none 0 0]) (t:=81) ?hr ?_;(case hd=>rfl);(case hg=>rfl);(case hr=>first|(go_simp;done)|(go_simp;rfl));intro gb241 hg w7 hbox hb;have n0_:=Aside0.mk (blk_below (g:=gb239) (o:=.cells #[.int .i64 a0_0,.slice A0_1 l0_1.length c0_1,.slice A0_2 l0_2.length c0_2,.slice A0_3 l0_3.length c0_3] 78 (0,0)) (by (with_reducible repeat (first|refine blk_drewN ?_ _|refine blk_drew ?_|refine blk_alloc ?_ _));exact BK239.out) hb);have n1_:=Aside0.mk (blk_below (g:=gb240) (o:=.cells #[.int .i64 0,.slice none 0 0,.slice none 0 0,.slice none 0 0] 81 (0,0)) (by (with_reducible repeat (first|refine blk_drewN ?_ _|refine blk_drew ?_|refine blk_alloc ?_ _));exact BK240.out) hb);have n2_:=Aside0.mk (below_step (by repeat (first|(with_reducible first|exact HB.out|apply below_alloc|apply pw_below_drewN|apply below_drew1|refine below_set ?_ GE239.out|refine below_set ?_ GE240.out)|exact HB.out)) hb);have n3_:=Aside0.mk (hbox);have n4_:=Aside0.mk ((by rw [hg];exact (below_size (by repeat (first|(with_reducible first|exact HB.out|apply below_alloc|apply pw_below_drewN|apply below_drew1|refine below_set ?_ GE239.out|refine below_set ?_ GE240.out)|exact HB.out))):w.heap.size ≤ gb241));have n5_:=Aside0.mk ((by rw [hg];exact (below_size (by repeat (first|(with_reducible first|exact HB.out|apply below_alloc|apply pw_below_drewN|apply below_drew1|refine below_set ?_ GE239.out|refine below_set ?_ GE240.out)|exact HB.out))):w.heap.size ≤ gb241));have n6_:=Aside0.mk ((by rw [hg];exact Nat.ne_of_lt (blk_lt (g:=gb239) (o:=.cells #[.int .i64 a0_0,.slice A0_1 l0_1.length c0_1,.slice A0_2 l0_2.length c0_2,.slice A0_3 l0_3.length c0_3] 78 (0,0)) (by (with_reducible repeat (first|refine blk_drewN ?_ _|refine blk_drew ?_|refine blk_alloc ?_ _));exact BK239.out)):gb239 ≠ gb241));have n7_:=Aside0.mk ((by rw [hg];exact Nat.ne_of_gt (blk_lt (g:=gb239) (o:=.cells #[.int .i64 a0_0,.slice A0_1 l0_1.length c0_1,.slice A0_2 l0_2.length c0_2,.slice A0_3 l0_3.length c0_3] 78 (0,0)) (by (with_reducible repeat (first|refine blk_drewN ?_ _|refine blk_drew ?_|refine blk_alloc ?_ _));exact BK239.out)):gb241 ≠ gb239));have n8_:=Aside0.mk ((by rw [hg];exact Nat.ne_of_lt (blk_lt (g:=gb240) (o:=.cells #[.int .i64 0,.slice none 0 0,.slice none 0 0,.slice none 0 0] 81 (0,0)) (by (with_reducible repeat (first|refine blk_drewN ?_ _|refine blk_drew ?_|refine blk_alloc ?_ _));exact BK240.out)):gb240 ≠ gb241));have n9_:=Aside0.mk ((by rw [hg];exact Nat.ne_of_gt (blk_lt (g:=gb240) (o:=.cells #[.int .i64 0,.slice none 0 0,.slice none 0 0,.slice none 0 0] 81 (0,0)) (by (with_reducible repeat (first|refine blk_drewN ?_ _|refine blk_drew ?_|refine blk_alloc ?_ _));exact BK240.out)):gb241 ≠ gb240));clear BK239;clear BK240;clear HB;have BK239:=n0_;have BK240:=n1_;have HB:=n2_;have BK241:=n3_;have GW241:=n4_;have GE241:=n5_;have NB239_241:=n6_;have NB241_239:=n7_;have NB240_241:=n8_;have NB241_240:=n9_;clear n0_ n1_ n2_ n3_ n4_ n5_ n6_ n7_ n8_ n9_;clear hb hbox hg;have hnb8:=NB239_240.out;have hnc8:=NB240_239.out;have hnb9:=NB239_241.out;have hnc9:=NB241_239.out;have hcz10_0:w7.cell? ⟨gb239,0,none⟩ = some (.int .i64 a0_0):=(blk_cell BK239.out 0).trans rfl;have hcz10_1:w7.cell? ⟨gb239,1,none⟩ = some (.slice A0_1 l0_1.length c0_1):=(blk_cell BK239.out 1).trans rfl;have hcz10_2:w7.cell? ⟨gb239,2,none⟩ = some (.slice A0_2 l0_2.length c0_2):=(blk_cell BK239.out 2).trans rfl;have hcz10_3:w7.cell? ⟨gb239,3,none⟩ = some (.slice A0_3 l0_3.length c0_3):=(blk_cell BK239.out 3).trans rfl;have hfz10_0:=blk_frozen BK239.out 0;have hfz10_1:=blk_frozen BK239.out 1;have hfz10_2:=blk_frozen BK239.out 2;have hfz10_3:=blk_frozen BK239.out 3;have hnb11:=NB241_240.out;have hnc11:=NB240_241.out;have hcz12_0:w7.cell? ⟨gb241,0,none⟩ = some (.int .i64 0):=(blk_cell BK241.out 0).trans rfl;have hcz12_1:w7.cell? ⟨gb241,1,none⟩ = some (.slice none 0 0):=(blk_cell BK241.out 1).trans rfl;have hcz12_2:w7.cell? ⟨gb241,2,none⟩ = some (.slice none 0 0):=(blk_cell BK241.out 2).trans rfl;have hcz12_3:w7.cell? ⟨gb241,3,none⟩ = some (.slice none 0 0):=(blk_cell BK241.out 3).trans rfl;have hfz12_0:=blk_frozen BK241.out 0;have hfz12_1:=blk_frozen BK241.out 1;have hfz12_2:=blk_frozen BK241.out 2;have hfz12_3:=blk_frozen BK241.out 3)|((with_reducible refine gate_callee (f:=13) rfl ?_);refine goesL_ (some 9) rfl rfl Try.func13 (by kernel_rfl) rfl #[.slice A0_1 l0_1.length c0_1] rfl (by (try simp only [List.map_toArray,List.map_cons,List.map_nil]);first|done|rfl|(simp only [List.length_drop,List.length_take];rfl)) ?_;(with_reducible refine (laws_toIntS.calls k _ _ l0_1 t242 _ ?side1 ?side2 A2.out).mono ?_);(case side1=>exact Kd.C_below HR0_1.out (by repeat (first|(with_reducible first|exact HB.out|apply below_alloc|apply pw_below_drewN|apply below_drew1|refine below_set ?_ GE239.out|refine below_set ?_ GE240.out|refine below_set ?_ GE241.out)|exact HB.out)));(case side2=>exact HC0_1.out);rintro e w13 ⟨v243,rfl,ho0,hb⟩;refine ⟨_,rfl,?_⟩;have n0_:=Aside0.mk (Kd.R_lower ho0 (below_size (by repeat (first|(with_reducible first|exact HB.out|apply below_alloc|apply pw_below_drewN|apply below_drew1|refine below_set ?_ GE239.out|refine below_set ?_ GE240.out|refine below_set ?_ GE241.out)|exact HB.out))));have n1_:=Aside0.mk (blk_below (g:=gb239) (o:=.cells #[.int .i64 a0_0,.slice A0_1 l0_1.length c0_1,.slice A0_2 l0_2.length c0_2,.slice A0_3 l0_3.length c0_3] 78 (0,0)) (by (with_reducible repeat (first|refine blk_drewN ?_ _|refine blk_drew ?_|refine blk_alloc ?_ _));refine blk_far ?_ NB239_241.out _;(with_reducible repeat (first|refine blk_drewN ?_ _|refine blk_drew ?_|refine blk_alloc ?_ _));exact BK239.out) hb);have n2_:=Aside0.mk (blk_below (g:=gb240) (o:=.cells #[.int .i64 0,.slice none 0 0,.slice none 0 0,.slice none 0 0] 81 (0,0)) (by (with_reducible repeat (first|refine blk_drewN ?_ _|refine blk_drew ?_|refine blk_alloc ?_ _));refine blk_far ?_ NB240_241.out _;(with_reducible repeat (first|refine blk_drewN ?_ _|refine blk_drew ?_|refine blk_alloc ?_ _));exact BK240.out) hb);have n3_:=Aside0.mk (blk_below (g:=gb241) (o:=.cells #[.int .i64 a0_0,.slice none 0 0,.slice none 0 0,.slice none 0 0] 81 (0,0)) (by (with_reducible repeat (first|refine blk_drewN ?_ _|refine blk_drew ?_|refine blk_alloc ?_ _));refine blk_put (cs:=#[.int .i64 0,.slice none 0 0,.slice none 0 0,.slice none 0 0]) ?_ 0 _ rfl;(with_reducible repeat (first|refine blk_drewN ?_ _|refine blk_drew ?_|refine blk_alloc ?_ _));exact BK241.out) hb);have n4_:=Aside0.mk (below_step (by repeat (first|(with_reducible first|exact HB.out|apply below_alloc|apply pw_below_drewN|apply below_drew1|refine below_set ?_ GE239.out|refine below_set ?_ GE240.out|refine below_set ?_ GE241.out)|exact HB.out)) hb);clear BK239;clear BK240;clear BK241;clear HB;have HO244:=n0_;have BK239:=n1_;have BK240:=n2_;have BK241:=n3_;have HB:=n4_;clear n0_ n1_ n2_ n3_ n4_;(try clear hb);(try clear hb2);(try clear hk);(try clear hi);(try clear ho0);obtain ⟨Ao14,co14,eo14⟩:=Kd.R_slice HO244.out;subst eo14;have hcz15_0:w13.cell? ⟨gb241,0,none⟩ = some (.int .i64 a0_0):=(blk_cell BK241.out 0).trans rfl;have hcz15_1:w13.cell? ⟨gb241,1,none⟩ = some (.slice none 0 0):=(blk_cell BK241.out 1).trans rfl;have hcz15_2:w13.cell? ⟨gb241,2,none⟩ = some (.slice none 0 0):=(blk_cell BK241.out 2).trans rfl;have hcz15_3:w13.cell? ⟨gb241,3,none⟩ = some (.slice none 0 0):=(blk_cell BK241.out 3).trans rfl;have hfz15_0:=blk_frozen BK241.out 0;have hfz15_1:=blk_frozen BK241.out 1;have hfz15_2:=blk_frozen BK241.out 2;have hfz15_3:=blk_frozen BK241.out 3;have hcz16_0:w13.cell? ⟨gb239,0,none⟩ = some (.int .i64 a0_0):=(blk_cell BK239.out 0).trans rfl;have hcz16_1:w13.cell? ⟨gb239,1,none⟩ = some (.slice A0_1 l0_1.length c0_1):=(blk_cell BK239.out 1).trans rfl;have hcz16_2:w13.cell? ⟨gb239,2,none⟩ = some (.slice A0_2 l0_2.length c0_2):=(blk_cell BK239.out 2).trans rfl;have hcz16_3:w13.cell? ⟨gb239,3,none⟩ = some (.slice A0_3 l0_3.length c0_3):=(blk_cell BK239.out 3).trans rfl;have hfz16_0:=blk_frozen BK239.out 0;have hfz16_1:=blk_frozen BK239.out 1;have hfz16_2:=blk_frozen BK239.out 2;have hfz16_3:=blk_frozen BK239.out 3)|((with_reducible refine gate_callee (f:=13) rfl ?_);refine goesL_ (some 13) rfl rfl Try.func13 (by kernel_rfl) rfl #[.slice A0_2 l0_2.length c0_2] rfl (by (try simp only [List.map_toArray,List.map_cons,List.map_nil]);first|done|rfl|(simp only [List.length_drop,List.length_take];rfl)) ?_;(with_reducible refine (laws_toIntS.calls k _ _ l0_2 t245 _ ?side1 ?side2 A3.out).mono ?_);(case side1=>exact Kd.C_below HR0_2.out (by repeat (first|(with_reducible first|exact HB.out|apply below_alloc|apply pw_below_drewN|apply below_drew1|refine below_set ?_ GE239.out|refine below_set ?_ GE240.out|refine below_set ?_ GE241.out)|exact HB.out)));(case side2=>exact HC0_2.out);rintro e w17 ⟨v246,rfl,ho0,hb⟩;refine ⟨_,rfl,?_⟩;have n0_:=Aside0.mk (Kd.R_elder' (by (with_reducible repeat (first|apply Kd.R_alloc|apply Kd.R_drewN|apply Kd.R_drew));exact (Kd.R_mono (Kd.R_far (p:=⟨gb241,1,none⟩) (Kd.R_types HO244.out BK241.out (by decide)) (fun _ hk=>hk.2) (.slice Ao14 t242.length co14)) (fun _ h_=>h_.1))) (Kd.R_base ho0) hb);have n1_:=Aside0.mk (Kd.R_lower (Kd.R_new' ho0 (Kd.R_lt (by (with_reducible repeat (first|apply Kd.R_alloc|apply Kd.R_drewN|apply Kd.R_drew));exact (Kd.R_mono (Kd.R_far (p:=⟨gb241,1,none⟩) (Kd.R_types HO244.out BK241.out (by decide)) (fun _ hk=>hk.2) (.slice Ao14 t242.length co14)) (fun _ h_=>h_.1))))) (below_size (by repeat (first|(with_reducible first|exact HB.out|apply below_alloc|apply pw_below_drewN|apply below_drew1|refine below_set ?_ GE239.out|refine below_set ?_ GE240.out|refine below_set ?_ GE241.out)|exact HB.out))));have n2_:=Aside0.mk (blk_below (g:=gb239) (o:=.cells #[.int .i64 a0_0,.slice A0_1 l0_1.length c0_1,.slice A0_2 l0_2.length c0_2,.slice A0_3 l0_3.length c0_3] 78 (0,0)) (by (with_reducible repeat (first|refine blk_drewN ?_ _|refine blk_drew ?_|refine blk_alloc ?_ _));refine blk_far ?_ NB239_241.out _;(with_reducible repeat (first|refine blk_drewN ?_ _|refine blk_drew ?_|refine blk_alloc ?_ _));exact BK239.out) hb);have n3_:=Aside0.mk (blk_below (g:=gb240) (o:=.cells #[.int .i64 0,.slice none 0 0,.slice none 0 0,.slice none 0 0] 81 (0,0)) (by (with_reducible repeat (first|refine blk_drewN ?_ _|refine blk_drew ?_|refine blk_alloc ?_ _));refine blk_far ?_ NB240_241.out _;(with_reducible repeat (first|refine blk_drewN ?_ _|refine blk_drew ?_|refine blk_alloc ?_ _));exact BK240.out) hb);have n4_:=Aside0.mk (blk_below (g:=gb241) (o:=.cells #[.int .i64 a0_0,.slice Ao14 t242.length co14,.slice none 0 0,.slice none 0 0] 81 (0,0)) (by (with_reducible repeat (first|refine blk_drewN ?_ _|refine blk_drew ?_|refine blk_alloc ?_ _));refine blk_put (cs:=#[.int .i64 a0_0,.slice none 0 0,.slice none 0 0,.slice none 0 0]) ?_ 1 _ rfl;(with_reducible repeat (first|refine blk_drewN ?_ _|refine blk_drew ?_|refine blk_alloc ?_ _));exact BK241.out) hb);have n5_:=Aside0.mk (below_step (by repeat (first|(with_reducible first|exact HB.out|apply below_alloc|apply pw_below_drewN|apply below_drew1|refine below_set ?_ GE239.out|refine below_set ?_ GE240.out|refine below_set ?_ GE241.out)|exact HB.out)) hb);clear HO244;clear BK239;clear BK240;clear BK241;clear HB;have HO244:=n0_;have HO247:=n1_;have BK239:=n2_;have BK240:=n3_;have BK241:=n4_;have HB:=n5_;clear n0_ n1_ n2_ n3_ n4_ n5_;(try clear hb);(try clear hb2);(try clear hk);(try clear hi);(try clear ho0);obtain ⟨Ao18,co18,eo18⟩:=Kd.R_slice HO247.out;subst eo18;have hcz19_0:w17.cell? ⟨gb241,0,none⟩ = some (.int .i64 a0_0):=(blk_cell BK241.out 0).trans rfl;have hcz19_1:w17.cell? ⟨gb241,1,none⟩ = some (.slice Ao14 t242.length co14):=(blk_cell BK241.out 1).trans rfl;have hcz19_2:w17.cell? ⟨gb241,2,none⟩ = some (.slice none 0 0):=(blk_cell BK241.out 2).trans rfl;have hcz19_3:w17.cell? ⟨gb241,3,none⟩ = some (.slice none 0 0):=(blk_cell BK241.out 3).trans rfl;have hfz19_0:=blk_frozen BK241.out 0;have hfz19_1:=blk_frozen BK241.out 1;have hfz19_2:=blk_frozen BK241.out 2;have hfz19_3:=blk_frozen BK241.out 3;have hcz20_0:w17.cell? ⟨gb239,0,none⟩ = some (.int .i64 a0_0):=(blk_cell BK239.out 0).trans rfl;have hcz20_1:w17.cell? ⟨gb239,1,none⟩ = some (.slice A0_1 l0_1.length c0_1):=(blk_cell BK239.out 1).trans rfl;have hcz20_2:w17.cell? ⟨gb239,2,none⟩ = some (.slice A0_2 l0_2.length c0_2):=(blk_cell BK239.out 2).trans rfl;have hcz20_3:w17.cell? ⟨gb239,3,none⟩ = some (.slice A0_3 l0_3.length c0_3):=(blk_cell BK239.out 3).trans rfl;have hfz20_0:=blk_frozen BK239.out 0;have hfz20_1:=blk_frozen BK239.out 1;have hfz20_2:=blk_frozen BK239.out 2;have hfz20_3:=blk_frozen BK239.out 3)|((with_reducible refine gate_callee (f:=14) rfl ?_);refine goesL_ (some 17) rfl rfl Try.func14 (by kernel_rfl) rfl #[.slice A0_3 l0_3.length c0_3] rfl (by (try simp only [List.map_toArray,List.map_cons,List.map_nil]);first|done|rfl|(simp only [List.length_drop,List.length_take];rfl)) ?_;(with_reducible refine (laws_toLitS.calls k _ _ l0_3 t248 _ ?side1 ?side2 A4.out).mono ?_);(case side1=>exact Kd.C_below HR0_3.out (by repeat (first|(with_reducible first|exact HB.out|apply below_alloc|apply pw_below_drewN|apply below_drew1|refine below_set ?_ GE239.out|refine below_set ?_ GE240.out|refine below_set ?_ GE241.out)|exact HB.out)));(case side2=>exact HC0_3.out);rintro e w21 ⟨v249,rfl,ho0,hb⟩;refine ⟨_,rfl,?_⟩;have n0_:=Aside0.mk (Kd.R_below (by (with_reducible repeat (first|apply Kd.R_alloc|apply Kd.R_drewN|apply Kd.R_drew));exact (Kd.R_mono (Kd.R_far (p:=⟨gb241,2,none⟩) (Kd.R_types HO244.out BK241.out (by decide)) (fun _ hk=>hk.2) (.slice Ao18 t245.length co18)) (fun _ h_=>h_.1))) hb);have n1_:=Aside0.mk (Kd.R_below (by (with_reducible repeat (first|apply Kd.R_alloc|apply Kd.R_drewN|apply Kd.R_drew));exact (Kd.R_mono (Kd.R_far (p:=⟨gb241,2,none⟩) (Kd.R_types HO247.out BK241.out (by decide)) (fun _ hk=>hk.2) (.slice Ao18 t245.length co18)) (fun _ h_=>h_.1))) hb);have n2_:=Aside0.mk (Kd.S_lower (Kd.S_new' (Kd.S_new' ho0 (Kd.R_lt (by (with_reducible repeat (first|apply Kd.R_alloc|apply Kd.R_drewN|apply Kd.R_drew));exact (Kd.R_mono (Kd.R_far (p:=⟨gb241,2,none⟩) (Kd.R_types HO244.out BK241.out (by decide)) (fun _ hk=>hk.2) (.slice Ao18 t245.length co18)) (fun _ h_=>h_.1))))) (Kd.R_lt (by (with_reducible repeat (first|apply Kd.R_alloc|apply Kd.R_drewN|apply Kd.R_drew));exact (Kd.R_mono (Kd.R_far (p:=⟨gb241,2,none⟩) (Kd.R_types HO247.out BK241.out (by decide)) (fun _ hk=>hk.2) (.slice Ao18 t245.length co18)) (fun _ h_=>h_.1))))) (below_size (by repeat (first|(with_reducible first|exact HB.out|apply below_alloc|apply pw_below_drewN|apply below_drew1|refine below_set ?_ GE239.out|refine below_set ?_ GE240.out|refine below_set ?_ GE241.out)|exact HB.out))));have n3_:=Aside0.mk (blk_below (g:=gb239) (o:=.cells #[.int .i64 a0_0,.slice A0_1 l0_1.length c0_1,.slice A0_2 l0_2.length c0_2,.slice A0_3 l0_3.length c0_3] 78 (0,0)) (by (with_reducible repeat (first|refine blk_drewN ?_ _|refine blk_drew ?_|refine blk_alloc ?_ _));refine blk_far ?_ NB239_241.out _;(with_reducible repeat (first|refine blk_drewN ?_ _|refine blk_drew ?_|refine blk_alloc ?_ _));exact BK239.out) hb);have n4_:=Aside0.mk (blk_below (g:=gb240) (o:=.cells #[.int .i64 0,.slice none 0 0,.slice none 0 0,.slice none 0 0] 81 (0,0)) (by (with_reducible repeat (first|refine blk_drewN ?_ _|refine blk_drew ?_|refine blk_alloc ?_ _));refine blk_far ?_ NB240_241.out _;(with_reducible repeat (first|refine blk_drewN ?_ _|refine blk_drew ?_|refine blk_alloc ?_ _));exact BK240.out) hb);have n5_:=Aside0.mk (blk_below (g:=gb241) (o:=.cells #[.int .i64 a0_0,.slice Ao14 t242.length co14,.slice Ao18 t245.length co18,.slice none 0 0] 81 (0,0)) (by (with_reducible repeat (first|refine blk_drewN ?_ _|refine blk_drew ?_|refine blk_alloc ?_ _));refine blk_put (cs:=#[.int .i64 a0_0,.slice Ao14 t242.length co14,.slice none 0 0,.slice none 0 0]) ?_ 2 _ rfl;(with_reducible repeat (first|refine blk_drewN ?_ _|refine blk_drew ?_|refine blk_alloc ?_ _));exact BK241.out) hb);have n6_:=Aside0.mk (below_step (by repeat (first|(with_reducible first|exact HB.out|apply below_alloc|apply pw_below_drewN|apply below_drew1|refine below_set ?_ GE239.out|refine below_set ?_ GE240.out|refine below_set ?_ GE241.out)|exact HB.out)) hb);clear HO244;clear HO247;clear BK239;clear BK240;clear BK241;clear HB;have HO244:=n0_;have HO247:=n1_;have HO250:=n2_;have BK239:=n3_;have BK240:=n4_;have BK241:=n5_;have HB:=n6_;clear n0_ n1_ n2_ n3_ n4_ n5_ n6_;(try clear hb);(try clear hb2);(try clear hk);(try clear hi);(try clear ho0);obtain ⟨Ao22,co22,eo22⟩:=Kd.S_slice HO250.out;subst eo22;have hcz23_0:w21.cell? ⟨gb241,0,none⟩ = some (.int .i64 a0_0):=(blk_cell BK241.out 0).trans rfl;have hcz23_1:w21.cell? ⟨gb241,1,none⟩ = some (.slice Ao14 t242.length co14):=(blk_cell BK241.out 1).trans rfl;have hcz23_2:w21.cell? ⟨gb241,2,none⟩ = some (.slice Ao18 t245.length co18):=(blk_cell BK241.out 2).trans rfl;have hcz23_3:w21.cell? ⟨gb241,3,none⟩ = some (.slice none 0 0):=(blk_cell BK241.out 3).trans rfl;have hfz23_0:=blk_frozen BK241.out 0;have hfz23_1:=blk_frozen BK241.out 1;have hfz23_2:=blk_frozen BK241.out 2;have hfz23_3:=blk_frozen BK241.out 3;have hcz24_0:w21.cell? ⟨gb240,0,none⟩ = some (.int .i64 0):=(blk_cell BK240.out 0).trans rfl;have hcz24_1:w21.cell? ⟨gb240,1,none⟩ = some (.slice none 0 0):=(blk_cell BK240.out 1).trans rfl;have hcz24_2:w21.cell? ⟨gb240,2,none⟩ = some (.slice none 0 0):=(blk_cell BK240.out 2).trans rfl;have hcz24_3:w21.cell? ⟨gb240,3,none⟩ = some (.slice none 0 0):=(blk_cell BK240.out 3).trans rfl;have hfz24_0:=blk_frozen BK240.out 0;have hfz24_1:=blk_frozen BK240.out 1;have hfz24_2:=blk_frozen BK240.out 2;have hfz24_3:=blk_frozen BK240.out 3))
 refine bodyPost_ret (results_cell_row rfl _ _ gb240 81 #[.int .i64 a0_0,.slice Ao14 t242.length co14,.slice Ao18 t245.length co18,.slice Ao22 t248.length co22] (0,0) _ rfl (by (with_reducible repeat (first|refine blk_drewN ?_ _|refine blk_drew ?_|refine blk_alloc ?_ _));refine blk_put (cs:=#[.int .i64 a0_0,.slice Ao14 t242.length co14,.slice Ao18 t245.length co18,.slice none 0 0]) ?_ 3 _ rfl;(with_reducible repeat (first|refine blk_drewN ?_ _|refine blk_drew ?_|refine blk_alloc ?_ _));refine blk_put (cs:=#[.int .i64 a0_0,.slice Ao14 t242.length co14,.slice none 0 0,.slice none 0 0]) ?_ 2 _ rfl;(with_reducible repeat (first|refine blk_drewN ?_ _|refine blk_drew ?_|refine blk_alloc ?_ _));refine blk_put (cs:=#[.int .i64 a0_0,.slice none 0 0,.slice none 0 0,.slice none 0 0]) ?_ 1 _ rfl;(with_reducible repeat (first|refine blk_drewN ?_ _|refine blk_drew ?_|refine blk_alloc ?_ _));refine blk_put (cs:=#[.int .i64 0,.slice none 0 0,.slice none 0 0,.slice none 0 0]) ?_ 0 _ rfl;(with_reducible repeat (first|refine blk_drewN ?_ _|refine blk_drew ?_|refine blk_alloc ?_ _));refine blk_far ?_ NB240_241.out _;(with_reducible repeat (first|refine blk_drewN ?_ _|refine blk_drew ?_|refine blk_alloc ?_ _));exact BK240.out) Try.underlying81 rfl (by kernel_rfl)) rfl ?_
 exact ⟨_,_,_,by first|rfl|(simp [errW_none,errW_some] <;> rfl)|(simp [*,errW_none,errW_some] <;> rfl),by (with_reducible repeat (first|apply Kd.R_alloc|apply Kd.R_drewN|apply Kd.R_drew));exact Kd.R_mono (Kd.R_far (p:=⟨gb240,3,none⟩) (Kd.R_far (p:=⟨gb240,2,none⟩) (Kd.R_far (p:=⟨gb240,1,none⟩) (Kd.R_far (p:=⟨gb240,0,none⟩) (Kd.R_far (p:=⟨gb241,3,none⟩) (Kd.R_types (Kd.R_types HO244.out BK241.out (by decide)) BK240.out (by decide)) (fun _ hk=>hk.1.2) (.slice Ao22 t248.length co22)) (fun _ hk=>hk.2) (.int .i64 a0_0)) (fun _ hk=>hk.2) (.slice Ao14 t242.length co14)) (fun _ hk=>hk.2) (.slice Ao18 t245.length co18)) (fun _ hk=>hk.2) (.slice Ao22 t248.length co22)) (fun _ hk=>hk.1.1.2),by (with_reducible repeat (first|apply Kd.R_alloc|apply Kd.R_drewN|apply Kd.R_drew));exact Kd.R_mono (Kd.R_far (p:=⟨gb240,3,none⟩) (Kd.R_far (p:=⟨gb240,2,none⟩) (Kd.R_far (p:=⟨gb240,1,none⟩) (Kd.R_far (p:=⟨gb240,0,none⟩) (Kd.R_far (p:=⟨gb241,3,none⟩) (Kd.R_types (Kd.R_types HO247.out BK241.out (by decide)) BK240.out (by decide)) (fun _ hk=>hk.1.2) (.slice Ao22 t248.length co22)) (fun _ hk=>hk.2) (.int .i64 a0_0)) (fun _ hk=>hk.2) (.slice Ao14 t242.length co14)) (fun _ hk=>hk.2) (.slice Ao18 t245.length co18)) (fun _ hk=>hk.2) (.slice Ao22 t248.length co22)) (fun _ hk=>hk.1.1.2),by (with_reducible repeat (first|apply Kd.S_alloc|apply Kd.S_drewN|apply Kd.S_drew));exact Kd.S_mono (Kd.S_far (p:=⟨gb240,3,none⟩) (Kd.S_far (p:=⟨gb240,2,none⟩) (Kd.S_far (p:=⟨gb240,1,none⟩) (Kd.S_far (p:=⟨gb240,0,none⟩) (Kd.S_far (p:=⟨gb241,3,none⟩) (Kd.S_types (Kd.S_types HO250.out BK241.out (by decide)) BK240.out (by decide)) (fun _ hk=>hk.1.2) (.slice Ao22 t248.length co22)) (fun _ hk=>hk.2) (.int .i64 a0_0)) (fun _ hk=>hk.2) (.slice Ao14 t242.length co14)) (fun _ hk=>hk.2) (.slice Ao18 t245.length co18)) (fun _ hk=>hk.2) (.slice Ao22 t248.length co22)) (fun _ hk=>⟨hk.1.1.1.2,hk.1.1.2⟩),by repeat (first|(with_reducible first|exact HB.out|apply below_alloc|apply pw_below_drewN|apply below_drew1|refine below_set ?_ GE239.out|refine below_set ?_ GE240.out|refine below_set ?_ GE241.out)|exact HB.out)⟩

/-! ### laws_toStepS: function 32 -/
def laws_toStepS.l0:Nat → List (S78) → List (S81) → Int → Option ((List (S81)))
 | 0,_,_,_=>none
 | k + 1,x0,x3,x4=>if x4 < (x0.length:Int) then (if 0 ≤ x4 then ((laws_toStep.f k ((rd_T78 x0 x4).f0) ((rd_T78 x0 x4).f1) ((rd_T78 x0 x4).f2) ((rd_T78 x0 x4).f3)).bind fun bt255=>(if x4 < (x3.length:Int) then (laws_toStepS.l0 k x0 (x3.set (x4:Int).toNat (⟨bt255.1,bt255.2.1,bt255.2.2.1,bt255.2.2.2⟩:S81)) (wrap64 (x4 + 1))) else (none))) else (none)) else (some x3)
def laws_toStepS.f (k:Nat) (l0:List (S78)):Option ((List (S81))):=if 0 ≤ (l0.length:Int) then (if ((l0.length:Int):Int).toNat ≤ 3518437208883 then (laws_toStepS.l0 k l0 (List.replicate ((l0.length:Int):Int).toNat z81) 0) else (none)) else (none)
theorem laws_toStepS.mono_l:∀ k,(∀ y0 y1 y2,LeO (laws_toStepS.l0 k y0 y1 y2) (laws_toStepS.l0 (k + 1) y0 y1 y2))
 | 0=>fun _ _ _ r h=>by simp [laws_toStepS.l0] at h
 | k + 1=>by
  have ih0:=laws_toStepS.mono_l k
  ·intro y0 y1 y2
   unfold laws_toStepS.l0
   repeat' first
   | (with_reducible exact ih0 _ _ _)
   | (with_reducible exact laws_toStep.mono _ _ _ _ _)
   | (with_reducible exact LeO.refl _)
   | (with_reducible exact LeO.none _)
   | (with_reducible refine LeO.ite ?_ ?_)
   | (with_reducible refine LeO.bind ?_ (fun _=>?_))
   | exact ih0 _ _ _
   | exact laws_toStep.mono _ _ _ _ _
   | exact LeO.none _
   | refine LeO.ite ?_ ?_
   | refine LeO.bind ?_ (fun _=>?_)
theorem laws_toStepS.mono:∀ a0 k,LeO (laws_toStepS.f k a0) (laws_toStepS.f (k + 1) a0):=by
 intro a0 k
 have ih0:=laws_toStepS.mono_l k
 unfold laws_toStepS.f
 repeat' first
   | (with_reducible exact ih0 _ _ _)
   | (with_reducible exact laws_toStep.mono _ _ _ _ _)
   | (with_reducible exact LeO.refl _)
   | (with_reducible exact LeO.none _)
   | (with_reducible refine LeO.ite ?_ ?_)
   | (with_reducible refine LeO.bind ?_ (fun _=>?_))
   | exact ih0 _ _ _
   | exact laws_toStep.mono _ _ _ _ _
   | exact LeO.none _
   | refine LeO.ite ?_ ?_
   | refine LeO.bind ?_ (fun _=>?_)
set_option maxHeartbeats 8000000 in
set_option maxRecDepth 100000 in
theorem laws_toStepS.calls (k:Nat) (A0:Option Addr) (c0:Nat) (l0:List (S78)) (r:List (S81)) (w:World) (hr0:Kd.C k78 w A0 l0.length l0) (hc0:l0.length ≤ c0) (h:laws_toStepS.f k l0 = some r) :
  Calls Try.prog 32 #[.slice A0 l0.length c0] w fun e w'=>∃ v0_:Value,e = .returned (v0_) ∧ Kd.R k81 81 w' w.heap.size (fun _=>True) v0_ r ∧ Below w.heap.size w w':=by
 have hu78:=Try.underlying78
 have hu81:=Try.underlying81
 have HR0:=Aside0.mk hr0
 have HC0:=Aside0.mk hc0
 clear hr0 hc0
 have HB:=Aside0.mk (Below.refl w.heap.size w)
 have H:(if 0 ≤ (l0.length:Int) then (if ((l0.length:Int):Int).toNat ≤ 3518437208883 then (laws_toStepS.l0 k l0 (List.replicate ((l0.length:Int):Int).toNat z81) 0) else (none)) else (none)) = some r:=h
 clear h
 by_cases c2:0 ≤ (l0.length:Int)
 ·rw [if_pos c2] at H
  have c2b0:=eq_true c2
  have c2b1:decide (0 ≤ (l0.length:Int)) = true:=decide_eq_true c2
  clear c2
  by_cases c3:((l0.length:Int):Int).toNat ≤ 3518437208883
  ·rw [if_pos c3] at H
   have c3b0:=eq_true c3
   have c3b1:decide (((l0.length:Int):Int).toNat ≤ 3518437208883) = true:=decide_eq_true c3
   clear c3
   obtain ⟨y251,hy251⟩:∃ y_:List (S81),y_ = (List.replicate ((l0.length:Int):Int).toNat z81):=⟨_,rfl⟩
   replace H:(laws_toStepS.l0 k l0 y251 0) = some r:=by first|(rw [hy251];with_reducible exact H)|(have H2_:=(Option.bind_some _ _).symm.trans H;rw [hy251];with_reducible exact H2_)|(have H2_:=(Option.bind_some _ _).symm.trans H;with_reducible exact H2_)|with_reducible exact H|(rw [hy251];exact H)|exact H
   have Ny251:=Aside0.mk hy251
   clear hy251
   have H':=Aside0.mk H
   clear H
   go_enter Try.func32,Try.ntmps32
   go_wp2_with (first|((with_reducible refine gate_dst (N:=7) rfl ?_);refine Kd.R_make k81 _ 81 rfl (N:=7) rfl 53 _ _ rfl (l0.length:Int) rfl rfl Try.underlying53 (.agg #[(.int .i64 0),(.slice none 0 0),(.slice none 0 0),(.slice none 0 0)]) 80 info81 rfl (by decide) (by first|decide|omega) z81 (ok:=fun _=>True) (okp:=fun _=>True) (k81_mkM _ _ _ z81 (Kd.R_nil _ _ _ _ _) (Kd.R_nil _ _ _ _ _) (Kd.R_nil _ _ _ _ _)) (fun _ hk=>hk) trivial (of_decide_eq_true (by first|(with_reducible assumption)|assumption)) (Nat.le_trans (Nat.mul_le_mul_right _ (of_decide_eq_true (by first|(with_reducible assumption)|assumption):(l0.length:Int).toNat ≤ 3518437208883)) (by first|decide|omega)) (Below.refl _ _) (Nat.le_refl _) ?_;intro v252 w4 ho5 hb hg_ hnew_;clear hg_ hnew_;(first|rw [← Ny251.out] at ho5|(simp only [Int.reduceToNat] at ho5;rw [← Ny251.out] at ho5));have n0_:=Aside0.mk (Kd.R_lower ho5 (below_size (by repeat (first|(with_reducible first|exact HB.out|apply below_alloc|apply pw_below_drewN|apply below_drew1)|exact HB.out))));have n1_:=Aside0.mk (below_step (by repeat (first|(with_reducible first|exact HB.out|apply below_alloc|apply pw_below_drewN|apply below_drew1)|exact HB.out)) hb);clear HB;have HO253:=n0_;have HB:=n1_;clear n0_ n1_;clear hb ho5))
   go_loopg [4] k (fun kq v4 w'=>∃ (x3_1:List (S81)) (x4_1:Int),v4 = .int .i64 x4_1 ∧ Aside0 (laws_toStepS.l0 kq l0 x3_1 x4_1 = some r) ∧ Aside0 (kq ≤ k) ∧ Aside0 (Kd.R k81 81 w' w.heap.size (fun _=>True) v252 x3_1) ∧ Aside0 (Below w.heap.size w w'))
   case atStart=>exact ⟨(y251),(0),(by first|rfl|(simp;done)|(simp [*];done)),H',⟨Nat.le_refl _⟩,⟨by (with_reducible repeat (first|apply Kd.R_alloc|apply Kd.R_drewN|apply Kd.R_drew));exact HO253.out⟩,⟨by repeat (first|(with_reducible first|exact HB.out|apply below_alloc|apply pw_below_drewN|apply below_drew1)|exact HB.out)⟩⟩
   case round =>
    clear H'
    try clear c2
    try clear c2b0
    try clear c2b1
    try clear p2
    try clear c3
    try clear c3b0
    try clear c3b1
    obtain ⟨x3_1,x4_1,rfl,HA,HK1,HO_3,HB⟩:=hrel
    cases gk with
    | zero=>exact absurd HA.out (by simp [laws_toStepS.l0])
    | succ k1 =>
     have H:=HA.out
     clear HA
     simp only [laws_toStepS.l0] at H
     by_cases c6:x4_1 < (l0.length:Int)
     ·rw [if_pos c6] at H
      have c6b0:decide (x4_1 < (l0.length:Int)) = true:=decide_eq_true c6
      clear c6
      by_cases c7:0 ≤ x4_1
      ·rw [if_pos c7] at H
       have c7b0:decide (0 ≤ x4_1) = true:=decide_eq_true c7
       clear c7
       replace H:=Option.bind_eq_some_iff.mp H
       obtain ⟨⟨t255,t256,t259,t262⟩,A80,H⟩:=H
       replace H:(if x4_1 < (x3_1.length:Int) then (laws_toStepS.l0 k1 l0 (x3_1.set (x4_1:Int).toNat (⟨t255,t256,t259,t262⟩:S81)) (wrap64 (x4_1 + 1))) else (none)) = some r:=H
       have A8:=Aside0.mk A80
       clear A80
       by_cases c9:x4_1 < (x3_1.length:Int)
       ·rw [if_pos c9] at H
        have c9b0:decide (x4_1 < (x3_1.length:Int)) = true:=decide_eq_true c9
        clear c9
        obtain ⟨y265,hy265⟩:∃ y_:List (S81),y_ = (x3_1.set (x4_1:Int).toNat (⟨t255,t256,t259,t262⟩:S81)):=⟨_,rfl⟩
        replace H:(laws_toStepS.l0 k1 l0 y265 (wrap64 (x4_1 + 1))) = some r:=by first|(rw [hy265];with_reducible exact H)|(have H2_:=(Option.bind_some _ _).symm.trans H;rw [hy265];with_reducible exact H2_)|(have H2_:=(Option.bind_some _ _).symm.trans H;with_reducible exact H2_)|with_reducible exact H|(rw [hy265];exact H)|exact H
        have Ny265:=Aside0.mk hy265
        clear hy265
        have H':=Aside0.mk H
        clear H
        have p254:0 ≤ (x4_1:Int):=of_decide_eq_true (by first|(with_reducible assumption)|assumption)
        have q254:x4_1 < (l0.length:Int):=of_decide_eq_true (by first|(with_reducible assumption)|assumption)
        obtain ⟨ad254,A254_1,c254_1,A254_2,c254_2,A254_3,c254_3,e254,hx254_0,hx254_1,hx254_2,hx254_3,hl254_1,hi254_1,hl254_2,hi254_2,hl254_3,hi254_3⟩:=at_T78 HR0.out x4_1 p254 q254
        cases e254
        replace hx254_0:=(HB.out.cell (World.block_lt_of_cell? w _ hx254_0)).trans hx254_0
        replace hx254_1:=(HB.out.cell (World.block_lt_of_cell? w _ hx254_1)).trans hx254_1
        replace hx254_2:=(HB.out.cell (World.block_lt_of_cell? w _ hx254_2)).trans hx254_2
        replace hx254_3:=(HB.out.cell (World.block_lt_of_cell? w _ hx254_3)).trans hx254_3
        have HR254_1:=Aside0.mk hi254_1
        have HC254_1:=Aside0.mk hl254_1
        clear hi254_1 hl254_1
        have HR254_2:=Aside0.mk hi254_2
        have HC254_2:=Aside0.mk hl254_2
        clear hi254_2 hl254_2
        have HR254_3:=Aside0.mk hi254_3
        have HC254_3:=Aside0.mk hl254_3
        clear hi254_3 hl254_3
        replace p254:=eq_true p254
        replace q254:=eq_true q254
        go_wp2_with (first|((with_reducible refine gate_callee (f:=57) rfl ?_);refine goesL_ (some 20) rfl rfl Try.func57 (by kernel_rfl) rfl #[.agg #[.int .i64 ((rd_T78 l0 x4_1).f0),.slice A254_1 ((rd_T78 l0 x4_1).f1).length c254_1,.slice A254_2 ((rd_T78 l0 x4_1).f2).length c254_2,.slice A254_3 ((rd_T78 l0 x4_1).f3).length c254_3]] rfl (by (try simp only [List.map_toArray,List.map_cons,List.map_nil]);first|done|rfl|(simp only [List.length_drop,List.length_take];rfl)) ?_;(with_reducible refine (laws_toStep.calls k1 ((rd_T78 l0 x4_1).f0) _ _ ((rd_T78 l0 x4_1).f1) _ _ ((rd_T78 l0 x4_1).f2) _ _ ((rd_T78 l0 x4_1).f3) t255 t256 t259 t262 _ ?side1 ?side2 ?side3 ?side4 ?side5 ?side6 A8.out).mono ?_);(case side1=>repeat (first|exact (Kd.C_below HR254_1.out HB.out)|(with_reducible refine Kd.C_alloc ?_ _)|(with_reducible refine Kd.C_drewN ?_ _)|(with_reducible refine Kd.C_drew ?_)));(case side2=>exact HC254_1.out);(case side3=>repeat (first|exact (Kd.C_below HR254_2.out HB.out)|(with_reducible refine Kd.C_alloc ?_ _)|(with_reducible refine Kd.C_drewN ?_ _)|(with_reducible refine Kd.C_drew ?_)));(case side4=>exact HC254_2.out);(case side5=>repeat (first|exact (Kd.C_below HR254_3.out HB.out)|(with_reducible refine Kd.C_alloc ?_ _)|(with_reducible refine Kd.C_drewN ?_ _)|(with_reducible refine Kd.C_drew ?_)));(case side6=>exact HC254_3.out);rintro e w11 ⟨v257,v260,v263,rfl,ho0,ho1,ho2,hb⟩;refine ⟨_,rfl,?_⟩;have n0_:=Aside0.mk (Kd.R_mono (Kd.R_told (Kd.R_told (Kd.R_told (Kd.R_old (by (with_reducible repeat (first|apply Kd.R_alloc|apply Kd.R_drewN|apply Kd.R_drew));exact HO_3.out) hb) (Kd.R_base ho0)) (Kd.R_base ho1)) (Kd.S_base ho2)) (fun _ h_=>h_.1));have n1_:=Aside0.mk (Kd.R_lower ho0 (below_size (by repeat (first|(with_reducible first|exact HB.out|apply below_alloc|apply pw_below_drewN|apply below_drew1)|exact HB.out))));have n2_:=Aside0.mk (Kd.R_lower ho1 (below_size (by repeat (first|(with_reducible first|exact HB.out|apply below_alloc|apply pw_below_drewN|apply below_drew1)|exact HB.out))));have n3_:=Aside0.mk (Kd.S_lower ho2 (below_size (by repeat (first|(with_reducible first|exact HB.out|apply below_alloc|apply pw_below_drewN|apply below_drew1)|exact HB.out))));have n4_:=Aside0.mk (below_step (by repeat (first|(with_reducible first|exact HB.out|apply below_alloc|apply pw_below_drewN|apply below_drew1)|exact HB.out)) hb);clear HO_3;clear HB;have HO_3:=n0_;have HO258:=n1_;have HO261:=n2_;have HO264:=n3_;have HB:=n4_;clear n0_ n1_ n2_ n3_ n4_;(try clear hb);(try clear hb2);(try clear hk);(try clear hi);(try clear ho0);(try clear ho1);(try clear ho2);have p10:0 ≤ (x4_1:Int):=of_decide_eq_true (by first|(with_reducible assumption)|assumption);have q10:(x4_1:Int) < ((x3_1.length:Int):Int):=of_decide_eq_true (by first|(with_reducible assumption)|assumption);obtain ⟨go10,co10,eo10,gb10,gl10,cl10,HG10⟩:=Kd.R_form HO_3.out (by omega);(first|cases eo10|(injection eo10 with ea_ en_ ec_;(first|subst ea_|(injection ea_ with ea_;subst ea_));subst ec_;clear en_));have GB10:=Aside0.mk gb10;have GG10:=Aside0.mk HG10;clear gb10 gl10 HG10;obtain ⟨ce10,hcl10,hM10,hcc10,hfr10⟩:=Kd.R_elem HO_3.out z81 (x4_1:Int) p10 q10;obtain ⟨ve10_1,ve10_2,ve10_3,rfl,ge10_1,ge10_2,ge10_3⟩:=k81_openM hM10;have hx10_0:w11.cell? ⟨go10,(x4_1:Int).toNat * 4,none⟩ = some (.int .i64 ((rd_T81 x3_1 x4_1).f0)):=hcc10 0 _ rfl;have hx10_1:w11.cell? ⟨go10,(x4_1:Int).toNat * 4 + 1,none⟩ = some (ve10_1):=hcc10 1 _ rfl;have hx10_2:w11.cell? ⟨go10,(x4_1:Int).toNat * 4 + 2,none⟩ = some (ve10_2):=hcc10 2 _ rfl;have hx10_3:w11.cell? ⟨go10,(x4_1:Int).toNat * 4 + 3,none⟩ = some (ve10_3):=hcc10 3 _ rfl;have hf10_0:w11.frozen? ⟨go10,(x4_1:Int).toNat * 4,none⟩ = false:=hfr10 0;have hf10_1:w11.frozen? ⟨go10,(x4_1:Int).toNat * 4 + 1,none⟩ = false:=hfr10 1;have hf10_2:w11.frozen? ⟨go10,(x4_1:Int).toNat * 4 + 2,none⟩ = false:=hfr10 2;have hf10_3:w11.frozen? ⟨go10,(x4_1:Int).toNat * 4 + 3,none⟩ = false:=hfr10 3;clear hcl10 hcc10 hfr10 hM10;replace p10:=eq_true p10;replace q10:=eq_true q10;have n_:=Aside0.mk (Kd.R_mono (ok':=(fun k_=>some k_ ≠ (v257:Value).ownBlock ∧ some k_ ≠ (v260:Value).ownBlock ∧ some k_ ≠ (v263:Value).ownBlock)) HO_3.out (fun k_ hk=>⟨hk.1.1.2,⟨hk.1.2,hk.2⟩⟩));clear HO_3;have HO_3:=n_;clear n_;have HX12:=Aside0.mk (show Kd.R k81 81 w11 w.heap.size (fun _=>True) (.slice (some ⟨go10,0,none⟩) x3_1.length co10) x3_1 from (by (with_reducible repeat (first|apply Kd.R_alloc|apply Kd.R_drewN|apply Kd.R_drew));exact Kd.R_mono HO_3.out (fun _ hk=>trivial)));obtain ⟨ce12,hcl12,hM12,hcc12,hfr12⟩:=Kd.R_elem HX12.out z81 (x4_1:Int) (of_decide_eq_true (by first|(with_reducible assumption)|assumption)) (by have h_:(x4_1:Int) < ((x3_1.length:Int):Int):=of_decide_eq_true (by first|(with_reducible assumption)|assumption);first|exact h_|(have e_:=(Kd.R_reads' HO_3.out).1;omega)|simpa using h_);obtain ⟨ve12_1,ve12_2,ve12_3,rfl,ge12_1,ge12_2,ge12_3⟩:=k81_openM hM12;have HP12:=Kd.R_seg HX12.out (x4_1:Int) (of_decide_eq_true (by first|(with_reducible assumption)|assumption)) (by have h_:(x4_1:Int) < ((x3_1.length:Int):Int):=of_decide_eq_true (by first|(with_reducible assumption)|assumption);first|exact h_|(have e_:=(Kd.R_reads' HO_3.out).1;omega)|simpa using h_) (seg:=[.int .i64 t255,v257,v260,v263]) (j:=0) hcl12 hcc12 (show 4 ≤ 4 from by decide) (x':=(⟨t255,t256,t259,t262⟩:S81)) (k81_mkM _ _ _ (⟨t255,t256,t259,t262⟩:S81) (Kd.R_mono (Kd.R_apart' (HO258.out) (Kd.R_typed HO_3.out) (by decide)) (fun k_ hk=>⟨trivial,fun e_=>(hk.2) (by rw [e_];rfl)⟩)) (Kd.R_mono (Kd.R_apart' (HO261.out) (Kd.R_typed HO_3.out) (by decide)) (fun k_ hk=>⟨trivial,fun e_=>(hk.2) (by rw [e_];rfl)⟩)) (Kd.R_mono (Kd.R_apart' ((Kd.S_R HO264.out)) (Kd.R_typed HO_3.out) (by decide)) (fun k_ hk=>⟨trivial,fun e_=>(hk.2) (by rw [e_];rfl)⟩))) (fun _ hk=>hk);have hx12_0:=hcc12 0 _ rfl;(try simp only [show (k81).sz = 4 from rfl,Nat.mul_one,Nat.add_zero] at hx12_0);have hf12_0:=hfr12 0;(try simp only [show (k81).sz = 4 from rfl,Nat.mul_one,Nat.add_zero] at hf12_0);have hx12_1:=hcc12 1 _ rfl;(try simp only [show (k81).sz = 4 from rfl,Nat.mul_one,Nat.add_zero] at hx12_1);have hf12_1:=hfr12 1;(try simp only [show (k81).sz = 4 from rfl,Nat.mul_one,Nat.add_zero] at hf12_1);have hx12_2:=hcc12 2 _ rfl;(try simp only [show (k81).sz = 4 from rfl,Nat.mul_one,Nat.add_zero] at hx12_2);have hf12_2:=hfr12 2;(try simp only [show (k81).sz = 4 from rfl,Nat.mul_one,Nat.add_zero] at hf12_2);have hx12_3:=hcc12 3 _ rfl;(try simp only [show (k81).sz = 4 from rfl,Nat.mul_one,Nat.add_zero] at hx12_3);have hf12_3:=hfr12 3;(try simp only [show (k81).sz = 4 from rfl,Nat.mul_one,Nat.add_zero] at hf12_3);clear hcl12 hcc12 hfr12 hM12)|((with_reducible refine gate_store (t:=81) (p:=21) rfl ?_);refine store_event (t:=81) (p:=21) (v:=?vo_w13) (w1:=((((w11.setCell ⟨go10,(x4_1:Int).toNat * 4,none⟩ (.int .i64 t255)).setCell ⟨go10,(x4_1:Int).toNat * 4 + 1,none⟩ (v257)).setCell ⟨go10,(x4_1:Int).toNat * 4 + 2,none⟩ (v260)).setCell ⟨go10,(x4_1:Int).toNat * 4 + 3,none⟩ (v263))) ?hg ?ho ?hn ?hr ?_;(case ho=>rfl);(case hg=>rfl);(case hn=>rfl);(case hr=>first|(go_simp;done)|(go_simp;rfl)|((try (obtain ⟨_,_,e_⟩:=Kd.R_slice (HO258.out);rw [e_];clear e_));(try (obtain ⟨_,_,e_⟩:=Kd.R_slice (HO261.out);rw [e_];clear e_));(try (obtain ⟨_,_,e_⟩:=Kd.R_slice ((Kd.S_R HO264.out));rw [e_];clear e_));first|(go_simp;done)|(go_simp;rfl)));intro w13 hw;have hg:w11.grownBy w13 (some go10):=(by rw [hw];exact HP12.2);have hp_:Kd.R k81 81 w13 w.heap.size (fun _=>True) (.slice (some ⟨go10,0,none⟩) x3_1.length co10) y265:=(by rw [hw,Ny265.out];exact HP12.1);clear HP12;have n0_:=Aside0.mk (hp_);have n1_:=Aside0.mk ((by rw [hw];exact below_set (below_set (below_set (below_set (HB.out) GB10.out) GB10.out) GB10.out) GB10.out:Below w.heap.size w w13));clear HO_3;clear HB;clear HO258;clear HO261;clear HO264;have HO_3:=n0_;have HB:=n1_;clear n0_ n1_;clear hg hw hp_))
        go_roundg k1
        case measure=>have:=HK1.out;omega
        case rel=>exact ⟨(y265),(wrap64 (x4_1 + 1)),(by first|rfl|(simp;done)|(simp [*];done)),H',⟨by have:=HK1.out;omega⟩,⟨by (with_reducible repeat (first|apply Kd.R_alloc|apply Kd.R_drewN|apply Kd.R_drew));exact HO_3.out⟩,⟨by repeat (first|(with_reducible first|exact HB.out|apply below_alloc|apply pw_below_drewN|apply below_drew1)|exact HB.out)⟩⟩
       ·rw [if_neg c9] at H
        exact absurd H (by simp)
      ·rw [if_neg c7] at H
       exact absurd H (by simp)
     ·rw [if_neg c6] at H
      have c6b0:decide (x4_1 < (l0.length:Int)) = false:=decide_eq_false c6
      clear c6
      obtain rfl:=Option.some.inj H
      go_wp2
      go_ret
      exact ⟨_,by first|rfl|(simp [errW_none,errW_some] <;> rfl)|(simp [*,errW_none,errW_some] <;> rfl),by (with_reducible repeat (first|apply Kd.R_alloc|apply Kd.R_drewN|apply Kd.R_drew));exact HO_3.out,by repeat (first|(with_reducible first|exact HB.out|apply below_alloc|apply pw_below_drewN|apply below_drew1)|exact HB.out)⟩
  ·rw [if_neg c3] at H
   exact absurd H (by simp)
 ·rw [if_neg c2] at H
  exact absurd H (by simp)

end Go.Proofs.Ytlgnanbnicmdaab.QFnExactInputsOf
