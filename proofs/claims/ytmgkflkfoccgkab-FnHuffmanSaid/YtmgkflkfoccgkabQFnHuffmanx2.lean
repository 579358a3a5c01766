-- Written by this session's own program (wip/x/xprint.py, over the kit's printer); Lean checks it.
import Derived.Test.YtmgkflkfoccgkabQFnHuffmanx0
import Derived.Test.YtmgkflkfoccgkabQFnHuffmanx1
namespace Go.Proofs.Ytmgkflkfoccgkab.QFnHuffman
open Go.RowKit Go.Proofs.YtmgkflkfoccgkabW.PrintWords Go.Proofs.YtmgkflkfoccgkabW.PrintLast Go.Proofs.YtmgkflkfoccgkabW.PrintMore
attribute [local go_sem] max2_int min2_int max_two min_two max_three min_three max_four min_four   -- for this text's walks alone
set_option linter.unusedVariables false
set_option linter.unusedSimpArgs false

/-! ### spec_LengthsOf: function 26, by a walk of this session's own -/
theorem l1put_end {w:World} {base:Nat} {v:Value} {r:List Int} (h:Kd.R (Kd.int .i64) 3 w base (fun _=>True) v r):∃ A' c',v = .slice A' r.length c' ∧ r.length ≤ c' ∧ Kd.F (Kd.int .i64) w (fun k_=>base ≤ k_) A' r.length r:=by
  obtain ⟨A',c',rfl⟩:=Kd.R_slice h
  exact ⟨A',c',rfl,(Kd.R_reads' h).2.1,Kd.N_F (Kd.R_N (Kd.R_mono (Kd.R_bound h) (fun _ hk=>hk.2.1)))⟩
set_option maxHeartbeats 8000000 in
set_option maxRecDepth 100000 in
theorem spec_l1Put.callsC (k:Nat) (A0:Option Addr) (c0:Nat) (l0:List Int) (a1:Int) (r:List Int) (w:World) (hr0:Kd.C (Kd.int .i64) w A0 l0.length l0) (hc0:l0.length ≤ c0) (h:spec_l1Put.f k l0 a1 = some r) :
    Calls Try.prog 63 #[.slice A0 l0.length c0,.int .i64 a1] w fun e w'=>∃ (A':Option Addr) (c':Nat),e = .returned (.slice A' r.length c') ∧ r.length ≤ c' ∧ ((A' = A0 ∧ c' = c0 ∧ r = l0) ∨ Kd.F (Kd.int .i64) w' (fun k_=>w.heap.size ≤ k_) A' r.length r) ∧ Below w.heap.size w w':=by
  have HR0:=Aside0.mk hr0
  have HC0:=Aside0.mk hc0
  clear hr0 hc0
  have HB:=Aside0.mk (Below.refl w.heap.size w)
  have H:(spec_l1Put.l0 k l0 a1 0) = some r:=h
  clear h
  have H':=Aside0.mk H
  clear H
  go_enter Try.func63,Try.ntmps63
  go_wp2
  go_loopg [5] k (fun kq v5 w'=>∃ (x5_1:Int),v5 = .int .i64 x5_1 ∧ Aside0 (spec_l1Put.l0 kq l0 a1 x5_1 = some r) ∧ Aside0 (kq ≤ k) ∧ Aside0 (Below w.heap.size w w'))
  case atStart=>exact ⟨(0),(by first|rfl|(simp;done)|(simp [*];done)),H',⟨Nat.le_refl _⟩,⟨by repeat (first|(with_reducible first|exact HB.out|apply below_alloc|apply pw_below_drewN|apply below_drew1)|exact HB.out)⟩⟩
  case round =>
    clear H'
    try clear p2
    obtain ⟨x5_1,rfl,HA,HK1,HB⟩:=hrel
    cases gk with
    | zero=>exact absurd HA.out (by simp [spec_l1Put.l0])
    | succ k1 =>
      have H:=HA.out
      clear HA
      simp only [spec_l1Put.l0] at H
      by_cases c3:x5_1 < (l0.length:Int)
      · rw [if_pos c3] at H
        have c3b0:decide (x5_1 < (l0.length:Int)) = true:=decide_eq_true c3
        clear c3
        by_cases c4:0 ≤ x5_1
        · rw [if_pos c4] at H
          have c4b0:decide (0 ≤ x5_1) = true:=decide_eq_true c4
          clear c4
          by_cases c5:(rd l0 x5_1) < a1
          · rw [if_pos c5] at H
            have c5b0:decide ((rd l0 x5_1) < a1) = true:=decide_eq_true c5
            clear c5
            have H':=Aside0.mk H
            clear H
            have p142:0 ≤ (x5_1:Int):=of_decide_eq_true (by first|(with_reducible assumption)|assumption)
            have q142:x5_1 < (l0.length:Int):=of_decide_eq_true (by first|(with_reducible assumption)|assumption)
            obtain ⟨ad142,e142,hx142_0⟩:=Kd.at_int (Kd.C_below HR0.out HB.out) x5_1 p142 q142
            cases e142
            replace p142:=eq_true p142
            replace q142:=eq_true q142
            go_wp2
            go_roundg k1
            case measure=>have:=HK1.out;omega
            case rel=>exact ⟨(wrap64 (x5_1 + 1)),(by first|rfl|(simp;done)|(simp [*];done)),H',⟨by have:=HK1.out;omega⟩,⟨by repeat (first|(with_reducible first|exact HB.out|apply below_alloc|apply pw_below_drewN|apply below_drew1)|exact HB.out)⟩⟩
          · rw [if_neg c5] at H
            have c5b0:decide ((rd l0 x5_1) < a1) = false:=decide_eq_false c5
            clear c5
            by_cases c7:(rd l0 x5_1) = a1
            · rw [if_pos c7] at H
              have c7b0:((rd l0 x5_1) == a1) = true:=beq_iff_eq.mpr c7
              have c7b1:((rd l0 x5_1) != a1) = false:=bne_eq_false_iff_eq.mpr c7
              clear c7
              obtain rfl:=Option.some.inj H
              have p142:0 ≤ (x5_1:Int):=of_decide_eq_true (by first|(with_reducible assumption)|assumption)
              have q142:x5_1 < (l0.length:Int):=of_decide_eq_true (by first|(with_reducible assumption)|assumption)
              obtain ⟨ad142,e142,hx142_0⟩:=Kd.at_int (Kd.C_below HR0.out HB.out) x5_1 p142 q142
              cases e142
              replace p142:=eq_true p142
              replace q142:=eq_true q142
              have p143:0 ≤ (x5_1:Int):=of_decide_eq_true (by first|(with_reducible assumption)|assumption)
              have q143:x5_1 < (l0.length:Int):=of_decide_eq_true (by first|(with_reducible assumption)|assumption)
              obtain ⟨ad143,e143,hx143_0⟩:=Kd.at_int (Kd.C_below HR0.out HB.out) x5_1 p143 q143
              obtain rfl:ad142 = ad143:=(by injection e143)
              replace p143:=eq_true p143
              replace q143:=eq_true q143
              go_wp2
              go_ret
              exact ⟨_,_,rfl,HC0.out,.inl (by simp),by repeat (first|(with_reducible first|exact HB.out|apply below_alloc|apply pw_below_drewN|apply below_drew1)|exact HB.out)⟩
            · rw [if_neg c7] at H
              have c7b0:((rd l0 x5_1) == a1) = false:=beq_eq_false_iff_ne.mpr c7
              have c7b1:((rd l0 x5_1) != a1) = true:=bne_iff_ne.mpr c7
              obtain ⟨y144,hy144⟩:∃ y_:List Int,y_ = (([]:List Int)):=⟨_,rfl⟩
              replace H:(if x5_1 ≤ (l0.length:Int) then ((some (l0.take (x5_1:Int).toNat:List Int)).bind fun y147=>(if y144.length + y147.length < 17592186044416 then ((some (y144 ++ y147:List Int)).bind fun y151=>(if y151.length < 17592186044416 then ((some (y151 ++ [a1]:List Int)).bind fun y154=>((some (l0.drop (x5_1:Int).toNat:List Int)).bind fun y157=>(if y154.length + y157.length < 17592186044416 then (some (y154 ++ y157)) else (none)))) else (none))) else (none))) else (none)) = some r:=by first|(rw [hy144];with_reducible exact H)|(have H2_:=(Option.bind_some _ _).symm.trans H;rw [hy144];with_reducible exact H2_)|(have H2_:=(Option.bind_some _ _).symm.trans H;with_reducible exact H2_)|with_reducible exact H|(rw [hy144];exact H)|exact H
              have Ny144:=Aside0.mk hy144
              clear hy144
              have c9b0:=eq_true (of_decide_eq_true (by first|(with_reducible assumption)|assumption):0 ≤ x5_1)
              by_cases c10:x5_1 ≤ (l0.length:Int)
              · rw [if_pos c10] at H
                have c10b0:=eq_true c10
                have c10b1:decide (x5_1 ≤ (l0.length:Int)) = true:=decide_eq_true c10
                clear c10
                obtain ⟨y147,hy147⟩:∃ y_:List Int,y_ = (l0.take (x5_1:Int).toNat):=⟨_,rfl⟩
                replace H:(if y144.length + y147.length < 17592186044416 then ((some (y144 ++ y147:List Int)).bind fun y151=>(if y151.length < 17592186044416 then ((some (y151 ++ [a1]:List Int)).bind fun y154=>((some (l0.drop (x5_1:Int).toNat:List Int)).bind fun y157=>(if y154.length + y157.length < 17592186044416 then (some (y154 ++ y157)) else (none)))) else (none))) else (none)) = some r:=by first|(rw [hy147];with_reducible exact H)|(have H2_:=(Option.bind_some _ _).symm.trans H;rw [hy147];with_reducible exact H2_)|(have H2_:=(Option.bind_some _ _).symm.trans H;with_reducible exact H2_)|with_reducible exact H|(rw [hy147];exact H)|exact H
                have Ny147:=Aside0.mk hy147
                clear hy147
                by_cases c11:y144.length + y147.length < 17592186044416
                · rw [if_pos c11] at H
                  have LMc11:=Aside0.mk c11
                  clear c11
                  obtain ⟨y151,hy151⟩:∃ y_:List Int,y_ = (y144 ++ y147):=⟨_,rfl⟩
                  replace H:(if y151.length < 17592186044416 then ((some (y151 ++ [a1]:List Int)).bind fun y154=>((some (l0.drop (x5_1:Int).toNat:List Int)).bind fun y157=>(if y154.length + y157.length < 17592186044416 then (some (y154 ++ y157)) else (none)))) else (none)) = some r:=by first|(rw [hy151];with_reducible exact H)|(have H2_:=(Option.bind_some _ _).symm.trans H;rw [hy151];with_reducible exact H2_)|(have H2_:=(Option.bind_some _ _).symm.trans H;with_reducible exact H2_)|with_reducible exact H|(rw [hy151];exact H)|exact H
                  have Ny151:=Aside0.mk hy151
                  clear hy151
                  by_cases c12:y151.length < 17592186044416
                  · rw [if_pos c12] at H
                    have LMc12:=Aside0.mk c12
                    clear c12
                    obtain ⟨y154,hy154⟩:∃ y_:List Int,y_ = (y151 ++ [a1]):=⟨_,rfl⟩
                    replace H:((some (l0.drop (x5_1:Int).toNat:List Int)).bind fun y157=>(if y154.length + y157.length < 17592186044416 then (some (y154 ++ y157)) else (none))) = some r:=by first|(rw [hy154];with_reducible exact H)|(have H2_:=(Option.bind_some _ _).symm.trans H;rw [hy154];with_reducible exact H2_)|(have H2_:=(Option.bind_some _ _).symm.trans H;with_reducible exact H2_)|with_reducible exact H|(rw [hy154];exact H)|exact H
                    have Ny154:=Aside0.mk hy154
                    clear hy154
                    have c13b0:=eq_true (of_decide_eq_true (by first|(with_reducible assumption)|assumption):0 ≤ x5_1)
                    have c14b0:=eq_true (of_decide_eq_true (by first|(with_reducible assumption)|assumption):x5_1 ≤ (l0.length:Int))
                    obtain ⟨y157,hy157⟩:∃ y_:List Int,y_ = (l0.drop (x5_1:Int).toNat):=⟨_,rfl⟩
                    replace H:(if y154.length + y157.length < 17592186044416 then (some (y154 ++ y157)) else (none)) = some r:=by first|(rw [hy157];with_reducible exact H)|(have H2_:=(Option.bind_some _ _).symm.trans H;rw [hy157];with_reducible exact H2_)|(have H2_:=(Option.bind_some _ _).symm.trans H;with_reducible exact H2_)|with_reducible exact H|(rw [hy157];exact H)|exact H
                    have Ny157:=Aside0.mk hy157
                    clear hy157
                    by_cases c15:y154.length + y157.length < 17592186044416
                    · rw [if_pos c15] at H
                      have LMc15:=Aside0.mk c15
                      clear c15
                      obtain ⟨y161,hy161⟩:∃ y_:List Int,y_ = (y154 ++ y157):=⟨_,rfl⟩
                      replace H:(some y161) = some r:=by first|(rw [hy161];with_reducible exact H)|(have H2_:=(Option.bind_some _ _).symm.trans H;rw [hy161];with_reducible exact H2_)|(have H2_:=(Option.bind_some _ _).symm.trans H;with_reducible exact H2_)|with_reducible exact H|(rw [hy161];exact H)|exact H
                      have Ny161:=Aside0.mk hy161
                      clear hy161
                      obtain rfl:=Option.some.inj H
                      have p142:0 ≤ (x5_1:Int):=of_decide_eq_true (by first|(with_reducible assumption)|assumption)
                      have q142:x5_1 < (l0.length:Int):=of_decide_eq_true (by first|(with_reducible assumption)|assumption)
                      obtain ⟨ad142,e142,hx142_0⟩:=Kd.at_int (Kd.C_below HR0.out HB.out) x5_1 p142 q142
                      cases e142
                      replace p142:=eq_true p142
                      replace q142:=eq_true q142
                      have p143:0 ≤ (x5_1:Int):=of_decide_eq_true (by first|(with_reducible assumption)|assumption)
                      have q143:x5_1 < (l0.length:Int):=of_decide_eq_true (by first|(with_reducible assumption)|assumption)
                      obtain ⟨ad143,e143,hx143_0⟩:=Kd.at_int (Kd.C_below HR0.out HB.out) x5_1 p143 q143
                      obtain rfl:ad142 = ad143:=(by injection e143)
                      replace p143:=eq_true p143
                      replace q143:=eq_true q143
                      go_wp2_with (first|((with_reducible refine gate_dst (N:=34) rfl ?_);refine Kd.R_lit (Kd.int .i64) _ 3 ?hg (N:=34) ?hd (xs:=([]:List Int)) (inner:=[]) (ok:=fun _=>True) (okp:=fun _=>True) ?hr ?hp (fun _ hk=>hk) trivial (Below.refl _ _) (Nat.le_refl _) (by simp) ?_;(case hd=>rfl);(case hg=>rfl);(case hr=>first|(go_simp;done)|(go_simp;rfl));(case hp=>exact (Reps.none _ _));intro v145 w17 ho18 hb hg_ hnew_;clear hg_ hnew_;(first|rw [← Ny144.out] at ho18|(simp only [Int.reduceToNat] at ho18;rw [← Ny144.out] at ho18));have HO146:=Aside0.mk (Kd.R_lower ho18 (below_size (by repeat (first|(with_reducible first|exact HB.out|apply below_alloc|apply pw_below_drewN|apply below_drew1)|exact HB.out))));have HBn:=Aside0.mk (below_step (by repeat (first|(with_reducible first|exact HB.out|apply below_alloc|apply pw_below_drewN|apply below_drew1)|exact HB.out)) hb);clear HB;have HB:=HBn;clear HBn hb ho18;have q19:(x5_1:Int) ≤ ((l0.length:Int):Int):=of_decide_eq_true (by first|(with_reducible assumption)|assumption);obtain ⟨i019,hi019,_,hsz19,_⟩:=info_parts info3;have hroom19:l0.length ≤ c0:=HC0.out;have hC19:Kd.C (Kd.int .i64) w (some ad142) l0.length l0:=HR0.out;have hcut19:=cut_to (P:=Try.prog) 41 3 .i64 Try.underlying41 hi019 (some ad142) l0.length c0 x5_1 (of_decide_eq_true (by first|(with_reducible assumption)|assumption)) q19 hroom19;have hr19:=Kd.C_take (m:=(x5_1:Int).toNat) hC19 (by omega);have hy19:y147.length = (x5_1:Int).toNat:=(by rw [Ny147.out,List.length_take];omega);rw [← Ny147.out] at hr19;rw [← hy19] at hcut19;have HR150:=Aside0.mk hr19;have HC150:=Aside0.mk (show y147.length ≤ c0 from by omega);clear hr19 hC19 hroom19 hi019 hsz19;have KY19:=Aside0.mk hy19;clear hy19;have KL19:=Aside0.mk (show (x5_1:Int).toNat ≤ l0.length from by omega);replace q19:=eq_true q19)|((with_reducible refine gate_builtin (b:=.append) (xs:=#[.tmp 34,.tmp 37]) rfl ?_);at_builtin;refine Kd.R_append_rows (Kd.int .i64) (w0:=w) w.heap.size rfl (.tmp 34) (.tmp 37) 41 3 (.int .i64 0) 8 rfl Try.underlying41 info3 rfl (by decide) (by first|decide|omega) v145 y144 y147 _ _ _ (fun _=>True) (fun _=>False) rfl rfl ?aO ?aR (fun _ _ h=>h) (fun _ h=>h.elim) ?aF ?aB ?aS ?aL ?_;(case aR=>exact (Kd.C_below HR150.out HB.out));(case aB=>exact (by repeat (first|(with_reducible first|exact HB.out|apply below_alloc|apply pw_below_drewN|apply below_drew1)|exact HB.out)));(case aF=>exact (fun _ _=>trivial));(case aO=>exact (by (with_reducible repeat (first|apply Kd.R_alloc|apply Kd.R_drewN|apply Kd.R_drew));exact HO146.out));(case aS=>exact (below_size (by repeat (first|(with_reducible first|exact HB.out|apply below_alloc|apply pw_below_drewN|apply below_drew1)|exact HB.out))));(case aL=>have:=LMc11.out;omega);intro v152 w20 ho hb hg hat;rw [← Ny151.out] at ho;have HO153:=Aside0.mk ho;clear HB;have HB:=Aside0.mk hb;clear ho hb hg hat)|((with_reducible refine gate_builtin (b:=.append) (xs:=#[.tmp 39,.tmp 41]) rfl ?_);at_builtin;refine Kd.R_append (Kd.int .i64) (w0:=w) w.heap.size rfl (.tmp 39) (.tmp 41) 41 3 (.int .i64 0) 8 rfl Try.underlying41 info3 rfl (by decide) (by first|decide|omega) v152 y151 a1 [.int .i64 a1] (fun _=>True) (fun _=>False) rfl rfl ?aP (fun _ hk=>hk.elim) ?aF ?aO ?aB ?aS ?aL ?_;(case aP=>exact rfl);(case aB=>exact (by repeat (first|(with_reducible first|exact HB.out|apply below_alloc|apply pw_below_drewN|apply below_drew1)|exact HB.out)));(case aF=>exact (fun _ _=>trivial));(case aO=>exact (by (with_reducible repeat (first|apply Kd.R_alloc|apply Kd.R_drewN|apply Kd.R_drew));exact HO153.out));(case aS=>exact (below_size (by repeat (first|(with_reducible first|exact HB.out|apply below_alloc|apply pw_below_drewN|apply below_drew1)|exact HB.out))));(case aL=>have:=LMc12.out;omega);intro v155 w21 ho hb hg hat;rw [← Ny154.out] at ho;have HO156:=Aside0.mk ho;clear HB;have HB:=Aside0.mk hb;clear ho hb hg hat;have q22:(x5_1:Int) ≤ ((l0.length:Int):Int):=of_decide_eq_true (by first|(with_reducible assumption)|assumption);obtain ⟨i022,hi022,_,hsz22,_⟩:=info_parts info3;have hroom22:l0.length ≤ c0:=HC0.out;have hC22:Kd.C (Kd.int .i64) w (some ad142) l0.length l0:=HR0.out;have q022:(0:Int) ≤ (x5_1:Int):=of_decide_eq_true (by first|(with_reducible assumption)|assumption);have hcut22:=cut_from (P:=Try.prog) 41 3 .i64 Try.underlying41 hi022 1 hsz22 (some ad142) l0.length c0 x5_1 q022 q22;have hr22:=Kd.C_drop (m:=(x5_1:Int).toNat) (c:=c0) hC22 (by omega) hroom22;obtain ⟨A22,hA22⟩:∃ A1_,A1_ = (if c0 = (x5_1:Int).toNat then (some ad142) else ((some ad142):Option Addr).map (·.add ((x5_1:Int).toNat * 1))):=⟨_,rfl⟩;obtain ⟨c22,hc22⟩:∃ c1_,c1_ = c0 - (x5_1:Int).toNat:=⟨_,rfl⟩;have hy22:y157.length = l0.length - (x5_1:Int).toNat:=(by rw [Ny157.out,List.length_drop] <;> omega);rw [show (l0).drop (x5_1:Int).toNat = y157 from Ny157.out.symm] at hr22;replace hr22:Kd.C (Kd.int .i64) w A22 y157.length y157:=(by rw [hA22];exact hr22);rw [← hy22,← hA22,← hc22] at hcut22;have HR160:=Aside0.mk hr22;have HC160:=Aside0.mk (show y157.length ≤ c22 from by rw [hy22,hc22];exact Nat.sub_le_sub_right hroom22 _);clear hr22 hC22 hroom22 hi022 hsz22 hc22;have KY22:=Aside0.mk hy22;have KA22:=Aside0.mk hA22;clear hy22 hA22;have KL22:=Aside0.mk (show (x5_1:Int).toNat ≤ l0.length from by omega);replace q22:=eq_true q22)|((with_reducible refine gate_builtin (b:=.append) (xs:=#[.tmp 43,.tmp 46]) rfl ?_);at_builtin;refine Kd.R_append_rows (Kd.int .i64) (w0:=w) w.heap.size rfl (.tmp 43) (.tmp 46) 41 3 (.int .i64 0) 8 rfl Try.underlying41 info3 rfl (by decide) (by first|decide|omega) v155 y154 y157 _ _ _ (fun _=>True) (fun _=>False) rfl rfl ?aO ?aR (fun _ _ h=>h) (fun _ h=>h.elim) ?aF ?aB ?aS ?aL ?_;(case aR=>exact (Kd.C_below HR160.out HB.out));(case aB=>exact (by repeat (first|(with_reducible first|exact HB.out|apply below_alloc|apply pw_below_drewN|apply below_drew1)|exact HB.out)));(case aF=>exact (fun _ _=>trivial));(case aO=>exact (by (with_reducible repeat (first|apply Kd.R_alloc|apply Kd.R_drewN|apply Kd.R_drew));exact HO156.out));(case aS=>exact (below_size (by repeat (first|(with_reducible first|exact HB.out|apply below_alloc|apply pw_below_drewN|apply below_drew1)|exact HB.out))));(case aL=>have:=LMc15.out;omega);intro v162 w23 ho hb hg hat;rw [← Ny161.out] at ho;have HO163:=Aside0.mk ho;clear HB;have HB:=Aside0.mk hb;clear ho hb hg hat))
                      obtain ⟨A_,c_,e_,l_,g_⟩:=l1put_end HO163.out
                      subst e_
                      go_ret
                      exact ⟨_,_,rfl,l_,.inr (by (with_reducible repeat (first|apply Kd.F_alloc|apply Kd.F_drewN|apply Kd.F_drew));exact g_),by repeat (first|(with_reducible first|exact HB.out|apply below_alloc|apply pw_below_drewN|apply below_drew1)|exact HB.out)⟩
                    · rw [if_neg c15] at H
                      exact absurd H (by simp)
                  · rw [if_neg c12] at H
                    exact absurd H (by simp)
                · rw [if_neg c11] at H
                  exact absurd H (by simp)
              · rw [if_neg c10] at H
                exact absurd H (by simp)
        · rw [if_neg c4] at H
          exact absurd H (by simp)
      · rw [if_neg c3] at H
        have c3b0:decide (x5_1 < (l0.length:Int)) = false:=decide_eq_false c3
        clear c3
        obtain ⟨y164,hy164⟩:∃ y_:List Int,y_ = (([]:List Int)):=⟨_,rfl⟩
        replace H:(if 0 ≤ x5_1 then (if x5_1 ≤ (l0.length:Int) then ((some (l0.take (x5_1:Int).toNat:List Int)).bind fun y167=>(if y164.length + y167.length < 17592186044416 then ((some (y164 ++ y167:List Int)).bind fun y171=>(if y171.length < 17592186044416 then ((some (y171 ++ [a1]:List Int)).bind fun y174=>((some (l0.drop (x5_1:Int).toNat:List Int)).bind fun y177=>(if y174.length + y177.length < 17592186044416 then (some (y174 ++ y177)) else (none)))) else (none))) else (none))) else (none)) else (none)) = some r:=by first|(rw [hy164];with_reducible exact H)|(have H2_:=(Option.bind_some _ _).symm.trans H;rw [hy164];with_reducible exact H2_)|(have H2_:=(Option.bind_some _ _).symm.trans H;with_reducible exact H2_)|with_reducible exact H|(rw [hy164];exact H)|exact H
        have Ny164:=Aside0.mk hy164
        clear hy164
        by_cases c24:0 ≤ x5_1
        · rw [if_pos c24] at H
          have c24b0:=eq_true c24
          have c24b1:decide (0 ≤ x5_1) = true:=decide_eq_true c24
          clear c24
          by_cases c25:x5_1 ≤ (l0.length:Int)
          · rw [if_pos c25] at H
            have c25b0:=eq_true c25
            have c25b1:decide (x5_1 ≤ (l0.length:Int)) = true:=decide_eq_true c25
            clear c25
            obtain ⟨y167,hy167⟩:∃ y_:List Int,y_ = (l0.take (x5_1:Int).toNat):=⟨_,rfl⟩
            replace H:(if y164.length + y167.length < 17592186044416 then ((some (y164 ++ y167:List Int)).bind fun y171=>(if y171.length < 17592186044416 then ((some (y171 ++ [a1]:List Int)).bind fun y174=>((some (l0.drop (x5_1:Int).toNat:List Int)).bind fun y177=>(if y174.length + y177.length < 17592186044416 then (some (y174 ++ y177)) else (none)))) else (none))) else (none)) = some r:=by first|(rw [hy167];with_reducible exact H)|(have H2_:=(Option.bind_some _ _).symm.trans H;rw [hy167];with_reducible exact H2_)|(have H2_:=(Option.bind_some _ _).symm.trans H;with_reducible exact H2_)|with_reducible exact H|(rw [hy167];exact H)|exact H
            have Ny167:=Aside0.mk hy167
            clear hy167
            by_cases c26:y164.length + y167.length < 17592186044416
            · rw [if_pos c26] at H
              have LMc26:=Aside0.mk c26
              clear c26
              obtain ⟨y171,hy171⟩:∃ y_:List Int,y_ = (y164 ++ y167):=⟨_,rfl⟩
              replace H:(if y171.length < 17592186044416 then ((some (y171 ++ [a1]:List Int)).bind fun y174=>((some (l0.drop (x5_1:Int).toNat:List Int)).bind fun y177=>(if y174.length + y177.length < 17592186044416 then (some (y174 ++ y177)) else (none)))) else (none)) = some r:=by first|(rw [hy171];with_reducible exact H)|(have H2_:=(Option.bind_some _ _).symm.trans H;rw [hy171];with_reducible exact H2_)|(have H2_:=(Option.bind_some _ _).symm.trans H;with_reducible exact H2_)|with_reducible exact H|(rw [hy171];exact H)|exact H
              have Ny171:=Aside0.mk hy171
              clear hy171
              by_cases c27:y171.length < 17592186044416
              · rw [if_pos c27] at H
                have LMc27:=Aside0.mk c27
                clear c27
                obtain ⟨y174,hy174⟩:∃ y_:List Int,y_ = (y171 ++ [a1]):=⟨_,rfl⟩
                replace H:((some (l0.drop (x5_1:Int).toNat:List Int)).bind fun y177=>(if y174.length + y177.length < 17592186044416 then (some (y174 ++ y177)) else (none))) = some r:=by first|(rw [hy174];with_reducible exact H)|(have H2_:=(Option.bind_some _ _).symm.trans H;rw [hy174];with_reducible exact H2_)|(have H2_:=(Option.bind_some _ _).symm.trans H;with_reducible exact H2_)|with_reducible exact H|(rw [hy174];exact H)|exact H
                have Ny174:=Aside0.mk hy174
                clear hy174
                have c28b0:=eq_true (of_decide_eq_true (by first|(with_reducible assumption)|assumption):0 ≤ x5_1)
                have c29b0:=eq_true (of_decide_eq_true (by first|(with_reducible assumption)|assumption):x5_1 ≤ (l0.length:Int))
                obtain ⟨y177,hy177⟩:∃ y_:List Int,y_ = (l0.drop (x5_1:Int).toNat):=⟨_,rfl⟩
                replace H:(if y174.length + y177.length < 17592186044416 then (some (y174 ++ y177)) else (none)) = some r:=by first|(rw [hy177];with_reducible exact H)|(have H2_:=(Option.bind_some _ _).symm.trans H;rw [hy177];with_reducible exact H2_)|(have H2_:=(Option.bind_some _ _).symm.trans H;with_reducible exact H2_)|with_reducible exact H|(rw [hy177];exact H)|exact H
                have Ny177:=Aside0.mk hy177
                clear hy177
                by_cases c30:y174.length + y177.length < 17592186044416
                · rw [if_pos c30] at H
                  have LMc30:=Aside0.mk c30
                  clear c30
                  obtain ⟨y181,hy181⟩:∃ y_:List Int,y_ = (y174 ++ y177):=⟨_,rfl⟩
                  replace H:(some y181) = some r:=by first|(rw [hy181];with_reducible exact H)|(have H2_:=(Option.bind_some _ _).symm.trans H;rw [hy181];with_reducible exact H2_)|(have H2_:=(Option.bind_some _ _).symm.trans H;with_reducible exact H2_)|with_reducible exact H|(rw [hy181];exact H)|exact H
                  have Ny181:=Aside0.mk hy181
                  clear hy181
                  obtain rfl:=Option.some.inj H
                  go_wp2_with (first|((with_reducible refine gate_dst (N:=34) rfl ?_);refine Kd.R_lit (Kd.int .i64) _ 3 ?hg (N:=34) ?hd (xs:=([]:List Int)) (inner:=[]) (ok:=fun _=>True) (okp:=fun _=>True) ?hr ?hp (fun _ hk=>hk) trivial (Below.refl _ _) (Nat.le_refl _) (by simp) ?_;(case hd=>rfl);(case hg=>rfl);(case hr=>first|(go_simp;done)|(go_simp;rfl));(case hp=>exact (Reps.none _ _));intro v165 w32 ho33 hb hg_ hnew_;clear hg_ hnew_;(first|rw [← Ny164.out] at ho33|(simp only [Int.reduceToNat] at ho33;rw [← Ny164.out] at ho33));have HO166:=Aside0.mk (Kd.R_lower ho33 (below_size (by repeat (first|(with_reducible first|exact HB.out|apply below_alloc|apply pw_below_drewN|apply below_drew1)|exact HB.out))));have HBn:=Aside0.mk (below_step (by repeat (first|(with_reducible first|exact HB.out|apply below_alloc|apply pw_below_drewN|apply below_drew1)|exact HB.out)) hb);clear HB;have HB:=HBn;clear HBn hb ho33;have q34:(x5_1:Int) ≤ ((l0.length:Int):Int):=of_decide_eq_true (by first|(with_reducible assumption)|assumption);obtain ⟨i034,hi034,_,hsz34,_⟩:=info_parts info3;have hroom34:l0.length ≤ c0:=HC0.out;have hC34:Kd.C (Kd.int .i64) w A0 l0.length l0:=HR0.out;have hcut34:=cut_to (P:=Try.prog) 41 3 .i64 Try.underlying41 hi034 A0 l0.length c0 x5_1 (of_decide_eq_true (by first|(with_reducible assumption)|assumption)) q34 hroom34;have hr34:=Kd.C_take (m:=(x5_1:Int).toNat) hC34 (by omega);have hy34:y167.length = (x5_1:Int).toNat:=(by rw [Ny167.out,List.length_take];omega);rw [← Ny167.out] at hr34;rw [← hy34] at hcut34;have HR170:=Aside0.mk hr34;have HC170:=Aside0.mk (show y167.length ≤ c0 from by omega);clear hr34 hC34 hroom34 hi034 hsz34;have KY34:=Aside0.mk hy34;clear hy34;have KL34:=Aside0.mk (show (x5_1:Int).toNat ≤ l0.length from by omega);replace q34:=eq_true q34)|((with_reducible refine gate_builtin (b:=.append) (xs:=#[.tmp 34,.tmp 37]) rfl ?_);at_builtin;refine Kd.R_append_rows (Kd.int .i64) (w0:=w) w.heap.size rfl (.tmp 34) (.tmp 37) 41 3 (.int .i64 0) 8 rfl Try.underlying41 info3 rfl (by decide) (by first|decide|omega) v165 y164 y167 _ _ _ (fun _=>True) (fun _=>False) rfl rfl ?aO ?aR (fun _ _ h=>h) (fun _ h=>h.elim) ?aF ?aB ?aS ?aL ?_;(case aR=>exact (Kd.C_below HR170.out HB.out));(case aB=>exact (by repeat (first|(with_reducible first|exact HB.out|apply below_alloc|apply pw_below_drewN|apply below_drew1)|exact HB.out)));(case aF=>exact (fun _ _=>trivial));(case aO=>exact (by (with_reducible repeat (first|apply Kd.R_alloc|apply Kd.R_drewN|apply Kd.R_drew));exact HO166.out));(case aS=>exact (below_size (by repeat (first|(with_reducible first|exact HB.out|apply below_alloc|apply pw_below_drewN|apply below_drew1)|exact HB.out))));(case aL=>have:=LMc26.out;omega);intro v172 w35 ho hb hg hat;rw [← Ny171.out] at ho;have HO173:=Aside0.mk ho;clear HB;have HB:=Aside0.mk hb;clear ho hb hg hat)|((with_reducible refine gate_builtin (b:=.append) (xs:=#[.tmp 39,.tmp 41]) rfl ?_);at_builtin;refine Kd.R_append (Kd.int .i64) (w0:=w) w.heap.size rfl (.tmp 39) (.tmp 41) 41 3 (.int .i64 0) 8 rfl Try.underlying41 info3 rfl (by decide) (by first|decide|omega) v172 y171 a1 [.int .i64 a1] (fun _=>True) (fun _=>False) rfl rfl ?aP (fun _ hk=>hk.elim) ?aF ?aO ?aB ?aS ?aL ?_;(case aP=>exact rfl);(case aB=>exact (by repeat (first|(with_reducible first|exact HB.out|apply below_alloc|apply pw_below_drewN|apply below_drew1)|exact HB.out)));(case aF=>exact (fun _ _=>trivial));(case aO=>exact (by (with_reducible repeat (first|apply Kd.R_alloc|apply Kd.R_drewN|apply Kd.R_drew));exact HO173.out));(case aS=>exact (below_size (by repeat (first|(with_reducible first|exact HB.out|apply below_alloc|apply pw_below_drewN|apply below_drew1)|exact HB.out))));(case aL=>have:=LMc27.out;omega);intro v175 w36 ho hb hg hat;rw [← Ny174.out] at ho;have HO176:=Aside0.mk ho;clear HB;have HB:=Aside0.mk hb;clear ho hb hg hat;have q37:(x5_1:Int) ≤ ((l0.length:Int):Int):=of_decide_eq_true (by first|(with_reducible assumption)|assumption);obtain ⟨i037,hi037,_,hsz37,_⟩:=info_parts info3;have hroom37:l0.length ≤ c0:=HC0.out;have hC37:Kd.C (Kd.int .i64) w A0 l0.length l0:=HR0.out;have q037:(0:Int) ≤ (x5_1:Int):=of_decide_eq_true (by first|(with_reducible assumption)|assumption);have hcut37:=cut_from (P:=Try.prog) 41 3 .i64 Try.underlying41 hi037 1 hsz37 A0 l0.length c0 x5_1 q037 q37;have hr37:=Kd.C_drop (m:=(x5_1:Int).toNat) (c:=c0) hC37 (by omega) hroom37;obtain ⟨A37,hA37⟩:∃ A1_,A1_ = (if c0 = (x5_1:Int).toNat then A0 else (A0:Option Addr).map (·.add ((x5_1:Int).toNat * 1))):=⟨_,rfl⟩;obtain ⟨c37,hc37⟩:∃ c1_,c1_ = c0 - (x5_1:Int).toNat:=⟨_,rfl⟩;have hy37:y177.length = l0.length - (x5_1:Int).toNat:=(by rw [Ny177.out,List.length_drop] <;> omega);rw [show (l0).drop (x5_1:Int).toNat = y177 from Ny177.out.symm] at hr37;replace hr37:Kd.C (Kd.int .i64) w A37 y177.length y177:=(by rw [hA37];exact hr37);rw [← hy37,← hA37,← hc37] at hcut37;have HR180:=Aside0.mk hr37;have HC180:=Aside0.mk (show y177.length ≤ c37 from by rw [hy37,hc37];exact Nat.sub_le_sub_right hroom37 _);clear hr37 hC37 hroom37 hi037 hsz37 hc37;have KY37:=Aside0.mk hy37;have KA37:=Aside0.mk hA37;clear hy37 hA37;have KL37:=Aside0.mk (show (x5_1:Int).toNat ≤ l0.length from by omega);replace q37:=eq_true q37)|((with_reducible refine gate_builtin (b:=.append) (xs:=#[.tmp 43,.tmp 46]) rfl ?_);at_builtin;refine Kd.R_append_rows (Kd.int .i64) (w0:=w) w.heap.size rfl (.tmp 43) (.tmp 46) 41 3 (.int .i64 0) 8 rfl Try.underlying41 info3 rfl (by decide) (by first|decide|omega) v175 y174 y177 _ _ _ (fun _=>True) (fun _=>False) rfl rfl ?aO ?aR (fun _ _ h=>h) (fun _ h=>h.elim) ?aF ?aB ?aS ?aL ?_;(case aR=>exact (Kd.C_below HR180.out HB.out));(case aB=>exact (by repeat (first|(with_reducible first|exact HB.out|apply below_alloc|apply pw_below_drewN|apply below_drew1)|exact HB.out)));(case aF=>exact (fun _ _=>trivial));(case aO=>exact (by (with_reducible repeat (first|apply Kd.R_alloc|apply Kd.R_drewN|apply Kd.R_drew));exact HO176.out));(case aS=>exact (below_size (by repeat (first|(with_reducible first|exact HB.out|apply below_alloc|apply pw_below_drewN|apply below_drew1)|exact HB.out))));(case aL=>have:=LMc30.out;omega);intro v182 w38 ho hb hg hat;rw [← Ny181.out] at ho;have HO183:=Aside0.mk ho;clear HB;have HB:=Aside0.mk hb;clear ho hb hg hat))
                  obtain ⟨A_,c_,e_,l_,g_⟩:=l1put_end HO183.out
                  subst e_
                  go_ret
                  exact ⟨_,_,rfl,l_,.inr (by (with_reducible repeat (first|apply Kd.F_alloc|apply Kd.F_drewN|apply Kd.F_drew));exact g_),by repeat (first|(with_reducible first|exact HB.out|apply below_alloc|apply pw_below_drewN|apply below_drew1)|exact HB.out)⟩
                · rw [if_neg c30] at H
                  exact absurd H (by simp)
              · rw [if_neg c27] at H
                exact absurd H (by simp)
            · rw [if_neg c26] at H
              exact absurd H (by simp)
          · rw [if_neg c25] at H
            exact absurd H (by simp)
        · rw [if_neg c24] at H
          exact absurd H (by simp)
def lbest (l:List S78):Nat → Nat → Nat → Option Nat
  | 0,_,b=>some b
  | m + 1,j,b=>(spec_l11Less.f (rd_T78 l (j:Int)).f0 (rd_T78 l (j:Int)).f1 (rd_T78 l (b:Int)).f0 (rd_T78 l (b:Int)).f1).bind fun c=>lbest l m (j + 1) (if c = true then j else b)
def spec_l11Least.f (l:List S78):Option (S78 × List S78):=if l.length ≤ 1048576 ∧ 0 < l.length then (lbest l l.length 0 0).bind fun b=>some (rd_T78 l (b:Int),l.take b ++ l.drop (b + 1)) else none
set_option maxHeartbeats 16000000 in
set_option maxRecDepth 1000000 in
theorem spec_l11Least.calls (ok:Nat → Prop) (A0:Option Addr) (c0:Nat) (l0:List S78) (r:S78 × List S78) (w:World) (hr0:Kd.F k78 w ok A0 l0.length l0) (hc0:l0.length ≤ c0) (h:spec_l11Least.f l0 = some r) :
    Calls Try.prog 62 #[.slice A0 l0.length c0] w fun e w'=>∃ (B:Option Addr) (d:Nat) (v:Value),e = .returned (.tuple #[.agg #[.int .i64 r.1.f0,.slice B r.1.f1.length d],v]) ∧ r.1.f1.length ≤ d ∧ Kd.F (Kd.int .i64) w' ok B r.1.f1.length r.1.f1 ∧ Kd.N k78 78 w' w.heap.size (fun k_=>ok k_ ∨ w.heap.size ≤ k_) v r.2 ∧ Below w.heap.size w w':=by
  unfold spec_l11Least.f at h
  split at h
  rotate_left
  · cases h
  rename_i hn
  obtain ⟨bb,hbb,h⟩:=Option.bind_eq_some_iff.1 h
  obtain rfl:=Option.some.inj h
  have HF:=Aside0.mk hr0
  have HC0:=Aside0.mk hc0
  have HL:=Aside0.mk hbb
  have hnb:l0.length ≤ 1048576:=hn.1
  have hn0:0 < l0.length:=hn.2
  have HB:=Aside0.mk (Below.refl w.heap.size w)
  clear h hr0 hc0 hbb hn
  go_enter Try.func62,Try.ntmps62
  go_wp2_with ((with_reducible refine gate_dst (N:=2) rfl ?_);refine box_event ?hg (N:=2) ?hd (cs:=#[.int .i64 0,.slice none 0 0]) (t:=78) ?hr ?_;(case hd=>rfl);(case hg=>rfl);(case hr=>first|(go_simp;done)|(go_simp;rfl));intro g hg_s W1 hx_s hb_s;have HGE:=Aside0.mk (Nat.le_of_eq hg_s.symm);have HX:=Aside0.mk hx_s;have HBn:=Aside0.mk (below_step HB.out hb_s);clear HB;have HB:=HBn;clear HBn hg_s hb_s hx_s)
  go_loopw [4,9] (fun v4 v9 wr=>∃ (j b:Nat),j ≤ l0.length ∧ b < l0.length ∧ v4 = .int .i64 b ∧ v9 = .int .i64 j ∧ Hid (lbest l0 (l0.length - j) j b = some bb) ∧ Hid (wr.heap[g]? = some (.cells #[.int .i64 0,.slice none 0 0] 78 (0,0))) ∧ Hid (Below w.heap.size w wr)) (fun _ v9 _=>l0.length - (intOf v9).toNat)
  case atStart=>exact ⟨0,0,Nat.zero_le _,hn0,rfl,rfl,HL.out,HX.out,HB.out⟩
  case round =>
    clear HL HX HB
    obtain ⟨j,b,hj,hb,rfl,rfl,hl,hX,hB⟩:=hrel
    unfold Hid at hl hX hB
    by_cases hp:j < l0.length
    · obtain ⟨ad,L1,e1,eA,q0,q1,z1,i1⟩:=at_T78 (Kd.F_now HF.out) (j:Int) (by omega) (by omega)
      obtain ⟨ad2,M1,f1,eB,p0,p1,y1,g1⟩:=at_T78 (Kd.F_now HF.out) (b:Int) (by omega) (by omega)
      subst eA
      obtain rfl:ad = ad2:=by injection eB
      clear eB
      rw [Int.toNat_natCast] at q0 q1 p0 p1
      rw [show l0.length - j = (l0.length - (j + 1)) + 1 by omega] at hl
      simp only [lbest] at hl
      obtain ⟨c,hc,hl⟩:=Option.bind_eq_some_iff.1 hl
      generalize rd_T78 l0 (j:Int) = x at hc q0 q1 z1 i1
      generalize rd_T78 l0 (b:Int) = y at hc p0 p1 y1 g1
      replace q0:=(hB.cell (World.block_lt_of_cell? w _ q0)).trans q0
      replace q1:=(hB.cell (World.block_lt_of_cell? w _ q1)).trans q1
      replace p0:=(hB.cell (World.block_lt_of_cell? w _ p0)).trans p0
      replace p1:=(hB.cell (World.block_lt_of_cell? w _ p1)).trans p1
      have I1:=Aside0.mk i1
      have G1:=Aside0.mk g1
      have HCL:=Aside0.mk hc
      have HL:=Aside0.mk hl
      have HX:=Aside0.mk hX
      have HB:=Aside0.mk hB
      clear hl hX hB i1 g1 hc
      have t1:=eq_true (show (0:Int) ≤ (j:Int) by omega)
      have t2:=eq_true (show (j:Int) < (l0.length:Int) by omega)
      have t3:=eq_true (show (0:Int) ≤ (b:Int) by omega)
      have t4:=eq_true (show (b:Int) < (l0.length:Int) by omega)
      have t5:=eq_true hp
      have t6:=eq_true hb
      go_upto_region 5 with fail
      have hd0:Below wr.heap.size wr wr.drew:=below_drew1 (Below.refl _ _)
      replace q0:=(hd0.cell (World.block_lt_of_cell? _ _ q0)).trans q0
      replace q1:=(hd0.cell (World.block_lt_of_cell? _ _ q1)).trans q1
      replace p0:=(hd0.cell (World.block_lt_of_cell? _ _ p0)).trans p0
      replace p1:=(hd0.cell (World.block_lt_of_cell? _ _ p1)).trans p1
      replace HX:=Aside0.mk ((hd0.block g (blk_lt HX.out)).trans HX.out)
      replace HB:=Aside0.mk (below_step HB.out hd0)
      clear hd0
      refine start_ (n:=9) (S:=fun w'=>w'.cell? (ad.add (j * 2)) = some (.int .i64 x.f0) ∧ w'.cell? ⟨(ad.add (j * 2)).block,(ad.add (j * 2)).off + 1,none⟩ = some (.slice L1 x.f1.length e1) ∧ w'.cell? (ad.add (b * 2)) = some (.int .i64 y.f0) ∧ w'.cell? ⟨(ad.add (b * 2)).block,(ad.add (b * 2)).off + 1,none⟩ = some (.slice M1 y.f1.length f1)) (ds:=[]) #[false,false,false,false,false,false,false,false,false] (by kernel_rfl) rfl rfl ⟨q0,q1,p0,p1⟩ (fun hHeld=>?_)
      generalize wr.drew = W4 at q0 q1 p0 p1 HX HB hHeld ⊢
      refine pure_ (i:=0) (N:=(some 12)) (v:=?_) (a':=?_) #[true,false,false,false,false,false,false,false,false] rfl rfl (by kernel_rfl) (fun _ _ _ h=>h) (Or.inl ⟨by rfl,?_⟩) ?_ ?_
      rotate_left
      · intro w'
        go_simp
        with_reducible rfl
      rotate_left
      · simp only [Act.put,List.setIfInBounds_toArray,List.set_cons_zero,List.set_cons_succ,i64_w,i32_w]
        rfl
      refine pure_ (i:=1) (N:=(some 13)) (v:=?_) (a':=?_) #[true,true,false,false,false,false,false,false,false] rfl rfl (by kernel_rfl) (fun _ _ _ h=>h) (Or.inl ⟨by rfl,?_⟩) ?_ ?_
      rotate_left
      · intro w'
        go_simp
        with_reducible rfl
      rotate_left
      · simp only [Act.put,List.setIfInBounds_toArray,List.set_cons_zero,List.set_cons_succ,i64_w,i32_w]
        rfl
      refine pure_ (i:=2) (N:=(some 14)) (v:=?_) (a':=?_) #[true,true,true,false,false,false,false,false,false] rfl rfl (by kernel_rfl) (fun _ _ _ h=>h) (Or.inl ⟨by rfl,?_⟩) ?_ ?_
      rotate_left
      · intro w'
        go_simp
        with_reducible rfl
      rotate_left
      · simp only [Act.put,List.setIfInBounds_toArray,List.set_cons_zero,List.set_cons_succ,i64_w,i32_w]
        rfl
      refine take_ (i:=3) (N:=(some 15)) (v:=?_) (a':=?_) #[true,true,true,true,false,false,false,false,false] rfl rfl (by kernel_rfl) (fun _ _ _ h=>h) (Or.inl ⟨by rfl,?_⟩) hHeld ?_ ?_
      rotate_left
      · intro w' ⟨s0,s1,s2,s3⟩
        go_simp
        with_reducible rfl
      rotate_left
      · simp only [Act.put,List.setIfInBounds_toArray,List.set_cons_zero,List.set_cons_succ,i64_w,i32_w]
        rfl
      refine pure_ (i:=4) (N:=(some 16)) (v:=?_) (a':=?_) #[true,true,true,true,true,false,false,false,false] rfl rfl (by kernel_rfl) (fun _ _ _ h=>h) (Or.inl ⟨by rfl,?_⟩) ?_ ?_
      rotate_left
      · intro w'
        go_simp
        with_reducible rfl
      rotate_left
      · simp only [Act.put,List.setIfInBounds_toArray,List.set_cons_zero,List.set_cons_succ,i64_w,i32_w]
        rfl
      refine pure_ (i:=5) (N:=(some 17)) (v:=?_) (a':=?_) #[true,true,true,true,true,true,false,false,false] rfl rfl (by kernel_rfl) (fun _ _ _ h=>h) (Or.inl ⟨by rfl,?_⟩) ?_ ?_
      rotate_left
      · intro w'
        go_simp
        with_reducible rfl
      rotate_left
      · simp only [Act.put,List.setIfInBounds_toArray,List.set_cons_zero,List.set_cons_succ,i64_w,i32_w]
        rfl
      refine pure_ (i:=6) (N:=(some 18)) (v:=?_) (a':=?_) #[true,true,true,true,true,true,true,false,false] rfl rfl (by kernel_rfl) (fun _ _ _ h=>h) (Or.inl ⟨by rfl,?_⟩) ?_ ?_
      rotate_left
      · intro w'
        go_simp
        with_reducible rfl
      rotate_left
      · simp only [Act.put,List.setIfInBounds_toArray,List.set_cons_zero,List.set_cons_succ,i64_w,i32_w]
        rfl
      refine take_ (i:=7) (N:=(some 19)) (v:=?_) (a':=?_) #[true,true,true,true,true,true,true,true,false] rfl rfl (by kernel_rfl) (fun _ _ _ h=>h) (Or.inl ⟨by rfl,?_⟩) hHeld ?_ ?_
      rotate_left
      · intro w' ⟨s0,s1,s2,s3⟩
        go_simp
        with_reducible rfl
      rotate_left
      · simp only [Act.put,List.setIfInBounds_toArray,List.set_cons_zero,List.set_cons_succ,i64_w,i32_w]
        rfl
      refine one_ (i:=8) (N:=(some 20)) #[true,true,true,true,true,true,true,true,true] rfl rfl (by kernel_rfl) (by decide) (fun K hK=>?_)
      refine goes_ Try.func91 (by kernel_rfl) rfl #[.agg #[.int .i64 x.f0,.slice L1 x.f1.length e1],.agg #[.int .i64 y.f0,.slice M1 y.f1.length f1]] (by rfl) rfl rfl (by (try simp only [List.map_toArray,List.map_cons,List.map_nil]);first|done|rfl) ?_
      refine (spec_l11Less.calls x.f0 L1 e1 x.f1 y.f0 M1 f1 y.f1 c W4 (Kd.C_below I1.out HB.out) z1 (Kd.C_below G1.out HB.out) y1 HCL.out).mono ?_
      rintro e_ W5 ⟨rfl,hd⟩
      refine ⟨_,rfl,?_⟩
      replace q0:=(hd.cell (World.block_lt_of_cell? _ _ q0)).trans q0
      replace q1:=(hd.cell (World.block_lt_of_cell? _ _ q1)).trans q1
      replace p0:=(hd.cell (World.block_lt_of_cell? _ _ p0)).trans p0
      replace p1:=(hd.cell (World.block_lt_of_cell? _ _ p1)).trans p1
      replace HX:=Aside0.mk ((hd.block g (blk_lt HX.out)).trans HX.out)
      replace HB:=Aside0.mk (below_step HB.out hd)
      clear hd
      refine hK.out _ _ ⟨q0,q1,p0,p1⟩ (fun hHeld=>?_)
      clear hK K hHeld
      refine norm_ (a':=?_) ?_ ?_
      rotate_left
      · show Act.put _ (some 20) _ = _
        simp only [Act.put,List.setIfInBounds_toArray,List.set_cons_zero,List.set_cons_succ,i64_w,i32_w]
        rfl
      refine done_ (by kernel_rfl) ?_
      cases c with
      | true =>
        go_wp2
        go_roundw
        case rel=>exact ⟨j + 1,j,hp,hp,rfl,rfl,by have:=HL.out;unfold Hid;simpa using this,HX.out,HB.out⟩
        case measure=>simp [intOf];omega
      | false =>
        go_wp2
        go_roundw
        case rel=>exact ⟨j + 1,b,hp,hb,rfl,rfl,by have:=HL.out;unfold Hid;simpa using this,HX.out,HB.out⟩
        case measure=>simp [intOf];omega
    · obtain rfl:j = l0.length:=by omega
      rw [Nat.sub_self] at hl
      simp only [lbest,Option.some.injEq] at hl
      subst hl
      obtain ⟨ad,cc,eB,hcl,hFK,hcc,hbk⟩:=Kd.F_get HF.out z78 (b:Int) (by omega) (by omega)
      obtain ⟨M1,f1,rfl,y1,g1⟩:=k78_openF hFK
      have hc2:∀ q u,([.int .i64 (rd_T78 l0 (b:Int)).f0,.slice M1 (rd_T78 l0 (b:Int)).f1.length f1]:List Value)[q]? = some u → w.cell? (ad.add (b * 2 + q)) = some u:=hcc
      have p0:w.cell? (ad.add (b * 2)) = some (.int .i64 (rd_T78 l0 (b:Int)).f0):=hc2 0 _ rfl
      have p1:w.cell? ⟨(ad.add (b * 2)).block,(ad.add (b * 2)).off + 1,none⟩ = some (.slice M1 (rd_T78 l0 (b:Int)).f1.length f1):=by rw [← add_field _ _ 1 (by omega)];exact hc2 1 _ rfl
      have G1:=Aside0.mk (show Kd.F (Kd.int .i64) w ok M1 (rd_T78 l0 (b:Int)).f1.length (rd_T78 l0 (b:Int)).f1 from g1)
      replace y1:(rd_T78 l0 (b:Int)).f1.length ≤ f1:=y1
      have Y1:=Aside0.mk y1
      subst eB
      clear hcl hFK hcc hbk hc2 g1 y1
      have HFb:=Aside0.mk (Kd.F_bound HF.out)
      obtain ⟨i7,hi7,_,hsz7,_⟩:=info_parts info78
      obtain ⟨ys,hys⟩:∃ ys_:List S78,ys_ = l0.take b:=⟨_,rfl⟩
      obtain ⟨zs,hzs⟩:∃ zs_:List S78,zs_ = l0.drop (b + 1):=⟨_,rfl⟩
      have hyl:ys.length = b:=by rw [hys,List.length_take];omega
      have hzl:zs.length = l0.length - (b + 1):=by rw [hzs,List.length_drop]
      have hcut1:=cut_to (P:=Try.prog) 76 78 .i64 Try.underlying76 hi7 (some ad) l0.length c0 (b:Int) (by omega) (by omega) HC0.out
      rw [show ((b:Int)).toNat = ys.length by omega] at hcut1
      have hcut2:=cut_from (P:=Try.prog) 76 78 .i64 Try.underlying76 hi7 2 hsz7 (some ad) l0.length c0 (wrap64 ((b:Int) + 1)) (by unfold wrap64;omega) (by unfold wrap64;omega)
      rw [show (wrap64 ((b:Int) + 1)).toNat = b + 1 from by unfold wrap64;omega,← hzl] at hcut2
      have hF1:=Kd.F_take (m:=b) HFb.out (by omega)
      rw [← hys] at hF1
      have hF2:=Kd.F_cut (m:=b + 1) HFb.out (by omega) HC0.out
      rw [← hzs] at hF2
      obtain ⟨A2,hA2⟩:∃ A_:Option Addr,A_ = (if c0 = b + 1 then some ad else (some ad).map (·.add ((b + 1) * 2))):=⟨_,rfl⟩
      obtain ⟨c2,hc2⟩:∃ c_,c_ = c0 - (b + 1):=⟨_,rfl⟩
      rw [← hA2,← hc2] at hcut2
      replace hF2:Kd.F k78 w (fun k_=>ok k_ ∧ k_ < w.heap.size) A2 zs.length zs:=by rw [hA2];exact hF2
      have F1:=Aside0.mk hF1
      have F2:=Aside0.mk hF2
      have HYL:=Aside0.mk hyl
      have HZL:=Aside0.mk hzl
      have HR:=Aside0.mk (show l0.take b ++ l0.drop (b + 1) = ([] ++ ys) ++ zs by rw [hys,hzs,List.nil_append])
      have HX:=Aside0.mk hX
      have HB:=Aside0.mk hB
      have P0:=Aside0.mk p0
      have P1:=Aside0.mk p1
      clear p0 p1
      clear hX hB hF1 hF2 hyl hzl hA2 hc2 hys hzs hi7 hsz7
      have t3:=eq_true (show (0:Int) ≤ (b:Int) by omega)
      have t4:=eq_true (show (b:Int) < (l0.length:Int) by omega)
      have t6:=eq_true hb
      go_upto_region 9 with (first|((with_reducible refine gate_dst (N:=23) rfl ?_);refine Kd.N_lit k78 (w0:=w) w.heap.size 78 ?hg (N':=23) ?hd (xs:=([]:List S78)) (inner:=[]) (ok:=fun k_=>(ok k_ ∧ k_ < w.heap.size) ∨ (w.heap.size ≤ k_ ∧ k_ ≠ g)) (okp:=fun _=>False) ?hr ?hp (fun _ hk=>hk.elim) (.inr ⟨HB.out.size,by have:=blk_lt HX.out;omega⟩) HB.out HB.out.size (by simp) ?_;(case hd=>rfl);(case hg=>rfl);(case hr=>first|(go_simp;done)|(go_simp;rfl));(case hp=>exact (Reps.none _ _));intro v1 W6 hN hb_ hg_ ha_;have HNE:=Aside0.mk (show some g ≠ v1.ownBlock from by obtain ⟨b_,e_,l_⟩:=ha_;rw [e_];intro q_;injection q_ with q_;have:=blk_lt HX.out;omega);replace HX:=Aside0.mk ((hg_.block g (blk_lt HX.out) (by simp)).trans HX.out);have HN:=Aside0.mk hN;replace HB:=Aside0.mk hb_;clear hN hb_ hg_ ha_)|((with_reducible refine gate_builtin (b:=.append) (xs:=#[.tmp 23,.tmp 26]) rfl ?_);at_builtin;refine Kd.N_append_rows k78 (w0:=w) w.heap.size rfl (.tmp 23) (.tmp 26) 76 78 (.agg #[.int .i64 0,.slice none 0 0]) 32 rfl Try.underlying76 info78 rfl (by decide) (by decide) v1 [] ys _ _ _ (fun k_=>(ok k_ ∧ k_ < w.heap.size) ∨ (w.heap.size ≤ k_ ∧ k_ ≠ g)) (fun k_=>ok k_ ∧ k_ < w.heap.size) rfl rfl HN.out (Kd.F_below F1.out HB.out) (fun k_ hk=>⟨.inl hk,fun e_=>absurd (Kd.N_base HN.out k_ e_.symm) (by have:=hk.2;omega)⟩) (fun k_ hk=>.inr ⟨Nat.le_trans HB.out.size hk,by have:=blk_lt HX.out;omega⟩) HB.out HB.out.size (by have:=HYL.out;simp only [List.length_nil];omega) ?_;intro v2 W7 hN hb_ hg_ ha_;have HNE2:=Aside0.mk (show some g ≠ v2.ownBlock from by rcases ha_ with e_|⟨b_,e_,l_⟩;(rw [e_];exact HNE.out);(rw [e_];intro q_;injection q_ with q_;have:=blk_lt HX.out;omega));replace HX:=Aside0.mk ((hg_.block g (blk_lt HX.out) HNE.out).trans HX.out);have HN2:=Aside0.mk hN;replace HB:=Aside0.mk hb_;clear hN hb_ hg_ ha_ HN))
      have hd0:Below W7.heap.size W7 W7.drew:=below_drew1 (Below.refl _ _)
      replace HX:=Aside0.mk ((hd0.block g (blk_lt HX.out)).trans HX.out)
      have HN:=Aside0.mk (Kd.N_below HN2.out hd0)
      replace HB:=Aside0.mk (below_step HB.out hd0)
      clear HN2 hd0
      have p0:=(HB.out.cell (World.block_lt_of_cell? w _ P0.out)).trans P0.out
      have p1:=(HB.out.cell (World.block_lt_of_cell? w _ P1.out)).trans P1.out
      refine start_ (n:=12) (S:=fun w'=>w'.cell? (ad.add (b * 2)) = some (.int .i64 (rd_T78 l0 (b:Int)).f0) ∧ w'.cell? ⟨(ad.add (b * 2)).block,(ad.add (b * 2)).off + 1,none⟩ = some (.slice M1 (rd_T78 l0 (b:Int)).f1.length f1)) (ds:=[]) #[false,false,false,false,false,false,false,false,false,false,false,false] (by kernel_rfl) rfl rfl ⟨p0,p1⟩ (fun hHeld=>?_)
      generalize W7.drew = W8 at HX HN HB p0 p1 hHeld ⊢
      refine pure_ (i:=0) (N:=(some 28)) (v:=?_) (a':=?_) #[true,false,false,false,false,false,false,false,false,false,false,false] rfl rfl (by kernel_rfl) (fun _ _ _ h=>h) (Or.inl ⟨by rfl,?_⟩) ?_ ?_
      rotate_left
      · intro w'
        go_simp
        with_reducible rfl
      rotate_left
      · simp only [Act.put,List.setIfInBounds_toArray,List.set_cons_zero,List.set_cons_succ,i64_w,i32_w]
        rfl
      refine pure_ (i:=1) (N:=(some 29)) (v:=?_) (a':=?_) #[true,true,false,false,false,false,false,false,false,false,false,false] rfl rfl (by kernel_rfl) (fun _ _ _ h=>h) (Or.inl ⟨by rfl,?_⟩) ?_ ?_
      rotate_left
      · intro w'
        go_simp
        with_reducible rfl
      rotate_left
      · simp only [Act.put,List.setIfInBounds_toArray,List.set_cons_zero,List.set_cons_succ,i64_w,i32_w]
        rfl
      refine pure_ (i:=2) (N:=(some 30)) (v:=?_) (a':=?_) #[true,true,true,false,false,false,false,false,false,false,false,false] rfl rfl (by kernel_rfl) (fun _ _ _ h=>h) (Or.inl ⟨by rfl,?_⟩) ?_ ?_
      rotate_left
      · intro w'
        go_simp
        with_reducible rfl
      rotate_left
      · simp only [Act.put,List.setIfInBounds_toArray,List.set_cons_zero,List.set_cons_succ,i64_w,i32_w]
        rfl
      refine take_ (i:=3) (N:=(some 31)) (v:=?_) (a':=?_) #[true,true,true,true,false,false,false,false,false,false,false,false] rfl rfl (by kernel_rfl) (fun _ _ _ h=>h) (Or.inl ⟨by rfl,?_⟩) hHeld ?_ ?_
      rotate_left
      · intro w' ⟨s0,s1⟩
        go_simp
        with_reducible rfl
      rotate_left
      · simp only [Act.put,List.setIfInBounds_toArray,List.set_cons_zero,List.set_cons_succ,i64_w,i32_w]
        rfl
      refine pure_ (i:=4) (N:=(some 32)) (v:=?_) (a':=?_) #[true,true,true,true,true,false,false,false,false,false,false,false] rfl rfl (by kernel_rfl) (fun _ _ _ h=>h) (Or.inl ⟨by rfl,?_⟩) ?_ ?_
      rotate_left
      · intro w'
        go_simp
        with_reducible rfl
      rotate_left
      · simp only [Act.put,List.setIfInBounds_toArray,List.set_cons_zero,List.set_cons_succ,i64_w,i32_w]
        rfl
      refine pure_ (i:=5) (N:=(some 33)) (v:=?_) (a':=?_) #[true,true,true,true,true,true,false,false,false,false,false,false] rfl rfl (by kernel_rfl) (fun _ _ _ h=>h) (Or.inl ⟨by rfl,?_⟩) ?_ ?_
      rotate_left
      · intro w'
        go_simp
        with_reducible rfl
      rotate_left
      · simp only [Act.put,List.setIfInBounds_toArray,List.set_cons_zero,List.set_cons_succ,i64_w,i32_w]
        rfl
      refine pure_ (i:=6) (N:=(some 34)) (v:=?_) (a':=?_) #[true,true,true,true,true,true,true,false,false,false,false,false] rfl rfl (by kernel_rfl) (fun _ _ _ h=>h) (Or.inl ⟨by rfl,?_⟩) ?_ ?_
      rotate_left
      · intro w'
        go_simp
        with_reducible rfl
      rotate_left
      · simp only [Act.put,List.setIfInBounds_toArray,List.set_cons_zero,List.set_cons_succ,i64_w,i32_w]
        rfl
      refine pure_ (i:=7) (N:=(some 35)) (v:=?_) (a':=?_) #[true,true,true,true,true,true,true,true,false,false,false,false] rfl rfl (by kernel_rfl) (fun _ _ _ h=>h) (Or.inl ⟨by rfl,?_⟩) ?_ ?_
      rotate_left
      · intro w'
        go_simp
        with_reducible rfl
      rotate_left
      · simp only [Act.put,List.setIfInBounds_toArray,List.set_cons_zero,List.set_cons_succ,i64_w,i32_w]
        rfl
      refine pure_ (i:=8) (N:=(some 36)) (v:=?_) (a':=?_) #[true,true,true,true,true,true,true,true,true,false,false,false] rfl rfl (by kernel_rfl) (fun _ _ _ h=>h) (Or.inl ⟨by rfl,?_⟩) ?_ ?_
      rotate_left
      · intro w'
        go_simp
        with_reducible rfl
      rotate_left
      · simp only [Act.put,List.setIfInBounds_toArray,List.set_cons_zero,List.set_cons_succ,i64_w,i32_w]
        rfl
      refine one_ (i:=9) (N:=(some 37)) #[true,true,true,true,true,true,true,true,true,true,false,false] rfl rfl (by kernel_rfl) (by decide) (fun K hK=>?_)
      refine Kd.N_append_rows_step k78 (w0:=w) w.heap.size (by rfl) (.tmp 32) (.tmp 36) 76 78 (.agg #[.int .i64 0,.slice none 0 0]) 32 rfl Try.underlying76 info78 rfl (by decide) (by decide) v2 ([] ++ ys) zs _ _ _ (fun k_=>(ok k_ ∧ k_ < w.heap.size) ∨ (w.heap.size ≤ k_ ∧ k_ ≠ g)) (fun k_=>ok k_ ∧ k_ < w.heap.size) rfl rfl HN.out (Kd.F_below F2.out HB.out) (fun k_ hk=>⟨.inl hk,fun e_=>absurd (Kd.N_base HN.out k_ e_.symm) (by have:=hk.2;omega)⟩) (fun k_ hk=>.inr ⟨Nat.le_trans HB.out.size hk,by have:=blk_lt HX.out;omega⟩) HB.out HB.out.size (by have:=HYL.out;have:=HZL.out;simp only [List.nil_append];omega) ?_
      intro v3 W9 hN hb_ hg_ ha_
      replace HX:=Aside0.mk ((hg_.block g (blk_lt HX.out) HNE2.out).trans HX.out)
      clear HN
      have HN:=Aside0.mk hN
      replace HB:=Aside0.mk hb_
      clear hN hb_ hg_ ha_
      obtain ⟨A3,c3,rfl⟩:=Kd.N_slice HN.out
      clear p0 p1
      have p0:=(HB.out.cell (World.block_lt_of_cell? w _ P0.out)).trans P0.out
      have p1:=(HB.out.cell (World.block_lt_of_cell? w _ P1.out)).trans P1.out
      refine hK.out _ _ ⟨p0,p1⟩ (fun hHeld=>?_)
      clear hK K
      refine norm_ (a':=?_) ?_ ?_
      rotate_left
      · show Act.put _ (some 37) _ = _
        simp only [Act.put,List.setIfInBounds_toArray,List.set_cons_zero,List.set_cons_succ,i64_w,i32_w]
        rfl
      refine one_ (i:=10) (N:=none) #[true,true,true,true,true,true,true,true,true,true,true,false] rfl rfl (by kernel_rfl) (by decide) (fun K hK=>?_)
      have hs0:W9.cell? ⟨g,0,none⟩ = some (.int .i64 0):=(blk_cell HX.out 0).trans rfl
      have hf0:=blk_frozen HX.out 0
      have hs1:W9.cell? ⟨g,1,none⟩ = some (.slice none 0 0):=(blk_cell HX.out 1).trans rfl
      have hf1:=blk_frozen HX.out 1
      refine skip_ (w1:=?_) (by rfl) rfl ?_ ?_
      rotate_left
      · go_simp
        rfl
      replace HX:=Aside0.mk (blk_put (cs':=#[.int .i64 (rd_T78 l0 (b:Int)).f0,.slice M1 (rd_T78 l0 (b:Int)).f1.length f1]) (blk_put (cs':=#[.int .i64 (rd_T78 l0 (b:Int)).f0,.slice none 0 0]) HX.out 0 (.int .i64 (rd_T78 l0 (b:Int)).f0) rfl) 1 (.slice M1 (rd_T78 l0 (b:Int)).f1.length f1) rfl)
      have hga:=HGE.out
      have hfar:∀ k_,((ok k_ ∧ k_ < w.heap.size) ∨ (w.heap.size ≤ k_ ∧ k_ ≠ g)) → k_ ≠ g:=fun k_ hk=>by rcases hk with hk|hk <;> omega
      replace HN:=Aside0.mk (Kd.N_far (p:=⟨g,1,none⟩) (Kd.N_far (p:=⟨g,0,none⟩) HN.out hfar (.int .i64 (rd_T78 l0 (b:Int)).f0)) hfar (.slice M1 (rd_T78 l0 (b:Int)).f1.length f1))
      replace HB:=Aside0.mk (below_set (below_set HB.out hga (v:=.int .i64 (rd_T78 l0 (b:Int)).f0) (j:=0)) hga (v:=.slice M1 (rd_T78 l0 (b:Int)).f1.length f1) (j:=1))
      clear hs0 hf0 hs1 hf1 hfar p0 p1
      generalize (W9.setCell ⟨g,0,none⟩ (.int .i64 (rd_T78 l0 (b:Int)).f0)).setCell ⟨g,1,none⟩ (.slice M1 (rd_T78 l0 (b:Int)).f1.length f1) = W10 at HX HN HB ⊢
      have p0:=(HB.out.cell (World.block_lt_of_cell? w _ P0.out)).trans P0.out
      have p1:=(HB.out.cell (World.block_lt_of_cell? w _ P1.out)).trans P1.out
      refine hK.out _ _ ⟨p0,p1⟩ (fun hHeld=>?_)
      clear hK K hHeld
      refine pure_ (i:=11) (N:=(some 3)) (v:=?_) (a':=?_) #[true,true,true,true,true,true,true,true,true,true,true,true] rfl rfl (by kernel_rfl) (fun _ _ _ h=>h) (Or.inl ⟨by rfl,?_⟩) ?_ ?_
      rotate_left
      · intro w'
        go_simp
        with_reducible rfl
      rotate_left
      · simp only [Act.put,List.setIfInBounds_toArray,List.set_cons_zero,List.set_cons_succ,i64_w,i32_w]
        rfl
      refine done_ (by kernel_rfl) ?_
      have b0:W10.cell? ⟨g,0,none⟩ = some (.int .i64 (rd_T78 l0 (b:Int)).f0):=(blk_cell HX.out 0).trans rfl
      have b1:W10.cell? ⟨g,1,none⟩ = some (.slice M1 (rd_T78 l0 (b:Int)).f1.length f1):=(blk_cell HX.out 1).trans rfl
      go_wp2
      try simp only [Exit.inBlock,Exit.then]
      refine bodyPost_ret (results_ct rfl _ _ g 78 #[.int .i64 (rd_T78 l0 (b:Int)).f0,.slice M1 (rd_T78 l0 (b:Int)).f1.length f1] (0,0) _ rfl (HX.out) Try.underlying78 rfl (by kernel_rfl)) rfl ?_
      exact ⟨M1,f1,.slice A3 (([] ++ ys) ++ zs).length c3,by first|rfl|(simp;done),Y1.out,Kd.F_below G1.out HB.out,by show Kd.N _ _ _ _ _ _ (l0.take b ++ l0.drop (b + 1));rw [HR.out];exact Kd.N_mono HN.out (fun k_ hk=>by rcases hk with hk|hk;exact .inl hk.1;exact .inr hk.1),HB.out⟩
def lgrp:List Int → Nat → List S78 → List S78
  | [],_,acc=>acc
  | n :: t,j,acc=>lgrp t (j + 1) (if 0 < n then acc ++ [(⟨n,[(j:Int)]⟩:S78)] else acc)
def lone (gs:List S78) (out:List Int):Option (List Int):=if gs.length = 1 then (if 0 < (rd_T78 gs 0).f1.length ∧ 0 ≤ rd (rd_T78 gs 0).f1 0 ∧ rd (rd_T78 gs 0).f1 0 < out.length then some (out.set (rd (rd_T78 gs 0).f1 0).toNat 1) else none) else some out
def lputs (k:Nat):List Int → List Int → Option (List Int)
  | x,[]=>some x
  | x,n :: t=>(spec_l1Put.f k x n).bind fun y=>lputs k y t
def lincs:List Int → List Int → Option (List Int)
  | o,[]=>some o
  | o,n :: t=>if 0 ≤ n ∧ n < o.length then lincs (o.set n.toNat (wrap64 (rd o n + 1))) t else none
def lrun (kk:Nat):Nat → List S78 → List Int → Option (List Int)
  | 0,_,_=>none
  | m + 1,gs,out=>if 1 < gs.length then (spec_l11Least.f gs).bind fun a=>(spec_l11Least.f a.2).bind fun b=>if b.2.length ≤ 1048576 ∧ b.1.f1.length ≤ 1048576 then (lputs kk a.1.f1 b.1.f1).bind fun x=>if x.length ≤ 1048576 then (lincs out x).bind fun out'=>lrun kk m (b.2 ++ [(⟨wrap64 (a.1.f0 + b.1.f0),x⟩:S78)]) out' else none else none else some out
def spec_LengthsOf.f (k:Nat) (l:List Int):Option (List Int × Bool):=(spec_l11Counts.f k l).bind fun b=>if b = true then (if l.length ≤ 12 then (lone (lgrp l 0 []) (List.replicate l.length 0)).bind fun o=>(lrun k k (lgrp l 0 []) o).bind fun o'=>some (o',true) else none) else some ([],false)
theorem lputs_mono (k:Nat) (l:List Int):∀ x,LeO (lputs k x l) (lputs (k + 1) x l):=by
  induction l with
  | nil=>intro x r h;exact h
  | cons n t ih =>
    intro x r h
    simp only [lputs] at h ⊢
    obtain ⟨y,hy,h⟩:=Option.bind_eq_some_iff.1 h
    rw [spec_l1Put.mono _ _ k y hy,Option.bind_some]
    exact ih y r h
theorem lrun_mono (kk:Nat) (m:Nat):∀ gs out,LeO (lrun kk m gs out) (lrun (kk + 1) (m + 1) gs out):=by
  induction m with
  | zero=>intro gs out r h;cases h
  | succ m ih =>
    intro gs out r h
    simp only [lrun] at h
    rw [lrun]
    split at h
    · rename_i g
      rw [if_pos g]
      obtain ⟨a,ha,h⟩:=Option.bind_eq_some_iff.1 h
      obtain ⟨b,hb,h⟩:=Option.bind_eq_some_iff.1 h
      rw [ha,Option.bind_some,hb,Option.bind_some]
      split at h
      · rename_i g2
        rw [if_pos g2]
        obtain ⟨x,hx,h⟩:=Option.bind_eq_some_iff.1 h
        rw [lputs_mono kk _ _ x hx,Option.bind_some]
        split at h
        · rename_i g3
          rw [if_pos g3]
          obtain ⟨q,hq,h⟩:=Option.bind_eq_some_iff.1 h
          rw [hq,Option.bind_some]
          exact ih _ _ r h
        · cases h
      · cases h
    · rename_i g
      rw [if_neg g];exact h
theorem spec_LengthsOf.mono (l:List Int) (k:Nat):LeO (spec_LengthsOf.f k l) (spec_LengthsOf.f (k + 1) l):=by
  intro r h
  unfold spec_LengthsOf.f at h ⊢
  obtain ⟨b,hb,h⟩:=Option.bind_eq_some_iff.1 h
  rw [spec_l11Counts.mono l k b hb,Option.bind_some]
  split at h
  · rename_i g
    rw [if_pos g]
    split at h
    · rename_i g2
      rw [if_pos g2]
      obtain ⟨q,hq,h⟩:=Option.bind_eq_some_iff.1 h
      obtain ⟨q2,hq2,h⟩:=Option.bind_eq_some_iff.1 h
      rw [hq,Option.bind_some,lrun_mono _ _ _ _ q2 hq2,Option.bind_some]
      exact h
    · cases h
  · rename_i g
    rw [if_neg g];exact h
set_option maxHeartbeats 16000000 in
set_option maxRecDepth 1000000 in
theorem spec_LengthsOf.calls (k:Nat) (A0:Option Addr) (c0:Nat) (l0:List Int) (r1:List Int) (r2:Bool) (w:World) (hr0:Kd.C (Kd.int .i64) w A0 l0.length l0) (hc0:l0.length ≤ c0) (h:spec_LengthsOf.f k l0 = some (r1,r2)) :
    Calls Try.prog 26 #[.slice A0 l0.length c0] w fun e w'=>∃ v0_:Value,e = .returned (.tuple #[v0_,.bool r2]) ∧ Kd.R (Kd.int .i64) 3 w' w.heap.size (fun _=>True) v0_ r1 ∧ Below w.heap.size w w':=by
  unfold spec_LengthsOf.f at h
  obtain ⟨b0,hb0,h⟩:=Option.bind_eq_some_iff.1 h
  have hcall:=spec_l11Counts.calls k A0 c0 l0 b0 w hr0 hc0 hb0
  clear hb0
  have HR0:=Aside0.mk hr0
  have HC0:=Aside0.mk hc0
  have HB:=Aside0.mk (Below.refl w.heap.size w)
  clear hr0 hc0
  cases b0 with
  | false =>
    rw [if_neg (by simp)] at h
    simp only [Option.some.injEq,Prod.mk.injEq] at h
    obtain ⟨rfl,rfl⟩:=h
    go_enter Try.func26,Try.ntmps26
    go_wp2_with (go_at_call 61;refine hcall.mono ?_;first|rintro e_ W1 rfl hd|rintro e_ W1 ⟨rfl,hd⟩;have HBn:=Aside0.mk (below_step HB.out hd.below);clear HB;have HB:=HBn;clear HBn hd)
    go_ret2
    exact ⟨_,rfl,Kd.R_nil _ _ _ _ _,HB.out⟩
  | true =>
    rw [if_pos rfl] at h
    split at h
    rotate_left
    · cases h
    rename_i hlen
    obtain ⟨o1,ho1,h⟩:=Option.bind_eq_some_iff.1 h
    obtain ⟨o2,ho2,h⟩:=Option.bind_eq_some_iff.1 h
    simp only [Option.some.injEq,Prod.mk.injEq] at h
    obtain ⟨rfl,rfl⟩:=h
    obtain ⟨gs1,hgs1⟩:∃ g_,g_ = lgrp l0 0 []:=⟨_,rfl⟩
    rw [← hgs1] at ho1 ho2
    have HO1:=Aside0.mk ho1
    have HO2:=Aside0.mk ho2
    have HGS:=Aside0.mk hgs1.symm
    clear ho1 ho2 hgs1
    go_enter Try.func26,Try.ntmps26
    go_wp2_with (first|(go_at_call 61;refine hcall.mono ?_;first|rintro e_ W1 rfl hd|rintro e_ W1 ⟨rfl,hd⟩;have HBn:=Aside0.mk (below_step HB.out hd.below);clear HB;have HB:=HBn;clear HBn hd)|((with_reducible refine gate_dst (N:=22) rfl ?_);refine Kd.R_make (Kd.int .i64) (w0:=w) w.heap.size 3 rfl (N:=22) rfl 41 _ _ rfl (l0.length:Int) rfl rfl Try.underlying41 (.int .i64 0) 8 info3 rfl (by decide) (by decide) (0:Int) (ok:=fun k_=>k_ = W1.heap.size) (okp:=fun _=>False) rfl (fun _ hk=>hk.elim) rfl (by omega) (by omega) HB.out HB.out.size ?_;intro vo W2 ho hb_ hg_ hn_;have HGW:=Aside0.mk (show W1.heap.size < W2.heap.size from by obtain ⟨b_,e_,l_⟩:=hn_;have:=Kd.R_lt ho b_ e_;have:=ho.1 b_ e_;omega);have HGE:=Aside0.mk HB.out.size;have HBn:=Aside0.mk hb_;clear HB;have HB:=HBn;have HOU:=Aside0.mk ho;have HOV:=Aside0.mk hn_;clear HBn ho hb_ hg_ hn_))
    obtain ⟨go,hgo⟩:∃ g_,g_ = W1.heap.size:=⟨_,rfl⟩
    rw [← hgo] at HGW HGE HOU HOV
    rw [Int.toNat_natCast] at HOU
    obtain ⟨ou,hou⟩:∃ u_,u_ = List.replicate l0.length (0:Int):=⟨_,rfl⟩
    rw [← hou] at HOU HO1
    have HOL:=Aside0.mk (show ou.length = l0.length from by rw [hou,List.length_replicate])
    clear hgo hou
    obtain ⟨Ao,co,rfl⟩:=Kd.R_slice HOU.out
    obtain ⟨no,hno⟩:∃ n_,n_ = ou.length:=⟨_,rfl⟩
    rw [← hno] at HOU HOV ⊢
    have HNO:=Aside0.mk hno
    clear hno
    obtain ⟨b_,e_,l_⟩:=HOV.out
    cases Ao with
    | none=>simp [Value.ownBlock] at e_
    | some ao =>
      obtain ⟨g_,rfl⟩:=Kd.R_head HOU.out
      have hgg:g_ = go:=HOU.out.1 g_ (by simp [Value.ownBlock])
      subst hgg
      clear e_ l_ HOV HGW
      rename_i hlen_
      go_loopw [5,25] (fun v5 v25 wr=>∃ (j:Nat) (acc:List S78),j ≤ l0.length ∧ acc.length ≤ j ∧ v25 = .int .i64 j ∧ Hid (lgrp (l0.drop j) j acc = gs1) ∧ Hid (Kd.N k78 78 wr w.heap.size (fun k_=>k_ ≠ g_) v5 acc) ∧ Hid (Kd.R (Kd.int .i64) 3 wr w.heap.size (fun k_=>k_ = g_) (.slice (some ⟨g_,0,none⟩) no co) ou) ∧ Hid (Below w.heap.size w wr)) (fun _ v25 _=>l0.length - (intOf v25).toNat)
      case atStart=>exact ⟨0,[],Nat.zero_le _,Nat.zero_le _,rfl,HGS.out,Kd.N_nil _ _ _ _ _,HOU.out,HB.out⟩
      case round =>
        clear HGS HOU HB
        obtain ⟨j,acc,hj,hal,rfl,hgr,hN,hO,hB⟩:=hrel
        unfold Hid at hgr hN hO hB
        by_cases hp:j < l0.length
        · obtain ⟨ad,e0,q0⟩:=Kd.at_int HR0.out (j:Int) (by omega) (by omega)
          subst e0
          have hrd:rd l0 (j:Int) = l0[j]:=by unfold rd;simp [List.getD_eq_getElem?_getD,hp]
          rw [Int.toNat_natCast,hrd] at q0
          rw [List.drop_eq_getElem_cons hp] at hgr
          generalize l0[j] = n0 at hgr q0
          simp only [lgrp] at hgr
          replace q0:=(hB.cell (World.block_lt_of_cell? w _ q0)).trans q0
          obtain ⟨A5,c5,rfl⟩:=Kd.N_slice hN
          have HG:=Aside0.mk hgr
          have HN:=Aside0.mk hN
          have HO:=Aside0.mk hO
          have HB:=Aside0.mk hB
          clear hgr hN hO hB hrd
          have t1:=eq_true (show (0:Int) ≤ (j:Int) by omega)
          have t2:=eq_true (show (j:Int) < (l0.length:Int) by omega)
          have t3:=eq_true hp
          by_cases hn0:0 < n0
          · have hgr:=HG.out
            rw [if_pos hn0] at hgr
            have HG:=Aside0.mk hgr
            clear hgr
            have u1:=eq_true hn0
            have HGL:=Aside0.mk (Kd.R_lt HO.out g_ (by simp [Value.ownBlock]))
            have HLT:=Aside0.mk (Kd.N_lt HN.out)
            go_wp2_with (first|((with_reducible refine gate_dst (N:=35) rfl ?_);refine Kd.R_lit (Kd.int .i64) (w0:=w) w.heap.size 3 ?hg (N:=35) ?hd (xs:=[(j:Int)]) (inner:=[.int .i64 (j:Int)]) (ok:=fun k_=>k_ = wr.heap.size) (okp:=fun _=>False) ?hr ?hp (fun _ hk=>hk.elim) rfl HB.out HB.out.size (by simp) ?_;(case hd=>rfl);(case hg=>rfl);(case hr=>first|(go_simp;done)|(go_simp;rfl));(case hp=>exact (Reps.one rfl (Reps.none _ _)));intro v35 W3 hl_ hb_ hg_ hn_;obtain ⟨L1,e1,rfl⟩:=Kd.R_slice hl_;have HL:=Aside0.mk (Kd.N_F (Kd.R_N hl_));have HLE:=Aside0.mk (Kd.R_reads' hl_).2.1;have HG3:=Aside0.mk (show g_ < W3.heap.size from Nat.lt_of_lt_of_le HGL.out hg_.size);have HN3:=Aside0.mk (Kd.N_grown HN.out hg_ (fun _ _=>by simp));have HO3:=Aside0.mk (Kd.R_grown HO.out hg_ (fun _ _=>by simp));have HB3:=Aside0.mk hb_;clear hl_ hb_ hg_ hn_ HN HO HB)|((with_reducible refine gate_builtin (b:=.append) (xs:=#[.tmp 32,.tmp 37]) rfl ?_);at_builtin;refine Kd.N_append k78 (w0:=w) w.heap.size rfl (.tmp 32) (.tmp 37) 76 78 (.agg #[.int .i64 0,.slice none 0 0]) 32 rfl Try.underlying76 info78 rfl (by decide) (by decide) (.slice A5 acc.length c5) acc (⟨n0,[(j:Int)]⟩:S78) [.int .i64 n0,.slice L1 [(j:Int)].length e1] (fun k_=>k_ ≠ g_) (fun k_=>k_ = wr.heap.size) rfl rfl (k78_mkF W3 (fun k_=>k_ = wr.heap.size) (⟨n0,[(j:Int)]⟩:S78) HLE.out HL.out) (fun k_ hk=>⟨by have:=HGL.out;omega,fun e_=>by have:=HLT.out k_ e_.symm;omega⟩) (fun k_ hk=>by have:=HG3.out;omega) HN3.out HB3.out HB3.out.size (by omega) ?_;intro v5 W4 ho hb_ hg_ ha_;have HO4:=Aside0.mk (Kd.R_grown HO3.out hg_ (fun k_ hk e_=>HN3.out.1 k_ e_.symm hk));have HN4:=Aside0.mk ho;have HB4:=Aside0.mk hb_;clear ho hb_ hg_ ha_))
            go_roundw
            case rel=>exact ⟨j + 1,acc ++ [(⟨n0,[(j:Int)]⟩:S78)],hp,by rw [List.length_append,List.length_singleton];omega,rfl,HG.out,HN4.out,HO4.out,HB4.out⟩
            case measure=>simp [intOf];omega
          · have hgr:=HG.out
            rw [if_neg hn0] at hgr
            have HG:=Aside0.mk hgr
            clear hgr
            have u1:=eq_false hn0
            go_wp2
            go_roundw
            case rel=>exact ⟨j + 1,acc,hp,by omega,rfl,HG.out,HN.out,HO.out,HB.out⟩
            case measure=>simp [intOf];omega
        · obtain rfl:j = l0.length:=by omega
          rw [List.drop_length] at hgr
          simp only [lgrp] at hgr
          subst hgr
          obtain ⟨A5,c5,rfl⟩:=Kd.N_slice hN
          have HN:=Aside0.mk hN
          have HO:=Aside0.mk hO
          have HB:=Aside0.mk hB
          have HAL:=Aside0.mk hal
          clear hN hO hB hal hp hj
          by_cases hone:acc.length = 1
          · have ho1:=HO1.out
            unfold lone at ho1
            rw [if_pos hone] at ho1
            split at ho1
            rotate_left
            · cases ho1
            rename_i hq
            obtain ⟨z1,z2,z3⟩:=hq
            have hoe:=Option.some.inj ho1
            obtain ⟨g5,d5,e5,_,_,_⟩:=Kd.N_form HN.out (by omega)
            obtain ⟨ad,L1,e1,eA,q0,q1,y1,i1⟩:=at_T78 (Kd.N_reads' HN.out).2.2 0 (by omega) (by omega)
            obtain ⟨al,eL,p0⟩:=Kd.at_int i1 0 (by omega) (by omega)
            have eA':A5 = some ⟨g5,0,none⟩:=by injection e5
            subst eA'
            obtain rfl:(⟨g5,0,none⟩:Addr) = ad:=by injection eA
            subst eL
            clear e5 eA
            generalize rd_T78 acc 0 = y at z1 z2 z3 q0 q1 y1 i1 p0 hoe ⊢
            have hcl:=Kd.R_cell (enc:=Value.int .i64) (h1:=fun _=>rfl) (0:Int) (HNO.out ▸ HO.out) (rd y.f1 0) z2 z3
            obtain ⟨hc1,hc2⟩:=hcl
            have t1:=eq_true z2
            have t2:=eq_true (show rd y.f1 0 < (no:Int) from by rw [HNO.out];exact z3)
            have t3:=eq_true (show (0:Int) < (y.f1.length:Int) by omega)
            have t4:=eq_true z1
            have q1':wr.cell? ⟨g5,1,none⟩ = some (.slice (some al) y.f1.length e1):=q1
            have p0':wr.cell? al = some (.int .i64 (rd y.f1 0)):=(show al.add 0 = al from by simp [Addr.add]) ▸ p0
            have hl1:(acc.length:Int) = 1:=by omega
            have u9:=eq_true hl1
            go_wp2
            have HOn:=Aside0.mk (Kd.R_putn (enc:=Value.int .i64) (h1:=fun _=>rfl) HO.out (rd y.f1 0) (1:Int))
            have HNn:=Aside0.mk (Kd.N_far (p:=⟨g_,(rd y.f1 0).toNat,none⟩) HN.out (fun k_ hk=>hk) (.int .i64 1))
            have HBn:=Aside0.mk (below_set HB.out HGE.out (v:=.int .i64 1) (j:=(rd y.f1 0).toNat))
            clear HO HN HB hc1 hc2 p0' q1' p0 q0 q1 i1
            generalize wr.setCell ⟨g_,(rd y.f1 0).toNat,none⟩ (.int .i64 1) = W5 at HOn HNn HBn ⊢
            have HL5:=Aside0.mk (show o1.length = no from by rw [← hoe,HNO.out];exact List.length_set ..)
            rw [hoe] at HOn
            clear u9 hl1 t1 t2 t3 t4 z1 z2 z3 y1

            clear hone
            have HO2':=HO2
            go_loopg [5] k (fun kq v5 w'=>∃ (gs:List S78) (oc:List Int),Aside0 (lrun k kq gs oc = some o2) ∧ Aside0 (kq ≤ k) ∧ Aside0 (Kd.N k78 78 w' w.heap.size (fun k_=>k_ ≠ g_) v5 gs) ∧ Aside0 (Kd.R (Kd.int .i64) 3 w' w.heap.size (fun k_=>k_ = g_) (.slice (some ⟨g_,0,none⟩) no co) oc) ∧ Aside0 (oc.length = no) ∧ Aside0 (Below w.heap.size w w'))
            case atStart=>exact ⟨acc,o1,HO2,⟨Nat.le_refl _⟩,HNn,HOn,HL5,HBn⟩
            case round =>
              clear HNn HOn HL5 HBn HO2 HO2'
              rename World=>wq
              obtain ⟨gs,oc,HA,HK1,HN,HO,HL,HB⟩:=hrel
              cases gk with
              | zero=>exact absurd HA.out (by simp [lrun])
              | succ k1 =>
                have H:=HA.out
                simp only [lrun] at H
                clear HA
                obtain ⟨A6,c6,rfl⟩:=Kd.N_slice HN.out
                by_cases hm:1 < gs.length
                · rw [if_pos hm] at H
                  obtain ⟨a,ha,H⟩:=Option.bind_eq_some_iff.1 H
                  obtain ⟨b,hb,H⟩:=Option.bind_eq_some_iff.1 H
                  split at H
                  rotate_left
                  · cases H
                  rename_i hg2
                  obtain ⟨x,hx,H⟩:=Option.bind_eq_some_iff.1 H
                  split at H
                  rotate_left
                  · cases H
                  rename_i hg3
                  obtain ⟨o3,ho3,H⟩:=Option.bind_eq_some_iff.1 H
                  have H':=Aside0.mk H
                  have HX':=Aside0.mk hx
                  have HI':=Aside0.mk ho3
                  have HBB:=Aside0.mk hb
                  clear H hx ho3 hb
                  have u1:=eq_true (show (1:Int) < (gs.length:Int) by omega)
                  have u2:=eq_true hm
                  have HGL:=Aside0.mk (Kd.R_lt HO.out g_ (by simp [Value.ownBlock]))
                  have hcall1:=spec_l11Least.calls (fun k_=>k_ ≠ g_) A6 c6 gs a wq (Kd.N_F HN.out) (Kd.N_reads' HN.out).2.1 ha
                  clear ha
                  go_upto_region 15 with (first|(go_at_call 62;refine hcall1.mono ?_;first|rintro e_ W6 B1 d1 v1 rfl l1_ f1_ n1_ hd|rintro e_ W6 ⟨B1,d1,v1,rfl,l1_,f1_,n1_,hd⟩;have HE1:=Aside0.mk l1_;have HF1:=Aside0.mk f1_;have HN1:=Aside0.mk (Kd.N_lower (Kd.N_mono n1_ (ok':=fun k_=>k_ ≠ g_) (fun k_ hk=>by have:=HGL.out;rcases hk with hk|hk <;> omega)) HB.out.size);have HO6:=Aside0.mk (Kd.R_below HO.out hd);have HB6:=Aside0.mk (below_step HB.out hd);have HGL6:=Aside0.mk (Nat.lt_of_lt_of_le HGL.out hd.size);clear hcall1 l1_ f1_ n1_ hd HN HO HB HGL)|((with_reducible refine gate_dst (N:=8) rfl ?_);refine box_event ?hg (N:=8) ?hd (cs:=#[.int .i64 0,.slice none 0 0]) (t:=78) ?hr ?_;(case hd=>rfl);(case hg=>rfl);(case hr=>first|(go_simp;done)|(go_simp;rfl));intro g8 hg_ W8 hx_ hb_;have HG8:=Aside0.mk (Nat.le_of_eq hg_.symm);have HX8:=Aside0.mk hx_;have HD8:=Aside0.mk hb_;have s80:W8.cell? ⟨g8,0,none⟩ = some (.int .i64 0):=(blk_cell hx_ 0).trans rfl;have s81:W8.cell? ⟨g8,1,none⟩ = some (.slice none 0 0):=(blk_cell hx_ 1).trans rfl;have f80:=blk_frozen hx_ 0;have f81:=blk_frozen hx_ 1;clear hg_ hx_ hb_))
                  obtain ⟨A7,c7,rfl⟩:=Kd.N_slice HN1.out
                  have hd:=(HD8.out.setCell HG8.out (.int .i64 a.1.f0) (p:=⟨g8,0,none⟩)).setCell HG8.out (.slice B1 a.1.f1.length d1) (p:=⟨g8,1,none⟩)
                  have HXn:=Aside0.mk (blk_put (cs':=#[.int .i64 a.1.f0,.slice B1 a.1.f1.length d1]) (blk_put (cs':=#[.int .i64 a.1.f0,.slice none 0 0]) HX8.out 0 (.int .i64 a.1.f0) rfl) 1 (.slice B1 a.1.f1.length d1) rfl)
                  clear HX8 HD8 s80 s81 f80 f81
                  have HX8:=HXn
                  clear HXn
                  generalize (W8.setCell ⟨g8,0,none⟩ (.int .i64 a.1.f0)).setCell ⟨g8,1,none⟩ (.slice B1 a.1.f1.length d1) = W9 at hd HX8 ⊢
                  replace HF1:=Aside0.mk (Kd.F_below HF1.out hd)
                  replace HN1:=Aside0.mk (Kd.N_below HN1.out hd)
                  replace HO6:=Aside0.mk (Kd.R_below HO6.out hd)
                  replace HB6:=Aside0.mk (below_step HB6.out hd)
                  replace HGL6:=Aside0.mk (Nat.lt_of_lt_of_le HGL6.out hd.size)
                  clear hd HG8
                  have hcall2:=spec_l11Least.calls (fun k_=>k_ ≠ g_) A7 c7 a.2 b W9 (Kd.N_F HN1.out) (Kd.N_reads' HN1.out).2.1 HBB.out
                  clear HBB
                  go_upto_region 16 with (first|(go_at_call 62;refine hcall2.mono ?_;first|rintro e_ W10 B2 d2 v2 rfl l1_ f1_ n1_ hd|rintro e_ W10 ⟨B2,d2,v2,rfl,l1_,f1_,n1_,hd⟩;have HE2:=Aside0.mk l1_;have HF2:=Aside0.mk f1_;have HNB:=Aside0.mk (Kd.N_base n1_);have HN2:=Aside0.mk (Kd.N_lower (Kd.N_mono n1_ (ok':=fun k_=>k_ ≠ g_) (fun k_ hk=>by have:=HGL6.out;rcases hk with hk|hk <;> omega)) HB6.out.size);have HX8q:=Aside0.mk ((hd.block g8 (blk_lt HX8.out)).trans HX8.out);have HF1q:=Aside0.mk (Kd.F_below (Kd.F_bound HF1.out) hd);have HO6q:=Aside0.mk (Kd.R_below HO6.out hd);have HB6q:=Aside0.mk (below_step HB6.out hd);have HGL6q:=Aside0.mk (Nat.lt_of_lt_of_le HGL6.out hd.size);clear HX8 HF1 HO6;have HX8:=HX8q;have HF1:=HF1q;have HO6:=HO6q;clear HX8q HF1q HO6q;clear hcall2 l1_ f1_ n1_ hd HN1 HB6 HGL6;have HB6:=HB6q;have HGL6:=HGL6q;clear HB6q HGL6q)|((with_reducible refine gate_dst (N:=10) rfl ?_);refine box_event ?hg (N:=10) ?hd (cs:=#[.int .i64 0,.slice none 0 0]) (t:=78) ?hr ?_;(case hd=>rfl);(case hg=>rfl);(case hr=>first|(go_simp;done)|(go_simp;rfl));intro g10 hg_ W10' hx_ hb_;have HG10:=Aside0.mk (Nat.le_of_eq hg_.symm);have HX10:=Aside0.mk hx_;have HD10:=Aside0.mk hb_;have s100:W10'.cell? ⟨g10,0,none⟩ = some (.int .i64 0):=(blk_cell hx_ 0).trans rfl;have s101:W10'.cell? ⟨g10,1,none⟩ = some (.slice none 0 0):=(blk_cell hx_ 1).trans rfl;have f100:=blk_frozen hx_ 0;have f101:=blk_frozen hx_ 1;clear hg_ hx_ hb_))
                  obtain ⟨A8,c8,rfl⟩:=Kd.N_slice HN2.out
                  have hd:=(HD10.out.setCell HG10.out (.int .i64 b.1.f0) (p:=⟨g10,0,none⟩)).setCell HG10.out (.slice B2 b.1.f1.length d2) (p:=⟨g10,1,none⟩)
                  have HXn:=Aside0.mk (blk_put (cs':=#[.int .i64 b.1.f0,.slice B2 b.1.f1.length d2]) (blk_put (cs':=#[.int .i64 b.1.f0,.slice none 0 0]) HX10.out 0 (.int .i64 b.1.f0) rfl) 1 (.slice B2 b.1.f1.length d2) rfl)
                  clear HX10 HD10 s100 s101 f100 f101
                  have HX10:=HXn
                  clear HXn
                  generalize (W10'.setCell ⟨g10,0,none⟩ (.int .i64 b.1.f0)).setCell ⟨g10,1,none⟩ (.slice B2 b.1.f1.length d2) = W11 at hd HX10 ⊢
                  replace HX8:=Aside0.mk ((hd.block g8 (blk_lt HX8.out)).trans HX8.out)
                  replace HF1:=Aside0.mk (Kd.F_below HF1.out hd)
                  replace HF2:=Aside0.mk (Kd.F_below HF2.out hd)
                  replace HN2:=Aside0.mk (Kd.N_below HN2.out hd)
                  replace HO6:=Aside0.mk (Kd.R_below HO6.out hd)
                  replace HB6:=Aside0.mk (below_step HB6.out hd)
                  replace HGL6:=Aside0.mk (Nat.lt_of_lt_of_le HGL6.out hd.size)
                  clear hd HG10
                  have x80:W11.cell? ⟨g8,0,none⟩ = some (.int .i64 a.1.f0):=(blk_cell HX8.out 0).trans rfl
                  have x81:W11.cell? ⟨g8,1,none⟩ = some (.slice B1 a.1.f1.length d1):=(blk_cell HX8.out 1).trans rfl
                  have x100:W11.cell? ⟨g10,0,none⟩ = some (.int .i64 b.1.f0):=(blk_cell HX10.out 0).trans rfl
                  have x101:W11.cell? ⟨g10,1,none⟩ = some (.slice B2 b.1.f1.length d2):=(blk_cell HX10.out 1).trans rfl
                  go_upto_region 17 with ((with_reducible refine gate_dst (N:=12) rfl ?_);refine box_event ?hg (N:=12) ?hd (cs:=#[.int .i64 0,.slice none 0 0]) (t:=78) ?hr ?_;(case hd=>rfl);(case hg=>rfl);(case hr=>first|(go_simp;done)|(go_simp;rfl));intro g12 hg_ W12 hx_ hb_;have HG12:=Aside0.mk (Nat.le_of_eq hg_.symm);have HX12:=Aside0.mk hx_;have HD12:=Aside0.mk hb_;have s120:W12.cell? ⟨g12,0,none⟩ = some (.int .i64 0):=(blk_cell hx_ 0).trans rfl;have s121:W12.cell? ⟨g12,1,none⟩ = some (.slice none 0 0):=(blk_cell hx_ 1).trans rfl;have f120:=blk_frozen hx_ 0;have f121:=blk_frozen hx_ 1;clear hg_ hx_ hb_)
                  clear x80 x81 x100 x101
                  have hd:=(HD12.out.setCell HG12.out (.int .i64 (wrap64 (a.1.f0 + b.1.f0))) (p:=⟨g12,0,none⟩)).setCell HG12.out (.slice B1 a.1.f1.length d1) (p:=⟨g12,1,none⟩)
                  have HXn:=Aside0.mk (blk_put (cs':=#[.int .i64 (wrap64 (a.1.f0 + b.1.f0)),.slice B1 a.1.f1.length d1]) (blk_put (cs':=#[.int .i64 (wrap64 (a.1.f0 + b.1.f0)),.slice none 0 0]) HX12.out 0 (.int .i64 (wrap64 (a.1.f0 + b.1.f0))) rfl) 1 (.slice B1 a.1.f1.length d1) rfl)
                  clear HX12 HD12 s120 s121 f120 f121
                  have HX12:=HXn
                  clear HXn
                  generalize (W12.setCell ⟨g12,0,none⟩ (.int .i64 (wrap64 (a.1.f0 + b.1.f0)))).setCell ⟨g12,1,none⟩ (.slice B1 a.1.f1.length d1) = W13 at hd HX12 ⊢
                  have HF1n:=Aside0.mk (Kd.F_mono (Kd.F_below (Kd.F_bound HF1.out) hd) (ok':=fun k_=>(k_ ≠ g_ ∧ k_ ≠ g12) ∧ some k_ ≠ (Value.slice A8 b.2.length c8).ownBlock) (fun k_ hk=>⟨⟨hk.1.1,by have:=HG12.out;have:=hk.2;omega⟩,fun e_=>by have:=HNB.out k_ e_.symm;have:=hk.1.2;omega⟩))
                  have HF2n:=Aside0.mk (Kd.F_mono (Kd.F_below (Kd.F_bound HF2.out) hd) (ok':=fun k_=>k_ ≠ g_ ∧ k_ ≠ g12) (fun k_ hk=>⟨hk.1,by have:=HG12.out;have:=hk.2;omega⟩))
                  have HN2n:=Aside0.mk (Kd.N_mono (Kd.N_below (Kd.N_bound HN2.out) hd) (ok':=fun k_=>k_ ≠ g_ ∧ k_ ≠ g12) (fun k_ hk=>⟨hk.1,by have:=HG12.out;have:=hk.2;omega⟩))
                  have HGN:=Aside0.mk (show g_ ≠ g12 from by have:=HG12.out;have:=HGL6.out;omega)
                  have HG12w:=Aside0.mk (Nat.le_trans HB6.out.size HG12.out)
                  replace HX8:=Aside0.mk ((hd.block g8 (blk_lt HX8.out)).trans HX8.out)
                  replace HX10:=Aside0.mk ((hd.block g10 (blk_lt HX10.out)).trans HX10.out)
                  replace HO6:=Aside0.mk (Kd.R_below HO6.out hd)
                  replace HB6:=Aside0.mk (below_step HB6.out hd)
                  clear hd HF1 HF2 HN2 HG12 HGL6 HX8
                  have x101:W13.cell? ⟨g10,1,none⟩ = some (.slice B2 b.1.f1.length d2):=(blk_cell HX10.out 1).trans rfl
                  generalize wrap64 (a.1.f0 + b.1.f0) = sm at HX12 H'
                  have hbl:b.1.f1.length ≤ 1048576:=hg2.2
                  go_wp2
                  go_loopw [75] (fun v75 wr=>∃ (j:Nat) (xc:List Int) (B3:Option Addr) (d3:Nat),j ≤ b.1.f1.length ∧ v75 = .int .i64 j ∧ Hid (lputs k xc (b.1.f1.drop j) = some x) ∧ Hid (xc.length ≤ d3) ∧ Hid (Kd.F (Kd.int .i64) wr (fun k_=>(k_ ≠ g_ ∧ k_ ≠ g12) ∧ some k_ ≠ (Value.slice A8 b.2.length c8).ownBlock) B3 xc.length xc) ∧ Hid (wr.heap[g12]? = some (.cells #[.int .i64 sm,.slice B3 xc.length d3] 78 (0,0))) ∧ Hid (Kd.F (Kd.int .i64) wr (fun k_=>k_ ≠ g_ ∧ k_ ≠ g12) B2 b.1.f1.length b.1.f1) ∧ Hid (Kd.N k78 78 wr w.heap.size (fun k_=>k_ ≠ g_ ∧ k_ ≠ g12) (.slice A8 b.2.length c8) b.2) ∧ Hid (Kd.R (Kd.int .i64) 3 wr w.heap.size (fun k_=>k_ = g_) (.slice (some ⟨g_,0,none⟩) no co) oc) ∧ Hid (Below w.heap.size w wr)) (fun v75 _=>b.1.f1.length - (intOf v75).toNat)
                  case atStart=>exact ⟨0,a.1.f1,B1,d1,Nat.zero_le _,rfl,HX'.out,HE1.out,HF1n.out,HX12.out,HF2n.out,HN2n.out,HO6.out,HB6.out⟩
                  case round =>
                    rename World=>wi
                    clear HX' HF1n HX12 HF2n HN2n HO6 HB6 x101
                    obtain ⟨j,xc,B3,d3,hj,rfl,hlp,hle,hF,hX,hF2,hN,hO,hB⟩:=hrel
                    unfold Hid at hlp hle hF hX hF2 hN hO hB
                    have HX12:=Aside0.mk hX
                    have HF2n:=Aside0.mk hF2
                    have HN2n:=Aside0.mk hN
                    have HO6:=Aside0.mk hO
                    have HB6:=Aside0.mk hB
                    have HF3:=Aside0.mk hF
                    have HE3:=Aside0.mk hle
                    clear hX hN hO hB hle
                    by_cases hp:j < b.1.f1.length
                    · obtain ⟨ad,e0,q0⟩:=Kd.at_int (Kd.F_now hF2) (j:Int) (by omega) (by omega)
                      subst e0
                      have hrd:rd b.1.f1 (j:Int) = b.1.f1[j]:=by unfold rd;simp [List.getD_eq_getElem?_getD,hp]
                      rw [Int.toNat_natCast,hrd] at q0
                      rw [List.drop_eq_getElem_cons hp] at hlp
                      generalize b.1.f1[j] = n0 at hlp q0
                      simp only [lputs] at hlp
                      obtain ⟨y,hy,hlp⟩:=Option.bind_eq_some_iff.1 hlp
                      have HLP:=Aside0.mk hlp
                      have hcallC:=spec_l1Put.callsC k B3 d3 xc n0 y wi (Kd.F_now hF) HE3.out hy
                      clear hF2 hF hlp hy hrd
                      have t1:=eq_true (show (0:Int) ≤ (j:Int) by omega)
                      have t2:=eq_true (show (j:Int) < (b.1.f1.length:Int) by omega)
                      have t3:=eq_true hp
                      have x121:wi.cell? ⟨g12,1,none⟩ = some (.slice B3 xc.length d3):=(blk_cell HX12.out 1).trans rfl
                      have HLTi:=Aside0.mk (Kd.N_lt HN2n.out)
                      have HZ:=Aside0.mk (show g_ < wi.heap.size ∧ g12 < wi.heap.size from ⟨Kd.R_lt HO6.out g_ (by simp [Value.ownBlock]),blk_lt HX12.out⟩)
                      go_wp2_with (go_at_call 63;refine hcallC.mono ?_;first|rintro e_ W14 B4 d4 rfl le4 hcase hd|rintro e_ W14 ⟨B4,d4,rfl,le4,hcase,hd⟩;have HF4:=Aside0.mk (show Kd.F (Kd.int .i64) W14 (fun k_=>(k_ ≠ g_ ∧ k_ ≠ g12) ∧ some k_ ≠ (Value.slice A8 b.2.length c8).ownBlock) B4 y.length y from by rcases hcase with ⟨rfl,rfl,rfl⟩|hf;exact Kd.F_below HF3.out hd;exact Kd.F_mono hf (fun k_ hk=>⟨by have:=HZ.out;omega,fun e_=>by have:=HLTi.out k_ e_.symm;omega⟩));have HE4:=Aside0.mk le4;have HX14:=Aside0.mk ((hd.block g12 HZ.out.2).trans HX12.out);have HF14:=Aside0.mk (Kd.F_below HF2n.out hd);have HN14:=Aside0.mk (Kd.N_below HN2n.out hd);have HO14:=Aside0.mk (Kd.R_below HO6.out hd);have HB14:=Aside0.mk (below_step HB6.out hd);have y121:W14.cell? ⟨g12,1,none⟩ = some (.slice B3 xc.length d3):=(blk_cell HX14.out 1).trans rfl;have z121:=blk_frozen HX14.out 1;clear hcallC hcase hd le4 HF3 HX12 HF2n HN2n HO6 HB6)
                      have HXn:=Aside0.mk (blk_put (cs':=#[.int .i64 sm,.slice B4 y.length d4]) HX14.out 1 (.slice B4 y.length d4) rfl)
                      have HFn:=Aside0.mk (Kd.F_far (p:=⟨g12,1,none⟩) HF4.out (fun _ hk=>hk.1.2) (.slice B4 y.length d4))
                      have HF2m:=Aside0.mk (Kd.F_far (p:=⟨g12,1,none⟩) HF14.out (fun _ hk=>hk.2) (.slice B4 y.length d4))
                      have HNn:=Aside0.mk (Kd.N_far (p:=⟨g12,1,none⟩) HN14.out (fun _ hk=>hk.2) (.slice B4 y.length d4))
                      have HOn:=Aside0.mk (Kd.R_far (p:=⟨g12,1,none⟩) HO14.out (fun k_ hk=>by rw [hk];exact HGN.out) (.slice B4 y.length d4))
                      have HBn:=Aside0.mk (below_set HB14.out HG12w.out (v:=.slice B4 y.length d4) (j:=1))
                      clear y121 z121 x121
                      generalize W14.setCell ⟨g12,1,none⟩ (.slice B4 y.length d4) = W15 at HXn HFn HF2m HNn HOn HBn ⊢
                      go_roundw
                      case rel=>exact ⟨j + 1,y,B4,d4,hp,rfl,HLP.out,HE4.out,HFn.out,HXn.out,HF2m.out,HNn.out,HOn.out,HBn.out⟩
                      case measure=>simp [intOf];omega
                    · obtain rfl:j = b.1.f1.length:=by omega
                      rw [List.drop_length] at hlp
                      simp only [lputs,Option.some.injEq] at hlp
                      subst hlp
                      clear hF2 hF hp hj
                      have x121:wi.cell? ⟨g12,1,none⟩ = some (.slice B3 xc.length d3):=(blk_cell HX12.out 1).trans rfl
                      have hxl:xc.length ≤ 1048576:=hg3
                      go_wp2
                      go_loopw [88] (fun v88 wr=>∃ (j:Nat) (od:List Int),j ≤ xc.length ∧ v88 = .int .i64 j ∧ od.length = no ∧ Hid (lincs od (xc.drop j) = some o3) ∧ Hid (Kd.F (Kd.int .i64) wr (fun k_=>(k_ ≠ g_ ∧ k_ ≠ g12) ∧ some k_ ≠ (Value.slice A8 b.2.length c8).ownBlock) B3 xc.length xc) ∧ Hid (wr.heap[g12]? = some (.cells #[.int .i64 sm,.slice B3 xc.length d3] 78 (0,0))) ∧ Hid (Kd.N k78 78 wr w.heap.size (fun k_=>k_ ≠ g_ ∧ k_ ≠ g12) (.slice A8 b.2.length c8) b.2) ∧ Hid (Kd.R (Kd.int .i64) 3 wr w.heap.size (fun k_=>k_ = g_) (.slice (some ⟨g_,0,none⟩) no co) od) ∧ Hid (Below w.heap.size w wr)) (fun v88 _=>xc.length - (intOf v88).toNat)
                      case atStart=>exact ⟨0,oc,Nat.zero_le _,rfl,HL.out,HI'.out,HF3.out,HX12.out,HN2n.out,HO6.out,HB6.out⟩
                      case round =>
                        rename World=>wj
                        clear HI' HF3 HX12 HN2n HO6 HB6 x121 HF2n HL
                        obtain ⟨j,od,hj,rfl,hod,hli,hF,hX,hN,hO,hB⟩:=hrel
                        unfold Hid at hli hF hX hN hO hB
                        have HX12:=Aside0.mk hX
                        have HN2n:=Aside0.mk hN
                        have HO6:=Aside0.mk hO
                        have HB6:=Aside0.mk hB
                        have HF3:=Aside0.mk hF
                        clear hX hN hO hB
                        by_cases hp:j < xc.length
                        · obtain ⟨ad,e0,q0⟩:=Kd.at_int (Kd.F_now hF) (j:Int) (by omega) (by omega)
                          subst e0
                          have hrd:rd xc (j:Int) = xc[j]:=by unfold rd;simp [List.getD_eq_getElem?_getD,hp]
                          rw [Int.toNat_natCast,hrd] at q0
                          rw [List.drop_eq_getElem_cons hp] at hli
                          generalize xc[j] = n0 at hli q0
                          simp only [lincs] at hli
                          split at hli
                          rotate_left
                          · cases hli
                          rename_i hn0
                          have HLI:=Aside0.mk hli
                          obtain ⟨hc1,hc2⟩:=Kd.R_cell (enc:=Value.int .i64) (h1:=fun _=>rfl) (0:Int) (hod.symm ▸ HO6.out) n0 hn0.1 hn0.2
                          have hc1':wj.cell? ⟨g_,n0.toNat,none⟩ = some (.int .i64 (rd od n0)):=hc1
                          have t1:=eq_true (show (0:Int) ≤ (j:Int) by omega)
                          have t2:=eq_true (show (j:Int) < (xc.length:Int) by omega)
                          have t3:=eq_true hp
                          have t4:=eq_true hn0.1
                          have t5:=eq_true (show n0 < (no:Int) from by rw [← hod];exact hn0.2)
                          clear hF hli hrd hc1
                          go_wp2
                          generalize hvv:wrap64 (rd od n0 + 1) = vv at HLI ⊢
                          have HFn:=Aside0.mk (Kd.F_far (p:=⟨g_,n0.toNat,none⟩) HF3.out (fun _ hk=>hk.1.1) (.int .i64 vv))
                          have HXn:=Aside0.mk ((Below.heap_setCell wj ⟨g_,n0.toNat,none⟩ (.int .i64 vv) g12 (fun q_=>HGN.out q_.symm)).trans HX12.out)
                          have HNn:=Aside0.mk (Kd.N_far (p:=⟨g_,n0.toNat,none⟩) HN2n.out (fun _ hk=>hk.1) (.int .i64 vv))
                          have HOn:=Aside0.mk (Kd.R_putn (enc:=Value.int .i64) (h1:=fun _=>rfl) HO6.out n0 vv)
                          have HBn:=Aside0.mk (below_set HB6.out HGE.out (v:=.int .i64 vv) (j:=n0.toNat))
                          clear hc1' hc2 hvv q0
                          generalize wj.setCell ⟨g_,n0.toNat,none⟩ (.int .i64 vv) = W16 at HXn HFn HNn HOn HBn ⊢
                          go_roundw
                          case rel=>exact ⟨j + 1,od.set n0.toNat vv,hp,rfl,by rw [List.length_set];exact hod,HLI.out,HFn.out,HXn.out,HNn.out,HOn.out,HBn.out⟩
                          case measure=>simp [intOf];omega
                        · obtain rfl:j = xc.length:=by omega
                          rw [List.drop_length] at hli
                          simp only [lincs,Option.some.injEq] at hli
                          subst hli
                          clear hF hp hj
                          have x120:wj.cell? ⟨g12,0,none⟩ = some (.int .i64 sm):=(blk_cell HX12.out 0).trans rfl
                          have x121:wj.cell? ⟨g12,1,none⟩ = some (.slice B3 xc.length d3):=(blk_cell HX12.out 1).trans rfl
                          have hb2:b.2.length ≤ 1048576:=hg2.1
                          have HGL:=Aside0.mk (Kd.R_lt HO6.out g_ (by simp [Value.ownBlock]))
                          have HLT:=Aside0.mk (Kd.N_lt HN2n.out)
                          have HNx:=Aside0.mk (Kd.N_mono HN2n.out (ok':=fun k_=>k_ ≠ g_) (fun _ hk=>hk.1))
                          go_wp2_with ((with_reducible refine gate_builtin (b:=.append) (xs:=#[.tmp 99,.tmp 101]) rfl ?_);at_builtin;refine Kd.N_append k78 (w0:=w) w.heap.size rfl (.tmp 99) (.tmp 101) 76 78 (.agg #[.int .i64 0,.slice none 0 0]) 32 rfl Try.underlying76 info78 rfl (by decide) (by decide) (.slice A8 b.2.length c8) b.2 (⟨sm,xc⟩:S78) [.int .i64 sm,.slice B3 xc.length d3] (fun k_=>k_ ≠ g_) (fun k_=>(k_ ≠ g_ ∧ k_ ≠ g12) ∧ some k_ ≠ (Value.slice A8 b.2.length c8).ownBlock) rfl rfl (k78_mkF wj _ (⟨sm,xc⟩:S78) HE3.out HF3.out) (fun k_ hk=>⟨hk.1.1,hk.2⟩) (fun k_ hk=>by have:=HGL.out;omega) HNx.out HB6.out HB6.out.size (by omega) ?_;intro v5 W17 ho hb_ hg_ ha_;have HO17:=Aside0.mk (Kd.R_grown HO6.out hg_ (fun k_ hk e_=>HNx.out.1 k_ e_.symm hk));have HN17:=Aside0.mk ho;have HB17:=Aside0.mk hb_;clear ho hb_ hg_ ha_)
                          go_roundg k1
                          case measure=>have:=HK1.out;omega
                          case rel=>exact ⟨b.2 ++ [(⟨sm,xc⟩:S78)],od,H',⟨by have:=HK1.out;omega⟩,HN17,HO17,⟨hod⟩,HB17⟩
                · rw [if_neg hm] at H
                  obtain rfl:=Option.some.inj H
                  have u1:=eq_false (show ¬(1:Int) < (gs.length:Int) by omega)
                  have u2:=eq_false hm
                  go_wp2
                  go_ret2
                  exact ⟨_,rfl,Kd.R_mono HO.out (fun _ _=>trivial),HB.out⟩
          · have hoe:=HO1.out
            unfold lone at hoe
            rw [if_neg hone] at hoe
            have hoe:=Option.some.inj hoe
            have HL5:=Aside0.mk (show o1.length = no from by rw [← hoe,HNO.out])
            have HNn:=HN
            have HBn:=HB
            have HOn:=HO
            rw [hoe] at HOn
            have u9:=eq_false (show ¬(acc.length:Int) = 1 by omega)
            have u8:=eq_false hone
            have u7:((acc.length:Int) == 1) = false:=beq_eq_false_iff_ne.mpr (by omega)
            clear HN HB HO
            go_wp2
            clear u9 u8 u7
            clear hone
            have HO2':=HO2
            go_loopg [5] k (fun kq v5 w'=>∃ (gs:List S78) (oc:List Int),Aside0 (lrun k kq gs oc = some o2) ∧ Aside0 (kq ≤ k) ∧ Aside0 (Kd.N k78 78 w' w.heap.size (fun k_=>k_ ≠ g_) v5 gs) ∧ Aside0 (Kd.R (Kd.int .i64) 3 w' w.heap.size (fun k_=>k_ = g_) (.slice (some ⟨g_,0,none⟩) no co) oc) ∧ Aside0 (oc.length = no) ∧ Aside0 (Below w.heap.size w w'))
            case atStart=>exact ⟨acc,o1,HO2,⟨Nat.le_refl _⟩,HNn,HOn,HL5,HBn⟩
            case round =>
              clear HNn HOn HL5 HBn HO2 HO2'
              rename World=>wq
              obtain ⟨gs,oc,HA,HK1,HN,HO,HL,HB⟩:=hrel
              cases gk with
              | zero=>exact absurd HA.out (by simp [lrun])
              | succ k1 =>
                have H:=HA.out
                simp only [lrun] at H
                clear HA
                obtain ⟨A6,c6,rfl⟩:=Kd.N_slice HN.out
                by_cases hm:1 < gs.length
                · rw [if_pos hm] at H
                  obtain ⟨a,ha,H⟩:=Option.bind_eq_some_iff.1 H
                  obtain ⟨b,hb,H⟩:=Option.bind_eq_some_iff.1 H
                  split at H
                  rotate_left
                  · cases H
                  rename_i hg2
                  obtain ⟨x,hx,H⟩:=Option.bind_eq_some_iff.1 H
                  split at H
                  rotate_left
                  · cases H
                  rename_i hg3
                  obtain ⟨o3,ho3,H⟩:=Option.bind_eq_some_iff.1 H
                  have H':=Aside0.mk H
                  have HX':=Aside0.mk hx
                  have HI':=Aside0.mk ho3
                  have HBB:=Aside0.mk hb
                  clear H hx ho3 hb
                  have u1:=eq_true (show (1:Int) < (gs.length:Int) by omega)
                  have u2:=eq_true hm
                  have HGL:=Aside0.mk (Kd.R_lt HO.out g_ (by simp [Value.ownBlock]))
                  have hcall1:=spec_l11Least.calls (fun k_=>k_ ≠ g_) A6 c6 gs a wq (Kd.N_F HN.out) (Kd.N_reads' HN.out).2.1 ha
                  clear ha
                  go_upto_region 15 with (first|(go_at_call 62;refine hcall1.mono ?_;first|rintro e_ W6 B1 d1 v1 rfl l1_ f1_ n1_ hd|rintro e_ W6 ⟨B1,d1,v1,rfl,l1_,f1_,n1_,hd⟩;have HE1:=Aside0.mk l1_;have HF1:=Aside0.mk f1_;have HN1:=Aside0.mk (Kd.N_lower (Kd.N_mono n1_ (ok':=fun k_=>k_ ≠ g_) (fun k_ hk=>by have:=HGL.out;rcases hk with hk|hk <;> omega)) HB.out.size);have HO6:=Aside0.mk (Kd.R_below HO.out hd);have HB6:=Aside0.mk (below_step HB.out hd);have HGL6:=Aside0.mk (Nat.lt_of_lt_of_le HGL.out hd.size);clear hcall1 l1_ f1_ n1_ hd HN HO HB HGL)|((with_reducible refine gate_dst (N:=8) rfl ?_);refine box_event ?hg (N:=8) ?hd (cs:=#[.int .i64 0,.slice none 0 0]) (t:=78) ?hr ?_;(case hd=>rfl);(case hg=>rfl);(case hr=>first|(go_simp;done)|(go_simp;rfl));intro g8 hg_ W8 hx_ hb_;have HG8:=Aside0.mk (Nat.le_of_eq hg_.symm);have HX8:=Aside0.mk hx_;have HD8:=Aside0.mk hb_;have s80:W8.cell? ⟨g8,0,none⟩ = some (.int .i64 0):=(blk_cell hx_ 0).trans rfl;have s81:W8.cell? ⟨g8,1,none⟩ = some (.slice none 0 0):=(blk_cell hx_ 1).trans rfl;have f80:=blk_frozen hx_ 0;have f81:=blk_frozen hx_ 1;clear hg_ hx_ hb_))
                  obtain ⟨A7,c7,rfl⟩:=Kd.N_slice HN1.out
                  have hd:=(HD8.out.setCell HG8.out (.int .i64 a.1.f0) (p:=⟨g8,0,none⟩)).setCell HG8.out (.slice B1 a.1.f1.length d1) (p:=⟨g8,1,none⟩)
                  have HXn:=Aside0.mk (blk_put (cs':=#[.int .i64 a.1.f0,.slice B1 a.1.f1.length d1]) (blk_put (cs':=#[.int .i64 a.1.f0,.slice none 0 0]) HX8.out 0 (.int .i64 a.1.f0) rfl) 1 (.slice B1 a.1.f1.length d1) rfl)
                  clear HX8 HD8 s80 s81 f80 f81
                  have HX8:=HXn
                  clear HXn
                  generalize (W8.setCell ⟨g8,0,none⟩ (.int .i64 a.1.f0)).setCell ⟨g8,1,none⟩ (.slice B1 a.1.f1.length d1) = W9 at hd HX8 ⊢
                  replace HF1:=Aside0.mk (Kd.F_below HF1.out hd)
                  replace HN1:=Aside0.mk (Kd.N_below HN1.out hd)
                  replace HO6:=Aside0.mk (Kd.R_below HO6.out hd)
                  replace HB6:=Aside0.mk (below_step HB6.out hd)
                  replace HGL6:=Aside0.mk (Nat.lt_of_lt_of_le HGL6.out hd.size)
                  clear hd HG8
                  have hcall2:=spec_l11Least.calls (fun k_=>k_ ≠ g_) A7 c7 a.2 b W9 (Kd.N_F HN1.out) (Kd.N_reads' HN1.out).2.1 HBB.out
                  clear HBB
                  go_upto_region 16 with (first|(go_at_call 62;refine hcall2.mono ?_;first|rintro e_ W10 B2 d2 v2 rfl l1_ f1_ n1_ hd|rintro e_ W10 ⟨B2,d2,v2,rfl,l1_,f1_,n1_,hd⟩;have HE2:=Aside0.mk l1_;have HF2:=Aside0.mk f1_;have HNB:=Aside0.mk (Kd.N_base n1_);have HN2:=Aside0.mk (Kd.N_lower (Kd.N_mono n1_ (ok':=fun k_=>k_ ≠ g_) (fun k_ hk=>by have:=HGL6.out;rcases hk with hk|hk <;> omega)) HB6.out.size);have HX8q:=Aside0.mk ((hd.block g8 (blk_lt HX8.out)).trans HX8.out);have HF1q:=Aside0.mk (Kd.F_below (Kd.F_bound HF1.out) hd);have HO6q:=Aside0.mk (Kd.R_below HO6.out hd);have HB6q:=Aside0.mk (below_step HB6.out hd);have HGL6q:=Aside0.mk (Nat.lt_of_lt_of_le HGL6.out hd.size);clear HX8 HF1 HO6;have HX8:=HX8q;have HF1:=HF1q;have HO6:=HO6q;clear HX8q HF1q HO6q;clear hcall2 l1_ f1_ n1_ hd HN1 HB6 HGL6;have HB6:=HB6q;have HGL6:=HGL6q;clear HB6q HGL6q)|((with_reducible refine gate_dst (N:=10) rfl ?_);refine box_event ?hg (N:=10) ?hd (cs:=#[.int .i64 0,.slice none 0 0]) (t:=78) ?hr ?_;(case hd=>rfl);(case hg=>rfl);(case hr=>first|(go_simp;done)|(go_simp;rfl));intro g10 hg_ W10' hx_ hb_;have HG10:=Aside0.mk (Nat.le_of_eq hg_.symm);have HX10:=Aside0.mk hx_;have HD10:=Aside0.mk hb_;have s100:W10'.cell? ⟨g10,0,none⟩ = some (.int .i64 0):=(blk_cell hx_ 0).trans rfl;have s101:W10'.cell? ⟨g10,1,none⟩ = some (.slice none 0 0):=(blk_cell hx_ 1).trans rfl;have f100:=blk_frozen hx_ 0;have f101:=blk_frozen hx_ 1;clear hg_ hx_ hb_))
                  obtain ⟨A8,c8,rfl⟩:=Kd.N_slice HN2.out
                  have hd:=(HD10.out.setCell HG10.out (.int .i64 b.1.f0) (p:=⟨g10,0,none⟩)).setCell HG10.out (.slice B2 b.1.f1.length d2) (p:=⟨g10,1,none⟩)
                  have HXn:=Aside0.mk (blk_put (cs':=#[.int .i64 b.1.f0,.slice B2 b.1.f1.length d2]) (blk_put (cs':=#[.int .i64 b.1.f0,.slice none 0 0]) HX10.out 0 (.int .i64 b.1.f0) rfl) 1 (.slice B2 b.1.f1.length d2) rfl)
                  clear HX10 HD10 s100 s101 f100 f101
                  have HX10:=HXn
                  clear HXn
                  generalize (W10'.setCell ⟨g10,0,none⟩ (.int .i64 b.1.f0)).setCell ⟨g10,1,none⟩ (.slice B2 b.1.f1.length d2) = W11 at hd HX10 ⊢
                  replace HX8:=Aside0.mk ((hd.block g8 (blk_lt HX8.out)).trans HX8.out)
                  replace HF1:=Aside0.mk (Kd.F_below HF1.out hd)
                  replace HF2:=Aside0.mk (Kd.F_below HF2.out hd)
                  replace HN2:=Aside0.mk (Kd.N_below HN2.out hd)
                  replace HO6:=Aside0.mk (Kd.R_below HO6.out hd)
                  replace HB6:=Aside0.mk (below_step HB6.out hd)
                  replace HGL6:=Aside0.mk (Nat.lt_of_lt_of_le HGL6.out hd.size)
                  clear hd HG10
                  have x80:W11.cell? ⟨g8,0,none⟩ = some (.int .i64 a.1.f0):=(blk_cell HX8.out 0).trans rfl
                  have x81:W11.cell? ⟨g8,1,none⟩ = some (.slice B1 a.1.f1.length d1):=(blk_cell HX8.out 1).trans rfl
                  have x100:W11.cell? ⟨g10,0,none⟩ = some (.int .i64 b.1.f0):=(blk_cell HX10.out 0).trans rfl
                  have x101:W11.cell? ⟨g10,1,none⟩ = some (.slice B2 b.1.f1.length d2):=(blk_cell HX10.out 1).trans rfl
                  go_upto_region 17 with ((with_reducible refine gate_dst (N:=12) rfl ?_);refine box_event ?hg (N:=12) ?hd (cs:=#[.int .i64 0,.slice none 0 0]) (t:=78) ?hr ?_;(case hd=>rfl);(case hg=>rfl);(case hr=>first|(go_simp;done)|(go_simp;rfl));intro g12 hg_ W12 hx_ hb_;have HG12:=Aside0.mk (Nat.le_of_eq hg_.symm);have HX12:=Aside0.mk hx_;have HD12:=Aside0.mk hb_;have s120:W12.cell? ⟨g12,0,none⟩ = some (.int .i64 0):=(blk_cell hx_ 0).trans rfl;have s121:W12.cell? ⟨g12,1,none⟩ = some (.slice none 0 0):=(blk_cell hx_ 1).trans rfl;have f120:=blk_frozen hx_ 0;have f121:=blk_frozen hx_ 1;clear hg_ hx_ hb_)
                  clear x80 x81 x100 x101
                  have hd:=(HD12.out.setCell HG12.out (.int .i64 (wrap64 (a.1.f0 + b.1.f0))) (p:=⟨g12,0,none⟩)).setCell HG12.out (.slice B1 a.1.f1.length d1) (p:=⟨g12,1,none⟩)
                  have HXn:=Aside0.mk (blk_put (cs':=#[.int .i64 (wrap64 (a.1.f0 + b.1.f0)),.slice B1 a.1.f1.length d1]) (blk_put (cs':=#[.int .i64 (wrap64 (a.1.f0 + b.1.f0)),.slice none 0 0]) HX12.out 0 (.int .i64 (wrap64 (a.1.f0 + b.1.f0))) rfl) 1 (.slice B1 a.1.f1.length d1) rfl)
                  clear HX12 HD12 s120 s121 f120 f121
                  have HX12:=HXn
                  clear HXn
                  generalize (W12.setCell ⟨g12,0,none⟩ (.int .i64 (wrap64 (a.1.f0 + b.1.f0)))).setCell ⟨g12,1,none⟩ (.slice B1 a.1.f1.length d1) = W13 at hd HX12 ⊢
                  have HF1n:=Aside0.mk (Kd.F_mono (Kd.F_below (Kd.F_bound HF1.out) hd) (ok':=fun k_=>(k_ ≠ g_ ∧ k_ ≠ g12) ∧ some k_ ≠ (Value.slice A8 b.2.length c8).ownBlock) (fun k_ hk=>⟨⟨hk.1.1,by have:=HG12.out;have:=hk.2;omega⟩,fun e_=>by have:=HNB.out k_ e_.symm;have:=hk.1.2;omega⟩))
                  have HF2n:=Aside0.mk (Kd.F_mono (Kd.F_below (Kd.F_bound HF2.out) hd) (ok':=fun k_=>k_ ≠ g_ ∧ k_ ≠ g12) (fun k_ hk=>⟨hk.1,by have:=HG12.out;have:=hk.2;omega⟩))
                  have HN2n:=Aside0.mk (Kd.N_mono (Kd.N_below (Kd.N_bound HN2.out) hd) (ok':=fun k_=>k_ ≠ g_ ∧ k_ ≠ g12) (fun k_ hk=>⟨hk.1,by have:=HG12.out;have:=hk.2;omega⟩))
                  have HGN:=Aside0.mk (show g_ ≠ g12 from by have:=HG12.out;have:=HGL6.out;omega)
                  have HG12w:=Aside0.mk (Nat.le_trans HB6.out.size HG12.out)
                  replace HX8:=Aside0.mk ((hd.block g8 (blk_lt HX8.out)).trans HX8.out)
                  replace HX10:=Aside0.mk ((hd.block g10 (blk_lt HX10.out)).trans HX10.out)
                  replace HO6:=Aside0.mk (Kd.R_below HO6.out hd)
                  replace HB6:=Aside0.mk (below_step HB6.out hd)
                  clear hd HF1 HF2 HN2 HG12 HGL6 HX8
                  have x101:W13.cell? ⟨g10,1,none⟩ = some (.slice B2 b.1.f1.length d2):=(blk_cell HX10.out 1).trans rfl
                  generalize wrap64 (a.1.f0 + b.1.f0) = sm at HX12 H'
                  have hbl:b.1.f1.length ≤ 1048576:=hg2.2
                  go_wp2
                  go_loopw [75] (fun v75 wr=>∃ (j:Nat) (xc:List Int) (B3:Option Addr) (d3:Nat),j ≤ b.1.f1.length ∧ v75 = .int .i64 j ∧ Hid (lputs k xc (b.1.f1.drop j) = some x) ∧ Hid (xc.length ≤ d3) ∧ Hid (Kd.F (Kd.int .i64) wr (fun k_=>(k_ ≠ g_ ∧ k_ ≠ g12) ∧ some k_ ≠ (Value.slice A8 b.2.length c8).ownBlock) B3 xc.length xc) ∧ Hid (wr.heap[g12]? = some (.cells #[.int .i64 sm,.slice B3 xc.length d3] 78 (0,0))) ∧ Hid (Kd.F (Kd.int .i64) wr (fun k_=>k_ ≠ g_ ∧ k_ ≠ g12) B2 b.1.f1.length b.1.f1) ∧ Hid (Kd.N k78 78 wr w.heap.size (fun k_=>k_ ≠ g_ ∧ k_ ≠ g12) (.slice A8 b.2.length c8) b.2) ∧ Hid (Kd.R (Kd.int .i64) 3 wr w.heap.size (fun k_=>k_ = g_) (.slice (some ⟨g_,0,none⟩) no co) oc) ∧ Hid (Below w.heap.size w wr)) (fun v75 _=>b.1.f1.length - (intOf v75).toNat)
                  case atStart=>exact ⟨0,a.1.f1,B1,d1,Nat.zero_le _,rfl,HX'.out,HE1.out,HF1n.out,HX12.out,HF2n.out,HN2n.out,HO6.out,HB6.out⟩
                  case round =>
                    rename World=>wi
                    clear HX' HF1n HX12 HF2n HN2n HO6 HB6 x101
                    obtain ⟨j,xc,B3,d3,hj,rfl,hlp,hle,hF,hX,hF2,hN,hO,hB⟩:=hrel
                    unfold Hid at hlp hle hF hX hF2 hN hO hB
                    have HX12:=Aside0.mk hX
                    have HF2n:=Aside0.mk hF2
                    have HN2n:=Aside0.mk hN
                    have HO6:=Aside0.mk hO
                    have HB6:=Aside0.mk hB
                    have HF3:=Aside0.mk hF
                    have HE3:=Aside0.mk hle
                    clear hX hN hO hB hle
                    by_cases hp:j < b.1.f1.length
                    · obtain ⟨ad,e0,q0⟩:=Kd.at_int (Kd.F_now hF2) (j:Int) (by omega) (by omega)
                      subst e0
                      have hrd:rd b.1.f1 (j:Int) = b.1.f1[j]:=by unfold rd;simp [List.getD_eq_getElem?_getD,hp]
                      rw [Int.toNat_natCast,hrd] at q0
                      rw [List.drop_eq_getElem_cons hp] at hlp
                      generalize b.1.f1[j] = n0 at hlp q0
                      simp only [lputs] at hlp
                      obtain ⟨y,hy,hlp⟩:=Option.bind_eq_some_iff.1 hlp
                      have HLP:=Aside0.mk hlp
                      have hcallC:=spec_l1Put.callsC k B3 d3 xc n0 y wi (Kd.F_now hF) HE3.out hy
                      clear hF2 hF hlp hy hrd
                      have t1:=eq_true (show (0:Int) ≤ (j:Int) by omega)
                      have t2:=eq_true (show (j:Int) < (b.1.f1.length:Int) by omega)
                      have t3:=eq_true hp
                      have x121:wi.cell? ⟨g12,1,none⟩ = some (.slice B3 xc.length d3):=(blk_cell HX12.out 1).trans rfl
                      have HLTi:=Aside0.mk (Kd.N_lt HN2n.out)
                      have HZ:=Aside0.mk (show g_ < wi.heap.size ∧ g12 < wi.heap.size from ⟨Kd.R_lt HO6.out g_ (by simp [Value.ownBlock]),blk_lt HX12.out⟩)
                      go_wp2_with (go_at_call 63;refine hcallC.mono ?_;first|rintro e_ W14 B4 d4 rfl le4 hcase hd|rintro e_ W14 ⟨B4,d4,rfl,le4,hcase,hd⟩;have HF4:=Aside0.mk (show Kd.F (Kd.int .i64) W14 (fun k_=>(k_ ≠ g_ ∧ k_ ≠ g12) ∧ some k_ ≠ (Value.slice A8 b.2.length c8).ownBlock) B4 y.length y from by rcases hcase with ⟨rfl,rfl,rfl⟩|hf;exact Kd.F_below HF3.out hd;exact Kd.F_mono hf (fun k_ hk=>⟨by have:=HZ.out;omega,fun e_=>by have:=HLTi.out k_ e_.symm;omega⟩));have HE4:=Aside0.mk le4;have HX14:=Aside0.mk ((hd.block g12 HZ.out.2).trans HX12.out);have HF14:=Aside0.mk (Kd.F_below HF2n.out hd);have HN14:=Aside0.mk (Kd.N_below HN2n.out hd);have HO14:=Aside0.mk (Kd.R_below HO6.out hd);have HB14:=Aside0.mk (below_step HB6.out hd);have y121:W14.cell? ⟨g12,1,none⟩ = some (.slice B3 xc.length d3):=(blk_cell HX14.out 1).trans rfl;have z121:=blk_frozen HX14.out 1;clear hcallC hcase hd le4 HF3 HX12 HF2n HN2n HO6 HB6)
                      have HXn:=Aside0.mk (blk_put (cs':=#[.int .i64 sm,.slice B4 y.length d4]) HX14.out 1 (.slice B4 y.length d4) rfl)
                      have HFn:=Aside0.mk (Kd.F_far (p:=⟨g12,1,none⟩) HF4.out (fun _ hk=>hk.1.2) (.slice B4 y.length d4))
                      have HF2m:=Aside0.mk (Kd.F_far (p:=⟨g12,1,none⟩) HF14.out (fun _ hk=>hk.2) (.slice B4 y.length d4))
                      have HNn:=Aside0.mk (Kd.N_far (p:=⟨g12,1,none⟩) HN14.out (fun _ hk=>hk.2) (.slice B4 y.length d4))
                      have HOn:=Aside0.mk (Kd.R_far (p:=⟨g12,1,none⟩) HO14.out (fun k_ hk=>by rw [hk];exact HGN.out) (.slice B4 y.length d4))
                      have HBn:=Aside0.mk (below_set HB14.out HG12w.out (v:=.slice B4 y.length d4) (j:=1))
                      clear y121 z121 x121
                      generalize W14.setCell ⟨g12,1,none⟩ (.slice B4 y.length d4) = W15 at HXn HFn HF2m HNn HOn HBn ⊢
                      go_roundw
                      case rel=>exact ⟨j + 1,y,B4,d4,hp,rfl,HLP.out,HE4.out,HFn.out,HXn.out,HF2m.out,HNn.out,HOn.out,HBn.out⟩
                      case measure=>simp [intOf];omega
                    · obtain rfl:j = b.1.f1.length:=by omega
                      rw [List.drop_length] at hlp
                      simp only [lputs,Option.some.injEq] at hlp
                      subst hlp
                      clear hF2 hF hp hj
                      have x121:wi.cell? ⟨g12,1,none⟩ = some (.slice B3 xc.length d3):=(blk_cell HX12.out 1).trans rfl
                      have hxl:xc.length ≤ 1048576:=hg3
                      go_wp2
                      go_loopw [88] (fun v88 wr=>∃ (j:Nat) (od:List Int),j ≤ xc.length ∧ v88 = .int .i64 j ∧ od.length = no ∧ Hid (lincs od (xc.drop j) = some o3) ∧ Hid (Kd.F (Kd.int .i64) wr (fun k_=>(k_ ≠ g_ ∧ k_ ≠ g12) ∧ some k_ ≠ (Value.slice A8 b.2.length c8).ownBlock) B3 xc.length xc) ∧ Hid (wr.heap[g12]? = some (.cells #[.int .i64 sm,.slice B3 xc.length d3] 78 (0,0))) ∧ Hid (Kd.N k78 78 wr w.heap.size (fun k_=>k_ ≠ g_ ∧ k_ ≠ g12) (.slice A8 b.2.length c8) b.2) ∧ Hid (Kd.R (Kd.int .i64) 3 wr w.heap.size (fun k_=>k_ = g_) (.slice (some ⟨g_,0,none⟩) no co) od) ∧ Hid (Below w.heap.size w wr)) (fun v88 _=>xc.length - (intOf v88).toNat)
                      case atStart=>exact ⟨0,oc,Nat.zero_le _,rfl,HL.out,HI'.out,HF3.out,HX12.out,HN2n.out,HO6.out,HB6.out⟩
                      case round =>
                        rename World=>wj
                        clear HI' HF3 HX12 HN2n HO6 HB6 x121 HF2n HL
                        obtain ⟨j,od,hj,rfl,hod,hli,hF,hX,hN,hO,hB⟩:=hrel
                        unfold Hid at hli hF hX hN hO hB
                        have HX12:=Aside0.mk hX
                        have HN2n:=Aside0.mk hN
                        have HO6:=Aside0.mk hO
                        have HB6:=Aside0.mk hB
                        have HF3:=Aside0.mk hF
                        clear hX hN hO hB
                        by_cases hp:j < xc.length
                        · obtain ⟨ad,e0,q0⟩:=Kd.at_int (Kd.F_now hF) (j:Int) (by omega) (by omega)
                          subst e0
                          have hrd:rd xc (j:Int) = xc[j]:=by unfold rd;simp [List.getD_eq_getElem?_getD,hp]
                          rw [Int.toNat_natCast,hrd] at q0
                          rw [List.drop_eq_getElem_cons hp] at hli
                          generalize xc[j] = n0 at hli q0
                          simp only [lincs] at hli
                          split at hli
                          rotate_left
                          · cases hli
                          rename_i hn0
                          have HLI:=Aside0.mk hli
                          obtain ⟨hc1,hc2⟩:=Kd.R_cell (enc:=Value.int .i64) (h1:=fun _=>rfl) (0:Int) (hod.symm ▸ HO6.out) n0 hn0.1 hn0.2
                          have hc1':wj.cell? ⟨g_,n0.toNat,none⟩ = some (.int .i64 (rd od n0)):=hc1
                          have t1:=eq_true (show (0:Int) ≤ (j:Int) by omega)
                          have t2:=eq_true (show (j:Int) < (xc.length:Int) by omega)
                          have t3:=eq_true hp
                          have t4:=eq_true hn0.1
                          have t5:=eq_true (show n0 < (no:Int) from by rw [← hod];exact hn0.2)
                          clear hF hli hrd hc1
                          go_wp2
                          generalize hvv:wrap64 (rd od n0 + 1) = vv at HLI ⊢
                          have HFn:=Aside0.mk (Kd.F_far (p:=⟨g_,n0.toNat,none⟩) HF3.out (fun _ hk=>hk.1.1) (.int .i64 vv))
                          have HXn:=Aside0.mk ((Below.heap_setCell wj ⟨g_,n0.toNat,none⟩ (.int .i64 vv) g12 (fun q_=>HGN.out q_.symm)).trans HX12.out)
                          have HNn:=Aside0.mk (Kd.N_far (p:=⟨g_,n0.toNat,none⟩) HN2n.out (fun _ hk=>hk.1) (.int .i64 vv))
                          have HOn:=Aside0.mk (Kd.R_putn (enc:=Value.int .i64) (h1:=fun _=>rfl) HO6.out n0 vv)
                          have HBn:=Aside0.mk (below_set HB6.out HGE.out (v:=.int .i64 vv) (j:=n0.toNat))
                          clear hc1' hc2 hvv q0
                          generalize wj.setCell ⟨g_,n0.toNat,none⟩ (.int .i64 vv) = W16 at HXn HFn HNn HOn HBn ⊢
                          go_roundw
                          case rel=>exact ⟨j + 1,od.set n0.toNat vv,hp,rfl,by rw [List.length_set];exact hod,HLI.out,HFn.out,HXn.out,HNn.out,HOn.out,HBn.out⟩
                          case measure=>simp [intOf];omega
                        · obtain rfl:j = xc.length:=by omega
                          rw [List.drop_length] at hli
                          simp only [lincs,Option.some.injEq] at hli
                          subst hli
                          clear hF hp hj
                          have x120:wj.cell? ⟨g12,0,none⟩ = some (.int .i64 sm):=(blk_cell HX12.out 0).trans rfl
                          have x121:wj.cell? ⟨g12,1,none⟩ = some (.slice B3 xc.length d3):=(blk_cell HX12.out 1).trans rfl
                          have hb2:b.2.length ≤ 1048576:=hg2.1
                          have HGL:=Aside0.mk (Kd.R_lt HO6.out g_ (by simp [Value.ownBlock]))
                          have HLT:=Aside0.mk (Kd.N_lt HN2n.out)
                          have HNx:=Aside0.mk (Kd.N_mono HN2n.out (ok':=fun k_=>k_ ≠ g_) (fun _ hk=>hk.1))
                          go_wp2_with ((with_reducible refine gate_builtin (b:=.append) (xs:=#[.tmp 99,.tmp 101]) rfl ?_);at_builtin;refine Kd.N_append k78 (w0:=w) w.heap.size rfl (.tmp 99) (.tmp 101) 76 78 (.agg #[.int .i64 0,.slice none 0 0]) 32 rfl Try.underlying76 info78 rfl (by decide) (by decide) (.slice A8 b.2.length c8) b.2 (⟨sm,xc⟩:S78) [.int .i64 sm,.slice B3 xc.length d3] (fun k_=>k_ ≠ g_) (fun k_=>(k_ ≠ g_ ∧ k_ ≠ g12) ∧ some k_ ≠ (Value.slice A8 b.2.length c8).ownBlock) rfl rfl (k78_mkF wj _ (⟨sm,xc⟩:S78) HE3.out HF3.out) (fun k_ hk=>⟨hk.1.1,hk.2⟩) (fun k_ hk=>by have:=HGL.out;omega) HNx.out HB6.out HB6.out.size (by omega) ?_;intro v5 W17 ho hb_ hg_ ha_;have HO17:=Aside0.mk (Kd.R_grown HO6.out hg_ (fun k_ hk e_=>HNx.out.1 k_ e_.symm hk));have HN17:=Aside0.mk ho;have HB17:=Aside0.mk hb_;clear ho hb_ hg_ ha_)
                          go_roundg k1
                          case measure=>have:=HK1.out;omega
                          case rel=>exact ⟨b.2 ++ [(⟨sm,xc⟩:S78)],od,H',⟨by have:=HK1.out;omega⟩,HN17,HO17,⟨hod⟩,HB17⟩
                · rw [if_neg hm] at H
                  obtain rfl:=Option.some.inj H
                  have u1:=eq_false (show ¬(1:Int) < (gs.length:Int) by omega)
                  have u2:=eq_false hm
                  go_wp2
                  go_ret2
                  exact ⟨_,rfl,Kd.R_mono HO.out (fun _ _=>trivial),HB.out⟩

end Go.Proofs.Ytmgkflkfoccgkab.QFnHuffman
