-- Written by this session's own program (wip/x/xprint.py, over the kit's printer); Lean checks it.
import Derived.Test.YtlgnanbnicmdaabQFnExactReadClausex0
import Derived.Test.YtlgnanbnicmdaabQFnExactReadClausex3
namespace Go.Proofs.Ytlgnanbnicmdaab.QFnExactReadClause
open Go.RowKit Go.Proofs.YtlgnanbnicmdaabW.PrintWords Go.Proofs.YtlgnanbnicmdaabW.PrintLast Go.Proofs.YtlgnanbnicmdaabW.PrintMore
attribute [local go_sem] max2_int min2_int max_two min_two max_three min_three max_four min_four   -- for this text's walks alone
set_option linter.unusedVariables false
set_option linter.unusedSimpArgs false

/-! ### spec_l1ReadTerm: function 95 -/
mutual
def spec_l1ReadTerm.l0:Nat → ByteArray → Int → Int → List Int → Int → List Int → Option (List Int × Int × Bool)
 | 0,_,_,_,_,_,_=>none
 | k + 1,x1,x2,x9,x10,x11,x139000=>if 0 ≤ (wrap64 (x9 - 97)) then (if (wrap64 (x9 - 97)) < (x139000.length:Int) then (if x11 < (rd x139000 (wrap64 (x9 - 97))) then (if x11 = 0 then (spec_l1ReadTerm.j1 k x1 x2 x9 x10 x11 40 x139000) else (spec_l1ReadTerm.j1 k x1 x2 x9 x10 x11 44 x139000)) else (if (rd x139000 (wrap64 (x9 - 97))) > 0 then (if x2 = (x1.size:Int) then (some (([]:List Int),x2,false)) else (if 0 ≤ x2 then (if x2 < (x1.size:Int) then (if (bt x1 x2) = 41 then (some (x10,wrap64 (x2 + 1),true)) else (some (([]:List Int),x2,false))) else (none)) else (none))) else (some (x10,x2,true)))) else (none)) else (none)
def spec_l1ReadTerm.j1:Nat → ByteArray → Int → Int → List Int → Int → Int → List Int → Option (List Int × Int × Bool)
 | 0,_,_,_,_,_,_,_=>none
 | k + 1,x1,x2,x9,x10,x11,x12,x139000=>if x2 = (x1.size:Int) then (spec_l1ReadTerm.j2 k x1 x2 x9 x10 x11 true x139000) else (if 0 ≤ x2 then (if x2 < (x1.size:Int) then (spec_l1ReadTerm.j2 k x1 x2 x9 x10 x11 ((bt x1 x2) != x12) x139000) else (none)) else (none))
def spec_l1ReadTerm.j2:Nat → ByteArray → Int → Int → List Int → Int → Bool → List Int → Option (List Int × Int × Bool)
 | 0,_,_,_,_,_,_,_=>none
 | k + 1,x1,x2,x9,x10,x11,x70,x139000=>if x70 = true then (some (([]:List Int),x2,false)) else ((spec_l1ReadTerm.f k x139000 x1 (wrap64 (x2 + 1))).bind fun bt148=>(if bt148.2.2 = true then (if x10.length + bt148.1.length < 17592186044416 then (spec_l1ReadTerm.l0 k x1 bt148.2.1 x9 (x10 ++ bt148.1) (wrap64 (x11 + 1)) x139000) else (none)) else (some (([]:List Int),bt148.2.1,false))))
def spec_l1ReadTerm.f:Nat → List Int → ByteArray → Int → Option (List Int × Int × Bool)
 | 0,_,_,_=>none
 | k + 1,l0_0,a1,a2=>if a2 ≥ (a1.size:Int) then (some (([]:List Int),(a1.size:Int),false)) else (if 0 ≤ a2 then (if a2 < (a1.size:Int) then ((spec_l1In.f (wrap64 (bt a1 a2)) 65 76).bind fun t139=>(if t139 = true then (some ((([wrap64 ((-1) - (wrap64 ((wrap64 (bt a1 a2)) - 65)))]:List Int)),wrap64 (a2 + 1),true)) else ((spec_l1In.f (wrap64 (bt a1 a2)) 97 (wrap64 ((wrap64 (97 + (l0_0.length:Int))) - 1))).bind fun t143=>(if t143 = true then (spec_l1ReadTerm.l0 k a1 (wrap64 (a2 + 1)) (wrap64 (bt a1 a2)) (([wrap64 ((wrap64 (bt a1 a2)) - 97)]:List Int)) 0 l0_0) else (some (([]:List Int),a2,false)))))) else (none)) else (none))
end
theorem spec_l1ReadTerm.mono_l:∀ k,(∀ y0 y1 y2,LeO (spec_l1ReadTerm.f k y0 y1 y2) (spec_l1ReadTerm.f (k + 1) y0 y1 y2)) ∧ (∀ y0 y1 y2 y3 y4 y5,LeO (spec_l1ReadTerm.l0 k y0 y1 y2 y3 y4 y5) (spec_l1ReadTerm.l0 (k + 1) y0 y1 y2 y3 y4 y5)) ∧ (∀ y0 y1 y2 y3 y4 y5 y6,LeO (spec_l1ReadTerm.j1 k y0 y1 y2 y3 y4 y5 y6) (spec_l1ReadTerm.j1 (k + 1) y0 y1 y2 y3 y4 y5 y6)) ∧ (∀ y0 y1 y2 y3 y4 y5 y6,LeO (spec_l1ReadTerm.j2 k y0 y1 y2 y3 y4 y5 y6) (spec_l1ReadTerm.j2 (k + 1) y0 y1 y2 y3 y4 y5 y6))
 | 0=>⟨fun _ _ _ r h=>by simp [spec_l1ReadTerm.f] at h,fun _ _ _ _ _ _ r h=>by simp [spec_l1ReadTerm.l0] at h,fun _ _ _ _ _ _ _ r h=>by simp [spec_l1ReadTerm.j1] at h,fun _ _ _ _ _ _ _ r h=>by simp [spec_l1ReadTerm.j2] at h⟩
 | k + 1=>by
  obtain ⟨ih0,ih1,ih2,ih3⟩:=spec_l1ReadTerm.mono_l k
  refine ⟨?_,?_,?_,?_⟩
  ·intro y0 y1 y2
   unfold spec_l1ReadTerm.f
   exact mO
  ·intro y0 y1 y2 y3 y4 y5
   unfold spec_l1ReadTerm.l0
   exact mO
  ·intro y0 y1 y2 y3 y4 y5 y6
   unfold spec_l1ReadTerm.j1
   exact mO
  ·intro y0 y1 y2 y3 y4 y5 y6
   unfold spec_l1ReadTerm.j2
   exact mO
theorem spec_l1ReadTerm.mono:∀ a0 a1 a2 k,LeO (spec_l1ReadTerm.f k a0 a1 a2) (spec_l1ReadTerm.f (k + 1) a0 a1 a2):=by
 intro a0 a1 a2 k
 obtain ⟨ih0,ih1,ih2,ih3⟩:=spec_l1ReadTerm.mono_l k
 exact ih0 a0 a1 a2
set_option maxHeartbeats 8000000 in
set_option maxRecDepth 100000 in
theorem spec_l1ReadTerm.calls (k:Nat):∀ (A0_0:Option Addr) (c0_0:Nat) (l0_0:List Int) (a1:ByteArray) (a2:Int) (r1:List Int) (r2:Int) (r3:Bool) (w:World) (hr0_0:Kd.C (Kd.int .i64) w A0_0 l0_0.length l0_0) (hc0_0:l0_0.length ≤ c0_0) (h:spec_l1ReadTerm.f k l0_0 a1 a2 = some (r1,r2,r3)),
  Calls Try.prog 95 #[.agg #[.slice A0_0 l0_0.length c0_0],.string a1,.int .i64 a2] w fun e w'=>∃ v0_:Value,e = .returned (.tuple #[v0_,.int .i64 r2,.bool r3]) ∧ Kd.R (Kd.int .i64) 3 w' w.heap.size (fun _=>True) v0_ r1 ∧ Below w.heap.size w w':=by
 induction k using Nat.strongRecOn with
 | _ k ih =>
 intro A0_0 c0_0 l0_0 a1 a2 r1 r2 r3 w hr0_0 hc0_0 h
 cases k with
 | zero=>exact absurd h (by simp [spec_l1ReadTerm.f])
 | succ k =>
 simp only [spec_l1ReadTerm.f] at h
 have hu30:=Try.underlying30
 have HR0_0:=Aside0.mk hr0_0
 have HC0_0:=Aside0.mk hc0_0
 clear hr0_0 hc0_0
 have HB:=Aside0.mk (Below.refl w.heap.size w)
 have H:(if a2 ≥ (a1.size:Int) then (some (([]:List Int),(a1.size:Int),false)) else (if 0 ≤ a2 then (if a2 < (a1.size:Int) then ((spec_l1In.f (wrap64 (bt a1 a2)) 65 76).bind fun t139=>(if t139 = true then (some ((([wrap64 ((-1) - (wrap64 ((wrap64 (bt a1 a2)) - 65)))]:List Int)),wrap64 (a2 + 1),true)) else ((spec_l1In.f (wrap64 (bt a1 a2)) 97 (wrap64 ((wrap64 (97 + (l0_0.length:Int))) - 1))).bind fun t143=>(if t143 = true then (spec_l1ReadTerm.l0 k a1 (wrap64 (a2 + 1)) (wrap64 (bt a1 a2)) (([wrap64 ((wrap64 (bt a1 a2)) - 97)]:List Int)) 0 l0_0) else (some (([]:List Int),a2,false)))))) else (none)) else (none))) = some (r1,r2,r3):=h
 clear h
 by_cases c4:a2 ≥ (a1.size:Int)
 ·rw [if_pos c4] at H
  have c4b0:decide ((a1.size:Int) ≤ a2) = true:=decide_eq_true c4
  clear c4
  simp only [Option.some.injEq,Prod.mk.injEq] at H
  obtain ⟨rfl,rfl,rfl⟩:=H
  go_enter Try.func95,Try.ntmps95
  go_wp2_with (first|((with_reducible refine gate_dst (N:=3) rfl ?_);refine box_event ?hg (N:=3) ?hd (cs:=#[.slice A0_0 l0_0.length c0_0]) (t:=30) ?hr ?_;(case hd=>rfl);(case hg=>rfl);(case hr=>first|(go_simp;done)|(go_simp;rfl));intro gb138 hg w5 hbox hb;have BK138:=Aside0.mk (hbox);have GW138:=Aside0.mk ((hZ:w.heap.size ≤ gb138));have GE138:=Aside0.mk ((hZ:w.heap.size ≤ gb138));replace HB:=Aside0.mk (below_step bH hb);clear hb hbox hg))
  go_ret3
  exact ⟨_,by first|rfl|(simp [errW_none,errW_some] <;> rfl)|(simp [*,errW_none,errW_some] <;> rfl),by first|exact Kd.R_nil _ _ _ _ _|exact Kd.N_nil _ _ _ _ _|exact Kd.V_nil _ _ _ _ _|exact Kd.Q_nil _ _ _ _ _|exact Kd.S_nil _ _ _ _ _,bH⟩
 ·rw [if_neg c4] at H
  have c4b0:decide ((a1.size:Int) ≤ a2) = false:=decide_eq_false c4
  clear c4
  by_cases c6:0 ≤ a2
  ·rw [if_pos c6] at H
   have c6b0:=decide_eq_true c6
   clear c6
   by_cases c7:a2 < (a1.size:Int)
   ·rw [if_pos c7] at H
    have c7b0:=decide_eq_true c7
    clear c7
    replace H:=Option.bind_eq_some_iff.mp H
    obtain ⟨t139,A90,H⟩:=H
    replace H:(if t139 = true then (some ((([wrap64 ((-1) - (wrap64 ((wrap64 (bt a1 a2)) - 65)))]:List Int)),wrap64 (a2 + 1),true)) else ((spec_l1In.f (wrap64 (bt a1 a2)) 97 (wrap64 ((wrap64 (97 + (l0_0.length:Int))) - 1))).bind fun t143=>(if t143 = true then (spec_l1ReadTerm.l0 k a1 (wrap64 (a2 + 1)) (wrap64 (bt a1 a2)) (([wrap64 ((wrap64 (bt a1 a2)) - 97)]:List Int)) 0 l0_0) else (some (([]:List Int),a2,false))))) = some (r1,r2,r3):=H
    have A9:=Aside0.mk A90
    clear A90
    by_cases c10:t139 = true
    ·subst c10
     have H1:(some ((([wrap64 ((-1) - (wrap64 ((wrap64 (bt a1 a2)) - 65)))]:List Int)),wrap64 (a2 + 1),true)) = some (r1,r2,r3):=by rw [if_pos rfl] at H;exact H
     clear H
     have H:=H1
     clear H1
     obtain ⟨y140,hy140⟩:∃ y_:List Int,y_ = (([wrap64 ((-1) - (wrap64 ((wrap64 (bt a1 a2)) - 65)))]:List Int)):=⟨_,rfl⟩
     replace H:(some (y140,wrap64 (a2 + 1),true)) = some (r1,r2,r3):=by first|(rw [hy140];with_reducible exact H)|(have H2_:=(Option.bind_some _ _).symm.trans H;rw [hy140];with_reducible exact H2_)|(have H2_:=(Option.bind_some _ _).symm.trans H;with_reducible exact H2_)|with_reducible exact H|(rw [hy140];exact H)|exact H
     have Ny140:=Aside0.mk hy140
     clear hy140
     simp only [Option.some.injEq,Prod.mk.injEq] at H
     obtain ⟨rfl,rfl,rfl⟩:=H
     go_enter Try.func95,Try.ntmps95
     go_wp2_with (first|((with_reducible refine gate_dst (N:=3) rfl ?_);refine box_event ?hg (N:=3) ?hd (cs:=#[.slice A0_0 l0_0.length c0_0]) (t:=30) ?hr ?_;(case hd=>rfl);(case hg=>rfl);(case hr=>first|(go_simp;done)|(go_simp;rfl));intro gb138 hg w11 hbox hb;have BK138:=Aside0.mk (hbox);have GW138:=Aside0.mk ((hZ:w.heap.size ≤ gb138));have GE138:=Aside0.mk ((hZ:w.heap.size ≤ gb138));replace HB:=Aside0.mk (below_step bH hb);clear hb hbox hg;have p8:0 ≤ (a2:Int):=oD;have q8:a2 < (a1.size:Int):=oD;have hx8:=bt_at a1 a2;replace p8:=eq_true p8;replace q8:=eq_true q8)|((with_reducible refine gate_callee (f:=94) rfl ?_);refine goesL_ (some 27) rfl rfl Try.func94 (by kernel_rfl) rfl #[.int .i64 (wrap64 (bt a1 a2)),.int .i64 65,.int .i64 76] rfl Ya ?_;(with_reducible refine (spec_l1In.calls (wrap64 (bt a1 a2)) 65 76 true _ A9.out).mono ?_);rintro e w' ⟨rfl,⟨nd,rfl⟩⟩;refine ⟨_,rfl,?_⟩)|((with_reducible refine gate_dst (N:=31) rfl ?_);refine Kd.R_lit (Kd.int .i64) _ 3 ?hg (N:=31) ?hd (xs:=([wrap64 ((-1) - (wrap64 ((wrap64 (bt a1 a2)) - 65)))]:List Int)) (inner:=[.int .i64 (wrap64 ((-1) - (wrap64 ((wrap64 (bt a1 a2)) - 65))))]) (ok:=fun _=>True) (okp:=fun _=>True) ?hr ?hp (fun _ hk=>hk) trivial (Below.refl _ _) (Nat.le_refl _) (by simp) ?_;(case hd=>rfl);(case hg=>rfl);(case hr=>first|(go_simp;done)|(go_simp;rfl));(case hp=>exact (Reps.one (show Kd.M (Kd.int .i64) _ _ _ (wrap64 ((-1) - (wrap64 ((wrap64 (bt a1 a2)) - 65)))) [.int .i64 (wrap64 ((-1) - (wrap64 ((wrap64 (bt a1 a2)) - 65))))] from rfl) (Reps.none _ _)));intro v141 w12 ho13 hb hg_ hnew_;clear hg_ hnew_;(first|rw [← Ny140.out] at ho13|(simp only [Int.reduceToNat] at ho13;rw [← Ny140.out] at ho13));have HO142:=Aside0.mk (Kd.R_lower ho13 (below_size bH));replace BK138:=Aside0.mk (blk_below (bB BK138) hb);replace HB:=Aside0.mk (below_step bH hb);clear hb ho13))
     go_ret3
     exact ⟨_,by first|rfl|(simp [errW_none,errW_some] <;> rfl)|(simp [*,errW_none,errW_some] <;> rfl),rR HO142,bH⟩
    ·replace c10:=Bool.eq_false_iff.mpr c10
     subst c10
     have H1:((spec_l1In.f (wrap64 (bt a1 a2)) 97 (wrap64 ((wrap64 (97 + (l0_0.length:Int))) - 1))).bind fun t143=>(if t143 = true then (spec_l1ReadTerm.l0 k a1 (wrap64 (a2 + 1)) (wrap64 (bt a1 a2)) (([wrap64 ((wrap64 (bt a1 a2)) - 97)]:List Int)) 0 l0_0) else (some (([]:List Int),a2,false)))) = some (r1,r2,r3):=by rw [if_neg (show ¬ (false = true) by decide)] at H;exact H
     clear H
     have H:=H1
     clear H1
     replace H:=Option.bind_eq_some_iff.mp H
     obtain ⟨t143,A140,H⟩:=H
     replace H:(if t143 = true then (spec_l1ReadTerm.l0 k a1 (wrap64 (a2 + 1)) (wrap64 (bt a1 a2)) (([wrap64 ((wrap64 (bt a1 a2)) - 97)]:List Int)) 0 l0_0) else (some (([]:List Int),a2,false))) = some (r1,r2,r3):=H
     have A14:=Aside0.mk A140
     clear A140
     by_cases c15:t143 = true
     ·subst c15
      have H1:(spec_l1ReadTerm.l0 k a1 (wrap64 (a2 + 1)) (wrap64 (bt a1 a2)) (([wrap64 ((wrap64 (bt a1 a2)) - 97)]:List Int)) 0 l0_0) = some (r1,r2,r3):=by rw [if_pos rfl] at H;exact H
      clear H
      have H:=H1
      clear H1
      obtain ⟨y144,hy144⟩:∃ y_:List Int,y_ = (([wrap64 ((wrap64 (bt a1 a2)) - 97)]:List Int)):=⟨_,rfl⟩
      replace H:(spec_l1ReadTerm.l0 k a1 (wrap64 (a2 + 1)) (wrap64 (bt a1 a2)) y144 0 l0_0) = some (r1,r2,r3):=by first|(rw [hy144];with_reducible exact H)|(have H2_:=(Option.bind_some _ _).symm.trans H;rw [hy144];with_reducible exact H2_)|(have H2_:=(Option.bind_some _ _).symm.trans H;with_reducible exact H2_)|with_reducible exact H|(rw [hy144];exact H)|exact H
      have Ny144:=Aside0.mk hy144
      clear hy144
      have H':=Aside0.mk H
      clear H
      go_enter Try.func95,Try.ntmps95
      go_wp2_with (first|((with_reducible refine gate_dst (N:=3) rfl ?_);refine box_event ?hg (N:=3) ?hd (cs:=#[.slice A0_0 l0_0.length c0_0]) (t:=30) ?hr ?_;(case hd=>rfl);(case hg=>rfl);(case hr=>first|(go_simp;done)|(go_simp;rfl));intro gb138 hg w16 hbox hb;have BK138:=Aside0.mk (hbox);have GW138:=Aside0.mk ((hZ:w.heap.size ≤ gb138));have GE138:=Aside0.mk ((hZ:w.heap.size ≤ gb138));replace HB:=Aside0.mk (below_step bH hb);clear hb hbox hg;have p8:0 ≤ (a2:Int):=oD;have q8:a2 < (a1.size:Int):=oD;have hx8:=bt_at a1 a2;replace p8:=eq_true p8;replace q8:=eq_true q8)|((with_reducible refine gate_callee (f:=94) rfl ?_);refine goesL_ (some 27) rfl rfl Try.func94 (by kernel_rfl) rfl #[.int .i64 (wrap64 (bt a1 a2)),.int .i64 65,.int .i64 76] rfl Ya ?_;(with_reducible refine (spec_l1In.calls (wrap64 (bt a1 a2)) 65 76 false _ A9.out).mono ?_);rintro e w' ⟨rfl,⟨nd,rfl⟩⟩;refine ⟨_,rfl,?_⟩;have hcz17_0:w16.cell? ⟨gb138,0,none⟩ = some (.slice A0_0 l0_0.length c0_0):=(blk_cell BK138.out 0).trans rfl;have hfz17_0:=blk_frozen BK138.out 0)|((with_reducible refine gate_callee (f:=94) rfl ?_);refine goesL_ (some 40) rfl rfl Try.func94 (by kernel_rfl) rfl #[.int .i64 (wrap64 (bt a1 a2)),.int .i64 97,.int .i64 (wrap64 ((wrap64 (97 + (l0_0.length:Int))) - 1))] rfl Ya ?_;(with_reducible refine (spec_l1In.calls (wrap64 (bt a1 a2)) 97 (wrap64 ((wrap64 (97 + (l0_0.length:Int))) - 1)) true _ A14.out).mono ?_);rintro e w' ⟨rfl,⟨nd,rfl⟩⟩;refine ⟨_,rfl,?_⟩)|((with_reducible refine gate_dst (N:=45) rfl ?_);refine Kd.R_lit (Kd.int .i64) _ 3 ?hg (N:=45) ?hd (xs:=([wrap64 ((wrap64 (bt a1 a2)) - 97)]:List Int)) (inner:=[.int .i64 (wrap64 ((wrap64 (bt a1 a2)) - 97))]) (ok:=fun _=>True) (okp:=fun _=>True) ?hr ?hp (fun _ hk=>hk) trivial (Below.refl _ _) (Nat.le_refl _) (by simp) ?_;(case hd=>rfl);(case hg=>rfl);(case hr=>first|(go_simp;done)|(go_simp;rfl));(case hp=>exact (Reps.one (show Kd.M (Kd.int .i64) _ _ _ (wrap64 ((wrap64 (bt a1 a2)) - 97)) [.int .i64 (wrap64 ((wrap64 (bt a1 a2)) - 97))] from rfl) (Reps.none _ _)));intro v145 w18 ho19 hb hg_ hnew_;clear hg_ hnew_;(first|rw [← Ny144.out] at ho19|(simp only [Int.reduceToNat] at ho19;rw [← Ny144.out] at ho19));have HO146:=Aside0.mk (Kd.R_lower ho19 (below_size bH));replace BK138:=Aside0.mk (blk_below (bB BK138) hb);replace HB:=Aside0.mk (below_step bH hb);clear hb ho19))
      go_loopg [2,10,11] k (fun kq v2 v10 v11 w'=>∃ (x2_1:Int) (x10_1:List Int) (x11_1:Int),v2 = .int .i64 x2_1 ∧ v11 = .int .i64 x11_1 ∧ Aside0 (spec_l1ReadTerm.l0 kq a1 x2_1 (wrap64 (bt a1 a2)) x10_1 x11_1 l0_0 = some (r1,r2,r3)) ∧ Aside0 (kq ≤ k) ∧ Aside0 (Kd.R (Kd.int .i64) 3 w' w.heap.size (fun _=>True) v10 x10_1) ∧ Aside0 (w'.heap[gb138]? = some (.cells #[(.slice A0_0 l0_0.length c0_0)] 30 (0,0))) ∧ Aside0 (Below w.heap.size w w'))
      case atStart=>exact ⟨(wrap64 (a2 + 1)),(y144),(0),Yd,Yd,H',⟨Nat.le_refl _⟩,⟨rR HO146⟩,⟨by (with_reducible repeat (first|refine blk_drewN ?_ _|refine blk_drew ?_|refine blk_alloc ?_ _));exact BK138.out⟩,⟨bH⟩⟩
      case round =>
       clear H'
       try clear c1
       try clear p2
       try clear c4
       try clear c4b0
       try clear c6
       try clear c6b0
       try clear p6
       try clear c7
       try clear c7b0
       try clear p8
       try clear q8
       try clear hx8
       try clear c9
       try clear c10
       try clear c15
       try clear hcz17_0
       try clear hfz17_0
       try clear p8
       try clear q8
       obtain ⟨x2_1,x10_1,x11_1,rfl,rfl,HA,HK1,HO_10,BK138,HB⟩:=hrel
       cases gk with
       | zero=>exact absurd HA.out (by simp [spec_l1ReadTerm.l0])
       | succ k1 =>
        have H:=HA.out
        clear HA
        simp only [spec_l1ReadTerm.l0] at H
        obtain ⟨ji20,hji20⟩:∃ j_:Int,(wrap64 ((wrap64 (bt a1 a2)) - 97)) = j_:=⟨_,rfl⟩
        replace H:(if 0 ≤ (ji20) then (if (ji20) < (l0_0.length:Int) then (if x11_1 < (rd l0_0 (ji20)) then (if x11_1 = 0 then (spec_l1ReadTerm.j1 k1 a1 x2_1 (wrap64 (bt a1 a2)) x10_1 x11_1 40 l0_0) else (spec_l1ReadTerm.j1 k1 a1 x2_1 (wrap64 (bt a1 a2)) x10_1 x11_1 44 l0_0)) else (if (rd l0_0 (ji20)) > 0 then (if x2_1 = (a1.size:Int) then (some (([]:List Int),x2_1,false)) else (if 0 ≤ x2_1 then (if x2_1 < (a1.size:Int) then (if (bt a1 x2_1) = 41 then (some (x10_1,wrap64 (x2_1 + 1),true)) else (some (([]:List Int),x2_1,false))) else (none)) else (none))) else (some (x10_1,x2_1,true)))) else (none)) else (none)) = some (r1,r2,r3):=by first|(rw [hji20] at H;exact H)|(simp only [hji20] at H ⊢;exact H)
        have hji20w:(IntKind.i64.wrap ((wrap64 (bt a1 a2)) - 97)) = ji20:=(i64_w _).trans hji20
        by_cases c21:0 ≤ (ji20)
        ·rw [if_pos c21] at H
         have c21b0:=decide_eq_true c21
         clear c21
         by_cases c22:(ji20) < (l0_0.length:Int)
         ·rw [if_pos c22] at H
          have c22b0:=decide_eq_true c22
          clear c22
          by_cases c23:x11_1 < (rd l0_0 (ji20))
          ·rw [if_pos c23] at H
           have c23b0:=decide_eq_true c23
           clear c23
           have HC24:=Aside0.mk H
           clear H
           have hcz25_0:wr.cell? ⟨gb138,0,none⟩ = some (.slice A0_0 l0_0.length c0_0):=(blk_cell BK138.out 0).trans rfl
           have hfz25_0:=blk_frozen BK138.out 0
           have p147:0 ≤ ((ji20):Int):=oD
           have q147:(ji20) < (l0_0.length:Int):=oD
           obtain ⟨ad147,e147,hx147_0⟩:=Kd.at_int HR0_0.out (ji20) p147 q147
           cases e147
           replace hx147_0:=(HB.out.cell (World.block_lt_of_cell? w _ hx147_0)).trans hx147_0
           replace p147:=eq_true p147
           replace q147:=eq_true q147
           go_upto_if 59 with (fail)
           go_cut [12] (fun v12 wc=>∃ (kq:Nat) (x12_23:Int),v12 = .int .u8 x12_23 ∧ Aside0 (spec_l1ReadTerm.j1 kq a1 x2_1 (wrap64 (bt a1 a2)) x10_1 x11_1 x12_23 l0_0 = some (r1,r2,r3)) ∧ Aside0 (kq ≤ k1) ∧ Aside0 (Kd.R (Kd.int .i64) 3 wc w.heap.size (fun _=>True) u10 x10_1) ∧ Aside0 (wc.heap[gb138]? = some (.cells #[(.slice (some ad147) l0_0.length c0_0)] 30 (0,0))) ∧ Aside0 (Below w.heap.size w wc))
           case first =>
            have H:=HC24.out
            clear HC24
            by_cases c26:x11_1 = 0
            ·rw [if_pos c26] at H
             have c26b0:(x11_1 == 0) = true:=beq_iff_eq.mpr c26
             have c26b1:(x11_1 != 0) = false:=bne_eq_false_iff_eq.mpr c26
             clear c26
             (first|rw [c26b0]|(simp only [i64_w,i32_w];rw [c26b0])|skip)
             have H':=Aside0.mk H
             clear H
             go_wp2
             go_meet
             case rel=>exact ⟨_,(40),Yd,H',⟨by have:=HK1.out;first|omega|exact Nat.le_refl _⟩,⟨rR HO_10⟩,⟨by (with_reducible repeat (first|refine blk_drewN ?_ _|refine blk_drew ?_|refine blk_alloc ?_ _));exact BK138.out⟩,⟨bH⟩⟩
            ·rw [if_neg c26] at H
             have c26b0:(x11_1 == 0) = false:=beq_eq_false_iff_ne.mpr c26
             have c26b1:(x11_1 != 0) = true:=bne_iff_ne.mpr c26
             (first|rw [c26b0]|(simp only [i64_w,i32_w];rw [c26b0])|skip)
             have H':=Aside0.mk H
             clear H
             go_wp2
             go_meet
             case rel=>exact ⟨_,(44),Yd,H',⟨by have:=HK1.out;first|omega|exact Nat.le_refl _⟩,⟨rR HO_10⟩,⟨by (with_reducible repeat (first|refine blk_drewN ?_ _|refine blk_drew ?_|refine blk_alloc ?_ _));exact BK138.out⟩,⟨bH⟩⟩
           case rest =>
            clear HC24
            try clear c1
            try clear p1
            try clear q1
            try clear hx1
            try clear c2
            try clear p2
            try clear c4
            try clear c4b0
            try clear c6
            try clear c6b0
            try clear p6
            try clear c7
            try clear c7b0
            try clear p8
            try clear q8
            try clear hx8
            try clear c9
            try clear c10
            try clear p14
            try clear q14
            try clear hx14
            try clear c15
            try clear c21
            try clear c21b0
            try clear c22
            try clear c22b0
            try clear c23
            try clear c23b0
            try clear c26
            try clear c26b0
            try clear c26b1
            try clear hcz17_0
            try clear hcz25_0
            try clear hfz17_0
            try clear hfz25_0
            try clear hx147_0
            try clear p147
            try clear p2
            try clear p6
            try clear p8
            try clear q147
            try clear q8
            obtain ⟨kq,x12_23,rfl,HA,HJ23,HO_10,BK138,HB⟩:=hcut
            cases kq with
            | zero=>exact absurd HA.out (by simp [spec_l1ReadTerm.j1])
            | succ kj23 =>
             have H:=HA.out
             clear HA
             simp only [spec_l1ReadTerm.j1] at H
             have HC27:=Aside0.mk H
             clear H
             go_upto_region 16 with (fail)
             go_cut [70] (fun v70 wc=>∃ (kq:Nat) (x70_26:Bool),v70 = .bool x70_26 ∧ Aside0 (spec_l1ReadTerm.j2 kq a1 x2_1 (wrap64 (bt a1 a2)) x10_1 x11_1 x70_26 l0_0 = some (r1,r2,r3)) ∧ Aside0 (kq ≤ kj23) ∧ Aside0 (Kd.R (Kd.int .i64) 3 wc w.heap.size (fun _=>True) u10 x10_1) ∧ Aside0 (wc.heap[gb138]? = some (.cells #[(.slice (some ad147) l0_0.length c0_0)] 30 (0,0))) ∧ Aside0 (Below w.heap.size w wc))
             case first =>
              have H:=HC27.out
              clear HC27
              by_cases c28:x2_1 = (a1.size:Int)
              ·rw [if_pos c28] at H
               have c28b0:(x2_1 == (a1.size:Int)) = true:=beq_iff_eq.mpr c28
               have c28b1:(x2_1 != (a1.size:Int)) = false:=bne_eq_false_iff_eq.mpr c28
               clear c28
               (first|rw [c28b0]|(simp only [i64_w,i32_w];rw [c28b0])|skip)
               have H':=Aside0.mk H
               clear H
               go_wp2
               go_meet
               case rel=>exact ⟨_,(true),Yd,H',⟨by have:=HK1.out;have:=HJ23.out;first|omega|exact Nat.le_refl _⟩,⟨rR HO_10⟩,⟨by (with_reducible repeat (first|refine blk_drewN ?_ _|refine blk_drew ?_|refine blk_alloc ?_ _));exact BK138.out⟩,⟨bH⟩⟩
              ·rw [if_neg c28] at H
               have c28b0:(x2_1 == (a1.size:Int)) = false:=beq_eq_false_iff_ne.mpr c28
               have c28b1:(x2_1 != (a1.size:Int)) = true:=bne_iff_ne.mpr c28
               (first|rw [c28b0]|(simp only [i64_w,i32_w];rw [c28b0])|skip)
               by_cases c29:0 ≤ x2_1
               ·rw [if_pos c29] at H
                have c29b0:=decide_eq_true c29
                clear c29
                by_cases c30:x2_1 < (a1.size:Int)
                ·rw [if_pos c30] at H
                 have c30b0:=decide_eq_true c30
                 clear c30
                 have H':=Aside0.mk H
                 clear H
                 have p31:0 ≤ (x2_1:Int):=oD
                 have q31:x2_1 < (a1.size:Int):=oD
                 have hx31:=bt_at a1 x2_1
                 replace p31:=eq_true p31
                 replace q31:=eq_true q31
                 go_wp2
                 go_meet
                 case rel=>exact ⟨_,(((bt a1 x2_1) != x12_23)),Yd,H',⟨by have:=HK1.out;have:=HJ23.out;first|omega|exact Nat.le_refl _⟩,⟨rR HO_10⟩,⟨by (with_reducible repeat (first|refine blk_drewN ?_ _|refine blk_drew ?_|refine blk_alloc ?_ _));exact BK138.out⟩,⟨bH⟩⟩
                ·rw [if_neg c30] at H
                 exact absurd H (by simp)
               ·rw [if_neg c29] at H
                exact absurd H (by simp)
             case rest =>
              clear HC27
              try clear c1
              try clear p1
              try clear q1
              try clear hx1
              try clear c2
              try clear p2
              try clear c3
              try clear p3
              try clear q3
              try clear hx3
              try clear c4
              try clear c4b0
              try clear c6
              try clear c6b0
              try clear p6
              try clear c7
              try clear c7b0
              try clear p8
              try clear q8
              try clear hx8
              try clear c9
              try clear c10
              try clear p14
              try clear q14
              try clear hx14
              try clear c15
              try clear c21
              try clear c21b0
              try clear c22
              try clear c22b0
              try clear c23
              try clear c23b0
              try clear c26
              try clear c26b0
              try clear c26b1
              try clear c28
              try clear c28b0
              try clear c28b1
              try clear c29
              try clear c29b0
              try clear c30
              try clear c30b0
              try clear p31
              try clear q31
              try clear hx31
              try clear hcz17_0
              try clear hcz25_0
              try clear hfz17_0
              try clear hfz25_0
              try clear hx147_0
              try clear p1
              try clear p14
              try clear p147
              try clear p2
              try clear p31
              try clear p6
              try clear p8
              try clear q1
              try clear q14
              try clear q147
              try clear q31
              try clear q8
              obtain ⟨kq,x70_26,rfl,HA,HJ26,HO_10,BK138,HB⟩:=hcut
              cases kq with
              | zero=>exact absurd HA.out (by simp [spec_l1ReadTerm.j2])
              | succ kj26 =>
               have H:=HA.out
               clear HA
               simp only [spec_l1ReadTerm.j2] at H
               by_cases c32:x70_26 = true
               ·subst c32
                have H1:(some (([]:List Int),x2_1,false)) = some (r1,r2,r3):=by rw [if_pos rfl] at H;exact H
                clear H
                have H:=H1
                clear H1
                simp only [Option.some.injEq,Prod.mk.injEq] at H
                obtain ⟨rfl,rfl,rfl⟩:=H
                go_wp2
                go_ret3
                exact ⟨_,by first|rfl|(simp [errW_none,errW_some] <;> rfl)|(simp only [← hji20];first|rfl|(simp [errW_none,errW_some] <;> rfl))|(simp [*,errW_none,errW_some] <;> rfl),by first|exact Kd.R_nil _ _ _ _ _|exact Kd.N_nil _ _ _ _ _|exact Kd.V_nil _ _ _ _ _|exact Kd.Q_nil _ _ _ _ _|exact Kd.S_nil _ _ _ _ _,bH⟩
               ·replace c32:=Bool.eq_false_iff.mpr c32
                subst c32
                have H1:((spec_l1ReadTerm.f kj26 l0_0 a1 (wrap64 (x2_1 + 1))).bind fun bt148=>(if bt148.2.2 = true then (if x10_1.length + bt148.1.length < 17592186044416 then (spec_l1ReadTerm.l0 kj26 a1 bt148.2.1 (wrap64 (bt a1 a2)) (x10_1 ++ bt148.1) (wrap64 (x11_1 + 1)) l0_0) else (none)) else (some (([]:List Int),bt148.2.1,false)))) = some (r1,r2,r3):=by rw [if_neg (show ¬ (false = true) by decide)] at H;exact H
                clear H
                have H:=H1
                clear H1
                replace H:=Option.bind_eq_some_iff.mp H
                obtain ⟨⟨t148,t151,t152⟩,A330,H⟩:=H
                replace H:(if t152 = true then (if x10_1.length + t148.length < 17592186044416 then (spec_l1ReadTerm.l0 kj26 a1 t151 (wrap64 (bt a1 a2)) (x10_1 ++ t148) (wrap64 (x11_1 + 1)) l0_0) else (none)) else (some (([]:List Int),t151,false))) = some (r1,r2,r3):=H
                have A33:=Aside0.mk A330
                clear A330
                by_cases c34:t152 = true
                ·subst c34
                 have H1:(if x10_1.length + t148.length < 17592186044416 then (spec_l1ReadTerm.l0 kj26 a1 t151 (wrap64 (bt a1 a2)) (x10_1 ++ t148) (wrap64 (x11_1 + 1)) l0_0) else (none)) = some (r1,r2,r3):=by rw [if_pos rfl] at H;exact H
                 clear H
                 have H:=H1
                 clear H1
                 by_cases c35:x10_1.length + t148.length < 17592186044416
                 ·rw [if_pos c35] at H
                  have LMc35:=Aside0.mk c35
                  clear c35
                  obtain ⟨y153,hy153⟩:∃ y_:List Int,y_ = (x10_1 ++ t148):=⟨_,rfl⟩
                  replace H:(spec_l1ReadTerm.l0 kj26 a1 t151 (wrap64 (bt a1 a2)) y153 (wrap64 (x11_1 + 1)) l0_0) = some (r1,r2,r3):=by first|(rw [hy153];with_reducible exact H)|(have H2_:=(Option.bind_some _ _).symm.trans H;rw [hy153];with_reducible exact H2_)|(have H2_:=(Option.bind_some _ _).symm.trans H;with_reducible exact H2_)|with_reducible exact H|(rw [hy153];exact H)|exact H
                  have Ny153:=Aside0.mk hy153
                  clear hy153
                  have H':=Aside0.mk H
                  clear H
                  have hcz36_0:wc.cell? ⟨gb138,0,none⟩ = some (.slice (some ad147) l0_0.length c0_0):=(blk_cell BK138.out 0).trans rfl
                  have hfz36_0:=blk_frozen BK138.out 0
                  go_wp2_with (first|((with_reducible refine gate_callee (f:=95) rfl ?_);refine goesL_ (some 77) rfl rfl Try.func95 (by kernel_rfl) rfl #[.agg #[.slice (some ad147) l0_0.length c0_0],.string a1,.int .i64 (wrap64 (x2_1 + 1))] rfl Ya ?_;(with_reducible refine (ih kj26 (by have:=HK1.out;have:=HJ23.out;have:=HJ26.out;omega) _ _ l0_0 a1 (wrap64 (x2_1 + 1)) t148 t151 true _ ?side1 ?side2 A33.out).mono ?_);(case side1=>exact sC HR0_0);(case side2=>exact HC0_0.out);rintro e w37 ⟨v149,rfl,ho0,hb⟩;refine ⟨_,rfl,?_⟩;have HO150:=Aside0.mk (Kd.R_lower (Kd.R_new' ho0 (Kd.R_lt (rR HO_10))) (below_size bH));replace HO_10:=Aside0.mk (Kd.R_elder' (rR HO_10) (Kd.R_base ho0) hb);replace BK138:=Aside0.mk (blk_below (bB BK138) hb);replace HB:=Aside0.mk (below_step bH hb);(try clear hb);(try clear hb2);(try clear hk);(try clear hi);(try clear ho0);obtain ⟨Ao39,co39,eo39⟩:=Kd.R_slice HO150.out;subst eo39)|((with_reducible refine gate_builtin (b:=.append) (xs:=#[.tmp 84,.tmp 85]) rfl ?_);at_builtin;refine Kd.R_append_rows (Kd.int .i64) (w0:=w) w.heap.size rfl (.tmp 84) (.tmp 85) 22 3 (.int .i64 0) 8 rfl Try.underlying22 info3 rfl (by decide) (by first|decide|omega) u10 x10_1 t148 _ _ _ (fun k_=>some k_ ≠ (.slice Ao39 t148.length co39:Value).ownBlock) (fun _=>False) rfl rfl ?aO ?aR (fun _ _ h=>h) (fun _ h=>h.elim) ?aF ?aB ?aS ?aL ?_;(case aR=>repeat (first|exact (Kd.R_reads' HO150.out).2.2|(with_reducible refine Kd.C_alloc ?_ _)|(with_reducible refine Kd.C_drewN ?_ _)|(with_reducible refine Kd.C_drew ?_)));(case aB=>exact bH);(case aF=>exact (fun k_ hk=>Kd.fresh' (Kd.R_lt (rR HO150)) k_ hk));(case aO=>exact (by (with_reducible repeat (first|apply Kd.R_alloc|apply Kd.R_drewN|apply Kd.R_drew));exact Kd.R_mono HO_10.out (fun _ hk=>hk.2)));(case aS=>exact (below_size bH));(case aL=>have:=LMc35.out;omega);intro v154 w38 ho hb hg hat;rw [← Ny153.out] at ho;have n0_:=Aside0.mk (blk_grown (bB BK138) hg (Kd.R_ne HO_10.out BK138.out (by decide)));have n1_:=Aside0.mk (Kd.R_after (ok:=(fun _=>True)) (rR HO150) hg hat);have n2_:=Aside0.mk (hb);have n3_:=Aside0.mk (ho);clear BK138;clear HO150;clear HB;clear HO_10;have BK138:=n0_;have HO150:=n1_;have HB:=n2_;have HO155:=n3_;clear n0_ n1_ n2_ n3_;clear ho hb hg hat))
                  try subst hji20
                  go_roundg kj26
                  case measure=>have:=HK1.out;have:=HJ23.out;have:=HJ26.out;omega
                  case rel=>exact ⟨(t151),(y153),(wrap64 (x11_1 + 1)),Yd,Yd,H',⟨by have:=HK1.out;have:=HJ23.out;have:=HJ26.out;omega⟩,⟨by (with_reducible repeat (first|apply Kd.R_alloc|apply Kd.R_drewN|apply Kd.R_drew));exact Kd.R_mono HO155.out (fun _ hk=>trivial)⟩,⟨by (with_reducible repeat (first|refine blk_drewN ?_ _|refine blk_drew ?_|refine blk_alloc ?_ _));exact BK138.out⟩,⟨bH⟩⟩
                 ·rw [if_neg c35] at H
                  exact absurd H (by simp)
                ·replace c34:=Bool.eq_false_iff.mpr c34
                 subst c34
                 have H1:(some (([]:List Int),t151,false)) = some (r1,r2,r3):=by rw [if_neg (show ¬ (false = true) by decide)] at H;exact H
                 clear H
                 have H:=H1
                 clear H1
                 simp only [Option.some.injEq,Prod.mk.injEq] at H
                 obtain ⟨rfl,rfl,rfl⟩:=H
                 have hcz40_0:wc.cell? ⟨gb138,0,none⟩ = some (.slice (some ad147) l0_0.length c0_0):=(blk_cell BK138.out 0).trans rfl
                 have hfz40_0:=blk_frozen BK138.out 0
                 go_wp2_with (first|((with_reducible refine gate_callee (f:=95) rfl ?_);refine goesL_ (some 77) rfl rfl Try.func95 (by kernel_rfl) rfl #[.agg #[.slice (some ad147) l0_0.length c0_0],.string a1,.int .i64 (wrap64 (x2_1 + 1))] rfl Ya ?_;(with_reducible refine (ih kj26 (by have:=HK1.out;have:=HJ23.out;have:=HJ26.out;omega) _ _ l0_0 a1 (wrap64 (x2_1 + 1)) t148 t151 false _ ?side1 ?side2 A33.out).mono ?_);(case side1=>exact sC HR0_0);(case side2=>exact HC0_0.out);rintro e w41 ⟨v149,rfl,ho0,hb⟩;refine ⟨_,rfl,?_⟩;have HO150:=Aside0.mk (Kd.R_lower (Kd.R_new' ho0 (Kd.R_lt (rR HO_10))) (below_size bH));replace HO_10:=Aside0.mk (Kd.R_elder' (rR HO_10) (Kd.R_base ho0) hb);replace BK138:=Aside0.mk (blk_below (bB BK138) hb);replace HB:=Aside0.mk (below_step bH hb);(try clear hb);(try clear hb2);(try clear hk);(try clear hi);(try clear ho0)))
                 go_ret3
                 exact ⟨_,by first|rfl|(simp [errW_none,errW_some] <;> rfl)|(simp only [← hji20];first|rfl|(simp [errW_none,errW_some] <;> rfl))|(simp [*,errW_none,errW_some] <;> rfl),by first|exact Kd.R_nil _ _ _ _ _|exact Kd.N_nil _ _ _ _ _|exact Kd.V_nil _ _ _ _ _|exact Kd.Q_nil _ _ _ _ _|exact Kd.S_nil _ _ _ _ _,bH⟩
          ·rw [if_neg c23] at H
           have c23b0:decide (x11_1 < (rd l0_0 (ji20))) = false:=decide_eq_false c23
           clear c23
           by_cases c42:(rd l0_0 (ji20)) > 0
           ·rw [if_pos c42] at H
            have c42b0:decide (0 < (rd l0_0 (ji20))) = true:=decide_eq_true c42
            clear c42
            by_cases c43:x2_1 = (a1.size:Int)
            ·rw [if_pos c43] at H
             have c43b0:(x2_1 == (a1.size:Int)) = true:=beq_iff_eq.mpr c43
             have c43b1:(x2_1 != (a1.size:Int)) = false:=bne_eq_false_iff_eq.mpr c43
             clear c43
             simp only [Option.some.injEq,Prod.mk.injEq] at H
             obtain ⟨rfl,rfl,rfl⟩:=H
             have hcz44_0:wr.cell? ⟨gb138,0,none⟩ = some (.slice A0_0 l0_0.length c0_0):=(blk_cell BK138.out 0).trans rfl
             have hfz44_0:=blk_frozen BK138.out 0
             have p147:0 ≤ ((ji20):Int):=oD
             have q147:(ji20) < (l0_0.length:Int):=oD
             obtain ⟨ad147,e147,hx147_0⟩:=Kd.at_int HR0_0.out (ji20) p147 q147
             cases e147
             replace hx147_0:=(HB.out.cell (World.block_lt_of_cell? w _ hx147_0)).trans hx147_0
             replace p147:=eq_true p147
             replace q147:=eq_true q147
             have p156:0 ≤ ((ji20):Int):=oD
             have q156:(ji20) < (l0_0.length:Int):=oD
             obtain ⟨ad156,e156,hx156_0⟩:=Kd.at_int HR0_0.out (ji20) p156 q156
             obtain rfl:ad147 = ad156:=(by injection e156)
             replace hx156_0:=(HB.out.cell (World.block_lt_of_cell? w _ hx156_0)).trans hx156_0
             replace p156:=eq_true p156
             replace q156:=eq_true q156
             go_wp2
             go_ret3
             exact ⟨_,by first|rfl|(simp [errW_none,errW_some] <;> rfl)|(simp only [← hji20];first|rfl|(simp [errW_none,errW_some] <;> rfl))|(simp [*,errW_none,errW_some] <;> rfl),by first|exact Kd.R_nil _ _ _ _ _|exact Kd.N_nil _ _ _ _ _|exact Kd.V_nil _ _ _ _ _|exact Kd.Q_nil _ _ _ _ _|exact Kd.S_nil _ _ _ _ _,bH⟩
            ·rw [if_neg c43] at H
             have c43b0:(x2_1 == (a1.size:Int)) = false:=beq_eq_false_iff_ne.mpr c43
             have c43b1:(x2_1 != (a1.size:Int)) = true:=bne_iff_ne.mpr c43
             by_cases c45:0 ≤ x2_1
             ·rw [if_pos c45] at H
              have c45b0:=decide_eq_true c45
              clear c45
              by_cases c46:x2_1 < (a1.size:Int)
              ·rw [if_pos c46] at H
               have c46b0:=decide_eq_true c46
               clear c46
               by_cases c48:(bt a1 x2_1) = 41
               ·rw [if_pos c48] at H
                have c48b0:((bt a1 x2_1) == 41) = true:=beq_iff_eq.mpr c48
                have c48b1:((bt a1 x2_1) != 41) = false:=bne_eq_false_iff_eq.mpr c48
                clear c48
                simp only [Option.some.injEq,Prod.mk.injEq] at H
                obtain ⟨rfl,rfl,rfl⟩:=H
                have hcz49_0:wr.cell? ⟨gb138,0,none⟩ = some (.slice A0_0 l0_0.length c0_0):=(blk_cell BK138.out 0).trans rfl
                have hfz49_0:=blk_frozen BK138.out 0
                have p147:0 ≤ ((ji20):Int):=oD
                have q147:(ji20) < (l0_0.length:Int):=oD
                obtain ⟨ad147,e147,hx147_0⟩:=Kd.at_int HR0_0.out (ji20) p147 q147
                cases e147
                replace hx147_0:=(HB.out.cell (World.block_lt_of_cell? w _ hx147_0)).trans hx147_0
                replace p147:=eq_true p147
                replace q147:=eq_true q147
                have p156:0 ≤ ((ji20):Int):=oD
                have q156:(ji20) < (l0_0.length:Int):=oD
                obtain ⟨ad156,e156,hx156_0⟩:=Kd.at_int HR0_0.out (ji20) p156 q156
                obtain rfl:ad147 = ad156:=(by injection e156)
                replace hx156_0:=(HB.out.cell (World.block_lt_of_cell? w _ hx156_0)).trans hx156_0
                replace p156:=eq_true p156
                replace q156:=eq_true q156
                have p47:0 ≤ (x2_1:Int):=oD
                have q47:x2_1 < (a1.size:Int):=oD
                have hx47:=bt_at a1 x2_1
                replace p47:=eq_true p47
                replace q47:=eq_true q47
                go_wp2
                go_ret3
                exact ⟨_,by first|rfl|(simp [errW_none,errW_some] <;> rfl)|(simp only [← hji20];first|rfl|(simp [errW_none,errW_some] <;> rfl))|(simp [*,errW_none,errW_some] <;> rfl),rR HO_10,bH⟩
               ·rw [if_neg c48] at H
                have c48b0:((bt a1 x2_1) == 41) = false:=beq_eq_false_iff_ne.mpr c48
                have c48b1:((bt a1 x2_1) != 41) = true:=bne_iff_ne.mpr c48
                simp only [Option.some.injEq,Prod.mk.injEq] at H
                obtain ⟨rfl,rfl,rfl⟩:=H
                have hcz50_0:wr.cell? ⟨gb138,0,none⟩ = some (.slice A0_0 l0_0.length c0_0):=(blk_cell BK138.out 0).trans rfl
                have hfz50_0:=blk_frozen BK138.out 0
                have p147:0 ≤ ((ji20):Int):=oD
                have q147:(ji20) < (l0_0.length:Int):=oD
                obtain ⟨ad147,e147,hx147_0⟩:=Kd.at_int HR0_0.out (ji20) p147 q147
                cases e147
                replace hx147_0:=(HB.out.cell (World.block_lt_of_cell? w _ hx147_0)).trans hx147_0
                replace p147:=eq_true p147
                replace q147:=eq_true q147
                have p156:0 ≤ ((ji20):Int):=oD
                have q156:(ji20) < (l0_0.length:Int):=oD
                obtain ⟨ad156,e156,hx156_0⟩:=Kd.at_int HR0_0.out (ji20) p156 q156
                obtain rfl:ad147 = ad156:=(by injection e156)
                replace hx156_0:=(HB.out.cell (World.block_lt_of_cell? w _ hx156_0)).trans hx156_0
                replace p156:=eq_true p156
                replace q156:=eq_true q156
                have p47:0 ≤ (x2_1:Int):=oD
                have q47:x2_1 < (a1.size:Int):=oD
                have hx47:=bt_at a1 x2_1
                replace p47:=eq_true p47
                replace q47:=eq_true q47
                go_wp2
                go_ret3
                exact ⟨_,by first|rfl|(simp [errW_none,errW_some] <;> rfl)|(simp only [← hji20];first|rfl|(simp [errW_none,errW_some] <;> rfl))|(simp [*,errW_none,errW_some] <;> rfl),by first|exact Kd.R_nil _ _ _ _ _|exact Kd.N_nil _ _ _ _ _|exact Kd.V_nil _ _ _ _ _|exact Kd.Q_nil _ _ _ _ _|exact Kd.S_nil _ _ _ _ _,bH⟩
              ·rw [if_neg c46] at H
               exact absurd H (by simp)
             ·rw [if_neg c45] at H
              exact absurd H (by simp)
           ·rw [if_neg c42] at H
            have c42b0:decide (0 < (rd l0_0 (ji20))) = false:=decide_eq_false c42
            clear c42
            simp only [Option.some.injEq,Prod.mk.injEq] at H
            obtain ⟨rfl,rfl,rfl⟩:=H
            have hcz51_0:wr.cell? ⟨gb138,0,none⟩ = some (.slice A0_0 l0_0.length c0_0):=(blk_cell BK138.out 0).trans rfl
            have hfz51_0:=blk_frozen BK138.out 0
            have p147:0 ≤ ((ji20):Int):=oD
            have q147:(ji20) < (l0_0.length:Int):=oD
            obtain ⟨ad147,e147,hx147_0⟩:=Kd.at_int HR0_0.out (ji20) p147 q147
            cases e147
            replace hx147_0:=(HB.out.cell (World.block_lt_of_cell? w _ hx147_0)).trans hx147_0
            replace p147:=eq_true p147
            replace q147:=eq_true q147
            have p156:0 ≤ ((ji20):Int):=oD
            have q156:(ji20) < (l0_0.length:Int):=oD
            obtain ⟨ad156,e156,hx156_0⟩:=Kd.at_int HR0_0.out (ji20) p156 q156
            obtain rfl:ad147 = ad156:=(by injection e156)
            replace hx156_0:=(HB.out.cell (World.block_lt_of_cell? w _ hx156_0)).trans hx156_0
            replace p156:=eq_true p156
            replace q156:=eq_true q156
            go_wp2
            go_ret3
            exact ⟨_,by first|rfl|(simp [errW_none,errW_some] <;> rfl)|(simp only [← hji20];first|rfl|(simp [errW_none,errW_some] <;> rfl))|(simp [*,errW_none,errW_some] <;> rfl),rR HO_10,bH⟩
         ·rw [if_neg c22] at H
          exact absurd H (by simp)
        ·rw [if_neg c21] at H
         exact absurd H (by simp)
     ·replace c15:=Bool.eq_false_iff.mpr c15
      subst c15
      have H1:(some (([]:List Int),a2,false)) = some (r1,r2,r3):=by rw [if_neg (show ¬ (false = true) by decide)] at H;exact H
      clear H
      have H:=H1
      clear H1
      simp only [Option.some.injEq,Prod.mk.injEq] at H
      obtain ⟨rfl,rfl,rfl⟩:=H
      go_enter Try.func95,Try.ntmps95
      go_wp2_with (first|((with_reducible refine gate_dst (N:=3) rfl ?_);refine box_event ?hg (N:=3) ?hd (cs:=#[.slice A0_0 l0_0.length c0_0]) (t:=30) ?hr ?_;(case hd=>rfl);(case hg=>rfl);(case hr=>first|(go_simp;done)|(go_simp;rfl));intro gb138 hg w52 hbox hb;have BK138:=Aside0.mk (hbox);have GW138:=Aside0.mk ((hZ:w.heap.size ≤ gb138));have GE138:=Aside0.mk ((hZ:w.heap.size ≤ gb138));replace HB:=Aside0.mk (below_step bH hb);clear hb hbox hg;have p8:0 ≤ (a2:Int):=oD;have q8:a2 < (a1.size:Int):=oD;have hx8:=bt_at a1 a2;replace p8:=eq_true p8;replace q8:=eq_true q8)|((with_reducible refine gate_callee (f:=94) rfl ?_);refine goesL_ (some 27) rfl rfl Try.func94 (by kernel_rfl) rfl #[.int .i64 (wrap64 (bt a1 a2)),.int .i64 65,.int .i64 76] rfl Ya ?_;(with_reducible refine (spec_l1In.calls (wrap64 (bt a1 a2)) 65 76 false _ A9.out).mono ?_);rintro e w' ⟨rfl,⟨nd,rfl⟩⟩;refine ⟨_,rfl,?_⟩;have hcz53_0:w52.cell? ⟨gb138,0,none⟩ = some (.slice A0_0 l0_0.length c0_0):=(blk_cell BK138.out 0).trans rfl;have hfz53_0:=blk_frozen BK138.out 0)|((with_reducible refine gate_callee (f:=94) rfl ?_);refine goesL_ (some 40) rfl rfl Try.func94 (by kernel_rfl) rfl #[.int .i64 (wrap64 (bt a1 a2)),.int .i64 97,.int .i64 (wrap64 ((wrap64 (97 + (l0_0.length:Int))) - 1))] rfl Ya ?_;(with_reducible refine (spec_l1In.calls (wrap64 (bt a1 a2)) 97 (wrap64 ((wrap64 (97 + (l0_0.length:Int))) - 1)) false _ A14.out).mono ?_);rintro e w' ⟨rfl,⟨nd,rfl⟩⟩;refine ⟨_,rfl,?_⟩))
      go_ret3
      exact ⟨_,by first|rfl|(simp [errW_none,errW_some] <;> rfl)|(simp [*,errW_none,errW_some] <;> rfl),by first|exact Kd.R_nil _ _ _ _ _|exact Kd.N_nil _ _ _ _ _|exact Kd.V_nil _ _ _ _ _|exact Kd.Q_nil _ _ _ _ _|exact Kd.S_nil _ _ _ _ _,bH⟩
   ·rw [if_neg c7] at H
    exact absurd H (by simp)
  ·rw [if_neg c6] at H
   exact absurd H (by simp)

end Go.Proofs.Ytlgnanbnicmdaab.QFnExactReadClause
