-- Written by this session's own program (wip/x/xprint.py, over the kit's printer); Lean checks it.
import Derived.Test.YtlgnanbnicmdaabQFnExactReadClausex0
import Derived.Test.YtlgnanbnicmdaabQFnExactReadClausex3
import Derived.Test.YtlgnanbnicmdaabQFnExactReadClausex5
namespace Go.Proofs.Ytlgnanbnicmdaab.QFnExactReadClause
open Go.RowKit Go.Proofs.YtlgnanbnicmdaabW.PrintWords Go.Proofs.YtlgnanbnicmdaabW.PrintLast Go.Proofs.YtlgnanbnicmdaabW.PrintMore
attribute [local go_sem] max2_int min2_int max_two min_two max_three min_three max_four min_four   -- for this text's walks alone
set_option linter.unusedVariables false
set_option linter.unusedSimpArgs false

/-! ### spec_l4Lit: function 69 -/
def spec_l4Lit.f (k:Nat) (l0_0:List Int) (a1_0:Bool) (l1_1:List Int) (l1_2:List Int):Option (Bool):=(spec_l1Term.f k l0_0 l1_1).bind fun t182=>(if t182 = true then ((spec_l1Term.f k l0_0 l1_2).bind fun t183=>(some t183)) else (some false))
theorem spec_l4Lit.mono:∀ a0 a1 a2 a3 k,LeO (spec_l4Lit.f k a0 a1 a2 a3) (spec_l4Lit.f (k + 1) a0 a1 a2 a3):=by
 intro a0 a1 a2 a3 k
 unfold spec_l4Lit.f
 have m0:=@spec_l1Term.mono
 exact mO
set_option maxHeartbeats 8000000 in
set_option maxRecDepth 100000 in
theorem spec_l4Lit.calls (k:Nat) (A0_0:Option Addr) (c0_0:Nat) (l0_0:List Int) (a1_0:Bool) (A1_1:Option Addr) (c1_1:Nat) (l1_1:List Int) (A1_2:Option Addr) (c1_2:Nat) (l1_2:List Int) (r:Bool) (w:World) (hr0_0:Kd.C (Kd.int .i64) w A0_0 l0_0.length l0_0) (hc0_0:l0_0.length ≤ c0_0) (hr1_1:Kd.C (Kd.int .i64) w A1_1 l1_1.length l1_1) (hc1_1:l1_1.length ≤ c1_1) (hr1_2:Kd.C (Kd.int .i64) w A1_2 l1_2.length l1_2) (hc1_2:l1_2.length ≤ c1_2) (h:spec_l4Lit.f k l0_0 a1_0 l1_1 l1_2 = some r) :
  Calls Try.prog 69 #[.agg #[.slice A0_0 l0_0.length c0_0],.agg #[.bool a1_0,.slice A1_1 l1_1.length c1_1,.slice A1_2 l1_2.length c1_2]] w fun e w'=>e = .returned (.bool r) ∧ Below w.heap.size w w':=by
 have hu30:=Try.underlying30
 have hu65:=Try.underlying65
 have HR0_0:=Aside0.mk hr0_0
 have HC0_0:=Aside0.mk hc0_0
 clear hr0_0 hc0_0
 have HR1_1:=Aside0.mk hr1_1
 have HC1_1:=Aside0.mk hc1_1
 clear hr1_1 hc1_1
 have HR1_2:=Aside0.mk hr1_2
 have HC1_2:=Aside0.mk hc1_2
 clear hr1_2 hc1_2
 have HB:=Aside0.mk (Below.refl w.heap.size w)
 have H:((spec_l1Term.f k l0_0 l1_1).bind fun t182=>(if t182 = true then ((spec_l1Term.f k l0_0 l1_2).bind fun t183=>(some t183)) else (some false))) = some r:=h
 clear h
 replace H:=Option.bind_eq_some_iff.mp H
 obtain ⟨t182,A30,H⟩:=H
 replace H:(if t182 = true then ((spec_l1Term.f k l0_0 l1_2).bind fun t183=>(some t183)) else (some false)) = some r:=H
 have A3:=Aside0.mk A30
 clear A30
 by_cases c4:t182 = true
 ·subst c4
  have H1:((spec_l1Term.f k l0_0 l1_2).bind fun t183=>(some t183)) = some r:=by rw [if_pos rfl] at H;exact H
  clear H
  have H:=H1
  clear H1
  replace H:=Option.bind_eq_some_iff.mp H
  obtain ⟨t183,A50,H⟩:=H
  replace H:(some t183) = some r:=H
  have A5:=Aside0.mk A50
  clear A50
  obtain rfl:=Option.some.inj H
  go_enter Try.func69,Try.ntmps69
  go_wp2_with (first|((with_reducible refine gate_dst (N:=2) rfl ?_);refine box_event ?hg (N:=2) ?hd (cs:=#[.slice A0_0 l0_0.length c0_0]) (t:=30) ?hr ?_;(case hd=>rfl);(case hg=>rfl);(case hr=>first|(go_simp;done)|(go_simp;rfl));intro gb180 hg w6 hbox hb;have BK180:=Aside0.mk (hbox);have GW180:=Aside0.mk ((hZ:w.heap.size ≤ gb180));have GE180:=Aside0.mk ((hZ:w.heap.size ≤ gb180));replace HB:=Aside0.mk (below_step bH hb);clear hb hbox hg)|((with_reducible refine gate_dst (N:=3) rfl ?_);refine box_event ?hg (N:=3) ?hd (cs:=#[.bool a1_0,.slice A1_1 l1_1.length c1_1,.slice A1_2 l1_2.length c1_2]) (t:=65) ?hr ?_;(case hd=>rfl);(case hg=>rfl);(case hr=>first|(go_simp;done)|(go_simp;rfl));intro gb181 hg w7 hbox hb;have BK181:=Aside0.mk (hbox);have GW181:=Aside0.mk ((hZ:w.heap.size ≤ gb181));have GE181:=Aside0.mk ((hZ:w.heap.size ≤ gb181));replace HB:=Aside0.mk (below_step bH hb);have NB180_181:=Aside0.mk ((nL BK180:gb180 ≠ gb181));have NB181_180:=Aside0.mk ((nG BK180:gb181 ≠ gb180));replace BK180:=Aside0.mk (blk_below (bB BK180) hb);clear hb hbox hg;have hnb8:=NB180_181.out;have hnc8:=NB181_180.out;have hcz9_0:w7.cell? ⟨gb180,0,none⟩ = some (.slice A0_0 l0_0.length c0_0):=(blk_cell BK180.out 0).trans rfl;have hfz9_0:=blk_frozen BK180.out 0;have hcz10_0:w7.cell? ⟨gb181,0,none⟩ = some (.bool a1_0):=(blk_cell BK181.out 0).trans rfl;have hcz10_1:w7.cell? ⟨gb181,1,none⟩ = some (.slice A1_1 l1_1.length c1_1):=(blk_cell BK181.out 1).trans rfl;have hcz10_2:w7.cell? ⟨gb181,2,none⟩ = some (.slice A1_2 l1_2.length c1_2):=(blk_cell BK181.out 2).trans rfl;have hfz10_0:=blk_frozen BK181.out 0;have hfz10_1:=blk_frozen BK181.out 1;have hfz10_2:=blk_frozen BK181.out 2)|((with_reducible refine gate_callee (f:=68) rfl ?_);refine goesL_ (some 8) rfl rfl Try.func68 (by kernel_rfl) rfl #[.agg #[.slice A0_0 l0_0.length c0_0],.slice A1_1 l1_1.length c1_1] rfl Ya ?_;(with_reducible refine (spec_l1Term.calls k _ _ l0_0 _ _ l1_1 true _ ?side1 ?side2 ?side3 ?side4 A3.out).mono ?_);(case side1=>exact sC HR0_0);(case side2=>exact HC0_0.out);(case side3=>exact sC HR1_1);(case side4=>exact HC1_1.out);rintro e w11 ⟨rfl,hb⟩;refine ⟨_,rfl,?_⟩;replace BK180:=Aside0.mk (blk_below (bB BK180) hb);replace BK181:=Aside0.mk (blk_below (bB BK181) hb);replace HB:=Aside0.mk (below_step bH hb);(try clear hb);(try clear hb2);(try clear hk);(try clear hi);have hcz12_0:w11.cell? ⟨gb180,0,none⟩ = some (.slice A0_0 l0_0.length c0_0):=(blk_cell BK180.out 0).trans rfl;have hfz12_0:=blk_frozen BK180.out 0;have hcz13_0:w11.cell? ⟨gb181,0,none⟩ = some (.bool a1_0):=(blk_cell BK181.out 0).trans rfl;have hcz13_1:w11.cell? ⟨gb181,1,none⟩ = some (.slice A1_1 l1_1.length c1_1):=(blk_cell BK181.out 1).trans rfl;have hcz13_2:w11.cell? ⟨gb181,2,none⟩ = some (.slice A1_2 l1_2.length c1_2):=(blk_cell BK181.out 2).trans rfl;have hfz13_0:=blk_frozen BK181.out 0;have hfz13_1:=blk_frozen BK181.out 1;have hfz13_2:=blk_frozen BK181.out 2)|(go_at_call 68;(with_reducible refine (spec_l1Term.calls k _ _ l0_0 _ _ l1_2 t183 _ ?side1 ?side2 ?side3 ?side4 A5.out).mono ?_);(case side1=>exact sC HR0_0);(case side2=>exact HC0_0.out);(case side3=>exact sC HR1_2);(case side4=>exact HC1_2.out);rintro e w14 ⟨rfl,hb⟩;replace BK180:=Aside0.mk (blk_below (bB BK180) hb);replace BK181:=Aside0.mk (blk_below (bB BK181) hb);replace HB:=Aside0.mk (below_step bH hb);(try clear hb);(try clear hb2);(try clear hk);(try clear hi)))
  go_ret
  exact ⟨by first|rfl|(simp [errW_none,errW_some] <;> rfl)|(simp [*,errW_none,errW_some] <;> rfl),bH⟩
 ·replace c4:=Bool.eq_false_iff.mpr c4
  subst c4
  have H1:(some false) = some r:=by rw [if_neg (show ¬ (false = true) by decide)] at H;exact H
  clear H
  have H:=H1
  clear H1
  obtain rfl:=Option.some.inj H
  go_enter Try.func69,Try.ntmps69
  go_wp2_with (first|((with_reducible refine gate_dst (N:=2) rfl ?_);refine box_event ?hg (N:=2) ?hd (cs:=#[.slice A0_0 l0_0.length c0_0]) (t:=30) ?hr ?_;(case hd=>rfl);(case hg=>rfl);(case hr=>first|(go_simp;done)|(go_simp;rfl));intro gb180 hg w15 hbox hb;have BK180:=Aside0.mk (hbox);have GW180:=Aside0.mk ((hZ:w.heap.size ≤ gb180));have GE180:=Aside0.mk ((hZ:w.heap.size ≤ gb180));replace HB:=Aside0.mk (below_step bH hb);clear hb hbox hg)|((with_reducible refine gate_dst (N:=3) rfl ?_);refine box_event ?hg (N:=3) ?hd (cs:=#[.bool a1_0,.slice A1_1 l1_1.length c1_1,.slice A1_2 l1_2.length c1_2]) (t:=65) ?hr ?_;(case hd=>rfl);(case hg=>rfl);(case hr=>first|(go_simp;done)|(go_simp;rfl));intro gb181 hg w16 hbox hb;have BK181:=Aside0.mk (hbox);have GW181:=Aside0.mk ((hZ:w.heap.size ≤ gb181));have GE181:=Aside0.mk ((hZ:w.heap.size ≤ gb181));replace HB:=Aside0.mk (below_step bH hb);have NB180_181:=Aside0.mk ((nL BK180:gb180 ≠ gb181));have NB181_180:=Aside0.mk ((nG BK180:gb181 ≠ gb180));replace BK180:=Aside0.mk (blk_below (bB BK180) hb);clear hb hbox hg;have hnb17:=NB180_181.out;have hnc17:=NB181_180.out;have hcz18_0:w16.cell? ⟨gb180,0,none⟩ = some (.slice A0_0 l0_0.length c0_0):=(blk_cell BK180.out 0).trans rfl;have hfz18_0:=blk_frozen BK180.out 0;have hcz19_0:w16.cell? ⟨gb181,0,none⟩ = some (.bool a1_0):=(blk_cell BK181.out 0).trans rfl;have hcz19_1:w16.cell? ⟨gb181,1,none⟩ = some (.slice A1_1 l1_1.length c1_1):=(blk_cell BK181.out 1).trans rfl;have hcz19_2:w16.cell? ⟨gb181,2,none⟩ = some (.slice A1_2 l1_2.length c1_2):=(blk_cell BK181.out 2).trans rfl;have hfz19_0:=blk_frozen BK181.out 0;have hfz19_1:=blk_frozen BK181.out 1;have hfz19_2:=blk_frozen BK181.out 2)|((with_reducible refine gate_callee (f:=68) rfl ?_);refine goesL_ (some 8) rfl rfl Try.func68 (by kernel_rfl) rfl #[.agg #[.slice A0_0 l0_0.length c0_0],.slice A1_1 l1_1.length c1_1] rfl Ya ?_;(with_reducible refine (spec_l1Term.calls k _ _ l0_0 _ _ l1_1 false _ ?side1 ?side2 ?side3 ?side4 A3.out).mono ?_);(case side1=>exact sC HR0_0);(case side2=>exact HC0_0.out);(case side3=>exact sC HR1_1);(case side4=>exact HC1_1.out);rintro e w20 ⟨rfl,hb⟩;refine ⟨_,rfl,?_⟩;replace BK180:=Aside0.mk (blk_below (bB BK180) hb);replace BK181:=Aside0.mk (blk_below (bB BK181) hb);replace HB:=Aside0.mk (below_step bH hb);(try clear hb);(try clear hb2);(try clear hk);(try clear hi)))
  go_ret
  exact ⟨by first|rfl|(simp [errW_none,errW_some] <;> rfl)|(simp [*,errW_none,errW_some] <;> rfl),bH⟩

/-! ### spec_l4Clause: function 63 -/
def spec_l4Clause.l0:Nat → List (S65) → List (S65) → Int → Int → List Int → Option (Bool)
 | 0,_,_,_,_,_=>none
 | k + 1,x1,x7,x8,x9,x185000=>if x9 < x8 then (if 0 ≤ x9 then (if x9 < (x7.length:Int) then ((spec_l4Lit.f k x185000 ((rd_T65 x7 x9).f0) ((rd_T65 x7 x9).f1) ((rd_T65 x7 x9).f2)).bind fun t187=>(if t187 = true then (spec_l4Clause.l0 k x1 x7 x8 (wrap64 (x9 + 1)) x185000) else (some false))) else (none)) else (none)) else (some (decide ((x1.length:Int) ≤ 8)))
def spec_l4Clause.f (k:Nat) (l0_0:List Int) (l1:List (S65)):Option (Bool):=spec_l4Clause.l0 k l1 l1 (l1.length:Int) 0 l0_0
theorem spec_l4Clause.mono_l:∀ k,(∀ y0 y1 y2 y3 y4,LeO (spec_l4Clause.l0 k y0 y1 y2 y3 y4) (spec_l4Clause.l0 (k + 1) y0 y1 y2 y3 y4))
 | 0=>fun _ _ _ _ _ r h=>by simp [spec_l4Clause.l0] at h
 | k + 1=>by
  have ih0:=spec_l4Clause.mono_l k
  ·intro y0 y1 y2 y3 y4
   unfold spec_l4Clause.l0
   have m0:=@spec_l4Lit.mono
   exact mO
theorem spec_l4Clause.mono:∀ a0 a1 k,LeO (spec_l4Clause.f k a0 a1) (spec_l4Clause.f (k + 1) a0 a1):=by
 intro a0 a1 k
 have ih0:=spec_l4Clause.mono_l k
 unfold spec_l4Clause.f
 have m0:=@spec_l4Lit.mono
 exact mO
set_option maxHeartbeats 8000000 in
set_option maxRecDepth 100000 in
theorem spec_l4Clause.calls (k:Nat) (A0_0:Option Addr) (c0_0:Nat) (l0_0:List Int) (A1:Option Addr) (c1:Nat) (l1:List (S65)) (r:Bool) (w:World) (hr0_0:Kd.C (Kd.int .i64) w A0_0 l0_0.length l0_0) (hc0_0:l0_0.length ≤ c0_0) (hr1:Kd.C k65 w A1 l1.length l1) (hc1:l1.length ≤ c1) (h:spec_l4Clause.f k l0_0 l1 = some r) :
  Calls Try.prog 63 #[.agg #[.slice A0_0 l0_0.length c0_0],.slice A1 l1.length c1] w fun e w'=>e = .returned (.bool r) ∧ Below w.heap.size w w':=by
 have hu30:=Try.underlying30
 have hu65:=Try.underlying65
 have HR0_0:=Aside0.mk hr0_0
 have HC0_0:=Aside0.mk hc0_0
 clear hr0_0 hc0_0
 have HR1:=Aside0.mk hr1
 have HC1:=Aside0.mk hc1
 clear hr1 hc1
 have HB:=Aside0.mk (Below.refl w.heap.size w)
 have H:(spec_l4Clause.l0 k l1 l1 (l1.length:Int) 0 l0_0) = some r:=h
 clear h
 have H':=Aside0.mk H
 clear H
 go_enter Try.func63,Try.ntmps63
 go_wp2_with (first|((with_reducible refine gate_dst (N:=2) rfl ?_);refine box_event ?hg (N:=2) ?hd (cs:=#[.slice A0_0 l0_0.length c0_0]) (t:=30) ?hr ?_;(case hd=>rfl);(case hg=>rfl);(case hr=>first|(go_simp;done)|(go_simp;rfl));intro gb184 hg w3 hbox hb;have BK184:=Aside0.mk (hbox);have GW184:=Aside0.mk ((hZ:w.heap.size ≤ gb184));have GE184:=Aside0.mk ((hZ:w.heap.size ≤ gb184));replace HB:=Aside0.mk (below_step bH hb);clear hb hbox hg))
 go_loopg [9] k (fun kq v9 w'=>∃ (x9_1:Int),v9 = .int .i64 x9_1 ∧ Aside0 (spec_l4Clause.l0 kq l1 l1 (l1.length:Int) x9_1 l0_0 = some r) ∧ Aside0 (kq ≤ k) ∧ Aside0 (w'.heap[gb184]? = some (.cells #[(.slice A0_0 l0_0.length c0_0)] 30 (0,0))) ∧ Aside0 (Below w.heap.size w w'))
 case atStart=>exact ⟨(0),Yd,H',⟨Nat.le_refl _⟩,⟨by (with_reducible repeat (first|refine blk_drewN ?_ _|refine blk_drew ?_|refine blk_alloc ?_ _));exact BK184.out⟩,⟨bH⟩⟩
 case round =>
  clear H'
  try clear c1
  try clear p2
  obtain ⟨x9_1,rfl,HA,HK1,BK184,HB⟩:=hrel
  cases gk with
  | zero=>exact absurd HA.out (by simp [spec_l4Clause.l0])
  | succ k1 =>
   have H:=HA.out
   clear HA
   simp only [spec_l4Clause.l0] at H
   by_cases c4:x9_1 < (l1.length:Int)
   ·rw [if_pos c4] at H
    have c4b0:=decide_eq_true c4
    clear c4
    by_cases c5:0 ≤ x9_1
    ·rw [if_pos c5] at H
     have c5b0:=decide_eq_true c5
     clear c5
     by_cases c6:x9_1 < (l1.length:Int)
     ·rw [if_pos c6] at H
      have c6b0:=decide_eq_true c6
      clear c6
      replace H:=Option.bind_eq_some_iff.mp H
      obtain ⟨t187,A70,H⟩:=H
      replace H:(if t187 = true then (spec_l4Clause.l0 k1 l1 l1 (l1.length:Int) (wrap64 (x9_1 + 1)) l0_0) else (some false)) = some r:=H
      have A7:=Aside0.mk A70
      clear A70
      by_cases c8:t187 = true
      ·subst c8
       have H1:(spec_l4Clause.l0 k1 l1 l1 (l1.length:Int) (wrap64 (x9_1 + 1)) l0_0) = some r:=by rw [if_pos rfl] at H;exact H
       clear H
       have H:=H1
       clear H1
       have H':=Aside0.mk H
       clear H
       have p185:0 ≤ (x9_1:Int):=oD
       have q185:x9_1 < (l1.length:Int):=oD
       obtain ⟨ad185,A185_1,c185_1,A185_2,c185_2,e185,hx185_0,hx185_1,hx185_2,hl185_1,hi185_1,hl185_2,hi185_2⟩:=at_T65 HR1.out x9_1 p185 q185
       cases e185
       replace hx185_0:=(HB.out.cell (World.block_lt_of_cell? w _ hx185_0)).trans hx185_0
       replace hx185_1:=(HB.out.cell (World.block_lt_of_cell? w _ hx185_1)).trans hx185_1
       replace hx185_2:=(HB.out.cell (World.block_lt_of_cell? w _ hx185_2)).trans hx185_2
       have HR185_1:=Aside0.mk hi185_1
       have HC185_1:=Aside0.mk hl185_1
       clear hi185_1 hl185_1
       have HR185_2:=Aside0.mk hi185_2
       have HC185_2:=Aside0.mk hl185_2
       clear hi185_2 hl185_2
       replace p185:=eq_true p185
       replace q185:=eq_true q185
       go_wp2_with (first|((with_reducible refine gate_dst (N:=6) rfl ?_);refine box_event ?hg (N:=6) ?hd (cs:=#[.bool false,.slice none 0 0,.slice none 0 0]) (t:=65) ?hr ?_;(case hd=>rfl);(case hg=>rfl);(case hr=>first|(go_simp;done)|(go_simp;rfl));intro gb186 hg w9 hbox hb;have BK186:=Aside0.mk (hbox);have GW186:=Aside0.mk ((hZ:w.heap.size ≤ gb186));have GE186:=Aside0.mk ((hZ:w.heap.size ≤ gb186));replace HB:=Aside0.mk (below_step bH hb);have NB184_186:=Aside0.mk ((nL BK184:gb184 ≠ gb186));have NB186_184:=Aside0.mk ((nG BK184:gb186 ≠ gb184));replace BK184:=Aside0.mk (blk_below (bB BK184) hb);clear hb hbox hg;have hnb10:=NB186_184.out;have hnc10:=NB184_186.out;have hcz11_0:w9.cell? ⟨gb186,0,none⟩ = some (.bool false):=(blk_cell BK186.out 0).trans rfl;have hcz11_1:w9.cell? ⟨gb186,1,none⟩ = some (.slice none 0 0):=(blk_cell BK186.out 1).trans rfl;have hcz11_2:w9.cell? ⟨gb186,2,none⟩ = some (.slice none 0 0):=(blk_cell BK186.out 2).trans rfl;have hfz11_0:=blk_frozen BK186.out 0;have hfz11_1:=blk_frozen BK186.out 1;have hfz11_2:=blk_frozen BK186.out 2;have hcz12_0:w9.cell? ⟨gb184,0,none⟩ = some (.slice A0_0 l0_0.length c0_0):=(blk_cell BK184.out 0).trans rfl;have hfz12_0:=blk_frozen BK184.out 0)|((with_reducible refine gate_callee (f:=69) rfl ?_);refine goesL_ (some 15) rfl rfl Try.func69 (by kernel_rfl) rfl #[.agg #[.slice A0_0 l0_0.length c0_0],.agg #[.bool ((rd_T65 l1 x9_1).f0),.slice A185_1 ((rd_T65 l1 x9_1).f1).length c185_1,.slice A185_2 ((rd_T65 l1 x9_1).f2).length c185_2]] rfl Ya ?_;(with_reducible refine (spec_l4Lit.calls k1 _ _ l0_0 ((rd_T65 l1 x9_1).f0) _ _ ((rd_T65 l1 x9_1).f1) _ _ ((rd_T65 l1 x9_1).f2) true _ ?side1 ?side2 ?side3 ?side4 ?side5 ?side6 A7.out).mono ?_);(case side1=>exact Kd.C_below HR0_0.out bH);(case side2=>exact HC0_0.out);(case side3=>exact Kd.C_below HR185_1.out bH);(case side4=>exact HC185_1.out);(case side5=>exact Kd.C_below HR185_2.out bH);(case side6=>exact HC185_2.out);rintro e w13 ⟨rfl,hb⟩;refine ⟨_,rfl,?_⟩;replace BK184:=Aside0.mk (blk_below (g:=gb184) (o:=.cells #[.slice A0_0 l0_0.length c0_0] 30 (0,0)) Yi hb);replace BK186:=Aside0.mk (blk_below (g:=gb186) (o:=.cells #[.bool ((rd_T65 l1 x9_1).f0),.slice A185_1 ((rd_T65 l1 x9_1).f1).length c185_1,.slice A185_2 ((rd_T65 l1 x9_1).f2).length c185_2] 65 (0,0)) Yg hb);replace HB:=Aside0.mk (below_step bH hb);(try clear hb);(try clear hb2);(try clear hk);(try clear hi)))
       go_roundg k1
       case measure=>have:=HK1.out;omega
       case rel=>exact ⟨(wrap64 (x9_1 + 1)),Yd,H',⟨by have:=HK1.out;omega⟩,⟨by (with_reducible repeat (first|refine blk_drewN ?_ _|refine blk_drew ?_|refine blk_alloc ?_ _));exact BK184.out⟩,⟨bH⟩⟩
      ·replace c8:=Bool.eq_false_iff.mpr c8
       subst c8
       have H1:(some false) = some r:=by rw [if_neg (show ¬ (false = true) by decide)] at H;exact H
       clear H
       have H:=H1
       clear H1
       obtain rfl:=Option.some.inj H
       have p185:0 ≤ (x9_1:Int):=oD
       have q185:x9_1 < (l1.length:Int):=oD
       obtain ⟨ad185,A185_1,c185_1,A185_2,c185_2,e185,hx185_0,hx185_1,hx185_2,hl185_1,hi185_1,hl185_2,hi185_2⟩:=at_T65 HR1.out x9_1 p185 q185
       cases e185
       replace hx185_0:=(HB.out.cell (World.block_lt_of_cell? w _ hx185_0)).trans hx185_0
       replace hx185_1:=(HB.out.cell (World.block_lt_of_cell? w _ hx185_1)).trans hx185_1
       replace hx185_2:=(HB.out.cell (World.block_lt_of_cell? w _ hx185_2)).trans hx185_2
       have HR185_1:=Aside0.mk hi185_1
       have HC185_1:=Aside0.mk hl185_1
       clear hi185_1 hl185_1
       have HR185_2:=Aside0.mk hi185_2
       have HC185_2:=Aside0.mk hl185_2
       clear hi185_2 hl185_2
       replace p185:=eq_true p185
       replace q185:=eq_true q185
       go_wp2_with (first|((with_reducible refine gate_dst (N:=6) rfl ?_);refine box_event ?hg (N:=6) ?hd (cs:=#[.bool false,.slice none 0 0,.slice none 0 0]) (t:=65) ?hr ?_;(case hd=>rfl);(case hg=>rfl);(case hr=>first|(go_simp;done)|(go_simp;rfl));intro gb186 hg w14 hbox hb;have BK186:=Aside0.mk (hbox);have GW186:=Aside0.mk ((hZ:w.heap.size ≤ gb186));have GE186:=Aside0.mk ((hZ:w.heap.size ≤ gb186));replace HB:=Aside0.mk (below_step bH hb);have NB184_186:=Aside0.mk ((nL BK184:gb184 ≠ gb186));have NB186_184:=Aside0.mk ((nG BK184:gb186 ≠ gb184));replace BK184:=Aside0.mk (blk_below (bB BK184) hb);clear hb hbox hg;have hnb15:=NB186_184.out;have hnc15:=NB184_186.out;have hcz16_0:w14.cell? ⟨gb186,0,none⟩ = some (.bool false):=(blk_cell BK186.out 0).trans rfl;have hcz16_1:w14.cell? ⟨gb186,1,none⟩ = some (.slice none 0 0):=(blk_cell BK186.out 1).trans rfl;have hcz16_2:w14.cell? ⟨gb186,2,none⟩ = some (.slice none 0 0):=(blk_cell BK186.out 2).trans rfl;have hfz16_0:=blk_frozen BK186.out 0;have hfz16_1:=blk_frozen BK186.out 1;have hfz16_2:=blk_frozen BK186.out 2;have hcz17_0:w14.cell? ⟨gb184,0,none⟩ = some (.slice A0_0 l0_0.length c0_0):=(blk_cell BK184.out 0).trans rfl;have hfz17_0:=blk_frozen BK184.out 0)|((with_reducible refine gate_callee (f:=69) rfl ?_);refine goesL_ (some 15) rfl rfl Try.func69 (by kernel_rfl) rfl #[.agg #[.slice A0_0 l0_0.length c0_0],.agg #[.bool ((rd_T65 l1 x9_1).f0),.slice A185_1 ((rd_T65 l1 x9_1).f1).length c185_1,.slice A185_2 ((rd_T65 l1 x9_1).f2).length c185_2]] rfl Ya ?_;(with_reducible refine (spec_l4Lit.calls k1 _ _ l0_0 ((rd_T65 l1 x9_1).f0) _ _ ((rd_T65 l1 x9_1).f1) _ _ ((rd_T65 l1 x9_1).f2) false _ ?side1 ?side2 ?side3 ?side4 ?side5 ?side6 A7.out).mono ?_);(case side1=>exact Kd.C_below HR0_0.out bH);(case side2=>exact HC0_0.out);(case side3=>exact Kd.C_below HR185_1.out bH);(case side4=>exact HC185_1.out);(case side5=>exact Kd.C_below HR185_2.out bH);(case side6=>exact HC185_2.out);rintro e w18 ⟨rfl,hb⟩;refine ⟨_,rfl,?_⟩;replace BK184:=Aside0.mk (blk_below (g:=gb184) (o:=.cells #[.slice A0_0 l0_0.length c0_0] 30 (0,0)) Yi hb);replace BK186:=Aside0.mk (blk_below (g:=gb186) (o:=.cells #[.bool ((rd_T65 l1 x9_1).f0),.slice A185_1 ((rd_T65 l1 x9_1).f1).length c185_1,.slice A185_2 ((rd_T65 l1 x9_1).f2).length c185_2] 65 (0,0)) Yg hb);replace HB:=Aside0.mk (below_step bH hb);(try clear hb);(try clear hb2);(try clear hk);(try clear hi)))
       go_ret
       exact ⟨by first|rfl|(simp [errW_none,errW_some] <;> rfl)|(simp [*,errW_none,errW_some] <;> rfl),bH⟩
     ·rw [if_neg c6] at H
      exact absurd H (by simp)
    ·rw [if_neg c5] at H
     exact absurd H (by simp)
   ·rw [if_neg c4] at H
    have c4b0:decide (x9_1 < (l1.length:Int)) = false:=decide_eq_false c4
    clear c4
    obtain rfl:=Option.some.inj H
    go_wp2
    go_ret
    exact ⟨by first|rfl|(simp [errW_none,errW_some] <;> rfl)|(simp [*,errW_none,errW_some] <;> rfl),bH⟩

/-! ### spec_ReadClause: function 36 -/
def spec_ReadClause.j0:Nat → ByteArray → Bool → List Int → Option ((List (S65)) × Int × Bool)
 | 0,_,_,_=>none
 | k + 1,x1,x17,x189000=>if x17 = true then (some (([]:List (S65)),0,false)) else ((spec_l4Read.f k x189000 x1).bind fun bt190=>(if bt190.2.2 = true then ((spec_l4Clause.f k x189000 bt190.1).bind fun t195=>(if t195 = true then (some (bt190.1,bt190.2.1,true)) else (some (([]:List (S65)),0,false)))) else (some (([]:List (S65)),bt190.2.1,false))))
def spec_ReadClause.f (k:Nat) (l0_0:List Int) (a1:ByteArray):Option ((List (S65)) × Int × Bool):=(spec_GoodSign.f k l0_0).bind fun t189=>(if t189 = true then (spec_ReadClause.j0 k a1 (decide ((a1.size:Int) > 1000)) l0_0) else (spec_ReadClause.j0 k a1 true l0_0))
theorem spec_ReadClause.mono_l:∀ k,(∀ y0 y1 y2,LeO (spec_ReadClause.j0 k y0 y1 y2) (spec_ReadClause.j0 (k + 1) y0 y1 y2))
 | 0=>fun _ _ _ r h=>by simp [spec_ReadClause.j0] at h
 | k + 1=>by
  have ih0:=spec_ReadClause.mono_l k
  ·intro y0 y1 y2
   unfold spec_ReadClause.j0
   have m0:=@spec_GoodSign.mono
   have m1:=@spec_l4Clause.mono
   have m2:=@spec_l4Read.mono
   exact mO
theorem spec_ReadClause.mono:∀ a0 a1 k,LeO (spec_ReadClause.f k a0 a1) (spec_ReadClause.f (k + 1) a0 a1):=by
 intro a0 a1 k
 have ih0:=spec_ReadClause.mono_l k
 unfold spec_ReadClause.f
 have m0:=@spec_GoodSign.mono
 have m1:=@spec_l4Clause.mono
 have m2:=@spec_l4Read.mono
 exact mO
set_option maxHeartbeats 8000000 in
set_option maxRecDepth 100000 in
theorem spec_ReadClause.calls (k:Nat) (A0_0:Option Addr) (c0_0:Nat) (l0_0:List Int) (a1:ByteArray) (r1:List (S65)) (r2:Int) (r3:Bool) (w:World) (hr0_0:Kd.C (Kd.int .i64) w A0_0 l0_0.length l0_0) (hc0_0:l0_0.length ≤ c0_0) (h:spec_ReadClause.f k l0_0 a1 = some (r1,r2,r3)) :
  Calls Try.prog 36 #[.agg #[.slice A0_0 l0_0.length c0_0],.string a1] w fun e w'=>∃ v0_:Value,e = .returned (.tuple #[v0_,.int .i64 r2,.bool r3]) ∧ Kd.S k65 65 w' w.heap.size (fun _=>True) v0_ r1 ∧ Below w.heap.size w w':=by
 have hu30:=Try.underlying30
 have HR0_0:=Aside0.mk hr0_0
 have HC0_0:=Aside0.mk hc0_0
 clear hr0_0 hc0_0
 have HB:=Aside0.mk (Below.refl w.heap.size w)
 have H:((spec_GoodSign.f k l0_0).bind fun t189=>(if t189 = true then (spec_ReadClause.j0 k a1 (decide ((a1.size:Int) > 1000)) l0_0) else (spec_ReadClause.j0 k a1 true l0_0))) = some (r1,r2,r3):=h
 clear h
 have HC3:=Aside0.mk H
 clear H
 go_enter Try.func36,Try.ntmps36
 go_upto_region 1 with (first|((with_reducible refine gate_dst (N:=2) rfl ?_);(try (refine gate_guard (by rfl) ?_;dsimp only));refine box_event ?hg (N:=2) ?hd (cs:=#[.slice A0_0 l0_0.length c0_0]) (t:=30) ?hr ?_;(case hd=>rfl);(case hg=>rfl);(case hr=>first|(go_simp;done)|(go_simp;rfl));intro gb188 hg w4 hbox hb;have BK188:=Aside0.mk (hbox);have GW188:=Aside0.mk ((hZ:w.heap.size ≤ gb188));have GE188:=Aside0.mk ((hZ:w.heap.size ≤ gb188));replace HB:=Aside0.mk (below_step bH hb);clear hb hbox hg))
 (try simp only [Act.put,List.setIfInBounds_toArray,List.set_cons_zero,List.set_cons_succ])
 go_cut [17] (fun v17 wc=>∃ (kq:Nat) (x17_2:Bool),v17 = .bool x17_2 ∧ Aside0 (spec_ReadClause.j0 kq a1 x17_2 l0_0 = some (r1,r2,r3)) ∧ Aside0 (kq ≤ k) ∧ Aside0 (wc.heap[gb188]? = some (.cells #[(.slice A0_0 l0_0.length c0_0)] 30 (0,0))) ∧ Aside0 (Below w.heap.size w wc))
 case first =>
  have H:=HC3.out
  clear HC3
  replace H:=Option.bind_eq_some_iff.mp H
  obtain ⟨t189,A50,H⟩:=H
  replace H:(if t189 = true then (spec_ReadClause.j0 k a1 (decide ((a1.size:Int) > 1000)) l0_0) else (spec_ReadClause.j0 k a1 true l0_0)) = some (r1,r2,r3):=H
  have A5:=Aside0.mk A50
  clear A50
  by_cases c6:t189 = true
  ·subst c6
   have H1:(spec_ReadClause.j0 k a1 (decide ((a1.size:Int) > 1000)) l0_0) = some (r1,r2,r3):=by rw [if_pos rfl] at H;exact H
   clear H
   have H:=H1
   clear H1
   have H':=Aside0.mk H
   clear H
   have hcz7_0:w4.cell? ⟨gb188,0,none⟩ = some (.slice A0_0 l0_0.length c0_0):=(blk_cell BK188.out 0).trans rfl
   have hfz7_0:=blk_frozen BK188.out 0
   go_wp2_with (first|((with_reducible refine gate_callee (f:=61) rfl ?_);refine goesL_ (some 11) rfl rfl Try.func61 (by kernel_rfl) rfl #[.agg #[.slice A0_0 l0_0.length c0_0]] rfl Ya ?_;(with_reducible refine (spec_GoodSign.calls k _ _ l0_0 true _ ?side1 ?side2 A5.out).mono ?_);(case side1=>exact sC HR0_0);(case side2=>exact HC0_0.out);rintro e w8 ⟨rfl,hb⟩;refine ⟨_,rfl,?_⟩;replace BK188:=Aside0.mk (blk_below (bB BK188) hb);replace HB:=Aside0.mk (below_step bH hb);(try clear hb);(try clear hb2);(try clear hk);(try clear hi)))
   go_meet
   case rel=>exact ⟨_,(decide ((a1.size:Int) > 1000)),Yd,H',⟨by first|omega|exact Nat.le_refl _⟩,⟨by (with_reducible repeat (first|refine blk_drewN ?_ _|refine blk_drew ?_|refine blk_alloc ?_ _));exact BK188.out⟩,⟨bH⟩⟩
  ·replace c6:=Bool.eq_false_iff.mpr c6
   subst c6
   have H1:(spec_ReadClause.j0 k a1 true l0_0) = some (r1,r2,r3):=by rw [if_neg (show ¬ (false = true) by decide)] at H;exact H
   clear H
   have H:=H1
   clear H1
   have H':=Aside0.mk H
   clear H
   have hcz9_0:w4.cell? ⟨gb188,0,none⟩ = some (.slice A0_0 l0_0.length c0_0):=(blk_cell BK188.out 0).trans rfl
   have hfz9_0:=blk_frozen BK188.out 0
   go_wp2_with (first|((with_reducible refine gate_callee (f:=61) rfl ?_);refine goesL_ (some 11) rfl rfl Try.func61 (by kernel_rfl) rfl #[.agg #[.slice A0_0 l0_0.length c0_0]] rfl Ya ?_;(with_reducible refine (spec_GoodSign.calls k _ _ l0_0 false _ ?side1 ?side2 A5.out).mono ?_);(case side1=>exact sC HR0_0);(case side2=>exact HC0_0.out);rintro e w10 ⟨rfl,hb⟩;refine ⟨_,rfl,?_⟩;replace BK188:=Aside0.mk (blk_below (bB BK188) hb);replace HB:=Aside0.mk (below_step bH hb);(try clear hb);(try clear hb2);(try clear hk);(try clear hi)))
   go_meet
   case rel=>exact ⟨_,(true),Yd,H',⟨by first|omega|exact Nat.le_refl _⟩,⟨by (with_reducible repeat (first|refine blk_drewN ?_ _|refine blk_drew ?_|refine blk_alloc ?_ _));exact BK188.out⟩,⟨bH⟩⟩
 case rest =>
  clear HC3
  try clear p2
  try clear c3
  try clear c6
  try clear hcz7_0
  try clear hcz9_0
  try clear hfz7_0
  try clear hfz9_0
  obtain ⟨kq,x17_2,rfl,HA,HJ2,BK188,HB⟩:=hcut
  cases kq with
  | zero=>exact absurd HA.out (by simp [spec_ReadClause.j0])
  | succ kj2 =>
   have H:=HA.out
   clear HA
   simp only [spec_ReadClause.j0] at H
   by_cases c11:x17_2 = true
   ·subst c11
    have H1:(some (([]:List (S65)),0,false)) = some (r1,r2,r3):=by rw [if_pos rfl] at H;exact H
    clear H
    have H:=H1
    clear H1
    simp only [Option.some.injEq,Prod.mk.injEq] at H
    obtain ⟨rfl,rfl,rfl⟩:=H
    go_wp2
    go_ret3
    exact ⟨_,by first|rfl|(simp [errW_none,errW_some] <;> rfl)|(simp [*,errW_none,errW_some] <;> rfl),by first|exact Kd.S_nil _ _ _ _ _|exact Kd.N_nil _ _ _ _ _|exact Kd.V_nil _ _ _ _ _|exact Kd.Q_nil _ _ _ _ _|exact Kd.R_nil _ _ _ _ _,bH⟩
   ·replace c11:=Bool.eq_false_iff.mpr c11
    subst c11
    have H1:((spec_l4Read.f kj2 l0_0 a1).bind fun bt190=>(if bt190.2.2 = true then ((spec_l4Clause.f kj2 l0_0 bt190.1).bind fun t195=>(if t195 = true then (some (bt190.1,bt190.2.1,true)) else (some (([]:List (S65)),0,false)))) else (some (([]:List (S65)),bt190.2.1,false)))) = some (r1,r2,r3):=by rw [if_neg (show ¬ (false = true) by decide)] at H;exact H
    clear H
    have H:=H1
    clear H1
    replace H:=Option.bind_eq_some_iff.mp H
    obtain ⟨⟨t190,t193,t194⟩,A120,H⟩:=H
    replace H:(if t194 = true then ((spec_l4Clause.f kj2 l0_0 t190).bind fun t195=>(if t195 = true then (some (t190,t193,true)) else (some (([]:List (S65)),0,false)))) else (some (([]:List (S65)),t193,false))) = some (r1,r2,r3):=H
    have A12:=Aside0.mk A120
    clear A120
    by_cases c13:t194 = true
    ·subst c13
     have H1:((spec_l4Clause.f kj2 l0_0 t190).bind fun t195=>(if t195 = true then (some (t190,t193,true)) else (some (([]:List (S65)),0,false)))) = some (r1,r2,r3):=by rw [if_pos rfl] at H;exact H
     clear H
     have H:=H1
     clear H1
     replace H:=Option.bind_eq_some_iff.mp H
     obtain ⟨t195,A140,H⟩:=H
     replace H:(if t195 = true then (some (t190,t193,true)) else (some (([]:List (S65)),0,false))) = some (r1,r2,r3):=H
     have A14:=Aside0.mk A140
     clear A140
     by_cases c15:t195 = true
     ·subst c15
      have H1:(some (t190,t193,true)) = some (r1,r2,r3):=by rw [if_pos rfl] at H;exact H
      clear H
      have H:=H1
      clear H1
      simp only [Option.some.injEq,Prod.mk.injEq] at H
      obtain ⟨rfl,rfl,rfl⟩:=H
      have hcz16_0:wc.cell? ⟨gb188,0,none⟩ = some (.slice A0_0 l0_0.length c0_0):=(blk_cell BK188.out 0).trans rfl
      have hfz16_0:=blk_frozen BK188.out 0
      go_wp2_with (first|((with_reducible refine gate_callee (f:=62) rfl ?_);refine goesL_ (some 21) rfl rfl Try.func62 (by kernel_rfl) rfl #[.agg #[.slice A0_0 l0_0.length c0_0],.string a1] rfl Ya ?_;(with_reducible refine (spec_l4Read.calls kj2 _ _ l0_0 a1 t190 t193 true _ ?side1 ?side2 A12.out).mono ?_);(case side1=>exact sC HR0_0);(case side2=>exact HC0_0.out);rintro e w17 ⟨v191,rfl,ho0,hb⟩;refine ⟨_,rfl,?_⟩;have HO192:=Aside0.mk (Kd.S_lower ho0 (below_size bH));replace BK188:=Aside0.mk (blk_below (bB BK188) hb);replace HB:=Aside0.mk (below_step bH hb);(try clear hb);(try clear hb2);(try clear hk);(try clear hi);(try clear ho0);have hcz18_0:w17.cell? ⟨gb188,0,none⟩ = some (.slice A0_0 l0_0.length c0_0):=(blk_cell BK188.out 0).trans rfl;have hfz18_0:=blk_frozen BK188.out 0;obtain ⟨Ao19,co19,eo19⟩:=Kd.S_slice HO192.out;subst eo19)|((with_reducible refine gate_callee (f:=63) rfl ?_);refine goesL_ (some 30) rfl rfl Try.func63 (by kernel_rfl) rfl #[.agg #[.slice A0_0 l0_0.length c0_0],.slice Ao19 t190.length co19] rfl Ya ?_;(with_reducible refine (spec_l4Clause.calls kj2 _ _ l0_0 _ _ t190 true _ ?side1 ?side2 ?side3 ?side4 A14.out).mono ?_);(case side1=>exact sC HR0_0);(case side2=>exact HC0_0.out);(case side3=>repeat (first|exact (Kd.S_reads' HO192.out).2.2|(with_reducible refine Kd.C_alloc ?_ _)|(with_reducible refine Kd.C_drewN ?_ _)|(with_reducible refine Kd.C_drew ?_)));(case side4=>exact (Kd.S_reads' HO192.out).2.1);rintro e w20 ⟨rfl,hb⟩;refine ⟨_,rfl,?_⟩;replace HO192:=Aside0.mk (Kd.S_below (rS HO192) hb);replace BK188:=Aside0.mk (blk_below (bB BK188) hb);replace HB:=Aside0.mk (below_step bH hb);(try clear hb);(try clear hb2);(try clear hk);(try clear hi)))
      go_ret3
      exact ⟨_,by first|rfl|(simp [errW_none,errW_some] <;> rfl)|(simp [*,errW_none,errW_some] <;> rfl),rS HO192,bH⟩
     ·replace c15:=Bool.eq_false_iff.mpr c15
      subst c15
      have H1:(some (([]:List (S65)),0,false)) = some (r1,r2,r3):=by rw [if_neg (show ¬ (false = true) by decide)] at H;exact H
      clear H
      have H:=H1
      clear H1
      simp only [Option.some.injEq,Prod.mk.injEq] at H
      obtain ⟨rfl,rfl,rfl⟩:=H
      have hcz21_0:wc.cell? ⟨gb188,0,none⟩ = some (.slice A0_0 l0_0.length c0_0):=(blk_cell BK188.out 0).trans rfl
      have hfz21_0:=blk_frozen BK188.out 0
      go_wp2_with (first|((with_reducible refine gate_callee (f:=62) rfl ?_);refine goesL_ (some 21) rfl rfl Try.func62 (by kernel_rfl) rfl #[.agg #[.slice A0_0 l0_0.length c0_0],.string a1] rfl Ya ?_;(with_reducible refine (spec_l4Read.calls kj2 _ _ l0_0 a1 t190 t193 true _ ?side1 ?side2 A12.out).mono ?_);(case side1=>exact sC HR0_0);(case side2=>exact HC0_0.out);rintro e w22 ⟨v191,rfl,ho0,hb⟩;refine ⟨_,rfl,?_⟩;have HO192:=Aside0.mk (Kd.S_lower ho0 (below_size bH));replace BK188:=Aside0.mk (blk_below (bB BK188) hb);replace HB:=Aside0.mk (below_step bH hb);(try clear hb);(try clear hb2);(try clear hk);(try clear hi);(try clear ho0);have hcz23_0:w22.cell? ⟨gb188,0,none⟩ = some (.slice A0_0 l0_0.length c0_0):=(blk_cell BK188.out 0).trans rfl;have hfz23_0:=blk_frozen BK188.out 0;obtain ⟨Ao24,co24,eo24⟩:=Kd.S_slice HO192.out;subst eo24)|((with_reducible refine gate_callee (f:=63) rfl ?_);refine goesL_ (some 30) rfl rfl Try.func63 (by kernel_rfl) rfl #[.agg #[.slice A0_0 l0_0.length c0_0],.slice Ao24 t190.length co24] rfl Ya ?_;(with_reducible refine (spec_l4Clause.calls kj2 _ _ l0_0 _ _ t190 false _ ?side1 ?side2 ?side3 ?side4 A14.out).mono ?_);(case side1=>exact sC HR0_0);(case side2=>exact HC0_0.out);(case side3=>repeat (first|exact (Kd.S_reads' HO192.out).2.2|(with_reducible refine Kd.C_alloc ?_ _)|(with_reducible refine Kd.C_drewN ?_ _)|(with_reducible refine Kd.C_drew ?_)));(case side4=>exact (Kd.S_reads' HO192.out).2.1);rintro e w25 ⟨rfl,hb⟩;refine ⟨_,rfl,?_⟩;replace HO192:=Aside0.mk (Kd.S_below (rS HO192) hb);replace BK188:=Aside0.mk (blk_below (bB BK188) hb);replace HB:=Aside0.mk (below_step bH hb);(try clear hb);(try clear hb2);(try clear hk);(try clear hi)))
      go_ret3
      exact ⟨_,by first|rfl|(simp [errW_none,errW_some] <;> rfl)|(simp [*,errW_none,errW_some] <;> rfl),by first|exact Kd.S_nil _ _ _ _ _|exact Kd.N_nil _ _ _ _ _|exact Kd.V_nil _ _ _ _ _|exact Kd.Q_nil _ _ _ _ _|exact Kd.R_nil _ _ _ _ _,bH⟩
    ·replace c13:=Bool.eq_false_iff.mpr c13
     subst c13
     have H1:(some (([]:List (S65)),t193,false)) = some (r1,r2,r3):=by rw [if_neg (show ¬ (false = true) by decide)] at H;exact H
     clear H
     have H:=H1
     clear H1
     simp only [Option.some.injEq,Prod.mk.injEq] at H
     obtain ⟨rfl,rfl,rfl⟩:=H
     have hcz26_0:wc.cell? ⟨gb188,0,none⟩ = some (.slice A0_0 l0_0.length c0_0):=(blk_cell BK188.out 0).trans rfl
     have hfz26_0:=blk_frozen BK188.out 0
     go_wp2_with (first|((with_reducible refine gate_callee (f:=62) rfl ?_);refine goesL_ (some 21) rfl rfl Try.func62 (by kernel_rfl) rfl #[.agg #[.slice A0_0 l0_0.length c0_0],.string a1] rfl Ya ?_;(with_reducible refine (spec_l4Read.calls kj2 _ _ l0_0 a1 t190 t193 false _ ?side1 ?side2 A12.out).mono ?_);(case side1=>exact sC HR0_0);(case side2=>exact HC0_0.out);rintro e w27 ⟨v191,rfl,ho0,hb⟩;refine ⟨_,rfl,?_⟩;have HO192:=Aside0.mk (Kd.S_lower ho0 (below_size bH));replace BK188:=Aside0.mk (blk_below (bB BK188) hb);replace HB:=Aside0.mk (below_step bH hb);(try clear hb);(try clear hb2);(try clear hk);(try clear hi);(try clear ho0)))
     go_ret3
     exact ⟨_,by first|rfl|(simp [errW_none,errW_some] <;> rfl)|(simp [*,errW_none,errW_some] <;> rfl),by first|exact Kd.S_nil _ _ _ _ _|exact Kd.N_nil _ _ _ _ _|exact Kd.V_nil _ _ _ _ _|exact Kd.Q_nil _ _ _ _ _|exact Kd.R_nil _ _ _ _ _,bH⟩

/-! ### impl_GoodSign_1: function 97 -/
def impl_GoodSign_1.f (a0:Int):Option (Bool):=if a0 < 0 then (some true) else (some (decide (a0 > 3)))
set_option maxHeartbeats 8000000 in
set_option maxRecDepth 100000 in
theorem impl_GoodSign_1.calls (a0:Int) (r:Bool) (w:World) (h:impl_GoodSign_1.f a0 = some r) :
  Calls Try.prog 97 #[.int .i64 a0] w fun e w'=>e = .returned (.bool r) ∧ Drawn0 w w':=by
 have H:(if a0 < 0 then (some true) else (some (decide (a0 > 3)))) = some r:=h
 clear h
 by_cases c2:a0 < 0
 ·rw [if_pos c2] at H
  have c2b0:=decide_eq_true c2
  clear c2
  obtain rfl:=Option.some.inj H
  go_enter Try.func97,Try.ntmps97
  go_wp2
  go_ret
  exact ⟨by first|rfl|(simp;done)|(simp [*];done),by repeat (first|exact Drawn0.refl _|apply Drawn0.step)⟩
 ·rw [if_neg c2] at H
  have c2b0:decide (a0 < 0) = false:=decide_eq_false c2
  clear c2
  obtain rfl:=Option.some.inj H
  go_enter Try.func97,Try.ntmps97
  go_wp2
  go_ret
  exact ⟨by first|rfl|(simp;done)|(simp [*];done),by repeat (first|exact Drawn0.refl _|apply Drawn0.step)⟩

/-! ### slices.ContainsFunc and IndexFunc, told -/
/-- The place of the first element of which f holds, told from i on; -1. -/
def idxO {α:Type} (f:α → Option Bool):Int → List α → Option Int
  | _,[]=>some (-1)
  | i,x :: t=>(f x).bind fun b=>if b = true then some i else idxO f (i + 1) t
/-- Does f hold of an element? -/
def anyO {α:Type} (f:α → Option Bool):List α → Option Bool
  | []=>some false
  | x :: t=>(f x).bind fun b=>if b = true then some true else anyO f t
theorem idxO_any {α:Type} (f:α → Option Bool) (l:List α):∀ (i:Int) (r:Bool),0 ≤ i → anyO f l = some r → ∃ j,idxO f i l = some j ∧ r = decide (0 ≤ j):=by
  induction l with
  | nil=>intro i r hi h;exact ⟨-1,rfl,by simpa [anyO] using h.symm⟩
  | cons x t ih =>
    intro i r hi h
    simp only [anyO] at h
    simp only [idxO]
    cases hx:f x with
    | none=>rw [hx] at h;simp at h
    | some b =>
      rw [hx] at h
      cases b with
      | true=>simp at h;exact ⟨i,by simp,by simp [hi,← h]⟩
      | false =>
        simp at h
        obtain ⟨j,h1,h2⟩:=ih (i + 1) r (by omega) h
        exact ⟨j,by simpa using h1,h2⟩
theorem anyO_mono {α:Type} {f g:α → Option Bool} (h:∀ x,LeO (f x) (g x)) (l:List α):LeO (anyO f l) (anyO g l):=by
  induction l with
  | nil=>exact LeO.refl _
  | cons x t ih =>
    simp only [anyO]
    exact LeO.bind (h x) (fun b=>LeO.ite (LeO.refl _) ih)
theorem idxO_mono {α:Type} {f g:α → Option Bool} (h:∀ x,LeO (f x) (g x)) (l:List α):∀ i,LeO (idxO f i l) (idxO g i l):=by
  induction l with
  | nil=>exact fun _=>LeO.refl _
  | cons x t ih =>
    intro i
    simp only [idxO]
    exact LeO.bind (h x) (fun b=>LeO.ite (LeO.refl _) (ih _))

/-! ### slices_IndexFunc: function 126 -/
set_option maxHeartbeats 2000000 in
set_option maxRecDepth 100000 in
theorem idx126 (g:Nat) (lb:Array Value) (eg:∀ args w,(callFunc g args).run Try.prog w = .ok (.enter g args) w) (f:Int → Option Bool) (A:Option Addr) (c:Nat) (l:List Int) (r:Int) (w:World) (hr:Kd.C (Kd.int .i64) w A l.length l) (hc:l.length ≤ c)
    (hp:∀ (W:World) (x:Int) (b:Bool),Below w.heap.size w W → f x = some b → Calls Try.prog g (#[.int .i64 x] ++ lb) W fun e w'=>e = .returned (.bool b) ∧ Below W.heap.size W w')
    (h:idxO f 0 l = some r) :
    Calls Try.prog 126 #[.slice A l.length c,.func (.func g) #[] lb] w fun e w'=>e = .returned (.int .i64 r) ∧ Below w.heap.size w w':=by
  have HR:=Aside0.mk hr
  have HP:=Aside0.mk hp
  have HL:=Aside0.mk hr.2.1
  have H:=Aside0.mk h
  clear hr hp h hc
  go_enter Try.func126,Try.ntmps126
  go_wp2
  go_loopg [5,8] (l.length + 1) (fun kq _ v8 w'=>∃ kk:Nat,v8 = .int .i64 kk ∧ Aside0 (kk ≤ l.length ∧ l.length + 1 ≤ kq + kk) ∧ Aside0 (idxO f kk (l.drop kk) = some r) ∧ Aside0 (Below w.heap.size w w'))
  case atStart=>exact ⟨0,rfl,⟨Nat.zero_le _,by omega⟩,⟨by simpa using H.out⟩,⟨Below.refl _ _⟩⟩
  case round =>
    obtain ⟨kk,rfl,HK,HI,HB⟩:=hrel
    have hkk:=HK.out.1
    by_cases hlt:kk < l.length
    · have hd:l.drop kk = l[kk] :: l.drop (kk + 1):=List.drop_eq_getElem_cons hlt
      have hi:=HI.out
      rw [hd] at hi
      simp only [idxO] at hi
      obtain ⟨b,hb,hi⟩:=Option.bind_eq_some_iff.1 hi
      have HW:=Aside0.mk (show wrap64 ((kk:Int) + 1) = ((kk + 1:Nat):Int) from by have:=HL.out;unfold wrap64;omega)
      have p:0 ≤ (kk:Int):=by omega
      have q:(kk:Int) < (l.length:Int):=by omega
      have q1:decide (kk < l.length) = true:=decide_eq_true hlt
      have q2:decide ((kk:Int) < (l.length:Int)) = true:=decide_eq_true q
      obtain ⟨ad,e1,hx0⟩:=Kd.at_int HR.out (kk:Int) p q
      cases e1
      have hrd:rd l (kk:Int) = l[kk]:=by unfold rd;simp [List.getD_eq_getElem?_getD,List.getElem?_eq_getElem hlt]
      rw [hrd] at hx0
      clear hrd
      replace hx0:=(HB.out.cell (World.block_lt_of_cell? w _ hx0)).trans hx0
      rw [Int.toNat_natCast] at hx0
      generalize hy:l[kk] = y at hx0 hb
      clear hy hd
      have HC:=Aside0.mk (HP.out wr y b HB.out hb)
      clear HI hkk
      cases b with
      | true =>
        have HE:=Aside0.mk (Option.some.inj hi)
        clear hi hb
        go_wp2_with fail
        refine HC.out.mono ?_
        rintro e w' ⟨rfl,hb'⟩
        have HB2:=Aside0.mk (below_step HB.out hb')
        clear HB hb' HC hx0
        have HB:=HB2
        clear HB2
        go_wp2_with fail
        go_ret
        exact ⟨by rw [← HE.out];rfl,HB.out⟩
      | false =>
        have HE:=Aside0.mk hi
        clear hi hb
        go_wp2_with fail
        refine HC.out.mono ?_
        rintro e w' ⟨rfl,hb'⟩
        have HB2:=Aside0.mk (below_step HB.out hb')
        clear HB hb' HC hx0
        have HB:=HB2
        clear HB2
        go_wp2_with fail
        go_roundg (l.length - kk)
        case measure=>have:=HK.out;omega
        case rel=>exact ⟨kk + 1,by rw [HW.out],⟨by have:=HK.out;omega⟩,⟨by rw [show ((kk + 1:Nat):Int) = (kk:Int) + 1 from by omega];simpa using HE.out⟩,HB⟩
    · have HE:=Aside0.mk (show -1 = r from by have:=HI.out;rw [List.drop_eq_nil_of_le (by omega)] at this;simp [idxO] at this;exact this)
      have q1:decide (kk < l.length) = false:=decide_eq_false hlt
      have q2:decide ((kk:Int) < (l.length:Int)) = false:=decide_eq_false (by omega)
      clear HI hkk
      go_wp2
      go_ret
      exact ⟨by rw [← HE.out];rfl,HB.out⟩

/-! ### slices_ContainsFunc: function 96 -/
set_option maxHeartbeats 2000000 in
theorem any96 (g:Nat) (lb:Array Value) (eg:∀ args w,(callFunc g args).run Try.prog w = .ok (.enter g args) w) (f:Int → Option Bool) (A:Option Addr) (c:Nat) (l:List Int) (r:Bool) (w:World) (hr:Kd.C (Kd.int .i64) w A l.length l) (hc:l.length ≤ c)
    (hp:∀ (W:World) (x:Int) (b:Bool),Below w.heap.size w W → f x = some b → Calls Try.prog g (#[.int .i64 x] ++ lb) W fun e w'=>e = .returned (.bool b) ∧ Below W.heap.size W w')
    (h:anyO f l = some r) :
    Calls Try.prog 96 #[.slice A l.length c,.func (.func g) #[] lb] w fun e w'=>e = .returned (.bool r) ∧ Below w.heap.size w w':=by
  obtain ⟨j,hj,hr2⟩:=idxO_any f l 0 r (Int.le_refl _) h
  have HR:=Aside0.mk hr2
  have HC:=Aside0.mk (fun W hW=>idx126 g lb eg f A c l j W (Kd.C_below hr hW) hc (fun W' x b h1=>hp W' x b (hW.trans (h1.mono hW.size))) hj)
  clear hr hp h hc hj hr2 eg
  go_enter Try.func96,Try.ntmps96
  go_wp2_with fail
  refine (HC.out _ (Below.refl _ _)).mono ?_
  rintro e w' ⟨rfl,hb⟩
  have HB:=Aside0.mk hb
  clear hb HC
  go_wp2
  go_ret
  exact ⟨by rw [HR.out];rfl,HB.out⟩

/-! ### impl_GoodSign_1_any: function 1000000 -/
def impl_GoodSign_1_any.f (l0:List Int):Option (Bool):=anyO (fun x=>impl_GoodSign_1.f x) l0
theorem impl_GoodSign_1_any.calls (A0:Option Addr) (c0:Nat) (l0:List Int) (r:Bool) (w:World) (hr0:Kd.C (Kd.int .i64) w A0 l0.length l0) (hc0:l0.length ≤ c0) (h:impl_GoodSign_1_any.f l0 = some r) :
    Calls Try.prog 96 #[.slice A0 l0.length c0,.func (.func 97) #[] #[]] w fun e w'=>e = .returned (.bool r) ∧ Below w.heap.size w w':=by
  exact any96 97 #[] (enters_of Try.func97 (by kernel_rfl) rfl) (fun x=>impl_GoodSign_1.f x) A0 c0 l0 r w hr0 hc0 (fun W x b hW hx=>(impl_GoodSign_1.calls x b W    hx).mono fun _ _ h_=>⟨h_.1,h_.2.below⟩) h

/-! ### impl_GoodSign: function 64 -/
def impl_GoodSign.f (l0_0:List Int):Option (Bool):=if (l0_0.length:Int) < 1 then (some false) else (if (l0_0.length:Int) > 10 then (some false) else (if 0 < (l0_0.length:Int) then (if (rd l0_0 0) = 0 then ((impl_GoodSign_1_any.f l0_0).bind fun t198=>(some (!t198))) else (some false)) else (none)))
set_option maxHeartbeats 8000000 in
set_option maxRecDepth 100000 in
theorem impl_GoodSign.calls (A0_0:Option Addr) (c0_0:Nat) (l0_0:List Int) (r:Bool) (w:World) (hr0_0:Kd.C (Kd.int .i64) w A0_0 l0_0.length l0_0) (hc0_0:l0_0.length ≤ c0_0) (h:impl_GoodSign.f l0_0 = some r) :
  Calls Try.prog 64 #[.agg #[.slice A0_0 l0_0.length c0_0]] w fun e w'=>e = .returned (.bool r) ∧ Below w.heap.size w w':=by
 have hu30:=Try.underlying30
 have HR0_0:=Aside0.mk hr0_0
 have HC0_0:=Aside0.mk hc0_0
 clear hr0_0 hc0_0
 have HB:=Aside0.mk (Below.refl w.heap.size w)
 have H:(if (l0_0.length:Int) < 1 then (some false) else (if (l0_0.length:Int) > 10 then (some false) else (if 0 < (l0_0.length:Int) then (if (rd l0_0 0) = 0 then ((impl_GoodSign_1_any.f l0_0).bind fun t198=>(some (!t198))) else (some false)) else (none)))) = some r:=h
 clear h
 by_cases c2:(l0_0.length:Int) < 1
 ·rw [if_pos c2] at H
  have c2b0:=decide_eq_true c2
  have c2b1:decide (l0_0.length < 1) = true:=decide_eq_true (by omega)
  clear c2
  obtain rfl:=Option.some.inj H
  go_enter Try.func64,Try.ntmps64
  go_wp2_with (first|((with_reducible refine gate_dst (N:=1) rfl ?_);(try (refine gate_guard (by rfl) ?_;dsimp only));refine box_event ?hg (N:=1) ?hd (cs:=#[.slice A0_0 l0_0.length c0_0]) (t:=30) ?hr ?_;(case hd=>rfl);(case hg=>rfl);(case hr=>first|(go_simp;done)|(go_simp;rfl));intro gb196 hg w3 hbox hb;have BK196:=Aside0.mk (hbox);have GW196:=Aside0.mk ((hZ:w.heap.size ≤ gb196));have GE196:=Aside0.mk ((hZ:w.heap.size ≤ gb196));replace HB:=Aside0.mk (below_step bH hb);clear hb hbox hg;have hcz4_0:w3.cell? ⟨gb196,0,none⟩ = some (.slice A0_0 l0_0.length c0_0):=(blk_cell BK196.out 0).trans rfl;have hfz4_0:=blk_frozen BK196.out 0))
  go_ret
  exact ⟨by first|rfl|(simp [errW_none,errW_some] <;> rfl)|(simp [*,errW_none,errW_some] <;> rfl),bH⟩
 ·rw [if_neg c2] at H
  have c2b0:decide ((l0_0.length:Int) < 1) = false:=decide_eq_false c2
  have c2b1:decide (l0_0.length < 1) = false:=decide_eq_false (by omega)
  clear c2
  by_cases c5:(l0_0.length:Int) > 10
  ·rw [if_pos c5] at H
   have c5b0:decide (10 < (l0_0.length:Int)) = true:=decide_eq_true c5
   have c5b1:decide (10 < l0_0.length) = true:=decide_eq_true (by omega)
   clear c5
   obtain rfl:=Option.some.inj H
   go_enter Try.func64,Try.ntmps64
   go_wp2_with (first|((with_reducible refine gate_dst (N:=1) rfl ?_);(try (refine gate_guard (by rfl) ?_;dsimp only));refine box_event ?hg (N:=1) ?hd (cs:=#[.slice A0_0 l0_0.length c0_0]) (t:=30) ?hr ?_;(case hd=>rfl);(case hg=>rfl);(case hr=>first|(go_simp;done)|(go_simp;rfl));intro gb196 hg w6 hbox hb;have BK196:=Aside0.mk (hbox);have GW196:=Aside0.mk ((hZ:w.heap.size ≤ gb196));have GE196:=Aside0.mk ((hZ:w.heap.size ≤ gb196));replace HB:=Aside0.mk (below_step bH hb);clear hb hbox hg;have hcz7_0:w6.cell? ⟨gb196,0,none⟩ = some (.slice A0_0 l0_0.length c0_0):=(blk_cell BK196.out 0).trans rfl;have hfz7_0:=blk_frozen BK196.out 0))
   go_ret
   exact ⟨by first|rfl|(simp [errW_none,errW_some] <;> rfl)|(simp [*,errW_none,errW_some] <;> rfl),bH⟩
  ·rw [if_neg c5] at H
   have c5b0:decide (10 < (l0_0.length:Int)) = false:=decide_eq_false c5
   have c5b1:decide (10 < l0_0.length) = false:=decide_eq_false (by omega)
   clear c5
   by_cases c8:0 < (l0_0.length:Int)
   ·rw [if_pos c8] at H
    have c8b0:=decide_eq_true c8
    have c8b1:decide (0 < l0_0.length) = true:=decide_eq_true (by omega)
    clear c8
    by_cases c9:(rd l0_0 0) = 0
    ·rw [if_pos c9] at H
     have c9b0:((rd l0_0 0) == 0) = true:=beq_iff_eq.mpr c9
     have c9b1:((rd l0_0 0) != 0) = false:=bne_eq_false_iff_eq.mpr c9
     clear c9
     replace H:=Option.bind_eq_some_iff.mp H
     obtain ⟨t198,A100,H⟩:=H
     replace H:(some (!t198)) = some r:=H
     have A10:=Aside0.mk A100
     clear A100
     obtain rfl:=Option.some.inj H
     go_enter Try.func64,Try.ntmps64
     go_wp2_with (first|((with_reducible refine gate_dst (N:=1) rfl ?_);(try (refine gate_guard (by rfl) ?_;dsimp only));refine box_event ?hg (N:=1) ?hd (cs:=#[.slice A0_0 l0_0.length c0_0]) (t:=30) ?hr ?_;(case hd=>rfl);(case hg=>rfl);(case hr=>first|(go_simp;done)|(go_simp;rfl));intro gb196 hg w11 hbox hb;have BK196:=Aside0.mk (hbox);have GW196:=Aside0.mk ((hZ:w.heap.size ≤ gb196));have GE196:=Aside0.mk ((hZ:w.heap.size ≤ gb196));replace HB:=Aside0.mk (below_step bH hb);clear hb hbox hg;have hcz12_0:w11.cell? ⟨gb196,0,none⟩ = some (.slice A0_0 l0_0.length c0_0):=(blk_cell BK196.out 0).trans rfl;have hfz12_0:=blk_frozen BK196.out 0;have p197:0 ≤ (0:Int):=(by omega);have q197:0 < (l0_0.length:Int):=oD;obtain ⟨ad197,e197,hx197_0⟩:=Kd.at_int HR0_0.out 0 p197 q197;cases e197;have qi197:(0 < l0_0.length) = True:=eq_true (by omega);(try rw [show ((0:Int)).toNat = 0 from rfl] at hx197_0);(try rw [Addr.add_zero'] at hx197_0);replace hx197_0:=(HB.out.cell (World.block_lt_of_cell? w _ hx197_0)).trans hx197_0;replace p197:=eq_true p197;replace q197:=eq_true q197)|(go_at_call 96;(with_reducible refine (impl_GoodSign_1_any.calls _ _ l0_0 t198 _ ?side1 ?side2 A10.out).mono ?_);(case side1=>exact sC HR0_0);(case side2=>exact HC0_0.out);rintro e w13 ⟨rfl,hb⟩;replace BK196:=Aside0.mk (blk_below (bB BK196) hb);replace HB:=Aside0.mk (below_step bH hb);(try clear hb);(try clear hb2);(try clear hk);(try clear hi)))
     go_ret
     exact ⟨by first|rfl|(simp [errW_none,errW_some] <;> rfl)|(simp [*,errW_none,errW_some] <;> rfl),bH⟩
    ·rw [if_neg c9] at H
     have c9b0:((rd l0_0 0) == 0) = false:=beq_eq_false_iff_ne.mpr c9
     have c9b1:((rd l0_0 0) != 0) = true:=bne_iff_ne.mpr c9
     obtain rfl:=Option.some.inj H
     go_enter Try.func64,Try.ntmps64
     go_wp2_with (first|((with_reducible refine gate_dst (N:=1) rfl ?_);(try (refine gate_guard (by rfl) ?_;dsimp only));refine box_event ?hg (N:=1) ?hd (cs:=#[.slice A0_0 l0_0.length c0_0]) (t:=30) ?hr ?_;(case hd=>rfl);(case hg=>rfl);(case hr=>first|(go_simp;done)|(go_simp;rfl));intro gb196 hg w14 hbox hb;have BK196:=Aside0.mk (hbox);have GW196:=Aside0.mk ((hZ:w.heap.size ≤ gb196));have GE196:=Aside0.mk ((hZ:w.heap.size ≤ gb196));replace HB:=Aside0.mk (below_step bH hb);clear hb hbox hg;have hcz15_0:w14.cell? ⟨gb196,0,none⟩ = some (.slice A0_0 l0_0.length c0_0):=(blk_cell BK196.out 0).trans rfl;have hfz15_0:=blk_frozen BK196.out 0;have p197:0 ≤ (0:Int):=(by omega);have q197:0 < (l0_0.length:Int):=oD;obtain ⟨ad197,e197,hx197_0⟩:=Kd.at_int HR0_0.out 0 p197 q197;cases e197;have qi197:(0 < l0_0.length) = True:=eq_true (by omega);(try rw [show ((0:Int)).toNat = 0 from rfl] at hx197_0);(try rw [Addr.add_zero'] at hx197_0);replace hx197_0:=(HB.out.cell (World.block_lt_of_cell? w _ hx197_0)).trans hx197_0;replace p197:=eq_true p197;replace q197:=eq_true q197))
     go_ret
     exact ⟨by first|rfl|(simp [errW_none,errW_some] <;> rfl)|(simp [*,errW_none,errW_some] <;> rfl),bH⟩
   ·rw [if_neg c8] at H
    exact absurd H (by simp)

/-- A state of type 89 at block g of W; what its slices lead to came in by w0. -/
def IsS89 (w0 W:World) (g:Nat) (f0:List Int) (f1:ByteArray) (f2:Int) (f3:Int) (f4:Bool):Prop:=∃ A0 c0,W.heap[g]? = some (.cells #[.slice A0 f0.length c0,.string f1,.int .i64 f2,.int .i64 f3,.bool f4] 89 (0,0)) ∧ w0.heap.size ≤ g ∧ Kd.C (Kd.int .i64) w0 A0 f0.length f0
theorem IsS89.grown {w0 W:World} {g:Nat} {f0:List Int} {f1:ByteArray} {f2:Int} {f3:Int} {f4:Bool} {W1:World} {row:Option Nat} (h:IsS89 w0 W g f0 f1 f2 f3 f4) (hw:W.grownBy W1 row) (hne:some g ≠ row):IsS89 w0 W1 g f0 f1 f2 f3 f4:=by
 obtain ⟨A0,c0,hb,hg,hr0⟩:=h
 exact ⟨A0,c0,blk_grown hb hw hne,hg,hr0⟩
theorem IsS89.own_neN {w0 W:World} {g:Nat} {f0:List Int} {f1:ByteArray} {f2:Int} {f3:Int} {f4:Bool} {α:Type} {d:Kd α} {e:Nat} {base:Nat} {ok:Nat → Prop} {v:Value} {xs:List α} (h:IsS89 w0 W g f0 f1 f2 f3 f4) (ho:Kd.N d e W base ok v xs) (ht:e ≠ 89):some g ≠ v.ownBlock:=by
 obtain ⟨A0,c0,hb,hg,hr0⟩:=h
 exact Kd.N_ne ho hb ht
theorem IsS89.fresh {w0 W:World} {g:Nat} {f0:List Int} {f1:ByteArray} {f2:Int} {f3:Int} {f4:Bool} (h:IsS89 w0 W g f0 f1 f2 f3 f4):∀ k,W.heap.size ≤ k → k ≠ g:=by
 obtain ⟨A0,c0,hb,hg,hr0⟩:=h
 exact Kd.freshB hb
theorem IsS89.kept {w0 W:World} {g:Nat} {f0:List Int} {f1:ByteArray} {f2:Int} {f3:Int} {f4:Bool} {W1:World} {S:Nat → Prop} (h:IsS89 w0 W g f0 f1 f2 f3 f4) (hk:Kept W W1 S) (hne:¬ S g):IsS89 w0 W1 g f0 f1 f2 f3 f4:=by
 obtain ⟨A0,c0,hb,hg,hr0⟩:=h
 exact ⟨A0,c0,blk_kept hb hk hne,hg,hr0⟩
theorem IsS89.below {w0 W:World} {g:Nat} {f0:List Int} {f1:ByteArray} {f2:Int} {f3:Int} {f4:Bool} {W1:World} (h:IsS89 w0 W g f0 f1 f2 f3 f4) (hw:Below W.heap.size W W1):IsS89 w0 W1 g f0 f1 f2 f3 f4:=h.grown (grown_of_below hw none) (by simp)
theorem IsS89.alloc {w0 W:World} {g:Nat} {f0:List Int} {f1:ByteArray} {f2:Int} {f3:Int} {f4:Bool} (h:IsS89 w0 W g f0 f1 f2 f3 f4) (o:Obj):IsS89 w0 (W.alloc o) g f0 f1 f2 f3 f4:=h.below (below_alloc (Below.refl _ _) o)
theorem IsS89.drewN {w0 W:World} {g:Nat} {f0:List Int} {f1:ByteArray} {f2:Int} {f3:Int} {f4:Bool} (h:IsS89 w0 W g f0 f1 f2 f3 f4) (m:Nat):IsS89 w0 (W.drewN m) g f0 f1 f2 f3 f4:=h
theorem IsS89.drew {w0 W:World} {g:Nat} {f0:List Int} {f1:ByteArray} {f2:Int} {f3:Int} {f4:Bool} (h:IsS89 w0 W g f0 f1 f2 f3 f4):IsS89 w0 W.drew g f0 f1 f2 f3 f4:=h
theorem IsS89.at_ {w0 W:World} {g:Nat} {f0:List Int} {f1:ByteArray} {f2:Int} {f3:Int} {f4:Bool} {w':World} {m:Nat} (hq:W.drewN m = w') (h:IsS89 w0 W g f0 f1 f2 f3 f4):IsS89 w0 w' g f0 f1 f2 f3 f4:=by subst hq;exact IsS89.drewN h m
theorem IsS89.apart {w0 W:World} {g:Nat} {f0:List Int} {f1:ByteArray} {f2:Int} {f3:Int} {f4:Bool} {α:Type} {d:Kd α} {e:Nat} {base:Nat} {ok:Nat → Prop} {v:Value} {xs:List α} (h:IsS89 w0 W g f0 f1 f2 f3 f4) (ho:d.R e W base ok v xs) (ht:∀ q,q ∈ e :: d.E → q ≠ 89):d.R e W base (fun k=>ok k ∧ k ≠ g) v xs:=by
 obtain ⟨A0,c0,hb,hg,hr0⟩:=h
 exact Kd.R_types ho hb ht
theorem IsS89.own_ne {w0 W:World} {g:Nat} {f0:List Int} {f1:ByteArray} {f2:Int} {f3:Int} {f4:Bool} {α:Type} {d:Kd α} {e:Nat} {base:Nat} {ok:Nat → Prop} {v:Value} {xs:List α} (h:IsS89 w0 W g f0 f1 f2 f3 f4) (ho:d.R e W base ok v xs) (ht:e ≠ 89):some g ≠ v.ownBlock:=by
 obtain ⟨A0,c0,hb,hg,hr0⟩:=h
 exact Kd.R_ne ho hb ht
theorem IsS89.apartQ {w0 W:World} {g:Nat} {f0:List Int} {f1:ByteArray} {f2:Int} {f3:Int} {f4:Bool} {α:Type} {d:Kd α} {e:Nat} {base:Nat} {ok:Nat → Prop} {v:Value} {xs:List α} (h:IsS89 w0 W g f0 f1 f2 f3 f4) (ho:d.Q e W base ok v xs) (ht:∀ q,q ∈ e :: d.E → q ≠ 89):d.Q e W base (fun k=>ok k ∧ k ≠ g) v xs:=by
 obtain ⟨A0,c0,hb,hg,hr0⟩:=h
 exact Kd.Q_types ho hb ht
theorem IsS89.own_neQ {w0 W:World} {g:Nat} {f0:List Int} {f1:ByteArray} {f2:Int} {f3:Int} {f4:Bool} {α:Type} {d:Kd α} {e:Nat} {base:Nat} {ok:Nat → Prop} {v:Value} {xs:List α} (h:IsS89 w0 W g f0 f1 f2 f3 f4) (ho:d.Q e W base ok v xs) (ht:e ≠ 89):some g ≠ v.ownBlock:=by
 obtain ⟨A0,c0,hb,hg,hr0⟩:=h
 exact Kd.Q_ne ho hb ht
theorem IsS89.apartS {w0 W:World} {g:Nat} {f0:List Int} {f1:ByteArray} {f2:Int} {f3:Int} {f4:Bool} {α:Type} {d:Kd α} {e:Nat} {base:Nat} {ok:Nat → Prop} {v:Value} {xs:List α} (h:IsS89 w0 W g f0 f1 f2 f3 f4) (ho:d.S e W base ok v xs) (ht:∀ q,q ∈ e :: d.E → q ≠ 89):d.S e W base (fun k=>ok k ∧ k ≠ g) v xs:=by
 obtain ⟨A0,c0,hb,hg,hr0⟩:=h
 exact Kd.S_types ho hb ht
theorem IsS89.own_neS {w0 W:World} {g:Nat} {f0:List Int} {f1:ByteArray} {f2:Int} {f3:Int} {f4:Bool} {α:Type} {d:Kd α} {e:Nat} {base:Nat} {ok:Nat → Prop} {v:Value} {xs:List α} (h:IsS89 w0 W g f0 f1 f2 f3 f4) (ho:d.S e W base ok v xs) (ht:e ≠ 89):some g ≠ v.ownBlock:=by
 obtain ⟨A0,c0,hb,hg,hr0⟩:=h
 exact Kd.S_ne ho hb ht
theorem IsS89.lt {w0 W:World} {g:Nat} {f0:List Int} {f1:ByteArray} {f2:Int} {f3:Int} {f4:Bool} (h:IsS89 w0 W g f0 f1 f2 f3 f4):g < W.heap.size:=by
 obtain ⟨A0,c0,hb,hg,hr0⟩:=h
 exact blk_lt hb
theorem IsS89.ge {w0 W:World} {g:Nat} {f0:List Int} {f1:ByteArray} {f2:Int} {f3:Int} {f4:Bool} (h:IsS89 w0 W g f0 f1 f2 f3 f4):w0.heap.size ≤ g:=by
 obtain ⟨A0,c0,hb,hg,hr0⟩:=h
 exact hg
theorem IsS89.ne_blk {w0 W:World} {g:Nat} {f0:List Int} {f1:ByteArray} {f2:Int} {f3:Int} {f4:Bool} {a:Nat} {cs:Array Value} {t:TypeId} {fr:Nat × Nat} (h:IsS89 w0 W g f0 f1 f2 f3 f4) (hb2:W.heap[a]? = some (.cells cs t fr)) (ht:t ≠ 89):g ≠ a:=by
 obtain ⟨A0,c0,hb,hg,hr0⟩:=h
 rintro rfl
 rw [hb] at hb2
 injection hb2 with hb2
 injection hb2 with _ ht2
 exact ht ht2.symm
theorem IsS89.far {w0 W:World} {g:Nat} {f0:List Int} {f1:ByteArray} {f2:Int} {f3:Int} {f4:Bool} {p:Addr} (h:IsS89 w0 W g f0 f1 f2 f3 f4) (hne:g ≠ p.block) (u:Value):IsS89 w0 (W.setCell p u) g f0 f1 f2 f3 f4:=by
 obtain ⟨A0,c0,hb,hg,hr0⟩:=h
 exact ⟨A0,c0,blk_far hb hne u,hg,hr0⟩
theorem cellS89_0 {W:World} {g:Nat} {A0:Option Addr} {c0:Nat} {f0:List Int} {f1:ByteArray} {f2:Int} {f3:Int} {f4:Bool} (h:W.heap[g]? = some (.cells #[.slice A0 f0.length c0,.string f1,.int .i64 f2,.int .i64 f3,.bool f4] 89 (0,0))):W.cell? ⟨g,0,none⟩ = some (.slice A0 f0.length c0):=(blk_cell h 0).trans rfl
theorem cellS89_1 {W:World} {g:Nat} {A0:Option Addr} {c0:Nat} {f0:List Int} {f1:ByteArray} {f2:Int} {f3:Int} {f4:Bool} (h:W.heap[g]? = some (.cells #[.slice A0 f0.length c0,.string f1,.int .i64 f2,.int .i64 f3,.bool f4] 89 (0,0))):W.cell? ⟨g,1,none⟩ = some (.string f1):=(blk_cell h 1).trans rfl
theorem IsS89.set_1 {w0 W:World} {g:Nat} {f0:List Int} {f1:ByteArray} {f2:Int} {f3:Int} {f4:Bool} (h:IsS89 w0 W g f0 f1 f2 f3 f4) (x:ByteArray):IsS89 w0 (W.setCell ⟨g,1,none⟩ (.string x)) g f0 x f2 f3 f4:=by
 obtain ⟨A0,c0,hb,hg,hr0⟩:=h
 exact ⟨A0,c0,by simpa using blk_set hb 1 (.string x),hg,hr0⟩
theorem cellS89_2 {W:World} {g:Nat} {A0:Option Addr} {c0:Nat} {f0:List Int} {f1:ByteArray} {f2:Int} {f3:Int} {f4:Bool} (h:W.heap[g]? = some (.cells #[.slice A0 f0.length c0,.string f1,.int .i64 f2,.int .i64 f3,.bool f4] 89 (0,0))):W.cell? ⟨g,2,none⟩ = some (.int .i64 f2):=(blk_cell h 2).trans rfl
theorem IsS89.set_2 {w0 W:World} {g:Nat} {f0:List Int} {f1:ByteArray} {f2:Int} {f3:Int} {f4:Bool} (h:IsS89 w0 W g f0 f1 f2 f3 f4) (x:Int):IsS89 w0 (W.setCell ⟨g,2,none⟩ (.int .i64 x)) g f0 f1 x f3 f4:=by
 obtain ⟨A0,c0,hb,hg,hr0⟩:=h
 exact ⟨A0,c0,by simpa using blk_set hb 2 (.int .i64 x),hg,hr0⟩
theorem cellS89_3 {W:World} {g:Nat} {A0:Option Addr} {c0:Nat} {f0:List Int} {f1:ByteArray} {f2:Int} {f3:Int} {f4:Bool} (h:W.heap[g]? = some (.cells #[.slice A0 f0.length c0,.string f1,.int .i64 f2,.int .i64 f3,.bool f4] 89 (0,0))):W.cell? ⟨g,3,none⟩ = some (.int .i64 f3):=(blk_cell h 3).trans rfl
theorem IsS89.set_3 {w0 W:World} {g:Nat} {f0:List Int} {f1:ByteArray} {f2:Int} {f3:Int} {f4:Bool} (h:IsS89 w0 W g f0 f1 f2 f3 f4) (x:Int):IsS89 w0 (W.setCell ⟨g,3,none⟩ (.int .i64 x)) g f0 f1 f2 x f4:=by
 obtain ⟨A0,c0,hb,hg,hr0⟩:=h
 exact ⟨A0,c0,by simpa using blk_set hb 3 (.int .i64 x),hg,hr0⟩
theorem cellS89_4 {W:World} {g:Nat} {A0:Option Addr} {c0:Nat} {f0:List Int} {f1:ByteArray} {f2:Int} {f3:Int} {f4:Bool} (h:W.heap[g]? = some (.cells #[.slice A0 f0.length c0,.string f1,.int .i64 f2,.int .i64 f3,.bool f4] 89 (0,0))):W.cell? ⟨g,4,none⟩ = some (.bool f4):=(blk_cell h 4).trans rfl
theorem IsS89.set_4 {w0 W:World} {g:Nat} {f0:List Int} {f1:ByteArray} {f2:Int} {f3:Int} {f4:Bool} (h:IsS89 w0 W g f0 f1 f2 f3 f4) (x:Bool):IsS89 w0 (W.setCell ⟨g,4,none⟩ (.bool x)) g f0 f1 f2 f3 x:=by
 obtain ⟨A0,c0,hb,hg,hr0⟩:=h
 exact ⟨A0,c0,by simpa using blk_set hb 4 (.bool x),hg,hr0⟩
theorem IsS89.new (w0 W:World) (A0:Option Addr) (c0:Nat) (f0:List Int) (f1:ByteArray) (f2:Int) (f3:Int) (f4:Bool) (hB:Below w0.heap.size w0 W) (hr0:Kd.C (Kd.int .i64) w0 A0 f0.length f0):IsS89 w0 (W.alloc (.cells #[.slice A0 f0.length c0,.string f1,.int .i64 f2,.int .i64 f3,.bool f4] 89)) W.heap.size f0 f1 f2 f3 f4:=⟨A0,c0,by simpa using heap_alloc_new W _,hB.size,hr0⟩

/-! ### impl_parser_next: function 98 -/
def impl_parser_next.f (s0_0:List Int) (s0_1:ByteArray) (s0_2:Int) (s0_3:Int) (s0_4:Bool):Option (Int × ByteArray × Int × Int × Bool):=if s0_4 = true then (some (0,s0_1,s0_2,s0_3,s0_4)) else (if s0_2 ≥ (s0_1.size:Int) then (some (0,s0_1,s0_2,s0_3,s0_4)) else (if 0 ≤ s0_2 then (if s0_2 < (s0_1.size:Int) then (some (bt s0_1 s0_2,s0_1,s0_2,s0_3,s0_4)) else (none)) else (none)))
set_option maxHeartbeats 8000000 in
set_option maxRecDepth 100000 in
theorem impl_parser_next.calls (g:Nat) (s0_0:List Int) (s0_1:ByteArray) (s0_2:Int) (s0_3:Int) (s0_4:Bool) (r1:Int) (r2:ByteArray) (r3:Int) (r4:Int) (r5:Bool) (w0 w:World) (hI:IsS89 w0 w g s0_0 s0_1 s0_2 s0_3 s0_4) (hB:Below w0.heap.size w0 w) (h:impl_parser_next.f s0_0 s0_1 s0_2 s0_3 s0_4 = some (r1,r2,r3,r4,r5)) :
  Calls Try.prog 98 #[.pointer (some ⟨g,0,none⟩)] w fun e w'=>e = .returned (.int .u8 r1) ∧ IsS89 w0 w' g s0_0 r2 r3 r4 r5 ∧ Below w0.heap.size w0 w' ∧ KeepBut w w' g none:=by
 have HI0:=Aside0.mk hI
 have HK:=Aside0.mk (KeepBut.refl w g none)
 have HL:=Aside0.mk hB.size
 clear hI
 have HW0:=Aside0.mk hB.size
 have HB:=Aside0.mk hB
 clear hB
 have H:(if s0_4 = true then (some (0,s0_1,s0_2,s0_3,s0_4)) else (if s0_2 ≥ (s0_1.size:Int) then (some (0,s0_1,s0_2,s0_3,s0_4)) else (if 0 ≤ s0_2 then (if s0_2 < (s0_1.size:Int) then (some (bt s0_1 s0_2,s0_1,s0_2,s0_3,s0_4)) else (none)) else (none)))) = some (r1,r2,r3,r4,r5):=h
 clear h
 by_cases c2:s0_4 = true
 ·subst c2
  have H1:(some (0,s0_1,s0_2,s0_3,true)) = some (r1,r2,r3,r4,r5):=by rw [if_pos rfl] at H;exact H
  clear H
  have H:=H1
  clear H1
  simp only [Option.some.injEq,Prod.mk.injEq] at H
  obtain ⟨rfl,rfl,rfl,rfl,rfl⟩:=H
  obtain ⟨ASz3_0,cSz3_0,HGz3,hgz3,HSz3_0⟩:=HI0.out
  have hcz3_0:=cellS89_0 HGz3
  have hcz3_1:=cellS89_1 HGz3
  have hcz3_2:=cellS89_2 HGz3
  have hcz3_3:=cellS89_3 HGz3
  have hcz3_4:=cellS89_4 HGz3
  have hfz3_1:=blk_frozen HGz3 1
  have hfz3_2:=blk_frozen HGz3 2
  have hfz3_3:=blk_frozen HGz3 3
  have hfz3_4:=blk_frozen HGz3 4
  clear HGz3 hgz3
  go_enter Try.func98,Try.ntmps98
  go_wp2
  repeat (go_quiet (fail);try go_wp2)
  go_ret
  exact ⟨by first|rfl|(simp [errW_none,errW_some] <;> rfl)|(simp [*,errW_none,errW_some] <;> rfl),by repeat (first|(with_reducible first|exact HI0.out|apply IsS89.alloc|apply IsS89.drewN|apply IsS89.drew|apply IsS89.set_1|apply IsS89.set_2|apply IsS89.set_3|apply IsS89.set_4)|exact HI0.out),by repeat (first|(with_reducible first|exact HB.out|apply below_alloc|apply pw_below_drewN|apply below_drew1|refine below_set ?_ (IsS89.ge HI0.out))|exact HB.out),by repeat (first|(with_reducible first|exact HK.out|apply KeepBut.set_|apply keep_drewN|apply keep_drew|apply keep_alloc)|exact HK.out)⟩
 ·replace c2:=Bool.eq_false_iff.mpr c2
  subst c2
  have H1:(if s0_2 ≥ (s0_1.size:Int) then (some (0,s0_1,s0_2,s0_3,false)) else (if 0 ≤ s0_2 then (if s0_2 < (s0_1.size:Int) then (some (bt s0_1 s0_2,s0_1,s0_2,s0_3,false)) else (none)) else (none))) = some (r1,r2,r3,r4,r5):=by rw [if_neg (show ¬ (false = true) by decide)] at H;exact H
  clear H
  have H:=H1
  clear H1
  by_cases c4:s0_2 ≥ (s0_1.size:Int)
  ·rw [if_pos c4] at H
   have c4b0:decide ((s0_1.size:Int) ≤ s0_2) = true:=decide_eq_true c4
   clear c4
   simp only [Option.some.injEq,Prod.mk.injEq] at H
   obtain ⟨rfl,rfl,rfl,rfl,rfl⟩:=H
   obtain ⟨ASz5_0,cSz5_0,HGz5,hgz5,HSz5_0⟩:=HI0.out
   have hcz5_0:=cellS89_0 HGz5
   have hcz5_1:=cellS89_1 HGz5
   have hcz5_2:=cellS89_2 HGz5
   have hcz5_3:=cellS89_3 HGz5
   have hcz5_4:=cellS89_4 HGz5
   have hfz5_1:=blk_frozen HGz5 1
   have hfz5_2:=blk_frozen HGz5 2
   have hfz5_3:=blk_frozen HGz5 3
   have hfz5_4:=blk_frozen HGz5 4
   clear HGz5 hgz5
   go_enter Try.func98,Try.ntmps98
   go_wp2
   repeat (go_quiet (fail);try go_wp2)
   go_ret
   exact ⟨by first|rfl|(simp [errW_none,errW_some] <;> rfl)|(simp [*,errW_none,errW_some] <;> rfl),by repeat (first|(with_reducible first|exact HI0.out|apply IsS89.alloc|apply IsS89.drewN|apply IsS89.drew|apply IsS89.set_1|apply IsS89.set_2|apply IsS89.set_3|apply IsS89.set_4)|exact HI0.out),by repeat (first|(with_reducible first|exact HB.out|apply below_alloc|apply pw_below_drewN|apply below_drew1|refine below_set ?_ (IsS89.ge HI0.out))|exact HB.out),by repeat (first|(with_reducible first|exact HK.out|apply KeepBut.set_|apply keep_drewN|apply keep_drew|apply keep_alloc)|exact HK.out)⟩
  ·rw [if_neg c4] at H
   have c4b0:decide ((s0_1.size:Int) ≤ s0_2) = false:=decide_eq_false c4
   clear c4
   by_cases c6:0 ≤ s0_2
   ·rw [if_pos c6] at H
    have c6b0:=decide_eq_true c6
    clear c6
    by_cases c7:s0_2 < (s0_1.size:Int)
    ·rw [if_pos c7] at H
     have c7b0:=decide_eq_true c7
     clear c7
     simp only [Option.some.injEq,Prod.mk.injEq] at H
     obtain ⟨rfl,rfl,rfl,rfl,rfl⟩:=H
     obtain ⟨ASz9_0,cSz9_0,HGz9,hgz9,HSz9_0⟩:=HI0.out
     have hcz9_0:=cellS89_0 HGz9
     have hcz9_1:=cellS89_1 HGz9
     have hcz9_2:=cellS89_2 HGz9
     have hcz9_3:=cellS89_3 HGz9
     have hcz9_4:=cellS89_4 HGz9
     have hfz9_1:=blk_frozen HGz9 1
     have hfz9_2:=blk_frozen HGz9 2
     have hfz9_3:=blk_frozen HGz9 3
     have hfz9_4:=blk_frozen HGz9 4
     clear HGz9 hgz9
     have p8:0 ≤ (s0_2:Int):=oD
     have q8:s0_2 < (s0_1.size:Int):=oD
     have hx8:=bt_at s0_1 s0_2
     replace p8:=eq_true p8
     replace q8:=eq_true q8
     go_enter Try.func98,Try.ntmps98
     go_wp2
     repeat (go_quiet (fail);try go_wp2)
     go_ret
     exact ⟨by first|rfl|(simp [errW_none,errW_some] <;> rfl)|(simp [*,errW_none,errW_some] <;> rfl),by repeat (first|(with_reducible first|exact HI0.out|apply IsS89.alloc|apply IsS89.drewN|apply IsS89.drew|apply IsS89.set_1|apply IsS89.set_2|apply IsS89.set_3|apply IsS89.set_4)|exact HI0.out),by repeat (first|(with_reducible first|exact HB.out|apply below_alloc|apply pw_below_drewN|apply below_drew1|refine below_set ?_ (IsS89.ge HI0.out))|exact HB.out),by repeat (first|(with_reducible first|exact HK.out|apply KeepBut.set_|apply keep_drewN|apply keep_drew|apply keep_alloc)|exact HK.out)⟩
    ·rw [if_neg c7] at H
     exact absurd H (by simp)
   ·rw [if_neg c6] at H
    exact absurd H (by simp)

end Go.Proofs.Ytlgnanbnicmdaab.QFnExactReadClause
