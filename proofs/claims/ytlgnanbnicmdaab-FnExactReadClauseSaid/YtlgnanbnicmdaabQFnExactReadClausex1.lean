-- Written by this session's own program (wip/x/xprint.py, over the kit's printer); Lean checks it.
import Derived.Test.YtlgnanbnicmdaabQFnExactReadClausex0
namespace Go.Proofs.Ytlgnanbnicmdaab.QFnExactReadClause
open Go.RowKit Go.Proofs.YtlgnanbnicmdaabW.PrintWords Go.Proofs.YtlgnanbnicmdaabW.PrintLast Go.Proofs.YtlgnanbnicmdaabW.PrintMore
attribute [local go_sem] max2_int min2_int max_two min_two max_three min_three max_four min_four   -- for this text's walks alone
set_option linter.unusedVariables false
set_option linter.unusedSimpArgs false

/-! ### laws_szIntS: function 38 -/
def laws_szIntS.f (l0:List Int) (a1:Int):Option (Int):=if (wrap64 (a1 - (l0.length:Int))) < 0 then (some (-1)) else (some (wrap64 (a1 - (l0.length:Int))))
set_option maxHeartbeats 8000000 in
set_option maxRecDepth 100000 in
theorem laws_szIntS.calls (A0:Option Addr) (c0:Nat) (l0:List Int) (a1:Int) (r:Int) (w:World) (hr0:Kd.C (Kd.int .i64) w A0 l0.length l0) (hc0:l0.length ≤ c0) (h:laws_szIntS.f l0 a1 = some r) :
  Calls Try.prog 38 #[.slice A0 l0.length c0,.int .i64 a1] w fun e w'=>e = .returned (.int .i64 r) ∧ Drawn0 w w':=by
 have HR0:=Aside0.mk hr0
 have HC0:=Aside0.mk hc0
 clear hr0 hc0
 have H:(if (wrap64 (a1 - (l0.length:Int))) < 0 then (some (-1)) else (some (wrap64 (a1 - (l0.length:Int))))) = some r:=h
 clear h
 by_cases c3:(wrap64 (a1 - (l0.length:Int))) < 0
 ·rw [if_pos c3] at H
  have c3b0:=decide_eq_true c3
  clear c3
  obtain rfl:=Option.some.inj H
  go_enter Try.func38,Try.ntmps38
  go_wp2
  go_ret
  exact ⟨by first|rfl|(simp;done)|(simp [*];done),by repeat (first|exact Drawn0.refl _|apply Drawn0.step)⟩
 ·rw [if_neg c3] at H
  have c3b0:decide ((wrap64 (a1 - (l0.length:Int))) < 0) = false:=decide_eq_false c3
  clear c3
  obtain rfl:=Option.some.inj H
  go_enter Try.func38,Try.ntmps38
  go_wp2
  go_ret
  exact ⟨by first|rfl|(simp;done)|(simp [*];done),by repeat (first|exact Drawn0.refl _|apply Drawn0.step)⟩

/-! ### laws_szSign: function 9 -/
def laws_szSign.f (l0_0:List Int) (a1:Int):Option (Int):=(laws_szIntS.f l0_0 a1).bind fun t102=>(if t102 < 0 then (some (-1)) else (some t102))
set_option maxHeartbeats 8000000 in
set_option maxRecDepth 100000 in
theorem laws_szSign.calls (A0_0:Option Addr) (c0_0:Nat) (l0_0:List Int) (a1:Int) (r:Int) (w:World) (hr0_0:Kd.C (Kd.int .i64) w A0_0 l0_0.length l0_0) (hc0_0:l0_0.length ≤ c0_0) (h:laws_szSign.f l0_0 a1 = some r) :
  Calls Try.prog 9 #[.agg #[.slice A0_0 l0_0.length c0_0],.int .i64 a1] w fun e w'=>e = .returned (.int .i64 r) ∧ Below w.heap.size w w':=by
 have hu24:=Try.underlying24
 have HR0_0:=Aside0.mk hr0_0
 have HC0_0:=Aside0.mk hc0_0
 clear hr0_0 hc0_0
 have HB:=Aside0.mk (Below.refl w.heap.size w)
 have H:((laws_szIntS.f l0_0 a1).bind fun t102=>(if t102 < 0 then (some (-1)) else (some t102))) = some r:=h
 clear h
 replace H:=Option.bind_eq_some_iff.mp H
 obtain ⟨t102,A30,H⟩:=H
 replace H:(if t102 < 0 then (some (-1)) else (some t102)) = some r:=H
 have A3:=Aside0.mk A30
 clear A30
 by_cases c4:t102 < 0
 ·rw [if_pos c4] at H
  have c4b0:=decide_eq_true c4
  clear c4
  obtain rfl:=Option.some.inj H
  go_enter Try.func9,Try.ntmps9
  go_wp2_with (first|((with_reducible refine gate_dst (N:=2) rfl ?_);refine box_event ?hg (N:=2) ?hd (cs:=#[.slice A0_0 l0_0.length c0_0]) (t:=24) ?hr ?_;(case hd=>rfl);(case hg=>rfl);(case hr=>first|(go_simp;done)|(go_simp;rfl));intro gb101 hg w5 hbox hb;have BK101:=Aside0.mk (hbox);have GW101:=Aside0.mk ((hZ:w.heap.size ≤ gb101));have GE101:=Aside0.mk ((hZ:w.heap.size ≤ gb101));replace HB:=Aside0.mk (below_step bH hb);clear hb hbox hg;have hcz6_0:w5.cell? ⟨gb101,0,none⟩ = some (.slice A0_0 l0_0.length c0_0):=(blk_cell BK101.out 0).trans rfl;have hfz6_0:=blk_frozen BK101.out 0)|((with_reducible refine gate_callee (f:=38) rfl ?_);refine goesL_ (some 8) rfl rfl Try.func38 (by kernel_rfl) rfl #[.slice A0_0 l0_0.length c0_0,.int .i64 a1] rfl Ya ?_;(with_reducible refine (laws_szIntS.calls _ _ l0_0 a1 t102 _ ?side1 ?side2 A3.out).mono ?_);(case side1=>exact sC HR0_0);(case side2=>exact HC0_0.out);rintro e w' ⟨rfl,⟨nd,rfl⟩⟩;refine ⟨_,rfl,?_⟩))
  go_ret
  exact ⟨by first|rfl|(simp [errW_none,errW_some] <;> rfl)|(simp [*,errW_none,errW_some] <;> rfl),bH⟩
 ·rw [if_neg c4] at H
  have c4b0:decide (t102 < 0) = false:=decide_eq_false c4
  clear c4
  obtain rfl:=Option.some.inj H
  go_enter Try.func9,Try.ntmps9
  go_wp2_with (first|((with_reducible refine gate_dst (N:=2) rfl ?_);refine box_event ?hg (N:=2) ?hd (cs:=#[.slice A0_0 l0_0.length c0_0]) (t:=24) ?hr ?_;(case hd=>rfl);(case hg=>rfl);(case hr=>first|(go_simp;done)|(go_simp;rfl));intro gb101 hg w7 hbox hb;have BK101:=Aside0.mk (hbox);have GW101:=Aside0.mk ((hZ:w.heap.size ≤ gb101));have GE101:=Aside0.mk ((hZ:w.heap.size ≤ gb101));replace HB:=Aside0.mk (below_step bH hb);clear hb hbox hg;have hcz8_0:w7.cell? ⟨gb101,0,none⟩ = some (.slice A0_0 l0_0.length c0_0):=(blk_cell BK101.out 0).trans rfl;have hfz8_0:=blk_frozen BK101.out 0)|((with_reducible refine gate_callee (f:=38) rfl ?_);refine goesL_ (some 8) rfl rfl Try.func38 (by kernel_rfl) rfl #[.slice A0_0 l0_0.length c0_0,.int .i64 a1] rfl Ya ?_;(with_reducible refine (laws_szIntS.calls _ _ l0_0 a1 t102 _ ?side1 ?side2 A3.out).mono ?_);(case side1=>exact sC HR0_0);(case side2=>exact HC0_0.out);rintro e w' ⟨rfl,⟨nd,rfl⟩⟩;refine ⟨_,rfl,?_⟩))
  go_ret
  exact ⟨by first|rfl|(simp [errW_none,errW_some] <;> rfl)|(simp [*,errW_none,errW_some] <;> rfl),bH⟩

/-! ### laws_toIntS: function 13 -/
def laws_toIntS.l0:Nat → List Int → List Int → Int → Option (List Int)
 | 0,_,_,_=>none
 | k + 1,x0,x3,x4=>if x4 < (x0.length:Int) then (if 0 ≤ x4 then (if x4 < (x3.length:Int) then (laws_toIntS.l0 k x0 (x3.set (x4:Int).toNat (rd x0 x4)) (wrap64 (x4 + 1))) else (none)) else (none)) else (some x3)
def laws_toIntS.f (k:Nat) (l0:List Int):Option (List Int):=if 0 ≤ (l0.length:Int) then (if ((l0.length:Int):Int).toNat ≤ 35184372088832 then (laws_toIntS.l0 k l0 (List.replicate ((l0.length:Int):Int).toNat 0) 0) else (none)) else (none)
theorem laws_toIntS.mono_l:∀ k,(∀ y0 y1 y2,LeO (laws_toIntS.l0 k y0 y1 y2) (laws_toIntS.l0 (k + 1) y0 y1 y2))
 | 0=>fun _ _ _ r h=>by simp [laws_toIntS.l0] at h
 | k + 1=>by
  have ih0:=laws_toIntS.mono_l k
  ·intro y0 y1 y2
   unfold laws_toIntS.l0
   exact mO
theorem laws_toIntS.mono:∀ a0 k,LeO (laws_toIntS.f k a0) (laws_toIntS.f (k + 1) a0):=by
 intro a0 k
 have ih0:=laws_toIntS.mono_l k
 unfold laws_toIntS.f
 exact mO
set_option maxHeartbeats 8000000 in
set_option maxRecDepth 100000 in
theorem laws_toIntS.calls (k:Nat) (A0:Option Addr) (c0:Nat) (l0:List Int) (r:List Int) (w:World) (hr0:Kd.C (Kd.int .i64) w A0 l0.length l0) (hc0:l0.length ≤ c0) (h:laws_toIntS.f k l0 = some r) :
  Calls Try.prog 13 #[.slice A0 l0.length c0] w fun e w'=>∃ v0_:Value,e = .returned (v0_) ∧ Kd.R (Kd.int .i64) 3 w' w.heap.size (fun _=>True) v0_ r ∧ Below w.heap.size w w':=by
 have HR0:=Aside0.mk hr0
 have HC0:=Aside0.mk hc0
 clear hr0 hc0
 have HB:=Aside0.mk (Below.refl w.heap.size w)
 have H:(if 0 ≤ (l0.length:Int) then (if ((l0.length:Int):Int).toNat ≤ 35184372088832 then (laws_toIntS.l0 k l0 (List.replicate ((l0.length:Int):Int).toNat 0) 0) else (none)) else (none)) = some r:=h
 clear h
 by_cases c2:0 ≤ (l0.length:Int)
 ·rw [if_pos c2] at H
  have c2b0:=eq_true c2
  have c2b1:=decide_eq_true c2
  clear c2
  by_cases c3:((l0.length:Int):Int).toNat ≤ 35184372088832
  ·rw [if_pos c3] at H
   have c3b0:=eq_true c3
   have c3b1:=decide_eq_true c3
   clear c3
   obtain ⟨y103,hy103⟩:∃ y_:List Int,y_ = (List.replicate ((l0.length:Int):Int).toNat 0):=⟨_,rfl⟩
   replace H:(laws_toIntS.l0 k l0 y103 0) = some r:=by first|(rw [hy103];with_reducible exact H)|(have H2_:=(Option.bind_some _ _).symm.trans H;rw [hy103];with_reducible exact H2_)|(have H2_:=(Option.bind_some _ _).symm.trans H;with_reducible exact H2_)|with_reducible exact H|(rw [hy103];exact H)|exact H
   have Ny103:=Aside0.mk hy103
   clear hy103
   have H':=Aside0.mk H
   clear H
   go_enter Try.func13,Try.ntmps13
   go_wp2_with (first|((with_reducible refine gate_dst (N:=7) rfl ?_);refine Kd.R_make (Kd.int .i64) _ 3 rfl (N:=7) rfl 22 _ _ rfl (l0.length:Int) rfl rfl Try.underlying22 (.int .i64 0) 8 info3 rfl (by decide) (by first|decide|omega) 0 (ok:=fun _=>True) (okp:=fun _=>True) rfl (fun _ hk=>hk) trivial (oD) (Nat.le_trans (Nat.mul_le_mul_right _ (oD:(l0.length:Int).toNat ≤ 35184372088832)) (by first|decide|omega)) (Below.refl _ _) (Nat.le_refl _) ?_;intro v104 w4 ho5 hb hg_ hnew_;clear hg_ hnew_;(first|rw [← Ny103.out] at ho5|(simp only [Int.reduceToNat] at ho5;rw [← Ny103.out] at ho5));have HO105:=Aside0.mk (Kd.R_lower ho5 (below_size bH));replace HB:=Aside0.mk (below_step bH hb);clear hb ho5))
   go_loopg [4] k (fun kq v4 w'=>∃ (x3_1:List Int) (x4_1:Int),v4 = .int .i64 x4_1 ∧ Aside0 (laws_toIntS.l0 kq l0 x3_1 x4_1 = some r) ∧ Aside0 (kq ≤ k) ∧ Aside0 (Kd.R (Kd.int .i64) 3 w' w.heap.size (fun _=>True) v104 x3_1) ∧ Aside0 (Below w.heap.size w w'))
   case atStart=>exact ⟨(y103),(0),Yd,H',⟨Nat.le_refl _⟩,⟨rR HO105⟩,⟨bH⟩⟩
   case round =>
    clear H'
    try clear c1
    try clear c2
    try clear c2b0
    try clear c2b1
    try clear p2
    try clear c3
    try clear c3b0
    try clear c3b1
    obtain ⟨x3_1,x4_1,rfl,HA,HK1,HO_3,HB⟩:=hrel
    cases gk with
    | zero=>exact absurd HA.out (by simp [laws_toIntS.l0])
    | succ k1 =>
     have H:=HA.out
     clear HA
     simp only [laws_toIntS.l0] at H
     by_cases c6:x4_1 < (l0.length:Int)
     ·rw [if_pos c6] at H
      have c6b0:=decide_eq_true c6
      clear c6
      by_cases c7:0 ≤ x4_1
      ·rw [if_pos c7] at H
       have c7b0:=decide_eq_true c7
       clear c7
       by_cases c8:x4_1 < (x3_1.length:Int)
       ·rw [if_pos c8] at H
        have c8b0:=decide_eq_true c8
        clear c8
        obtain ⟨y107,hy107⟩:∃ y_:List Int,y_ = (x3_1.set (x4_1:Int).toNat (rd l0 x4_1)):=⟨_,rfl⟩
        replace H:(laws_toIntS.l0 k1 l0 y107 (wrap64 (x4_1 + 1))) = some r:=by first|(rw [hy107];with_reducible exact H)|(have H2_:=(Option.bind_some _ _).symm.trans H;rw [hy107];with_reducible exact H2_)|(have H2_:=(Option.bind_some _ _).symm.trans H;with_reducible exact H2_)|with_reducible exact H|(rw [hy107];exact H)|exact H
        have Ny107:=Aside0.mk hy107
        clear hy107
        have H':=Aside0.mk H
        clear H
        have p106:0 ≤ (x4_1:Int):=oD
        have q106:x4_1 < (l0.length:Int):=oD
        obtain ⟨ad106,e106,hx106_0⟩:=Kd.at_int HR0.out x4_1 p106 q106
        cases e106
        replace hx106_0:=(HB.out.cell (World.block_lt_of_cell? w _ hx106_0)).trans hx106_0
        replace p106:=eq_true p106
        replace q106:=eq_true q106
        have p9:0 ≤ (x4_1:Int):=oD
        have q9:(x4_1:Int) < ((x3_1.length:Int):Int):=oD
        obtain ⟨go9,co9,eo9,gb9,gl9,cl9,HG9⟩:=Kd.R_form HO_3.out (by omega)
        (first|cases eo9|(injection eo9 with ea_ en_ ec_;(first|subst ea_|(injection ea_ with ea_;subst ea_));subst ec_;clear en_))
        have GB9:=Aside0.mk gb9
        have GG9:=Aside0.mk HG9
        clear gb9 gl9 HG9
        obtain ⟨hx9_0,hf9_0⟩:=Kd.R_celln 0 HO_3.out (x4_1:Int) p9 q9
        replace p9:=eq_true p9
        replace q9:=eq_true q9
        have HP10:=Kd.R_putg HO_3.out (x4_1:Int) (rd l0 x4_1)
        go_wp2_with (first|((with_reducible refine gate_store (t:=3) (p:=20) rfl ?_);refine store_event (t:=3) (p:=20) (v:=?vo_w11) (w1:=(wr.setCell ⟨go9,(x4_1:Int).toNat,none⟩ (.int .i64 (rd l0 x4_1)))) ?hg ?ho ?hn ?hr ?_;(case ho=>rfl);(case hg=>rfl);(case hn=>rfl);(case hr=>first|(go_simp;done)|(go_simp;rfl));intro w11 hw;have hg:wr.grownBy w11 (some go9):=(by rw [hw];exact HP10.2);have hp_:Kd.R (Kd.int .i64) 3 w11 w.heap.size (fun _=>True) (.slice (some ⟨go9,0,none⟩) x3_1.length co9) y107:=(by rw [hw,Ny107.out];exact HP10.1);clear HP10;replace HO_3:=Aside0.mk (hp_);replace HB:=Aside0.mk ((by rw [hw];exact below_set (HB.out) GB9.out:Below w.heap.size w w11));clear hg hw hp_))
        go_roundg k1
        case measure=>have:=HK1.out;omega
        case rel=>exact ⟨(y107),(wrap64 (x4_1 + 1)),Yd,H',⟨by have:=HK1.out;omega⟩,⟨rR HO_3⟩,⟨bH⟩⟩
       ·rw [if_neg c8] at H
        exact absurd H (by simp)
      ·rw [if_neg c7] at H
       exact absurd H (by simp)
     ·rw [if_neg c6] at H
      have c6b0:decide (x4_1 < (l0.length:Int)) = false:=decide_eq_false c6
      clear c6
      obtain rfl:=Option.some.inj H
      go_wp2
      go_ret
      exact ⟨_,by first|rfl|(simp [errW_none,errW_some] <;> rfl)|(simp [*,errW_none,errW_some] <;> rfl),rR HO_3,bH⟩
  ·rw [if_neg c3] at H
   exact absurd H (by simp)
 ·rw [if_neg c2] at H
  exact absurd H (by simp)

/-! ### laws_toSign: function 12 -/
def laws_toSign.f (k:Nat) (l0_0:List Int):Option (List Int):=(laws_toIntS.f k l0_0).bind fun t111=>(some t111)
theorem laws_toSign.mono:∀ a0 k,LeO (laws_toSign.f k a0) (laws_toSign.f (k + 1) a0):=by
 intro a0 k
 unfold laws_toSign.f
 have m0:=@laws_toIntS.mono
 exact mO
set_option maxHeartbeats 8000000 in
set_option maxRecDepth 100000 in
theorem laws_toSign.calls (k:Nat) (A0_0:Option Addr) (c0_0:Nat) (l0_0:List Int) (r:List Int) (w:World) (hr0_0:Kd.C (Kd.int .i64) w A0_0 l0_0.length l0_0) (hc0_0:l0_0.length ≤ c0_0) (h:laws_toSign.f k l0_0 = some r) :
  Calls Try.prog 12 #[.agg #[.slice A0_0 l0_0.length c0_0]] w fun e w'=>∃ v0_:Value,e = .returned (.agg #[v0_]) ∧ Kd.R (Kd.int .i64) 3 w' w.heap.size (fun _=>True) v0_ r ∧ Below w.heap.size w w':=by
 have hu24:=Try.underlying24
 have hu30:=Try.underlying30
 have HR0_0:=Aside0.mk hr0_0
 have HC0_0:=Aside0.mk hc0_0
 clear hr0_0 hc0_0
 have HB:=Aside0.mk (Below.refl w.heap.size w)
 have H:((laws_toIntS.f k l0_0).bind fun t111=>(some t111)) = some r:=h
 clear h
 replace H:=Option.bind_eq_some_iff.mp H
 obtain ⟨t111,A20,H⟩:=H
 replace H:(some t111) = some r:=H
 have A2:=Aside0.mk A20
 clear A20
 obtain rfl:=Option.some.inj H
 go_enter Try.func12,Try.ntmps12
 go_wp2_with (first|((with_reducible refine gate_dst (N:=1) rfl ?_);refine box_event ?hg (N:=1) ?hd (cs:=#[.slice A0_0 l0_0.length c0_0]) (t:=24) ?hr ?_;(case hd=>rfl);(case hg=>rfl);(case hr=>first|(go_simp;done)|(go_simp;rfl));intro gb108 hg w3 hbox hb;have BK108:=Aside0.mk (hbox);have GW108:=Aside0.mk ((hZ:w.heap.size ≤ gb108));have GE108:=Aside0.mk ((hZ:w.heap.size ≤ gb108));replace HB:=Aside0.mk (below_step bH hb);clear hb hbox hg)|((with_reducible refine gate_dst (N:=2) rfl ?_);refine box_event ?hg (N:=2) ?hd (cs:=#[.slice none 0 0]) (t:=30) ?hr ?_;(case hd=>rfl);(case hg=>rfl);(case hr=>first|(go_simp;done)|(go_simp;rfl));intro gb109 hg w4 hbox hb;have BK109:=Aside0.mk (hbox);have GW109:=Aside0.mk ((hZ:w.heap.size ≤ gb109));have GE109:=Aside0.mk ((hZ:w.heap.size ≤ gb109));replace HB:=Aside0.mk (below_step bH hb);have NB108_109:=Aside0.mk ((nL BK108:gb108 ≠ gb109));have NB109_108:=Aside0.mk ((nG BK108:gb109 ≠ gb108));replace BK108:=Aside0.mk (blk_below (bB BK108) hb);clear hb hbox hg)|((with_reducible refine gate_dst (N:=3) rfl ?_);refine box_event ?hg (N:=3) ?hd (cs:=#[.slice none 0 0]) (t:=30) ?hr ?_;(case hd=>rfl);(case hg=>rfl);(case hr=>first|(go_simp;done)|(go_simp;rfl));intro gb110 hg w5 hbox hb;have BK110:=Aside0.mk (hbox);have GW110:=Aside0.mk ((hZ:w.heap.size ≤ gb110));have GE110:=Aside0.mk ((hZ:w.heap.size ≤ gb110));replace HB:=Aside0.mk (below_step bH hb);have NB108_110:=Aside0.mk ((nL BK108:gb108 ≠ gb110));have NB110_108:=Aside0.mk ((nG BK108:gb110 ≠ gb108));replace BK108:=Aside0.mk (blk_below (bB BK108) hb);have NB109_110:=Aside0.mk ((nL BK109:gb109 ≠ gb110));have NB110_109:=Aside0.mk ((nG BK109:gb110 ≠ gb109));replace BK109:=Aside0.mk (blk_below (bB BK109) hb);clear hb hbox hg;have hnb6:=NB108_109.out;have hnc6:=NB109_108.out;have hnb7:=NB108_110.out;have hnc7:=NB110_108.out;have hcz8_0:w5.cell? ⟨gb108,0,none⟩ = some (.slice A0_0 l0_0.length c0_0):=(blk_cell BK108.out 0).trans rfl;have hfz8_0:=blk_frozen BK108.out 0)|((with_reducible refine gate_callee (f:=13) rfl ?_);refine goesL_ (some 6) rfl rfl Try.func13 (by kernel_rfl) rfl #[.slice A0_0 l0_0.length c0_0] rfl Ya ?_;(with_reducible refine (laws_toIntS.calls k _ _ l0_0 t111 _ ?side1 ?side2 A2.out).mono ?_);(case side1=>exact sC HR0_0);(case side2=>exact HC0_0.out);rintro e w9 ⟨v112,rfl,ho0,hb⟩;refine ⟨_,rfl,?_⟩;have HO113:=Aside0.mk (Kd.R_lower ho0 (below_size bH));replace BK108:=Aside0.mk (blk_below (bB BK108) hb);replace BK109:=Aside0.mk (blk_below (bB BK109) hb);replace BK110:=Aside0.mk (blk_below (bB BK110) hb);replace HB:=Aside0.mk (below_step bH hb);(try clear hb);(try clear hb2);(try clear hk);(try clear hi);(try clear ho0);obtain ⟨Ao10,co10,eo10⟩:=Kd.R_slice HO113.out;subst eo10;have hnb11:=NB110_109.out;have hnc11:=NB109_110.out;have hcz12_0:w9.cell? ⟨gb110,0,none⟩ = some (.slice none 0 0):=(blk_cell BK110.out 0).trans rfl;have hfz12_0:=blk_frozen BK110.out 0;have hcz13_0:w9.cell? ⟨gb109,0,none⟩ = some (.slice none 0 0):=(blk_cell BK109.out 0).trans rfl;have hfz13_0:=blk_frozen BK109.out 0))
 refine bodyPost_ret (results_cell_row rfl _ _ gb109 30 #[.slice Ao10 t111.length co10] (0,0) _ rfl (by (with_reducible repeat (first|refine blk_drewN ?_ _|refine blk_drew ?_|refine blk_alloc ?_ _));refine blk_put (cs:=#[.slice none 0 0]) ?_ 0 _ rfl;(with_reducible repeat (first|refine blk_drewN ?_ _|refine blk_drew ?_|refine blk_alloc ?_ _));refine blk_far ?_ NB109_110.out _;(with_reducible repeat (first|refine blk_drewN ?_ _|refine blk_drew ?_|refine blk_alloc ?_ _));exact BK109.out) Try.underlying30 rfl (by kernel_rfl)) rfl ?_
 exact ⟨_,by first|rfl|(simp [errW_none,errW_some] <;> rfl)|(simp [*,errW_none,errW_some] <;> rfl),by (with_reducible repeat (first|apply Kd.R_alloc|apply Kd.R_drewN|apply Kd.R_drew));exact Kd.R_mono (Kd.R_far (p:=⟨gb109,0,none⟩) (Kd.R_far (p:=⟨gb110,0,none⟩) (Kd.R_types (Kd.R_types HO113.out BK110.out (by decide)) BK109.out (by decide)) (fun _ hk=>hk.1.2) (.slice Ao10 t111.length co10)) (fun _ hk=>hk.2) (.slice Ao10 t111.length co10)) (fun _ hk=>trivial),bH⟩

/-! ### laws_eqIntS: function 17 -/
def laws_eqIntS.l0:Nat → List Int → List Int → Int → Option (Bool)
 | 0,_,_,_=>none
 | k + 1,x0,x1,x5=>if x5 < (x0.length:Int) then (if 0 ≤ x5 then (if x5 < (x1.length:Int) then (if (rd x0 x5) = (rd x1 x5) then (laws_eqIntS.l0 k x0 x1 (wrap64 (x5 + 1))) else (some false)) else (none)) else (none)) else (some true)
def laws_eqIntS.f (k:Nat) (l0:List Int) (l1:List Int):Option (Bool):=if (l0.length:Int) = (l1.length:Int) then (laws_eqIntS.l0 k l0 l1 0) else (some false)
theorem laws_eqIntS.mono_l:∀ k,(∀ y0 y1 y2,LeO (laws_eqIntS.l0 k y0 y1 y2) (laws_eqIntS.l0 (k + 1) y0 y1 y2))
 | 0=>fun _ _ _ r h=>by simp [laws_eqIntS.l0] at h
 | k + 1=>by
  have ih0:=laws_eqIntS.mono_l k
  ·intro y0 y1 y2
   unfold laws_eqIntS.l0
   exact mO
theorem laws_eqIntS.mono:∀ a0 a1 k,LeO (laws_eqIntS.f k a0 a1) (laws_eqIntS.f (k + 1) a0 a1):=by
 intro a0 a1 k
 have ih0:=laws_eqIntS.mono_l k
 unfold laws_eqIntS.f
 exact mO
set_option maxHeartbeats 8000000 in
set_option maxRecDepth 100000 in
theorem laws_eqIntS.calls (k:Nat) (A0:Option Addr) (c0:Nat) (l0:List Int) (A1:Option Addr) (c1:Nat) (l1:List Int) (r:Bool) (w:World) (hr0:Kd.C (Kd.int .i64) w A0 l0.length l0) (hc0:l0.length ≤ c0) (hr1:Kd.C (Kd.int .i64) w A1 l1.length l1) (hc1:l1.length ≤ c1) (h:laws_eqIntS.f k l0 l1 = some r) :
  Calls Try.prog 17 #[.slice A0 l0.length c0,.slice A1 l1.length c1] w fun e w'=>e = .returned (.bool r) ∧ Drawn0 w w':=by
 have HR0:=Aside0.mk hr0
 have HC0:=Aside0.mk hc0
 clear hr0 hc0
 have HR1:=Aside0.mk hr1
 have HC1:=Aside0.mk hc1
 clear hr1 hc1
 have H:(if (l0.length:Int) = (l1.length:Int) then (laws_eqIntS.l0 k l0 l1 0) else (some false)) = some r:=h
 clear h
 by_cases c3:(l0.length:Int) = (l1.length:Int)
 ·rw [if_pos c3] at H
  have c3b0:((l0.length:Int) == (l1.length:Int)) = true:=beq_iff_eq.mpr c3
  have c3b1:((l0.length:Int) != (l1.length:Int)) = false:=bne_eq_false_iff_eq.mpr c3
  have c3b2:(l0.length == l1.length) = true:=by first|simpa using c3|(simp at c3 ⊢;omega)
  clear c3
  have H':=Aside0.mk H
  clear H
  go_enter Try.func17,Try.ntmps17
  go_wp2
  repeat (go_quiet (fail);try go_wp2)
  go_loopg [5] k (fun kq v5 w'=>∃ (x5_1:Int),v5 = .int .i64 x5_1 ∧ Aside0 (laws_eqIntS.l0 kq l0 l1 x5_1 = some r) ∧ Aside0 (kq ≤ k) ∧ Drawn0 w w')
  case atStart=>exact ⟨(0),Yd,H',⟨Nat.le_refl _⟩,by repeat (first|exact Drawn0.refl _|apply Drawn0.step)⟩
  case round =>
   clear H'
   try clear c1
   try clear p2
   try clear c3
   try clear c3b0
   try clear c3b1
   try clear c3b2
   obtain ⟨x5_1,rfl,HA,HK1,⟨m1,rfl⟩⟩:=hrel
   cases gk with
   | zero=>exact absurd HA.out (by simp [laws_eqIntS.l0])
   | succ k1 =>
    have H:=HA.out
    clear HA
    simp only [laws_eqIntS.l0] at H
    by_cases c4:x5_1 < (l0.length:Int)
    ·rw [if_pos c4] at H
     have c4b0:=decide_eq_true c4
     clear c4
     by_cases c5:0 ≤ x5_1
     ·rw [if_pos c5] at H
      have c5b0:=decide_eq_true c5
      clear c5
      by_cases c6:x5_1 < (l1.length:Int)
      ·rw [if_pos c6] at H
       have c6b0:=decide_eq_true c6
       clear c6
       by_cases c7:(rd l0 x5_1) = (rd l1 x5_1)
       ·rw [if_pos c7] at H
        have c7b0:((rd l0 x5_1) == (rd l1 x5_1)) = true:=beq_iff_eq.mpr c7
        have c7b1:((rd l0 x5_1) != (rd l1 x5_1)) = false:=bne_eq_false_iff_eq.mpr c7
        clear c7
        have H':=Aside0.mk H
        clear H
        have p114:0 ≤ (x5_1:Int):=oD
        have q114:x5_1 < (l0.length:Int):=oD
        obtain ⟨ad114,e114,hx114_0⟩:=Kd.at_int HR0.out x5_1 p114 q114
        cases e114
        replace p114:=eq_true p114
        replace q114:=eq_true q114
        have p115:0 ≤ (x5_1:Int):=oD
        have q115:x5_1 < (l1.length:Int):=oD
        obtain ⟨ad115,e115,hx115_0⟩:=Kd.at_int HR1.out x5_1 p115 q115
        cases e115
        replace p115:=eq_true p115
        replace q115:=eq_true q115
        go_wp2
        repeat (go_quiet (fail);try go_wp2)
        go_roundg k1
        case measure=>have:=HK1.out;omega
        case rel=>exact ⟨(wrap64 (x5_1 + 1)),Yd,H',⟨by have:=HK1.out;omega⟩,by repeat (first|exact Drawn0.refl _|apply Drawn0.step)⟩
       ·rw [if_neg c7] at H
        have c7b0:((rd l0 x5_1) == (rd l1 x5_1)) = false:=beq_eq_false_iff_ne.mpr c7
        have c7b1:((rd l0 x5_1) != (rd l1 x5_1)) = true:=bne_iff_ne.mpr c7
        obtain rfl:=Option.some.inj H
        have p114:0 ≤ (x5_1:Int):=oD
        have q114:x5_1 < (l0.length:Int):=oD
        obtain ⟨ad114,e114,hx114_0⟩:=Kd.at_int HR0.out x5_1 p114 q114
        cases e114
        replace p114:=eq_true p114
        replace q114:=eq_true q114
        have p115:0 ≤ (x5_1:Int):=oD
        have q115:x5_1 < (l1.length:Int):=oD
        obtain ⟨ad115,e115,hx115_0⟩:=Kd.at_int HR1.out x5_1 p115 q115
        cases e115
        replace p115:=eq_true p115
        replace q115:=eq_true q115
        go_wp2
        repeat (go_quiet (fail);try go_wp2)
        go_ret
        exact ⟨by first|rfl|(simp;done)|(simp [*];done),by repeat (first|exact Drawn0.refl _|apply Drawn0.step)⟩
      ·rw [if_neg c6] at H
       exact absurd H (by simp)
     ·rw [if_neg c5] at H
      exact absurd H (by simp)
    ·rw [if_neg c4] at H
     have c4b0:decide (x5_1 < (l0.length:Int)) = false:=decide_eq_false c4
     clear c4
     obtain rfl:=Option.some.inj H
     go_wp2
     repeat (go_quiet (fail);try go_wp2)
     go_ret
     exact ⟨by first|rfl|(simp;done)|(simp [*];done),by repeat (first|exact Drawn0.refl _|apply Drawn0.step)⟩
 ·rw [if_neg c3] at H
  have c3b0:((l0.length:Int) == (l1.length:Int)) = false:=beq_eq_false_iff_ne.mpr c3
  have c3b1:((l0.length:Int) != (l1.length:Int)) = true:=bne_iff_ne.mpr c3
  have c3b2:(l0.length == l1.length) = false:=by first|simpa using c3|(simp at c3 ⊢;omega)
  obtain rfl:=Option.some.inj H
  go_enter Try.func17,Try.ntmps17
  go_wp2
  repeat (go_quiet (fail);try go_wp2)
  go_ret
  exact ⟨by first|rfl|(simp;done)|(simp [*];done),by repeat (first|exact Drawn0.refl _|apply Drawn0.step)⟩

/-! ### laws_eqSign: function 16 -/
def laws_eqSign.f (k:Nat) (l0_0:List Int) (l1_0:List Int):Option (Bool):=(laws_eqIntS.f k l0_0 l1_0).bind fun t118=>(if t118 = true then (some true) else (some false))
theorem laws_eqSign.mono:∀ a0 a1 k,LeO (laws_eqSign.f k a0 a1) (laws_eqSign.f (k + 1) a0 a1):=by
 intro a0 a1 k
 unfold laws_eqSign.f
 have m0:=@laws_eqIntS.mono
 exact mO
set_option maxHeartbeats 8000000 in
set_option maxRecDepth 100000 in
theorem laws_eqSign.calls (k:Nat) (A0_0:Option Addr) (c0_0:Nat) (l0_0:List Int) (A1_0:Option Addr) (c1_0:Nat) (l1_0:List Int) (r:Bool) (w:World) (hr0_0:Kd.C (Kd.int .i64) w A0_0 l0_0.length l0_0) (hc0_0:l0_0.length ≤ c0_0) (hr1_0:Kd.C (Kd.int .i64) w A1_0 l1_0.length l1_0) (hc1_0:l1_0.length ≤ c1_0) (h:laws_eqSign.f k l0_0 l1_0 = some r) :
  Calls Try.prog 16 #[.agg #[.slice A0_0 l0_0.length c0_0],.agg #[.slice A1_0 l1_0.length c1_0]] w fun e w'=>e = .returned (.bool r) ∧ Below w.heap.size w w':=by
 have hu30:=Try.underlying30
 have HR0_0:=Aside0.mk hr0_0
 have HC0_0:=Aside0.mk hc0_0
 clear hr0_0 hc0_0
 have HR1_0:=Aside0.mk hr1_0
 have HC1_0:=Aside0.mk hc1_0
 clear hr1_0 hc1_0
 have HB:=Aside0.mk (Below.refl w.heap.size w)
 have H:((laws_eqIntS.f k l0_0 l1_0).bind fun t118=>(if t118 = true then (some true) else (some false))) = some r:=h
 clear h
 replace H:=Option.bind_eq_some_iff.mp H
 obtain ⟨t118,A30,H⟩:=H
 replace H:(if t118 = true then (some true) else (some false)) = some r:=H
 have A3:=Aside0.mk A30
 clear A30
 by_cases c4:t118 = true
 ·subst c4
  have H1:(some true) = some r:=by rw [if_pos rfl] at H;exact H
  clear H
  have H:=H1
  clear H1
  obtain rfl:=Option.some.inj H
  go_enter Try.func16,Try.ntmps16
  go_wp2_with (first|((with_reducible refine gate_dst (N:=2) rfl ?_);refine box_event ?hg (N:=2) ?hd (cs:=#[.slice A0_0 l0_0.length c0_0]) (t:=30) ?hr ?_;(case hd=>rfl);(case hg=>rfl);(case hr=>first|(go_simp;done)|(go_simp;rfl));intro gb116 hg w5 hbox hb;have BK116:=Aside0.mk (hbox);have GW116:=Aside0.mk ((hZ:w.heap.size ≤ gb116));have GE116:=Aside0.mk ((hZ:w.heap.size ≤ gb116));replace HB:=Aside0.mk (below_step bH hb);clear hb hbox hg)|((with_reducible refine gate_dst (N:=3) rfl ?_);refine box_event ?hg (N:=3) ?hd (cs:=#[.slice A1_0 l1_0.length c1_0]) (t:=30) ?hr ?_;(case hd=>rfl);(case hg=>rfl);(case hr=>first|(go_simp;done)|(go_simp;rfl));intro gb117 hg w6 hbox hb;have BK117:=Aside0.mk (hbox);have GW117:=Aside0.mk ((hZ:w.heap.size ≤ gb117));have GE117:=Aside0.mk ((hZ:w.heap.size ≤ gb117));replace HB:=Aside0.mk (below_step bH hb);have NB116_117:=Aside0.mk ((nL BK116:gb116 ≠ gb117));have NB117_116:=Aside0.mk ((nG BK116:gb117 ≠ gb116));replace BK116:=Aside0.mk (blk_below (bB BK116) hb);clear hb hbox hg;have hnb7:=NB116_117.out;have hnc7:=NB117_116.out;have hcz8_0:w6.cell? ⟨gb116,0,none⟩ = some (.slice A0_0 l0_0.length c0_0):=(blk_cell BK116.out 0).trans rfl;have hfz8_0:=blk_frozen BK116.out 0;have hcz9_0:w6.cell? ⟨gb117,0,none⟩ = some (.slice A1_0 l1_0.length c1_0):=(blk_cell BK117.out 0).trans rfl;have hfz9_0:=blk_frozen BK117.out 0)|((with_reducible refine gate_callee (f:=17) rfl ?_);refine goesL_ (some 9) rfl rfl Try.func17 (by kernel_rfl) rfl #[.slice A0_0 l0_0.length c0_0,.slice A1_0 l1_0.length c1_0] rfl Ya ?_;(with_reducible refine (laws_eqIntS.calls k _ _ l0_0 _ _ l1_0 true _ ?side1 ?side2 ?side3 ?side4 A3.out).mono ?_);(case side1=>exact sC HR0_0);(case side2=>exact HC0_0.out);(case side3=>exact sC HR1_0);(case side4=>exact HC1_0.out);rintro e w' ⟨rfl,⟨nd,rfl⟩⟩;refine ⟨_,rfl,?_⟩))
  go_ret
  exact ⟨by first|rfl|(simp [errW_none,errW_some] <;> rfl)|(simp [*,errW_none,errW_some] <;> rfl),bH⟩
 ·replace c4:=Bool.eq_false_iff.mpr c4
  subst c4
  have H1:(some false) = some r:=by rw [if_neg (show ¬ (false = true) by decide)] at H;exact H
  clear H
  have H:=H1
  clear H1
  obtain rfl:=Option.some.inj H
  go_enter Try.func16,Try.ntmps16
  go_wp2_with (first|((with_reducible refine gate_dst (N:=2) rfl ?_);refine box_event ?hg (N:=2) ?hd (cs:=#[.slice A0_0 l0_0.length c0_0]) (t:=30) ?hr ?_;(case hd=>rfl);(case hg=>rfl);(case hr=>first|(go_simp;done)|(go_simp;rfl));intro gb116 hg w10 hbox hb;have BK116:=Aside0.mk (hbox);have GW116:=Aside0.mk ((hZ:w.heap.size ≤ gb116));have GE116:=Aside0.mk ((hZ:w.heap.size ≤ gb116));replace HB:=Aside0.mk (below_step bH hb);clear hb hbox hg)|((with_reducible refine gate_dst (N:=3) rfl ?_);refine box_event ?hg (N:=3) ?hd (cs:=#[.slice A1_0 l1_0.length c1_0]) (t:=30) ?hr ?_;(case hd=>rfl);(case hg=>rfl);(case hr=>first|(go_simp;done)|(go_simp;rfl));intro gb117 hg w11 hbox hb;have BK117:=Aside0.mk (hbox);have GW117:=Aside0.mk ((hZ:w.heap.size ≤ gb117));have GE117:=Aside0.mk ((hZ:w.heap.size ≤ gb117));replace HB:=Aside0.mk (below_step bH hb);have NB116_117:=Aside0.mk ((nL BK116:gb116 ≠ gb117));have NB117_116:=Aside0.mk ((nG BK116:gb117 ≠ gb116));replace BK116:=Aside0.mk (blk_below (bB BK116) hb);clear hb hbox hg;have hnb12:=NB116_117.out;have hnc12:=NB117_116.out;have hcz13_0:w11.cell? ⟨gb116,0,none⟩ = some (.slice A0_0 l0_0.length c0_0):=(blk_cell BK116.out 0).trans rfl;have hfz13_0:=blk_frozen BK116.out 0;have hcz14_0:w11.cell? ⟨gb117,0,none⟩ = some (.slice A1_0 l1_0.length c1_0):=(blk_cell BK117.out 0).trans rfl;have hfz14_0:=blk_frozen BK117.out 0)|((with_reducible refine gate_callee (f:=17) rfl ?_);refine goesL_ (some 9) rfl rfl Try.func17 (by kernel_rfl) rfl #[.slice A0_0 l0_0.length c0_0,.slice A1_0 l1_0.length c1_0] rfl Ya ?_;(with_reducible refine (laws_eqIntS.calls k _ _ l0_0 _ _ l1_0 false _ ?side1 ?side2 ?side3 ?side4 A3.out).mono ?_);(case side1=>exact sC HR0_0);(case side2=>exact HC0_0.out);(case side3=>exact sC HR1_0);(case side4=>exact HC1_0.out);rintro e w' ⟨rfl,⟨nd,rfl⟩⟩;refine ⟨_,rfl,?_⟩))
  go_ret
  exact ⟨by first|rfl|(simp [errW_none,errW_some] <;> rfl)|(simp [*,errW_none,errW_some] <;> rfl),bH⟩

/-! ### laws_eqLit: function 47, by a walk of this session's own -/
def laws_eqLit.f (k:Nat) (a0_0:Bool) (l0_1:List Int) (l0_2:List Int) (a1_0:Bool) (l1_1:List Int) (l1_2:List Int):Option Bool:=if (a0_0 != a1_0) = true then (some false) else ((laws_eqIntS.f k l0_1 l1_1).bind fun t=>(if t = true then ((laws_eqIntS.f k l0_2 l1_2).bind fun u=>(if u = true then (some true) else (some false))) else (some false)))
theorem laws_eqLit.mono (a0_0:Bool) (l0_1:List Int) (l0_2:List Int) (a1_0:Bool) (l1_1:List Int) (l1_2:List Int) (k:Nat):LeO (laws_eqLit.f k a0_0 l0_1 l0_2 a1_0 l1_1 l1_2) (laws_eqLit.f (k + 1) a0_0 l0_1 l0_2 a1_0 l1_1 l1_2):=by
  unfold laws_eqLit.f
  exact LeO.ite (LeO.refl _) (LeO.bind (laws_eqIntS.mono _ _ _) (fun _=>LeO.ite (LeO.bind (laws_eqIntS.mono _ _ _) (fun _=>LeO.refl _)) (LeO.refl _)))
set_option maxHeartbeats 8000000 in
set_option maxRecDepth 1000000 in
theorem laws_eqLit.calls (k:Nat) (a0_0:Bool) (A0_1:Option Addr) (c0_1:Nat) (l0_1:List Int) (A0_2:Option Addr) (c0_2:Nat) (l0_2:List Int) (a1_0:Bool) (A1_1:Option Addr) (c1_1:Nat) (l1_1:List Int) (A1_2:Option Addr) (c1_2:Nat) (l1_2:List Int) (r:Bool) (w:World) (hr0_1:Kd.C (Kd.int .i64) w A0_1 l0_1.length l0_1) (hc0_1:l0_1.length ≤ c0_1) (hr0_2:Kd.C (Kd.int .i64) w A0_2 l0_2.length l0_2) (hc0_2:l0_2.length ≤ c0_2) (hr1_1:Kd.C (Kd.int .i64) w A1_1 l1_1.length l1_1) (hc1_1:l1_1.length ≤ c1_1) (hr1_2:Kd.C (Kd.int .i64) w A1_2 l1_2.length l1_2) (hc1_2:l1_2.length ≤ c1_2) (h:laws_eqLit.f k a0_0 l0_1 l0_2 a1_0 l1_1 l1_2 = some r) :
    Calls Try.prog 47 #[.agg #[.bool a0_0,.slice A0_1 l0_1.length c0_1,.slice A0_2 l0_2.length c0_2],.agg #[.bool a1_0,.slice A1_1 l1_1.length c1_1,.slice A1_2 l1_2.length c1_2]] w fun e w'=>e = .returned (.bool r) ∧ Below w.heap.size w w':=by
  have P1:=Aside0.mk hr0_1
  have P2:=Aside0.mk hr0_2
  have Q1:=Aside0.mk hr1_1
  have Q2:=Aside0.mk hr1_2
  unfold laws_eqLit.f at h
  have HH:=Aside0.mk h
  clear hr0_1 hr0_2 hr1_1 hr1_2 h
  go_enter Try.func47,Try.ntmps47
  go_upto_region 1 with fail
  have HX:=Aside0.mk (blk_alloc (heap_alloc_new w (.cells #[.bool a0_0,.slice A0_1 l0_1.length c0_1,.slice A0_2 l0_2.length c0_2] 65)) (.cells #[.bool a1_0,.slice A1_1 l1_1.length c1_1,.slice A1_2 l1_2.length c1_2] 65))
  have HY:=Aside0.mk (heap_alloc_new (w.alloc (.cells #[.bool a0_0,.slice A0_1 l0_1.length c0_1,.slice A0_2 l0_2.length c0_2] 65)) (.cells #[.bool a1_0,.slice A1_1 l1_1.length c1_1,.slice A1_2 l1_2.length c1_2] 65))
  have HB:=Aside0.mk (below_step (below_alloc (Below.refl w.heap.size w) (.cells #[.bool a0_0,.slice A0_1 l0_1.length c0_1,.slice A0_2 l0_2.length c0_2] 65)) (below_alloc (Below.refl _ _) (.cells #[.bool a1_0,.slice A1_1 l1_1.length c1_1,.slice A1_2 l1_2.length c1_2] 65)))
  have hsz:(w.alloc (.cells #[.bool a0_0,.slice A0_1 l0_1.length c0_1,.slice A0_2 l0_2.length c0_2] 65)).heap.size = w.heap.size + 1:=by unfold World.alloc;exact Array.size_push _
  rw [hsz] at HY
  clear hsz
  obtain ⟨gx,hgx⟩:∃ g,g = w.heap.size:=⟨_,rfl⟩
  obtain ⟨gy,hgy⟩:∃ g,g = w.heap.size + 1:=⟨_,rfl⟩
  generalize (w.alloc (.cells #[.bool a0_0,.slice A0_1 l0_1.length c0_1,.slice A0_2 l0_2.length c0_2] 65)).alloc (.cells #[.bool a1_0,.slice A1_1 l1_1.length c1_1,.slice A1_2 l1_2.length c1_2] 65) = W at HX HY HB ⊢
  rw [← hgy] at HY ⊢
  rw [← hgx] at HX ⊢
  clear hgx hgy
  have a0:W.cell? ⟨gx,0,none⟩ = some (.bool a0_0):=(blk_cell HX.out 0).trans rfl
  have a1:W.cell? ⟨gx,1,none⟩ = some (.slice A0_1 l0_1.length c0_1):=(blk_cell HX.out 1).trans rfl
  have b0:W.cell? ⟨gy,0,none⟩ = some (.bool a1_0):=(blk_cell HY.out 0).trans rfl
  have b1:W.cell? ⟨gy,1,none⟩ = some (.slice A1_1 l1_1.length c1_1):=(blk_cell HY.out 1).trans rfl
  by_cases g0:(a0_0 != a1_0) = true
  · have h9:=HH.out
    rw [if_pos g0,Option.some.injEq] at h9
    subst h9
    have g1:(a0_0 == a1_0) = false:=by simpa [bne] using g0
    clear HH
    go_wp2
    go_ret
    exact ⟨rfl,HB.out⟩
  have h9:=HH.out
  rw [if_neg g0] at h9
  have g1:(a0_0 == a1_0) = true:=by simpa [bne] using g0
  obtain ⟨t,ht,h9⟩:=Option.bind_eq_some_iff.1 h9
  have h1:=laws_eqIntS.calls k A0_1 c0_1 l0_1 A1_1 c1_1 l1_1 t W (Kd.C_below P1.out HB.out) hc0_1 (Kd.C_below Q1.out HB.out) hc1_1 ht
  cases t with
  | false =>
    simp only [Bool.false_eq_true,if_false,Option.some.injEq] at h9
    subst h9
    clear HH ht g0
    go_wp2_with (go_at_call 17;refine h1.mono ?_;first|rintro e_ W1 rfl hd|rintro e_ W1 ⟨rfl,hd⟩;have HB:=Aside0.mk (below_step HB.out hd.below);clear hd)
    go_ret
    exact ⟨rfl,HB.out⟩
  | true =>
    simp only [if_true] at h9
    obtain ⟨u,hu,h9⟩:=Option.bind_eq_some_iff.1 h9
    have HU:=Aside0.mk hu
    have hr:u = r:=by cases u <;> simpa using h9
    subst hr
    clear HH ht g0 h9 hu
    go_upto_region 5 with (go_at_call 17;refine h1.mono ?_;first|rintro e_ W1 rfl hd|rintro e_ W1 ⟨rfl,hd⟩;have HB:=Aside0.mk (below_step HB.out hd.below);have HX:=Aside0.mk ((hd.below.block gx (blk_lt HX.out)).trans HX.out);have HY:=Aside0.mk ((hd.below.block gy (blk_lt HY.out)).trans HY.out);clear hd)
    clear h1 a0 a1 b0 b1
    have a2:W1.cell? ⟨gx,2,none⟩ = some (.slice A0_2 l0_2.length c0_2):=(blk_cell HX.out 2).trans rfl
    have b2:W1.cell? ⟨gy,2,none⟩ = some (.slice A1_2 l1_2.length c1_2):=(blk_cell HY.out 2).trans rfl
    have h2:=laws_eqIntS.calls k A0_2 c0_2 l0_2 A1_2 c1_2 l1_2 u W1 (Kd.C_below P2.out HB.out) hc0_2 (Kd.C_below Q2.out HB.out) hc1_2 HU.out
    clear HU
    cases u with
    | false =>
      go_wp2_with (go_at_call 17;refine h2.mono ?_;first|rintro e_ W2 rfl hd|rintro e_ W2 ⟨rfl,hd⟩;have HB:=Aside0.mk (below_step HB.out hd.below);clear hd)
      go_ret
      exact ⟨rfl,HB.out⟩
    | true =>
      go_wp2_with (go_at_call 17;refine h2.mono ?_;first|rintro e_ W2 rfl hd|rintro e_ W2 ⟨rfl,hd⟩;have HB:=Aside0.mk (below_step HB.out hd.below);clear hd)
      go_ret
      exact ⟨rfl,HB.out⟩

end Go.Proofs.Ytlgnanbnicmdaab.QFnExactReadClause
