-- Written by this session's own program (wip/x/xprint.py, over the kit's printer); Lean checks it.
import Derived.Test.YtlgnanbnicmdaabQFnExactReadClausex0
import Derived.Test.YtlgnanbnicmdaabQFnExactReadClausex6
import Derived.Test.YtlgnanbnicmdaabQFnExactReadClausex7
namespace Go.Proofs.Ytlgnanbnicmdaab.QFnExactReadClause
open Go.RowKit Go.Proofs.YtlgnanbnicmdaabW.PrintWords Go.Proofs.YtlgnanbnicmdaabW.PrintLast Go.Proofs.YtlgnanbnicmdaabW.PrintMore
attribute [local go_sem] max2_int min2_int max_two min_two max_three min_three max_four min_four   -- for this text's walks alone
set_option linter.unusedVariables false
set_option linter.unusedSimpArgs false

/-- An element of a row whose elements lie apart: its blocks; what becomes of the row if just these are written, or one of the element's own cells. -/
theorem S_at {α:Type} {d:Kd α} {e:Nat} {w:World} {base:Nat} {ok:Nat → Prop} {g n cap:Nat} {xs:List α} (h:Kd.S d e w base ok (.slice (some ⟨g,0,none⟩) n cap) xs) (i:Nat) (x:α) (hx:xs[i]? = some x) :
    ∃ (oki:Nat → Prop) (c:List Value),c.length = d.sz ∧ d.M w base oki x c ∧ (∀ j u,c[j]? = some u → w.cell? ⟨g,i * d.sz + j,none⟩ = some u) ∧ (∀ j,w.frozen? ⟨g,i * d.sz + j,none⟩ = false) ∧ (∀ k,oki k → ok k ∧ k ≠ g) ∧
      (∀ (w1:World) (x':α),Kept w w1 oki → d.M w1 base oki x' c → Kd.S d e w1 base ok (.slice (some ⟨g,0,none⟩) n cap) (xs.set i x')) ∧
      (∀ (t:Nat) (u:Value) (x':α),t + 1 ≤ d.sz → d.M w base oki x' (c.take t ++ [u] ++ c.drop (t + 1)) → Kd.S d e (w.setCells g (i * d.sz + t) [u]) base ok (.slice (some ⟨g,0,none⟩) n cap) (xs.set i x')):=by
  obtain ⟨hil,hxe⟩:=List.getElem?_eq_some_iff.1 hx
  have hn:=(Kd.S_reads' h).1
  obtain ⟨oki,c,hcl,hM,hcc,hfr,hoki,hH⟩:=Kd.S_elem h x (i:Int) (by omega) (by omega)
  rw [Int.toNat_natCast] at hM hcc hfr
  have e1:xs.getD i x = x:=by rw [List.getD_eq_getElem?_getD,hx];rfl
  rw [e1] at hM
  refine ⟨oki,c,hcl,hM,hcc,hfr,hoki,fun w1 x' hk hM1=>?_,fun t u x' ht hM1=>?_⟩
  · have:=Kd.H_back (Kd.H_kept hH hk (fun k _ hn=>hn)) hM1 (fun _ hk=>hk)
    rwa [Int.toNat_natCast] at this
  · have:=(Kd.S_seg (okg:=fun _=>False) (ok:=ok) (by
        obtain ⟨h1,f,h2⟩:=hH
        exact ⟨fun k hk=>⟨h1 k hk,fun q=>q⟩,f,Kd.R_mono h2 (fun k hk=>⟨⟨hk.1,fun q=>q⟩,hk.2⟩)⟩) (i:=(i:Int)) (by omega) (by omega) (seg:=[u]) (j:=t) (by simpa using ht) (okp:=oki) (x':=x') (by simpa using hM1) (fun k hk=>.inl hk) (fun k hk=>hk.elim)).1
    rwa [Int.toNat_natCast] at this
/-! ### Literals whose rows lie apart -/
def aLit:Kd S65 where
  sz:=3
  E:=[3]
  K:=fun w x cs=>k65.K w x cs
  M:=fun w base ok x cs=>∃ (q:Nat → Prop) (v1 v2:Value),cs = [.bool x.f0,v1,v2] ∧ (Kd.int .i64).R 3 w base (fun k=>ok k ∧ q k) v1 x.f1 ∧ (Kd.int .i64).R 3 w base (fun k=>ok k ∧ ¬ q k) v2 x.f2
  K_len:=fun h=>k65.K_len h
  K_one:=fun h=>k65.K_one h
  K_below:=fun hb h=>k65.K_below hb h
  K_of_M:=by
    rintro w base ok x cs ⟨q,v1,v2,rfl,h1,h2⟩
    exact k65.K_of_M (k65_mkM w base ok x (Kd.R_mono h1 (fun _ h=>h.1)) (Kd.R_mono h2 (fun _ h=>h.1)))
  M_mono:=by
    rintro w base ok ok' x cs hok ⟨q,v1,v2,rfl,h1,h2⟩
    exact ⟨q,v1,v2,rfl,Kd.R_mono h1 (fun k h=>⟨hok k h.1,h.2⟩),Kd.R_mono h2 (fun k h=>⟨hok k h.1,h.2⟩)⟩
  M_bound:=by
    rintro w base ok x cs ⟨q,v1,v2,rfl,h1,h2⟩
    refine ⟨q,v1,v2,rfl,Kd.R_mono (Kd.R_bound h1) (fun k h=>⟨⟨h.1.1,h.2.1,h.2.2.1,?_⟩,h.1.2⟩),Kd.R_mono (Kd.R_bound h2) (fun k h=>⟨⟨h.1.1,h.2.1,h.2.2.1,?_⟩,h.1.2⟩)⟩
    · obtain ⟨e,he,cells,hc⟩:=h.2.2.2
      exact ⟨e,by simpa [Kd.int,Kd.scalar] using he,cells,hc⟩
    · obtain ⟨e,he,cells,hc⟩:=h.2.2.2
      exact ⟨e,by simpa [Kd.int,Kd.scalar] using he,cells,hc⟩
  M_move:=by
    rintro w w1 base ok x cs hm ⟨q,v1,v2,rfl,h1,h2⟩
    exact ⟨q,v1,v2,rfl,Kd.R_move h1 (fun k h=>hm k h.1),Kd.R_move h2 (fun k h=>hm k h.1)⟩
  M_lower:=by
    rintro w base base' ok x cs hb ⟨q,v1,v2,rfl,h1,h2⟩
    exact ⟨q,v1,v2,rfl,Kd.R_lower h1 hb,Kd.R_lower h2 hb⟩
theorem aLit_R {e:Nat} {w:World} {base:Nat} {ok:Nat → Prop} {v:Value} {xs:List S65} (h:aLit.R e w base ok v xs):k65.R e w base ok v xs:=by
  obtain ⟨h0,inner,ho,hr⟩:=h
  refine ⟨h0,inner,ho,hr.imp_ (fun p c hp=>?_)⟩
  obtain ⟨q,v1,v2,rfl,h1,h2⟩:=hp
  exact k65_mkM w base _ p (Kd.R_mono h1 (fun _ h=>h.1)) (Kd.R_mono h2 (fun _ h=>h.1))
theorem aLit_C {w:World} {A:Option Addr} {n:Nat} {xs:List S65} (h:aLit.C w A n xs):k65.C w A n xs:=h
/-! ### impl_parser_clause: function 65 -/
def impl_parser_clause.l0:Nat → List (S65) → List Int → ByteArray → Int → Int → Bool → Option ((List (S65)) × ByteArray × Int × Int × Bool)
 | 0,_,_,_,_,_,_=>none
 | k + 1,x3,x1000,x1001,x1002,x1003,x1004=>(impl_parser_term.f k x1000 x1001 x1002 x1003 x1004).bind fun bt257=>(if bt257.2.2.2.2 = true then (some (([]:List (S65)),bt257.2.1,bt257.2.2.1,bt257.2.2.2.1,bt257.2.2.2.2)) else ((impl_parser_take.f k x1000 bt257.2.1 bt257.2.2.1 bt257.2.2.2.1 bt257.2.2.2.2 (⟨#[61,35]⟩:ByteArray)).bind fun bt264=>(if bt264.2.2.2.2 = true then (some (([]:List (S65)),bt264.2.1,bt264.2.2.1,bt264.2.2.2.1,bt264.2.2.2.2)) else ((impl_parser_term.f k x1000 bt264.2.1 bt264.2.2.1 bt264.2.2.2.1 bt264.2.2.2.2).bind fun bt269=>(if bt269.2.2.2.2 = true then (some (([]:List (S65)),bt269.2.1,bt269.2.2.1,bt269.2.2.2.1,bt269.2.2.2.2)) else (if x3.length < 2513169434916 then ((some (x3 ++ [(⟨(bt264.1 == 61),bt257.1,bt269.1⟩:S65)]:List (S65))).bind fun y276=>((impl_parser_next.f x1000 bt269.2.1 bt269.2.2.1 bt269.2.2.2.1 bt269.2.2.2.2).bind fun bt279=>(if bt279.1 = 124 then (impl_parser_clause.l0 k y276 x1000 bt279.2.1 (wrap64 (bt279.2.2.1 + 1)) bt279.2.2.2.1 bt279.2.2.2.2) else (some (y276,bt279.2.1,bt279.2.2.1,bt279.2.2.2.1,bt279.2.2.2.2))))) else (none)))))))
def impl_parser_clause.f (k:Nat) (s0_0:List Int) (s0_1:ByteArray) (s0_2:Int) (s0_3:Int) (s0_4:Bool):Option ((List (S65)) × ByteArray × Int × Int × Bool):=(impl_parser_next.f s0_0 s0_1 s0_2 s0_3 s0_4).bind fun bt252=>(if bt252.1 = 45 then (some (([]:List (S65)),bt252.2.1,wrap64 (bt252.2.2.1 + 1),bt252.2.2.2.1,bt252.2.2.2.2)) else (impl_parser_clause.l0 k ([]:List (S65)) s0_0 bt252.2.1 bt252.2.2.1 bt252.2.2.2.1 bt252.2.2.2.2))
theorem impl_parser_clause.mono_l:∀ k,(∀ y0 y1 y2 y3 y4 y5,LeO (impl_parser_clause.l0 k y0 y1 y2 y3 y4 y5) (impl_parser_clause.l0 (k + 1) y0 y1 y2 y3 y4 y5))
 | 0=>fun _ _ _ _ _ _ r h=>by simp [impl_parser_clause.l0] at h
 | k + 1=>by
  have ih0:=impl_parser_clause.mono_l k
  ·intro y0 y1 y2 y3 y4 y5
   unfold impl_parser_clause.l0
   have m0:=@impl_parser_take.mono
   have m1:=@impl_parser_term.mono
   exact mO
theorem impl_parser_clause.mono:∀ a0 a1 a2 a3 a4 k,LeO (impl_parser_clause.f k a0 a1 a2 a3 a4) (impl_parser_clause.f (k + 1) a0 a1 a2 a3 a4):=by
 intro a0 a1 a2 a3 a4 k
 have ih0:=impl_parser_clause.mono_l k
 unfold impl_parser_clause.f
 have m0:=@impl_parser_take.mono
 have m1:=@impl_parser_term.mono
 exact mO
set_option maxHeartbeats 8000000 in
set_option maxRecDepth 100000 in
theorem impl_parser_clause.calls (k:Nat) (g:Nat) (s0_0:List Int) (s0_1:ByteArray) (s0_2:Int) (s0_3:Int) (s0_4:Bool) (r1:List (S65)) (r2:ByteArray) (r3:Int) (r4:Int) (r5:Bool) (w0 w:World) (hI:IsS89 w0 w g s0_0 s0_1 s0_2 s0_3 s0_4) (hB:Below w0.heap.size w0 w) (h:impl_parser_clause.f k s0_0 s0_1 s0_2 s0_3 s0_4 = some (r1,r2,r3,r4,r5)) :
  Calls Try.prog 65 #[.pointer (some ⟨g,0,none⟩)] w fun e w'=>∃ v0_:Value,e = .returned (v0_) ∧ Kd.S aLit 65 w' w.heap.size (fun _=>True) v0_ r1 ∧ IsS89 w0 w' g s0_0 r2 r3 r4 r5 ∧ Below w0.heap.size w0 w' ∧ KeepBut w w' g none:=by
 have hu65:=Try.underlying65
 have HI0:=Aside0.mk hI
 have HK:=Aside0.mk (KeepBut.refl w g none)
 have HL:=Aside0.mk hB.size
 clear hI
 have HW0:=Aside0.mk hB.size
 have HB:=Aside0.mk hB
 clear hB
 have H:((impl_parser_next.f s0_0 s0_1 s0_2 s0_3 s0_4).bind fun bt252=>(if bt252.1 = 45 then (some (([]:List (S65)),bt252.2.1,wrap64 (bt252.2.2.1 + 1),bt252.2.2.2.1,bt252.2.2.2.2)) else (impl_parser_clause.l0 k ([]:List (S65)) s0_0 bt252.2.1 bt252.2.2.1 bt252.2.2.2.1 bt252.2.2.2.2))) = some (r1,r2,r3,r4,r5):=h
 clear h
 replace H:=Option.bind_eq_some_iff.mp H
 obtain ⟨⟨t252,t253,t254,t255,t256⟩,A20,H⟩:=H
 replace H:(if t252 = 45 then (some (([]:List (S65)),t253,wrap64 (t254 + 1),t255,t256)) else (impl_parser_clause.l0 k ([]:List (S65)) s0_0 t253 t254 t255 t256)) = some (r1,r2,r3,r4,r5):=H
 have A2:=Aside0.mk A20
 clear A20
 by_cases c3:t252 = 45
 ·rw [if_pos c3] at H
  have c3b0:(t252 == 45) = true:=beq_iff_eq.mpr c3
  have c3b1:(t252 != 45) = false:=bne_eq_false_iff_eq.mpr c3
  clear c3
  simp only [Option.some.injEq,Prod.mk.injEq] at H
  obtain ⟨rfl,rfl,rfl,rfl,rfl⟩:=H
  go_enter Try.func65,Try.ntmps65
  go_wp2_with (first|((with_reducible refine gate_callee (f:=98) rfl ?_);refine goesL_ (some 8) rfl rfl Try.func98 (by kernel_rfl) rfl #[.pointer (some ⟨g,0,none⟩)] rfl Ya ?_;(with_reducible refine (impl_parser_next.calls g s0_0 s0_1 s0_2 s0_3 s0_4 t252 t253 t254 t255 t256 w0 _ ?side1 ?side2 A2.out).mono ?_);(case side1=>repeat (first|(with_reducible first|exact HI0.out|apply IsS89.alloc|apply IsS89.drewN|apply IsS89.drew|apply IsS89.set_1|apply IsS89.set_2|apply IsS89.set_3|apply IsS89.set_4)|exact HI0.out));(case side2=>repeat (first|(with_reducible first|exact HB.out|apply below_alloc|apply pw_below_drewN|apply below_drew1|refine below_set ?_ (IsS89.ge HI0.out))|exact HB.out));rintro e w4 ⟨rfl,hi,hb,hk⟩;refine ⟨_,rfl,?_⟩;replace HK:=Aside0.mk (KeepBut.trans Yb hk (.inl rfl));replace HB:=Aside0.mk (hb);replace HI0:=Aside0.mk (hi);(try clear hb);(try clear hb2);(try clear hk);(try clear hi);obtain ⟨ASz5_0,cSz5_0,HGz5,hgz5,HSz5_0⟩:=HI0.out;have hcz5_0:=cellS89_0 HGz5;have hcz5_1:=cellS89_1 HGz5;have hcz5_2:=cellS89_2 HGz5;have hcz5_3:=cellS89_3 HGz5;have hcz5_4:=cellS89_4 HGz5;have hfz5_1:=blk_frozen HGz5 1;have hfz5_2:=blk_frozen HGz5 2;have hfz5_3:=blk_frozen HGz5 3;have hfz5_4:=blk_frozen HGz5 4;clear HGz5 hgz5))
  go_ret
  exact ⟨_,by first|rfl|(simp [errW_none,errW_some] <;> rfl)|(simp [*,errW_none,errW_some] <;> rfl),by first|exact Kd.S_nil _ _ _ _ _|exact Kd.N_nil _ _ _ _ _|exact Kd.V_nil _ _ _ _ _|exact Kd.Q_nil _ _ _ _ _|exact Kd.R_nil _ _ _ _ _,by repeat (first|(with_reducible first|exact HI0.out|apply IsS89.alloc|apply IsS89.drewN|apply IsS89.drew|apply IsS89.set_1|apply IsS89.set_2|apply IsS89.set_3|apply IsS89.set_4)|exact HI0.out),by repeat (first|(with_reducible first|exact HB.out|apply below_alloc|apply pw_below_drewN|apply below_drew1|refine below_set ?_ (IsS89.ge HI0.out))|exact HB.out),by repeat (first|(with_reducible first|exact HK.out|apply KeepBut.set_|apply keep_drewN|apply keep_drew|apply keep_alloc)|exact HK.out)⟩
 ·rw [if_neg c3] at H
  have c3b0:(t252 == 45) = false:=beq_eq_false_iff_ne.mpr c3
  have c3b1:(t252 != 45) = true:=bne_iff_ne.mpr c3
  have H':=Aside0.mk H
  clear H
  go_enter Try.func65,Try.ntmps65
  go_wp2_with (first|((with_reducible refine gate_callee (f:=98) rfl ?_);refine goesL_ (some 8) rfl rfl Try.func98 (by kernel_rfl) rfl #[.pointer (some ⟨g,0,none⟩)] rfl Ya ?_;(with_reducible refine (impl_parser_next.calls g s0_0 s0_1 s0_2 s0_3 s0_4 t252 t253 t254 t255 t256 w0 _ ?side1 ?side2 A2.out).mono ?_);(case side1=>repeat (first|(with_reducible first|exact HI0.out|apply IsS89.alloc|apply IsS89.drewN|apply IsS89.drew|apply IsS89.set_1|apply IsS89.set_2|apply IsS89.set_3|apply IsS89.set_4)|exact HI0.out));(case side2=>repeat (first|(with_reducible first|exact HB.out|apply below_alloc|apply pw_below_drewN|apply below_drew1|refine below_set ?_ (IsS89.ge HI0.out))|exact HB.out));rintro e w6 ⟨rfl,hi,hb,hk⟩;refine ⟨_,rfl,?_⟩;replace HK:=Aside0.mk (KeepBut.trans Yb hk (.inl rfl));replace HB:=Aside0.mk (hb);replace HI0:=Aside0.mk (hi);(try clear hb);(try clear hb2);(try clear hk);(try clear hi)))
  go_loopg [3] k (fun kq v3 w'=>∃ (x3_1:List (S65)) (x1001_1:ByteArray) (x1002_1:Int) (x1003_1:Int) (x1004_1:Bool),Aside0 (impl_parser_clause.l0 kq x3_1 s0_0 x1001_1 x1002_1 x1003_1 x1004_1 = some (r1,r2,r3,r4,r5)) ∧ Aside0 (kq ≤ k) ∧ Aside0 (Kd.S aLit 65 w' w.heap.size (fun _=>True) v3 x3_1) ∧ Aside0 (IsS89 w0 w' g s0_0 x1001_1 x1002_1 x1003_1 x1004_1) ∧ Aside0 (KeepBut w w' g none) ∧ Aside0 (Below w0.heap.size w0 w'))
  case atStart=>exact ⟨(([]:List (S65))),(t253),(t254),(t255),(t256),H',⟨Nat.le_refl _⟩,⟨by first|exact Kd.S_nil _ _ _ _ _|exact Kd.N_nil _ _ _ _ _|exact Kd.V_nil _ _ _ _ _|exact Kd.Q_nil _ _ _ _ _|exact Kd.R_nil _ _ _ _ _⟩,⟨by repeat (first|(with_reducible first|exact HI0.out|apply IsS89.alloc|apply IsS89.drewN|apply IsS89.drew|apply IsS89.set_1|apply IsS89.set_2|apply IsS89.set_3|apply IsS89.set_4)|exact HI0.out)⟩,⟨by repeat (first|(with_reducible first|exact HK.out|apply KeepBut.set_|apply keep_drewN|apply keep_drew|apply keep_alloc)|exact HK.out)⟩,⟨by repeat (first|(with_reducible first|exact HB.out|apply below_alloc|apply pw_below_drewN|apply below_drew1|refine below_set ?_ (IsS89.ge HI0.out))|exact HB.out)⟩⟩
  case round =>
   clear H'
   try clear p2
   try clear c3
   try clear c3b0
   try clear c3b1
   try clear c6
   try clear p6
   try clear hcz5_0
   try clear hcz5_1
   try clear hcz5_2
   try clear hcz5_3
   try clear hcz5_4
   try clear hfz5_1
   try clear hfz5_2
   try clear hfz5_3
   try clear hfz5_4
   obtain ⟨x3_1,x1001_1,x1002_1,x1003_1,x1004_1,HA,HK1,HO_3,HI0,HK,HB⟩:=hrel
   cases gk with
   | zero=>exact absurd HA.out (by simp [impl_parser_clause.l0])
   | succ k1 =>
    have H:=HA.out
    clear HA
    simp only [impl_parser_clause.l0] at H
    replace H:=Option.bind_eq_some_iff.mp H
    obtain ⟨⟨t257,t260,t261,t262,t263⟩,A70,H⟩:=H
    replace H:(if t263 = true then (some (([]:List (S65)),t260,t261,t262,t263)) else ((impl_parser_take.f k1 s0_0 t260 t261 t262 t263 (⟨#[61,35]⟩:ByteArray)).bind fun bt264=>(if bt264.2.2.2.2 = true then (some (([]:List (S65)),bt264.2.1,bt264.2.2.1,bt264.2.2.2.1,bt264.2.2.2.2)) else ((impl_parser_term.f k1 s0_0 bt264.2.1 bt264.2.2.1 bt264.2.2.2.1 bt264.2.2.2.2).bind fun bt269=>(if bt269.2.2.2.2 = true then (some (([]:List (S65)),bt269.2.1,bt269.2.2.1,bt269.2.2.2.1,bt269.2.2.2.2)) else (if x3_1.length < 2513169434916 then ((some (x3_1 ++ [(⟨(bt264.1 == 61),t257,bt269.1⟩:S65)]:List (S65))).bind fun y276=>((impl_parser_next.f s0_0 bt269.2.1 bt269.2.2.1 bt269.2.2.2.1 bt269.2.2.2.2).bind fun bt279=>(if bt279.1 = 124 then (impl_parser_clause.l0 k1 y276 s0_0 bt279.2.1 (wrap64 (bt279.2.2.1 + 1)) bt279.2.2.2.1 bt279.2.2.2.2) else (some (y276,bt279.2.1,bt279.2.2.1,bt279.2.2.2.1,bt279.2.2.2.2))))) else (none))))))) = some (r1,r2,r3,r4,r5):=H
    have A7:=Aside0.mk A70
    clear A70
    by_cases c8:t263 = true
    ·subst c8
     have H1:(some (([]:List (S65)),t260,t261,t262,true)) = some (r1,r2,r3,r4,r5):=by rw [if_pos rfl] at H;exact H
     clear H
     have H:=H1
     clear H1
     simp only [Option.some.injEq,Prod.mk.injEq] at H
     obtain ⟨rfl,rfl,rfl,rfl,rfl⟩:=H
     go_wp2_with (first|((with_reducible refine gate_callee (f:=99) rfl ?_);refine goesL_ (some 18) rfl rfl Try.func99 (by kernel_rfl) rfl #[.pointer (some ⟨g,0,none⟩)] rfl Ya ?_;(with_reducible refine (impl_parser_term.calls k1 g s0_0 x1001_1 x1002_1 x1003_1 x1004_1 t257 t260 t261 t262 true w0 _ ?side1 ?side2 A7.out).mono ?_);(case side1=>repeat (first|(with_reducible first|exact HI0.out|apply IsS89.alloc|apply IsS89.drewN|apply IsS89.drew|apply IsS89.set_1|apply IsS89.set_2|apply IsS89.set_3|apply IsS89.set_4)|exact HI0.out));(case side2=>repeat (first|(with_reducible first|exact HB.out|apply below_alloc|apply pw_below_drewN|apply below_drew1|refine below_set ?_ (IsS89.ge HI0.out))|exact HB.out));rintro e w9 ⟨v258,rfl,ho0,hi,hb,hk⟩;refine ⟨_,rfl,?_⟩;replace HO_3:=Aside0.mk (Kd.S_mono (Kd.S_told (Kd.S_oldK (IsS89.apartS (show IsS89 w0 _ g s0_0 x1001_1 x1002_1 x1003_1 x1004_1 from by repeat (first|(with_reducible first|exact HI0.out|apply IsS89.alloc|apply IsS89.drewN|apply IsS89.drew|apply IsS89.set_1|apply IsS89.set_2|apply IsS89.set_3|apply IsS89.set_4)|exact HI0.out)) (rS HO_3) (by decide)) hk) (Kd.R_base ho0)) (fun _ h_=>h_.1));have HO259:=Aside0.mk (Kd.R_lower ho0 (keep_size (w:=w) (g:=g) (row:=none) Yb));replace HK:=Aside0.mk (KeepBut.trans Yb hk (.inl rfl));replace HB:=Aside0.mk (hb);replace HI0:=Aside0.mk (hi);(try clear hb);(try clear hb2);(try clear hk);(try clear hi);(try clear ho0);obtain ⟨ASz10_0,cSz10_0,HGz10,hgz10,HSz10_0⟩:=HI0.out;have hcz10_0:=cellS89_0 HGz10;have hcz10_1:=cellS89_1 HGz10;have hcz10_2:=cellS89_2 HGz10;have hcz10_3:=cellS89_3 HGz10;have hcz10_4:=cellS89_4 HGz10;have hfz10_1:=blk_frozen HGz10 1;have hfz10_2:=blk_frozen HGz10 2;have hfz10_3:=blk_frozen HGz10 3;have hfz10_4:=blk_frozen HGz10 4;clear HGz10 hgz10))
     go_ret
     exact ⟨_,by first|rfl|(simp [errW_none,errW_some] <;> rfl)|(simp [*,errW_none,errW_some] <;> rfl),by first|exact Kd.S_nil _ _ _ _ _|exact Kd.N_nil _ _ _ _ _|exact Kd.V_nil _ _ _ _ _|exact Kd.Q_nil _ _ _ _ _|exact Kd.R_nil _ _ _ _ _,by repeat (first|(with_reducible first|exact HI0.out|apply IsS89.alloc|apply IsS89.drewN|apply IsS89.drew|apply IsS89.set_1|apply IsS89.set_2|apply IsS89.set_3|apply IsS89.set_4)|exact HI0.out),by repeat (first|(with_reducible first|exact HB.out|apply below_alloc|apply pw_below_drewN|apply below_drew1|refine below_set ?_ (IsS89.ge HI0.out))|exact HB.out),by repeat (first|(with_reducible first|exact HK.out|apply KeepBut.set_|apply keep_drewN|apply keep_drew|apply keep_alloc)|exact HK.out)⟩
    ·replace c8:=Bool.eq_false_iff.mpr c8
     subst c8
     have H1:((impl_parser_take.f k1 s0_0 t260 t261 t262 false (⟨#[61,35]⟩:ByteArray)).bind fun bt264=>(if bt264.2.2.2.2 = true then (some (([]:List (S65)),bt264.2.1,bt264.2.2.1,bt264.2.2.2.1,bt264.2.2.2.2)) else ((impl_parser_term.f k1 s0_0 bt264.2.1 bt264.2.2.1 bt264.2.2.2.1 bt264.2.2.2.2).bind fun bt269=>(if bt269.2.2.2.2 = true then (some (([]:List (S65)),bt269.2.1,bt269.2.2.1,bt269.2.2.2.1,bt269.2.2.2.2)) else (if x3_1.length < 2513169434916 then ((some (x3_1 ++ [(⟨(bt264.1 == 61),t257,bt269.1⟩:S65)]:List (S65))).bind fun y276=>((impl_parser_next.f s0_0 bt269.2.1 bt269.2.2.1 bt269.2.2.2.1 bt269.2.2.2.2).bind fun bt279=>(if bt279.1 = 124 then (impl_parser_clause.l0 k1 y276 s0_0 bt279.2.1 (wrap64 (bt279.2.2.1 + 1)) bt279.2.2.2.1 bt279.2.2.2.2) else (some (y276,bt279.2.1,bt279.2.2.1,bt279.2.2.2.1,bt279.2.2.2.2))))) else (none)))))) = some (r1,r2,r3,r4,r5):=by rw [if_neg (show ¬ (false = true) by decide)] at H;exact H
     clear H
     have H:=H1
     clear H1
     replace H:=Option.bind_eq_some_iff.mp H
     obtain ⟨⟨t264,t265,t266,t267,t268⟩,A110,H⟩:=H
     replace H:(if t268 = true then (some (([]:List (S65)),t265,t266,t267,t268)) else ((impl_parser_term.f k1 s0_0 t265 t266 t267 t268).bind fun bt269=>(if bt269.2.2.2.2 = true then (some (([]:List (S65)),bt269.2.1,bt269.2.2.1,bt269.2.2.2.1,bt269.2.2.2.2)) else (if x3_1.length < 2513169434916 then ((some (x3_1 ++ [(⟨(t264 == 61),t257,bt269.1⟩:S65)]:List (S65))).bind fun y276=>((impl_parser_next.f s0_0 bt269.2.1 bt269.2.2.1 bt269.2.2.2.1 bt269.2.2.2.2).bind fun bt279=>(if bt279.1 = 124 then (impl_parser_clause.l0 k1 y276 s0_0 bt279.2.1 (wrap64 (bt279.2.2.1 + 1)) bt279.2.2.2.1 bt279.2.2.2.2) else (some (y276,bt279.2.1,bt279.2.2.1,bt279.2.2.2.1,bt279.2.2.2.2))))) else (none))))) = some (r1,r2,r3,r4,r5):=H
     have A11:=Aside0.mk A110
     clear A110
     by_cases c12:t268 = true
     ·subst c12
      have H1:(some (([]:List (S65)),t265,t266,t267,true)) = some (r1,r2,r3,r4,r5):=by rw [if_pos rfl] at H;exact H
      clear H
      have H:=H1
      clear H1
      simp only [Option.some.injEq,Prod.mk.injEq] at H
      obtain ⟨rfl,rfl,rfl,rfl,rfl⟩:=H
      go_wp2_with (first|((with_reducible refine gate_callee (f:=99) rfl ?_);refine goesL_ (some 18) rfl rfl Try.func99 (by kernel_rfl) rfl #[.pointer (some ⟨g,0,none⟩)] rfl Ya ?_;(with_reducible refine (impl_parser_term.calls k1 g s0_0 x1001_1 x1002_1 x1003_1 x1004_1 t257 t260 t261 t262 false w0 _ ?side1 ?side2 A7.out).mono ?_);(case side1=>repeat (first|(with_reducible first|exact HI0.out|apply IsS89.alloc|apply IsS89.drewN|apply IsS89.drew|apply IsS89.set_1|apply IsS89.set_2|apply IsS89.set_3|apply IsS89.set_4)|exact HI0.out));(case side2=>repeat (first|(with_reducible first|exact HB.out|apply below_alloc|apply pw_below_drewN|apply below_drew1|refine below_set ?_ (IsS89.ge HI0.out))|exact HB.out));rintro e w13 ⟨v258,rfl,ho0,hi,hb,hk⟩;refine ⟨_,rfl,?_⟩;replace HO_3:=Aside0.mk (Kd.S_mono (Kd.S_told (Kd.S_oldK (IsS89.apartS (show IsS89 w0 _ g s0_0 x1001_1 x1002_1 x1003_1 x1004_1 from by repeat (first|(with_reducible first|exact HI0.out|apply IsS89.alloc|apply IsS89.drewN|apply IsS89.drew|apply IsS89.set_1|apply IsS89.set_2|apply IsS89.set_3|apply IsS89.set_4)|exact HI0.out)) (rS HO_3) (by decide)) hk) (Kd.R_base ho0)) (fun _ h_=>h_.1));have HO259:=Aside0.mk (Kd.R_lower ho0 (keep_size (w:=w) (g:=g) (row:=none) Yb));replace HK:=Aside0.mk (KeepBut.trans Yb hk (.inl rfl));replace HB:=Aside0.mk (hb);replace HI0:=Aside0.mk (hi);(try clear hb);(try clear hb2);(try clear hk);(try clear hi);(try clear ho0);obtain ⟨ASz14_0,cSz14_0,HGz14,hgz14,HSz14_0⟩:=HI0.out;have hcz14_0:=cellS89_0 HGz14;have hcz14_1:=cellS89_1 HGz14;have hcz14_2:=cellS89_2 HGz14;have hcz14_3:=cellS89_3 HGz14;have hcz14_4:=cellS89_4 HGz14;have hfz14_1:=blk_frozen HGz14 1;have hfz14_2:=blk_frozen HGz14 2;have hfz14_3:=blk_frozen HGz14 3;have hfz14_4:=blk_frozen HGz14 4;clear HGz14 hgz14)|((with_reducible refine gate_callee (f:=100) rfl ?_);refine goesL_ (some 24) rfl rfl Try.func100 (by kernel_rfl) rfl #[.pointer (some ⟨g,0,none⟩),.string (⟨#[61,35]⟩:ByteArray)] rfl Ya ?_;(with_reducible refine (impl_parser_take.calls k1 g s0_0 t260 t261 t262 false (⟨#[61,35]⟩:ByteArray) t264 t265 t266 t267 true w0 _ ?side1 ?side2 A11.out).mono ?_);(case side1=>repeat (first|(with_reducible first|exact HI0.out|apply IsS89.alloc|apply IsS89.drewN|apply IsS89.drew|apply IsS89.set_1|apply IsS89.set_2|apply IsS89.set_3|apply IsS89.set_4)|exact HI0.out));(case side2=>repeat (first|(with_reducible first|exact HB.out|apply below_alloc|apply pw_below_drewN|apply below_drew1|refine below_set ?_ (IsS89.ge HI0.out))|exact HB.out));rintro e w15 ⟨rfl,hi,hb,hk⟩;refine ⟨_,rfl,?_⟩;replace HO_3:=Aside0.mk (Kd.S_mono (Kd.S_keep (IsS89.apartS (show IsS89 w0 _ g s0_0 t260 t261 t262 false from by repeat (first|(with_reducible first|exact HI0.out|apply IsS89.alloc|apply IsS89.drewN|apply IsS89.drew|apply IsS89.set_1|apply IsS89.set_2|apply IsS89.set_3|apply IsS89.set_4)|exact HI0.out)) (rS HO_3) (by decide)) hk (fun _ h=>h.2)) (fun _ h=>h.1));replace HO259:=Aside0.mk (Kd.R_mono (Kd.R_keep (IsS89.apart (show IsS89 w0 _ g s0_0 t260 t261 t262 false from by repeat (first|(with_reducible first|exact HI0.out|apply IsS89.alloc|apply IsS89.drewN|apply IsS89.drew|apply IsS89.set_1|apply IsS89.set_2|apply IsS89.set_3|apply IsS89.set_4)|exact HI0.out)) (rR HO259) (by decide)) hk (fun _ h=>h.2)) (fun _ h=>h.1));replace HK:=Aside0.mk (KeepBut.trans Yb hk (.inl rfl));replace HB:=Aside0.mk (hb);replace HI0:=Aside0.mk (hi);(try clear hb);(try clear hb2);(try clear hk);(try clear hi);obtain ⟨ASz16_0,cSz16_0,HGz16,hgz16,HSz16_0⟩:=HI0.out;have hcz16_0:=cellS89_0 HGz16;have hcz16_1:=cellS89_1 HGz16;have hcz16_2:=cellS89_2 HGz16;have hcz16_3:=cellS89_3 HGz16;have hcz16_4:=cellS89_4 HGz16;have hfz16_1:=blk_frozen HGz16 1;have hfz16_2:=blk_frozen HGz16 2;have hfz16_3:=blk_frozen HGz16 3;have hfz16_4:=blk_frozen HGz16 4;clear HGz16 hgz16))
      go_ret
      exact ⟨_,by first|rfl|(simp [errW_none,errW_some] <;> rfl)|(simp [*,errW_none,errW_some] <;> rfl),by first|exact Kd.S_nil _ _ _ _ _|exact Kd.N_nil _ _ _ _ _|exact Kd.V_nil _ _ _ _ _|exact Kd.Q_nil _ _ _ _ _|exact Kd.R_nil _ _ _ _ _,by repeat (first|(with_reducible first|exact HI0.out|apply IsS89.alloc|apply IsS89.drewN|apply IsS89.drew|apply IsS89.set_1|apply IsS89.set_2|apply IsS89.set_3|apply IsS89.set_4)|exact HI0.out),by repeat (first|(with_reducible first|exact HB.out|apply below_alloc|apply pw_below_drewN|apply below_drew1|refine below_set ?_ (IsS89.ge HI0.out))|exact HB.out),by repeat (first|(with_reducible first|exact HK.out|apply KeepBut.set_|apply keep_drewN|apply keep_drew|apply keep_alloc)|exact HK.out)⟩
     ·replace c12:=Bool.eq_false_iff.mpr c12
      subst c12
      have H1:((impl_parser_term.f k1 s0_0 t265 t266 t267 false).bind fun bt269=>(if bt269.2.2.2.2 = true then (some (([]:List (S65)),bt269.2.1,bt269.2.2.1,bt269.2.2.2.1,bt269.2.2.2.2)) else (if x3_1.length < 2513169434916 then ((some (x3_1 ++ [(⟨(t264 == 61),t257,bt269.1⟩:S65)]:List (S65))).bind fun y276=>((impl_parser_next.f s0_0 bt269.2.1 bt269.2.2.1 bt269.2.2.2.1 bt269.2.2.2.2).bind fun bt279=>(if bt279.1 = 124 then (impl_parser_clause.l0 k1 y276 s0_0 bt279.2.1 (wrap64 (bt279.2.2.1 + 1)) bt279.2.2.2.1 bt279.2.2.2.2) else (some (y276,bt279.2.1,bt279.2.2.1,bt279.2.2.2.1,bt279.2.2.2.2))))) else (none)))) = some (r1,r2,r3,r4,r5):=by rw [if_neg (show ¬ (false = true) by decide)] at H;exact H
      clear H
      have H:=H1
      clear H1
      replace H:=Option.bind_eq_some_iff.mp H
      obtain ⟨⟨t269,t272,t273,t274,t275⟩,A170,H⟩:=H
      replace H:(if t275 = true then (some (([]:List (S65)),t272,t273,t274,t275)) else (if x3_1.length < 2513169434916 then ((some (x3_1 ++ [(⟨(t264 == 61),t257,t269⟩:S65)]:List (S65))).bind fun y276=>((impl_parser_next.f s0_0 t272 t273 t274 t275).bind fun bt279=>(if bt279.1 = 124 then (impl_parser_clause.l0 k1 y276 s0_0 bt279.2.1 (wrap64 (bt279.2.2.1 + 1)) bt279.2.2.2.1 bt279.2.2.2.2) else (some (y276,bt279.2.1,bt279.2.2.1,bt279.2.2.2.1,bt279.2.2.2.2))))) else (none))) = some (r1,r2,r3,r4,r5):=H
      have A17:=Aside0.mk A170
      clear A170
      by_cases c18:t275 = true
      ·subst c18
       have H1:(some (([]:List (S65)),t272,t273,t274,true)) = some (r1,r2,r3,r4,r5):=by rw [if_pos rfl] at H;exact H
       clear H
       have H:=H1
       clear H1
       simp only [Option.some.injEq,Prod.mk.injEq] at H
       obtain ⟨rfl,rfl,rfl,rfl,rfl⟩:=H
       go_wp2_with (first|((with_reducible refine gate_callee (f:=99) rfl ?_);refine goesL_ (some 18) rfl rfl Try.func99 (by kernel_rfl) rfl #[.pointer (some ⟨g,0,none⟩)] rfl Ya ?_;(with_reducible refine (impl_parser_term.calls k1 g s0_0 x1001_1 x1002_1 x1003_1 x1004_1 t257 t260 t261 t262 false w0 _ ?side1 ?side2 A7.out).mono ?_);(case side1=>repeat (first|(with_reducible first|exact HI0.out|apply IsS89.alloc|apply IsS89.drewN|apply IsS89.drew|apply IsS89.set_1|apply IsS89.set_2|apply IsS89.set_3|apply IsS89.set_4)|exact HI0.out));(case side2=>repeat (first|(with_reducible first|exact HB.out|apply below_alloc|apply pw_below_drewN|apply below_drew1|refine below_set ?_ (IsS89.ge HI0.out))|exact HB.out));rintro e w19 ⟨v258,rfl,ho0,hi,hb,hk⟩;refine ⟨_,rfl,?_⟩;replace HO_3:=Aside0.mk (Kd.S_mono (Kd.S_told (Kd.S_oldK (IsS89.apartS (show IsS89 w0 _ g s0_0 x1001_1 x1002_1 x1003_1 x1004_1 from by repeat (first|(with_reducible first|exact HI0.out|apply IsS89.alloc|apply IsS89.drewN|apply IsS89.drew|apply IsS89.set_1|apply IsS89.set_2|apply IsS89.set_3|apply IsS89.set_4)|exact HI0.out)) (rS HO_3) (by decide)) hk) (Kd.R_base ho0)) (fun _ h_=>h_.1));have HO259:=Aside0.mk (Kd.R_lower ho0 (keep_size (w:=w) (g:=g) (row:=none) Yb));replace HK:=Aside0.mk (KeepBut.trans Yb hk (.inl rfl));replace HB:=Aside0.mk (hb);replace HI0:=Aside0.mk (hi);(try clear hb);(try clear hb2);(try clear hk);(try clear hi);(try clear ho0);obtain ⟨ASz20_0,cSz20_0,HGz20,hgz20,HSz20_0⟩:=HI0.out;have hcz20_0:=cellS89_0 HGz20;have hcz20_1:=cellS89_1 HGz20;have hcz20_2:=cellS89_2 HGz20;have hcz20_3:=cellS89_3 HGz20;have hcz20_4:=cellS89_4 HGz20;have hfz20_1:=blk_frozen HGz20 1;have hfz20_2:=blk_frozen HGz20 2;have hfz20_3:=blk_frozen HGz20 3;have hfz20_4:=blk_frozen HGz20 4;clear HGz20 hgz20)|((with_reducible refine gate_callee (f:=100) rfl ?_);refine goesL_ (some 24) rfl rfl Try.func100 (by kernel_rfl) rfl #[.pointer (some ⟨g,0,none⟩),.string (⟨#[61,35]⟩:ByteArray)] rfl Ya ?_;(with_reducible refine (impl_parser_take.calls k1 g s0_0 t260 t261 t262 false (⟨#[61,35]⟩:ByteArray) t264 t265 t266 t267 false w0 _ ?side1 ?side2 A11.out).mono ?_);(case side1=>repeat (first|(with_reducible first|exact HI0.out|apply IsS89.alloc|apply IsS89.drewN|apply IsS89.drew|apply IsS89.set_1|apply IsS89.set_2|apply IsS89.set_3|apply IsS89.set_4)|exact HI0.out));(case side2=>repeat (first|(with_reducible first|exact HB.out|apply below_alloc|apply pw_below_drewN|apply below_drew1|refine below_set ?_ (IsS89.ge HI0.out))|exact HB.out));rintro e w21 ⟨rfl,hi,hb,hk⟩;refine ⟨_,rfl,?_⟩;replace HO_3:=Aside0.mk (Kd.S_mono (Kd.S_keep (IsS89.apartS (show IsS89 w0 _ g s0_0 t260 t261 t262 false from by repeat (first|(with_reducible first|exact HI0.out|apply IsS89.alloc|apply IsS89.drewN|apply IsS89.drew|apply IsS89.set_1|apply IsS89.set_2|apply IsS89.set_3|apply IsS89.set_4)|exact HI0.out)) (rS HO_3) (by decide)) hk (fun _ h=>h.2)) (fun _ h=>h.1));replace HO259:=Aside0.mk (Kd.R_mono (Kd.R_keep (IsS89.apart (show IsS89 w0 _ g s0_0 t260 t261 t262 false from by repeat (first|(with_reducible first|exact HI0.out|apply IsS89.alloc|apply IsS89.drewN|apply IsS89.drew|apply IsS89.set_1|apply IsS89.set_2|apply IsS89.set_3|apply IsS89.set_4)|exact HI0.out)) (rR HO259) (by decide)) hk (fun _ h=>h.2)) (fun _ h=>h.1));replace HK:=Aside0.mk (KeepBut.trans Yb hk (.inl rfl));replace HB:=Aside0.mk (hb);replace HI0:=Aside0.mk (hi);(try clear hb);(try clear hb2);(try clear hk);(try clear hi);obtain ⟨ASz22_0,cSz22_0,HGz22,hgz22,HSz22_0⟩:=HI0.out;have hcz22_0:=cellS89_0 HGz22;have hcz22_1:=cellS89_1 HGz22;have hcz22_2:=cellS89_2 HGz22;have hcz22_3:=cellS89_3 HGz22;have hcz22_4:=cellS89_4 HGz22;have hfz22_1:=blk_frozen HGz22 1;have hfz22_2:=blk_frozen HGz22 2;have hfz22_3:=blk_frozen HGz22 3;have hfz22_4:=blk_frozen HGz22 4;clear HGz22 hgz22)|((with_reducible refine gate_callee (f:=99) rfl ?_);refine goesL_ (some 30) rfl rfl Try.func99 (by kernel_rfl) rfl #[.pointer (some ⟨g,0,none⟩)] rfl Ya ?_;(with_reducible refine (impl_parser_term.calls k1 g s0_0 t265 t266 t267 false t269 t272 t273 t274 true w0 _ ?side1 ?side2 A17.out).mono ?_);(case side1=>repeat (first|(with_reducible first|exact HI0.out|apply IsS89.alloc|apply IsS89.drewN|apply IsS89.drew|apply IsS89.set_1|apply IsS89.set_2|apply IsS89.set_3|apply IsS89.set_4)|exact HI0.out));(case side2=>repeat (first|(with_reducible first|exact HB.out|apply below_alloc|apply pw_below_drewN|apply below_drew1|refine below_set ?_ (IsS89.ge HI0.out))|exact HB.out));rintro e w23 ⟨v270,rfl,ho0,hi,hb,hk⟩;refine ⟨_,rfl,?_⟩;replace HO_3:=Aside0.mk (Kd.S_mono (Kd.S_told (Kd.S_oldK (IsS89.apartS (show IsS89 w0 _ g s0_0 t265 t266 t267 false from by repeat (first|(with_reducible first|exact HI0.out|apply IsS89.alloc|apply IsS89.drewN|apply IsS89.drew|apply IsS89.set_1|apply IsS89.set_2|apply IsS89.set_3|apply IsS89.set_4)|exact HI0.out)) (rS HO_3) (by decide)) hk) (Kd.R_base ho0)) (fun _ h_=>h_.1));have HO271:=Aside0.mk (Kd.R_lower (Kd.R_new' ho0 (Kd.R_lt (rR HO259))) (keep_size (w:=w) (g:=g) (row:=none) Yb));replace HO259:=Aside0.mk (Kd.R_mono (Kd.R_told (Kd.R_oldK (IsS89.apart (show IsS89 w0 _ g s0_0 t265 t266 t267 false from by repeat (first|(with_reducible first|exact HI0.out|apply IsS89.alloc|apply IsS89.drewN|apply IsS89.drew|apply IsS89.set_1|apply IsS89.set_2|apply IsS89.set_3|apply IsS89.set_4)|exact HI0.out)) (rR HO259) (by decide)) hk) (Kd.R_base ho0)) (fun _ h_=>h_.1));replace HK:=Aside0.mk (KeepBut.trans Yb hk (.inl rfl));replace HB:=Aside0.mk (hb);replace HI0:=Aside0.mk (hi);(try clear hb);(try clear hb2);(try clear hk);(try clear hi);(try clear ho0);obtain ⟨ASz24_0,cSz24_0,HGz24,hgz24,HSz24_0⟩:=HI0.out;have hcz24_0:=cellS89_0 HGz24;have hcz24_1:=cellS89_1 HGz24;have hcz24_2:=cellS89_2 HGz24;have hcz24_3:=cellS89_3 HGz24;have hcz24_4:=cellS89_4 HGz24;have hfz24_1:=blk_frozen HGz24 1;have hfz24_2:=blk_frozen HGz24 2;have hfz24_3:=blk_frozen HGz24 3;have hfz24_4:=blk_frozen HGz24 4;clear HGz24 hgz24))
       go_ret
       exact ⟨_,by first|rfl|(simp [errW_none,errW_some] <;> rfl)|(simp [*,errW_none,errW_some] <;> rfl),by first|exact Kd.S_nil _ _ _ _ _|exact Kd.N_nil _ _ _ _ _|exact Kd.V_nil _ _ _ _ _|exact Kd.Q_nil _ _ _ _ _|exact Kd.R_nil _ _ _ _ _,by repeat (first|(with_reducible first|exact HI0.out|apply IsS89.alloc|apply IsS89.drewN|apply IsS89.drew|apply IsS89.set_1|apply IsS89.set_2|apply IsS89.set_3|apply IsS89.set_4)|exact HI0.out),by repeat (first|(with_reducible first|exact HB.out|apply below_alloc|apply pw_below_drewN|apply below_drew1|refine below_set ?_ (IsS89.ge HI0.out))|exact HB.out),by repeat (first|(with_reducible first|exact HK.out|apply KeepBut.set_|apply keep_drewN|apply keep_drew|apply keep_alloc)|exact HK.out)⟩
      ·replace c18:=Bool.eq_false_iff.mpr c18
       subst c18
       have H1:(if x3_1.length < 2513169434916 then ((some (x3_1 ++ [(⟨(t264 == 61),t257,t269⟩:S65)]:List (S65))).bind fun y276=>((impl_parser_next.f s0_0 t272 t273 t274 false).bind fun bt279=>(if bt279.1 = 124 then (impl_parser_clause.l0 k1 y276 s0_0 bt279.2.1 (wrap64 (bt279.2.2.1 + 1)) bt279.2.2.2.1 bt279.2.2.2.2) else (some (y276,bt279.2.1,bt279.2.2.1,bt279.2.2.2.1,bt279.2.2.2.2))))) else (none)) = some (r1,r2,r3,r4,r5):=by rw [if_neg (show ¬ (false = true) by decide)] at H;exact H
       clear H
       have H:=H1
       clear H1
       by_cases c25:x3_1.length < 2513169434916
       ·rw [if_pos c25] at H
        have LMc25:=Aside0.mk c25
        clear c25
        obtain ⟨y276,hy276⟩:∃ y_:List (S65),y_ = (x3_1 ++ [(⟨(t264 == 61),t257,t269⟩:S65)]):=⟨_,rfl⟩
        replace H:((impl_parser_next.f s0_0 t272 t273 t274 false).bind fun bt279=>(if bt279.1 = 124 then (impl_parser_clause.l0 k1 y276 s0_0 bt279.2.1 (wrap64 (bt279.2.2.1 + 1)) bt279.2.2.2.1 bt279.2.2.2.2) else (some (y276,bt279.2.1,bt279.2.2.1,bt279.2.2.2.1,bt279.2.2.2.2)))) = some (r1,r2,r3,r4,r5):=by first|(rw [hy276];with_reducible exact H)|(have H2_:=(Option.bind_some _ _).symm.trans H;rw [hy276];with_reducible exact H2_)|(have H2_:=(Option.bind_some _ _).symm.trans H;with_reducible exact H2_)|with_reducible exact H|(rw [hy276];exact H)|exact H
        have Ny276:=Aside0.mk hy276
        clear hy276
        replace H:=Option.bind_eq_some_iff.mp H
        obtain ⟨⟨t279,t280,t281,t282,t283⟩,A260,H⟩:=H
        replace H:(if t279 = 124 then (impl_parser_clause.l0 k1 y276 s0_0 t280 (wrap64 (t281 + 1)) t282 t283) else (some (y276,t280,t281,t282,t283))) = some (r1,r2,r3,r4,r5):=H
        have A26:=Aside0.mk A260
        clear A260
        by_cases c27:t279 = 124
        ·rw [if_pos c27] at H
         have c27b0:(t279 == 124) = true:=beq_iff_eq.mpr c27
         have c27b1:(t279 != 124) = false:=bne_eq_false_iff_eq.mpr c27
         clear c27
         have H':=Aside0.mk H
         clear H
         go_wp2_with (first|((with_reducible refine gate_callee (f:=99) rfl ?_);refine goesL_ (some 18) rfl rfl Try.func99 (by kernel_rfl) rfl #[.pointer (some ⟨g,0,none⟩)] rfl Ya ?_;(with_reducible refine (impl_parser_term.calls k1 g s0_0 x1001_1 x1002_1 x1003_1 x1004_1 t257 t260 t261 t262 false w0 _ ?side1 ?side2 A7.out).mono ?_);(case side1=>repeat (first|(with_reducible first|exact HI0.out|apply IsS89.alloc|apply IsS89.drewN|apply IsS89.drew|apply IsS89.set_1|apply IsS89.set_2|apply IsS89.set_3|apply IsS89.set_4)|exact HI0.out));(case side2=>repeat (first|(with_reducible first|exact HB.out|apply below_alloc|apply pw_below_drewN|apply below_drew1|refine below_set ?_ (IsS89.ge HI0.out))|exact HB.out));rintro e w28 ⟨v258,rfl,ho0,hi,hb,hk⟩;refine ⟨_,rfl,?_⟩;replace HO_3:=Aside0.mk (Kd.S_mono (Kd.S_told (Kd.S_oldK (IsS89.apartS (show IsS89 w0 _ g s0_0 x1001_1 x1002_1 x1003_1 x1004_1 from by repeat (first|(with_reducible first|exact HI0.out|apply IsS89.alloc|apply IsS89.drewN|apply IsS89.drew|apply IsS89.set_1|apply IsS89.set_2|apply IsS89.set_3|apply IsS89.set_4)|exact HI0.out)) (rS HO_3) (by decide)) hk) (Kd.R_base ho0)) (fun _ h_=>h_.1));have HO259:=Aside0.mk (Kd.R_lower ho0 (keep_size (w:=w) (g:=g) (row:=none) Yb));replace HK:=Aside0.mk (KeepBut.trans Yb hk (.inl rfl));replace HB:=Aside0.mk (hb);replace HI0:=Aside0.mk (hi);(try clear hb);(try clear hb2);(try clear hk);(try clear hi);(try clear ho0);obtain ⟨ASz29_0,cSz29_0,HGz29,hgz29,HSz29_0⟩:=HI0.out;have hcz29_0:=cellS89_0 HGz29;have hcz29_1:=cellS89_1 HGz29;have hcz29_2:=cellS89_2 HGz29;have hcz29_3:=cellS89_3 HGz29;have hcz29_4:=cellS89_4 HGz29;have hfz29_1:=blk_frozen HGz29 1;have hfz29_2:=blk_frozen HGz29 2;have hfz29_3:=blk_frozen HGz29 3;have hfz29_4:=blk_frozen HGz29 4;clear HGz29 hgz29)|((with_reducible refine gate_callee (f:=100) rfl ?_);refine goesL_ (some 24) rfl rfl Try.func100 (by kernel_rfl) rfl #[.pointer (some ⟨g,0,none⟩),.string (⟨#[61,35]⟩:ByteArray)] rfl Ya ?_;(with_reducible refine (impl_parser_take.calls k1 g s0_0 t260 t261 t262 false (⟨#[61,35]⟩:ByteArray) t264 t265 t266 t267 false w0 _ ?side1 ?side2 A11.out).mono ?_);(case side1=>repeat (first|(with_reducible first|exact HI0.out|apply IsS89.alloc|apply IsS89.drewN|apply IsS89.drew|apply IsS89.set_1|apply IsS89.set_2|apply IsS89.set_3|apply IsS89.set_4)|exact HI0.out));(case side2=>repeat (first|(with_reducible first|exact HB.out|apply below_alloc|apply pw_below_drewN|apply below_drew1|refine below_set ?_ (IsS89.ge HI0.out))|exact HB.out));rintro e w30 ⟨rfl,hi,hb,hk⟩;refine ⟨_,rfl,?_⟩;replace HO_3:=Aside0.mk (Kd.S_mono (Kd.S_keep (IsS89.apartS (show IsS89 w0 _ g s0_0 t260 t261 t262 false from by repeat (first|(with_reducible first|exact HI0.out|apply IsS89.alloc|apply IsS89.drewN|apply IsS89.drew|apply IsS89.set_1|apply IsS89.set_2|apply IsS89.set_3|apply IsS89.set_4)|exact HI0.out)) (rS HO_3) (by decide)) hk (fun _ h=>h.2)) (fun _ h=>h.1));replace HO259:=Aside0.mk (Kd.R_mono (Kd.R_keep (IsS89.apart (show IsS89 w0 _ g s0_0 t260 t261 t262 false from by repeat (first|(with_reducible first|exact HI0.out|apply IsS89.alloc|apply IsS89.drewN|apply IsS89.drew|apply IsS89.set_1|apply IsS89.set_2|apply IsS89.set_3|apply IsS89.set_4)|exact HI0.out)) (rR HO259) (by decide)) hk (fun _ h=>h.2)) (fun _ h=>h.1));replace HK:=Aside0.mk (KeepBut.trans Yb hk (.inl rfl));replace HB:=Aside0.mk (hb);replace HI0:=Aside0.mk (hi);(try clear hb);(try clear hb2);(try clear hk);(try clear hi);obtain ⟨ASz31_0,cSz31_0,HGz31,hgz31,HSz31_0⟩:=HI0.out;have hcz31_0:=cellS89_0 HGz31;have hcz31_1:=cellS89_1 HGz31;have hcz31_2:=cellS89_2 HGz31;have hcz31_3:=cellS89_3 HGz31;have hcz31_4:=cellS89_4 HGz31;have hfz31_1:=blk_frozen HGz31 1;have hfz31_2:=blk_frozen HGz31 2;have hfz31_3:=blk_frozen HGz31 3;have hfz31_4:=blk_frozen HGz31 4;clear HGz31 hgz31)|((with_reducible refine gate_callee (f:=99) rfl ?_);refine goesL_ (some 30) rfl rfl Try.func99 (by kernel_rfl) rfl #[.pointer (some ⟨g,0,none⟩)] rfl Ya ?_;(with_reducible refine (impl_parser_term.calls k1 g s0_0 t265 t266 t267 false t269 t272 t273 t274 false w0 _ ?side1 ?side2 A17.out).mono ?_);(case side1=>repeat (first|(with_reducible first|exact HI0.out|apply IsS89.alloc|apply IsS89.drewN|apply IsS89.drew|apply IsS89.set_1|apply IsS89.set_2|apply IsS89.set_3|apply IsS89.set_4)|exact HI0.out));(case side2=>repeat (first|(with_reducible first|exact HB.out|apply below_alloc|apply pw_below_drewN|apply below_drew1|refine below_set ?_ (IsS89.ge HI0.out))|exact HB.out));rintro e w32 ⟨v270,rfl,ho0,hi,hb,hk⟩;refine ⟨_,rfl,?_⟩;replace HO_3:=Aside0.mk (Kd.S_mono (Kd.S_told (Kd.S_oldK (IsS89.apartS (show IsS89 w0 _ g s0_0 t265 t266 t267 false from by repeat (first|(with_reducible first|exact HI0.out|apply IsS89.alloc|apply IsS89.drewN|apply IsS89.drew|apply IsS89.set_1|apply IsS89.set_2|apply IsS89.set_3|apply IsS89.set_4)|exact HI0.out)) (rS HO_3) (by decide)) hk) (Kd.R_base ho0)) (fun _ h_=>h_.1));have HO271:=Aside0.mk (Kd.R_lower (Kd.R_new' ho0 (Kd.R_lt (rR HO259))) (keep_size (w:=w) (g:=g) (row:=none) Yb));replace HO259:=Aside0.mk (Kd.R_mono (Kd.R_told (Kd.R_oldK (IsS89.apart (show IsS89 w0 _ g s0_0 t265 t266 t267 false from by repeat (first|(with_reducible first|exact HI0.out|apply IsS89.alloc|apply IsS89.drewN|apply IsS89.drew|apply IsS89.set_1|apply IsS89.set_2|apply IsS89.set_3|apply IsS89.set_4)|exact HI0.out)) (rR HO259) (by decide)) hk) (Kd.R_base ho0)) (fun _ h_=>h_.1));replace HK:=Aside0.mk (KeepBut.trans Yb hk (.inl rfl));replace HB:=Aside0.mk (hb);replace HI0:=Aside0.mk (hi);(try clear hb);(try clear hb2);(try clear hk);(try clear hi);(try clear ho0);obtain ⟨ASz33_0,cSz33_0,HGz33,hgz33,HSz33_0⟩:=HI0.out;have hcz33_0:=cellS89_0 HGz33;have hcz33_1:=cellS89_1 HGz33;have hcz33_2:=cellS89_2 HGz33;have hcz33_3:=cellS89_3 HGz33;have hcz33_4:=cellS89_4 HGz33;have hfz33_1:=blk_frozen HGz33 1;have hfz33_2:=blk_frozen HGz33 2;have hfz33_3:=blk_frozen HGz33 3;have hfz33_4:=blk_frozen HGz33 4;clear HGz33 hgz33;obtain ⟨Ao34,co34,eo34⟩:=Kd.R_slice HO271.out;subst eo34;obtain ⟨Ao35,co35,eo35⟩:=Kd.R_slice HO259.out;subst eo35)|((with_reducible refine gate_builtin (b:=.append) (xs:=#[.tmp 35,.tmp 41]) rfl ?_);at_builtin;refine Kd.S_append aLit w.heap.size rfl (.tmp 35) (.tmp 41) 33 65 (.agg #[(.bool false),(.slice none 0 0),(.slice none 0 0)]) 56 rfl Try.underlying33 info65 rfl (by decide) (by first|decide|omega) u3 x3_1 (⟨(t264 == 61),t257,t269⟩:S65) [.bool (t264 == 61),.slice Ao35 t257.length co35,.slice Ao34 t269.length co34] (fun _=>True) (fun k_=>some k_ = (.slice Ao35 t257.length co35:Value).ownBlock ∨ some k_ = (.slice Ao34 t269.length co34:Value).ownBlock) rfl rfl ?aP (fun k_ hk_=>hk_.elim (fun h_=>((Kd.R_mono (ok':=fun k_=>((fun _=>True)) k_ ∧ some k_ ≠ (u3:Value).ownBlock) (Kd.R_apart' (HO259.out) (Kd.S_typed HO_3.out) (by decide)) (fun k_ hk=>⟨trivial,hk.2⟩))).1 k_ h_.symm) (fun h_=>((Kd.R_mono (ok':=fun k_=>((fun _=>True)) k_ ∧ some k_ ≠ (u3:Value).ownBlock) (Kd.R_apart' (HO271.out) (Kd.S_typed HO_3.out) (by decide)) (fun k_ hk=>⟨trivial,hk.2⟩))).1 k_ h_.symm)) ?aF ?aO (Below.refl _ _) ?aS ?aL ?_;(case aP=>exact ⟨fun k_=>some k_ = (.slice Ao35 t257.length co35:Value).ownBlock,_,_,rfl,Kd.R_mono (Kd.R_tight rfl HO259.out) (fun _ h_=>⟨Or.inl h_,h_⟩),Kd.R_mono (Kd.R_tight2 rfl HO271.out) (fun _ h_=>⟨Or.inr h_.1,h_.2.2⟩)⟩);(case aF=>exact (fun _ _=>trivial));(case aO=>exact Yk);(case aS=>exact (keep_size (w:=w) (g:=g) (row:=none) Yb));(case aL=>have:=LMc25.out;omega);intro v277 w36 ho hb hg hat;rw [← Ny276.out] at ho;have n0_:=Aside0.mk (IsS89.grown Yh hg (IsS89.own_neS HI0.out HO_3.out (by decide)));have n1_:=Aside0.mk (below_weaken Yf HL.out hb);have n2_:=Aside0.mk (KeepBut.trans Yb (KeepBut.of_grown hg g) (Kd.S_base2 HO_3.out));have n3_:=Aside0.mk (ho);clear HI0;clear HB;clear HK;clear HO_3;clear HO259;clear HO271;have HI0:=n0_;have HB:=n1_;have HK:=n2_;have HO278:=n3_;clear n0_ n1_ n2_ n3_;clear ho hb hg hat)|((with_reducible refine gate_callee (f:=98) rfl ?_);refine goesL_ (some 44) rfl rfl Try.func98 (by kernel_rfl) rfl #[.pointer (some ⟨g,0,none⟩)] rfl Ya ?_;(with_reducible refine (impl_parser_next.calls g s0_0 t272 t273 t274 false t279 t280 t281 t282 t283 w0 _ ?side1 ?side2 A26.out).mono ?_);(case side1=>repeat (first|(with_reducible first|exact HI0.out|apply IsS89.alloc|apply IsS89.drewN|apply IsS89.drew|apply IsS89.set_1|apply IsS89.set_2|apply IsS89.set_3|apply IsS89.set_4)|exact HI0.out));(case side2=>repeat (first|(with_reducible first|exact HB.out|apply below_alloc|apply pw_below_drewN|apply below_drew1|refine below_set ?_ (IsS89.ge HI0.out))|exact HB.out));rintro e w37 ⟨rfl,hi,hb,hk⟩;refine ⟨_,rfl,?_⟩;replace HO278:=Aside0.mk (Kd.S_mono (Kd.S_keep (IsS89.apartS (show IsS89 w0 _ g s0_0 t272 t273 t274 false from by repeat (first|(with_reducible first|exact HI0.out|apply IsS89.alloc|apply IsS89.drewN|apply IsS89.drew|apply IsS89.set_1|apply IsS89.set_2|apply IsS89.set_3|apply IsS89.set_4)|exact HI0.out)) (rS HO278) (by decide)) hk (fun _ h=>h.2)) (fun _ h=>h.1));replace HK:=Aside0.mk (KeepBut.trans Yb hk (.inl rfl));replace HB:=Aside0.mk (hb);replace HI0:=Aside0.mk (hi);(try clear hb);(try clear hb2);(try clear hk);(try clear hi);obtain ⟨ASz38_0,cSz38_0,HGz38,hgz38,HSz38_0⟩:=HI0.out;have hcz38_0:=cellS89_0 HGz38;have hcz38_1:=cellS89_1 HGz38;have hcz38_2:=cellS89_2 HGz38;have hcz38_3:=cellS89_3 HGz38;have hcz38_4:=cellS89_4 HGz38;have hfz38_1:=blk_frozen HGz38 1;have hfz38_2:=blk_frozen HGz38 2;have hfz38_3:=blk_frozen HGz38 3;have hfz38_4:=blk_frozen HGz38 4;clear HGz38 hgz38))
         go_roundg k1
         case measure=>have:=HK1.out;omega
         case rel=>exact ⟨(y276),(t280),(wrap64 (t281 + 1)),(t282),(t283),H',⟨by have:=HK1.out;omega⟩,⟨by (with_reducible repeat (first|apply Kd.S_alloc|apply Kd.S_drewN|apply Kd.S_drew));exact Kd.S_mono (Kd.S_far (p:=⟨g,2,none⟩) (IsS89.apartS HI0.out HO278.out (by decide)) (fun _ hk=>hk.2) (.int .i64 (wrap64 (t281 + 1)))) (fun _ hk=>trivial)⟩,⟨by repeat (first|(with_reducible first|exact HI0.out|apply IsS89.alloc|apply IsS89.drewN|apply IsS89.drew|apply IsS89.set_1|apply IsS89.set_2|apply IsS89.set_3|apply IsS89.set_4)|exact HI0.out)⟩,⟨by repeat (first|(with_reducible first|exact HK.out|apply KeepBut.set_|apply keep_drewN|apply keep_drew|apply keep_alloc)|exact HK.out)⟩,⟨by repeat (first|(with_reducible first|exact HB.out|apply below_alloc|apply pw_below_drewN|apply below_drew1|refine below_set ?_ (IsS89.ge HI0.out))|exact HB.out)⟩⟩
        ·rw [if_neg c27] at H
         have c27b0:(t279 == 124) = false:=beq_eq_false_iff_ne.mpr c27
         have c27b1:(t279 != 124) = true:=bne_iff_ne.mpr c27
         simp only [Option.some.injEq,Prod.mk.injEq] at H
         obtain ⟨rfl,rfl,rfl,rfl,rfl⟩:=H
         go_wp2_with (first|((with_reducible refine gate_callee (f:=99) rfl ?_);refine goesL_ (some 18) rfl rfl Try.func99 (by kernel_rfl) rfl #[.pointer (some ⟨g,0,none⟩)] rfl Ya ?_;(with_reducible refine (impl_parser_term.calls k1 g s0_0 x1001_1 x1002_1 x1003_1 x1004_1 t257 t260 t261 t262 false w0 _ ?side1 ?side2 A7.out).mono ?_);(case side1=>repeat (first|(with_reducible first|exact HI0.out|apply IsS89.alloc|apply IsS89.drewN|apply IsS89.drew|apply IsS89.set_1|apply IsS89.set_2|apply IsS89.set_3|apply IsS89.set_4)|exact HI0.out));(case side2=>repeat (first|(with_reducible first|exact HB.out|apply below_alloc|apply pw_below_drewN|apply below_drew1|refine below_set ?_ (IsS89.ge HI0.out))|exact HB.out));rintro e w39 ⟨v258,rfl,ho0,hi,hb,hk⟩;refine ⟨_,rfl,?_⟩;replace HO_3:=Aside0.mk (Kd.S_mono (Kd.S_told (Kd.S_oldK (IsS89.apartS (show IsS89 w0 _ g s0_0 x1001_1 x1002_1 x1003_1 x1004_1 from by repeat (first|(with_reducible first|exact HI0.out|apply IsS89.alloc|apply IsS89.drewN|apply IsS89.drew|apply IsS89.set_1|apply IsS89.set_2|apply IsS89.set_3|apply IsS89.set_4)|exact HI0.out)) (rS HO_3) (by decide)) hk) (Kd.R_base ho0)) (fun _ h_=>h_.1));have HO259:=Aside0.mk (Kd.R_lower ho0 (keep_size (w:=w) (g:=g) (row:=none) Yb));replace HK:=Aside0.mk (KeepBut.trans Yb hk (.inl rfl));replace HB:=Aside0.mk (hb);replace HI0:=Aside0.mk (hi);(try clear hb);(try clear hb2);(try clear hk);(try clear hi);(try clear ho0);obtain ⟨ASz40_0,cSz40_0,HGz40,hgz40,HSz40_0⟩:=HI0.out;have hcz40_0:=cellS89_0 HGz40;have hcz40_1:=cellS89_1 HGz40;have hcz40_2:=cellS89_2 HGz40;have hcz40_3:=cellS89_3 HGz40;have hcz40_4:=cellS89_4 HGz40;have hfz40_1:=blk_frozen HGz40 1;have hfz40_2:=blk_frozen HGz40 2;have hfz40_3:=blk_frozen HGz40 3;have hfz40_4:=blk_frozen HGz40 4;clear HGz40 hgz40)|((with_reducible refine gate_callee (f:=100) rfl ?_);refine goesL_ (some 24) rfl rfl Try.func100 (by kernel_rfl) rfl #[.pointer (some ⟨g,0,none⟩),.string (⟨#[61,35]⟩:ByteArray)] rfl Ya ?_;(with_reducible refine (impl_parser_take.calls k1 g s0_0 t260 t261 t262 false (⟨#[61,35]⟩:ByteArray) t264 t265 t266 t267 false w0 _ ?side1 ?side2 A11.out).mono ?_);(case side1=>repeat (first|(with_reducible first|exact HI0.out|apply IsS89.alloc|apply IsS89.drewN|apply IsS89.drew|apply IsS89.set_1|apply IsS89.set_2|apply IsS89.set_3|apply IsS89.set_4)|exact HI0.out));(case side2=>repeat (first|(with_reducible first|exact HB.out|apply below_alloc|apply pw_below_drewN|apply below_drew1|refine below_set ?_ (IsS89.ge HI0.out))|exact HB.out));rintro e w41 ⟨rfl,hi,hb,hk⟩;refine ⟨_,rfl,?_⟩;replace HO_3:=Aside0.mk (Kd.S_mono (Kd.S_keep (IsS89.apartS (show IsS89 w0 _ g s0_0 t260 t261 t262 false from by repeat (first|(with_reducible first|exact HI0.out|apply IsS89.alloc|apply IsS89.drewN|apply IsS89.drew|apply IsS89.set_1|apply IsS89.set_2|apply IsS89.set_3|apply IsS89.set_4)|exact HI0.out)) (rS HO_3) (by decide)) hk (fun _ h=>h.2)) (fun _ h=>h.1));replace HO259:=Aside0.mk (Kd.R_mono (Kd.R_keep (IsS89.apart (show IsS89 w0 _ g s0_0 t260 t261 t262 false from by repeat (first|(with_reducible first|exact HI0.out|apply IsS89.alloc|apply IsS89.drewN|apply IsS89.drew|apply IsS89.set_1|apply IsS89.set_2|apply IsS89.set_3|apply IsS89.set_4)|exact HI0.out)) (rR HO259) (by decide)) hk (fun _ h=>h.2)) (fun _ h=>h.1));replace HK:=Aside0.mk (KeepBut.trans Yb hk (.inl rfl));replace HB:=Aside0.mk (hb);replace HI0:=Aside0.mk (hi);(try clear hb);(try clear hb2);(try clear hk);(try clear hi);obtain ⟨ASz42_0,cSz42_0,HGz42,hgz42,HSz42_0⟩:=HI0.out;have hcz42_0:=cellS89_0 HGz42;have hcz42_1:=cellS89_1 HGz42;have hcz42_2:=cellS89_2 HGz42;have hcz42_3:=cellS89_3 HGz42;have hcz42_4:=cellS89_4 HGz42;have hfz42_1:=blk_frozen HGz42 1;have hfz42_2:=blk_frozen HGz42 2;have hfz42_3:=blk_frozen HGz42 3;have hfz42_4:=blk_frozen HGz42 4;clear HGz42 hgz42)|((with_reducible refine gate_callee (f:=99) rfl ?_);refine goesL_ (some 30) rfl rfl Try.func99 (by kernel_rfl) rfl #[.pointer (some ⟨g,0,none⟩)] rfl Ya ?_;(with_reducible refine (impl_parser_term.calls k1 g s0_0 t265 t266 t267 false t269 t272 t273 t274 false w0 _ ?side1 ?side2 A17.out).mono ?_);(case side1=>repeat (first|(with_reducible first|exact HI0.out|apply IsS89.alloc|apply IsS89.drewN|apply IsS89.drew|apply IsS89.set_1|apply IsS89.set_2|apply IsS89.set_3|apply IsS89.set_4)|exact HI0.out));(case side2=>repeat (first|(with_reducible first|exact HB.out|apply below_alloc|apply pw_below_drewN|apply below_drew1|refine below_set ?_ (IsS89.ge HI0.out))|exact HB.out));rintro e w43 ⟨v270,rfl,ho0,hi,hb,hk⟩;refine ⟨_,rfl,?_⟩;replace HO_3:=Aside0.mk (Kd.S_mono (Kd.S_told (Kd.S_oldK (IsS89.apartS (show IsS89 w0 _ g s0_0 t265 t266 t267 false from by repeat (first|(with_reducible first|exact HI0.out|apply IsS89.alloc|apply IsS89.drewN|apply IsS89.drew|apply IsS89.set_1|apply IsS89.set_2|apply IsS89.set_3|apply IsS89.set_4)|exact HI0.out)) (rS HO_3) (by decide)) hk) (Kd.R_base ho0)) (fun _ h_=>h_.1));have HO271:=Aside0.mk (Kd.R_lower (Kd.R_new' ho0 (Kd.R_lt (rR HO259))) (keep_size (w:=w) (g:=g) (row:=none) Yb));replace HO259:=Aside0.mk (Kd.R_mono (Kd.R_told (Kd.R_oldK (IsS89.apart (show IsS89 w0 _ g s0_0 t265 t266 t267 false from by repeat (first|(with_reducible first|exact HI0.out|apply IsS89.alloc|apply IsS89.drewN|apply IsS89.drew|apply IsS89.set_1|apply IsS89.set_2|apply IsS89.set_3|apply IsS89.set_4)|exact HI0.out)) (rR HO259) (by decide)) hk) (Kd.R_base ho0)) (fun _ h_=>h_.1));replace HK:=Aside0.mk (KeepBut.trans Yb hk (.inl rfl));replace HB:=Aside0.mk (hb);replace HI0:=Aside0.mk (hi);(try clear hb);(try clear hb2);(try clear hk);(try clear hi);(try clear ho0);obtain ⟨ASz44_0,cSz44_0,HGz44,hgz44,HSz44_0⟩:=HI0.out;have hcz44_0:=cellS89_0 HGz44;have hcz44_1:=cellS89_1 HGz44;have hcz44_2:=cellS89_2 HGz44;have hcz44_3:=cellS89_3 HGz44;have hcz44_4:=cellS89_4 HGz44;have hfz44_1:=blk_frozen HGz44 1;have hfz44_2:=blk_frozen HGz44 2;have hfz44_3:=blk_frozen HGz44 3;have hfz44_4:=blk_frozen HGz44 4;clear HGz44 hgz44;obtain ⟨Ao45,co45,eo45⟩:=Kd.R_slice HO271.out;subst eo45;obtain ⟨Ao46,co46,eo46⟩:=Kd.R_slice HO259.out;subst eo46)|((with_reducible refine gate_builtin (b:=.append) (xs:=#[.tmp 35,.tmp 41]) rfl ?_);at_builtin;refine Kd.S_append aLit w.heap.size rfl (.tmp 35) (.tmp 41) 33 65 (.agg #[(.bool false),(.slice none 0 0),(.slice none 0 0)]) 56 rfl Try.underlying33 info65 rfl (by decide) (by first|decide|omega) u3 x3_1 (⟨(t264 == 61),t257,t269⟩:S65) [.bool (t264 == 61),.slice Ao46 t257.length co46,.slice Ao45 t269.length co45] (fun _=>True) (fun k_=>some k_ = (.slice Ao46 t257.length co46:Value).ownBlock ∨ some k_ = (.slice Ao45 t269.length co45:Value).ownBlock) rfl rfl ?aP (fun k_ hk_=>hk_.elim (fun h_=>((Kd.R_mono (ok':=fun k_=>((fun _=>True)) k_ ∧ some k_ ≠ (u3:Value).ownBlock) (Kd.R_apart' (HO259.out) (Kd.S_typed HO_3.out) (by decide)) (fun k_ hk=>⟨trivial,hk.2⟩))).1 k_ h_.symm) (fun h_=>((Kd.R_mono (ok':=fun k_=>((fun _=>True)) k_ ∧ some k_ ≠ (u3:Value).ownBlock) (Kd.R_apart' (HO271.out) (Kd.S_typed HO_3.out) (by decide)) (fun k_ hk=>⟨trivial,hk.2⟩))).1 k_ h_.symm)) ?aF ?aO (Below.refl _ _) ?aS ?aL ?_;(case aP=>exact ⟨fun k_=>some k_ = (.slice Ao46 t257.length co46:Value).ownBlock,_,_,rfl,Kd.R_mono (Kd.R_tight rfl HO259.out) (fun _ h_=>⟨Or.inl h_,h_⟩),Kd.R_mono (Kd.R_tight2 rfl HO271.out) (fun _ h_=>⟨Or.inr h_.1,h_.2.2⟩)⟩);(case aF=>exact (fun _ _=>trivial));(case aO=>exact Yk);(case aS=>exact (keep_size (w:=w) (g:=g) (row:=none) Yb));(case aL=>have:=LMc25.out;omega);intro v277 w47 ho hb hg hat;rw [← Ny276.out] at ho;have n0_:=Aside0.mk (IsS89.grown Yh hg (IsS89.own_neS HI0.out HO_3.out (by decide)));have n1_:=Aside0.mk (below_weaken Yf HL.out hb);have n2_:=Aside0.mk (KeepBut.trans Yb (KeepBut.of_grown hg g) (Kd.S_base2 HO_3.out));have n3_:=Aside0.mk (ho);clear HI0;clear HB;clear HK;clear HO_3;clear HO259;clear HO271;have HI0:=n0_;have HB:=n1_;have HK:=n2_;have HO278:=n3_;clear n0_ n1_ n2_ n3_;clear ho hb hg hat)|((with_reducible refine gate_callee (f:=98) rfl ?_);refine goesL_ (some 44) rfl rfl Try.func98 (by kernel_rfl) rfl #[.pointer (some ⟨g,0,none⟩)] rfl Ya ?_;(with_reducible refine (impl_parser_next.calls g s0_0 t272 t273 t274 false t279 t280 t281 t282 t283 w0 _ ?side1 ?side2 A26.out).mono ?_);(case side1=>repeat (first|(with_reducible first|exact HI0.out|apply IsS89.alloc|apply IsS89.drewN|apply IsS89.drew|apply IsS89.set_1|apply IsS89.set_2|apply IsS89.set_3|apply IsS89.set_4)|exact HI0.out));(case side2=>repeat (first|(with_reducible first|exact HB.out|apply below_alloc|apply pw_below_drewN|apply below_drew1|refine below_set ?_ (IsS89.ge HI0.out))|exact HB.out));rintro e w48 ⟨rfl,hi,hb,hk⟩;refine ⟨_,rfl,?_⟩;replace HO278:=Aside0.mk (Kd.S_mono (Kd.S_keep (IsS89.apartS (show IsS89 w0 _ g s0_0 t272 t273 t274 false from by repeat (first|(with_reducible first|exact HI0.out|apply IsS89.alloc|apply IsS89.drewN|apply IsS89.drew|apply IsS89.set_1|apply IsS89.set_2|apply IsS89.set_3|apply IsS89.set_4)|exact HI0.out)) (rS HO278) (by decide)) hk (fun _ h=>h.2)) (fun _ h=>h.1));replace HK:=Aside0.mk (KeepBut.trans Yb hk (.inl rfl));replace HB:=Aside0.mk (hb);replace HI0:=Aside0.mk (hi);(try clear hb);(try clear hb2);(try clear hk);(try clear hi)))
         go_ret
         exact ⟨_,by first|rfl|(simp [errW_none,errW_some] <;> rfl)|(simp [*,errW_none,errW_some] <;> rfl),rS HO278,by repeat (first|(with_reducible first|exact HI0.out|apply IsS89.alloc|apply IsS89.drewN|apply IsS89.drew|apply IsS89.set_1|apply IsS89.set_2|apply IsS89.set_3|apply IsS89.set_4)|exact HI0.out),by repeat (first|(with_reducible first|exact HB.out|apply below_alloc|apply pw_below_drewN|apply below_drew1|refine below_set ?_ (IsS89.ge HI0.out))|exact HB.out),by repeat (first|(with_reducible first|exact HK.out|apply KeepBut.set_|apply keep_drewN|apply keep_drew|apply keep_alloc)|exact HK.out)⟩
       ·rw [if_neg c25] at H
        exact absurd H (by simp)

/-! ### impl_parser_done: function 66, by a walk of this session's own -/
def impl_parser_done.f (s0_0:List Int) (s1:ByteArray) (s2 s3:Int) (s4:Bool):Option (Bool × ByteArray × Int × Int × Bool):=if s4 = true then some (false,s1,s2,s3,true) else some (!decide (s2 < (s1.size:Int)),s1,s2,s3,decide (s2 < (s1.size:Int)))
set_option maxHeartbeats 8000000 in
set_option maxRecDepth 100000 in
theorem impl_parser_done.calls (g:Nat) (s0_0:List Int) (s1:ByteArray) (s2 s3:Int) (s4:Bool) (r1:Bool) (r2:ByteArray) (r3:Int) (r4:Int) (r5:Bool) (w0 w:World) (hI:IsS89 w0 w g s0_0 s1 s2 s3 s4) (hB:Below w0.heap.size w0 w) (h:impl_parser_done.f s0_0 s1 s2 s3 s4 = some (r1,r2,r3,r4,r5)) :
    Calls Try.prog 66 #[.pointer (some ⟨g,0,none⟩)] w fun e w'=>e = .returned (.bool r1) ∧ IsS89 w0 w' g s0_0 r2 r3 r4 r5 ∧ Below w0.heap.size w0 w' ∧ KeepBut w w' g none:=by
  have HI:=Aside0.mk hI
  have HK:=Aside0.mk (KeepBut.refl w g none)
  have HB:=Aside0.mk hB
  unfold impl_parser_done.f at h
  clear hI hB
  cases s4 with
  | true =>
    rw [if_pos rfl] at h
    simp only [Option.some.injEq,Prod.mk.injEq] at h
    obtain ⟨rfl,rfl,rfl,rfl,rfl⟩:=h
    obtain ⟨AS,cS,HG,hg,HS⟩:=HI.out
    have h4:w.cell? ⟨g,4,none⟩ = some (.bool true):=(blk_cell HG 4).trans rfl
    have h2:w.cell? ⟨g,2,none⟩ = some (.int .i64 s2):=(blk_cell HG 2).trans rfl
    have h1:w.cell? ⟨g,1,none⟩ = some (.string s1):=(blk_cell HG 1).trans rfl
    have hf:=blk_frozen HG 4
    clear HG hg HS
    have HF:=Aside0.mk hf
    clear hf
    go_enter Try.func66,Try.ntmps66
    go_wp2
    refine start_ (n:=20) (S:=fun w'=>w'.cell? ⟨g,4,none⟩ = some (.bool true) ∧ w'.cell? ⟨g,2,none⟩ = some (.int .i64 s2) ∧ w'.cell? ⟨g,1,none⟩ = some (.string s1)) (ds:=[19]) #[false,false,false,false,false,false,false,false,false,false,false,false,false,false,false,false,false,false,false,false] (by kernel_rfl) rfl rfl ⟨h4,h2,h1⟩ (fun hHeld=>?_)
    replace HI:=Aside0.mk (IsS89.drew HI.out)
    replace HB:=Aside0.mk (below_drew1 HB.out)
    replace HK:=Aside0.mk (keep_drew HK.out)
    replace HF:=Aside0.mk (show w.drew.frozen? ⟨g,4,none⟩ = false from HF.out)
    clear h4 h2 h1
    generalize w.drew = W1 at HI HB HK HF hHeld ⊢
    refine pure_ (i:=0) (N:=(some 3)) (v:=?_) (a':=?_) #[true,false,false,false,false,false,false,false,false,false,false,false,false,false,false,false,false,false,false,false] rfl rfl (by kernel_rfl) (fun _ _ _ h=>h) (Or.inl ⟨by rfl,?_⟩) ?_ ?_
    rotate_left
    · intro w'
      go_simp
      with_reducible rfl
    rotate_left
    · simp only [Act.put,List.setIfInBounds_toArray,List.set_cons_zero,List.set_cons_succ,i64_w,i32_w]
      rfl
    refine pure_ (i:=1) (N:=(some 4)) (v:=?_) (a':=?_) #[true,true,false,false,false,false,false,false,false,false,false,false,false,false,false,false,false,false,false,false] rfl rfl (by kernel_rfl) (fun _ _ _ h=>h) (Or.inl ⟨by rfl,?_⟩) ?_ ?_
    rotate_left
    · intro w'
      go_simp
      with_reducible rfl
    rotate_left
    · simp only [Act.put,List.setIfInBounds_toArray,List.set_cons_zero,List.set_cons_succ,i64_w,i32_w]
      rfl
    refine pure_ (i:=2) (N:=(some 5)) (v:=?_) (a':=?_) #[true,true,true,false,false,false,false,false,false,false,false,false,false,false,false,false,false,false,false,false] rfl rfl (by kernel_rfl) (fun _ _ _ h=>h) (Or.inl ⟨by rfl,?_⟩) ?_ ?_
    rotate_left
    · intro w'
      go_simp
      with_reducible rfl
    rotate_left
    · simp only [Act.put,List.setIfInBounds_toArray,List.set_cons_zero,List.set_cons_succ,i64_w,i32_w]
      rfl
    refine pure_ (i:=3) (N:=(some 6)) (v:=?_) (a':=?_) #[true,true,true,true,false,false,false,false,false,false,false,false,false,false,false,false,false,false,false,false] rfl rfl (by kernel_rfl) (fun _ _ _ h=>h) (Or.inl ⟨by rfl,?_⟩) ?_ ?_
    rotate_left
    · intro w'
      go_simp
      with_reducible rfl
    rotate_left
    · simp only [Act.put,List.setIfInBounds_toArray,List.set_cons_zero,List.set_cons_succ,i64_w,i32_w]
      rfl
    refine take_ (i:=4) (N:=(some 7)) (v:=?_) (a':=?_) #[true,true,true,true,true,false,false,false,false,false,false,false,false,false,false,false,false,false,false,false] rfl rfl (by kernel_rfl) (fun _ _ _ h=>h) (Or.inl ⟨by rfl,?_⟩) hHeld ?_ ?_
    rotate_left
    · intro w' ⟨s0,s1,s2⟩
      go_simp
      with_reducible rfl
    rotate_left
    · simp only [Act.put,List.setIfInBounds_toArray,List.set_cons_zero,List.set_cons_succ,i64_w,i32_w]
      rfl
    refine pure_ (i:=5) (N:=(some 8)) (v:=?_) (a':=?_) #[true,true,true,true,true,true,false,false,false,false,false,false,false,false,false,false,false,false,false,false] rfl rfl (by kernel_rfl) (fun _ _ _ h=>h) (Or.inl ⟨by rfl,?_⟩) ?_ ?_
    rotate_left
    · intro w'
      go_simp
      with_reducible rfl
    rotate_left
    · simp only [Act.put,List.setIfInBounds_toArray,List.set_cons_zero,List.set_cons_succ,i64_w,i32_w]
      rfl
    refine pure_ (i:=6) (N:=(some 9)) (v:=undef) (a':=?_) #[true,true,true,true,true,true,true,false,false,false,false,false,false,false,false,false,false,false,false,false] rfl rfl (by kernel_rfl) (fun _ _ _ h=>h) (Or.inr ⟨by rfl,rfl⟩) ?_ ?_
    rotate_left
    · simp only [Act.put,List.setIfInBounds_toArray,List.set_cons_zero,List.set_cons_succ,i64_w,i32_w]
      rfl
    refine pure_ (i:=7) (N:=(some 10)) (v:=undef) (a':=?_) #[true,true,true,true,true,true,true,true,false,false,false,false,false,false,false,false,false,false,false,false] rfl rfl (by kernel_rfl) (fun _ _ _ h=>h) (Or.inr ⟨by rfl,rfl⟩) ?_ ?_
    rotate_left
    · simp only [Act.put,List.setIfInBounds_toArray,List.set_cons_zero,List.set_cons_succ,i64_w,i32_w]
      rfl
    refine pure_ (i:=8) (N:=(some 11)) (v:=undef) (a':=?_) #[true,true,true,true,true,true,true,true,true,false,false,false,false,false,false,false,false,false,false,false] rfl rfl (by kernel_rfl) (fun _ _ _ h=>h) (Or.inr ⟨by rfl,rfl⟩) ?_ ?_
    rotate_left
    · simp only [Act.put,List.setIfInBounds_toArray,List.set_cons_zero,List.set_cons_succ,i64_w,i32_w]
      rfl
    refine pure_ (i:=9) (N:=(some 12)) (v:=undef) (a':=?_) #[true,true,true,true,true,true,true,true,true,true,false,false,false,false,false,false,false,false,false,false] rfl rfl (by kernel_rfl) (fun _ _ _ h=>h) (Or.inr ⟨by rfl,rfl⟩) ?_ ?_
    rotate_left
    · simp only [Act.put,List.setIfInBounds_toArray,List.set_cons_zero,List.set_cons_succ,i64_w,i32_w]
      rfl
    refine pure_ (i:=10) (N:=(some 13)) (v:=undef) (a':=?_) #[true,true,true,true,true,true,true,true,true,true,true,false,false,false,false,false,false,false,false,false] rfl rfl (by kernel_rfl) (fun _ _ _ h=>h) (Or.inr ⟨by rfl,rfl⟩) ?_ ?_
    rotate_left
    · simp only [Act.put,List.setIfInBounds_toArray,List.set_cons_zero,List.set_cons_succ,i64_w,i32_w]
      rfl
    refine pure_ (i:=11) (N:=(some 14)) (v:=undef) (a':=?_) #[true,true,true,true,true,true,true,true,true,true,true,true,false,false,false,false,false,false,false,false] rfl rfl (by kernel_rfl) (fun _ _ _ h=>h) (Or.inr ⟨by rfl,rfl⟩) ?_ ?_
    rotate_left
    · simp only [Act.put,List.setIfInBounds_toArray,List.set_cons_zero,List.set_cons_succ,i64_w,i32_w]
      rfl
    refine pure_ (i:=12) (N:=(some 15)) (v:=undef) (a':=?_) #[true,true,true,true,true,true,true,true,true,true,true,true,true,false,false,false,false,false,false,false] rfl rfl (by kernel_rfl) (fun _ _ _ h=>h) (Or.inr ⟨by rfl,rfl⟩) ?_ ?_
    rotate_left
    · simp only [Act.put,List.setIfInBounds_toArray,List.set_cons_zero,List.set_cons_succ,i64_w,i32_w]
      rfl
    refine pure_ (i:=13) (N:=(some 16)) (v:=undef) (a':=?_) #[true,true,true,true,true,true,true,true,true,true,true,true,true,true,false,false,false,false,false,false] rfl rfl (by kernel_rfl) (fun _ _ _ h=>h) (Or.inr ⟨by rfl,rfl⟩) ?_ ?_
    rotate_left
    · simp only [Act.put,List.setIfInBounds_toArray,List.set_cons_zero,List.set_cons_succ,i64_w,i32_w]
      rfl
    refine pure_ (i:=14) (N:=(some 17)) (v:=undef) (a':=?_) #[true,true,true,true,true,true,true,true,true,true,true,true,true,true,true,false,false,false,false,false] rfl rfl (by kernel_rfl) (fun _ _ _ h=>h) (Or.inr ⟨by rfl,rfl⟩) ?_ ?_
    rotate_left
    · simp only [Act.put,List.setIfInBounds_toArray,List.set_cons_zero,List.set_cons_succ,i64_w,i32_w]
      rfl
    refine pure_ (i:=15) (N:=(some 18)) (v:=undef) (a':=?_) #[true,true,true,true,true,true,true,true,true,true,true,true,true,true,true,true,false,false,false,false] rfl rfl (by kernel_rfl) (fun _ _ _ h=>h) (Or.inr ⟨by rfl,rfl⟩) ?_ ?_
    rotate_left
    · simp only [Act.put,List.setIfInBounds_toArray,List.set_cons_zero,List.set_cons_succ,i64_w,i32_w]
      rfl
    refine pure_ (i:=16) (N:=(some 19)) (v:=?_) (a':=?_) #[true,true,true,true,true,true,true,true,true,true,true,true,true,true,true,true,true,false,false,false] rfl rfl (by kernel_rfl) (fun _ _ _ h=>h) (Or.inl ⟨by rfl,?_⟩) ?_ ?_
    rotate_left
    · intro w'
      go_simp
      with_reducible rfl
    rotate_left
    · simp only [Act.put,List.setIfInBounds_toArray,List.set_cons_zero,List.set_cons_succ,i64_w,i32_w]
      rfl
    refine pure_ (i:=17) (N:=(some 20)) (v:=?_) (a':=?_) #[true,true,true,true,true,true,true,true,true,true,true,true,true,true,true,true,true,true,false,false] rfl rfl (by kernel_rfl) (fun _ _ _ h=>h) (Or.inl ⟨by rfl,?_⟩) ?_ ?_
    rotate_left
    · intro w'
      go_simp
      with_reducible rfl
    rotate_left
    · simp only [Act.put,List.setIfInBounds_toArray,List.set_cons_zero,List.set_cons_succ,i64_w,i32_w]
      rfl
    refine pure_ (i:=18) (N:=(some 21)) (v:=?_) (a':=?_) #[true,true,true,true,true,true,true,true,true,true,true,true,true,true,true,true,true,true,true,false] rfl rfl (by kernel_rfl) (fun _ _ _ h=>h) (Or.inl ⟨by rfl,?_⟩) ?_ ?_
    rotate_left
    · intro w'
      go_simp
      with_reducible rfl
    rotate_left
    · simp only [Act.put,List.setIfInBounds_toArray,List.set_cons_zero,List.set_cons_succ,i64_w,i32_w]
      rfl
    refine last_ (i:=19) (N:=none) #[true,true,true,true,true,true,true,true,true,true,true,true,true,true,true,true,true,true,true,true] rfl rfl (by kernel_rfl) (by decide) (fun K hK=>?_)
    have h4:=hHeld.1
    have hf:=HF.out
    refine skip_ (w1:=?_) (by rfl) rfl ?_ ?_
    rotate_left
    · go_simp
      rfl
    clear h4 hf hHeld HF
    replace HB:=Aside0.mk (below_set (v:=.bool (true)) (j:=4) HB.out (IsS89.ge HI.out))
    replace HK:=Aside0.mk (KeepBut.set_ HK.out 4 (.bool (true)))
    replace HI:=Aside0.mk (IsS89.set_4 HI.out (true))
    generalize W1.setCell ⟨g,4,none⟩ (.bool (true)) = W2 at HI HB HK ⊢
    refine hK.out _ _ ?_
    clear hK K
    refine done_ (by kernel_rfl) ?_
    obtain ⟨AS,cS,HG,hg,HS⟩:=HI.out
    have h4:W2.cell? ⟨g,4,none⟩ = some (.bool (true)):=(blk_cell HG 4).trans rfl
    clear HG hg HS
    go_wp2
    go_ret
    exact ⟨rfl,HI.out,HB.out,HK.out⟩
  | false =>
    rw [if_neg (by decide)] at h
    simp only [Option.some.injEq,Prod.mk.injEq] at h
    obtain ⟨rfl,rfl,rfl,rfl,rfl⟩:=h
    obtain ⟨AS,cS,HG,hg,HS⟩:=HI.out
    have h4:w.cell? ⟨g,4,none⟩ = some (.bool false):=(blk_cell HG 4).trans rfl
    have h2:w.cell? ⟨g,2,none⟩ = some (.int .i64 s2):=(blk_cell HG 2).trans rfl
    have h1:w.cell? ⟨g,1,none⟩ = some (.string s1):=(blk_cell HG 1).trans rfl
    have hf:=blk_frozen HG 4
    clear HG hg HS
    have HF:=Aside0.mk hf
    clear hf
    go_enter Try.func66,Try.ntmps66
    go_wp2
    refine start_ (n:=20) (S:=fun w'=>w'.cell? ⟨g,4,none⟩ = some (.bool false) ∧ w'.cell? ⟨g,2,none⟩ = some (.int .i64 s2) ∧ w'.cell? ⟨g,1,none⟩ = some (.string s1)) (ds:=[19]) #[false,false,false,false,false,false,false,false,false,false,false,false,false,false,false,false,false,false,false,false] (by kernel_rfl) rfl rfl ⟨h4,h2,h1⟩ (fun hHeld=>?_)
    replace HI:=Aside0.mk (IsS89.drew HI.out)
    replace HB:=Aside0.mk (below_drew1 HB.out)
    replace HK:=Aside0.mk (keep_drew HK.out)
    replace HF:=Aside0.mk (show w.drew.frozen? ⟨g,4,none⟩ = false from HF.out)
    clear h4 h2 h1
    generalize w.drew = W1 at HI HB HK HF hHeld ⊢
    refine pure_ (i:=0) (N:=(some 3)) (v:=?_) (a':=?_) #[true,false,false,false,false,false,false,false,false,false,false,false,false,false,false,false,false,false,false,false] rfl rfl (by kernel_rfl) (fun _ _ _ h=>h) (Or.inl ⟨by rfl,?_⟩) ?_ ?_
    rotate_left
    · intro w'
      go_simp
      with_reducible rfl
    rotate_left
    · simp only [Act.put,List.setIfInBounds_toArray,List.set_cons_zero,List.set_cons_succ,i64_w,i32_w]
      rfl
    refine pure_ (i:=1) (N:=(some 4)) (v:=?_) (a':=?_) #[true,true,false,false,false,false,false,false,false,false,false,false,false,false,false,false,false,false,false,false] rfl rfl (by kernel_rfl) (fun _ _ _ h=>h) (Or.inl ⟨by rfl,?_⟩) ?_ ?_
    rotate_left
    · intro w'
      go_simp
      with_reducible rfl
    rotate_left
    · simp only [Act.put,List.setIfInBounds_toArray,List.set_cons_zero,List.set_cons_succ,i64_w,i32_w]
      rfl
    refine pure_ (i:=2) (N:=(some 5)) (v:=?_) (a':=?_) #[true,true,true,false,false,false,false,false,false,false,false,false,false,false,false,false,false,false,false,false] rfl rfl (by kernel_rfl) (fun _ _ _ h=>h) (Or.inl ⟨by rfl,?_⟩) ?_ ?_
    rotate_left
    · intro w'
      go_simp
      with_reducible rfl
    rotate_left
    · simp only [Act.put,List.setIfInBounds_toArray,List.set_cons_zero,List.set_cons_succ,i64_w,i32_w]
      rfl
    refine pure_ (i:=3) (N:=(some 6)) (v:=?_) (a':=?_) #[true,true,true,true,false,false,false,false,false,false,false,false,false,false,false,false,false,false,false,false] rfl rfl (by kernel_rfl) (fun _ _ _ h=>h) (Or.inl ⟨by rfl,?_⟩) ?_ ?_
    rotate_left
    · intro w'
      go_simp
      with_reducible rfl
    rotate_left
    · simp only [Act.put,List.setIfInBounds_toArray,List.set_cons_zero,List.set_cons_succ,i64_w,i32_w]
      rfl
    refine take_ (i:=4) (N:=(some 7)) (v:=?_) (a':=?_) #[true,true,true,true,true,false,false,false,false,false,false,false,false,false,false,false,false,false,false,false] rfl rfl (by kernel_rfl) (fun _ _ _ h=>h) (Or.inl ⟨by rfl,?_⟩) hHeld ?_ ?_
    rotate_left
    · intro w' ⟨s0,s1,s2⟩
      go_simp
      with_reducible rfl
    rotate_left
    · simp only [Act.put,List.setIfInBounds_toArray,List.set_cons_zero,List.set_cons_succ,i64_w,i32_w]
      rfl
    refine pure_ (i:=5) (N:=(some 8)) (v:=?_) (a':=?_) #[true,true,true,true,true,true,false,false,false,false,false,false,false,false,false,false,false,false,false,false] rfl rfl (by kernel_rfl) (fun _ _ _ h=>h) (Or.inl ⟨by rfl,?_⟩) ?_ ?_
    rotate_left
    · intro w'
      go_simp
      with_reducible rfl
    rotate_left
    · simp only [Act.put,List.setIfInBounds_toArray,List.set_cons_zero,List.set_cons_succ,i64_w,i32_w]
      rfl
    refine pure_ (i:=6) (N:=(some 9)) (v:=?_) (a':=?_) #[true,true,true,true,true,true,true,false,false,false,false,false,false,false,false,false,false,false,false,false] rfl rfl (by kernel_rfl) (fun _ _ _ h=>h) (Or.inl ⟨by rfl,?_⟩) ?_ ?_
    rotate_left
    · intro w'
      go_simp
      with_reducible rfl
    rotate_left
    · simp only [Act.put,List.setIfInBounds_toArray,List.set_cons_zero,List.set_cons_succ,i64_w,i32_w]
      rfl
    refine pure_ (i:=7) (N:=(some 10)) (v:=?_) (a':=?_) #[true,true,true,true,true,true,true,true,false,false,false,false,false,false,false,false,false,false,false,false] rfl rfl (by kernel_rfl) (fun _ _ _ h=>h) (Or.inl ⟨by rfl,?_⟩) ?_ ?_
    rotate_left
    · intro w'
      go_simp
      with_reducible rfl
    rotate_left
    · simp only [Act.put,List.setIfInBounds_toArray,List.set_cons_zero,List.set_cons_succ,i64_w,i32_w]
      rfl
    refine pure_ (i:=8) (N:=(some 11)) (v:=?_) (a':=?_) #[true,true,true,true,true,true,true,true,true,false,false,false,false,false,false,false,false,false,false,false] rfl rfl (by kernel_rfl) (fun _ _ _ h=>h) (Or.inl ⟨by rfl,?_⟩) ?_ ?_
    rotate_left
    · intro w'
      go_simp
      with_reducible rfl
    rotate_left
    · simp only [Act.put,List.setIfInBounds_toArray,List.set_cons_zero,List.set_cons_succ,i64_w,i32_w]
      rfl
    refine take_ (i:=9) (N:=(some 12)) (v:=?_) (a':=?_) #[true,true,true,true,true,true,true,true,true,true,false,false,false,false,false,false,false,false,false,false] rfl rfl (by kernel_rfl) (fun _ _ _ h=>h) (Or.inl ⟨by rfl,?_⟩) hHeld ?_ ?_
    rotate_left
    · intro w' ⟨s0,s1,s2⟩
      go_simp
      with_reducible rfl
    rotate_left
    · simp only [Act.put,List.setIfInBounds_toArray,List.set_cons_zero,List.set_cons_succ,i64_w,i32_w]
      rfl
    refine pure_ (i:=10) (N:=(some 13)) (v:=?_) (a':=?_) #[true,true,true,true,true,true,true,true,true,true,true,false,false,false,false,false,false,false,false,false] rfl rfl (by kernel_rfl) (fun _ _ _ h=>h) (Or.inl ⟨by rfl,?_⟩) ?_ ?_
    rotate_left
    · intro w'
      go_simp
      with_reducible rfl
    rotate_left
    · simp only [Act.put,List.setIfInBounds_toArray,List.set_cons_zero,List.set_cons_succ,i64_w,i32_w]
      rfl
    refine pure_ (i:=11) (N:=(some 14)) (v:=?_) (a':=?_) #[true,true,true,true,true,true,true,true,true,true,true,true,false,false,false,false,false,false,false,false] rfl rfl (by kernel_rfl) (fun _ _ _ h=>h) (Or.inl ⟨by rfl,?_⟩) ?_ ?_
    rotate_left
    · intro w'
      go_simp
      with_reducible rfl
    rotate_left
    · simp only [Act.put,List.setIfInBounds_toArray,List.set_cons_zero,List.set_cons_succ,i64_w,i32_w]
      rfl
    refine pure_ (i:=12) (N:=(some 15)) (v:=?_) (a':=?_) #[true,true,true,true,true,true,true,true,true,true,true,true,true,false,false,false,false,false,false,false] rfl rfl (by kernel_rfl) (fun _ _ _ h=>h) (Or.inl ⟨by rfl,?_⟩) ?_ ?_
    rotate_left
    · intro w'
      go_simp
      with_reducible rfl
    rotate_left
    · simp only [Act.put,List.setIfInBounds_toArray,List.set_cons_zero,List.set_cons_succ,i64_w,i32_w]
      rfl
    refine take_ (i:=13) (N:=(some 16)) (v:=?_) (a':=?_) #[true,true,true,true,true,true,true,true,true,true,true,true,true,true,false,false,false,false,false,false] rfl rfl (by kernel_rfl) (fun _ _ _ h=>h) (Or.inl ⟨by rfl,?_⟩) hHeld ?_ ?_
    rotate_left
    · intro w' ⟨s0,s1,s2⟩
      go_simp
      with_reducible rfl
    rotate_left
    · simp only [Act.put,List.setIfInBounds_toArray,List.set_cons_zero,List.set_cons_succ,i64_w,i32_w]
      rfl
    refine pure_ (i:=14) (N:=(some 17)) (v:=?_) (a':=?_) #[true,true,true,true,true,true,true,true,true,true,true,true,true,true,true,false,false,false,false,false] rfl rfl (by kernel_rfl) (fun _ _ _ h=>h) (Or.inl ⟨by rfl,?_⟩) ?_ ?_
    rotate_left
    · intro w'
      go_simp
      with_reducible rfl
    rotate_left
    · simp only [Act.put,List.setIfInBounds_toArray,List.set_cons_zero,List.set_cons_succ,i64_w,i32_w]
      rfl
    refine pure_ (i:=15) (N:=(some 18)) (v:=?_) (a':=?_) #[true,true,true,true,true,true,true,true,true,true,true,true,true,true,true,true,false,false,false,false] rfl rfl (by kernel_rfl) (fun _ _ _ h=>h) (Or.inl ⟨by rfl,?_⟩) ?_ ?_
    rotate_left
    · intro w'
      go_simp
      with_reducible rfl
    rotate_left
    · simp only [Act.put,List.setIfInBounds_toArray,List.set_cons_zero,List.set_cons_succ,i64_w,i32_w]
      rfl
    refine pure_ (i:=16) (N:=(some 19)) (v:=?_) (a':=?_) #[true,true,true,true,true,true,true,true,true,true,true,true,true,true,true,true,true,false,false,false] rfl rfl (by kernel_rfl) (fun _ _ _ h=>h) (Or.inl ⟨by rfl,?_⟩) ?_ ?_
    rotate_left
    · intro w'
      go_simp
      with_reducible rfl
    rotate_left
    · simp only [Act.put,List.setIfInBounds_toArray,List.set_cons_zero,List.set_cons_succ,i64_w,i32_w]
      rfl
    refine pure_ (i:=17) (N:=(some 20)) (v:=?_) (a':=?_) #[true,true,true,true,true,true,true,true,true,true,true,true,true,true,true,true,true,true,false,false] rfl rfl (by kernel_rfl) (fun _ _ _ h=>h) (Or.inl ⟨by rfl,?_⟩) ?_ ?_
    rotate_left
    · intro w'
      go_simp
      with_reducible rfl
    rotate_left
    · simp only [Act.put,List.setIfInBounds_toArray,List.set_cons_zero,List.set_cons_succ,i64_w,i32_w]
      rfl
    refine pure_ (i:=18) (N:=(some 21)) (v:=?_) (a':=?_) #[true,true,true,true,true,true,true,true,true,true,true,true,true,true,true,true,true,true,true,false] rfl rfl (by kernel_rfl) (fun _ _ _ h=>h) (Or.inl ⟨by rfl,?_⟩) ?_ ?_
    rotate_left
    · intro w'
      go_simp
      with_reducible rfl
    rotate_left
    · simp only [Act.put,List.setIfInBounds_toArray,List.set_cons_zero,List.set_cons_succ,i64_w,i32_w]
      rfl
    refine last_ (i:=19) (N:=none) #[true,true,true,true,true,true,true,true,true,true,true,true,true,true,true,true,true,true,true,true] rfl rfl (by kernel_rfl) (by decide) (fun K hK=>?_)
    have h4:=hHeld.1
    have hf:=HF.out
    refine skip_ (w1:=?_) (by rfl) rfl ?_ ?_
    rotate_left
    · go_simp
      rfl
    clear h4 hf hHeld HF
    replace HB:=Aside0.mk (below_set (v:=.bool (decide (s2 < (s1.size:Int)))) (j:=4) HB.out (IsS89.ge HI.out))
    replace HK:=Aside0.mk (KeepBut.set_ HK.out 4 (.bool (decide (s2 < (s1.size:Int)))))
    replace HI:=Aside0.mk (IsS89.set_4 HI.out (decide (s2 < (s1.size:Int))))
    generalize W1.setCell ⟨g,4,none⟩ (.bool (decide (s2 < (s1.size:Int)))) = W2 at HI HB HK ⊢
    refine hK.out _ _ ?_
    clear hK K
    refine done_ (by kernel_rfl) ?_
    obtain ⟨AS,cS,HG,hg,HS⟩:=HI.out
    have h4:W2.cell? ⟨g,4,none⟩ = some (.bool (decide (s2 < (s1.size:Int)))):=(blk_cell HG 4).trans rfl
    clear HG hg HS
    go_wp2
    go_ret
    exact ⟨rfl,HI.out,HB.out,HK.out⟩

/-! ### impl_Sign_args: function 108 -/
def impl_Sign_args.f (l0_0:List Int) (a1:Int):Option (Int):=if a1 < 0 then (some 0) else (if 0 ≤ a1 then (if a1 < (l0_0.length:Int) then (some (rd l0_0 a1)) else (none)) else (none))
set_option maxHeartbeats 8000000 in
set_option maxRecDepth 100000 in
theorem impl_Sign_args.calls (A0_0:Option Addr) (c0_0:Nat) (l0_0:List Int) (a1:Int) (r:Int) (w:World) (hr0_0:Kd.C (Kd.int .i64) w A0_0 l0_0.length l0_0) (hc0_0:l0_0.length ≤ c0_0) (h:impl_Sign_args.f l0_0 a1 = some r) :
  Calls Try.prog 108 #[.agg #[.slice A0_0 l0_0.length c0_0],.int .i64 a1] w fun e w'=>e = .returned (.int .i64 r) ∧ Below w.heap.size w w':=by
 have hu30:=Try.underlying30
 have HR0_0:=Aside0.mk hr0_0
 have HC0_0:=Aside0.mk hc0_0
 clear hr0_0 hc0_0
 have HB:=Aside0.mk (Below.refl w.heap.size w)
 have H:(if a1 < 0 then (some 0) else (if 0 ≤ a1 then (if a1 < (l0_0.length:Int) then (some (rd l0_0 a1)) else (none)) else (none))) = some r:=h
 clear h
 by_cases c3:a1 < 0
 ·rw [if_pos c3] at H
  have c3b0:=decide_eq_true c3
  clear c3
  obtain rfl:=Option.some.inj H
  go_enter Try.func108,Try.ntmps108
  go_wp2_with (first|((with_reducible refine gate_dst (N:=2) rfl ?_);refine box_event ?hg (N:=2) ?hd (cs:=#[.slice A0_0 l0_0.length c0_0]) (t:=30) ?hr ?_;(case hd=>rfl);(case hg=>rfl);(case hr=>first|(go_simp;done)|(go_simp;rfl));intro gb284 hg w4 hbox hb;have BK284:=Aside0.mk (hbox);have GW284:=Aside0.mk ((hZ:w.heap.size ≤ gb284));have GE284:=Aside0.mk ((hZ:w.heap.size ≤ gb284));replace HB:=Aside0.mk (below_step bH hb);clear hb hbox hg))
  go_ret
  exact ⟨by first|rfl|(simp [errW_none,errW_some] <;> rfl)|(simp [*,errW_none,errW_some] <;> rfl),bH⟩
 ·rw [if_neg c3] at H
  have c3b0:decide (a1 < 0) = false:=decide_eq_false c3
  clear c3
  by_cases c5:0 ≤ a1
  ·rw [if_pos c5] at H
   have c5b0:=decide_eq_true c5
   clear c5
   by_cases c6:a1 < (l0_0.length:Int)
   ·rw [if_pos c6] at H
    have c6b0:=decide_eq_true c6
    clear c6
    obtain rfl:=Option.some.inj H
    go_enter Try.func108,Try.ntmps108
    go_wp2_with (first|((with_reducible refine gate_dst (N:=2) rfl ?_);refine box_event ?hg (N:=2) ?hd (cs:=#[.slice A0_0 l0_0.length c0_0]) (t:=30) ?hr ?_;(case hd=>rfl);(case hg=>rfl);(case hr=>first|(go_simp;done)|(go_simp;rfl));intro gb284 hg w7 hbox hb;have BK284:=Aside0.mk (hbox);have GW284:=Aside0.mk ((hZ:w.heap.size ≤ gb284));have GE284:=Aside0.mk ((hZ:w.heap.size ≤ gb284));replace HB:=Aside0.mk (below_step bH hb);clear hb hbox hg;have hcz8_0:w7.cell? ⟨gb284,0,none⟩ = some (.slice A0_0 l0_0.length c0_0):=(blk_cell BK284.out 0).trans rfl;have hfz8_0:=blk_frozen BK284.out 0;have p285:0 ≤ (a1:Int):=oD;have q285:a1 < (l0_0.length:Int):=oD;obtain ⟨ad285,e285,hx285_0⟩:=Kd.at_int HR0_0.out a1 p285 q285;cases e285;replace hx285_0:=(HB.out.cell (World.block_lt_of_cell? w _ hx285_0)).trans hx285_0;replace p285:=eq_true p285;replace q285:=eq_true q285))
    go_ret
    exact ⟨by first|rfl|(simp [errW_none,errW_some] <;> rfl)|(simp [*,errW_none,errW_some] <;> rfl),bH⟩
   ·rw [if_neg c6] at H
    exact absurd H (by simp)
  ·rw [if_neg c5] at H
   exact absurd H (by simp)

/-! ### impl_Sign_isTerm: function 74 -/
def impl_Sign_isTerm.l0:Nat → Int → List Int → Int → Int → List Int → Option (Bool)
 | 0,_,_,_,_,_=>none
 | k + 1,x5,x11,x12,x13,x287000=>if x13 < x12 then (if 0 ≤ x13 then (if x13 < (x11.length:Int) then (if x5 = 0 then (some false) else (if (rd x11 x13) < (-12) then (some false) else (if (rd x11 x13) ≥ (x287000.length:Int) then (some false) else ((impl_Sign_args.f x287000 (rd x11 x13)).bind fun t288=>(impl_Sign_isTerm.l0 k (wrap64 (x5 + (wrap64 (t288 - 1)))) x11 x12 (wrap64 (x13 + 1)) x287000))))) else (none)) else (none)) else (some (x5 == 0))
def impl_Sign_isTerm.f (k:Nat) (l0_0:List Int) (l1:List Int):Option (Bool):=if (l1.length:Int) > 40 then (some false) else (impl_Sign_isTerm.l0 k 1 l1 (l1.length:Int) 0 l0_0)
theorem impl_Sign_isTerm.mono_l:∀ k,(∀ y0 y1 y2 y3 y4,LeO (impl_Sign_isTerm.l0 k y0 y1 y2 y3 y4) (impl_Sign_isTerm.l0 (k + 1) y0 y1 y2 y3 y4))
 | 0=>fun _ _ _ _ _ r h=>by simp [impl_Sign_isTerm.l0] at h
 | k + 1=>by
  have ih0:=impl_Sign_isTerm.mono_l k
  ·intro y0 y1 y2 y3 y4
   unfold impl_Sign_isTerm.l0
   exact mO
theorem impl_Sign_isTerm.mono:∀ a0 a1 k,LeO (impl_Sign_isTerm.f k a0 a1) (impl_Sign_isTerm.f (k + 1) a0 a1):=by
 intro a0 a1 k
 have ih0:=impl_Sign_isTerm.mono_l k
 unfold impl_Sign_isTerm.f
 exact mO
set_option maxHeartbeats 8000000 in
set_option maxRecDepth 100000 in
theorem impl_Sign_isTerm.calls (k:Nat) (A0_0:Option Addr) (c0_0:Nat) (l0_0:List Int) (A1:Option Addr) (c1:Nat) (l1:List Int) (r:Bool) (w:World) (hr0_0:Kd.C (Kd.int .i64) w A0_0 l0_0.length l0_0) (hc0_0:l0_0.length ≤ c0_0) (hr1:Kd.C (Kd.int .i64) w A1 l1.length l1) (hc1:l1.length ≤ c1) (h:impl_Sign_isTerm.f k l0_0 l1 = some r) :
  Calls Try.prog 74 #[.agg #[.slice A0_0 l0_0.length c0_0],.slice A1 l1.length c1] w fun e w'=>e = .returned (.bool r) ∧ Below w.heap.size w w':=by
 have hu30:=Try.underlying30
 have HR0_0:=Aside0.mk hr0_0
 have HC0_0:=Aside0.mk hc0_0
 clear hr0_0 hc0_0
 have HR1:=Aside0.mk hr1
 have HC1:=Aside0.mk hc1
 clear hr1 hc1
 have HB:=Aside0.mk (Below.refl w.heap.size w)
 have H:(if (l1.length:Int) > 40 then (some false) else (impl_Sign_isTerm.l0 k 1 l1 (l1.length:Int) 0 l0_0)) = some r:=h
 clear h
 by_cases c3:(l1.length:Int) > 40
 ·rw [if_pos c3] at H
  have c3b0:decide (40 < (l1.length:Int)) = true:=decide_eq_true c3
  have c3b1:decide (40 < l1.length) = true:=decide_eq_true (by omega)
  clear c3
  obtain rfl:=Option.some.inj H
  go_enter Try.func74,Try.ntmps74
  go_wp2_with (first|((with_reducible refine gate_dst (N:=2) rfl ?_);(try (refine gate_guard (by rfl) ?_;dsimp only));refine box_event ?hg (N:=2) ?hd (cs:=#[.slice A0_0 l0_0.length c0_0]) (t:=30) ?hr ?_;(case hd=>rfl);(case hg=>rfl);(case hr=>first|(go_simp;done)|(go_simp;rfl));intro gb286 hg w4 hbox hb;have BK286:=Aside0.mk (hbox);have GW286:=Aside0.mk ((hZ:w.heap.size ≤ gb286));have GE286:=Aside0.mk ((hZ:w.heap.size ≤ gb286));replace HB:=Aside0.mk (below_step bH hb);clear hb hbox hg))
  go_ret
  exact ⟨by first|rfl|(simp [errW_none,errW_some] <;> rfl)|(simp [*,errW_none,errW_some] <;> rfl),bH⟩
 ·rw [if_neg c3] at H
  have c3b0:decide (40 < (l1.length:Int)) = false:=decide_eq_false c3
  have c3b1:decide (40 < l1.length) = false:=decide_eq_false (by omega)
  clear c3
  have H':=Aside0.mk H
  clear H
  go_enter Try.func74,Try.ntmps74
  go_wp2_with (first|((with_reducible refine gate_dst (N:=2) rfl ?_);(try (refine gate_guard (by rfl) ?_;dsimp only));refine box_event ?hg (N:=2) ?hd (cs:=#[.slice A0_0 l0_0.length c0_0]) (t:=30) ?hr ?_;(case hd=>rfl);(case hg=>rfl);(case hr=>first|(go_simp;done)|(go_simp;rfl));intro gb286 hg w5 hbox hb;have BK286:=Aside0.mk (hbox);have GW286:=Aside0.mk ((hZ:w.heap.size ≤ gb286));have GE286:=Aside0.mk ((hZ:w.heap.size ≤ gb286));replace HB:=Aside0.mk (below_step bH hb);clear hb hbox hg))
  go_loopg [5,13] k (fun kq v5 v13 w'=>∃ (x5_1:Int) (x13_1:Int),v5 = .int .i64 x5_1 ∧ v13 = .int .i64 x13_1 ∧ Aside0 (impl_Sign_isTerm.l0 kq x5_1 l1 (l1.length:Int) x13_1 l0_0 = some r) ∧ Aside0 (kq ≤ k) ∧ Aside0 (w'.heap[gb286]? = some (.cells #[(.slice A0_0 l0_0.length c0_0)] 30 (0,0))) ∧ Aside0 (Below w.heap.size w w'))
  case atStart=>exact ⟨(1),(0),Yd,Yd,H',⟨Nat.le_refl _⟩,⟨by (with_reducible repeat (first|refine blk_drewN ?_ _|refine blk_drew ?_|refine blk_alloc ?_ _));exact BK286.out⟩,⟨bH⟩⟩
  case round =>
   clear H'
   try clear c1
   try clear p2
   try clear c3
   try clear c3b0
   try clear c3b1
   obtain ⟨x5_1,x13_1,rfl,rfl,HA,HK1,BK286,HB⟩:=hrel
   cases gk with
   | zero=>exact absurd HA.out (by simp [impl_Sign_isTerm.l0])
   | succ k1 =>
    have H:=HA.out
    clear HA
    simp only [impl_Sign_isTerm.l0] at H
    by_cases c6:x13_1 < (l1.length:Int)
    ·rw [if_pos c6] at H
     have c6b0:=decide_eq_true c6
     clear c6
     by_cases c7:0 ≤ x13_1
     ·rw [if_pos c7] at H
      have c7b0:=decide_eq_true c7
      clear c7
      by_cases c8:x13_1 < (l1.length:Int)
      ·rw [if_pos c8] at H
       have c8b0:=decide_eq_true c8
       clear c8
       by_cases c9:x5_1 = 0
       ·rw [if_pos c9] at H
        have c9b0:(x5_1 == 0) = true:=beq_iff_eq.mpr c9
        have c9b1:(x5_1 != 0) = false:=bne_eq_false_iff_eq.mpr c9
        clear c9
        obtain rfl:=Option.some.inj H
        have p287:0 ≤ (x13_1:Int):=oD
        have q287:x13_1 < (l1.length:Int):=oD
        obtain ⟨ad287,e287,hx287_0⟩:=Kd.at_int HR1.out x13_1 p287 q287
        cases e287
        replace hx287_0:=(HB.out.cell (World.block_lt_of_cell? w _ hx287_0)).trans hx287_0
        replace p287:=eq_true p287
        replace q287:=eq_true q287
        go_wp2
        go_ret
        exact ⟨by first|rfl|(simp [errW_none,errW_some] <;> rfl)|(simp [*,errW_none,errW_some] <;> rfl),bH⟩
       ·rw [if_neg c9] at H
        have c9b0:(x5_1 == 0) = false:=beq_eq_false_iff_ne.mpr c9
        have c9b1:(x5_1 != 0) = true:=bne_iff_ne.mpr c9
        by_cases c10:(rd l1 x13_1) < (-12)
        ·rw [if_pos c10] at H
         have c10b0:=decide_eq_true c10
         clear c10
         obtain rfl:=Option.some.inj H
         have p287:0 ≤ (x13_1:Int):=oD
         have q287:x13_1 < (l1.length:Int):=oD
         obtain ⟨ad287,e287,hx287_0⟩:=Kd.at_int HR1.out x13_1 p287 q287
         cases e287
         replace hx287_0:=(HB.out.cell (World.block_lt_of_cell? w _ hx287_0)).trans hx287_0
         replace p287:=eq_true p287
         replace q287:=eq_true q287
         go_wp2
         go_ret
         exact ⟨by first|rfl|(simp [errW_none,errW_some] <;> rfl)|(simp [*,errW_none,errW_some] <;> rfl),bH⟩
        ·rw [if_neg c10] at H
         have c10b0:decide ((rd l1 x13_1) < (-12)) = false:=decide_eq_false c10
         clear c10
         by_cases c11:(rd l1 x13_1) ≥ (l0_0.length:Int)
         ·rw [if_pos c11] at H
          have c11b0:decide ((l0_0.length:Int) ≤ (rd l1 x13_1)) = true:=decide_eq_true c11
          clear c11
          obtain rfl:=Option.some.inj H
          have p287:0 ≤ (x13_1:Int):=oD
          have q287:x13_1 < (l1.length:Int):=oD
          obtain ⟨ad287,e287,hx287_0⟩:=Kd.at_int HR1.out x13_1 p287 q287
          cases e287
          replace hx287_0:=(HB.out.cell (World.block_lt_of_cell? w _ hx287_0)).trans hx287_0
          replace p287:=eq_true p287
          replace q287:=eq_true q287
          have hcz12_0:wr.cell? ⟨gb286,0,none⟩ = some (.slice A0_0 l0_0.length c0_0):=(blk_cell BK286.out 0).trans rfl
          have hfz12_0:=blk_frozen BK286.out 0
          go_wp2
          go_ret
          exact ⟨by first|rfl|(simp [errW_none,errW_some] <;> rfl)|(simp [*,errW_none,errW_some] <;> rfl),bH⟩
         ·rw [if_neg c11] at H
          have c11b0:decide ((l0_0.length:Int) ≤ (rd l1 x13_1)) = false:=decide_eq_false c11
          clear c11
          replace H:=Option.bind_eq_some_iff.mp H
          obtain ⟨t288,A130,H⟩:=H
          replace H:(impl_Sign_isTerm.l0 k1 (wrap64 (x5_1 + (wrap64 (t288 - 1)))) l1 (l1.length:Int) (wrap64 (x13_1 + 1)) l0_0) = some r:=H
          have A13:=Aside0.mk A130
          clear A130
          have H':=Aside0.mk H
          clear H
          have p287:0 ≤ (x13_1:Int):=oD
          have q287:x13_1 < (l1.length:Int):=oD
          obtain ⟨ad287,e287,hx287_0⟩:=Kd.at_int HR1.out x13_1 p287 q287
          cases e287
          replace hx287_0:=(HB.out.cell (World.block_lt_of_cell? w _ hx287_0)).trans hx287_0
          replace p287:=eq_true p287
          replace q287:=eq_true q287
          have hcz14_0:wr.cell? ⟨gb286,0,none⟩ = some (.slice A0_0 l0_0.length c0_0):=(blk_cell BK286.out 0).trans rfl
          have hfz14_0:=blk_frozen BK286.out 0
          go_wp2_with (first|((with_reducible refine gate_callee (f:=108) rfl ?_);refine goesL_ (some 33) rfl rfl Try.func108 (by kernel_rfl) rfl #[.agg #[.slice A0_0 l0_0.length c0_0],.int .i64 (rd l1 x13_1)] rfl Ya ?_;(with_reducible refine (impl_Sign_args.calls _ _ l0_0 (rd l1 x13_1) t288 _ ?side1 ?side2 A13.out).mono ?_);(case side1=>exact sC HR0_0);(case side2=>exact HC0_0.out);rintro e w15 ⟨rfl,hb⟩;refine ⟨_,rfl,?_⟩;replace BK286:=Aside0.mk (blk_below (bB BK286) hb);replace HB:=Aside0.mk (below_step bH hb);(try clear hb);(try clear hb2);(try clear hk);(try clear hi)))
          go_roundg k1
          case measure=>have:=HK1.out;omega
          case rel=>exact ⟨(wrap64 (x5_1 + (wrap64 (t288 - 1)))),(wrap64 (x13_1 + 1)),Yd,Yd,H',⟨by have:=HK1.out;omega⟩,⟨by (with_reducible repeat (first|refine blk_drewN ?_ _|refine blk_drew ?_|refine blk_alloc ?_ _));exact BK286.out⟩,⟨bH⟩⟩
      ·rw [if_neg c8] at H
       exact absurd H (by simp)
     ·rw [if_neg c7] at H
      exact absurd H (by simp)
    ·rw [if_neg c6] at H
     have c6b0:decide (x13_1 < (l1.length:Int)) = false:=decide_eq_false c6
     clear c6
     obtain rfl:=Option.some.inj H
     go_wp2
     go_ret
     exact ⟨by first|rfl|(simp [errW_none,errW_some] <;> rfl)|(simp [*,errW_none,errW_some] <;> rfl),bH⟩

end Go.Proofs.Ytlgnanbnicmdaab.QFnExactReadClause
