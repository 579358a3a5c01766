-- Written by this session's own program (wip/x/xprint.py, over the kit's printer); Lean checks it.
import Derived.Test.YtlgnanbnicmdaaaQFnExactSubsumesx0
import Derived.Test.YtlgnanbnicmdaaaQFnExactSubsumesx2
import Derived.Test.YtlgnanbnicmdaaaQFnExactSubsumesx4
namespace Go.Proofs.Ytlgnanbnicmdaaa.QFnExactSubsumes
open Go.RowKit Go.Proofs.YtlgnanbnicmdaaaW.PrintWords Go.Proofs.YtlgnanbnicmdaaaW.PrintLast Go.Proofs.YtlgnanbnicmdaaaW.PrintMore
attribute [local go_sem] max2_int min2_int max_two min_two max_three min_three max_four min_four   -- for this text's walks alone
set_option linter.unusedVariables false
set_option linter.unusedSimpArgs false

/-! ### spec_l7Sub: function 69, by a walk of this session's own -/
/-! ### Rows of the call's own, told by where their blocks lie -/
def Iv (lo hi:Nat):Nat → Prop:=fun b=>lo ≤ b ∧ b < hi
theorem iv_of {α:Type} {d:Kd α} {e:Nat} {W W':World} {v:Value} {xs:List α} (B:Nat) (h:d.R e W' W.heap.size (fun _=>True) v xs) (hb:B ≤ W.heap.size):d.R e W' B (Iv W.heap.size W'.heap.size) v xs :=
  Kd.R_lower (Kd.R_mono (Kd.R_bound h) (fun _ hk=>⟨hk.2.1,hk.2.2.1⟩)) hb
theorem iv_step {α:Type} {d:Kd α} {e B lo hi:Nat} {W W':World} {v:Value} {xs:List α} {P:Nat → Prop} (h:d.R e W B (Iv lo hi) v xs) (hk:Kept W W' P) (hn:∀ b,lo ≤ b → b < hi → ¬ P b):d.R e W' B (Iv lo hi) v xs :=
  Kd.R_step h (fun k ho hlt=>hk.2 k hlt (hn k ho.1 ho.2))
theorem iv_below {α:Type} {d:Kd α} {e B lo hi:Nat} {W W':World} {v:Value} {xs:List α} (h:d.R e W B (Iv lo hi) v xs) (hb:Below W.heap.size W W'):d.R e W' B (Iv lo hi) v xs:=Kd.R_below h hb
def Bx (W:World) (g:Nat) (v:Value) (t:Nat):Prop:=W.heap[g]? = some (.cells #[v] t (0,0))
theorem Bx.lt {W:World} {g t:Nat} {v:Value} (h:Bx W g v t):g < W.heap.size:=(Array.getElem?_eq_some_iff.1 h).1
theorem Bx.below {W W':World} {g t:Nat} {v:Value} (h:Bx W g v t) (hb:Below W.heap.size W W'):Bx W' g v t:=(hb.block g h.lt).trans h
theorem Bx.step {W W':World} {g t:Nat} {v:Value} {P:Nat → Prop} (h:Bx W g v t) (hk:Kept W W' P) (hn:¬ P g):Bx W' g v t:=(hk.2 g h.lt hn).trans h
theorem Bx.cell {W:World} {g t:Nat} {v:Value} (h:Bx W g v t):W.cell? ⟨g,0,none⟩ = some v:=by
  unfold Bx at h
  simp [World.cell?,h]
/-- What is known of a sign's row made in a region that draws. -/
structure SgRow (W0 W:World) (A:Option Addr) (c:Nat) (l:List Int):Prop where
  bl:Below W0.heap.size W0 W
  rd:(Kd.int .i64).C W A l.length l
  le:l.length ≤ c
theorem SgRow.drewN {W0 W:World} {A:Option Addr} {c:Nat} {l:List Int} (h:SgRow W0 W A c l) (n:Nat):SgRow W0 (W.drewN n) A c l:=⟨pw_below_drewN h.bl n,Kd.C_drewN h.rd n,h.le⟩
theorem SgRow.drew {W0 W:World} {A:Option Addr} {c:Nat} {l:List Int} (h:SgRow W0 W A c l):SgRow W0 W.drew A c l:=h.drewN 1
theorem later {P Q:Prop} (main:P → Q) (h:P):Q:=main h
/-! ### A row of rows of whole numbers, of the call's own: its block g; the rows are only read -/
abbrev CI (w:World) (A:Option Addr) (l:List Int):Prop:=(Kd.int .i64).C w A l.length l
theorem ci_reads {w:World} {A:Option Addr} {l:List Int} (h:CI w A l):ReadsOf (Value.int .i64) (0:Int) w A l.length l:=Kd.reads_of_C h
theorem ci_of {w:World} {A:Option Addr} {l:List Int} (h:ReadsOf (Value.int .i64) (0:Int) w A l.length l):CI w A l:=Kd.C_of_reads (d:=(0:Int)) (h1:=fun _=>rfl) h
/-- A store over a cell that holds a slice. -/
theorem ci_set {w:World} {A:Option Addr} {l:List Int} (h:CI w A l) {p:Addr} {A':Option Addr} {n c:Nat} (hp:w.cell? p = some (.slice A' n c)) (u:Value):CI (w.setCell p u) A l:=by
  refine ci_of ⟨rfl,(ci_reads h).2.1,fun hn=>?_⟩
  obtain ⟨ad,e,hc⟩:=(ci_reads h).2.2 hn
  refine ⟨ad,e,fun j hj=>?_⟩
  rw [World.cell?_setCell_other _ _ _ _ (fun e=>by have:=hc j hj;rw [← e,hp] at this;cases this)]
  exact hc j hj
theorem ci_elem {w:World} {A:Option Addr} {l:List Int} (h:CI w A l) (j:Nat) (hj:j < l.length):∃ ad,A = some ad ∧ w.cell? (ad.add j) = some (.int .i64 (rd l (j:Int))):=by
  obtain ⟨ad,e,hc⟩:=(ci_reads h).2.2 (by omega)
  refine ⟨ad,e,?_⟩
  rw [hc j hj]
  unfold rd
  rw [Int.toNat_natCast]
structure Rows2 (w:World) (g:Nat) (xs:List (List Int)):Prop where
  blk:∃ cs:Array Value,w.heap[g]? = some (.cells cs 22 (0,0))
  rd:∀ j,j < xs.length → ∃ A c,w.cell? ⟨g,j,none⟩ = some (.slice A (xs.getD j []).length c) ∧ (xs.getD j []).length ≤ c ∧ CI w A (xs.getD j [])
theorem Rows2.lt {w:World} {g:Nat} {xs:List (List Int)} (h:Rows2 w g xs):g < w.heap.size:=(Array.getElem?_eq_some_iff.1 h.blk.choose_spec).1
theorem Rows2.below {w w':World} {g:Nat} {xs:List (List Int)} (h:Rows2 w g xs) (hb:Below w.heap.size w w'):Rows2 w' g xs:=by
  obtain ⟨⟨cs,hc⟩,hr⟩:=h
  have hlt:=(Array.getElem?_eq_some_iff.1 hc).1
  refine ⟨⟨cs,(hb.block g hlt).trans hc⟩,fun j hj=>?_⟩
  obtain ⟨A,c,h1,h2,h3⟩:=hr j hj
  exact ⟨A,c,(Below.cell hb hlt).trans h1,h2,Kd.C_below h3 hb⟩
theorem Rows2.frozen {w:World} {g:Nat} {xs:List (List Int)} (h:Rows2 w g xs) (j:Nat):w.frozen? ⟨g,j,none⟩ = false:=by
  obtain ⟨⟨cs,hc⟩,_⟩:=h
  exact blk_frozen hc j
theorem blk_setCell {w:World} {g:Nat} {cs:Array Value} {t:Nat} (hc:w.heap[g]? = some (.cells cs t (0,0))) (j:Nat) (u:Value):∃ cs',(w.setCell ⟨g,j,none⟩ u).heap[g]? = some (.cells cs' t (0,0)):=⟨_,blk_put hc j u rfl⟩
theorem Rows2.set {w:World} {g:Nat} {xs:List (List Int)} (h:Rows2 w g xs) (j:Nat) (hj:j < xs.length) {A:Option Addr} {c:Nat} {x:List Int} (hx:CI w A x) (hc:x.length ≤ c):Rows2 (w.setCell ⟨g,j,none⟩ (.slice A x.length c)) g (xs.set j x):=by
  have h0:=h
  obtain ⟨⟨cs,hcs⟩,hr⟩:=h
  obtain ⟨A0,c0,p0,_,_⟩:=hr j hj
  refine ⟨blk_setCell hcs j _,fun i hi=>?_⟩
  rw [List.length_set] at hi
  by_cases e:i = j
  · subst e
    refine ⟨A,c,?_,?_,?_⟩
    · rw [World.cell?_setCell_same _ _ _ p0]
      simp [List.getD_eq_getElem?_getD,hi]
    · simpa [List.getD_eq_getElem?_getD,hi] using hc
    · have:(xs.set i x).getD i [] = x:=by simp [List.getD_eq_getElem?_getD,hi]
      rw [this]
      exact ci_set hx p0 _
  · obtain ⟨A1,c1,p1,p2,p3⟩:=hr i hi
    have e2:(xs.set j x).getD i [] = xs.getD i []:=by rw [List.getD_eq_getElem?_getD,List.getD_eq_getElem?_getD,List.getElem?_set_ne (fun q=>e q.symm)]
    rw [e2]
    exact ⟨A1,c1,by rw [World.cell?_setCell_other _ _ _ _ (by intro q;cases q;exact e rfl)];exact p1,p2,ci_set p3 p0 _⟩
theorem Bx.set {W:World} {g t gb j:Nat} {v:Value} (h:Bx W g v t) {u u0:Value} (hne:g ≠ gb):Bx (W.setCell ⟨gb,j,none⟩ u) g v t:=by
  unfold Bx at h ⊢
  rw [Below.heap_setCell W ⟨gb,j,none⟩ u g hne]
  exact h
theorem ci_kd {w:World} {g:Nat} {xs:List (List Int)} (h:Rows2 w g xs) (hl:xs.length ≤ 1000000):Kd.C (Kd.slice 3 (Kd.int .i64)) w (some ⟨g,0,none⟩) xs.length xs:=by
  refine ⟨rfl,by omega,fun _=>⟨_,rfl,fun j p hj=>?_⟩⟩
  obtain ⟨hjl,hjp⟩:=List.getElem?_eq_some_iff.1 hj
  obtain ⟨A,c,h1,h2,h3⟩:=h.rd j hjl
  have e:xs.getD j [] = p:=by rw [List.getD_eq_getElem?_getD,hj];rfl
  rw [e] at h1 h2 h3
  refine ⟨[.slice A p.length c],rfl,⟨A,c,rfl,h2,h3⟩,fun i u hu=>?_⟩
  have:i = 0:=by
    have:=(List.getElem?_eq_some_iff.1 hu).1
    simp at this
    exact this
  subst this
  have hu':Value.slice A p.length c = u:=by simpa using hu
  subst hu'
  rw [add_plain]
  simpa [Kd.slice] using h1
/-- All rows of whole numbers read as they did. -/
def KI (w w':World):Prop:=∀ A l,CI w A l → CI w' A l
theorem KI.refl (w:World):KI w w:=fun _ _ h=>h
theorem KI.below {w w1 w2:World} (h:KI w w1) (hb:Below w1.heap.size w1 w2):KI w w2:=fun A l hc=>Kd.C_below (h A l hc) hb
theorem KI.set {w w1:World} (h:KI w w1) {p:Addr} {A':Option Addr} {n c:Nat} (hp:w1.cell? p = some (.slice A' n c)) (u:Value):KI w (w1.setCell p u):=fun A l hc=>ci_set (h A l hc) hp u
theorem Rows2.drew {w:World} {g:Nat} {xs:List (List Int)} (h:Rows2 w g xs):Rows2 w.drew g xs:=h.below (below_drew (Below.refl _ _))
theorem Try.rows_info:(Try.prog.info? 22).map (fun i=>(i.zero,i.size,i.bytes)) = some (some (.slice none 0 0),1,24):=by kernel_rfl
def mk12:Array Value:=madeCells (Value.slice none 0 0).cells (12 * 1)
theorem mk12_get (j:Nat) (hj:j < 12):mk12[j]? = some (.slice none 0 0):=by
  have e:mk12.toList = List.replicate 12 (.slice none 0 0):=toList_madeCells_one _ _
  rw [← Array.getElem?_toList,e,List.getElem?_replicate,if_pos hj]
theorem run_mk12 (w:World):(Instr.makeSlice 52 (.int .i64 12) (.int .i64 12)).run Try.prog w = .ok (.slice (some ⟨w.heap.size,0,none⟩) 12 12) (w.alloc (.cells mk12 22)):=by
  obtain ⟨i0,hi,hz0,hz1,hz2⟩:=info_parts Try.rows_info
  have:=run_make (P:=Try.prog) (w:=w) 52 22 i0 (.slice none 0 0) Try.underlying52 hi hz0 .i64 .i64 12 12 (by decide) (by decide) (by rw [hz2];decide) (by decide)
  rw [hz1] at this
  exact this
theorem rep_getD (n j:Nat):(List.replicate n ([]:List Int)).getD j [] = []:=by
  rw [List.getD_eq_getElem?_getD,List.getElem?_replicate]
  split <;> rfl
theorem rows2_new (w:World):Rows2 (w.alloc (.cells mk12 22)) w.heap.size (List.replicate 12 []):=by
  have h:=heap_alloc_new w (.cells mk12 22)
  refine ⟨⟨_,h⟩,fun j hj=>⟨none,0,?_,?_,?_⟩⟩
  · rw [List.length_replicate] at hj
    rw [rep_getD]
    unfold World.cell?
    rw [h]
    exact mk12_get j hj
  · rw [rep_getD]
    exact Nat.le_refl _
  · rw [rep_getD]
    exact ci_of ⟨rfl,by simp,fun h=>by simp at h⟩
/-! ### Rows of the call's own in a row of the call's own: no two of them in one block -/
structure RowsS (w:World) (base g cap:Nat) (f:Nat → Nat) (xs:List (List Int)):Prop where
  blk:∃ cs:Array Value,w.heap[g]? = some (.cells cs 22 (0,0)) ∧ cs.size = cap
  le:xs.length ≤ cap ∧ cap ≤ 9223372036854775807 ∧ base ≤ g
  rd:∀ j,j < xs.length → ∃ v,w.cell? ⟨g,j,none⟩ = some v ∧ (Kd.int .i64).R 3 w base (fun k=>f k = j ∧ k ≠ g) v (xs.getD j [])
def RowsX (w:World) (base g cap:Nat) (xs:List (List Int)):Prop:=∃ f,RowsS w base g cap f xs
theorem RowsS.lt {w:World} {base g cap:Nat} {f:Nat → Nat} {xs:List (List Int)} (h:RowsS w base g cap f xs):g < w.heap.size:=(Array.getElem?_eq_some_iff.1 h.blk.choose_spec.1).1
theorem RowsX.lt {w:World} {base g cap:Nat} {xs:List (List Int)} (h:RowsX w base g cap xs):g < w.heap.size:=h.choose_spec.lt
theorem RowsX.le {w:World} {base g cap:Nat} {xs:List (List Int)} (h:RowsX w base g cap xs):xs.length ≤ cap ∧ cap ≤ 9223372036854775807 ∧ base ≤ g:=h.choose_spec.le
theorem RowsX.two {w:World} {base g cap:Nat} {xs:List (List Int)} (h:RowsX w base g cap xs):Rows2 w g xs:=by
  obtain ⟨f,⟨cs,hc,_⟩,_,hr⟩:=h
  refine ⟨⟨cs,hc⟩,fun j hj=>?_⟩
  obtain ⟨v,h1,h2⟩:=hr j hj
  obtain ⟨A,c,rfl,h3,h4⟩:=Kd.R_reads h2
  exact ⟨A,c,h1,h3,h4⟩
theorem RowsX.rd {w:World} {base g cap:Nat} {xs:List (List Int)} (h:RowsX w base g cap xs):∀ j,j < xs.length → ∃ A c,w.cell? ⟨g,j,none⟩ = some (.slice A (xs.getD j []).length c) ∧ (xs.getD j []).length ≤ c ∧ CI w A (xs.getD j []):=h.two.rd
theorem RowsX.frozen {w:World} {base g cap:Nat} {xs:List (List Int)} (h:RowsX w base g cap xs) (j:Nat):w.frozen? ⟨g,j,none⟩ = false:=h.two.frozen j
theorem RowsX.lower {w:World} {base base' g cap:Nat} {xs:List (List Int)} (h:RowsX w base g cap xs) (hb:base' ≤ base):RowsX w base' g cap xs:=by
  obtain ⟨f,h1,h2,h3⟩:=h
  refine ⟨f,h1,⟨h2.1,h2.2.1,by omega⟩,fun j hj=>?_⟩
  obtain ⟨v,h4,h5⟩:=h3 j hj
  exact ⟨v,h4,Kd.R_lower h5 hb⟩
theorem RowsX.below {w w':World} {base g cap:Nat} {xs:List (List Int)} (h:RowsX w base g cap xs) (hb:Below w.heap.size w w'):RowsX w' base g cap xs:=by
  have hlt:=h.lt
  obtain ⟨f,⟨cs,hc,hs⟩,hl,hr⟩:=h
  refine ⟨f,⟨cs,(hb.block g hlt).trans hc,hs⟩,hl,fun j hj=>?_⟩
  obtain ⟨v,h1,h2⟩:=hr j hj
  exact ⟨v,(Below.cell hb hlt).trans h1,Kd.R_below h2 hb⟩
theorem RowsX.drew {w:World} {base g cap:Nat} {xs:List (List Int)} (h:RowsX w base g cap xs):RowsX w.drew base g cap xs:=h.below (below_drew (Below.refl _ _))
theorem setCell_cells {w:World} {g j:Nat} {cs:Array Value} {t:Nat} (hc:w.heap[g]? = some (.cells cs t (0,0))) (u:Value):∃ cs',(w.setCell ⟨g,j,none⟩ u).heap[g]? = some (.cells cs' t (0,0)) ∧ cs'.size = cs.size:=⟨cs.setIfInBounds j u,blk_put hc j u rfl,by simp⟩
/-- A row that was made behind all that is told of the others, stored at j. -/
theorem RowsX.set_new {w W:World} {base g cap:Nat} {xs:List (List Int)} (h:RowsX w base g cap xs) (hb:Below w.heap.size w W) {ok:Nat → Prop} {A:Option Addr} {n c:Nat} {x:List Int} (hx:(Kd.int .i64).R 3 W w.heap.size ok (.slice A n c) x) (j:Nat) (hj:j < xs.length) (hbs:base ≤ w.heap.size):RowsX (W.setCell ⟨g,j,none⟩ (.slice A n c)) base g cap (xs.set j x):=by
  have hlt:=h.lt
  obtain ⟨f,⟨cs,hc,hs⟩,hl,hr⟩:=h
  have hlW:g < W.heap.size:=Nat.lt_of_lt_of_le hlt hb.size
  refine ⟨fun k=>if (Value.slice A n c).ownBlock = some k then j else f k,?_,?_,fun i hi=>?_⟩
  · obtain ⟨cs',h1,h2⟩:=setCell_cells (j:=j) ((hb.block g hlt).trans hc) (.slice A n c)
    exact ⟨cs',h1,h2.trans hs⟩
  · rw [List.length_set];exact hl
  · rw [List.length_set] at hi
    by_cases e:i = j
    · subst e
      obtain ⟨v,h1,_⟩:=hr i hi
      refine ⟨.slice A n c,World.cell?_setCell_same _ _ _ ((Below.cell hb hlt).trans h1),?_⟩
      have e2:(xs.set i x).getD i [] = x:=by simp [List.getD_eq_getElem?_getD,hi]
      rw [e2]
      have hx2:=Kd.R_bound (Kd.R_tight rfl hx)
      refine Kd.R_mono (ok:=fun k=>some k = (Value.slice A n c).ownBlock ∧ w.heap.size ≤ k) (Kd.R_far (Kd.R_lower (Kd.R_mono hx2 (fun k hk=>⟨hk.1,hk.2.1⟩)) hbs) (fun k hk=>by show k ≠ g;have:=hk.2;omega) _) (fun k hk=>⟨by rw [if_pos hk.1.symm],by have:=hk.2;omega⟩)
    · obtain ⟨v,h1,h2⟩:=hr i hi
      refine ⟨v,?_,?_⟩
      · rw [World.cell?_setCell_other _ _ _ _ (by intro q;cases q;exact e rfl)]
        exact (Below.cell hb hlt).trans h1
      · have e2:(xs.set j x).getD i [] = xs.getD i []:=by rw [List.getD_eq_getElem?_getD,List.getD_eq_getElem?_getD,List.getElem?_set_ne (fun q=>e q.symm)]
        rw [e2]
        have hmine:=Kd.R_mono (Kd.R_bound h2) (ok':=fun k=>(f k = i ∧ k ≠ g) ∧ k < w.heap.size) (fun k hk=>⟨hk.1,hk.2.2.1⟩)
        refine Kd.R_mono (Kd.R_far (p:=⟨g,j,none⟩) (Kd.R_below hmine hb) (fun k hk=>hk.1.2) _) (fun k hk=>⟨?_,hk.1.2⟩)
        rw [if_neg ?_]
        · exact hk.1.1
        · intro q
          have:=Kd.R_base hx k q
          have:=hk.2
          omega
/-- Nothing stored at j. -/
theorem RowsX.set_nil {w:World} {base g cap:Nat} {xs:List (List Int)} (h:RowsX w base g cap xs) (j:Nat) (hj:j < xs.length):RowsX (w.setCell ⟨g,j,none⟩ (.slice none 0 0)) base g cap (xs.set j []):=by
  obtain ⟨f,⟨cs,hc,hs⟩,hl,hr⟩:=h
  refine ⟨f,?_,?_,fun i hi=>?_⟩
  · obtain ⟨cs',h1,h2⟩:=setCell_cells (j:=j) hc (.slice none 0 0)
    exact ⟨cs',h1,h2.trans hs⟩
  · rw [List.length_set];exact hl
  · rw [List.length_set] at hi
    obtain ⟨v,h1,h2⟩:=hr i hi
    by_cases e:i = j
    · subst e
      refine ⟨.slice none 0 0,World.cell?_setCell_same _ _ _ h1,?_⟩
      have e2:(xs.set i []).getD i [] = []:=by simp [List.getD_eq_getElem?_getD,hi]
      rw [e2]
      exact Kd.R_nil _ _ _ _ _
    · refine ⟨v,?_,?_⟩
      · rw [World.cell?_setCell_other _ _ _ _ (by intro q;cases q;exact e rfl)]
        exact h1
      · have e2:(xs.set j []).getD i [] = xs.getD i []:=by rw [List.getD_eq_getElem?_getD,List.getD_eq_getElem?_getD,List.getElem?_set_ne (fun q=>e q.symm)]
        rw [e2]
        exact Kd.R_far h2 (fun k hk=>hk.2) _
/-- The row at j stored again where it lies. -/
theorem RowsX.set_same {w:World} {base g cap:Nat} {xs:List (List Int)} (h:RowsX w base g cap xs) (j:Nat) (hj:j < xs.length) {u:Value} (hu:w.cell? ⟨g,j,none⟩ = some u):RowsX (w.setCell ⟨g,j,none⟩ u) base g cap xs:=by
  obtain ⟨f,⟨cs,hc,hs⟩,hl,hr⟩:=h
  refine ⟨f,?_,hl,fun i hi=>?_⟩
  · obtain ⟨v,h1,h2⟩:=hr j hj
    obtain ⟨A,c,rfl⟩:=Kd.R_slice h2
    obtain rfl:u = .slice A _ c:=Option.some.inj (hu.symm.trans h1)
    obtain ⟨cs',h3,h4⟩:=setCell_cells (j:=j) hc (.slice A (xs.getD j []).length c)
    exact ⟨cs',h3,h4.trans hs⟩
  · obtain ⟨v,h1,h2⟩:=hr i hi
    by_cases e:i = j
    · subst e
      obtain rfl:u = v:=Option.some.inj (hu.symm.trans h1)
      exact ⟨u,World.cell?_setCell_same _ _ _ h1,Kd.R_far h2 (fun k hk=>hk.2) _⟩
    · exact ⟨v,by rw [World.cell?_setCell_other _ _ _ _ (by intro q;cases q;exact e rfl)];exact h1,Kd.R_far h2 (fun k hk=>hk.2) _⟩
theorem rowsX_new (w:World):RowsX (w.alloc (.cells mk12 22)) w.heap.size w.heap.size 12 (List.replicate 12 []):=by
  have h:=heap_alloc_new w (.cells mk12 22)
  have hs:mk12.size = 12:=by
    have e:mk12.toList = List.replicate 12 (.slice none 0 0):=toList_madeCells_one _ _
    rw [← Array.length_toList,e,List.length_replicate]
  refine ⟨fun _=>0,⟨_,h,hs⟩,⟨by simp,by omega,Nat.le_refl _⟩,fun j hj=>⟨.slice none 0 0,?_,?_⟩⟩
  · rw [List.length_replicate] at hj
    unfold World.cell?
    rw [h]
    exact mk12_get j hj
  · rw [rep_getD]
    exact Kd.R_nil _ _ _ _ _
/-- As the printed words have it. -/
theorem RowsX.S {w:World} {base g cap:Nat} {xs:List (List Int)} (h:RowsX w base g cap xs) (ok:Nat → Prop) (hok:∀ k,base ≤ k → k < w.heap.size → ok k):Kd.S (Kd.slice 3 (Kd.int .i64)) 22 w base ok (.slice (some ⟨g,0,none⟩) xs.length cap) xs:=by
  have hlt:=h.lt
  obtain ⟨f,⟨cs,hc,hs⟩,hl,hr⟩:=h
  refine ⟨f,fun k hk=>?_,cs.toList.take xs.length,⟨?_,.inr ⟨g,cap,cs,by rw [List.length_zipIdx],hl.2.2,hc,by rw [List.length_zipIdx];exact hl.1,by unfold maxLen;exact hl.2.1,by show cs.size = cap * 1;omega,by rw [List.length_zipIdx];show List.take (xs.length * 1) _ = _;rw [Nat.mul_one]⟩⟩,?_,fun j p hj=>?_⟩
  · have e:g = k:=by simpa [Value.ownBlock] using hk
    subst e
    exact hok _ hl.2.2 hlt
  · rw [List.length_zipIdx,List.length_take,Array.length_toList];show min xs.length cs.size = xs.length * 1;omega
  · rw [List.length_zipIdx,List.length_take,Array.length_toList];show min xs.length cs.size = xs.length * 1;omega
  · obtain ⟨hjl,hjp⟩:=List.getElem?_eq_some_iff.1 hj
    rw [List.length_zipIdx] at hjl
    obtain ⟨v,h1,h2⟩:=hr j hjl
    have e2:xs.getD j [] = xs[j]:=by simp [List.getD_eq_getElem?_getD,hjl]
    rw [e2] at h2
    have hp:p = (xs[j],j):=by rw [← hjp];simp
    subst hp
    refine ⟨v,?_,?_⟩
    · have hcell:cs[j]? = some v:=by
        unfold World.cell? at h1
        rw [hc] at h1
        exact h1
      show ((cs.toList.take xs.length).drop (j * 1)).take 1 = [v]
      rw [Nat.mul_one,List.drop_take,List.take_take]
      have h3:cs.toList[j]? = some v:=by rw [Array.getElem?_toList];exact hcell
      obtain ⟨h4,h5⟩:=List.getElem?_eq_some_iff.1 h3
      rw [List.drop_eq_getElem_cons h4,h5,show min 1 (xs.length - j) = 1 from by omega]
      rfl
    · refine Kd.R_mono (Kd.R_bound h2) (fun k hk=>⟨⟨hok k hk.2.1 hk.2.2.1,?_⟩,hk.1.1⟩)
      intro q
      have e:k = g:=by simpa [Value.ownBlock] using q
      exact hk.1.2 e
/-- .. and back. -/
theorem rowsX_of_S {w:World} {base:Nat} {ok:Nat → Prop} {v:Value} {xs:List (List Int)} (h:Kd.S (Kd.slice 3 (Kd.int .i64)) 22 w base ok v xs) (hp:0 < xs.length):∃ g cap,v = .slice (some ⟨g,0,none⟩) xs.length cap ∧ RowsX w base g cap xs:=by
  obtain ⟨f,h0,inner,ho,hr⟩:=h
  rw [List.length_zipIdx] at ho
  have ho1:=ho
  rcases ho.2 with ⟨_,hz⟩|⟨g,cap,cur,rfl,hb,hg,h1,h2,h3,h4⟩
  · omega
  refine ⟨g,cap,rfl,f,⟨cur,hg,by have:cur.size = cap * 1:=h3;omega⟩,⟨h1,by unfold maxLen at h2;exact h2,hb⟩,fun j hj=>?_⟩
  obtain ⟨v,hv,hR⟩:=hr.2 j (xs[j],j) (by rw [List.getElem?_zipIdx,List.getElem?_eq_getElem hj];simp)
  have e2:xs.getD j [] = xs[j]:=by simp [List.getD_eq_getElem?_getD,hj]
  refine ⟨v,?_,?_⟩
  · have hcell:inner[j]? = some v:=by
      have:=congrArg List.head? hv
      have h5:((inner.drop (j * 1)).take 1).head? = some v:=this
      rw [Nat.mul_one,List.head?_take,if_neg (by omega),List.head?_drop] at h5
      exact h5
    have:=ho1.cells (g:=g) (by rfl) j v hcell
    rw [add_plain] at this
    exact this
  · rw [e2]
    exact Kd.R_mono hR (fun k hk=>⟨hk.2,fun q=>hk.1.2 (by rw [q];rfl)⟩)
def smL (x:S72):Prop:=x.f1.length ≤ 1000000 ∧ x.f2.length ≤ 1000000
theorem cellB {w w1:World} (hb:Below w.heap.size w w1) {p:Addr} {v:Value} (h:w.cell? p = some v):w1.cell? p = some v:=Kd.cell_heap (fun k hk=>hb.block k hk) h
theorem Try.lit_info:(Try.prog.info? 72).map (fun i=>i.size) = some 3:=by kernel_rfl
/-- What the call hands back. -/
def SubOut (w:World) (base g0:Nat) (r:List (List Int) × Bool) (w':World) (v:Value):Prop:=Below w.heap.size w w' ∧ (r.2 = true → ∃ g c,v = .slice (some ⟨g,0,none⟩) 12 c ∧ r.1.length = 12 ∧ RowsX w' base g c r.1 ∧ 12 ≤ c ∧ (g = g0 ∨ w.heap.size ≤ g))
theorem results_tmp4 {fn:Func} {t u v x:Tmp} (h:fn.results = #[.tmp t,.tmp u,.tmp v,.tmp x]) (tmps:Array Value) (P:Program) (w:World) :
    (results fn tmps).run P w = .ok (.tuple #[tmps.getD t undef,tmps.getD u undef,tmps.getD v undef,tmps.getD x undef]) w:=by
  simp [results,h]
def spec_l2Match.go (k:Nat) (s t:List Int):List Int → List (List Int) → Nat → Option (List (List Int) × Bool)
  | [],b,_=>some (b,true)
  | n :: p,b,j=>if 0 ≤ n then (if j < t.length then (if n = rd t (j:Int) then spec_l2Match.go k s t p b (j + 1) else some ([],false)) else none)
    else if -1 - n < (b.length:Int) ∧ -1000000 ≤ n then (spec_l1Part.f k s t (j:Int)).bind fun x=>if j + x.length ≤ 1000000 then
      (if 0 < (b.getD (-1 - n).toNat []).length then (spec_l1Same.f k (b.getD (-1 - n).toNat []) x).bind fun e=>if e = true then spec_l2Match.go k s t p (b.set (-1 - n).toNat x) (j + x.length) else some ([],false)
       else spec_l2Match.go k s t p (b.set (-1 - n).toNat x) (j + x.length)) else none
    else none
set_option maxHeartbeats 8000000 in
set_option maxRecDepth 1000000 in
theorem spec_l2Match.walk (k:Nat) (A0:Option Addr) (c0:Nat) (s:List Int) (g cb:Nat) (b:List (List Int)) (A2:Option Addr) (c2:Nat) (p:List Int) (A3:Option Addr) (c3:Nat) (t:List Int) (r:List (List Int) × Bool) (w0 w:World) (hB0:Below w0.heap.size w0 w) (hg:w0.heap.size ≤ g) (hs:CI w A0 s) (hs2:s.length ≤ c0) (hb:RowsX w w0.heap.size g cb b) (hp:CI w A2 p) (hp2:p.length ≤ c2) (ht:CI w A3 t) (ht2:t.length ≤ c3) (htl:t.length ≤ 1000000) (hpl:p.length ≤ 1000000)
    (h:spec_l2Match.go k s t p b 0 = some r) :
    Calls Try.prog 123 #[.agg #[.slice A0 s.length c0],.slice (some ⟨g,0,none⟩) b.length cb,.slice A2 p.length c2,.slice A3 t.length c3] w fun e w'=>∃ v,e = .returned (.tuple #[v,.bool r.2]) ∧ Aside0 (Below w0.heap.size w0 w' ∧ KI w w' ∧ Kept w w' (fun k_=>k_ = g) ∧ (r.2 = true → v = .slice (some ⟨g,0,none⟩) b.length cb ∧ r.1.length = b.length ∧ RowsX w' w0.heap.size g cb r.1)):=by
  have HS:=Aside0.mk hs
  have HP:=Aside0.mk hp
  have HT:=Aside0.mk ht
  have H:=Aside0.mk h
  clear hs hp ht h
  have bx:Aside0 (Bx (w.alloc (.cells #[.slice A0 s.length c0] 30)) w.heap.size (.slice A0 s.length c0) 30):=⟨heap_alloc_new w _⟩
  have ha:Below w.heap.size w (w.alloc (.cells #[.slice A0 s.length c0] 30)):=Below.alloc (Below.refl _ _) (Nat.le_refl _) _
  have hgb:w.heap.size ≠ g:=by have:=hb.lt;omega
  have HGB:=Aside0.mk hgb
  have HR:=Aside0.mk (hb.below ha)
  have HB:=Aside0.mk (below_step hB0 ha)
  have HK:=Aside0.mk (Kept.of_below ha (fun k_=>k_ = g))
  have HI:=Aside0.mk ((KI.refl w).below ha)
  have HG:=Aside0.mk hg
  have HW:=Aside0.mk hB0.size
  have hglt:=hb.lt
  clear ha hb hB0 hg hgb
  go_enter Try.func123,Try.ntmps123
  go_upto_region 1 with fail
  generalize w.alloc (.cells #[.slice A0 s.length c0] 30) = W0 at bx HR HB HK HI ⊢
  go_wp2
  go_loopw [10,11] (fun v10 v11 wr=>∃ (i j:Nat) (b':List (List Int)),i ≤ p.length ∧ j ≤ 1000000 ∧ v10 = .int .i64 i ∧ v11 = .int .i64 j ∧ Hid (b'.length = b.length) ∧ Hid (spec_l2Match.go k s t (p.drop i) b' j = some r) ∧ Hid (RowsX wr w0.heap.size g cb b') ∧ Hid (Bx wr w.heap.size (.slice A0 s.length c0) 30) ∧ Hid (Below w0.heap.size w0 wr) ∧ Hid (Kept w wr (fun k_=>k_ = g)) ∧ Hid (KI w wr)) (fun v10 _ _=>p.length - (intOf v10).toNat)
  case atStart=>exact ⟨0,0,b,Nat.zero_le _,by omega,rfl,rfl,rfl,H.out,HR.out,bx.out,HB.out,HK.out,HI.out⟩
  case round =>
    clear HR bx HB HK HI H
    obtain ⟨i,j,b',hi,hj,rfl,rfl,hbl,hgo,hR,hbx,hB,hK,hI⟩:=hrel
    unfold Hid at hbl hgo hR hbx hB hK hI
    have HR:=Aside0.mk hR
    have BX:=Aside0.mk hbx
    have HB:=Aside0.mk hB
    have HK:=Aside0.mk hK
    have HI:=Aside0.mk hI
    by_cases hp:i < p.length
    · rw [List.drop_eq_getElem_cons hp] at hgo
      obtain ⟨ap,eap,hpc⟩:=ci_elem (hI _ _ HP.out) i hp
      have hrd:rd p (i:Int) = p[i]:=by unfold rd;simp [List.getD_eq_getElem?_getD,hp]
      rw [hrd] at hpc
      subst eap
      generalize p[i] = n at hgo hpc hrd
      clear hrd
      simp only [spec_l2Match.go] at hgo
      by_cases g0:0 ≤ n
      · rw [if_pos g0] at hgo
        by_cases g1:j < t.length
        · rw [if_pos g1] at hgo
          obtain ⟨at_,eat,htc⟩:=ci_elem (hI _ _ HT.out) j g1
          subst eat
          by_cases g2:n = rd t (j:Int)
          · rw [if_pos g2] at hgo
            rw [← g2] at htc
            have HGO:=Aside0.mk hgo
            clear hgo hR hbx hB hK hI g2
            go_upto_region 4 with fail
            go_region
            go_wp2
            go_roundw
            case rel=>exact ⟨i + 1,j + 1,b',by omega,by omega,rfl,rfl,hbl,HGO.out,HR.out.drew,BX.out,below_drew1 HB.out,HK.out,HI.out⟩
            case measure=>simp [intOf];omega
          · rw [if_neg g2] at hgo
            obtain rfl:=Option.some.inj hgo
            clear hgo hR hbx hB hK hI
            go_upto_region 4 with fail
            go_region
            go_wp2
            go_ret2
            exact ⟨⟨_,rfl⟩,⟨below_drew1 HB.out,HI.out,HK.out⟩⟩
        · rw [if_neg g1] at hgo
          cases hgo
      · rw [if_neg g0] at hgo
        by_cases gv:-1 - n < (b'.length:Int) ∧ -1000000 ≤ n
        rotate_left
        · rw [if_neg gv] at hgo
          cases hgo
        rw [if_pos gv] at hgo
        obtain ⟨vn,hvn⟩:∃ vn:Nat,-1 - n = (vn:Int):=⟨(-1 - n).toNat,by omega⟩
        rw [hvn,Int.toNat_natCast] at hgo
        have hvl:vn < b'.length:=by omega
        have hvl2:vn < b.length:=by omega
        obtain ⟨x,hx,hgo⟩:=Option.bind_eq_some_iff.1 hgo
        have hcall:=spec_l1Part.calls k A0 c0 s A3 c3 t (j:Int) x wr (hI _ _ HS.out) hs2 (hI _ _ HT.out) ht2 hx
        have hbc:=Bx.cell BX.out
        have HGO:=Aside0.mk hgo
        clear hgo hR hbx hB hK hI
        go_wp2_with (go_at_call 135;refine hcall.mono ?_)
        first|rintro e W1 v rfl hr hd|rintro e W1 ⟨v,rfl,hr,hd⟩
        obtain ⟨AX,cX,rfl⟩:=Kd.R_slice hr
        have hX:=(Kd.R_reads' hr).2.2
        have hXc:=(Kd.R_reads' hr).2.1
        clear hcall
        have HR0:=HR
        have HRR:=Aside0.mk hr
        have HDD:=Aside0.mk hd
        have HBW:=Aside0.mk HB.out.size
        clear hr
        have HR:=Aside0.mk (HR.out.below hd)
        have BX:=Aside0.mk (BX.out.below hd)
        have HB:=Aside0.mk (below_step HB.out hd)
        have HK:=Aside0.mk (Kept.then_ HK.out (Kept.of_below hd (fun k_=>k_ = g)) (fun k_ h_=>.inl h_))
        have HI:=Aside0.mk (HI.out.below hd)
        clear hd hbc
        have hgo:=HGO.out
        by_cases gx:j + x.length ≤ 1000000
        rotate_left
        · rw [if_neg gx] at hgo
          cases hgo
        rw [if_pos gx] at hgo
        obtain ⟨AO,cO,hO,hOc,hOr⟩:=HR.out.rd vn hvl
        have hfz:=HR.out.frozen vn
        have HX:=Aside0.mk hX
        have HO:=Aside0.mk hOr
        have hset:=Aside0.mk (HR0.out.set_new HDD.out HRR.out vn hvl HBW.out)
        have bset:Aside0 (Bx (W1.setCell ⟨g,vn,none⟩ (.slice AX x.length cX)) w.heap.size (.slice A0 s.length c0) 30):=⟨Bx.set (u0:=undef) BX.out HGB.out⟩
        have kset:Aside0 (Kept w (W1.setCell ⟨g,vn,none⟩ (.slice AX x.length cX)) (fun k_=>k_ = g)):=⟨Kept.setCell HK.out (.inl rfl) _⟩
        have iset:=Aside0.mk (HI.out.set hO (.slice AX x.length cX))
        have Bset:Aside0 (Below w0.heap.size w0 (W1.setCell ⟨g,vn,none⟩ (.slice AX x.length cX))):=⟨below_set HB.out HG.out⟩
        have hvn':=hvn
        have hlen2:(b'.set vn x).length = b.length:=by rw [List.length_set];exact hbl
        have hjx:∃ j2:Nat,j + x.length = j2:=⟨_,rfl⟩
        obtain ⟨j2,hj2⟩:=hjx
        rw [hj2] at hgo
        by_cases go:0 < (b'.getD vn []).length
        · rw [if_pos go] at hgo
          obtain ⟨q,hq,hgo⟩:=Option.bind_eq_some_iff.1 hgo
          have hcall:=spec_l1Same.calls k AO cO (b'.getD vn []) AX cX x q W1 hOr hOc hX hXc hq
          have HGO:=Aside0.mk hgo
          clear hX hOr hgo
          generalize b'.getD vn [] = old at hO go hcall hOc HO
          go_wp2_with (go_at_call 85;refine hcall.mono ?_)
          first|rintro e W2 rfl hd|rintro e W2 ⟨rfl,hd⟩
          have hd:=hd.below
          have hglt2:=HR.out.lt
          replace hO:=(Below.cell hd hglt2).trans hO
          have HR:=Aside0.mk (HR.out.below hd)
          have BX:=Aside0.mk (BX.out.below hd)
          have HB:=Aside0.mk (below_step HB.out hd)
          have HK:=Aside0.mk (Kept.then_ HK.out (Kept.of_below hd (fun k_=>k_ = g)) (fun k_ h_=>.inl h_))
          have HI:=Aside0.mk (HI.out.below hd)
          have hX2:=Kd.C_below HX.out hd
          have hdd:=below_step HDD.out hd
          have hrr:=Kd.R_below HRR.out hd
          replace hfz:=HR.out.frozen vn
          clear hd hcall hset bset kset iset Bset
          have hset:=Aside0.mk (HR0.out.set_new hdd hrr vn hvl HBW.out)
          clear hdd hrr
          have bset:Aside0 (Bx (W2.setCell ⟨g,vn,none⟩ (.slice AX x.length cX)) w.heap.size (.slice A0 s.length c0) 30):=⟨Bx.set (u0:=undef) BX.out HGB.out⟩
          have kset:Aside0 (Kept w (W2.setCell ⟨g,vn,none⟩ (.slice AX x.length cX)) (fun k_=>k_ = g)):=⟨Kept.setCell HK.out (.inl rfl) _⟩
          have iset:=Aside0.mk (HI.out.set hO (.slice AX x.length cX))
          have Bset:Aside0 (Below w0.heap.size w0 (W2.setCell ⟨g,vn,none⟩ (.slice AX x.length cX))):=⟨below_set HB.out HG.out⟩
          clear hX2
          have hgo:=HGO.out
          cases q with
          | true =>
            rw [if_pos rfl] at hgo
            have HGO:=Aside0.mk hgo
            clear hgo
            go_wp2
            go_roundw
            case rel=>exact ⟨i + 1,j2,b'.set vn x,by omega,by omega,rfl,by congr 1;omega,hlen2,HGO.out,hset.out,bset.out,Bset.out,kset.out,iset.out⟩
            case measure=>simp [intOf];omega
          | false =>
            rw [if_neg (by decide)] at hgo
            obtain rfl:=Option.some.inj hgo
            clear hgo
            go_wp2
            go_ret2
            exact ⟨⟨_,rfl⟩,⟨HB.out,HI.out,HK.out⟩⟩
        · rw [if_neg go] at hgo
          have HGO:=Aside0.mk hgo
          clear hX hOr hgo
          generalize b'.getD vn [] = old at hO go hOc HO
          go_wp2
          go_roundw
          case rel=>exact ⟨i + 1,j2,b'.set vn x,by omega,by omega,rfl,by congr 1;omega,hlen2,HGO.out,hset.out,bset.out,Bset.out,kset.out,iset.out⟩
          case measure=>simp [intOf];omega
    · obtain rfl:i = p.length:=by omega
      rw [List.drop_length] at hgo
      simp only [spec_l2Match.go,Option.some.injEq] at hgo
      subst hgo
      clear hR hbx hB hK
      go_wp2
      go_ret2
      refine ⟨_,rfl,⟨HB.out,HI.out,HK.out,?_⟩⟩
      first|exact fun _=>⟨rfl,hbl,HR.out⟩|exact ⟨rfl,hbl,HR.out⟩|exact ⟨rfl,HR.out⟩
set_option maxHeartbeats 8000000 in
set_option maxRecDepth 1000000 in
theorem spec_l6Sides.walk (p:Bool) (A1:Option Addr) (n1 c1:Nat) (A2:Option Addr) (n2 c2:Nat) (n:Int) (w:World) :
    Calls Try.prog 122 #[.agg #[.bool p,.slice A1 n1 c1,.slice A2 n2 c2],.int .i64 n] w fun e w'=>e = .returned (if n = 0 then .tuple #[.slice A1 n1 c1,.slice A2 n2 c2] else .tuple #[.slice A2 n2 c2,.slice A1 n1 c1]) ∧ Aside0 (Below w.heap.size w w'):=by
  have hb:=heap_alloc_new w (.cells #[.bool p,.slice A1 n1 c1,.slice A2 n2 c2] 72)
  have HB:Aside0 (Below w.heap.size w (w.alloc (.cells #[.bool p,.slice A1 n1 c1,.slice A2 n2 c2] 72))):=⟨Below.alloc (Below.refl _ _) (Nat.le_refl _) _⟩
  go_enter Try.func122,Try.ntmps122
  go_upto_region 1 with fail
  generalize w.alloc (.cells #[.bool p,.slice A1 n1 c1,.slice A2 n2 c2] 72) = W0 at hb HB ⊢
  generalize w.heap.size = g at hb ⊢
  have h1:W0.cell? ⟨g,1,none⟩ = some (.slice A1 n1 c1):=(blk_cell hb 1).trans rfl
  have h2:W0.cell? ⟨g,2,none⟩ = some (.slice A2 n2 c2):=(blk_cell hb 2).trans rfl
  clear hb
  by_cases hn:n = 0
  · subst hn
    go_upto_region 2 with fail
    go_region
    go_wp2
    go_ret2
    exact ⟨rfl,⟨below_drew1 HB.out⟩⟩
  · go_upto_region 3 with fail
    go_region
    go_wp2
    go_ret2
    exact ⟨by first|rfl|(rw [if_neg hn];rfl),⟨below_drew1 HB.out⟩⟩
theorem spec_l2Stay.walk (v:Int) (A:Option Addr) (c:Nat) (t:List Int) (w:World) (h0:0 ≤ v) (h1:v ≤ 1000000) (ht:CI w A t) :
    Calls Try.prog 99 #[.int .i64 v,.slice A t.length c] w fun e w'=>e = .returned (if t = [-1 - v] then .slice none 0 0 else .slice A t.length c) ∧ Aside0 (Below w.heap.size w w'):=by
  have HB:=Aside0.mk (Below.refl w.heap.size w)
  by_cases g1:t.length = 1
  · obtain ⟨x,rfl⟩:=List.length_eq_one_iff.1 g1
    obtain ⟨ad,rfl,hc⟩:=ci_elem ht 0 (by simp)
    have hx:rd [x] ((0:Nat):Int) = x:=rfl
    rw [hx,show ad.add 0 = ad from by cases ad;rfl] at hc
    clear hx ht g1
    by_cases g2:x = -1 - v
    · have gb:(x == -1 - v) = true:=by simpa using g2
      rw [if_pos (by rw [g2])]
      clear g2
      go_enter Try.func99,Try.ntmps99
      go_wp2
      go_ret
      exact ⟨rfl,HB⟩
    · have gb:(x == -1 - v) = false:=by simpa using g2
      rw [if_neg (by intro q;exact g2 (by simpa using q))]
      clear g2
      go_enter Try.func99,Try.ntmps99
      go_wp2
      go_ret
      exact ⟨rfl,HB⟩
  · have gb:((t.length:Int) == 1) = false:=by rw [beq_eq_false_iff_ne];omega
    rw [if_neg (by intro q;rw [q] at g1;exact g1 rfl)]
    clear g1 ht
    go_enter Try.func99,Try.ntmps99
    go_wp2
    go_ret
    exact ⟨rfl,HB⟩
def spec_l7Subsumes.sides (k:Nat) (s:List Int) (R:List (List Int) → Option (List (List Int) × Bool)) (c0:S72) (b:List (List Int)) (x:S72):Nat → Nat → Option (Option (List (List Int)))
  | 0,_=>some none
  | m + 1,n=>(spec_l7Copy.f k b).bind fun b1=>if b1.length = 12 then (spec_l2Match.go k s (if n = 0 then x.f1 else x.f2) c0.f1 b1 0).bind fun m1=>if m1.2 = true then (spec_l2Match.go k s (if n = 0 then x.f2 else x.f1) c0.f2 m1.1 0).bind fun m2=>if m2.2 = true then (R m2.1).bind fun o=>if o.2 = true then some (some o.1) else spec_l7Subsumes.sides k s R c0 b x m (n + 1) else spec_l7Subsumes.sides k s R c0 b x m (n + 1) else spec_l7Subsumes.sides k s R c0 b x m (n + 1) else none
def spec_l7Subsumes.row (k:Nat) (s:List Int) (R:List (List Int) → Option (List (List Int) × Bool)) (c0:S72) (b:List (List Int)):List S72 → Option (Option (List (List Int)))
  | []=>some none
  | x :: t=>if x.f0 = c0.f0 then (spec_l7Subsumes.sides k s R c0 b x 2 0).bind fun o=>match o with|some y=>some (some y)|none=>spec_l7Subsumes.row k s R c0 b t else spec_l7Subsumes.row k s R c0 b t
def spec_l7Subsumes.go (k:Nat) (s:List Int) (d:List S72):List S72 → List (List Int) → Option (List (List Int) × Bool)
  | [],b=>some (b,true)
  | c0 :: c,b=>(spec_l7Subsumes.row k s (fun b'=>spec_l7Subsumes.go k s d c b') c0 b d).bind fun o=>match o with|some y=>some (y,true)|none=>some ([],false)
set_option maxHeartbeats 16000000 in
set_option maxRecDepth 1000000 in
theorem spec_l7Subsumes.walk (k:Nat) (A0:Option Addr) (c0:Nat) (s:List Int) (hs2:s.length ≤ c0) (A3:Option Addr) (c3:Nat) (d:List S72) (hd2:d.length ≤ c3) (hdm:∀ x ∈ d,smL x) (A2:Option Addr) (c2:Nat) (c:List S72) (hc2:c.length ≤ c2) (hcm:∀ x ∈ c,smL x) (base:Nat) (n:Nat):∀ (kk g0 cb:Nat) (b:List (List Int)) (r:List (List Int) × Bool) (w:World),kk + n = c.length → CI w A0 s → Kd.C k72 w A2 c.length c → Kd.C k72 w A3 d.length d → base ≤ w.heap.size → RowsX w base g0 cb b → b.length = 12 → 12 ≤ cb → spec_l7Subsumes.go k s d (c.drop kk) b = some r →
    Calls Try.prog 98 #[.agg #[.slice A0 s.length c0],.slice A2 c.length c2,.slice A3 d.length c3,.int .i64 kk,.slice (some ⟨g0,0,none⟩) 12 cb] w fun e w'=>∃ v,e = .returned (.tuple #[v,.bool r.2]) ∧ Aside0 (SubOut w base g0 r w' v):=by
  induction n with
  | zero =>
    intro kk g0 cb b r w hk hs hc hd hbs hb hb12 hcb h
    obtain rfl:kk = c.length:=by omega
    rw [List.drop_length] at h
    simp only [spec_l7Subsumes.go,Option.some.injEq] at h
    subst h
    have HR:=Aside0.mk hb
    have HL:=Aside0.mk hb12
    have HB:Aside0 (Below w.heap.size w (w.alloc (.cells #[.slice A0 s.length c0] 30))):=⟨Below.alloc (Below.refl _ _) (Nat.le_refl _) _⟩
    have hcl:c.length ≤ 9223372036854775807:=hc.2.1
    have gz:((c.length:Int) == (c.length:Int)) = true:=by simp
    clear hs hc hcm hd hb hb12 hbs hk
    go_enter Try.func98,Try.ntmps98
    go_upto_region 1 with fail
    generalize w.alloc (.cells #[.slice A0 s.length c0] 30) = W0 at HB ⊢
    go_wp2
    go_ret2
    exact ⟨_,rfl,⟨HB.out,fun _=>⟨g0,cb,rfl,HL.out,HR.out.below HB.out,hcb,.inl rfl⟩⟩⟩
  | succ n ih =>
    intro kk g0 cb b r w hk hs hc hd hbs hb hb12 hcb h
    have hkk:kk < c.length:=by omega
    rw [List.drop_eq_getElem_cons hkk] at h
    obtain ⟨ac,E1,f1,E2,f2,eac,m0,m1,m2,n1_,j1,n2_,j2⟩:=at_T72 hc (kk:Int) (by omega) (by omega)
    have hem:=hcm c[kk] (List.getElem_mem hkk)
    have hrd:rd_T72 c (kk:Int) = c[kk]:=by unfold rd_T72;simp [List.getD_eq_getElem?_getD,hkk]
    rw [hrd] at m0 m1 m2 n1_ j1 n2_ j2
    rw [Int.toNat_natCast] at m0 m1 m2
    subst eac
    generalize c[kk] = e0 at h m0 m1 m2 n1_ j1 n2_ j2 hem hrd
    simp only [spec_l7Subsumes.go] at h
    obtain ⟨o,ho,h⟩:=Option.bind_eq_some_iff.1 h
    have hcl:c.length ≤ 9223372036854775807:=hc.2.1
    have gz:((kk:Int) == (c.length:Int)) = false:=by rw [beq_eq_false_iff_ne];omega
    have hk1:kk + 1 + n = c.length:=by omega
    clear hrd hk
    have IH:=Aside0.mk ih
    have HK1:=Aside0.mk hk1
    have HS:=Aside0.mk hs
    have HC:=Aside0.mk hc
    have M0:=Aside0.mk m0
    have M1:=Aside0.mk m1
    have M2:=Aside0.mk m2
    have J1:=Aside0.mk j1
    have J2:=Aside0.mk j2
    have EM:=Aside0.mk hem
    have HDM:=Aside0.mk hdm
    have HD:=Aside0.mk hd
    have HR:=Aside0.mk hb
    have HL:=Aside0.mk hb12
    have HO:=Aside0.mk ho
    have HH:=Aside0.mk h
    have HBS:=Aside0.mk hbs
    have bx:Aside0 (Bx (w.alloc (.cells #[.slice A0 s.length c0] 30)) w.heap.size (.slice A0 s.length c0) 30):=⟨heap_alloc_new w _⟩
    have HB:Aside0 (Below w.heap.size w (w.alloc (.cells #[.slice A0 s.length c0] 30))):=⟨Below.alloc (Below.refl _ _) (Nat.le_refl _) _⟩
    have hdl:d.length ≤ 9223372036854775807:=hd.2.1
    clear ih hk1 hs hc m0 m1 m2 j1 j2 hem hdm hd hb hb12 ho h hbs hcm
    go_enter Try.func98,Try.ntmps98
    go_upto_region 1 with fail
    generalize w.alloc (.cells #[.slice A0 s.length c0] 30) = W0 at bx HB ⊢
    go_wp2
    go_loopw [28] (fun v28 wr=>∃ i:Nat,i ≤ d.length ∧ v28 = .int .i64 i ∧ Hid (spec_l7Subsumes.row k s (fun b'=>spec_l7Subsumes.go k s d (c.drop (kk + 1)) b') e0 b (d.drop i) = some o) ∧ Hid (Bx wr w.heap.size (.slice A0 s.length c0) 30) ∧ Hid (Below w.heap.size w wr)) (fun v28 _=>d.length - (intOf v28).toNat)
    case atStart=>exact ⟨0,Nat.zero_le _,rfl,HO.out,bx.out,HB.out⟩
    case round =>
      clear HO bx HB
      obtain ⟨i,hi,rfl,hrow,hbx,hB⟩:=hrel
      unfold Hid at hrow hbx hB
      by_cases hp:i < d.length
      · rw [List.drop_eq_getElem_cons hp] at hrow
        obtain ⟨ad,B1,d1,B2,d2,ead,k0,k1,k2,l1_,i1,l2_,i2⟩:=at_T72 (Kd.C_below HD.out hB) (i:Int) (by omega) (by omega)
        have hxm:=HDM.out d[i] (List.getElem_mem hp)
        have hrd:rd_T72 d (i:Int) = d[i]:=by unfold rd_T72;simp [List.getD_eq_getElem?_getD,hp]
        rw [hrd] at k0 k1 k2 l1_ i1 l2_ i2
        rw [Int.toNat_natCast] at k0 k1 k2
        subst ead
        generalize d[i] = x at hrow k0 k1 k2 l1_ i1 l2_ i2 hrd hxm
        clear hrd
        simp only [spec_l7Subsumes.row] at hrow
        have BX:=Aside0.mk hbx
        have HB:=Aside0.mk hB
        have I1:=Aside0.mk i1
        have I2:=Aside0.mk i2
        have XM:=Aside0.mk hxm
        have ROW:=Aside0.mk hrow
        clear hbx hB i1 i2 hxm hrow
        go_upto_region 6 with fail
        have ha:Below wr.heap.size wr (wr.alloc (.cells #[.bool x.f0,.slice B1 x.f1.length d1,.slice B2 x.f2.length d2] 72)):=Below.alloc (Below.refl _ _) (Nat.le_refl _) _
        have HU:=Aside0.mk (heap_alloc_new wr (.cells #[.bool x.f0,.slice B1 x.f1.length d1,.slice B2 x.f2.length d2] 72))
        have BX:=Aside0.mk (BX.out.below ha)
        have I1:=Aside0.mk (Kd.C_below I1.out ha)
        have I2:=Aside0.mk (Kd.C_below I2.out ha)
        have HB:=Aside0.mk (below_step HB.out ha)
        clear ha k0 k1 k2
        generalize wr.alloc (.cells #[.bool x.f0,.slice B1 x.f1.length d1,.slice B2 x.f2.length d2] 72) = W2 at HU BX I1 I2 HB ⊢
        generalize wr.heap.size = gu at HU ⊢
        by_cases gp:x.f0 = e0.f0
        rotate_left
        · have gb:(x.f0 == e0.f0) = false:=by simpa using gp
          have hrow:=ROW.out
          rw [if_neg gp] at hrow
          have ROW:=Aside0.mk hrow
          clear hrow gp
          go_wp2
          go_loopw [14] (fun v14 wr=>v14 = .int .i64 0 ∧ Hid (Bx wr w.heap.size (.slice A0 s.length c0) 30) ∧ Hid (wr.heap[gu]? = some (.cells #[.bool x.f0,.slice B1 x.f1.length d1,.slice B2 x.f2.length d2] 72 (0,0))) ∧ Hid (Below w.heap.size w wr)) (fun _ _=>0)
          case atStart=>exact ⟨rfl,BX.out,HU.out,HB.out⟩
          case round =>
            clear BX HU HB I1 I2
            obtain ⟨rfl,hbx,hU,hB⟩:=hrel
            unfold Hid at hbx hU hB
            have q0:wr.cell? ⟨gu,0,none⟩ = some (.bool x.f0):=(blk_cell hU 0).trans rfl
            have m0:=cellB hB M0.out
            have BX:=Aside0.mk hbx
            have HB:=Aside0.mk hB
            clear hbx hU hB
            go_upto_region 7 with fail
            go_region
            go_wp2
            go_roundw
            case rel=>exact ⟨i + 1,by omega,rfl,ROW.out,BX.out,below_drew1 HB.out⟩
            case measure=>simp [intOf];omega
        · have gb:(x.f0 == e0.f0) = true:=by simpa using gp
          have hrow:=ROW.out
          rw [if_pos gp] at hrow
          obtain ⟨os,hsd,hrow⟩:=Option.bind_eq_some_iff.1 hrow
          have ROW:=Aside0.mk hrow
          have HSD:=Aside0.mk hsd
          clear hrow hsd gp
          go_wp2
          go_loopw [14] (fun v14 wr=>∃ n m:Nat,n + m = 2 ∧ v14 = .int .i64 n ∧ Hid (spec_l7Subsumes.sides k s (fun b'=>spec_l7Subsumes.go k s d (c.drop (kk + 1)) b') e0 b x m n = some os) ∧ Hid (Bx wr w.heap.size (.slice A0 s.length c0) 30) ∧ Hid (wr.heap[gu]? = some (.cells #[.bool x.f0,.slice B1 x.f1.length d1,.slice B2 x.f2.length d2] 72 (0,0))) ∧ Hid (CI wr B1 x.f1) ∧ Hid (CI wr B2 x.f2) ∧ Hid (Below w.heap.size w wr)) (fun v14 _=>2 - (intOf v14).toNat)
          case atStart=>exact ⟨0,2,rfl,rfl,HSD.out,BX.out,HU.out,I1.out,I2.out,HB.out⟩
          case round =>
            clear HSD BX HU I1 I2 HB
            obtain ⟨n',m,hnm,rfl,hsg,hbx,hU,i1,i2,hB⟩:=hrel
            unfold Hid at hsg hbx hU i1 i2 hB
            have BX:=Aside0.mk hbx
            have HU:=Aside0.mk hU
            have I1:=Aside0.mk i1
            have I2:=Aside0.mk i2
            have HB:=Aside0.mk hB
            have q0:wr.cell? ⟨gu,0,none⟩ = some (.bool x.f0):=(blk_cell hU 0).trans rfl
            have m0:=cellB hB M0.out
            obtain ⟨rfl,rfl⟩|⟨rfl,rfl⟩|⟨rfl,rfl⟩:(n' = 0 ∧ m = 2) ∨ (n' = 1 ∧ m = 1) ∨ (n' = 2 ∧ m = 0):=by omega
            · skip
              simp only [spec_l7Subsumes.sides] at hsg
              simp only [Nat.reduceAdd,reduceIte] at hsg
              obtain ⟨b1,hcp,hsg⟩:=Option.bind_eq_some_iff.1 hsg
              by_cases gl:b1.length = 12
              rotate_left
              · rw [if_neg gl] at hsg
                cases hsg
              rw [if_pos gl] at hsg
              obtain ⟨⟨mb1,ok1⟩,hm1,hsg⟩:=Option.bind_eq_some_iff.1 hsg
              simp only at hsg
              have HCP:=Aside0.mk hcp
              have HL1:=Aside0.mk gl
              have HM1:=Aside0.mk hm1
              have HSG:=Aside0.mk hsg
              clear hcp gl hm1 hsg hbx hB hU i1 i2
              go_upto_region 7 with fail
              go_region
              clear q0 m0
              have hd:Below wr.heap.size wr wr.drew:=below_drew1 (Below.refl _ _)
              have BX:=Aside0.mk (BX.out.below hd)
              have HU:=Aside0.mk ((hd.block gu (Array.getElem?_eq_some_iff.1 HU.out).1).trans HU.out)
              have I1:=Aside0.mk (Kd.C_below I1.out hd)
              have I2:=Aside0.mk (Kd.C_below I2.out hd)
              have HB:=Aside0.mk (below_step HB.out hd)
              clear hd
              generalize wr.drew = W2d at BX HU I1 I2 HB ⊢
              have q0:W2d.cell? ⟨gu,0,none⟩ = some (.bool x.f0):=(blk_cell HU.out 0).trans rfl
              have q1:W2d.cell? ⟨gu,1,none⟩ = some (.slice B1 x.f1.length d1):=(blk_cell HU.out 1).trans rfl
              have q2:W2d.cell? ⟨gu,2,none⟩ = some (.slice B2 x.f2.length d2):=(blk_cell HU.out 2).trans rfl
              have hcall:=spec_l6Sides.walk x.f0 B1 x.f1.length d1 B2 x.f2.length d2 0 W2d
              go_wp2_with (go_at_call 122;refine hcall.mono ?_)
              first|rintro e W3 rfl hd|rintro e W3 ⟨rfl,hd⟩
              have hd:=hd.out
              have BX:=Aside0.mk (BX.out.below hd)
              have HU:=Aside0.mk ((hd.block gu (Array.getElem?_eq_some_iff.1 HU.out).1).trans HU.out)
              have I1:=Aside0.mk (Kd.C_below I1.out hd)
              have I2:=Aside0.mk (Kd.C_below I2.out hd)
              have HB:=Aside0.mk (below_step HB.out hd)
              clear hd hcall q0 q1 q2
              go_wp2
              have hmc:=cellB HB.out M1.out
              refine start_ (n:=15) (S:=fun w'=>w'.cell? ⟨w.heap.size,0,none⟩ = some (.slice A0 s.length c0) ∧ w'.cell? ⟨(ac.add (kk * 3)).block,(ac.add (kk * 3)).off + 1,none⟩ = some (.slice E1 e0.f1.length f1)) (ds:=[]) #[false,false,false,false,false,false,false,false,false,false,false,false,false,false,false] (by kernel_rfl) rfl rfl ⟨BX.out.cell,hmc⟩ (fun hHeld=>?_)
              have hd:Below W3.heap.size W3 W3.drew:=below_drew1 (Below.refl _ _)
              have BX:=Aside0.mk (BX.out.below hd)
              have HU:=Aside0.mk ((hd.block gu (Array.getElem?_eq_some_iff.1 HU.out).1).trans HU.out)
              have I1:=Aside0.mk (Kd.C_below I1.out hd)
              have I2:=Aside0.mk (Kd.C_below I2.out hd)
              have HB:=Aside0.mk (below_step HB.out hd)
              replace hmc:=cellB hd hmc
              clear hd
              generalize W3.drew = W4 at BX HU I1 I2 HB hmc hHeld ⊢
              have HBB:=HB
              have HWW:=Aside0.mk BX.out.lt
              have HGU:=Aside0.mk (Array.getElem?_eq_some_iff.1 HU.out).1
              have hcall:=spec_l7Copy.calls k (some ⟨g0,0,none⟩) cb b b1 W4 (ci_kd (HR.out.below HB.out).two (by rw [HL.out];omega)) (by rw [HL.out];exact hcb) HCP.out
              rw [HL.out] at hcall
              refine take_ (i:=0) (N:=(some 53)) (v:=?_) (a':=?_) #[true,false,false,false,false,false,false,false,false,false,false,false,false,false,false] rfl rfl (by kernel_rfl) (fun _ _ _ h=>h) (Or.inl ⟨by rfl,?_⟩) hHeld ?_ ?_
              rotate_left
              · intro w' ⟨s0,s1⟩
                go_simp
                with_reducible rfl
              rotate_left
              · simp only [Act.put,List.setIfInBounds_toArray,List.set_cons_zero,List.set_cons_succ,i64_w,i32_w]
                rfl
              refine pure_ (i:=1) (N:=(some 54)) (v:=?_) (a':=?_) #[true,true,false,false,false,false,false,false,false,false,false,false,false,false,false] rfl rfl (by kernel_rfl) (fun _ _ _ h=>h) (Or.inl ⟨by rfl,?_⟩) ?_ ?_
              rotate_left
              · intro w'
                go_simp
                with_reducible rfl
              rotate_left
              · simp only [Act.put,List.setIfInBounds_toArray,List.set_cons_zero,List.set_cons_succ,i64_w,i32_w]
                rfl
              refine pure_ (i:=3) (N:=(some 56)) (v:=?_) (a':=?_) #[true,true,false,true,false,false,false,false,false,false,false,false,false,false,false] rfl rfl (by kernel_rfl) (fun _ _ _ h=>h) (Or.inl ⟨by rfl,?_⟩) ?_ ?_
              rotate_left
              · intro w'
                go_simp
                with_reducible rfl
              rotate_left
              · simp only [Act.put,List.setIfInBounds_toArray,List.set_cons_zero,List.set_cons_succ,i64_w,i32_w]
                rfl
              refine pure_ (i:=4) (N:=(some 57)) (v:=?_) (a':=?_) #[true,true,false,true,true,false,false,false,false,false,false,false,false,false,false] rfl rfl (by kernel_rfl) (fun _ _ _ h=>h) (Or.inl ⟨by rfl,?_⟩) ?_ ?_
              rotate_left
              · intro w'
                go_simp
                with_reducible rfl
              rotate_left
              · simp only [Act.put,List.setIfInBounds_toArray,List.set_cons_zero,List.set_cons_succ,i64_w,i32_w]
                rfl
              refine pure_ (i:=5) (N:=(some 58)) (v:=?_) (a':=?_) #[true,true,false,true,true,true,false,false,false,false,false,false,false,false,false] rfl rfl (by kernel_rfl) (fun _ _ _ h=>h) (Or.inl ⟨by rfl,?_⟩) ?_ ?_
              rotate_left
              · intro w'
                go_simp
                with_reducible rfl
              rotate_left
              · simp only [Act.put,List.setIfInBounds_toArray,List.set_cons_zero,List.set_cons_succ,i64_w,i32_w]
                rfl
              refine pure_ (i:=6) (N:=(some 59)) (v:=?_) (a':=?_) #[true,true,false,true,true,true,true,false,false,false,false,false,false,false,false] rfl rfl (by kernel_rfl) (fun _ _ _ h=>h) (Or.inl ⟨by rfl,?_⟩) ?_ ?_
              rotate_left
              · intro w'
                go_simp
                with_reducible rfl
              rotate_left
              · simp only [Act.put,List.setIfInBounds_toArray,List.set_cons_zero,List.set_cons_succ,i64_w,i32_w]
                rfl
              refine take_ (i:=7) (N:=(some 60)) (v:=?_) (a':=?_) #[true,true,false,true,true,true,true,true,false,false,false,false,false,false,false] rfl rfl (by kernel_rfl) (fun _ _ _ h=>h) (Or.inl ⟨by rfl,?_⟩) hHeld ?_ ?_
              rotate_left
              · intro w' ⟨s0,s1⟩
                go_simp
                with_reducible rfl
              rotate_left
              · simp only [Act.put,List.setIfInBounds_toArray,List.set_cons_zero,List.set_cons_succ,i64_w,i32_w]
                rfl
              refine pure_ (i:=8) (N:=(some 61)) (v:=?_) (a':=?_) #[true,true,false,true,true,true,true,true,true,false,false,false,false,false,false] rfl rfl (by kernel_rfl) (fun _ _ _ h=>h) (Or.inl ⟨by rfl,?_⟩) ?_ ?_
              rotate_left
              · intro w'
                go_simp
                with_reducible rfl
              rotate_left
              · simp only [Act.put,List.setIfInBounds_toArray,List.set_cons_zero,List.set_cons_succ,i64_w,i32_w]
                rfl
              refine one_ (i:=2) (N:=(some 55)) #[true,true,true,true,true,true,true,true,true,false,false,false,false,false,false] rfl rfl (by kernel_rfl) (by decide) (fun K hK=>?_)
              refine goes_ Try.func124 (by kernel_rfl) rfl #[.slice (some ⟨g0,0,none⟩) 12 cb] (by rfl) rfl rfl (by (try simp only [List.map_toArray,List.map_cons,List.map_nil]);first|done|rfl) ?_
              refine (hcall).mono ?_
              rintro e W5 ⟨v,rfl,hr,hd⟩
              refine ⟨_,rfl,?_⟩
              obtain ⟨g1,c1,rfl,hrx⟩:=rowsX_of_S hr (by have:=HL1.out;omega)
              rw [HL1.out]
              have RX:=Aside0.mk hrx
              have HD5:=Aside0.mk hd
              clear hr hrx hcall hd
              have hcall:=spec_l2Match.walk k A0 c0 s g1 c1 b1 E1 f1 e0.f1 B1 d1 x.f1 (mb1,ok1) W4 W5 HD5.out RX.out.le.2.2 (Kd.C_below (Kd.C_below HS.out HB.out) HD5.out) hs2 RX.out (Kd.C_below (Kd.C_below J1.out HB.out) HD5.out) n1_ (Kd.C_below I1.out HD5.out) l1_ XM.out.1 EM.out.1 HM1.out
              rw [HL1.out] at hcall
              refine hK.out _ _ ⟨(BX.out.below HD5.out).cell,cellB HD5.out hmc⟩ (fun hHeld=>?_)
              clear hK K hHeld
              refine norm_ (a':=?_) ?_ ?_
              rotate_left
              · show Act.put _ (some 55) _ = _
                simp only [Act.put,List.setIfInBounds_toArray,List.set_cons_zero,List.set_cons_succ,i64_w,i32_w]
                rfl
              refine one_ (i:=9) (N:=(some 62)) #[true,true,true,true,true,true,true,true,true,true,false,false,false,false,false] rfl rfl (by kernel_rfl) (by decide) (fun K hK=>?_)
              refine goes_ Try.func123 (by kernel_rfl) rfl #[.agg #[.slice A0 s.length c0],.slice (some ⟨g1,0,none⟩) 12 c1,.slice E1 e0.f1.length f1,.slice B1 x.f1.length d1] (by rfl) rfl rfl (by (try simp only [List.map_toArray,List.map_cons,List.map_nil]);first|done|rfl) ?_
              refine (hcall).mono ?_
              rintro e W6 ⟨v,rfl,hf⟩
              refine ⟨_,rfl,?_⟩
              have hd:=hf.out.1
              have HW4:=Aside0.mk HB.out.size
              have BX:=Aside0.mk (BX.out.below hd)
              have HU:=Aside0.mk ((hd.block gu (Array.getElem?_eq_some_iff.1 HU.out).1).trans HU.out)
              have I1:=Aside0.mk (Kd.C_below I1.out hd)
              have I2:=Aside0.mk (Kd.C_below I2.out hd)
              have HB:=Aside0.mk (below_step HB.out hd)
              replace hmc:=cellB hd hmc
              refine hK.out _ _ ⟨BX.out.cell,hmc⟩ (fun hHeld=>?_)
              clear hK K hHeld
              refine norm_ (a':=?_) ?_ ?_
              rotate_left
              · show Act.put _ (some 62) _ = _
                simp only [Act.put,List.setIfInBounds_toArray,List.set_cons_zero,List.set_cons_succ,i64_w,i32_w]
                rfl
              refine pure_ (i:=10) (N:=(some 52)) (v:=?_) (a':=?_) #[true,true,true,true,true,true,true,true,true,true,true,false,false,false,false] rfl rfl (by kernel_rfl) (fun _ _ _ h=>h) (Or.inl ⟨by rfl,?_⟩) ?_ ?_
              rotate_left
              · intro w'
                go_simp
                with_reducible rfl
              rotate_left
              · simp only [Act.put,List.setIfInBounds_toArray,List.set_cons_zero,List.set_cons_succ,i64_w,i32_w]
                rfl
              refine pure_ (i:=11) (N:=(some 63)) (v:=?_) (a':=?_) #[true,true,true,true,true,true,true,true,true,true,true,true,false,false,false] rfl rfl (by kernel_rfl) (fun _ _ _ h=>h) (Or.inl ⟨by rfl,?_⟩) ?_ ?_
              rotate_left
              · intro w'
                go_simp
                with_reducible rfl
              rotate_left
              · simp only [Act.put,List.setIfInBounds_toArray,List.set_cons_zero,List.set_cons_succ,i64_w,i32_w]
                rfl
              refine pure_ (i:=12) (N:=(some 64)) (v:=?_) (a':=?_) #[true,true,true,true,true,true,true,true,true,true,true,true,true,false,false] rfl rfl (by kernel_rfl) (fun _ _ _ h=>h) (Or.inl ⟨by rfl,?_⟩) ?_ ?_
              rotate_left
              · intro w'
                go_simp
                with_reducible rfl
              rotate_left
              · simp only [Act.put,List.setIfInBounds_toArray,List.set_cons_zero,List.set_cons_succ,i64_w,i32_w]
                rfl
              refine pure_ (i:=13) (N:=(some 17)) (v:=?_) (a':=?_) #[true,true,true,true,true,true,true,true,true,true,true,true,true,true,false] rfl rfl (by kernel_rfl) (fun _ _ _ h=>h) (Or.inl ⟨by rfl,?_⟩) ?_ ?_
              rotate_left
              · intro w'
                go_simp
                with_reducible rfl
              rotate_left
              · simp only [Act.put,List.setIfInBounds_toArray,List.set_cons_zero,List.set_cons_succ,i64_w,i32_w]
                rfl
              refine pure_ (i:=14) (N:=(some 18)) (v:=?_) (a':=?_) #[true,true,true,true,true,true,true,true,true,true,true,true,true,true,true] rfl rfl (by kernel_rfl) (fun _ _ _ h=>h) (Or.inl ⟨by rfl,?_⟩) ?_ ?_
              rotate_left
              · intro w'
                go_simp
                with_reducible rfl
              rotate_left
              · simp only [Act.put,List.setIfInBounds_toArray,List.set_cons_zero,List.set_cons_succ,i64_w,i32_w]
                rfl
              refine done_ (by kernel_rfl) ?_
              have HF:=Aside0.mk hf.out.2.2.2
              have HD6:=Aside0.mk hf.out.1
              clear hf hmc hHeld hcall RX HD5 hd
              have hsg:=HSG.out
              cases ok1 with
              | false =>
                simp only [Bool.false_eq_true,if_false] at hsg
                have HSG2:=Aside0.mk hsg
                clear hsg HF HD6
                go_wp2
                go_roundw
                case rel=>exact ⟨1,1,by omega,rfl,HSG2.out,BX.out,HU.out,I1.out,I2.out,HB.out⟩
                case measure=>simp [intOf]
              | true =>
                simp only [if_true] at hsg
                obtain ⟨⟨mb2,ok2⟩,hm2,hsg⟩:=Option.bind_eq_some_iff.1 hsg
                simp only at hsg
                obtain ⟨rfl,hl2,hrx⟩:=HF.out rfl
                have RX:=Aside0.mk hrx
                have RL:=Aside0.mk hl2
                have HM2:=Aside0.mk hm2
                have HSG2:=Aside0.mk hsg
                clear hl2 hrx hm2 hsg HF HM1 HSG HCP
                go_wp2
                have hmc:=cellB HB.out M2.out
                refine start_ (n:=14) (S:=fun w'=>w'.cell? ⟨w.heap.size,0,none⟩ = some (.slice A0 s.length c0) ∧ w'.cell? ⟨(ac.add (kk * 3)).block,(ac.add (kk * 3)).off + 2,none⟩ = some (.slice E2 e0.f2.length f2)) (ds:=[]) #[false,false,false,false,false,false,false,false,false,false,false,false,false,false] (by kernel_rfl) rfl rfl ⟨BX.out.cell,hmc⟩ (fun hHeld=>?_)
                have hd:Below W6.heap.size W6 W6.drew:=below_drew1 (Below.refl _ _)
                have BX:=Aside0.mk (BX.out.below hd)
                have HU:=Aside0.mk ((hd.block gu (Array.getElem?_eq_some_iff.1 HU.out).1).trans HU.out)
                have I1:=Aside0.mk (Kd.C_below I1.out hd)
                have I2:=Aside0.mk (Kd.C_below I2.out hd)
                have HB:=Aside0.mk (below_step HB.out hd)
                replace hmc:=cellB hd hmc
                have RX:=Aside0.mk (RX.out.below hd)
                have HD6:=Aside0.mk (below_step HD6.out hd)
                clear hd
                generalize W6.drew = W7 at BX HU I1 I2 HB hmc RX HD6 hHeld ⊢
                have hcall:=spec_l2Match.walk k A0 c0 s g1 c1 mb1 E2 f2 e0.f2 B2 d2 x.f2 (mb2,ok2) W4 W7 HD6.out RX.out.le.2.2 (Kd.C_below HS.out HB.out) hs2 RX.out (Kd.C_below J2.out HB.out) n2_ I2.out l2_ XM.out.2 EM.out.2 HM2.out
                rw [RL.out] at hcall
                refine take_ (i:=0) (N:=(some 68)) (v:=?_) (a':=?_) #[true,false,false,false,false,false,false,false,false,false,false,false,false,false] rfl rfl (by kernel_rfl) (fun _ _ _ h=>h) (Or.inl ⟨by rfl,?_⟩) hHeld ?_ ?_
                rotate_left
                · intro w' ⟨s0,s1⟩
                  go_simp
                  with_reducible rfl
                rotate_left
                · simp only [Act.put,List.setIfInBounds_toArray,List.set_cons_zero,List.set_cons_succ,i64_w,i32_w]
                  rfl
                refine pure_ (i:=1) (N:=(some 69)) (v:=?_) (a':=?_) #[true,true,false,false,false,false,false,false,false,false,false,false,false,false] rfl rfl (by kernel_rfl) (fun _ _ _ h=>h) (Or.inl ⟨by rfl,?_⟩) ?_ ?_
                rotate_left
                · intro w'
                  go_simp
                  with_reducible rfl
                rotate_left
                · simp only [Act.put,List.setIfInBounds_toArray,List.set_cons_zero,List.set_cons_succ,i64_w,i32_w]
                  rfl
                refine pure_ (i:=2) (N:=(some 70)) (v:=?_) (a':=?_) #[true,true,true,false,false,false,false,false,false,false,false,false,false,false] rfl rfl (by kernel_rfl) (fun _ _ _ h=>h) (Or.inl ⟨by rfl,?_⟩) ?_ ?_
                rotate_left
                · intro w'
                  go_simp
                  with_reducible rfl
                rotate_left
                · simp only [Act.put,List.setIfInBounds_toArray,List.set_cons_zero,List.set_cons_succ,i64_w,i32_w]
                  rfl
                refine pure_ (i:=3) (N:=(some 71)) (v:=?_) (a':=?_) #[true,true,true,true,false,false,false,false,false,false,false,false,false,false] rfl rfl (by kernel_rfl) (fun _ _ _ h=>h) (Or.inl ⟨by rfl,?_⟩) ?_ ?_
                rotate_left
                · intro w'
                  go_simp
                  with_reducible rfl
                rotate_left
                · simp only [Act.put,List.setIfInBounds_toArray,List.set_cons_zero,List.set_cons_succ,i64_w,i32_w]
                  rfl
                refine pure_ (i:=4) (N:=(some 72)) (v:=?_) (a':=?_) #[true,true,true,true,true,false,false,false,false,false,false,false,false,false] rfl rfl (by kernel_rfl) (fun _ _ _ h=>h) (Or.inl ⟨by rfl,?_⟩) ?_ ?_
                rotate_left
                · intro w'
                  go_simp
                  with_reducible rfl
                rotate_left
                · simp only [Act.put,List.setIfInBounds_toArray,List.set_cons_zero,List.set_cons_succ,i64_w,i32_w]
                  rfl
                refine pure_ (i:=5) (N:=(some 73)) (v:=?_) (a':=?_) #[true,true,true,true,true,true,false,false,false,false,false,false,false,false] rfl rfl (by kernel_rfl) (fun _ _ _ h=>h) (Or.inl ⟨by rfl,?_⟩) ?_ ?_
                rotate_left
                · intro w'
                  go_simp
                  with_reducible rfl
                rotate_left
                · simp only [Act.put,List.setIfInBounds_toArray,List.set_cons_zero,List.set_cons_succ,i64_w,i32_w]
                  rfl
                refine take_ (i:=6) (N:=(some 74)) (v:=?_) (a':=?_) #[true,true,true,true,true,true,true,false,false,false,false,false,false,false] rfl rfl (by kernel_rfl) (fun _ _ _ h=>h) (Or.inl ⟨by rfl,?_⟩) hHeld ?_ ?_
                rotate_left
                · intro w' ⟨s0,s1⟩
                  go_simp
                  with_reducible rfl
                rotate_left
                · simp only [Act.put,List.setIfInBounds_toArray,List.set_cons_zero,List.set_cons_succ,i64_w,i32_w]
                  rfl
                refine pure_ (i:=7) (N:=(some 75)) (v:=?_) (a':=?_) #[true,true,true,true,true,true,true,true,false,false,false,false,false,false] rfl rfl (by kernel_rfl) (fun _ _ _ h=>h) (Or.inl ⟨by rfl,?_⟩) ?_ ?_
                rotate_left
                · intro w'
                  go_simp
                  with_reducible rfl
                rotate_left
                · simp only [Act.put,List.setIfInBounds_toArray,List.set_cons_zero,List.set_cons_succ,i64_w,i32_w]
                  rfl
                refine one_ (i:=8) (N:=(some 76)) #[true,true,true,true,true,true,true,true,true,false,false,false,false,false] rfl rfl (by kernel_rfl) (by decide) (fun K hK=>?_)
                refine goes_ Try.func123 (by kernel_rfl) rfl #[.agg #[.slice A0 s.length c0],.slice (some ⟨g1,0,none⟩) 12 c1,.slice E2 e0.f2.length f2,.slice B2 x.f2.length d2] (by rfl) rfl rfl (by (try simp only [List.map_toArray,List.map_cons,List.map_nil]);first|done|rfl) ?_
                refine (hcall).mono ?_
                rintro e W8 ⟨v,rfl,hf⟩
                refine ⟨_,rfl,?_⟩
                have hk:=hf.out.2.2.1
                have hki:=hf.out.2.1
                have HB8:=Aside0.mk (below_step HBB.out hf.out.1)
                have hgu:=Array.getElem?_eq_some_iff.1 HU.out
                have BX:=Aside0.mk (BX.out.step hf.out.2.2.1 (fun q=>by have:=RX.out.le.2.2;have:=HW4.out;have:=HWW.out;omega))
                have HU:=Aside0.mk ((hf.out.2.2.1.2 gu hgu.1 (fun q=>by have:=RX.out.le.2.2;have:=HGU.out;omega)).trans HU.out)
                have I1:=Aside0.mk (hf.out.2.1 _ _ I1.out)
                have I2:=Aside0.mk (hf.out.2.1 _ _ I2.out)
                have HB:=HB8
                replace hmc:=cellB HB.out M2.out
                clear hgu HB8
                refine hK.out _ _ ⟨BX.out.cell,hmc⟩ (fun hHeld=>?_)
                clear hK K hHeld
                refine norm_ (a':=?_) ?_ ?_
                rotate_left
                · show Act.put _ (some 76) _ = _
                  simp only [Act.put,List.setIfInBounds_toArray,List.set_cons_zero,List.set_cons_succ,i64_w,i32_w]
                  rfl
                refine pure_ (i:=9) (N:=(some 67)) (v:=?_) (a':=?_) #[true,true,true,true,true,true,true,true,true,true,false,false,false,false] rfl rfl (by kernel_rfl) (fun _ _ _ h=>h) (Or.inl ⟨by rfl,?_⟩) ?_ ?_
                rotate_left
                · intro w'
                  go_simp
                  with_reducible rfl
                rotate_left
                · simp only [Act.put,List.setIfInBounds_toArray,List.set_cons_zero,List.set_cons_succ,i64_w,i32_w]
                  rfl
                refine pure_ (i:=10) (N:=(some 77)) (v:=?_) (a':=?_) #[true,true,true,true,true,true,true,true,true,true,true,false,false,false] rfl rfl (by kernel_rfl) (fun _ _ _ h=>h) (Or.inl ⟨by rfl,?_⟩) ?_ ?_
                rotate_left
                · intro w'
                  go_simp
                  with_reducible rfl
                rotate_left
                · simp only [Act.put,List.setIfInBounds_toArray,List.set_cons_zero,List.set_cons_succ,i64_w,i32_w]
                  rfl
                refine pure_ (i:=11) (N:=(some 78)) (v:=?_) (a':=?_) #[true,true,true,true,true,true,true,true,true,true,true,true,false,false] rfl rfl (by kernel_rfl) (fun _ _ _ h=>h) (Or.inl ⟨by rfl,?_⟩) ?_ ?_
                rotate_left
                · intro w'
                  go_simp
                  with_reducible rfl
                rotate_left
                · simp only [Act.put,List.setIfInBounds_toArray,List.set_cons_zero,List.set_cons_succ,i64_w,i32_w]
                  rfl
                refine pure_ (i:=12) (N:=(some 17)) (v:=?_) (a':=?_) #[true,true,true,true,true,true,true,true,true,true,true,true,true,false] rfl rfl (by kernel_rfl) (fun _ _ _ h=>h) (Or.inl ⟨by rfl,?_⟩) ?_ ?_
                rotate_left
                · intro w'
                  go_simp
                  with_reducible rfl
                rotate_left
                · simp only [Act.put,List.setIfInBounds_toArray,List.set_cons_zero,List.set_cons_succ,i64_w,i32_w]
                  rfl
                refine pure_ (i:=13) (N:=(some 18)) (v:=?_) (a':=?_) #[true,true,true,true,true,true,true,true,true,true,true,true,true,true] rfl rfl (by kernel_rfl) (fun _ _ _ h=>h) (Or.inl ⟨by rfl,?_⟩) ?_ ?_
                rotate_left
                · intro w'
                  go_simp
                  with_reducible rfl
                rotate_left
                · simp only [Act.put,List.setIfInBounds_toArray,List.set_cons_zero,List.set_cons_succ,i64_w,i32_w]
                  rfl
                refine done_ (by kernel_rfl) ?_
                have HF:=Aside0.mk hf.out.2.2.2
                have HD8:=Aside0.mk hf.out.1
                clear hf hmc hHeld hcall RX HD6
                have hsg:=HSG2.out
                cases ok2 with
                | false =>
                  simp only [Bool.false_eq_true,if_false] at hsg
                  have HSG3:=Aside0.mk hsg
                  clear hsg HF HD8
                  go_wp2
                  go_roundw
                  case rel=>exact ⟨1,1,by omega,rfl,HSG3.out,BX.out,HU.out,I1.out,I2.out,HB.out⟩
                  case measure=>simp [intOf]
                | true =>
                  simp only [if_true] at hsg
                  obtain ⟨⟨ob,ok3⟩,hr3,hsg⟩:=Option.bind_eq_some_iff.1 hsg
                  simp only at hsg
                  obtain ⟨rfl,hl3,hrx⟩:=HF.out rfl
                  have RX:=Aside0.mk (hrx.lower (Nat.le_trans HBS.out HW4.out))
                  have HG:=Aside0.mk hrx.le.2.2
                  have RL3:=Aside0.mk hl3
                  have hc1:=RX.out.le.1
                  simp only at hl3
                  have HC1:Aside0 (12 ≤ c1):=⟨by have:=RL3.out;simp only at this hc1;omega⟩
                  have HR3:=Aside0.mk hr3
                  have HSG3:=Aside0.mk hsg
                  clear hl3 hrx hr3 hsg HF HM2 HSG2 hc1
                  have hcall:=IH.out (kk + 1) g1 c1 mb2 (ob,ok3) W8 HK1.out (Kd.C_below HS.out HB.out) (Kd.C_below HC.out HB.out) (Kd.C_below HD.out HB.out) (Nat.le_trans HBS.out HB.out.size) RX.out RL3.out HC1.out HR3.out
                  rw [show ((kk + 1:Nat):Int) = (kk:Int) + 1 from by omega] at hcall
                  have hbc:=BX.out.cell
                  go_wp2_with (go_at_call 98;refine hcall.mono ?_)
                  first|rintro e W9 v rfl hf|rintro e W9 ⟨v,rfl,hf⟩
                  have hd:=hf.out.1
                  have HW8:=Aside0.mk HB.out.size
                  have BX:=Aside0.mk (BX.out.below hd)
                  have HU:=Aside0.mk ((hd.block gu (Array.getElem?_eq_some_iff.1 HU.out).1).trans HU.out)
                  have I1:=Aside0.mk (Kd.C_below I1.out hd)
                  have I2:=Aside0.mk (Kd.C_below I2.out hd)
                  have HB:=Aside0.mk (below_step HB.out hd)
                  clear hd hcall hbc
                  have hsg:=HSG3.out
                  cases ok3 with
                  | true =>
                    simp only [if_true,Option.some.injEq] at hsg
                    subst hsg
                    have hrow:=ROW.out
                    simp only [Option.some.injEq] at hrow
                    subst hrow
                    have h:=HH.out
                    simp only [Option.some.injEq] at h
                    subst h
                    have HF:=Aside0.mk (hf.out.2 rfl)
                    clear hf h
                    go_wp2
                    go_ret2
                    refine ⟨_,rfl,⟨HB.out,fun _=>?_⟩⟩
                    obtain ⟨g,c',rfl,q1,q2,q3,q4⟩:=HF.out
                    refine ⟨g,c',rfl,q1,q2,q3,.inr ?_⟩
                    rcases q4 with rfl|q4
                    · have:=HG.out;have:=HW4.out;omega
                    · have:=HW8.out;omega
                  | false =>
                    simp only [Bool.false_eq_true,if_false] at hsg
                    have HSG4:=Aside0.mk hsg
                    clear hsg hf
                    go_wp2
                    go_roundw
                    case rel=>exact ⟨1,1,by omega,rfl,HSG4.out,BX.out,HU.out,I1.out,I2.out,HB.out⟩
                    case measure=>simp [intOf]
            · skip
              simp only [spec_l7Subsumes.sides] at hsg
              simp only [Nat.reduceAdd,reduceIte,Nat.one_ne_zero,Nat.succ_ne_zero] at hsg
              obtain ⟨b1,hcp,hsg⟩:=Option.bind_eq_some_iff.1 hsg
              by_cases gl:b1.length = 12
              rotate_left
              · rw [if_neg gl] at hsg
                cases hsg
              rw [if_pos gl] at hsg
              obtain ⟨⟨mb1,ok1⟩,hm1,hsg⟩:=Option.bind_eq_some_iff.1 hsg
              simp only at hsg
              have HCP:=Aside0.mk hcp
              have HL1:=Aside0.mk gl
              have HM1:=Aside0.mk hm1
              have HSG:=Aside0.mk hsg
              clear hcp gl hm1 hsg hbx hB hU i1 i2
              go_upto_region 7 with fail
              go_region
              clear q0 m0
              have hd:Below wr.heap.size wr wr.drew:=below_drew1 (Below.refl _ _)
              have BX:=Aside0.mk (BX.out.below hd)
              have HU:=Aside0.mk ((hd.block gu (Array.getElem?_eq_some_iff.1 HU.out).1).trans HU.out)
              have I1:=Aside0.mk (Kd.C_below I1.out hd)
              have I2:=Aside0.mk (Kd.C_below I2.out hd)
              have HB:=Aside0.mk (below_step HB.out hd)
              clear hd
              generalize wr.drew = W2d at BX HU I1 I2 HB ⊢
              have q0:W2d.cell? ⟨gu,0,none⟩ = some (.bool x.f0):=(blk_cell HU.out 0).trans rfl
              have q1:W2d.cell? ⟨gu,1,none⟩ = some (.slice B1 x.f1.length d1):=(blk_cell HU.out 1).trans rfl
              have q2:W2d.cell? ⟨gu,2,none⟩ = some (.slice B2 x.f2.length d2):=(blk_cell HU.out 2).trans rfl
              have hcall:=spec_l6Sides.walk x.f0 B1 x.f1.length d1 B2 x.f2.length d2 1 W2d
              go_wp2_with (go_at_call 122;refine hcall.mono ?_)
              first|rintro e W3 rfl hd|rintro e W3 ⟨rfl,hd⟩
              have hd:=hd.out
              have BX:=Aside0.mk (BX.out.below hd)
              have HU:=Aside0.mk ((hd.block gu (Array.getElem?_eq_some_iff.1 HU.out).1).trans HU.out)
              have I1:=Aside0.mk (Kd.C_below I1.out hd)
              have I2:=Aside0.mk (Kd.C_below I2.out hd)
              have HB:=Aside0.mk (below_step HB.out hd)
              clear hd hcall q0 q1 q2
              go_wp2
              have hmc:=cellB HB.out M1.out
              refine start_ (n:=15) (S:=fun w'=>w'.cell? ⟨w.heap.size,0,none⟩ = some (.slice A0 s.length c0) ∧ w'.cell? ⟨(ac.add (kk * 3)).block,(ac.add (kk * 3)).off + 1,none⟩ = some (.slice E1 e0.f1.length f1)) (ds:=[]) #[false,false,false,false,false,false,false,false,false,false,false,false,false,false,false] (by kernel_rfl) rfl rfl ⟨BX.out.cell,hmc⟩ (fun hHeld=>?_)
              have hd:Below W3.heap.size W3 W3.drew:=below_drew1 (Below.refl _ _)
              have BX:=Aside0.mk (BX.out.below hd)
              have HU:=Aside0.mk ((hd.block gu (Array.getElem?_eq_some_iff.1 HU.out).1).trans HU.out)
              have I1:=Aside0.mk (Kd.C_below I1.out hd)
              have I2:=Aside0.mk (Kd.C_below I2.out hd)
              have HB:=Aside0.mk (below_step HB.out hd)
              replace hmc:=cellB hd hmc
              clear hd
              generalize W3.drew = W4 at BX HU I1 I2 HB hmc hHeld ⊢
              have HBB:=HB
              have HWW:=Aside0.mk BX.out.lt
              have HGU:=Aside0.mk (Array.getElem?_eq_some_iff.1 HU.out).1
              have hcall:=spec_l7Copy.calls k (some ⟨g0,0,none⟩) cb b b1 W4 (ci_kd (HR.out.below HB.out).two (by rw [HL.out];omega)) (by rw [HL.out];exact hcb) HCP.out
              rw [HL.out] at hcall
              refine take_ (i:=0) (N:=(some 53)) (v:=?_) (a':=?_) #[true,false,false,false,false,false,false,false,false,false,false,false,false,false,false] rfl rfl (by kernel_rfl) (fun _ _ _ h=>h) (Or.inl ⟨by rfl,?_⟩) hHeld ?_ ?_
              rotate_left
              · intro w' ⟨s0,s1⟩
                go_simp
                with_reducible rfl
              rotate_left
              · simp only [Act.put,List.setIfInBounds_toArray,List.set_cons_zero,List.set_cons_succ,i64_w,i32_w]
                rfl
              refine pure_ (i:=1) (N:=(some 54)) (v:=?_) (a':=?_) #[true,true,false,false,false,false,false,false,false,false,false,false,false,false,false] rfl rfl (by kernel_rfl) (fun _ _ _ h=>h) (Or.inl ⟨by rfl,?_⟩) ?_ ?_
              rotate_left
              · intro w'
                go_simp
                with_reducible rfl
              rotate_left
              · simp only [Act.put,List.setIfInBounds_toArray,List.set_cons_zero,List.set_cons_succ,i64_w,i32_w]
                rfl
              refine pure_ (i:=3) (N:=(some 56)) (v:=?_) (a':=?_) #[true,true,false,true,false,false,false,false,false,false,false,false,false,false,false] rfl rfl (by kernel_rfl) (fun _ _ _ h=>h) (Or.inl ⟨by rfl,?_⟩) ?_ ?_
              rotate_left
              · intro w'
                go_simp
                with_reducible rfl
              rotate_left
              · simp only [Act.put,List.setIfInBounds_toArray,List.set_cons_zero,List.set_cons_succ,i64_w,i32_w]
                rfl
              refine pure_ (i:=4) (N:=(some 57)) (v:=?_) (a':=?_) #[true,true,false,true,true,false,false,false,false,false,false,false,false,false,false] rfl rfl (by kernel_rfl) (fun _ _ _ h=>h) (Or.inl ⟨by rfl,?_⟩) ?_ ?_
              rotate_left
              · intro w'
                go_simp
                with_reducible rfl
              rotate_left
              · simp only [Act.put,List.setIfInBounds_toArray,List.set_cons_zero,List.set_cons_succ,i64_w,i32_w]
                rfl
              refine pure_ (i:=5) (N:=(some 58)) (v:=?_) (a':=?_) #[true,true,false,true,true,true,false,false,false,false,false,false,false,false,false] rfl rfl (by kernel_rfl) (fun _ _ _ h=>h) (Or.inl ⟨by rfl,?_⟩) ?_ ?_
              rotate_left
              · intro w'
                go_simp
                with_reducible rfl
              rotate_left
              · simp only [Act.put,List.setIfInBounds_toArray,List.set_cons_zero,List.set_cons_succ,i64_w,i32_w]
                rfl
              refine pure_ (i:=6) (N:=(some 59)) (v:=?_) (a':=?_) #[true,true,false,true,true,true,true,false,false,false,false,false,false,false,false] rfl rfl (by kernel_rfl) (fun _ _ _ h=>h) (Or.inl ⟨by rfl,?_⟩) ?_ ?_
              rotate_left
              · intro w'
                go_simp
                with_reducible rfl
              rotate_left
              · simp only [Act.put,List.setIfInBounds_toArray,List.set_cons_zero,List.set_cons_succ,i64_w,i32_w]
                rfl
              refine take_ (i:=7) (N:=(some 60)) (v:=?_) (a':=?_) #[true,true,false,true,true,true,true,true,false,false,false,false,false,false,false] rfl rfl (by kernel_rfl) (fun _ _ _ h=>h) (Or.inl ⟨by rfl,?_⟩) hHeld ?_ ?_
              rotate_left
              · intro w' ⟨s0,s1⟩
                go_simp
                with_reducible rfl
              rotate_left
              · simp only [Act.put,List.setIfInBounds_toArray,List.set_cons_zero,List.set_cons_succ,i64_w,i32_w]
                rfl
              refine pure_ (i:=8) (N:=(some 61)) (v:=?_) (a':=?_) #[true,true,false,true,true,true,true,true,true,false,false,false,false,false,false] rfl rfl (by kernel_rfl) (fun _ _ _ h=>h) (Or.inl ⟨by rfl,?_⟩) ?_ ?_
              rotate_left
              · intro w'
                go_simp
                with_reducible rfl
              rotate_left
              · simp only [Act.put,List.setIfInBounds_toArray,List.set_cons_zero,List.set_cons_succ,i64_w,i32_w]
                rfl
              refine one_ (i:=2) (N:=(some 55)) #[true,true,true,true,true,true,true,true,true,false,false,false,false,false,false] rfl rfl (by kernel_rfl) (by decide) (fun K hK=>?_)
              refine goes_ Try.func124 (by kernel_rfl) rfl #[.slice (some ⟨g0,0,none⟩) 12 cb] (by rfl) rfl rfl (by (try simp only [List.map_toArray,List.map_cons,List.map_nil]);first|done|rfl) ?_
              refine (hcall).mono ?_
              rintro e W5 ⟨v,rfl,hr,hd⟩
              refine ⟨_,rfl,?_⟩
              obtain ⟨g1,c1,rfl,hrx⟩:=rowsX_of_S hr (by have:=HL1.out;omega)
              rw [HL1.out]
              have RX:=Aside0.mk hrx
              have HD5:=Aside0.mk hd
              clear hr hrx hcall hd
              have hcall:=spec_l2Match.walk k A0 c0 s g1 c1 b1 E1 f1 e0.f1 B2 d2 x.f2 (mb1,ok1) W4 W5 HD5.out RX.out.le.2.2 (Kd.C_below (Kd.C_below HS.out HB.out) HD5.out) hs2 RX.out (Kd.C_below (Kd.C_below J1.out HB.out) HD5.out) n1_ (Kd.C_below I2.out HD5.out) l2_ XM.out.2 EM.out.1 HM1.out
              rw [HL1.out] at hcall
              refine hK.out _ _ ⟨(BX.out.below HD5.out).cell,cellB HD5.out hmc⟩ (fun hHeld=>?_)
              clear hK K hHeld
              refine norm_ (a':=?_) ?_ ?_
              rotate_left
              · show Act.put _ (some 55) _ = _
                simp only [Act.put,List.setIfInBounds_toArray,List.set_cons_zero,List.set_cons_succ,i64_w,i32_w]
                rfl
              refine one_ (i:=9) (N:=(some 62)) #[true,true,true,true,true,true,true,true,true,true,false,false,false,false,false] rfl rfl (by kernel_rfl) (by decide) (fun K hK=>?_)
              refine goes_ Try.func123 (by kernel_rfl) rfl #[.agg #[.slice A0 s.length c0],.slice (some ⟨g1,0,none⟩) 12 c1,.slice E1 e0.f1.length f1,.slice B2 x.f2.length d2] (by rfl) rfl rfl (by (try simp only [List.map_toArray,List.map_cons,List.map_nil]);first|done|rfl) ?_
              refine (hcall).mono ?_
              rintro e W6 ⟨v,rfl,hf⟩
              refine ⟨_,rfl,?_⟩
              have hd:=hf.out.1
              have HW4:=Aside0.mk HB.out.size
              have BX:=Aside0.mk (BX.out.below hd)
              have HU:=Aside0.mk ((hd.block gu (Array.getElem?_eq_some_iff.1 HU.out).1).trans HU.out)
              have I1:=Aside0.mk (Kd.C_below I1.out hd)
              have I2:=Aside0.mk (Kd.C_below I2.out hd)
              have HB:=Aside0.mk (below_step HB.out hd)
              replace hmc:=cellB hd hmc
              refine hK.out _ _ ⟨BX.out.cell,hmc⟩ (fun hHeld=>?_)
              clear hK K hHeld
              refine norm_ (a':=?_) ?_ ?_
              rotate_left
              · show Act.put _ (some 62) _ = _
                simp only [Act.put,List.setIfInBounds_toArray,List.set_cons_zero,List.set_cons_succ,i64_w,i32_w]
                rfl
              refine pure_ (i:=10) (N:=(some 52)) (v:=?_) (a':=?_) #[true,true,true,true,true,true,true,true,true,true,true,false,false,false,false] rfl rfl (by kernel_rfl) (fun _ _ _ h=>h) (Or.inl ⟨by rfl,?_⟩) ?_ ?_
              rotate_left
              · intro w'
                go_simp
                with_reducible rfl
              rotate_left
              · simp only [Act.put,List.setIfInBounds_toArray,List.set_cons_zero,List.set_cons_succ,i64_w,i32_w]
                rfl
              refine pure_ (i:=11) (N:=(some 63)) (v:=?_) (a':=?_) #[true,true,true,true,true,true,true,true,true,true,true,true,false,false,false] rfl rfl (by kernel_rfl) (fun _ _ _ h=>h) (Or.inl ⟨by rfl,?_⟩) ?_ ?_
              rotate_left
              · intro w'
                go_simp
                with_reducible rfl
              rotate_left
              · simp only [Act.put,List.setIfInBounds_toArray,List.set_cons_zero,List.set_cons_succ,i64_w,i32_w]
                rfl
              refine pure_ (i:=12) (N:=(some 64)) (v:=?_) (a':=?_) #[true,true,true,true,true,true,true,true,true,true,true,true,true,false,false] rfl rfl (by kernel_rfl) (fun _ _ _ h=>h) (Or.inl ⟨by rfl,?_⟩) ?_ ?_
              rotate_left
              · intro w'
                go_simp
                with_reducible rfl
              rotate_left
              · simp only [Act.put,List.setIfInBounds_toArray,List.set_cons_zero,List.set_cons_succ,i64_w,i32_w]
                rfl
              refine pure_ (i:=13) (N:=(some 17)) (v:=?_) (a':=?_) #[true,true,true,true,true,true,true,true,true,true,true,true,true,true,false] rfl rfl (by kernel_rfl) (fun _ _ _ h=>h) (Or.inl ⟨by rfl,?_⟩) ?_ ?_
              rotate_left
              · intro w'
                go_simp
                with_reducible rfl
              rotate_left
              · simp only [Act.put,List.setIfInBounds_toArray,List.set_cons_zero,List.set_cons_succ,i64_w,i32_w]
                rfl
              refine pure_ (i:=14) (N:=(some 18)) (v:=?_) (a':=?_) #[true,true,true,true,true,true,true,true,true,true,true,true,true,true,true] rfl rfl (by kernel_rfl) (fun _ _ _ h=>h) (Or.inl ⟨by rfl,?_⟩) ?_ ?_
              rotate_left
              · intro w'
                go_simp
                with_reducible rfl
              rotate_left
              · simp only [Act.put,List.setIfInBounds_toArray,List.set_cons_zero,List.set_cons_succ,i64_w,i32_w]
                rfl
              refine done_ (by kernel_rfl) ?_
              have HF:=Aside0.mk hf.out.2.2.2
              have HD6:=Aside0.mk hf.out.1
              clear hf hmc hHeld hcall RX HD5 hd
              have hsg:=HSG.out
              cases ok1 with
              | false =>
                simp only [Bool.false_eq_true,if_false] at hsg
                have HSG2:=Aside0.mk hsg
                clear hsg HF HD6
                go_wp2
                go_roundw
                case rel=>exact ⟨2,0,by omega,rfl,HSG2.out,BX.out,HU.out,I1.out,I2.out,HB.out⟩
                case measure=>simp [intOf]
              | true =>
                simp only [if_true] at hsg
                obtain ⟨⟨mb2,ok2⟩,hm2,hsg⟩:=Option.bind_eq_some_iff.1 hsg
                simp only at hsg
                obtain ⟨rfl,hl2,hrx⟩:=HF.out rfl
                have RX:=Aside0.mk hrx
                have RL:=Aside0.mk hl2
                have HM2:=Aside0.mk hm2
                have HSG2:=Aside0.mk hsg
                clear hl2 hrx hm2 hsg HF HM1 HSG HCP
                go_wp2
                have hmc:=cellB HB.out M2.out
                refine start_ (n:=14) (S:=fun w'=>w'.cell? ⟨w.heap.size,0,none⟩ = some (.slice A0 s.length c0) ∧ w'.cell? ⟨(ac.add (kk * 3)).block,(ac.add (kk * 3)).off + 2,none⟩ = some (.slice E2 e0.f2.length f2)) (ds:=[]) #[false,false,false,false,false,false,false,false,false,false,false,false,false,false] (by kernel_rfl) rfl rfl ⟨BX.out.cell,hmc⟩ (fun hHeld=>?_)
                have hd:Below W6.heap.size W6 W6.drew:=below_drew1 (Below.refl _ _)
                have BX:=Aside0.mk (BX.out.below hd)
                have HU:=Aside0.mk ((hd.block gu (Array.getElem?_eq_some_iff.1 HU.out).1).trans HU.out)
                have I1:=Aside0.mk (Kd.C_below I1.out hd)
                have I2:=Aside0.mk (Kd.C_below I2.out hd)
                have HB:=Aside0.mk (below_step HB.out hd)
                replace hmc:=cellB hd hmc
                have RX:=Aside0.mk (RX.out.below hd)
                have HD6:=Aside0.mk (below_step HD6.out hd)
                clear hd
                generalize W6.drew = W7 at BX HU I1 I2 HB hmc RX HD6 hHeld ⊢
                have hcall:=spec_l2Match.walk k A0 c0 s g1 c1 mb1 E2 f2 e0.f2 B1 d1 x.f1 (mb2,ok2) W4 W7 HD6.out RX.out.le.2.2 (Kd.C_below HS.out HB.out) hs2 RX.out (Kd.C_below J2.out HB.out) n2_ I1.out l1_ XM.out.1 EM.out.2 HM2.out
                rw [RL.out] at hcall
                refine take_ (i:=0) (N:=(some 68)) (v:=?_) (a':=?_) #[true,false,false,false,false,false,false,false,false,false,false,false,false,false] rfl rfl (by kernel_rfl) (fun _ _ _ h=>h) (Or.inl ⟨by rfl,?_⟩) hHeld ?_ ?_
                rotate_left
                · intro w' ⟨s0,s1⟩
                  go_simp
                  with_reducible rfl
                rotate_left
                · simp only [Act.put,List.setIfInBounds_toArray,List.set_cons_zero,List.set_cons_succ,i64_w,i32_w]
                  rfl
                refine pure_ (i:=1) (N:=(some 69)) (v:=?_) (a':=?_) #[true,true,false,false,false,false,false,false,false,false,false,false,false,false] rfl rfl (by kernel_rfl) (fun _ _ _ h=>h) (Or.inl ⟨by rfl,?_⟩) ?_ ?_
                rotate_left
                · intro w'
                  go_simp
                  with_reducible rfl
                rotate_left
                · simp only [Act.put,List.setIfInBounds_toArray,List.set_cons_zero,List.set_cons_succ,i64_w,i32_w]
                  rfl
                refine pure_ (i:=2) (N:=(some 70)) (v:=?_) (a':=?_) #[true,true,true,false,false,false,false,false,false,false,false,false,false,false] rfl rfl (by kernel_rfl) (fun _ _ _ h=>h) (Or.inl ⟨by rfl,?_⟩) ?_ ?_
                rotate_left
                · intro w'
                  go_simp
                  with_reducible rfl
                rotate_left
                · simp only [Act.put,List.setIfInBounds_toArray,List.set_cons_zero,List.set_cons_succ,i64_w,i32_w]
                  rfl
                refine pure_ (i:=3) (N:=(some 71)) (v:=?_) (a':=?_) #[true,true,true,true,false,false,false,false,false,false,false,false,false,false] rfl rfl (by kernel_rfl) (fun _ _ _ h=>h) (Or.inl ⟨by rfl,?_⟩) ?_ ?_
                rotate_left
                · intro w'
                  go_simp
                  with_reducible rfl
                rotate_left
                · simp only [Act.put,List.setIfInBounds_toArray,List.set_cons_zero,List.set_cons_succ,i64_w,i32_w]
                  rfl
                refine pure_ (i:=4) (N:=(some 72)) (v:=?_) (a':=?_) #[true,true,true,true,true,false,false,false,false,false,false,false,false,false] rfl rfl (by kernel_rfl) (fun _ _ _ h=>h) (Or.inl ⟨by rfl,?_⟩) ?_ ?_
                rotate_left
                · intro w'
                  go_simp
                  with_reducible rfl
                rotate_left
                · simp only [Act.put,List.setIfInBounds_toArray,List.set_cons_zero,List.set_cons_succ,i64_w,i32_w]
                  rfl
                refine pure_ (i:=5) (N:=(some 73)) (v:=?_) (a':=?_) #[true,true,true,true,true,true,false,false,false,false,false,false,false,false] rfl rfl (by kernel_rfl) (fun _ _ _ h=>h) (Or.inl ⟨by rfl,?_⟩) ?_ ?_
                rotate_left
                · intro w'
                  go_simp
                  with_reducible rfl
                rotate_left
                · simp only [Act.put,List.setIfInBounds_toArray,List.set_cons_zero,List.set_cons_succ,i64_w,i32_w]
                  rfl
                refine take_ (i:=6) (N:=(some 74)) (v:=?_) (a':=?_) #[true,true,true,true,true,true,true,false,false,false,false,false,false,false] rfl rfl (by kernel_rfl) (fun _ _ _ h=>h) (Or.inl ⟨by rfl,?_⟩) hHeld ?_ ?_
                rotate_left
                · intro w' ⟨s0,s1⟩
                  go_simp
                  with_reducible rfl
                rotate_left
                · simp only [Act.put,List.setIfInBounds_toArray,List.set_cons_zero,List.set_cons_succ,i64_w,i32_w]
                  rfl
                refine pure_ (i:=7) (N:=(some 75)) (v:=?_) (a':=?_) #[true,true,true,true,true,true,true,true,false,false,false,false,false,false] rfl rfl (by kernel_rfl) (fun _ _ _ h=>h) (Or.inl ⟨by rfl,?_⟩) ?_ ?_
                rotate_left
                · intro w'
                  go_simp
                  with_reducible rfl
                rotate_left
                · simp only [Act.put,List.setIfInBounds_toArray,List.set_cons_zero,List.set_cons_succ,i64_w,i32_w]
                  rfl
                refine one_ (i:=8) (N:=(some 76)) #[true,true,true,true,true,true,true,true,true,false,false,false,false,false] rfl rfl (by kernel_rfl) (by decide) (fun K hK=>?_)
                refine goes_ Try.func123 (by kernel_rfl) rfl #[.agg #[.slice A0 s.length c0],.slice (some ⟨g1,0,none⟩) 12 c1,.slice E2 e0.f2.length f2,.slice B1 x.f1.length d1] (by rfl) rfl rfl (by (try simp only [List.map_toArray,List.map_cons,List.map_nil]);first|done|rfl) ?_
                refine (hcall).mono ?_
                rintro e W8 ⟨v,rfl,hf⟩
                refine ⟨_,rfl,?_⟩
                have hk:=hf.out.2.2.1
                have hki:=hf.out.2.1
                have HB8:=Aside0.mk (below_step HBB.out hf.out.1)
                have hgu:=Array.getElem?_eq_some_iff.1 HU.out
                have BX:=Aside0.mk (BX.out.step hf.out.2.2.1 (fun q=>by have:=RX.out.le.2.2;have:=HW4.out;have:=HWW.out;omega))
                have HU:=Aside0.mk ((hf.out.2.2.1.2 gu hgu.1 (fun q=>by have:=RX.out.le.2.2;have:=HGU.out;omega)).trans HU.out)
                have I1:=Aside0.mk (hf.out.2.1 _ _ I1.out)
                have I2:=Aside0.mk (hf.out.2.1 _ _ I2.out)
                have HB:=HB8
                replace hmc:=cellB HB.out M2.out
                clear hgu HB8
                refine hK.out _ _ ⟨BX.out.cell,hmc⟩ (fun hHeld=>?_)
                clear hK K hHeld
                refine norm_ (a':=?_) ?_ ?_
                rotate_left
                · show Act.put _ (some 76) _ = _
                  simp only [Act.put,List.setIfInBounds_toArray,List.set_cons_zero,List.set_cons_succ,i64_w,i32_w]
                  rfl
                refine pure_ (i:=9) (N:=(some 67)) (v:=?_) (a':=?_) #[true,true,true,true,true,true,true,true,true,true,false,false,false,false] rfl rfl (by kernel_rfl) (fun _ _ _ h=>h) (Or.inl ⟨by rfl,?_⟩) ?_ ?_
                rotate_left
                · intro w'
                  go_simp
                  with_reducible rfl
                rotate_left
                · simp only [Act.put,List.setIfInBounds_toArray,List.set_cons_zero,List.set_cons_succ,i64_w,i32_w]
                  rfl
                refine pure_ (i:=10) (N:=(some 77)) (v:=?_) (a':=?_) #[true,true,true,true,true,true,true,true,true,true,true,false,false,false] rfl rfl (by kernel_rfl) (fun _ _ _ h=>h) (Or.inl ⟨by rfl,?_⟩) ?_ ?_
                rotate_left
                · intro w'
                  go_simp
                  with_reducible rfl
                rotate_left
                · simp only [Act.put,List.setIfInBounds_toArray,List.set_cons_zero,List.set_cons_succ,i64_w,i32_w]
                  rfl
                refine pure_ (i:=11) (N:=(some 78)) (v:=?_) (a':=?_) #[true,true,true,true,true,true,true,true,true,true,true,true,false,false] rfl rfl (by kernel_rfl) (fun _ _ _ h=>h) (Or.inl ⟨by rfl,?_⟩) ?_ ?_
                rotate_left
                · intro w'
                  go_simp
                  with_reducible rfl
                rotate_left
                · simp only [Act.put,List.setIfInBounds_toArray,List.set_cons_zero,List.set_cons_succ,i64_w,i32_w]
                  rfl
                refine pure_ (i:=12) (N:=(some 17)) (v:=?_) (a':=?_) #[true,true,true,true,true,true,true,true,true,true,true,true,true,false] rfl rfl (by kernel_rfl) (fun _ _ _ h=>h) (Or.inl ⟨by rfl,?_⟩) ?_ ?_
                rotate_left
                · intro w'
                  go_simp
                  with_reducible rfl
                rotate_left
                · simp only [Act.put,List.setIfInBounds_toArray,List.set_cons_zero,List.set_cons_succ,i64_w,i32_w]
                  rfl
                refine pure_ (i:=13) (N:=(some 18)) (v:=?_) (a':=?_) #[true,true,true,true,true,true,true,true,true,true,true,true,true,true] rfl rfl (by kernel_rfl) (fun _ _ _ h=>h) (Or.inl ⟨by rfl,?_⟩) ?_ ?_
                rotate_left
                · intro w'
                  go_simp
                  with_reducible rfl
                rotate_left
                · simp only [Act.put,List.setIfInBounds_toArray,List.set_cons_zero,List.set_cons_succ,i64_w,i32_w]
                  rfl
                refine done_ (by kernel_rfl) ?_
                have HF:=Aside0.mk hf.out.2.2.2
                have HD8:=Aside0.mk hf.out.1
                clear hf hmc hHeld hcall RX HD6
                have hsg:=HSG2.out
                cases ok2 with
                | false =>
                  simp only [Bool.false_eq_true,if_false] at hsg
                  have HSG3:=Aside0.mk hsg
                  clear hsg HF HD8
                  go_wp2
                  go_roundw
                  case rel=>exact ⟨2,0,by omega,rfl,HSG3.out,BX.out,HU.out,I1.out,I2.out,HB.out⟩
                  case measure=>simp [intOf]
                | true =>
                  simp only [if_true] at hsg
                  obtain ⟨⟨ob,ok3⟩,hr3,hsg⟩:=Option.bind_eq_some_iff.1 hsg
                  simp only at hsg
                  obtain ⟨rfl,hl3,hrx⟩:=HF.out rfl
                  have RX:=Aside0.mk (hrx.lower (Nat.le_trans HBS.out HW4.out))
                  have HG:=Aside0.mk hrx.le.2.2
                  have RL3:=Aside0.mk hl3
                  have hc1:=RX.out.le.1
                  simp only at hl3
                  have HC1:Aside0 (12 ≤ c1):=⟨by have:=RL3.out;simp only at this hc1;omega⟩
                  have HR3:=Aside0.mk hr3
                  have HSG3:=Aside0.mk hsg
                  clear hl3 hrx hr3 hsg HF HM2 HSG2 hc1
                  have hcall:=IH.out (kk + 1) g1 c1 mb2 (ob,ok3) W8 HK1.out (Kd.C_below HS.out HB.out) (Kd.C_below HC.out HB.out) (Kd.C_below HD.out HB.out) (Nat.le_trans HBS.out HB.out.size) RX.out RL3.out HC1.out HR3.out
                  rw [show ((kk + 1:Nat):Int) = (kk:Int) + 1 from by omega] at hcall
                  have hbc:=BX.out.cell
                  go_wp2_with (go_at_call 98;refine hcall.mono ?_)
                  first|rintro e W9 v rfl hf|rintro e W9 ⟨v,rfl,hf⟩
                  have hd:=hf.out.1
                  have HW8:=Aside0.mk HB.out.size
                  have BX:=Aside0.mk (BX.out.below hd)
                  have HU:=Aside0.mk ((hd.block gu (Array.getElem?_eq_some_iff.1 HU.out).1).trans HU.out)
                  have I1:=Aside0.mk (Kd.C_below I1.out hd)
                  have I2:=Aside0.mk (Kd.C_below I2.out hd)
                  have HB:=Aside0.mk (below_step HB.out hd)
                  clear hd hcall hbc
                  have hsg:=HSG3.out
                  cases ok3 with
                  | true =>
                    simp only [if_true,Option.some.injEq] at hsg
                    subst hsg
                    have hrow:=ROW.out
                    simp only [Option.some.injEq] at hrow
                    subst hrow
                    have h:=HH.out
                    simp only [Option.some.injEq] at h
                    subst h
                    have HF:=Aside0.mk (hf.out.2 rfl)
                    clear hf h
                    go_wp2
                    go_ret2
                    refine ⟨_,rfl,⟨HB.out,fun _=>?_⟩⟩
                    obtain ⟨g,c',rfl,q1,q2,q3,q4⟩:=HF.out
                    refine ⟨g,c',rfl,q1,q2,q3,.inr ?_⟩
                    rcases q4 with rfl|q4
                    · have:=HG.out;have:=HW4.out;omega
                    · have:=HW8.out;omega
                  | false =>
                    simp only [Bool.false_eq_true,if_false] at hsg
                    have HSG4:=Aside0.mk hsg
                    clear hsg hf
                    go_wp2
                    go_roundw
                    case rel=>exact ⟨2,0,by omega,rfl,HSG4.out,BX.out,HU.out,I1.out,I2.out,HB.out⟩
                    case measure=>simp [intOf]
            · simp only [spec_l7Subsumes.sides,Option.some.injEq] at hsg
              subst hsg
              have hrow:=ROW.out
              simp only at hrow
              have ROW2:=Aside0.mk hrow
              clear hrow hbx hB hU i1 i2
              go_upto_region 7 with fail
              go_region
              go_wp2
              go_roundw
              case rel=>exact ⟨i + 1,by omega,rfl,ROW2.out,BX.out,below_drew1 HB.out⟩
              case measure=>simp [intOf];omega
      · obtain rfl:i = d.length:=by omega
        rw [List.drop_length] at hrow
        simp only [spec_l7Subsumes.row,Option.some.injEq] at hrow
        subst hrow
        have h:=HH.out
        simp only [Option.some.injEq] at h
        subst h
        have HB:=Aside0.mk hB
        clear hbx hB h
        go_wp2
        go_ret2
        exact ⟨_,rfl,⟨HB.out,fun q=>by cases q⟩⟩
def spec_l7Sub.stay:Nat → Nat → List (List Int) → List (List Int)
  | 0,_,b=>b
  | m + 1,i,b=>spec_l7Sub.stay m (i + 1) (if b.getD i [] = [-1 - (i:Int)] then b.set i [] else b)
def spec_l7Sub.f (k:Nat) (l0_0:List Int) (l1 l2:List S72):Option (List (List Int) × Bool) :=
  if (l1 ++ l2).all (fun x=>decide (x.f1.length ≤ 1000000 ∧ x.f2.length ≤ 1000000)) = true then (if l1.length < 1 ∨ 4 < l1.length ∨ l2.length < l1.length then some ([],false) else (spec_l7Subsumes.go k l0_0 l2 l1 (List.replicate 12 [])).bind fun r=>if r.2 = true then some (spec_l7Sub.stay 12 0 r.1,true) else some ([],false)) else none
set_option maxHeartbeats 8000000 in
set_option maxRecDepth 1000000 in
theorem spec_l7Sub.calls (k:Nat) (A0_0:Option Addr) (c0_0:Nat) (l0_0:List Int) (A1:Option Addr) (c1:Nat) (l1:List S72) (A2:Option Addr) (c2:Nat) (l2:List S72) (r1:List (List Int)) (r2:Bool) (w:World) (hr0_0:Kd.C (Kd.int .i64) w A0_0 l0_0.length l0_0) (hc0_0:l0_0.length ≤ c0_0) (hr1:Kd.C k72 w A1 l1.length l1) (hc1:l1.length ≤ c1) (hr2:Kd.C k72 w A2 l2.length l2) (hc2:l2.length ≤ c2) (h:spec_l7Sub.f k l0_0 l1 l2 = some (r1,r2)) :
    Calls Try.prog 69 #[.agg #[.slice A0_0 l0_0.length c0_0],.slice A1 l1.length c1,.slice A2 l2.length c2] w fun e w'=>∃ v0_:Value,e = .returned (.tuple #[v0_,.bool r2]) ∧ Kd.S (Kd.slice 3 (Kd.int .i64)) 22 w' w.heap.size (fun _=>True) v0_ r1 ∧ Below w.heap.size w w':=by
  unfold spec_l7Sub.f at h
  split at h
  rotate_left
  · cases h
  rename_i hall
  have hsm:(∀ x ∈ l1,smL x) ∧ ∀ x ∈ l2,smL x:=by
    rw [List.all_eq_true] at hall
    exact ⟨fun x hx=>by have:=hall x (List.mem_append_left _ hx);unfold smL;simpa using this,fun x hx=>by have:=hall x (List.mem_append_right _ hx);unfold smL;simpa using this⟩
  have HSM:=Aside0.mk hsm
  have hl1:l1.length ≤ 9223372036854775807:=hr1.2.1
  have hl2:l2.length ≤ 9223372036854775807:=hr2.2.1
  have H0:=Aside0.mk hr0_0
  have H1:=Aside0.mk hr1
  have H2:=Aside0.mk hr2
  have bx:Aside0 (Bx (w.alloc (.cells #[.slice A0_0 l0_0.length c0_0] 30)) w.heap.size (.slice A0_0 l0_0.length c0_0) 30):=⟨heap_alloc_new w _⟩
  have HB:Aside0 (Below w.heap.size w (w.alloc (.cells #[.slice A0_0 l0_0.length c0_0] 30))):=⟨Below.alloc (Below.refl _ _) (Nat.le_refl _) _⟩
  clear hall hsm hr0_0 hr1 hr2
  obtain ⟨q,hq⟩:∃ q,spec_l1In.f (l1.length:Int) 1 4 = some q:=⟨_,show spec_l1In.f (l1.length:Int) 1 4 = some (decide ((1:Int) ≤ l1.length ∧ (l1.length:Int) ≤ 4)) by
    unfold spec_l1In.f
    by_cases g1:(1:Int) ≤ l1.length
    · rw [if_pos g1];congr 1;simp [g1]
    · rw [if_neg g1];congr 1;simp [g1]⟩
  have hq2:q = decide ((1:Int) ≤ l1.length ∧ (l1.length:Int) ≤ 4):=by
    unfold spec_l1In.f at hq
    by_cases g1:(1:Int) ≤ l1.length <;> by_cases g2:(l1.length:Int) ≤ 4 <;> simp_all
  have HQ:=Aside0.mk hq
  clear hq
  by_cases g:l1.length < 1 ∨ 4 < l1.length ∨ l2.length < l1.length
  · rw [if_pos g] at h
    obtain ⟨rfl,rfl⟩:=Prod.mk.inj (Option.some.inj h)
    clear h
    by_cases g1:l1.length < 1 ∨ 4 < l1.length
    · obtain rfl:q = false:=by rw [hq2];exact decide_eq_false (by omega)
      clear g g1 hq2
      go_enter Try.func69,Try.ntmps69
      go_upto_region 1 with fail
      generalize w.alloc (.cells #[.slice A0_0 l0_0.length c0_0] 30) = W0 at bx HB ⊢
      have hcall:=spec_l1In.calls (l1.length:Int) 1 4 false W0 HQ.out
      go_wp2_with (go_at_call 65;refine hcall.mono ?_)
      first|rintro e W1 rfl hd|rintro e W1 ⟨rfl,hd⟩
      have HB:Aside0 (Below w.heap.size w W1):=⟨by first|exact below_step HB.out hd.below|exact below_step HB.out hd|(subst hd;exact HB.out)⟩
      go_wp2
      go_ret2
      exact ⟨_,rfl,⟨fun _=>0,Kd.R_nil _ _ _ _ _⟩,HB.out⟩
    · obtain rfl:q = true:=by rw [hq2];exact decide_eq_true (by omega)
      have e3:decide (l2.length < l1.length) = true:=decide_eq_true (by omega)
      clear g g1 hq2
      go_enter Try.func69,Try.ntmps69
      go_upto_region 1 with fail
      generalize w.alloc (.cells #[.slice A0_0 l0_0.length c0_0] 30) = W0 at bx HB ⊢
      have hcall:=spec_l1In.calls (l1.length:Int) 1 4 true W0 HQ.out
      go_wp2_with (go_at_call 65;refine hcall.mono ?_)
      first|rintro e W1 rfl hd|rintro e W1 ⟨rfl,hd⟩
      have HB:Aside0 (Below w.heap.size w W1):=⟨by first|exact below_step HB.out hd.below|exact below_step HB.out hd|(subst hd;exact HB.out)⟩
      go_wp2
      go_ret2
      exact ⟨_,rfl,⟨fun _=>0,Kd.R_nil _ _ _ _ _⟩,HB.out⟩
  · rw [if_neg g] at h
    obtain ⟨⟨b',okb⟩,hgo,h⟩:=Option.bind_eq_some_iff.1 h
    obtain rfl:q = true:=by rw [hq2];exact decide_eq_true (by omega)
    have e3:decide (l2.length < l1.length) = false:=decide_eq_false (by omega)
    have HH:=Aside0.mk h
    have HGO:=Aside0.mk hgo
    clear g h hgo hq2
    go_enter Try.func69,Try.ntmps69
    go_upto_region 1 with fail
    generalize w.alloc (.cells #[.slice A0_0 l0_0.length c0_0] 30) = W00 at bx HB ⊢
    have hcall:=spec_l1In.calls (l1.length:Int) 1 4 true W00 HQ.out
    go_wp2_with (go_at_call 65;refine hcall.mono ?_)
    first|rintro e W0 rfl hd|rintro e W0 ⟨rfl,hd⟩
    have hd':Below W00.heap.size W00 W0:=by first|exact hd.below|exact hd|(subst hd;exact Below.refl _ _)
    have bx:=Aside0.mk (bx.out.below hd')
    have HB:=Aside0.mk (below_step HB.out hd')
    clear hd hd' hcall
    go_wp2
    have hbc:=Bx.cell bx.out
    refine start_ (n:=10) (S:=fun w'=>w'.cell? ⟨w.heap.size,0,none⟩ = some (.slice A0_0 l0_0.length c0_0)) (ds:=[]) #[false,false,false,false,false,false,false,false,false,false] (by kernel_rfl) rfl rfl hbc (fun hHeld=>?_)
    have bx:=Aside0.mk (show Bx W0.drew w.heap.size (.slice A0_0 l0_0.length c0_0) 30 from bx.out)
    have HB:=Aside0.mk (below_drew1 HB.out)
    clear hbc
    generalize W0.drew = W1 at bx HB hHeld ⊢
    refine take_ (i:=0) (N:=(some 23)) (v:=?_) (a':=?_) #[true,false,false,false,false,false,false,false,false,false] rfl rfl (by kernel_rfl) (fun _ _ _ h=>h) (Or.inl ⟨by rfl,?_⟩) hHeld ?_ ?_
    rotate_left
    · intro w' s0
      go_simp
      with_reducible rfl
    rotate_left
    · simp only [Act.put,List.setIfInBounds_toArray,List.set_cons_zero,List.set_cons_succ,i64_w,i32_w]
      rfl
    refine pure_ (i:=1) (N:=(some 24)) (v:=?_) (a':=?_) #[true,true,false,false,false,false,false,false,false,false] rfl rfl (by kernel_rfl) (fun _ _ _ h=>h) (Or.inl ⟨by rfl,?_⟩) ?_ ?_
    rotate_left
    · intro w'
      go_simp
      with_reducible rfl
    rotate_left
    · simp only [Act.put,List.setIfInBounds_toArray,List.set_cons_zero,List.set_cons_succ,i64_w,i32_w]
      rfl
    refine pure_ (i:=2) (N:=(some 25)) (v:=?_) (a':=?_) #[true,true,true,false,false,false,false,false,false,false] rfl rfl (by kernel_rfl) (fun _ _ _ h=>h) (Or.inl ⟨by rfl,?_⟩) ?_ ?_
    rotate_left
    · intro w'
      go_simp
      with_reducible rfl
    rotate_left
    · simp only [Act.put,List.setIfInBounds_toArray,List.set_cons_zero,List.set_cons_succ,i64_w,i32_w]
      rfl
    refine one_ (i:=3) (N:=some 26) #[true,true,true,true,false,false,false,false,false,false] rfl rfl (by kernel_rfl) (by decide) (fun K hK=>?_)
    refine value_ (by rfl) rfl (v:=.slice (some ⟨W1.heap.size,0,none⟩) 12 12) (w1:=W1.alloc (.cells mk12 22)) ?_ ?_
    · have h:=run_mk12 W1
      simp only [execOp,Act.eval]
      go_simp
    have HR:=Aside0.mk (rowsX_new W1)
    have hz:=Aside0.mk HB.out.size
    have ha:Below W1.heap.size W1 (W1.alloc (.cells mk12 22)):=Below.alloc (Below.refl _ _) (Nat.le_refl _) _
    have bx:=Aside0.mk (bx.out.below ha)
    have HB:=Aside0.mk (below_step HB.out ha)
    have HR:=Aside0.mk (HR.out.lower hz.out)
    clear ha hHeld
    generalize W1.alloc (.cells mk12 22) = W2 at bx HB HR hK ⊢
    generalize W1.heap.size = g at HR hK ⊢
    refine hK.out _ _ bx.out.cell (fun hHeld=>?_)
    clear hK K
    refine norm_ (a':=?_) ?_ ?_
    rotate_left
    · show Act.put _ (some 26) _ = _
      simp only [Act.put,List.setIfInBounds_toArray,List.set_cons_zero,List.set_cons_succ,i64_w,i32_w]
      rfl
    refine one_ (i:=4) (N:=some 27) #[true,true,true,true,true,false,false,false,false,false] rfl rfl (by kernel_rfl) (by decide) (fun K hK=>?_)
    refine goes_ Try.func98 (by kernel_rfl) rfl #[.agg #[.slice A0_0 l0_0.length c0_0],.slice A1 l1.length c1,.slice A2 l2.length c2,.int .i64 0,.slice (some ⟨g,0,none⟩) 12 12] (by rfl) rfl rfl (by (try simp only [List.map_toArray,List.map_cons,List.map_nil]);first|done|rfl) ?_
    have hcall:=spec_l7Subsumes.walk k A0_0 c0_0 l0_0 hc0_0 A2 c2 l2 hc2 HSM.out.2 A1 c1 l1 hc1 HSM.out.1 w.heap.size l1.length 0 g 12 (List.replicate 12 []) (b',okb) W2 (by omega) (Kd.C_below H0.out HB.out) (Kd.C_below H1.out HB.out) (Kd.C_below H2.out HB.out) HB.out.size HR.out (by simp) (by omega) HGO.out
    refine hcall.mono ?_
    rintro e W3 ⟨v,rfl,hf⟩
    refine ⟨_,rfl,?_⟩
    have bx:=Aside0.mk (bx.out.below hf.out.1)
    refine hK.out _ _ bx.out.cell (fun hHeld=>?_)
    clear hK K hHeld hcall
    refine norm_ (a':=?_) ?_ ?_
    rotate_left
    · show Act.put _ (some 27) _ = _
      simp only [Act.put,List.setIfInBounds_toArray,List.set_cons_zero,List.set_cons_succ,i64_w,i32_w]
      rfl
    refine pure_ (i:=5) (N:=(some 22)) (v:=?_) (a':=?_) #[true,true,true,true,true,true,false,false,false,false] rfl rfl (by kernel_rfl) (fun _ _ _ h=>h) (Or.inl ⟨by rfl,?_⟩) ?_ ?_
    rotate_left
    · intro w'
      go_simp
      with_reducible rfl
    rotate_left
    · simp only [Act.put,List.setIfInBounds_toArray,List.set_cons_zero,List.set_cons_succ,i64_w,i32_w]
      rfl
    refine pure_ (i:=6) (N:=(some 28)) (v:=?_) (a':=?_) #[true,true,true,true,true,true,true,false,false,false] rfl rfl (by kernel_rfl) (fun _ _ _ h=>h) (Or.inl ⟨by rfl,?_⟩) ?_ ?_
    rotate_left
    · intro w'
      go_simp
      with_reducible rfl
    rotate_left
    · simp only [Act.put,List.setIfInBounds_toArray,List.set_cons_zero,List.set_cons_succ,i64_w,i32_w]
      rfl
    refine pure_ (i:=7) (N:=(some 29)) (v:=?_) (a':=?_) #[true,true,true,true,true,true,true,true,false,false] rfl rfl (by kernel_rfl) (fun _ _ _ h=>h) (Or.inl ⟨by rfl,?_⟩) ?_ ?_
    rotate_left
    · intro w'
      go_simp
      with_reducible rfl
    rotate_left
    · simp only [Act.put,List.setIfInBounds_toArray,List.set_cons_zero,List.set_cons_succ,i64_w,i32_w]
      rfl
    refine pure_ (i:=8) (N:=(some 8)) (v:=?_) (a':=?_) #[true,true,true,true,true,true,true,true,true,false] rfl rfl (by kernel_rfl) (fun _ _ _ h=>h) (Or.inl ⟨by rfl,?_⟩) ?_ ?_
    rotate_left
    · intro w'
      go_simp
      with_reducible rfl
    rotate_left
    · simp only [Act.put,List.setIfInBounds_toArray,List.set_cons_zero,List.set_cons_succ,i64_w,i32_w]
      rfl
    refine pure_ (i:=9) (N:=(some 9)) (v:=?_) (a':=?_) #[true,true,true,true,true,true,true,true,true,true] rfl rfl (by kernel_rfl) (fun _ _ _ h=>h) (Or.inl ⟨by rfl,?_⟩) ?_ ?_
    rotate_left
    · intro w'
      go_simp
      with_reducible rfl
    rotate_left
    · simp only [Act.put,List.setIfInBounds_toArray,List.set_cons_zero,List.set_cons_succ,i64_w,i32_w]
      rfl
    refine done_ (by kernel_rfl) ?_
    have HB:=Aside0.mk (below_step HB.out hf.out.1)
    have HF:=Aside0.mk hf.out.2
    clear hf HR HGO
    have h:=HH.out
    cases okb with
    | false =>
      simp only [Bool.false_eq_true,if_false,Option.some.injEq,Prod.mk.injEq] at h
      obtain ⟨rfl,rfl⟩:=h
      go_wp2
      go_ret2
      exact ⟨_,rfl,⟨fun _=>0,Kd.R_nil _ _ _ _ _⟩,HB.out⟩
    | true =>
      obtain ⟨g2,cg,rfl,hbl,HR,hcg,_⟩:=HF.out rfl
      simp only [if_true] at h
      simp only at hbl HR
      obtain ⟨hr1,rfl⟩:=Prod.mk.inj (Option.some.inj h)
      have HS1:=Aside0.mk hr1
      have HR:=Aside0.mk HR
      have HX:=Aside0.mk hbl
      clear hbl h HF hr1
      go_wp2
      go_loopw [34] (fun v34 wr=>∃ (i m:Nat) (bb:List (List Int)),i + m = 12 ∧ v34 = .int .i64 i ∧ Hid (bb.length = 12) ∧ Hid (spec_l7Sub.stay m i bb = r1) ∧ Hid (RowsX wr w.heap.size g2 cg bb) ∧ Hid (Below w.heap.size w wr)) (fun v34 _=>12 - (intOf v34).toNat)
      case atStart=>exact ⟨0,12,b',rfl,rfl,HX.out,HS1.out,HR.out,HB.out⟩
      case round =>
        clear HR HB HX HS1
        obtain ⟨i,m,bb,him,rfl,hbl,hst,hR,hB⟩:=hrel
        unfold Hid at hbl hst hR hB
        have HBL:=Aside0.mk hbl
        have HST:=Aside0.mk hst
        have HR:=Aside0.mk hR
        have HB:=Aside0.mk hB
        clear hbl hst hR hB
        by_cases hp:i < 12
        · obtain ⟨m,rfl⟩:∃ m',m = m' + 1:=⟨m - 1,by omega⟩
          obtain ⟨AD,cD,hD,hDc,hDr⟩:=HR.out.rd i (by have:=HBL.out;omega)
          have hgsz:=HR.out.lt
          have hcall:=spec_l2Stay.walk (i:Int) AD cD (bb.getD i []) wr (by omega) (by omega) hDr
          have hst:=HST.out
          simp only [spec_l7Sub.stay] at hst
          have HGL:=Aside0.mk HR.out.le.2.2
          clear hDr
          have hpi:(i:Int) < 12:=by omega
          by_cases gs:bb.getD i [] = [-1 - (i:Int)]
          · rw [if_pos gs] at hst hcall
            have HST:=Aside0.mk hst
            clear hst gs
            generalize bb.getD i [] = old at hD hDc hcall
            go_wp2_with (go_at_call 99;refine hcall.mono ?_)
            first|rintro e W1 rfl hd|rintro e W1 ⟨rfl,hd⟩
            have hd:=hd.out
            replace hD:=(Below.cell hd hgsz).trans hD
            have HR:=Aside0.mk (HR.out.below hd)
            have HB:=Aside0.mk (below_step HB.out hd)
            have hfz:=HR.out.frozen i
            have hset:=Aside0.mk (HR.out.set_nil i (by have:=HBL.out;omega))
            have Bset:Aside0 (Below w.heap.size w (W1.setCell ⟨g2,i,none⟩ (.slice none 0 0))):=⟨below_set HB.out HGL.out⟩
            have hlen2:Aside0 ((bb.set i []).length = 12):=⟨by rw [List.length_set];exact HBL.out⟩
            clear hd hcall hDc
            go_wp2
            go_roundw
            case rel=>exact ⟨i + 1,m,bb.set i [],by omega,rfl,hlen2.out,HST.out,hset.out,Bset.out⟩
            case measure=>simp [intOf];omega
          · rw [if_neg gs] at hst hcall
            have HST:=Aside0.mk hst
            clear hst gs
            generalize bb.getD i [] = old at hD hDc hcall
            go_wp2_with (go_at_call 99;refine hcall.mono ?_)
            first|rintro e W1 rfl hd|rintro e W1 ⟨rfl,hd⟩
            have hd:=hd.out
            replace hD:=(Below.cell hd hgsz).trans hD
            have HR:=Aside0.mk (HR.out.below hd)
            have HB:=Aside0.mk (below_step HB.out hd)
            have hfz:=HR.out.frozen i
            have hset:=Aside0.mk (HR.out.set_same i (by have:=HBL.out;omega) hD)
            have Bset:Aside0 (Below w.heap.size w (W1.setCell ⟨g2,i,none⟩ (.slice AD old.length cD))):=⟨below_set HB.out HGL.out⟩
            clear hd hcall hDc
            go_wp2
            go_roundw
            case rel=>exact ⟨i + 1,m,bb,by omega,rfl,HBL.out,HST.out,hset.out,Bset.out⟩
            case measure=>simp [intOf];omega
        · obtain rfl:i = 12:=by omega
          obtain rfl:m = 0:=by omega
          have hst:=HST.out
          simp only [spec_l7Sub.stay] at hst
          have HST:=Aside0.mk hst
          clear hst
          go_wp2
          go_ret2
          have hx:=HR.out.S (fun _=>True) (fun _ _ _=>trivial)
          rw [HBL.out,HST.out] at hx
          exact ⟨_,rfl,hx,HB.out⟩
theorem spec_l2Match.mono_go (s t p:List Int):∀ (b:List (List Int)) (j k:Nat),LeO (spec_l2Match.go k s t p b j) (spec_l2Match.go (k + 1) s t p b j):=by
  induction p with
  | nil=>intro b j k;exact LeO.refl _
  | cons n p ih =>
    intro b j k
    simp only [spec_l2Match.go]
    repeat' first
      | exact ih _ _ _
      | exact spec_l1Part.mono _ _ _ _
      | exact spec_l1Same.mono _ _ _
      | exact LeO.refl _
      | exact LeO.none _
      | refine LeO.ite ?_ ?_
      | refine LeO.bind ?_ (fun _=>?_)
theorem spec_l7Subsumes.mono_sides (s:List Int) {R R':List (List Int) → Option (List (List Int) × Bool)} (h:∀ b,LeO (R b) (R' b)) (c0:S72) (b:List (List Int)) (x:S72) (m:Nat):∀ n k,LeO (spec_l7Subsumes.sides k s R c0 b x m n) (spec_l7Subsumes.sides (k + 1) s R' c0 b x m n):=by
  induction m with
  | zero=>intro n k;exact LeO.refl _
  | succ m ih =>
    intro n k
    simp only [spec_l7Subsumes.sides]
    repeat' first
      | exact ih _ _
      | exact h _
      | exact spec_l7Copy.mono _ _
      | exact spec_l2Match.mono_go _ _ _ _ _ _
      | exact LeO.refl _
      | exact LeO.none _
      | refine LeO.ite ?_ ?_
      | refine LeO.bind ?_ (fun _=>?_)
theorem spec_l7Subsumes.mono_row (s:List Int) {R R':List (List Int) → Option (List (List Int) × Bool)} (h:∀ b,LeO (R b) (R' b)) (c0:S72) (b:List (List Int)) (l:List S72):∀ k,LeO (spec_l7Subsumes.row k s R c0 b l) (spec_l7Subsumes.row (k + 1) s R' c0 b l):=by
  induction l with
  | nil=>intro k;exact LeO.refl _
  | cons x t ih =>
    intro k
    simp only [spec_l7Subsumes.row]
    refine LeO.ite (LeO.bind (spec_l7Subsumes.mono_sides s h _ _ _ _ _ _) (fun o=>?_)) (ih _)
    cases o with
    | none=>exact ih _
    | some y=>exact LeO.refl _
theorem spec_l7Subsumes.mono_go (s:List Int) (d c:List S72):∀ (b:List (List Int)) (k:Nat),LeO (spec_l7Subsumes.go k s d c b) (spec_l7Subsumes.go (k + 1) s d c b):=by
  induction c with
  | nil=>intro b k;exact LeO.refl _
  | cons c0 c ih =>
    intro b k
    simp only [spec_l7Subsumes.go]
    exact LeO.bind (spec_l7Subsumes.mono_row s (fun b'=>ih b' k) _ _ _ _) (fun _=>LeO.refl _)
theorem spec_l7Sub.mono (a0:List Int) (a1 a2:List S72) (k:Nat):LeO (spec_l7Sub.f k a0 a1 a2) (spec_l7Sub.f (k + 1) a0 a1 a2):=by
  unfold spec_l7Sub.f
  repeat' first
    | exact spec_l7Subsumes.mono_go _ _ _ _ _
    | exact LeO.refl _
    | exact LeO.none _
    | refine LeO.ite ?_ ?_
    | refine LeO.bind ?_ (fun _=>?_)

end Go.Proofs.Ytlgnanbnicmdaaa.QFnExactSubsumes
