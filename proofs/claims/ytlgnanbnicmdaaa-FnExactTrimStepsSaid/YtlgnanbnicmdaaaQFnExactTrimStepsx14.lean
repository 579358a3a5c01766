-- Written by this session's own program (wip/x/xprint.py, over the kit's printer); Lean checks it.
import Derived.Test.YtlgnanbnicmdaaaQFnExactTrimStepsx0
import Derived.Test.YtlgnanbnicmdaaaQFnExactTrimStepsx10
import Derived.Test.YtlgnanbnicmdaaaQFnExactTrimStepsx12
import Derived.Test.YtlgnanbnicmdaaaQFnExactTrimStepsx13
namespace Go.Proofs.Ytlgnanbnicmdaaa.QFnExactTrimSteps
open Go.RowKit Go.Proofs.YtlgnanbnicmdaaaW.PrintWords Go.Proofs.YtlgnanbnicmdaaaW.PrintLast Go.Proofs.YtlgnanbnicmdaaaW.PrintMore
attribute [local go_sem] max2_int min2_int max_two min_two max_three min_three max_four min_four   -- for this text's walks alone
set_option linter.unusedVariables false
set_option linter.unusedSimpArgs false

/-! ### impl_TrimSteps: function 42, by a walk of this session's own -/
/-! ### Rows of the call's own, told by where their blocks lie -/
def Iv (lo hi:Nat):Nat → Prop:=fun b=>lo ≤ b ∧ b < hi
theorem iv_of {α:Type} {d:Kd α} {e:Nat} {W W':World} {v:Value} {xs:List α} (B:Nat) (h:d.R e W' W.heap.size (fun _=>True) v xs) (hb:B ≤ W.heap.size):d.R e W' B (Iv W.heap.size W'.heap.size) v xs :=
  Kd.R_lower (Kd.R_mono (Kd.R_bound h) (fun _ hk=>⟨hk.2.1,hk.2.2.1⟩)) hb
theorem iv_step {α:Type} {d:Kd α} {e B lo hi:Nat} {W W':World} {v:Value} {xs:List α} {P:Nat → Prop} (h:d.R e W B (Iv lo hi) v xs) (hk:Kept W W' P) (hn:∀ b,lo ≤ b → b < hi → ¬ P b):d.R e W' B (Iv lo hi) v xs :=
  Kd.R_step h (fun k ho hlt=>hk.2 k hlt (hn k ho.1 ho.2))
theorem iv_below {α:Type} {d:Kd α} {e B lo hi:Nat} {W W':World} {v:Value} {xs:List α} (h:d.R e W B (Iv lo hi) v xs) (hb:Below W.heap.size W W'):d.R e W' B (Iv lo hi) v xs:=Kd.R_below h hb
def Bx (W:World) (g:Nat) (v:Value) (t:Nat):Prop:=W.heap[g]? = some (.cells #[v] t (0,0))
theorem Bx.lt {W:World} {g t:Nat} {v:Value} (h:Bx W g v t):g < W.heap.size:=(Array.getElem?_eq_some_iff.1 h).1
theorem Bx.below {W W':World} {g t:Nat} {v:Value} (h:Bx W g v t) (hb:Below W.heap.size W W'):Bx W' g v t:=(hb.block g h.lt).trans h
theorem Bx.step {W W':World} {g t:Nat} {v:Value} {P:Nat → Prop} (h:Bx W g v t) (hk:Kept W W' P) (hn:¬ P g):Bx W' g v t:=(hk.2 g h.lt hn).trans h
theorem Bx.cell {W:World} {g t:Nat} {v:Value} (h:Bx W g v t):W.cell? ⟨g,0,none⟩ = some v:=by
  unfold Bx at h
  simp [World.cell?,h]
/-- What is known of a sign's row made in a region that draws. -/
structure SgRow (W0 W:World) (A:Option Addr) (c:Nat) (l:List Int):Prop where
  bl:Below W0.heap.size W0 W
  rd:(Kd.int .i64).C W A l.length l
  le:l.length ≤ c
theorem SgRow.drewN {W0 W:World} {A:Option Addr} {c:Nat} {l:List Int} (h:SgRow W0 W A c l) (n:Nat):SgRow W0 (W.drewN n) A c l:=⟨pw_below_drewN h.bl n,Kd.C_drewN h.rd n,h.le⟩
theorem SgRow.drew {W0 W:World} {A:Option Addr} {c:Nat} {l:List Int} (h:SgRow W0 W A c l):SgRow W0 W.drew A c l:=h.drewN 1
theorem later {P Q:Prop} (main:P → Q) (h:P):Q:=main h
/-! ### A row of rows of whole numbers, of the call's own: its block g; the rows are only read -/
abbrev CI (w:World) (A:Option Addr) (l:List Int):Prop:=(Kd.int .i64).C w A l.length l
theorem ci_reads {w:World} {A:Option Addr} {l:List Int} (h:CI w A l):ReadsOf (Value.int .i64) (0:Int) w A l.length l:=Kd.reads_of_C h
theorem ci_of {w:World} {A:Option Addr} {l:List Int} (h:ReadsOf (Value.int .i64) (0:Int) w A l.length l):CI w A l:=Kd.C_of_reads (d:=(0:Int)) (h1:=fun _=>rfl) h
/-- A store over a cell that holds a slice. -/
theorem ci_set {w:World} {A:Option Addr} {l:List Int} (h:CI w A l) {p:Addr} {A':Option Addr} {n c:Nat} (hp:w.cell? p = some (.slice A' n c)) (u:Value):CI (w.setCell p u) A l:=by
  refine ci_of ⟨rfl,(ci_reads h).2.1,fun hn=>?_⟩
  obtain ⟨ad,e,hc⟩:=(ci_reads h).2.2 hn
  refine ⟨ad,e,fun j hj=>?_⟩
  rw [World.cell?_setCell_other _ _ _ _ (fun e=>by have:=hc j hj;rw [← e,hp] at this;cases this)]
  exact hc j hj
theorem ci_elem {w:World} {A:Option Addr} {l:List Int} (h:CI w A l) (j:Nat) (hj:j < l.length):∃ ad,A = some ad ∧ w.cell? (ad.add j) = some (.int .i64 (rd l (j:Int))):=by
  obtain ⟨ad,e,hc⟩:=(ci_reads h).2.2 (by omega)
  refine ⟨ad,e,?_⟩
  rw [hc j hj]
  unfold rd
  rw [Int.toNat_natCast]
structure Rows2 (w:World) (g:Nat) (xs:List (List Int)):Prop where
  blk:∃ cs:Array Value,w.heap[g]? = some (.cells cs 22 (0,0))
  rd:∀ j,j < xs.length → ∃ A c,w.cell? ⟨g,j,none⟩ = some (.slice A (xs.getD j []).length c) ∧ (xs.getD j []).length ≤ c ∧ CI w A (xs.getD j [])
theorem Rows2.lt {w:World} {g:Nat} {xs:List (List Int)} (h:Rows2 w g xs):g < w.heap.size:=(Array.getElem?_eq_some_iff.1 h.blk.choose_spec).1
theorem Rows2.below {w w':World} {g:Nat} {xs:List (List Int)} (h:Rows2 w g xs) (hb:Below w.heap.size w w'):Rows2 w' g xs:=by
  obtain ⟨⟨cs,hc⟩,hr⟩:=h
  have hlt:=(Array.getElem?_eq_some_iff.1 hc).1
  refine ⟨⟨cs,(hb.block g hlt).trans hc⟩,fun j hj=>?_⟩
  obtain ⟨A,c,h1,h2,h3⟩:=hr j hj
  exact ⟨A,c,(Below.cell hb hlt).trans h1,h2,Kd.C_below h3 hb⟩
theorem Rows2.frozen {w:World} {g:Nat} {xs:List (List Int)} (h:Rows2 w g xs) (j:Nat):w.frozen? ⟨g,j,none⟩ = false:=by
  obtain ⟨⟨cs,hc⟩,_⟩:=h
  exact blk_frozen hc j
theorem blk_setCell {w:World} {g:Nat} {cs:Array Value} {t:Nat} (hc:w.heap[g]? = some (.cells cs t (0,0))) (j:Nat) (u:Value):∃ cs',(w.setCell ⟨g,j,none⟩ u).heap[g]? = some (.cells cs' t (0,0)):=⟨_,blk_put hc j u rfl⟩
theorem Rows2.set {w:World} {g:Nat} {xs:List (List Int)} (h:Rows2 w g xs) (j:Nat) (hj:j < xs.length) {A:Option Addr} {c:Nat} {x:List Int} (hx:CI w A x) (hc:x.length ≤ c):Rows2 (w.setCell ⟨g,j,none⟩ (.slice A x.length c)) g (xs.set j x):=by
  have h0:=h
  obtain ⟨⟨cs,hcs⟩,hr⟩:=h
  obtain ⟨A0,c0,p0,_,_⟩:=hr j hj
  refine ⟨blk_setCell hcs j _,fun i hi=>?_⟩
  rw [List.length_set] at hi
  by_cases e:i = j
  · subst e
    refine ⟨A,c,?_,?_,?_⟩
    · rw [World.cell?_setCell_same _ _ _ p0]
      simp [List.getD_eq_getElem?_getD,hi]
    · simpa [List.getD_eq_getElem?_getD,hi] using hc
    · have:(xs.set i x).getD i [] = x:=by simp [List.getD_eq_getElem?_getD,hi]
      rw [this]
      exact ci_set hx p0 _
  · obtain ⟨A1,c1,p1,p2,p3⟩:=hr i hi
    have e2:(xs.set j x).getD i [] = xs.getD i []:=by rw [List.getD_eq_getElem?_getD,List.getD_eq_getElem?_getD,List.getElem?_set_ne (fun q=>e q.symm)]
    rw [e2]
    exact ⟨A1,c1,by rw [World.cell?_setCell_other _ _ _ _ (by intro q;cases q;exact e rfl)];exact p1,p2,ci_set p3 p0 _⟩
theorem Bx.set {W:World} {g t gb j:Nat} {v:Value} (h:Bx W g v t) {u u0:Value} (hne:g ≠ gb):Bx (W.setCell ⟨gb,j,none⟩ u) g v t:=by
  unfold Bx at h ⊢
  rw [Below.heap_setCell W ⟨gb,j,none⟩ u g hne]
  exact h
theorem ci_kd {w:World} {g:Nat} {xs:List (List Int)} (h:Rows2 w g xs) (hl:xs.length ≤ 1000000):Kd.C (Kd.slice 3 (Kd.int .i64)) w (some ⟨g,0,none⟩) xs.length xs:=by
  refine ⟨rfl,by omega,fun _=>⟨_,rfl,fun j p hj=>?_⟩⟩
  obtain ⟨hjl,hjp⟩:=List.getElem?_eq_some_iff.1 hj
  obtain ⟨A,c,h1,h2,h3⟩:=h.rd j hjl
  have e:xs.getD j [] = p:=by rw [List.getD_eq_getElem?_getD,hj];rfl
  rw [e] at h1 h2 h3
  refine ⟨[.slice A p.length c],rfl,⟨A,c,rfl,h2,h3⟩,fun i u hu=>?_⟩
  have:i = 0:=by
    have:=(List.getElem?_eq_some_iff.1 hu).1
    simp at this
    exact this
  subst this
  have hu':Value.slice A p.length c = u:=by simpa using hu
  subst hu'
  rw [add_plain]
  simpa [Kd.slice] using h1
/-- All rows of whole numbers read as they did. -/
def KI (w w':World):Prop:=∀ A l,CI w A l → CI w' A l
theorem KI.refl (w:World):KI w w:=fun _ _ h=>h
theorem KI.below {w w1 w2:World} (h:KI w w1) (hb:Below w1.heap.size w1 w2):KI w w2:=fun A l hc=>Kd.C_below (h A l hc) hb
theorem KI.set {w w1:World} (h:KI w w1) {p:Addr} {A':Option Addr} {n c:Nat} (hp:w1.cell? p = some (.slice A' n c)) (u:Value):KI w (w1.setCell p u):=fun A l hc=>ci_set (h A l hc) hp u
theorem Rows2.drew {w:World} {g:Nat} {xs:List (List Int)} (h:Rows2 w g xs):Rows2 w.drew g xs:=h.below (below_drew (Below.refl _ _))
/-! ### Literals whose rows lie apart -/
def aLit:Kd S72 where
  sz:=3
  E:=[3]
  K:=fun w x cs=>k72.K w x cs
  M:=fun w base ok x cs=>∃ (q:Nat → Prop) (v1 v2:Value),cs = [.bool x.f0,v1,v2] ∧ (Kd.int .i64).R 3 w base (fun k=>ok k ∧ q k) v1 x.f1 ∧ (Kd.int .i64).R 3 w base (fun k=>ok k ∧ ¬ q k) v2 x.f2
  K_len:=fun h=>k72.K_len h
  K_one:=fun h=>k72.K_one h
  K_below:=fun hb h=>k72.K_below hb h
  K_of_M:=by
    rintro w base ok x cs ⟨q,v1,v2,rfl,h1,h2⟩
    exact k72.K_of_M (k72_mkM w base ok x (Kd.R_mono h1 (fun _ h=>h.1)) (Kd.R_mono h2 (fun _ h=>h.1)))
  M_mono:=by
    rintro w base ok ok' x cs hok ⟨q,v1,v2,rfl,h1,h2⟩
    exact ⟨q,v1,v2,rfl,Kd.R_mono h1 (fun k h=>⟨hok k h.1,h.2⟩),Kd.R_mono h2 (fun k h=>⟨hok k h.1,h.2⟩)⟩
  M_bound:=by
    rintro w base ok x cs ⟨q,v1,v2,rfl,h1,h2⟩
    refine ⟨q,v1,v2,rfl,Kd.R_mono (Kd.R_bound h1) (fun k h=>⟨⟨h.1.1,h.2.1,h.2.2.1,?_⟩,h.1.2⟩),Kd.R_mono (Kd.R_bound h2) (fun k h=>⟨⟨h.1.1,h.2.1,h.2.2.1,?_⟩,h.1.2⟩)⟩
    · obtain ⟨e,he,cells,hc⟩:=h.2.2.2
      exact ⟨e,by simpa [Kd.int,Kd.scalar] using he,cells,hc⟩
    · obtain ⟨e,he,cells,hc⟩:=h.2.2.2
      exact ⟨e,by simpa [Kd.int,Kd.scalar] using he,cells,hc⟩
  M_move:=by
    rintro w w1 base ok x cs hm ⟨q,v1,v2,rfl,h1,h2⟩
    exact ⟨q,v1,v2,rfl,Kd.R_move h1 (fun k h=>hm k h.1),Kd.R_move h2 (fun k h=>hm k h.1)⟩
  M_lower:=by
    rintro w base base' ok x cs hb ⟨q,v1,v2,rfl,h1,h2⟩
    exact ⟨q,v1,v2,rfl,Kd.R_lower h1 hb,Kd.R_lower h2 hb⟩
/-- An element of a row whose elements lie apart: its blocks; what becomes of the row if just these are written, or one of the element's own cells. -/
theorem S_at {α:Type} {d:Kd α} {e:Nat} {w:World} {base:Nat} {ok:Nat → Prop} {g n cap:Nat} {xs:List α} (h:Kd.S d e w base ok (.slice (some ⟨g,0,none⟩) n cap) xs) (i:Nat) (x:α) (hx:xs[i]? = some x) :
    ∃ (oki:Nat → Prop) (c:List Value),c.length = d.sz ∧ d.M w base oki x c ∧ (∀ j u,c[j]? = some u → w.cell? ⟨g,i * d.sz + j,none⟩ = some u) ∧ (∀ j,w.frozen? ⟨g,i * d.sz + j,none⟩ = false) ∧ (∀ k,oki k → ok k ∧ k ≠ g) ∧
      (∀ (w1:World) (x':α),Kept w w1 oki → d.M w1 base oki x' c → Kd.S d e w1 base ok (.slice (some ⟨g,0,none⟩) n cap) (xs.set i x')) ∧
      (∀ (t:Nat) (u:Value) (x':α),t + 1 ≤ d.sz → d.M w base oki x' (c.take t ++ [u] ++ c.drop (t + 1)) → Kd.S d e (w.setCells g (i * d.sz + t) [u]) base ok (.slice (some ⟨g,0,none⟩) n cap) (xs.set i x')):=by
  obtain ⟨hil,hxe⟩:=List.getElem?_eq_some_iff.1 hx
  have hn:=(Kd.S_reads' h).1
  obtain ⟨oki,c,hcl,hM,hcc,hfr,hoki,hH⟩:=Kd.S_elem h x (i:Int) (by omega) (by omega)
  rw [Int.toNat_natCast] at hM hcc hfr
  have e1:xs.getD i x = x:=by rw [List.getD_eq_getElem?_getD,hx];rfl
  rw [e1] at hM
  refine ⟨oki,c,hcl,hM,hcc,hfr,hoki,fun w1 x' hk hM1=>?_,fun t u x' ht hM1=>?_⟩
  · have:=Kd.H_back (Kd.H_kept hH hk (fun k _ hn=>hn)) hM1 (fun _ hk=>hk)
    rwa [Int.toNat_natCast] at this
  · have:=(Kd.S_seg (okg:=fun _=>False) (ok:=ok) (by
        obtain ⟨h1,f,h2⟩:=hH
        exact ⟨fun k hk=>⟨h1 k hk,fun q=>q⟩,f,Kd.R_mono h2 (fun k hk=>⟨⟨hk.1,fun q=>q⟩,hk.2⟩)⟩) (i:=(i:Int)) (by omega) (by omega) (seg:=[u]) (j:=t) (by simpa using ht) (okp:=oki) (x':=x') (by simpa using hM1) (fun k hk=>.inl hk) (fun k hk=>hk.elim)).1
    rwa [Int.toNat_natCast] at this
theorem aLit_R {e:Nat} {w:World} {base:Nat} {ok:Nat → Prop} {v:Value} {xs:List S72} (h:aLit.R e w base ok v xs):k72.R e w base ok v xs:=by
  obtain ⟨h0,inner,ho,hr⟩:=h
  refine ⟨h0,inner,ho,hr.imp_ (fun p c hp=>?_)⟩
  obtain ⟨q,v1,v2,rfl,h1,h2⟩:=hp
  exact k72_mkM w base _ p (Kd.R_mono h1 (fun _ h=>h.1)) (Kd.R_mono h2 (fun _ h=>h.1))
def aStep:Kd S83 where
  sz:=4
  E:=[3,72]
  K:=fun w x cs=>k83.K w x cs
  M:=fun w base ok x cs=>∃ (q:Nat → Nat) (v1 v2 v3:Value),cs = [.int .i64 x.f0,v1,v2,v3] ∧ (Kd.int .i64).R 3 w base (fun k=>ok k ∧ q k = 0) v1 x.f1 ∧ (Kd.int .i64).R 3 w base (fun k=>ok k ∧ q k = 1) v2 x.f2 ∧ Kd.S aLit 72 w base (fun k=>ok k ∧ q k = 2) v3 x.f3
  K_len:=fun h=>k83.K_len h
  K_one:=fun h=>k83.K_one h
  K_below:=fun hb h=>k83.K_below hb h
  K_of_M:=by
    rintro w base ok x cs ⟨q,v1,v2,v3,rfl,h1,h2,h3⟩
    exact k83.K_of_M (k83_mkM w base ok x (Kd.R_mono h1 (fun _ h=>h.1)) (Kd.R_mono h2 (fun _ h=>h.1)) (Kd.R_mono (aLit_R (Kd.S_R h3)) (fun _ h=>h.1)))
  M_mono:=by
    rintro w base ok ok' x cs hok ⟨q,v1,v2,v3,rfl,h1,h2,h3⟩
    exact ⟨q,v1,v2,v3,rfl,Kd.R_mono h1 (fun k h=>⟨hok k h.1,h.2⟩),Kd.R_mono h2 (fun k h=>⟨hok k h.1,h.2⟩),Kd.S_mono h3 (fun k h=>⟨hok k h.1,h.2⟩)⟩
  M_bound:=by
    rintro w base ok x cs ⟨q,v1,v2,v3,rfl,h1,h2,h3⟩
    refine ⟨q,v1,v2,v3,rfl,Kd.R_mono (Kd.R_bound h1) (fun k h=>⟨⟨h.1.1,h.2.1,h.2.2.1,?_⟩,h.1.2⟩),Kd.R_mono (Kd.R_bound h2) (fun k h=>⟨⟨h.1.1,h.2.1,h.2.2.1,?_⟩,h.1.2⟩),Kd.S_mono (Kd.S_bound h3) (fun k h=>⟨⟨h.1.1,h.2.1,h.2.2.1,?_⟩,h.1.2⟩)⟩
    · obtain ⟨e,he,cells,hc⟩:=h.2.2.2
      exact ⟨e,by have:e = 3:=(by simpa [Kd.int,Kd.scalar] using he);simp [this],cells,hc⟩
    · obtain ⟨e,he,cells,hc⟩:=h.2.2.2
      exact ⟨e,by have:e = 3:=(by simpa [Kd.int,Kd.scalar] using he);simp [this],cells,hc⟩
    · obtain ⟨e,he,cells,hc⟩:=h.2.2.2
      exact ⟨e,by have:e = 72 ∨ e = 3:=(by simpa [aLit] using he);rcases this with h|h <;> simp [h],cells,hc⟩
  M_move:=by
    rintro w w1 base ok x cs hm ⟨q,v1,v2,v3,rfl,h1,h2,h3⟩
    exact ⟨q,v1,v2,v3,rfl,Kd.R_move h1 (fun k h=>hm k h.1),Kd.R_move h2 (fun k h=>hm k h.1),Kd.S_move h3 (fun k h=>hm k h.1)⟩
  M_lower:=by
    rintro w base base' ok x cs hb ⟨q,v1,v2,v3,rfl,h1,h2,h3⟩
    exact ⟨q,v1,v2,v3,rfl,Kd.R_lower h1 hb,Kd.R_lower h2 hb,Kd.S_lower h3 hb⟩
theorem aStep_C {w:World} {A:Option Addr} {n:Nat} {xs:List S83} (h:aStep.C w A n xs):k83.C w A n xs:=h
theorem aLit_C {w:World} {A:Option Addr} {n:Nat} {xs:List S72} (h:aLit.C w A n xs):k72.C w A n xs:=h
def impl_TrimSteps.par (k:Nat) (list:List Int):List Int → Option (List Int)
  | []=>some []
  | p :: t=>(slices_Index_int_int.f k list p).bind fun i=>(impl_TrimSteps.par k list t).bind fun r=>some (i :: r)
def impl_TrimSteps.cla:List S72 → Option (List S72)
  | []=>some []
  | x :: t=>(impl_copyLit.f x.f0 x.f1 x.f2).bind fun b=>(impl_TrimSteps.cla t).bind fun r=>some (⟨b.1,b.2.1,b.2.2⟩ :: r)
def impl_TrimSteps.rows (k:Nat) (l:List S83) (list:List Int):List Int → Option (List S83)
  | []=>some []
  | i :: t=>if 0 ≤ i ∧ i < (l.length:Int) then (slices_Clone_int_int.f (rd_T83 l i).f2).bind fun wy=>(impl_TrimSteps.par k list (rd_T83 l i).f1).bind fun ps=>(impl_TrimSteps.cla (rd_T83 l i).f3).bind fun cl=>(impl_TrimSteps.rows k l list t).bind fun r=>some (⟨(rd_T83 l i).f0,ps,wy,cl⟩ :: r) else none
def impl_TrimSteps.f (k:Nat) (l0_0:List Int) (l1:List S83):Option (List S83 × Bool):=(impl_FirstEmpty.f k l0_0 l1).bind fun r=>if r.2 = true then (impl_needed.f k l1 r.1).bind fun list=>if list.length ≤ 1048576 ∧ (l1.all fun x=>decide (x.f1.length ≤ 1048576 ∧ x.f3.length ≤ 1048576)) = true then (impl_TrimSteps.rows k l1 list list).bind fun out=>some (out,true) else none else some ([],false)
set_option maxHeartbeats 16000000 in
set_option maxRecDepth 1000000 in
theorem impl_TrimSteps.calls (k:Nat) (A0_0:Option Addr) (c0_0:Nat) (l0_0:List Int) (A1:Option Addr) (c1:Nat) (l1:List S83) (r1:List S83) (r2:Bool) (w:World) (hr0_0:Kd.C (Kd.int .i64) w A0_0 l0_0.length l0_0) (hc0_0:l0_0.length ≤ c0_0) (hr1:Kd.C k83 w A1 l1.length l1) (hc1:l1.length ≤ c1) (h:impl_TrimSteps.f k l0_0 l1 = some (r1,r2)) :
    Calls Try.prog 42 #[.agg #[.slice A0_0 l0_0.length c0_0],.slice A1 l1.length c1] w fun e w'=>∃ v0_:Value,e = .returned (.tuple #[v0_,.bool r2]) ∧ Kd.S aStep 83 w' w.heap.size (fun _=>True) v0_ r1 ∧ Below w.heap.size w w':=by
  unfold impl_TrimSteps.f at h
  obtain ⟨⟨fe,okb⟩,hfe,h⟩:=Option.bind_eq_some_iff.1 h
  simp only at h
  have H0:=Aside0.mk hr0_0
  have H1:=Aside0.mk hr1
  have HH:=Aside0.mk h
  have HFE:=Aside0.mk hfe
  have bx:Aside0 (Bx (w.alloc (.cells #[.slice A0_0 l0_0.length c0_0] 30)) w.heap.size (.slice A0_0 l0_0.length c0_0) 30):=⟨heap_alloc_new w _⟩
  have HB:Aside0 (Below w.heap.size w (w.alloc (.cells #[.slice A0_0 l0_0.length c0_0] 30))):=⟨Below.alloc (Below.refl _ _) (Nat.le_refl _) _⟩
  have hl1:l1.length ≤ 9223372036854775807:=hr1.2.1
  clear hr0_0 hr1 h hfe
  go_enter Try.func42,Try.ntmps42
  go_upto_region 1 with fail
  generalize w.alloc (.cells #[.slice A0_0 l0_0.length c0_0] 30) = W0 at bx HB ⊢
  have hbc:=Bx.cell bx.out
  have hcall:=impl_FirstEmpty.calls k A0_0 c0_0 l0_0 A1 c1 l1 fe okb W0 (Kd.C_below H0.out HB.out) hc0_0 (Kd.C_below H1.out HB.out) hc1 HFE.out
  go_wp2_with (go_at_call 77;refine hcall.mono ?_)
  first|rintro e W1 rfl hd|rintro e W1 ⟨rfl,hd⟩
  have HB:=Aside0.mk (below_step HB.out hd)
  have h:=HH.out
  clear hd hcall hbc bx
  cases okb with
  | false =>
    simp only [Bool.false_eq_true,if_false,Option.some.injEq,Prod.mk.injEq] at h
    obtain ⟨rfl,rfl⟩:=h
    go_wp2
    go_ret2
    exact ⟨_,rfl,⟨fun _=>0,Kd.R_nil _ _ _ _ _⟩,HB.out⟩
  | true =>
    rw [if_pos rfl] at h
    obtain ⟨list,hli,h⟩:=Option.bind_eq_some_iff.1 h
    split at h
    rotate_left
    · cases h
    rename_i hbd
    obtain ⟨out,hro,h⟩:=Option.bind_eq_some_iff.1 h
    simp only [Option.some.injEq,Prod.mk.injEq] at h
    obtain ⟨rfl,rfl⟩:=h
    have HALL:=Aside0.mk hbd.2
    have hll:list.length ≤ 1048576:=hbd.1
    have HRO:=Aside0.mk hro
    have hcall:=impl_needed.calls k A1 c1 l1 fe list W1 (Kd.C_below H1.out HB.out) hc1 hli
    clear hro hli hbd
    go_wp2_with (go_at_call 68;refine hcall.mono ?_)
    first|rintro e W2 v rfl hr hd|rintro e W2 ⟨v,rfl,hr,hd⟩
    obtain ⟨AL,cL,rfl⟩:=Kd.R_slice hr
    have HLR:=Aside0.mk (Kd.R_mono (Kd.R_lower hr HB.out.size) (ok':=fun _=>True) (fun _ _=>trivial))
    have hcL:=(Kd.R_reads' hr).2.1
    have HB:=Aside0.mk (below_step HB.out hd)
    clear hr hd hcall
    go_wp2
    go_loopw [9,31] (fun v9 v31 WR=>∃ (i:Nat) (pre post:List S83),i ≤ list.length ∧ v31 = .int .i64 i ∧ Hid (pre ++ post = out) ∧ Hid (pre.length = i) ∧ Hid (impl_TrimSteps.rows k l1 list (list.drop i) = some post) ∧ Hid (Kd.S aStep 83 WR w.heap.size (fun _=>True) v9 pre) ∧ Hid ((Kd.int .i64).R 3 WR w.heap.size (fun _=>True) (.slice AL list.length cL) list) ∧ Hid (Below w.heap.size w WR)) (fun _ v31 _=>list.length - (intOf v31).toNat)
    case atStart=>exact ⟨0,[],out,Nat.zero_le _,rfl,rfl,rfl,HRO.out,⟨fun _=>0,Kd.R_nil _ _ _ _ _⟩,HLR.out,HB.out⟩
    case round =>
      rename World=>WR
      clear HRO HLR HB h HH
      obtain ⟨i,pre,post,hi,rfl,hpo,hpl,hro,hS,hlr,hB⟩:=hrel
      unfold Hid at hpo hpl hro hS hlr hB
      by_cases hp:i < list.length
      · rw [List.drop_eq_getElem_cons hp] at hro
        simp only [impl_TrimSteps.rows] at hro
        have hli:=(Kd.R_reads' hlr).2.2
        have HLR:=Aside0.mk hlr
        clear hlr
        obtain ⟨al,eal,hlc⟩:=ci_elem hli i hp
        have hrd:rd list (i:Int) = list[i]:=by unfold rd;simp [List.getD_eq_getElem?_getD,hp]
        rw [hrd] at hlc
        subst eal
        generalize list[i] = n at hro hlc hrd
        clear hrd
        split at hro
        rotate_left
        · cases hro
        rename_i hnb
        obtain ⟨wy,hwy,hro⟩:=Option.bind_eq_some_iff.1 hro
        obtain ⟨ps,hps,hro⟩:=Option.bind_eq_some_iff.1 hro
        obtain ⟨cl,hcl,hro⟩:=Option.bind_eq_some_iff.1 hro
        obtain ⟨post2,hp2,hro⟩:=Option.bind_eq_some_iff.1 hro
        simp only [Option.some.injEq] at hro
        subst hro
        obtain ⟨nn,rfl⟩:∃ nn:Nat,n = (nn:Int):=⟨n.toNat,by omega⟩
        obtain ⟨ad,B1,d1,B2,d2,B3,d3,ead,k0,k1,k2,k3,l1_,i1,l2_,i2,l3_,i3⟩:=at_T83 (Kd.C_below H1.out hB) (nn:Int) hnb.1 hnb.2
        have hxb:(rd_T83 l1 (nn:Int)).f1.length ≤ 1048576 ∧ (rd_T83 l1 (nn:Int)).f3.length ≤ 1048576:=by
          have hn2:nn < l1.length:=by omega
          have e9:rd_T83 l1 (nn:Int) = l1[nn]:=by unfold rd_T83;simp [List.getD_eq_getElem?_getD,hn2]
          have:=List.all_eq_true.1 HALL.out l1[nn] (List.getElem_mem hn2)
          rw [e9]
          simpa using this
        rw [Int.toNat_natCast] at k0 k1 k2 k3
        subst ead
        generalize rd_T83 l1 (nn:Int) = x at hwy hps hcl hpo k0 k1 k2 k3 l1_ i1 l2_ i2 l3_ i3 hxb
        have hnn1:nn < l1.length:=by omega
        have HPO:=Aside0.mk hpo
        have HPRE:=Aside0.mk hpl
        have HP2:=Aside0.mk hp2
        have HWY:=Aside0.mk hwy
        have HPS:=Aside0.mk hps
        have HCL0:=Aside0.mk hcl
        have HOUT:=Aside0.mk (Kd.S_mono (Kd.S_bound hS) (ok':=fun k_=>k_ < WR.heap.size) (fun k_ h=>h.2.2.1))
        have HLI:=Aside0.mk hli
        have HBw:=Aside0.mk hB
        have I1:=Aside0.mk i1
        have I2:=Aside0.mk i2
        have I3:=Aside0.mk i3
        have HXB:=Aside0.mk hxb
        have HBi:=Aside0.mk (Below.refl WR.heap.size WR)
        clear hpo hpl hp2 hwy hps hcl hS hli hB i1 i2 i3 hxb hnb
        go_upto_region 10 with fail
        have ha:Below WR.heap.size WR (WR.alloc (.cells #[.int .i64 x.f0,.slice B1 x.f1.length d1,.slice B2 x.f2.length d2,.slice B3 x.f3.length d3] 83)):=Below.alloc (Below.refl _ _) (Nat.le_refl _) _
        have HX:=Aside0.mk (heap_alloc_new WR (.cells #[.int .i64 x.f0,.slice B1 x.f1.length d1,.slice B2 x.f2.length d2,.slice B3 x.f3.length d3] 83))
        have HBi:=Aside0.mk ha
        clear ha k0 k1 k2 k3 hlc
        generalize WR.alloc (.cells #[.int .i64 x.f0,.slice B1 x.f1.length d1,.slice B2 x.f2.length d2,.slice B3 x.f3.length d3] 83) = W3 at HX HBi ⊢
        obtain ⟨gx,hgx⟩:∃ gx,gx = WR.heap.size:=⟨_,rfl⟩
        rw [← hgx] at HX ⊢
        clear hgx
        have hd0:Below W3.heap.size W3 W3.drew:=below_drew1 (Below.refl _ _)
        have HX:=Aside0.mk ((hd0.block gx (Array.getElem?_eq_some_iff.1 HX.out).1).trans HX.out)
        have HBi:=Aside0.mk (below_step HBi.out hd0)
        clear hd0
        refine start_ (n:=8) (S:=fun w'=>w'.cell? ⟨gx,0,none⟩ = some (.int .i64 x.f0) ∧ w'.cell? ⟨gx,2,none⟩ = some (.slice B2 x.f2.length d2)) (ds:=[]) #[false,false,false,false,false,false,false,false] (by kernel_rfl) rfl rfl ⟨(blk_cell HX.out 0).trans rfl,(blk_cell HX.out 2).trans rfl⟩ (fun hHeld=>?_)
        generalize W3.drew = W4 at HX HBi hHeld ⊢
        refine pure_ (i:=0) (N:=(some 39)) (v:=?_) (a':=?_) #[true,false,false,false,false,false,false,false] rfl rfl (by kernel_rfl) (fun _ _ _ h=>h) (Or.inl ⟨by rfl,?_⟩) ?_ ?_
        rotate_left
        · intro w'
          go_simp
          with_reducible rfl
        rotate_left
        · simp only [Act.put,List.setIfInBounds_toArray,List.set_cons_zero,List.set_cons_succ,i64_w,i32_w]
          rfl
        refine pure_ (i:=2) (N:=(some 41)) (v:=?_) (a':=?_) #[true,false,true,false,false,false,false,false] rfl rfl (by kernel_rfl) (fun _ _ _ h=>h) (Or.inl ⟨by rfl,?_⟩) ?_ ?_
        rotate_left
        · intro w'
          go_simp
          with_reducible rfl
        rotate_left
        · simp only [Act.put,List.setIfInBounds_toArray,List.set_cons_zero,List.set_cons_succ,i64_w,i32_w]
          rfl
        refine take_ (i:=1) (N:=(some 40)) (v:=?_) (a':=?_) #[true,true,true,false,false,false,false,false] rfl rfl (by kernel_rfl) (fun _ _ _ h=>h) (Or.inl ⟨by rfl,?_⟩) hHeld ?_ ?_
        rotate_left
        · intro w' ⟨s0,s1⟩
          go_simp
          with_reducible rfl
        rotate_left
        · simp only [Act.put,List.setIfInBounds_toArray,List.set_cons_zero,List.set_cons_succ,i64_w,i32_w]
          rfl
        refine take_ (i:=3) (N:=(some 42)) (v:=?_) (a':=?_) #[true,true,true,true,false,false,false,false] rfl rfl (by kernel_rfl) (fun _ _ _ h=>h) (Or.inl ⟨by rfl,?_⟩) hHeld ?_ ?_
        rotate_left
        · intro w' ⟨s0,s1⟩
          go_simp
          with_reducible rfl
        rotate_left
        · simp only [Act.put,List.setIfInBounds_toArray,List.set_cons_zero,List.set_cons_succ,i64_w,i32_w]
          rfl
        refine join_ (σ:=Value × Nat) 1 #[true,true,true,true,true,true,true,false] (fun s_=>[(43,s_.1),(13,.pointer (some ⟨s_.2,0,none⟩)),(44,.agg #[.int .i64 x.f0,.slice none 0 0,s_.1,.slice none 0 0])]) (fun s_ w'=>(w'.cell? ⟨gx,0,none⟩ = some (.int .i64 x.f0) ∧ w'.cell? ⟨gx,2,none⟩ = some (.slice B2 x.f2.length d2)) ∧ (Kd.int .i64).R 3 w' WR.heap.size (fun _=>True) s_.1 wy ∧ w'.heap[gx]? = some (.cells #[.int .i64 x.f0,.slice B1 x.f1.length d1,.slice B2 x.f2.length d2,.slice B3 x.f3.length d3] 83 (0,0)) ∧ w'.heap[s_.2]? = some (.cells #[.int .i64 0,.slice none 0 0,.slice none 0 0,.slice none 0 0] 83 (0,0)) ∧ Below WR.heap.size WR w' ∧ gx ≠ s_.2 ∧ WR.heap.size ≤ s_.2) ?_ ?_
        rotate_left
        · intro hCont
          refine two_ (i:=4) (j:=6) (Ni:=some 43) (Nj:=some 13) #[true,true,true,true,true,false,false,false] #[true,true,true,true,false,false,true,false] rfl rfl rfl rfl (by kernel_rfl) (by decide) (by decide) (fun K hK=>?_) (fun K hK=>?_)
          · skip
            refine goes_ Try.func78 (by kernel_rfl) rfl #[.slice B2 x.f2.length d2] (by rfl) rfl rfl (by (try simp only [List.map_toArray,List.map_cons,List.map_nil]);first|done|rfl) ?_
            refine (slices_Clone_int_int.calls B2 d2 x.f2 wy W4 (Kd.C_below I2.out HBi.out) l2_ HWY.out).mono ?_
            rintro e W5 ⟨v,rfl,hr,hd⟩
            refine ⟨_,rfl,?_⟩
            have HX:=Aside0.mk ((hd.block gx (Array.getElem?_eq_some_iff.1 HX.out).1).trans HX.out)
            have HW:=Aside0.mk (Kd.R_lower hr HBi.out.size)
            have HBi:=Aside0.mk (below_step HBi.out hd)
            clear hr hd
            obtain ⟨AW,cW,rfl⟩:=Kd.R_slice HW.out
            refine hK.out _ _ ⟨(blk_cell HX.out 0).trans rfl,(blk_cell HX.out 2).trans rfl⟩ (fun hHeld=>?_)
            clear hK K
            refine norm_ (a':=?_) ?_ ?_
            rotate_left
            · show Act.put _ (some 43) _ = _
              simp only [Act.put,List.setIfInBounds_toArray,List.set_cons_zero,List.set_cons_succ,i64_w,i32_w]
              rfl
            refine pure_ (i:=5) (N:=(some 44)) (v:=?_) (a':=?_) #[true,true,true,true,true,true,false,false] rfl rfl (by kernel_rfl) (fun _ _ _ h=>h) (Or.inl ⟨by rfl,?_⟩) ?_ ?_
            rotate_left
            · intro w'
              go_simp
              with_reducible rfl
            rotate_left
            · simp only [Act.put,List.setIfInBounds_toArray,List.set_cons_zero,List.set_cons_succ,i64_w,i32_w]
              rfl
            refine one_ (i:=6) (N:=(some 13)) #[true,true,true,true,true,true,true,false] rfl rfl (by kernel_rfl) (by decide) (fun K hK=>?_)
            refine box_step ?_ (N:=13) ?_ (cs:=#[.int .i64 0,.slice none 0 0,.slice none 0 0,.slice none 0 0]) (t:=83) ?_ ?_
            · exact rfl
            · exact rfl
            · first|(go_simp;done)|(go_simp;rfl)
            intro gy hgy W6 hbox hd
            have HY:=Aside0.mk hbox
            have hne:gx ≠ gy:=by have:=(Array.getElem?_eq_some_iff.1 HX.out).1;omega
            have hle:WR.heap.size ≤ gy:=by have:=HBi.out.size;omega
            have HX:=Aside0.mk ((hd.block gx (Array.getElem?_eq_some_iff.1 HX.out).1).trans HX.out)
            have HW:=Aside0.mk (Kd.R_below HW.out hd)
            have HBi:=Aside0.mk (below_step HBi.out hd)
            clear hd hgy hbox
            refine hK.out _ _ ⟨(blk_cell HX.out 0).trans rfl,(blk_cell HX.out 2).trans rfl⟩ (fun hHeld=>?_)
            clear hK K
            refine norm_ (a':=?_) ?_ ?_
            rotate_left
            · show Act.put _ (some 13) _ = _
              simp only [Act.put,List.setIfInBounds_toArray,List.set_cons_zero,List.set_cons_succ,i64_w,i32_w]
              rfl
            exact norm_ (by simp only [putAll,Act.put,List.setIfInBounds_toArray,List.set_cons_zero,List.set_cons_succ]) (hCont (.slice AW wy.length cW,gy) _ ⟨hHeld,HW.out,HX.out,HY.out,HBi.out,hne,hle⟩)
          · skip
            refine box_step ?_ (N:=13) ?_ (cs:=#[.int .i64 0,.slice none 0 0,.slice none 0 0,.slice none 0 0]) (t:=83) ?_ ?_
            · exact rfl
            · exact rfl
            · first|(go_simp;done)|(go_simp;rfl)
            intro gy hgy W5 hbox hd
            have HY:=Aside0.mk hbox
            have hne:gx ≠ gy:=by have:=(Array.getElem?_eq_some_iff.1 HX.out).1;omega
            have hle:WR.heap.size ≤ gy:=by have:=HBi.out.size;omega
            have HX:=Aside0.mk ((hd.block gx (Array.getElem?_eq_some_iff.1 HX.out).1).trans HX.out)
            have HBi:=Aside0.mk (below_step HBi.out hd)
            clear hd hgy hbox
            refine hK.out _ _ ⟨(blk_cell HX.out 0).trans rfl,(blk_cell HX.out 2).trans rfl⟩ (fun hHeld=>?_)
            clear hK K
            refine norm_ (a':=?_) ?_ ?_
            rotate_left
            · show Act.put _ (some 13) _ = _
              simp only [Act.put,List.setIfInBounds_toArray,List.set_cons_zero,List.set_cons_succ,i64_w,i32_w]
              rfl
            refine one_ (i:=4) (N:=(some 43)) #[true,true,true,true,true,false,true,false] rfl rfl (by kernel_rfl) (by decide) (fun K hK=>?_)
            refine goes_ Try.func78 (by kernel_rfl) rfl #[.slice B2 x.f2.length d2] (by rfl) rfl rfl (by (try simp only [List.map_toArray,List.map_cons,List.map_nil]);first|done|rfl) ?_
            refine (slices_Clone_int_int.calls B2 d2 x.f2 wy W5 (Kd.C_below I2.out HBi.out) l2_ HWY.out).mono ?_
            rintro e W6 ⟨v,rfl,hr,hd⟩
            refine ⟨_,rfl,?_⟩
            have HX:=Aside0.mk ((hd.block gx (Array.getElem?_eq_some_iff.1 HX.out).1).trans HX.out)
            have HW:=Aside0.mk (Kd.R_lower hr HBi.out.size)
            have HY:=Aside0.mk ((hd.block gy (Array.getElem?_eq_some_iff.1 HY.out).1).trans HY.out)
            have HBi:=Aside0.mk (below_step HBi.out hd)
            clear hr hd
            obtain ⟨AW,cW,rfl⟩:=Kd.R_slice HW.out
            refine hK.out _ _ ⟨(blk_cell HX.out 0).trans rfl,(blk_cell HX.out 2).trans rfl⟩ (fun hHeld=>?_)
            clear hK K
            refine norm_ (a':=?_) ?_ ?_
            rotate_left
            · show Act.put _ (some 43) _ = _
              simp only [Act.put,List.setIfInBounds_toArray,List.set_cons_zero,List.set_cons_succ,i64_w,i32_w]
              rfl
            refine pure_ (i:=5) (N:=(some 44)) (v:=?_) (a':=?_) #[true,true,true,true,true,true,true,false] rfl rfl (by kernel_rfl) (fun _ _ _ h=>h) (Or.inl ⟨by rfl,?_⟩) ?_ ?_
            rotate_left
            · intro w'
              go_simp
              with_reducible rfl
            rotate_left
            · simp only [Act.put,List.setIfInBounds_toArray,List.set_cons_zero,List.set_cons_succ,i64_w,i32_w]
              rfl
            exact norm_ (by simp only [putAll,Act.put,List.setIfInBounds_toArray,List.set_cons_zero,List.set_cons_succ]) (hCont (.slice AW wy.length cW,gy) _ ⟨hHeld,HW.out,HX.out,HY.out,HBi.out,hne,hle⟩)
        rintro ⟨vw,gy⟩ W7 ⟨hHeld,hw_,hx_,hy_,hb_,hne,hle⟩
        simp only at hw_ hy_ hne hle
        obtain ⟨AW,cW,rfl⟩:=Kd.R_slice hw_
        have HX:=Aside0.mk hx_
        have HY:=Aside0.mk hy_
        have HW:=Aside0.mk hw_
        have HBi:=Aside0.mk hb_
        have HNE:=Aside0.mk hne
        have HLE:=Aside0.mk hle
        clear hw_ hx_ hy_ hb_
        refine norm_ (a':=?_) ?_ ?_
        rotate_left
        · simp only [putAll,Act.put,List.setIfInBounds_toArray,List.set_cons_zero,List.set_cons_succ]
          rfl
        refine one_ (i:=7) (N:=none) #[true,true,true,true,true,true,true,true] rfl rfl (by kernel_rfl) (by decide) (fun K hK=>?_)
        have hY0:=HY
        have hs0:W7.cell? ⟨gy,0,none⟩ = some (.int .i64 0):=(blk_cell HY.out 0).trans rfl
        have hf0:=blk_frozen HY.out 0
        have hs1:W7.cell? ⟨gy,1,none⟩ = some (.slice none 0 0):=(blk_cell HY.out 1).trans rfl
        have hf1:=blk_frozen HY.out 1
        have hs2:W7.cell? ⟨gy,2,none⟩ = some (.slice none 0 0):=(blk_cell HY.out 2).trans rfl
        have hf2:=blk_frozen HY.out 2
        have hs3:W7.cell? ⟨gy,3,none⟩ = some (.slice none 0 0):=(blk_cell HY.out 3).trans rfl
        have hf3:=blk_frozen HY.out 3
        refine skip_ (w1:=?_) (by rfl) rfl ?_ ?_
        rotate_left
        · go_simp
          rfl
        have hne':gy ≠ gx:=fun q=>hne q.symm
        have HX:=Aside0.mk (show (((((W7.setCell ⟨gy,0,none⟩ (.int .i64 x.f0)).setCell ⟨gy,1,none⟩ (.slice none 0 0)).setCell ⟨gy,2,none⟩ (.slice AW wy.length cW)).setCell ⟨gy,3,none⟩ (.slice none 0 0)).heap[gx]? = some (.cells #[.int .i64 x.f0,.slice B1 x.f1.length d1,.slice B2 x.f2.length d2,.slice B3 x.f3.length d3] 83 (0,0))) from by rw [Below.heap_setCell _ _ _ _ hne,Below.heap_setCell _ _ _ _ hne,Below.heap_setCell _ _ _ _ hne,Below.heap_setCell _ _ _ _ hne];exact HX.out)
        have HY:=Aside0.mk (blk_put (cs':=#[.int .i64 x.f0,.slice none 0 0,.slice AW wy.length cW,.slice none 0 0]) (blk_put (cs':=#[.int .i64 x.f0,.slice none 0 0,.slice AW wy.length cW,.slice none 0 0]) (blk_put (cs':=#[.int .i64 x.f0,.slice none 0 0,.slice none 0 0,.slice none 0 0]) (blk_put (cs':=#[.int .i64 x.f0,.slice none 0 0,.slice none 0 0,.slice none 0 0]) HY.out 0 (.int .i64 x.f0) rfl) 1 (.slice none 0 0) rfl) 2 (.slice AW wy.length cW) rfl) 3 (.slice none 0 0) rfl)
        have HW:=Aside0.mk (Kd.R_far (p:=⟨gy,3,none⟩) (Kd.R_far (p:=⟨gy,2,none⟩) (Kd.R_far (p:=⟨gy,1,none⟩) (Kd.R_far (p:=⟨gy,0,none⟩) (Kd.R_types HW.out hY0.out (by decide)) (fun _ h=>h.2) (.int .i64 x.f0)) (fun _ h=>h.2) (.slice none 0 0)) (fun _ h=>h.2) (.slice AW wy.length cW)) (fun _ h=>h.2) (.slice none 0 0))
        have HBi:=Aside0.mk (below_set (below_set (below_set (below_set HBi.out hle (v:=.int .i64 x.f0) (j:=0)) hle (v:=.slice none 0 0) (j:=1)) hle (v:=.slice AW wy.length cW) (j:=2)) hle (v:=.slice none 0 0) (j:=3))
        clear hs0 hf0 hs1 hf1 hs2 hf2 hs3 hf3
        generalize (((W7.setCell ⟨gy,0,none⟩ (.int .i64 x.f0)).setCell ⟨gy,1,none⟩ (.slice none 0 0)).setCell ⟨gy,2,none⟩ (.slice AW wy.length cW)).setCell ⟨gy,3,none⟩ (.slice none 0 0) = W8 at HX HY HW HBi ⊢
        refine hK.out _ _ ⟨(blk_cell HX.out 0).trans rfl,(blk_cell HX.out 2).trans rfl⟩ (fun hHeld=>?_)
        clear hK K hHeld
        refine done_ (by kernel_rfl) ?_
        have HWB:=Aside0.mk (Kd.R_mono (Kd.R_bound HW.out) (ok':=fun k_=>(WR.heap.size ≤ k_ ∧ k_ < W8.heap.size) ∧ k_ ≠ gy) (fun k_ h=>⟨⟨h.2.1,h.2.2.1⟩,h.1.2⟩))
        have HLE:=Aside0.mk hle
        have HS8:=Aside0.mk HBi.out.size
        have HNE:=Aside0.mk hne
        have hxc:W8.cell? ⟨gx,1,none⟩ = some (.slice B1 x.f1.length d1):=(blk_cell HX.out 1).trans rfl
        clear HW hle hne
        go_wp2
        go_loopw [48] (fun v48 wq=>∃ (j:Nat) (vp:Value) (pp post:List Int),j ≤ x.f1.length ∧ v48 = .int .i64 j ∧ Hid (pp.length = j) ∧ Hid (pp ++ post = ps) ∧ Hid (impl_TrimSteps.par k list (x.f1.drop j) = some post) ∧ Hid (wq.heap[gy]? = some (.cells #[.int .i64 x.f0,vp,.slice AW wy.length cW,.slice none 0 0] 83 (0,0))) ∧ Hid ((Kd.int .i64).R 3 wq WR.heap.size (fun k_=>W8.heap.size ≤ k_) vp pp) ∧ Hid (Kept W8 wq (fun k_=>k_ = gy)) ∧ Hid (Below WR.heap.size WR wq)) (fun v48 _=>x.f1.length - (intOf v48).toNat)
        case atStart=>exact ⟨0,.slice none 0 0,[],ps,Nat.zero_le _,rfl,rfl,rfl,HPS.out,HY.out,Kd.R_nil _ _ _ _ _,Kept.refl _ _,HBi.out⟩
        case round =>
          rename World=>wq
          clear HPS HY HBi hxc
          obtain ⟨j,vp,pp,post,hj,rfl,hpl,hpp,hpa,hY,hP,hK,hB⟩:=hrel
          unfold Hid at hpl hpp hpa hY hP hK hB
          by_cases hq:j < x.f1.length
          · rw [List.drop_eq_getElem_cons hq] at hpa
            simp only [impl_TrimSteps.par] at hpa
            obtain ⟨ix,hix,hpa2⟩:=Option.bind_eq_some_iff.1 hpa
            obtain ⟨postn,hp2,hpa3⟩:=Option.bind_eq_some_iff.1 hpa2
            simp only [Option.some.injEq] at hpa3
            subst hpa3
            obtain ⟨a1,eB1,hpc⟩:=ci_elem (Kd.C_below I1.out hB) j hq
            have hrd:rd x.f1 (j:Int) = x.f1[j]:=by unfold rd;simp [List.getD_eq_getElem?_getD,hq]
            rw [hrd] at hpc
            subst eB1
            generalize x.f1[j] = p at hpc hix
            have HPP:=Aside0.mk hpp
            have HPN:=Aside0.mk hpl
            have HP2:=Aside0.mk hp2
            have HIX:=Aside0.mk hix
            have HY:=Aside0.mk hY
            have HP:=Aside0.mk hP
            have HK:=Aside0.mk hK
            have HBq:=Aside0.mk hB
            have hjb:j < 1048576:=by have:=HXB.out.1;omega
            have HPL:Aside0 (pp.length + 1 ≤ 1048576):=⟨by have:=HXB.out.1;omega⟩
            clear hpp hpl hp2 hix hY hP hK hB hpa hpa2 hrd
            go_upto_region 14 with fail
            clear hpc
            have hd0:Below wq.heap.size wq wq.drew:=below_drew1 (Below.refl _ _)
            have HY:=Aside0.mk ((hd0.block gy (Array.getElem?_eq_some_iff.1 HY.out).1).trans HY.out)
            have HP:=Aside0.mk (Kd.R_below HP.out hd0)
            have HK:=Aside0.mk (Kept.below HK.out hd0)
            have HBq:=Aside0.mk (below_step HBq.out hd0)
            clear hd0
            refine start_ (n:=9) (S:=fun w'=>w'.cell? ⟨gy,1,none⟩ = some vp) (ds:=[8]) #[false,false,false,false,false,false,false,false,false] (by kernel_rfl) rfl rfl ((blk_cell HY.out 1).trans rfl) (fun hHeld=>?_)
            generalize wq.drew = W1 at HY HP HK HBq hHeld ⊢
            refine pure_ (i:=0) (N:=(some 52)) (v:=?_) (a':=?_) #[true,false,false,false,false,false,false,false,false] rfl rfl (by kernel_rfl) (fun _ _ _ h=>h) (Or.inl ⟨by rfl,?_⟩) ?_ ?_
            rotate_left
            · intro w'
              go_simp
              with_reducible rfl
            rotate_left
            · simp only [Act.put,List.setIfInBounds_toArray,List.set_cons_zero,List.set_cons_succ,i64_w,i32_w]
              rfl
            refine pure_ (i:=2) (N:=(some 54)) (v:=?_) (a':=?_) #[true,false,true,false,false,false,false,false,false] rfl rfl (by kernel_rfl) (fun _ _ _ h=>h) (Or.inl ⟨by rfl,?_⟩) ?_ ?_
            rotate_left
            · intro w'
              go_simp
              with_reducible rfl
            rotate_left
            · simp only [Act.put,List.setIfInBounds_toArray,List.set_cons_zero,List.set_cons_succ,i64_w,i32_w]
              rfl
            refine pure_ (i:=3) (N:=(some 55)) (v:=?_) (a':=?_) #[true,false,true,true,false,false,false,false,false] rfl rfl (by kernel_rfl) (fun _ _ _ h=>h) (Or.inl ⟨by rfl,?_⟩) ?_ ?_
            rotate_left
            · intro w'
              go_simp
              with_reducible rfl
            rotate_left
            · simp only [Act.put,List.setIfInBounds_toArray,List.set_cons_zero,List.set_cons_succ,i64_w,i32_w]
              rfl
            refine take_ (i:=1) (N:=(some 53)) (v:=?_) (a':=?_) #[true,true,true,true,false,false,false,false,false] rfl rfl (by kernel_rfl) (fun _ _ _ h=>h) (Or.inl ⟨by rfl,?_⟩) hHeld ?_ ?_
            rotate_left
            · intro w' s0
              go_simp
              with_reducible rfl
            rotate_left
            · simp only [Act.put,List.setIfInBounds_toArray,List.set_cons_zero,List.set_cons_succ,i64_w,i32_w]
              rfl
            refine one_ (i:=4) (N:=(some 56)) #[true,true,true,true,true,false,false,false,false] rfl rfl (by kernel_rfl) (by decide) (fun K hK=>?_)
            refine goes_ Try.func79 (by kernel_rfl) rfl #[.slice (some al) list.length cL,.int .i64 p] (by rfl) rfl rfl (by (try simp only [List.map_toArray,List.map_cons,List.map_nil]);first|done|rfl) ?_
            refine (slices_Index_int_int.calls k (some al) cL list p ix W1 (Kd.C_below HLI.out HBq.out) hcL HIX.out).mono ?_
            rintro e W2 ⟨rfl,hdr⟩
            refine ⟨_,rfl,?_⟩
            have hd0:=hdr.below
            have HY:=Aside0.mk ((hd0.block gy (Array.getElem?_eq_some_iff.1 HY.out).1).trans HY.out)
            have HP:=Aside0.mk (Kd.R_below HP.out hd0)
            have HK:=Aside0.mk (Kept.below HK.out hd0)
            have HBq:=Aside0.mk (below_step HBq.out hd0)
            clear hd0
            clear hdr
            refine hK.out _ _ ((blk_cell HY.out 1).trans rfl) (fun hHeld=>?_)
            clear hK K
            refine norm_ (a':=?_) ?_ ?_
            rotate_left
            · show Act.put _ (some 56) _ = _
              simp only [Act.put,List.setIfInBounds_toArray,List.set_cons_zero,List.set_cons_succ,i64_w,i32_w]
              rfl
            refine one_ (i:=5) (N:=(some 57)) #[true,true,true,true,true,true,false,false,false] rfl rfl (by kernel_rfl) (by decide) (fun K hK=>?_)
            refine value_ (w1:=?_) (v:=?_) (by rfl) rfl ?_ ?_
            rotate_left 2
            · go_simp
              constructor
              · rfl
              · rfl
            refine hK.out _ _ ((blk_cell (blk_alloc HY.out _) 1).trans rfl) (fun hHeld=>?_)
            clear hK K
            refine norm_ (a':=?_) ?_ ?_
            rotate_left
            · show Act.put _ (some 57) _ = _
              simp only [Act.put,List.setIfInBounds_toArray,List.set_cons_zero,List.set_cons_succ,i64_w,i32_w]
              rfl
            refine one_ (i:=6) (N:=(some 58)) #[true,true,true,true,true,true,true,false,false] rfl rfl (by kernel_rfl) (by decide) (fun K hK=>?_)
            have hN1:=HK.out.1
            refine Kd.R_append_step (Kd.int .i64) (w0:=WR) WR.heap.size (by rfl) (.tmp 53) (.tmp 57) 22 3 (.int .i64 0) 8 rfl Try.underlying22 info3 rfl (by decide) (by decide) vp pp ix [.int .i64 ix] (fun k_=>W8.heap.size ≤ k_) (fun _=>False) rfl rfl rfl (fun _ hk=>hk.elim) (fun k_ hk=>Nat.le_trans hN1 hk) HP.out HBq.out HBq.out.size (by have:=HPL.out;omega) ?_
            intro v1 w1 ho hb hg hat
            have hgy1:some gy ≠ vp.ownBlock:=Kd.R_ne HP.out HY.out (by decide)
            have HY:=Aside0.mk (blk_grown HY.out hg hgy1)
            have HK:=Aside0.mk (Kept.of_grown hg HK.out (fun k_ q_=>.inr (HP.out.1 k_ q_)))
            have HP:=Aside0.mk ho
            have HBq:=Aside0.mk hb
            clear ho hb hg hat hgy1 hN1
            refine hK.out _ _ ((blk_cell HY.out 1).trans rfl) (fun hHeld=>?_)
            clear hK K
            refine norm_ (a':=?_) ?_ ?_
            rotate_left
            · show Act.put _ (some 58) _ = _
              simp only [Act.put,List.setIfInBounds_toArray,List.set_cons_zero,List.set_cons_succ,i64_w,i32_w]
              rfl
            refine pure_ (i:=7) (N:=(some 59)) (v:=?_) (a':=?_) #[true,true,true,true,true,true,true,true,false] rfl rfl (by kernel_rfl) (fun _ _ _ h=>h) (Or.inl ⟨by rfl,?_⟩) ?_ ?_
            rotate_left
            · intro w'
              go_simp
              with_reducible rfl
            rotate_left
            · simp only [Act.put,List.setIfInBounds_toArray,List.set_cons_zero,List.set_cons_succ,i64_w,i32_w]
              rfl
            refine last_ (i:=8) (N:=none) #[true,true,true,true,true,true,true,true,true] rfl rfl (by kernel_rfl) (by decide) (fun K hK=>?_)
            have hs:w1.cell? ⟨gy,1,none⟩ = some vp:=(blk_cell HY.out 1).trans rfl
            have hf:=blk_frozen HY.out 1
            obtain ⟨AP,cP,rfl⟩:∃ A c,v1 = .slice A (pp.length + 1) c:=by have h9:=Kd.R_slice HP.out;rwa [show (pp ++ [ix]).length = pp.length + 1 by simp] at h9
            refine skip_ (w1:=?_) (by rfl) rfl ?_ ?_
            rotate_left
            · go_simp
              rfl
            have HP:=Aside0.mk (Kd.R_mono (Kd.R_far (p:=⟨gy,1,none⟩) (Kd.R_types HP.out HY.out (by decide)) (fun _ h=>h.2) (.slice AP (pp.length + 1) cP)) (fun _ h=>h.1))
            have HY:=Aside0.mk (blk_put (cs':=#[.int .i64 x.f0,.slice AP (pp.length + 1) cP,.slice AW wy.length cW,.slice none 0 0]) HY.out 1 (.slice AP (pp.length + 1) cP) rfl)
            have HK:=Aside0.mk (Kept.setCell (p:=⟨gy,1,none⟩) HK.out (.inl rfl) (.slice AP (pp.length + 1) cP))
            have HBq:=Aside0.mk (below_set (j:=1) (v:=.slice AP (pp.length + 1) cP) HBq.out HLE.out)
            clear hs hf
            generalize w1.setCell ⟨gy,1,none⟩ (.slice AP (pp.length + 1) cP) = W9 at HP HY HK HBq ⊢
            refine hK.out _ _ ?_
            clear hK K hHeld
            refine done_ (by kernel_rfl) ?_
            go_wp2
            go_roundw
            case rel=>exact ⟨j + 1,.slice AP (pp.length + 1) cP,pp ++ [ix],postn,hq,rfl,by have:=HPN.out;unfold Hid;rw [List.length_append,List.length_singleton];omega,by have:=HPP.out;unfold Hid;rw [List.append_assoc];exact this,HP2.out,HY.out,HP.out,HK.out,HBq.out⟩
            case measure=>simp [intOf];omega
          · obtain rfl:j = x.f1.length:=by omega
            rw [List.drop_length] at hpa
            simp only [impl_TrimSteps.par,Option.some.injEq] at hpa
            subst hpa
            rw [List.append_nil] at hpp
            subst hpp
            have HP:=Aside0.mk hP
            have HX:=Aside0.mk ((hK.2 gx (blk_lt HX.out) HNE.out).trans HX.out)
            have HW:=Aside0.mk (Kd.R_step HWB.out (fun k_ h1 h2=>hK.2 k_ h2 h1.2))
            have HY:=Aside0.mk hY
            have HBq:=Aside0.mk hB
            have HSZ:=Aside0.mk hK.1
            have HP:=Aside0.mk (Kd.R_mono (Kd.R_bound (Kd.R_types HP.out HY.out (by decide))) (ok':=fun k_=>(W8.heap.size ≤ k_ ∧ k_ < wq.heap.size) ∧ k_ ≠ gy) (fun k_ h=>⟨⟨h.1.1,h.2.2.1⟩,h.1.2⟩))
            have hxc:wq.cell? ⟨gx,3,none⟩ = some (.slice B3 x.f3.length d3):=(blk_cell HX.out 3).trans rfl
            clear hP hK hY hB hpl hj
            rename World=>Wc
            go_wp2
            go_loopw [64] (fun v64 Wq=>∃ (j:Nat) (vc:Value) (cc post:List S72),j ≤ x.f3.length ∧ v64 = .int .i64 j ∧ Hid (cc.length = j) ∧ Hid (cc ++ post = cl) ∧ Hid (impl_TrimSteps.cla (x.f3.drop j) = some post) ∧ Hid (Wq.heap[gy]? = some (.cells #[.int .i64 x.f0,vp,.slice AW wy.length cW,vc] 83 (0,0))) ∧ Hid (Kd.S aLit 72 Wq WR.heap.size (fun k_=>Wc.heap.size ≤ k_) vc cc) ∧ Hid (Kept Wc Wq (fun k_=>k_ = gy)) ∧ Hid (Below WR.heap.size WR Wq)) (fun v64 _=>x.f3.length - (intOf v64).toNat)
            case atStart=>exact ⟨0,.slice none 0 0,[],cl,Nat.zero_le _,rfl,rfl,rfl,HCL0.out,HY.out,Kd.S_nil _ _ _ _ _,Kept.refl _ _,HBq.out⟩
            case round =>
              rename World=>Wq
              clear HCL0 HY HBq hxc
              obtain ⟨j,vc,cc,post,hj,rfl,hpl,hpp,hpa,hY,hC,hK,hB⟩:=hrel
              unfold Hid at hpl hpp hpa hY hC hK hB
              by_cases hq:j < x.f3.length
              · rw [List.drop_eq_getElem_cons hq] at hpa
                simp only [impl_TrimSteps.cla] at hpa
                obtain ⟨⟨b0,b1,b2⟩,hbx,hpa2⟩:=Option.bind_eq_some_iff.1 hpa
                obtain ⟨postn,hp2,hpa3⟩:=Option.bind_eq_some_iff.1 hpa2
                simp only [Option.some.injEq] at hpa3
                subst hpa3
                obtain ⟨a3,L1,e1,L2,e2,eB3,q0,q1,q2,z1_,i1,z2_,i2⟩:=at_T72 (Kd.C_below I3.out hB) (j:Int) (by omega) (by omega)
                have hrd:rd_T72 x.f3 (j:Int) = x.f3[j]:=by unfold rd_T72;simp [List.getD_eq_getElem?_getD,hq]
                rw [Int.toNat_natCast] at q0 q1 q2
                rw [hrd] at q0 q1 q2 z1_ i1 z2_ i2
                subst eB3
                generalize x.f3[j] = z at hbx q0 q1 q2 z1_ i1 z2_ i2
                have HPP:=Aside0.mk hpp
                have HPN:=Aside0.mk hpl
                have HP2:=Aside0.mk hp2
                have HCL:=Aside0.mk hbx
                have HY:=Aside0.mk hY
                have HC:=Aside0.mk hC
                have HK:=Aside0.mk hK
                have HBq:=Aside0.mk hB
                have Z1:=Aside0.mk i1
                have Z2:=Aside0.mk i2
                have hjb:j < 1048576:=by have:=HXB.out.2;omega
                have HPL:Aside0 (cc.length + 1 ≤ 1048576):=⟨by have:=HXB.out.2;omega⟩
                clear hpp hpl hp2 hbx hY hC hK hB hpa hpa2 hrd i1 i2
                go_upto_region 19 with fail
                clear q0 q1 q2
                have HGZ:Aside0 (some Wq.heap.size ≠ vc.ownBlock):=⟨fun q_=>Nat.lt_irrefl _ (Kd.S_lt HC.out _ q_.symm)⟩
                have HZ:=Aside0.mk (heap_alloc_new Wq (.cells #[.bool z.f0,.slice L1 z.f1.length e1,.slice L2 z.f2.length e2] 72))
                have HY:=Aside0.mk (blk_alloc HY.out (.cells #[.bool z.f0,.slice L1 z.f1.length e1,.slice L2 z.f2.length e2] 72))
                have HC:=Aside0.mk (Kd.S_alloc HC.out (.cells #[.bool z.f0,.slice L1 z.f1.length e1,.slice L2 z.f2.length e2] 72))
                have HK:=Aside0.mk (Kept.alloc HK.out (.cells #[.bool z.f0,.slice L1 z.f1.length e1,.slice L2 z.f2.length e2] 72))
                have Z1:=Aside0.mk (Kd.C_below Z1.out (below_alloc (Below.refl _ _) (.cells #[.bool z.f0,.slice L1 z.f1.length e1,.slice L2 z.f2.length e2] 72)))
                have Z2:=Aside0.mk (Kd.C_below Z2.out (below_alloc (Below.refl _ _) (.cells #[.bool z.f0,.slice L1 z.f1.length e1,.slice L2 z.f2.length e2] 72)))
                have HBq:=Aside0.mk (Below.alloc HBq.out HBq.out.size (.cells #[.bool z.f0,.slice L1 z.f1.length e1,.slice L2 z.f2.length e2] 72))
                obtain ⟨gl,hgl⟩:∃ gl,gl = Wq.heap.size:=⟨_,rfl⟩
                generalize Wq.alloc (.cells #[.bool z.f0,.slice L1 z.f1.length e1,.slice L2 z.f2.length e2] 72) = Wq at HZ HY HC HK HBq Z1 Z2 ⊢
                rw [← hgl] at HZ HGZ ⊢
                clear hgl
                have hd0:Below Wq.heap.size Wq Wq.drew:=below_drew1 (Below.refl _ _)
                have HY:=Aside0.mk ((hd0.block gy (Array.getElem?_eq_some_iff.1 HY.out).1).trans HY.out)
                have HZ:=Aside0.mk ((hd0.block gl (Array.getElem?_eq_some_iff.1 HZ.out).1).trans HZ.out)
                have HC:=Aside0.mk (Kd.S_below HC.out hd0)
                have HK:=Aside0.mk (Kept.below HK.out hd0)
                have HBq:=Aside0.mk (below_step HBq.out hd0)
                have Z1:=Aside0.mk (Kd.C_below Z1.out hd0)
                have Z2:=Aside0.mk (Kd.C_below Z2.out hd0)
                clear hd0
                refine start_ (n:=8) (S:=fun w'=>w'.cell? ⟨gy,3,none⟩ = some vc ∧ w'.cell? ⟨gl,0,none⟩ = some (.bool z.f0) ∧ w'.cell? ⟨gl,1,none⟩ = some (.slice L1 z.f1.length e1) ∧ w'.cell? ⟨gl,2,none⟩ = some (.slice L2 z.f2.length e2)) (ds:=[7]) #[false,false,false,false,false,false,false,false] (by kernel_rfl) rfl rfl ⟨(blk_cell HY.out 3).trans rfl,(blk_cell HZ.out 0).trans rfl,(blk_cell HZ.out 1).trans rfl,(blk_cell HZ.out 2).trans rfl⟩ (fun hHeld=>?_)
                generalize Wq.drew = W1 at HY HZ HC HK HBq Z1 Z2 hHeld ⊢
                refine pure_ (i:=0) (N:=(some 68)) (v:=?_) (a':=?_) #[true,false,false,false,false,false,false,false] rfl rfl (by kernel_rfl) (fun _ _ _ h=>h) (Or.inl ⟨by rfl,?_⟩) ?_ ?_
                rotate_left
                · intro w'
                  go_simp
                  with_reducible rfl
                rotate_left
                · simp only [Act.put,List.setIfInBounds_toArray,List.set_cons_zero,List.set_cons_succ,i64_w,i32_w]
                  rfl
                refine take_ (i:=1) (N:=(some 69)) (v:=?_) (a':=?_) #[true,true,false,false,false,false,false,false] rfl rfl (by kernel_rfl) (fun _ _ _ h=>h) (Or.inl ⟨by rfl,?_⟩) hHeld ?_ ?_
                rotate_left
                · intro w' ⟨s0,s1,s2,s3⟩
                  go_simp
                  with_reducible rfl
                rotate_left
                · simp only [Act.put,List.setIfInBounds_toArray,List.set_cons_zero,List.set_cons_succ,i64_w,i32_w]
                  rfl
                refine take_ (i:=2) (N:=(some 70)) (v:=?_) (a':=?_) #[true,true,true,false,false,false,false,false] rfl rfl (by kernel_rfl) (fun _ _ _ h=>h) (Or.inl ⟨by rfl,?_⟩) hHeld ?_ ?_
                rotate_left
                · intro w' ⟨s0,s1,s2,s3⟩
                  go_simp
                  with_reducible rfl
                rotate_left
                · simp only [Act.put,List.setIfInBounds_toArray,List.set_cons_zero,List.set_cons_succ,i64_w,i32_w]
                  rfl
                have HN:=Aside0.mk (Kd.S_mono (Kd.S_bound HC.out) (ok':=fun k_=>Wc.heap.size ≤ k_ ∧ k_ < W1.heap.size) (fun k_ h=>⟨h.1,h.2.2.1⟩))
                have hlt:=Aside0.mk (Kd.S_lt HC.out)
                have hN1:=Aside0.mk HK.out.1
                have HB1:=Aside0.mk HBq.out.size
                refine one_ (i:=3) (N:=(some 71)) #[true,true,true,true,false,false,false,false] rfl rfl (by kernel_rfl) (by decide) (fun K hK=>?_)
                refine goes_ Try.func80 (by kernel_rfl) rfl #[.agg #[.bool z.f0,.slice L1 z.f1.length e1,.slice L2 z.f2.length e2]] (by rfl) rfl rfl (by (try simp only [List.map_toArray,List.map_cons,List.map_nil]);first|done|rfl) ?_
                refine (impl_copyLit.calls z.f0 L1 e1 z.f1 L2 e2 z.f2 b0 b1 b2 W1 Z1.out z1_ Z2.out z2_ HCL.out).mono ?_
                rintro e W2 ⟨v1,v2,rfl,hr1,hr2,hd⟩
                refine ⟨_,rfl,?_⟩
                have HY:=Aside0.mk ((hd.block gy (Array.getElem?_eq_some_iff.1 HY.out).1).trans HY.out)
                have HZ:=Aside0.mk ((hd.block gl (Array.getElem?_eq_some_iff.1 HZ.out).1).trans HZ.out)
                have HC:=Aside0.mk (Kd.S_below HC.out hd)
                have HK:=Aside0.mk (Kept.below HK.out hd)
                have HBq:=Aside0.mk (below_step HBq.out hd)
                have HN:=Aside0.mk (Kd.S_below HN.out hd)
                have HS1:=Aside0.mk HBq.out.size
                have hM:aLit.M W2 WR.heap.size (fun k_=>W1.heap.size ≤ k_) (⟨b0,b1,b2⟩:S72) [.bool b0,v1,v2]:=⟨fun k_=>some k_ = v1.ownBlock,v1,v2,rfl,Kd.R_mono (Kd.R_lower (Kd.R_bound (Kd.R_tight rfl hr1)) HB1.out) (fun k_ h=>⟨h.2.1,h.1⟩),Kd.R_mono (Kd.R_lower (Kd.R_bound hr2) HB1.out) (fun k_ h=>⟨h.2.1,h.1⟩)⟩
                obtain ⟨A1,c1',rfl⟩:=Kd.R_slice hr1
                obtain ⟨A2,c2',rfl⟩:=Kd.R_slice hr2
                have HM:=Aside0.mk hM
                clear hr1 hr2 hd hM
                refine hK.out _ _ ⟨(blk_cell HY.out 3).trans rfl,(blk_cell HZ.out 0).trans rfl,(blk_cell HZ.out 1).trans rfl,(blk_cell HZ.out 2).trans rfl⟩ (fun hHeld=>?_)
                clear hK K
                refine norm_ (a':=?_) ?_ ?_
                rotate_left
                · show Act.put _ (some 71) _ = _
                  simp only [Act.put,List.setIfInBounds_toArray,List.set_cons_zero,List.set_cons_succ,i64_w,i32_w]
                  rfl
                refine one_ (i:=4) (N:=(some 72)) #[true,true,true,true,true,false,false,false] rfl rfl (by kernel_rfl) (by decide) (fun K hK=>?_)
                refine value_ (w1:=?_) (v:=?_) (by rfl) rfl ?_ ?_
                rotate_left 2
                · go_simp
                  constructor
                  · rfl
                  · rfl
                refine hK.out _ _ ⟨(blk_cell (blk_alloc HY.out _) 3).trans rfl,(blk_cell (blk_alloc HZ.out _) 0).trans rfl,(blk_cell (blk_alloc HZ.out _) 1).trans rfl,(blk_cell (blk_alloc HZ.out _) 2).trans rfl⟩ (fun hHeld=>?_)
                clear hK K
                refine norm_ (a':=?_) ?_ ?_
                rotate_left
                · show Act.put _ (some 72) _ = _
                  simp only [Act.put,List.setIfInBounds_toArray,List.set_cons_zero,List.set_cons_succ,i64_w,i32_w]
                  rfl
                refine one_ (i:=5) (N:=(some 73)) #[true,true,true,true,true,true,false,false] rfl rfl (by kernel_rfl) (by decide) (fun K hK=>?_)
                refine Kd.S_append_step aLit (w0:=WR) WR.heap.size (by rfl) (.tmp 69) (.tmp 72) 32 72 (.agg #[.bool false,.slice none 0 0,.slice none 0 0]) 56 rfl Try.underlying32 info72 rfl (by decide) (by decide) vc cc (⟨b0,b1,b2⟩:S72) [.bool b0,.slice A1 b1.length c1',.slice A2 b2.length c2'] (fun k_=>Wc.heap.size ≤ k_) (fun k_=>W1.heap.size ≤ k_) rfl rfl HM.out (fun k_ hk=>⟨Nat.le_trans hN1.out hk,fun q_=>by have:=hlt.out k_ q_.symm;omega⟩) (fun k_ hk=>Nat.le_trans HK.out.1 hk) (Kd.S_mono HN.out (fun k_ h=>⟨h.1,by have:=h.2;omega⟩)) HBq.out HBq.out.size (by have:=HPL.out;omega) ?_
                intro v3 w1 ho hb hg hat
                have hgy1:some gy ≠ vc.ownBlock:=Kd.S_ne HC.out HY.out (by decide)
                have hgl1:some gl ≠ vc.ownBlock:=HGZ.out
                have HY:=Aside0.mk (blk_grown HY.out hg hgy1)
                have HZ:=Aside0.mk (blk_grown HZ.out hg hgl1)
                have HK:=Aside0.mk (Kept.of_grown hg HK.out (fun k_ q_=>.inr ((Kd.S_R HC.out).1 k_ q_)))
                have HC:=Aside0.mk ho
                have HBq:=Aside0.mk hb
                clear ho hb hg hat hgy1 hgl1 HN
                refine hK.out _ _ ⟨(blk_cell HY.out 3).trans rfl,(blk_cell HZ.out 0).trans rfl,(blk_cell HZ.out 1).trans rfl,(blk_cell HZ.out 2).trans rfl⟩ (fun hHeld=>?_)
                clear hK K
                refine norm_ (a':=?_) ?_ ?_
                rotate_left
                · show Act.put _ (some 73) _ = _
                  simp only [Act.put,List.setIfInBounds_toArray,List.set_cons_zero,List.set_cons_succ,i64_w,i32_w]
                  rfl
                refine pure_ (i:=6) (N:=(some 74)) (v:=?_) (a':=?_) #[true,true,true,true,true,true,true,false] rfl rfl (by kernel_rfl) (fun _ _ _ h=>h) (Or.inl ⟨by rfl,?_⟩) ?_ ?_
                rotate_left
                · intro w'
                  go_simp
                  with_reducible rfl
                rotate_left
                · simp only [Act.put,List.setIfInBounds_toArray,List.set_cons_zero,List.set_cons_succ,i64_w,i32_w]
                  rfl
                refine last_ (i:=7) (N:=none) #[true,true,true,true,true,true,true,true] rfl rfl (by kernel_rfl) (by decide) (fun K hK=>?_)
                have hs:w1.cell? ⟨gy,3,none⟩ = some vc:=(blk_cell HY.out 3).trans rfl
                have hf:=blk_frozen HY.out 3
                obtain ⟨AC,cC,rfl⟩:∃ A c,v3 = .slice A (cc.length + 1) c:=by have h9:=Kd.S_slice HC.out;rwa [show (cc ++ [(⟨b0,b1,b2⟩:S72)]).length = cc.length + 1 by simp] at h9
                refine skip_ (w1:=?_) (by rfl) rfl ?_ ?_
                rotate_left
                · go_simp
                  rfl
                have HC:=Aside0.mk (Kd.S_mono (Kd.S_far (p:=⟨gy,3,none⟩) (Kd.S_types HC.out HY.out (by decide)) (fun _ h=>h.2) (.slice AC (cc.length + 1) cC)) (fun _ h=>h.1))
                have HY:=Aside0.mk (blk_put (cs':=#[.int .i64 x.f0,vp,.slice AW wy.length cW,.slice AC (cc.length + 1) cC]) HY.out 3 (.slice AC (cc.length + 1) cC) rfl)
                have HK:=Aside0.mk (Kept.setCell (p:=⟨gy,3,none⟩) HK.out (.inl rfl) (.slice AC (cc.length + 1) cC))
                have HBq:=Aside0.mk (below_set (j:=3) (v:=.slice AC (cc.length + 1) cC) HBq.out HLE.out)
                clear hs hf
                generalize w1.setCell ⟨gy,3,none⟩ (.slice AC (cc.length + 1) cC) = W9 at HC HY HK HBq ⊢
                refine hK.out _ _ ?_
                clear hK K hHeld HZ
                refine done_ (by kernel_rfl) ?_
                go_wp2
                go_roundw
                case rel=>exact ⟨j + 1,.slice AC (cc.length + 1) cC,cc ++ [(⟨b0,b1,b2⟩:S72)],postn,hq,rfl,by have:=HPN.out;unfold Hid;rw [List.length_append,List.length_singleton];omega,by have:=HPP.out;unfold Hid;rw [List.append_assoc];exact this,HP2.out,HY.out,HC.out,HK.out,HBq.out⟩
                case measure=>simp [intOf];omega
              · obtain rfl:j = x.f3.length:=by omega
                rw [List.drop_length] at hpa
                simp only [impl_TrimSteps.cla,Option.some.injEq] at hpa
                subst hpa
                rw [List.append_nil] at hpp
                subst hpp
                have HP:=Aside0.mk (Kd.R_step HP.out (fun k_ h1 h2=>hK.2 k_ h2 h1.2))
                have HW:=Aside0.mk (Kd.R_step HW.out (fun k_ h1 h2=>hK.2 k_ h2 h1.2))
                have HC:=Aside0.mk hC
                have HY:=Aside0.mk hY
                have HBq:=Aside0.mk hB
                have HS9:=Aside0.mk hK.1
                clear hC hK hY hB hpl hj
                obtain ⟨AP,cP,rfl⟩:=Kd.R_slice HP.out
                obtain ⟨AC,cC,rfl⟩:=Kd.S_slice HC.out
                have hM:aStep.M Wq w.heap.size (fun k_=>WR.heap.size ≤ k_) (⟨x.f0,pp,wy,cc⟩:S83) [.int .i64 x.f0,.slice AP pp.length cP,.slice AW wy.length cW,.slice AC cc.length cC] :=
                  ⟨fun k_=>if k_ < W8.heap.size then 1 else if k_ < Wc.heap.size then 0 else 2,_,_,_,rfl,
                    Kd.R_mono (Kd.R_lower HP.out HBw.out.size) (fun k_ h=>⟨Nat.le_trans HS8.out h.1.1,by show (if k_ < W8.heap.size then 1 else if k_ < Wc.heap.size then 0 else 2) = 0;rw [if_neg (by have:=h.1.1;omega),if_pos h.1.2]⟩),
                    Kd.R_mono (Kd.R_lower HW.out HBw.out.size) (fun k_ h=>⟨h.1.1,by show (if k_ < W8.heap.size then 1 else if k_ < Wc.heap.size then 0 else 2) = 1;rw [if_pos h.1.2]⟩),
                    Kd.S_mono (Kd.S_lower HC.out HBw.out.size) (fun k_ h=>⟨Nat.le_trans HS8.out (Nat.le_trans HSZ.out h),by show (if k_ < W8.heap.size then 1 else if k_ < Wc.heap.size then 0 else 2) = 2;rw [if_neg (by have:=HSZ.out;omega),if_neg (by omega)]⟩)⟩
                have HM:=Aside0.mk hM
                have HOUT:=Aside0.mk (Kd.S_below HOUT.out HBq.out)
                have HB:=Aside0.mk (below_step HBw.out HBq.out)
                have HLR:=Aside0.mk (Kd.R_below HLR.out HBq.out)
                have hcz0:Wq.cell? ⟨gy,0,none⟩ = some (.int .i64 x.f0):=(blk_cell HY.out 0).trans rfl
                have hcz1:Wq.cell? ⟨gy,1,none⟩ = some (.slice AP pp.length cP):=(blk_cell HY.out 1).trans rfl
                have hcz2:Wq.cell? ⟨gy,2,none⟩ = some (.slice AW wy.length cW):=(blk_cell HY.out 2).trans rfl
                have hcz3:Wq.cell? ⟨gy,3,none⟩ = some (.slice AC cc.length cC):=(blk_cell HY.out 3).trans rfl
                have HLQ:Aside0 (pre.length + 1 ≤ 1048577):=⟨by have:=HPRE.out;omega⟩
                have HKP:=Aside0.mk HBq.out.size
                have hib:i < 1048576:=by omega
                clear hM HP HW HC HBq
                go_wp2_with ((with_reducible refine gate_builtin (b:=.append) (xs:=#[.tmp 76,.tmp 78]) rfl ?_);at_builtin;refine Kd.S_append aStep (w0:=w) w.heap.size rfl (.tmp 76) (.tmp 78) 41 83 (.agg #[(.int .i64 0),(.slice none 0 0),(.slice none 0 0),(.slice none 0 0)]) 80 rfl Try.underlying41 info83 rfl (by decide) (by decide) u9 pre (⟨x.f0,pp,wy,cc⟩:S83) [.int .i64 x.f0,.slice AP pp.length cP,.slice AW wy.length cW,.slice AC cc.length cC] (fun _=>True) (fun k_=>WR.heap.size ≤ k_) rfl rfl HM.out (fun k_ hk=>⟨trivial,fun q_=>by have:=(Kd.S_R HOUT.out).1 k_ q_.symm;omega⟩) (fun _ _=>trivial) (Kd.S_mono HOUT.out (fun k_ h=>⟨trivial,by omega⟩)) HB.out HB.out.size (by have:=HLQ.out;omega) ?_;intro v_ Wz ho hb hg hat;have HLR:=Aside0.mk (Kd.R_over' HLR.out (Kd.S_typed HOUT.out) (by decide) hg);have HO:=Aside0.mk ho;have HB:=Aside0.mk hb;clear ho hb hg hat)
                go_roundw
                case rel=>exact ⟨i + 1,pre ++ [(⟨x.f0,pp,wy,cc⟩:S83)],post2,hp,rfl,by have:=HPO.out;unfold Hid;rw [List.append_assoc];exact this,by have:=HPRE.out;unfold Hid;rw [List.length_append,List.length_singleton];omega,HP2.out,HO.out,HLR.out,HB.out⟩
                case measure=>simp [intOf];omega
      · obtain rfl:i = list.length:=by omega
        rw [List.drop_length] at hro
        simp only [impl_TrimSteps.rows,Option.some.injEq] at hro
        subst hro
        rw [List.append_nil] at hpo
        subst hpo
        have HS:=Aside0.mk hS
        have HB:=Aside0.mk hB
        clear hS hB hlr hpl hi
        go_wp2
        go_ret2
        exact ⟨_,rfl,HS.out,HB.out⟩

end Go.Proofs.Ytlgnanbnicmdaaa.QFnExactTrimSteps
