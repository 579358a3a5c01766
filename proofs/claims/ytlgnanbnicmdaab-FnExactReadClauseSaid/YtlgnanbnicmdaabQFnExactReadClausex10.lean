-- Written by this session's own program (wip/x/xprint.py, over the kit's printer); Lean checks it.
import Derived.Test.YtlgnanbnicmdaabQFnExactReadClausex0
import Derived.Test.YtlgnanbnicmdaabQFnExactReadClausex1
import Derived.Test.YtlgnanbnicmdaabQFnExactReadClausex2
import Derived.Test.YtlgnanbnicmdaabQFnExactReadClausex3
import Derived.Test.YtlgnanbnicmdaabQFnExactReadClausex6
import Derived.Test.YtlgnanbnicmdaabQFnExactReadClausex8
import Derived.Test.YtlgnanbnicmdaabQFnExactReadClausex9
namespace Go.Proofs.Ytlgnanbnicmdaab.QFnExactReadClause
open Go.RowKit Go.Proofs.YtlgnanbnicmdaabW.PrintWords Go.Proofs.YtlgnanbnicmdaabW.PrintLast Go.Proofs.YtlgnanbnicmdaabW.PrintMore
attribute [local go_sem] max2_int min2_int max_two min_two max_three min_three max_four min_four   -- for this text's walks alone
set_option linter.unusedVariables false
set_option linter.unusedSimpArgs false

/-! ### laws_FnExactReadClause: function 8, by a walk of this session's own -/
/-! ### Marks: what is written into deep rows, told by its leaves (cells of whole numbers and bools, in the order in which they are marked) -/
/-- A leaf: its cell, and whether it is a bool. -/
abbrev Leaf:=Addr × Bool
def lval (b:Bool) (k:Int):Value:=if b then .bool (k % 3 == 0) else .int .i64 k
def wrL (w:World):List Leaf → Int → World
  | [],_=>w
  | a :: t,k=>wrL (w.setCell a.1 (lval a.2 k)) t (k + 1)
theorem wrL_append (qs bs:List Leaf):∀ (w:World) (k:Int),wrL w (qs ++ bs) k = wrL (wrL w qs k) bs (k + qs.length):=by
  induction qs with
  | nil=>intro w k;simp [wrL]
  | cons a t ih =>
    intro w k
    rw [List.cons_append,wrL,ih,wrL,List.length_cons]
    congr 1
    omega
def Lf (w:World) (a:Leaf):Prop:=(a.1.spot = none ∧ w.frozen? a.1 = false) ∧ if a.2 then ∃ x,w.cell? a.1 = some (.bool x) else ∃ x,w.cell? a.1 = some (.int .i64 x)
theorem Lf.cell {w:World} {a:Leaf} (h:Lf w a):∃ u,w.cell? a.1 = some u:=by
  unfold Lf at h
  split at h
  · exact ⟨_,h.2.choose_spec⟩
  · exact ⟨_,h.2.choose_spec⟩
theorem Lf.set {w:World} {a b:Leaf} (ha:Lf w a) (hb:Lf w b) (k:Int):Lf (w.setCell a.1 (lval a.2 k)) b:=by
  refine ⟨⟨hb.1.1,by rw [World.frozen?_setCell];exact hb.1.2⟩,?_⟩
  by_cases e:a.1 = b.1
  · have e2:a.2 = b.2:=by
      have h1:=ha.2
      have h2:=hb.2
      rw [e] at h1
      cases ha2:a.2 <;> cases hb2:b.2
      · rfl
      · rw [ha2,if_neg (by decide)] at h1
        rw [hb2,if_pos rfl] at h2
        obtain ⟨x,hx⟩:=h1
        obtain ⟨y,hy⟩:=h2
        rw [hx] at hy
        cases hy
      · rw [ha2,if_pos rfl] at h1
        rw [hb2,if_neg (by decide)] at h2
        obtain ⟨x,hx⟩:=h1
        obtain ⟨y,hy⟩:=h2
        rw [hx] at hy
        cases hy
      · rfl
    obtain ⟨u,hu⟩:=ha.cell
    rw [← e,World.cell?_setCell_same _ _ _ hu,← e2]
    unfold lval
    cases a.2
    · exact ⟨_,rfl⟩
    · exact ⟨_,rfl⟩
  · rw [World.cell?_setCell_other _ _ _ _ e]
    exact hb.2
theorem Lf.wr {b:Leaf} (qs:List Leaf):∀ (w:World) (k:Int),(∀ a ∈ qs,Lf w a) → Lf w b → Lf (wrL w qs k) b:=by
  induction qs with
  | nil=>intro w k _ h;exact h
  | cons a t ih=>intro w k h hb;exact ih _ _ (fun x hx=>(h a (by simp)).set (h x (by simp [hx])) k) ((h a (by simp)).set hb k)
theorem slice_set {w:World} {a:Leaf} (ha:Lf w a) (k:Int) {p:Addr} {A:Option Addr} {n c:Nat} (h:w.cell? p = some (.slice A n c)):(w.setCell a.1 (lval a.2 k)).cell? p = some (.slice A n c):=by
  rw [World.cell?_setCell_other _ _ _ _ (fun e=>?_)]
  · exact h
  · have h1:=ha.2
    rw [e,h] at h1
    cases a.2 <;> simp at h1
theorem slice_wr (qs:List Leaf):∀ (w:World) (k:Int),(∀ a ∈ qs,Lf w a) → ∀ {p:Addr} {A:Option Addr} {n c:Nat},w.cell? p = some (.slice A n c) → (wrL w qs k).cell? p = some (.slice A n c):=by
  induction qs with
  | nil=>intro w k _ p A n c h;exact h
  | cons a t ih=>intro w k h p A n c hp;exact ih _ _ (fun x hx=>(h a (by simp)).set (h x (by simp [hx])) k) (slice_set (h a (by simp)) k hp)
/-- The leaves of a row of whole numbers. -/
def leavesI (b o n:Nat):List Leaf:=(List.range n).map fun j=>(⟨b,o + j,none⟩,false)
theorem leavesI_succ (b o n:Nat):leavesI b o (n + 1) = leavesI b o n ++ [(⟨b,o + n,none⟩,false)]:=by unfold leavesI;rw [List.range_succ,List.map_append];rfl
theorem leavesI_length (b o n:Nat):(leavesI b o n).length = n:=by simp [leavesI]
theorem leavesI_mem {b o n j:Nat} (h:j < n):((⟨b,o + j,none⟩,false):Leaf) ∈ leavesI b o n:=List.mem_map.2 ⟨j,List.mem_range.2 h,rfl⟩
structure RowI (w:World) (v:Value) (qs:List Leaf):Prop where
  lf:∀ a ∈ qs,Lf w a
  fm:∃ b o n c,qs = leavesI b o n ∧ n ≤ 4611686018427387904 ∧ ((n = 0 ∧ ∃ A,v = .slice A 0 c) ∨ v = .slice (some ⟨b,o,none⟩) n c)
theorem RowI.wr {w:World} {v:Value} {qs:List Leaf} (h:RowI w v qs) (bs:List Leaf) (k:Int) (hb:∀ a ∈ bs,Lf w a):RowI (wrL w bs k) v qs :=
  ⟨fun a ha=>Lf.wr bs w k hb (h.lf a ha),h.fm⟩
set_option maxHeartbeats 4000000 in
set_option maxRecDepth 1000000 in
theorem Try.markI_walk (v:Value) (qs:List Leaf) (k:Int) (w:World) (h:RowI w v qs) (h0:0 ≤ k) (h1:k + qs.length ≤ 4611686018427387904) :
    Calls Try.prog 22 #[v,.int .i64 k] w fun e w'=>e = .returned (.int .i64 (k + qs.length)) ∧ Aside0 (w' = wrL w qs k):=by
  obtain ⟨hlf,b,o,n,c,rfl,hn,hv⟩:=h
  rw [leavesI_length] at h1 ⊢
  obtain ⟨A,rfl,hA⟩:∃ A,v = .slice A n c ∧ (0 < n → A = some ⟨b,o,none⟩):=by
    rcases hv with ⟨rfl,A,rfl⟩|rfl
    · exact ⟨A,rfl,fun h=>by omega⟩
    · exact ⟨_,rfl,fun _=>rfl⟩
  clear hv
  go_enter Try.func22,Try.ntmps22
  go_wp2
  go_loopw [1,5] (fun v1 v5 wr=>∃ i:Nat,i ≤ n ∧ v1 = .int .i64 (k + i) ∧ v5 = .int .i64 i ∧ Hid (wr = wrL w (leavesI b o i) k)) (fun _ v5 _=>n - (intOf v5).toNat)
  case atStart=>exact ⟨0,Nat.zero_le _,by simp,rfl,rfl⟩
  case round =>
    obtain ⟨i,hi,rfl,rfl,hw⟩:=hrel
    by_cases hp:i < n
    · obtain rfl:=hA (by omega)
      have hl:Lf wr (⟨b,o + i,none⟩,false):=by
        unfold Hid at hw
        rw [hw]
        exact Lf.wr _ _ _ (fun a ha=>hlf a (by
          unfold leavesI at ha ⊢
          obtain ⟨j,hj,rfl⟩:=List.mem_map.1 ha
          exact List.mem_map.2 ⟨j,List.mem_range.2 (by have:=List.mem_range.1 hj;omega),rfl⟩)) (hlf _ (leavesI_mem hp))
      obtain ⟨x,hx⟩:=hl.2
      have hf:=hl.1.2
      have hwr2:Hid (wr.setCell ⟨b,o + i,none⟩ (.int .i64 (k + i)) = wrL w (leavesI b o (i + 1)) k):=by
        unfold Hid at hw ⊢
        rw [leavesI_succ,wrL_append,← hw,leavesI_length]
        rfl
      clear hl hw hlf
      go_wp2
      go_roundw
      case rel=>exact ⟨i + 1,by omega,by congr 1;omega,rfl,hwr2⟩
      case measure=>simp [intOf];omega
    · obtain rfl:i = n:=by omega
      go_wp2
      go_ret
      exact ⟨rfl,⟨hw⟩⟩

/-- A literal at cell o: its bool, its two rows. -/
structure LitAt (w:World) (b o:Nat) (qs:List Leaf):Prop where
  ex:∃ v1 v2 q1 q2,qs = (⟨b,o,none⟩,true) :: (q1 ++ q2) ∧ Lf w (⟨b,o,none⟩,true) ∧ w.cell? ⟨b,o + 1,none⟩ = some v1 ∧ w.cell? ⟨b,o + 2,none⟩ = some v2 ∧ RowI w v1 q1 ∧ RowI w v2 q2
theorem RowI.slice {w:World} {v:Value} {qs:List Leaf} (h:RowI w v qs):∃ A n c,v = .slice A n c:=by
  obtain ⟨_,b,o,n,c,_,_,h⟩:=h
  rcases h with ⟨_,A,h⟩|h
  · exact ⟨_,_,_,h⟩
  · exact ⟨_,_,_,h⟩
theorem LitAt.lf {w:World} {b o:Nat} {qs:List Leaf} (h:LitAt w b o qs):∀ a ∈ qs,Lf w a:=by
  obtain ⟨v1,v2,q1,q2,rfl,h0,_,_,h1,h2⟩:=h
  intro a ha
  simp only [List.mem_cons,List.mem_append] at ha
  rcases ha with rfl|ha|ha
  · exact h0
  · exact h1.lf a ha
  · exact h2.lf a ha
theorem LitAt.wr {w:World} {b o:Nat} {qs:List Leaf} (h:LitAt w b o qs) (bs:List Leaf) (k:Int) (hb:∀ a ∈ bs,Lf w a):LitAt (wrL w bs k) b o qs:=by
  obtain ⟨v1,v2,q1,q2,e,h0,c1,c2,h1,h2⟩:=h
  obtain ⟨_,_,_,rfl⟩:=h1.slice
  obtain ⟨_,_,_,rfl⟩:=h2.slice
  exact ⟨_,_,q1,q2,e,Lf.wr _ _ _ hb h0,slice_wr _ _ _ hb c1,slice_wr _ _ _ hb c2,h1.wr _ _ hb,h2.wr _ _ hb⟩
/-- A row of literals: element j's leaves are the j-th list. -/
structure RowL (w:World) (v:Value) (qq:List (List Leaf)):Prop where
  ex:∃ b o c A,v = .slice A qq.length c ∧ (0 < qq.length → A = some ⟨b,o,none⟩) ∧ ∀ j,j < qq.length → LitAt w b (o + j * 3) (qq.getD j [])
theorem flat_take_succ {α:Type} (qq:List (List α)) (j:Nat) (h:j < qq.length):(qq.take (j + 1)).flatten = (qq.take j).flatten ++ qq.getD j []:=by
  rw [List.take_add_one,List.flatten_append,List.getD_eq_getElem?_getD,List.getElem?_eq_getElem h]
  simp
theorem flat_take_le {α:Type} (qq:List (List α)) (j:Nat):(qq.take j).flatten.length ≤ qq.flatten.length:=by
  rw [← List.take_append_drop j qq,List.flatten_append,List.length_append,List.take_append_drop]
  omega
theorem flat_mem {α:Type} {qq:List (List α)} {a:α} (h:a ∈ qq.flatten):∃ j,j < qq.length ∧ a ∈ qq.getD j []:=by
  obtain ⟨l,hl,ha⟩:=List.mem_flatten.1 h
  obtain ⟨j,hj,rfl⟩:=List.mem_iff_getElem.1 hl
  exact ⟨j,hj,by rw [List.getD_eq_getElem?_getD,List.getElem?_eq_getElem hj];exact ha⟩
theorem mem_flat_take {α:Type} {qq:List (List α)} {a:α} {j:Nat} (h:a ∈ (qq.take j).flatten):a ∈ qq.flatten:=by
  obtain ⟨l,hl,ha⟩:=List.mem_flatten.1 h
  exact List.mem_flatten.2 ⟨l,List.mem_of_mem_take hl,ha⟩
theorem RowL.lf {w:World} {v:Value} {qq:List (List Leaf)} (h:RowL w v qq):∀ a ∈ qq.flatten,Lf w a:=by
  obtain ⟨b,o,c,A,_,_,h⟩:=h
  intro a ha
  obtain ⟨j,hj,hm⟩:=flat_mem ha
  exact (h j hj).lf a hm
theorem RowL.wr {w:World} {v:Value} {qq:List (List Leaf)} (h:RowL w v qq) (bs:List Leaf) (k:Int) (hb:∀ a ∈ bs,Lf w a):RowL (wrL w bs k) v qq:=by
  obtain ⟨b,o,c,A,h0,h1,h⟩:=h
  exact ⟨b,o,c,A,h0,h1,fun j hj=>(h j hj).wr _ _ hb⟩
theorem RowL.slice {w:World} {v:Value} {qq:List (List Leaf)} (h:RowL w v qq):∃ A n c,v = .slice A n c:=by
  obtain ⟨b,o,c,A,h0,_⟩:=h
  exact ⟨_,_,_,h0⟩
set_option maxHeartbeats 8000000 in
set_option maxRecDepth 1000000 in
theorem Try.markL_walk (v:Value) (qq:List (List Leaf)) (k:Int) (w:World) (h:RowL w v qq) (hn:qq.length ≤ 4611686018427387904) (h0:0 ≤ k) (T:Nat) (hT:T = qq.flatten.length) (h1:k + T ≤ 4611686018427387904) :
    Calls Try.prog 23 #[v,.int .i64 k] w fun e w'=>e = .returned (.int .i64 (k + T)) ∧ Aside0 (w' = wrL w qq.flatten k):=by
  have hlf:=Aside0.mk h.lf
  obtain ⟨b,o,c,A,rfl,hA,he⟩:=h
  have HE:=Aside0.mk he
  have HT:=Aside0.mk hT
  clear he hT
  go_enter Try.func23,Try.ntmps23
  go_wp2
  go_loopw [1,5] (fun v1 v5 wr=>∃ i m:Nat,i ≤ qq.length ∧ v1 = .int .i64 (k + m) ∧ v5 = .int .i64 i ∧ Hid (m = (qq.take i).flatten.length) ∧ Hid (wr = wrL w (qq.take i).flatten k)) (fun _ v5 _=>qq.length - (intOf v5).toNat)
  case atStart=>exact ⟨0,0,Nat.zero_le _,by simp,rfl,rfl,rfl⟩
  case round =>
    obtain ⟨i,m,hi,rfl,rfl,hm,hw⟩:=hrel
    by_cases hp:i < qq.length
    · obtain rfl:=hA (by omega)
      have hlp:∀ a ∈ (qq.take i).flatten,Lf w a:=fun a ha=>hlf.out a (mem_flat_take ha)
      have hL:LitAt wr b (o + i * 3) (qq.getD i []):=by
        unfold Hid at hw
        rw [hw]
        exact (HE.out i hp).wr _ _ hlp
      obtain ⟨v1,v2,q1,q2,eq,l0,c1,c2,r1,r2⟩:=hL
      have hq:=flat_take_succ qq i hp
      rw [eq] at hq
      have hlen:=flat_take_le qq (i + 1)
      rw [hq,List.length_append,List.length_cons,List.length_append] at hlen
      have hnew:Hid ((qq.take (i + 1)).flatten.length = m + 1 + q1.length + q2.length):=by
        unfold Hid at hm ⊢
        rw [hq,List.length_append,List.length_cons,List.length_append,hm]
        omega
      unfold Hid at hm
      rw [← hm] at hlen
      rw [← HT.out] at hlen
      obtain ⟨n1',hn1⟩:∃ x,x = q1.length:=⟨_,rfl⟩
      obtain ⟨n2',hn2⟩:∃ x,x = q2.length:=⟨_,rfl⟩
      rw [← hn1,← hn2] at hlen hnew
      have r1:=r1.wr [(⟨b,o + i * 3,none⟩,true)] (k + m) Yl
      have r2:=r2.wr [(⟨b,o + i * 3,none⟩,true)] (k + m) Yl
      obtain ⟨A1,n1,p1,rfl⟩:=r1.slice
      obtain ⟨A2,n2,p2,rfl⟩:=r2.slice
      have c1':=slice_wr [(⟨b,o + i * 3,none⟩,true)] wr (k + m) Yl c1
      have c2':=slice_wr [(⟨b,o + i * 3,none⟩,true)] wr (k + m) Yl c2
      obtain ⟨x,hx⟩:=l0.2
      have hf:=l0.1.2
      simp only [wrL,lval,if_true] at r1 r2 c1' c2'
      have hwq:Hid (wrL w (qq.take (i + 1)).flatten k = wrL (wrL (wr.setCell ⟨b,o + i * 3,none⟩ (.bool ((k + (m:Int)) % 3 == 0))) q1 (k + m + 1)) q2 (k + m + 1 + n1')):=by
        unfold Hid at hw ⊢
        rw [hq,wrL_append,← hw,← hm,wrL,wrL_append,hn1]
        rfl
      have hcall1:=Try.markI_walk (.slice A1 n1 p1) q1 (k + m + 1) _ r1 (by omega) (by omega)
      have c2'':=slice_wr q1 _ (k + m + 1) r1.lf c2'
      have hcall2:=Try.markI_walk (.slice A2 n2 p2) q2 (k + m + 1 + n1') _ (r2.wr q1 (k + m + 1) r1.lf) (by omega) (by omega)
      rw [← hn1] at hcall1
      rw [← hn2] at hcall2
      clear r1 r2 l0 hlp hw hlf eq hq hm c2' hn1 hn2
      generalize hW1:wr.setCell ⟨b,o + i * 3,none⟩ (.bool ((k + (m:Int)) % 3 == 0)) = W1 at hcall1 hcall2 c1' c2'' hwq
      go_upto_region 6 with fail
      clear hW1
      go_wp2_with (go_at_call 22;refine hcall1.mono ?_)
      first|rintro e W2 rfl hW2|rintro e W2 ⟨rfl,hW2⟩
      replace hW2:=hW2.out
      rw [← hW2] at hcall2 c2'' hwq
      clear hW2 hcall1
      go_wp2_with (go_at_call 22;refine hcall2.mono ?_)
      first|rintro e W3 rfl hW3|rintro e W3 ⟨rfl,hW3⟩
      replace hW3:=hW3.out
      have hwq:Hid (W3 = wrL w (qq.take (i + 1)).flatten k):=by
        unfold Hid at hwq ⊢
        rw [hwq,hW3]
      clear hcall2 hW3
      go_wp2
      go_roundw
      case rel=>exact ⟨i + 1,m + 1 + n1' + n2',by omega,by congr 1;omega,rfl,hnew.symm,hwq⟩
      case measure=>simp [intOf];omega
    · obtain rfl:i = qq.length:=by omega
      unfold Hid at hm
      rw [List.take_length] at hw hm
      rw [← HT.out] at hm
      subst hm
      go_wp2
      go_ret
      exact ⟨rfl,⟨hw⟩⟩
/-- A step at cell o: its rule, its two rows of numbers, its row of literals. -/
def InB (P:Nat → Prop) (qs:List Leaf):Prop:=∀ a ∈ qs,P a.1.block
theorem RowI.of_R {e:Nat} {w:World} {base:Nat} {ok:Nat → Prop} {v:Value} {xs:List Int} (h:(Kd.int .i64).R e w base ok v xs) (hn:xs.length ≤ 4611686018427387904) :
    ∃ qs,RowI w v qs ∧ qs.length = xs.length ∧ InB (fun b=>ok b ∧ base ≤ b ∧ b < w.heap.size ∧ v.ownBlock = some b) qs:=by
  rcases Nat.eq_zero_or_pos xs.length with h0|h0
  · obtain ⟨A,c,rfl⟩:=Kd.R_slice h
    exact ⟨[],⟨fun a ha=>by simp at ha,0,0,0,c,rfl,by omega,.inl ⟨rfl,A,by rw [h0]⟩⟩,by rw [h0];rfl,fun a ha=>by simp at ha⟩
  · obtain ⟨g,c,rfl,hb,hl,_⟩:=Kd.R_form h h0
    refine ⟨leavesI g 0 xs.length,⟨fun a ha=>?_,g,0,xs.length,c,rfl,hn,.inr rfl⟩,leavesI_length _ _ _,fun a ha=>?_⟩
    · obtain ⟨j,hj,rfl⟩:=List.mem_map.1 ha
      have:=Kd.R_celln (0:Int) h (j:Int) (by omega) (by have:=List.mem_range.1 hj;omega)
      rw [Int.toNat_natCast] at this
      refine ⟨⟨rfl,?_⟩,?_⟩
      · rw [Nat.zero_add];exact this.2
      · exact ⟨_,by rw [Nat.zero_add];exact this.1⟩
    · obtain ⟨j,hj,rfl⟩:=List.mem_map.1 ha
      exact ⟨h.1 _ rfl,hb,hl,rfl⟩
def lsz (x:S65):Nat:=1 + x.f1.length + x.f2.length
def ltot (l:List S65):Nat:=(l.map lsz).sum
theorem LitAt.of_M {w:World} {base:Nat} {ok:Nat → Prop} {x:S65} {c:List Value} {b o:Nat} (h:k65.M w base ok x c) (hc:∀ j u,c[j]? = some u → w.cell? ⟨b,o + j,none⟩ = some u) (hf:∀ j,w.frozen? ⟨b,o + j,none⟩ = false) (h1:x.f1.length ≤ 4611686018427387904) (h2:x.f2.length ≤ 4611686018427387904) :
    ∃ qs,LitAt w b o qs ∧ qs.length = lsz x ∧ InB (fun k=>k = b ∨ (ok k ∧ base ≤ k ∧ k < w.heap.size)) qs:=by
  obtain ⟨v1,v2,rfl,r1,r2⟩:=k65_openM h
  obtain ⟨q1,g1,e1,b1⟩:=RowI.of_R r1 h1
  obtain ⟨q2,g2,e2,b2⟩:=RowI.of_R r2 h2
  refine ⟨(⟨b,o,none⟩,true) :: (q1 ++ q2),⟨v1,v2,q1,q2,rfl,⟨⟨rfl,hf 0⟩,x.f0,hc 0 _ rfl⟩,hc 1 _ rfl,hc 2 _ rfl,g1,g2⟩,?_,?_⟩
  · rw [List.length_cons,List.length_append,e1,e2];unfold lsz;omega
  · intro a ha
    simp only [List.mem_cons,List.mem_append] at ha
    rcases ha with rfl|ha|ha
    · exact .inl rfl
    · have:=b1 a ha;exact .inr ⟨this.1,this.2.1,this.2.2.1⟩
    · have:=b2 a ha;exact .inr ⟨this.1,this.2.1,this.2.2.1⟩
/-- Lists of leaves, element by element. -/
theorem leaves_list {α:Type} (xs:List α) (P:Nat → α → List Leaf → Prop) (h:∀ j x,xs[j]? = some x → ∃ qs,P j x qs):∃ qq:List (List Leaf),qq.length = xs.length ∧ ∀ j x,xs[j]? = some x → P j x (qq.getD j []):=by
  induction xs generalizing P with
  | nil=>exact ⟨[],rfl,fun j x h=>by simp at h⟩
  | cons x t ih =>
    obtain ⟨q,hq⟩:=h 0 x rfl
    obtain ⟨qq,h1,h2⟩:=ih (fun j=>P (j + 1)) (fun j y hj=>h (j + 1) y (by simpa using hj))
    refine ⟨q :: qq,by simp [h1],fun j y hj=>?_⟩
    cases j with
    | zero =>
      have:x = y:=by simpa using hj
      subst this
      exact hq
    | succ j=>exact h2 j y (by simpa using hj)
theorem flat_sum {α:Type} (f:α → Nat) (xs:List α):∀ (qq:List (List Leaf)),qq.length = xs.length → (∀ j x,xs[j]? = some x → (qq.getD j []).length = f x) → qq.flatten.length = (xs.map f).sum:=by
  induction xs with
  | nil=>intro qq h _;rw [List.length_nil] at h;rw [List.eq_nil_of_length_eq_zero h];rfl
  | cons x t ih =>
    intro qq h hq
    cases qq with
    | nil=>simp at h
    | cons q qq =>
      rw [List.flatten_cons,List.length_append,List.map_cons,List.sum_cons,ih qq (by simpa using h) (fun j y hj=>by simpa using hq (j + 1) y (by simpa using hj))]
      have:=hq 0 x rfl
      simp at this
      omega
theorem flat_inB {α:Type} {P:Nat → Prop} (xs:List α) (qq:List (List Leaf)) (hl:qq.length = xs.length) (h:∀ j x,xs[j]? = some x → InB P (qq.getD j [])):InB P qq.flatten:=by
  intro a ha
  obtain ⟨j,hj,hm⟩:=flat_mem ha
  exact h j _ (List.getElem?_eq_getElem (by omega)) a hm
theorem RowL.of_R {e:Nat} {w:World} {base:Nat} {ok:Nat → Prop} {v:Value} {xs:List S65} (h:k65.R e w base ok v xs) (hs:∀ x ∈ xs,x.f1.length ≤ 4611686018427387904 ∧ x.f2.length ≤ 4611686018427387904) :
    ∃ qq,RowL w v qq ∧ qq.length = xs.length ∧ qq.flatten.length = ltot xs ∧ InB (fun b=>ok b ∧ base ≤ b ∧ b < w.heap.size) qq.flatten:=by
  rcases Nat.eq_zero_or_pos xs.length with h0|h0
  · obtain ⟨A,c,rfl⟩:=Kd.R_slice h
    obtain rfl:=List.eq_nil_of_length_eq_zero h0
    exact ⟨[],⟨0,0,c,A,rfl,fun h=>by simp at h,fun j hj=>by simp at hj⟩,rfl,rfl,fun a ha=>by simp at ha⟩
  · obtain ⟨g,c,rfl,hb,hl,_⟩:=Kd.R_form h h0
    obtain ⟨qq,h1,h2⟩:=leaves_list xs (fun j x qs=>LitAt w g (0 + j * 3) qs ∧ qs.length = lsz x ∧ InB (fun b=>ok b ∧ base ≤ b ∧ b < w.heap.size) qs) (fun j x hj=>by
      obtain ⟨hjl,hjx⟩:=List.getElem?_eq_some_iff.1 hj
      obtain ⟨cs,hcl,hM,hcc,hfr⟩:=Kd.R_elem h x (j:Int) (by omega) (by omega)
      rw [Int.toNat_natCast,List.getD_eq_getElem?_getD,hj] at hM
      have hsx:=hs x (by rw [← hjx];exact List.getElem_mem hjl)
      obtain ⟨qs,q1,q2,q3⟩:=LitAt.of_M (b:=g) (o:=0 + j * 3) hM (fun i u hu=>by have:=hcc i u hu;rw [Int.toNat_natCast] at this;rw [Nat.zero_add];exact this) (fun i=>by have:=hfr i;rw [Int.toNat_natCast] at this;rw [Nat.zero_add];exact this) hsx.1 hsx.2
      refine ⟨qs,q1,q2,fun a ha=>?_⟩
      rcases q3 a ha with q|q
      · show ok a.1.block ∧ _;rw [q];exact ⟨h.1 _ rfl,hb,hl⟩
      · exact ⟨q.1.1,q.2.1,q.2.2⟩)
    refine ⟨qq,⟨g,0,c,some ⟨g,0,none⟩,by rw [h1],fun _=>rfl,fun j hj=>(h2 j _ (List.getElem?_eq_getElem (by omega))).1⟩,h1,flat_sum lsz xs qq h1 (fun j x hj=>(h2 j x hj).2.1),flat_inB xs qq h1 (fun j x hj=>(h2 j x hj).2.2)⟩
theorem wrL_kept (qs:List Leaf) (P:Nat → Prop):∀ (w:World) (k:Int),InB P qs → Kept w (wrL w qs k) P:=by
  induction qs with
  | nil=>intro w k _;exact Kept.refl w P
  | cons a t ih =>
    intro w k h
    have h1:Kept w (w.setCell a.1 (lval a.2 k)) P:=⟨by simp [World.setCell],fun i _ hn=>Below.heap_setCell w a.1 _ i (fun e=>hn (by rw [e];exact h a (by simp)))⟩
    exact Kept.then_ h1 (ih _ _ (fun x hx=>h x (by simp [hx]))) (fun k hk=>.inl hk)
theorem wrL_below (qs:List Leaf) (B:Nat):∀ (w w':World) (k:Int),Below B w w' → InB (fun b=>B ≤ b) qs → Below B w (wrL w' qs k):=by
  induction qs with
  | nil=>intro w w' k h _;exact h
  | cons a t ih =>
    intro w w' k h hq
    refine ih _ _ _ (h.trans ⟨rfl,rfl,rfl,by simp [World.setCell],fun i hi=>Below.heap_setCell w' a.1 _ i (fun e=>?_)⟩) (fun x hx=>hq x (by simp [hx]))
    have:=hq a (by simp)
    omega
/-- The marks of steps of the call's own, made from base on and before top. -/
theorem Try.markLitS (v:Value) (xs:List S65) (k:Int) (ok:Nat → Prop) (w0 w:World) (hB:Below w0.heap.size w0 w) (h:k65.R 65 w w0.heap.size ok v xs) (hs:∀ x ∈ xs,x.f1.length ≤ 4611686018427387904 ∧ x.f2.length ≤ 4611686018427387904) (hn:xs.length ≤ 4611686018427387904) (h0:0 ≤ k) (h1:k + ltot xs ≤ 4611686018427387904) :
    Calls Try.prog 23 #[v,.int .i64 k] w fun e w'=>e = .returned (.int .i64 (k + ltot xs)) ∧ Aside0 (Below w0.heap.size w0 w' ∧ Kept w w' ok):=by
  obtain ⟨qq,r,rl,rt,rb⟩:=RowL.of_R h hs
  refine (Try.markL_walk v qq k w r (by omega) h0 (ltot xs) rt.symm h1).mono ?_
  rintro e w' ⟨rfl,⟨rfl⟩⟩
  exact ⟨rfl,⟨wrL_below _ _ _ _ _ hB (fun a ha=>(rb a ha).2.1),wrL_kept _ _ _ _ (fun a ha=>(rb a ha).1)⟩⟩
/-! ### Rows of the call's own, told by where their blocks lie -/
def Iv (lo hi:Nat):Nat → Prop:=fun b=>lo ≤ b ∧ b < hi
theorem iv_of {α:Type} {d:Kd α} {e:Nat} {W W':World} {v:Value} {xs:List α} (B:Nat) (h:d.R e W' W.heap.size (fun _=>True) v xs) (hb:B ≤ W.heap.size):d.R e W' B (Iv W.heap.size W'.heap.size) v xs :=
  Kd.R_lower (Kd.R_mono (Kd.R_bound h) (fun _ hk=>⟨hk.2.1,hk.2.2.1⟩)) hb
theorem iv_step {α:Type} {d:Kd α} {e B lo hi:Nat} {W W':World} {v:Value} {xs:List α} {P:Nat → Prop} (h:d.R e W B (Iv lo hi) v xs) (hk:Kept W W' P) (hn:∀ b,lo ≤ b → b < hi → ¬ P b):d.R e W' B (Iv lo hi) v xs :=
  Kd.R_step h (fun k ho hlt=>hk.2 k hlt (hn k ho.1 ho.2))
theorem iv_below {α:Type} {d:Kd α} {e B lo hi:Nat} {W W':World} {v:Value} {xs:List α} (h:d.R e W B (Iv lo hi) v xs) (hb:Below W.heap.size W W'):d.R e W' B (Iv lo hi) v xs:=Kd.R_below h hb
def Bx (W:World) (g:Nat) (v:Value) (t:Nat):Prop:=W.heap[g]? = some (.cells #[v] t (0,0))
theorem Bx.lt {W:World} {g t:Nat} {v:Value} (h:Bx W g v t):g < W.heap.size:=(Array.getElem?_eq_some_iff.1 h).1
theorem Bx.below {W W':World} {g t:Nat} {v:Value} (h:Bx W g v t) (hb:Below W.heap.size W W'):Bx W' g v t:=(hb.block g h.lt).trans h
theorem Bx.step {W W':World} {g t:Nat} {v:Value} {P:Nat → Prop} (h:Bx W g v t) (hk:Kept W W' P) (hn:¬ P g):Bx W' g v t:=(hk.2 g h.lt hn).trans h
theorem Bx.cell {W:World} {g t:Nat} {v:Value} (h:Bx W g v t):W.cell? ⟨g,0,none⟩ = some v:=by
  unfold Bx at h
  simp [World.cell?,h]
/-- What is known of a sign's row made in a region that draws. -/
structure SgRow (W0 W:World) (A:Option Addr) (c:Nat) (l:List Int):Prop where
  bl:Below W0.heap.size W0 W
  rd:(Kd.int .i64).C W A l.length l
  le:l.length ≤ c
theorem SgRow.drewN {W0 W:World} {A:Option Addr} {c:Nat} {l:List Int} (h:SgRow W0 W A c l) (n:Nat):SgRow W0 (W.drewN n) A c l:=⟨pw_below_drewN h.bl n,Kd.C_drewN h.rd n,h.le⟩
theorem SgRow.drew {W0 W:World} {A:Option Addr} {c:Nat} {l:List Int} (h:SgRow W0 W A c l):SgRow W0 W.drew A c l:=h.drewN 1
theorem later {P Q:Prop} (main:P → Q) (h:P):Q:=main h
/-! ### A row of rows of whole numbers, of the call's own: its block g; the rows are only read -/
abbrev CI (w:World) (A:Option Addr) (l:List Int):Prop:=(Kd.int .i64).C w A l.length l
theorem ci_reads {w:World} {A:Option Addr} {l:List Int} (h:CI w A l):ReadsOf (Value.int .i64) (0:Int) w A l.length l:=Kd.reads_of_C h
theorem ci_of {w:World} {A:Option Addr} {l:List Int} (h:ReadsOf (Value.int .i64) (0:Int) w A l.length l):CI w A l:=Kd.C_of_reads (d:=(0:Int)) (h1:=fun _=>rfl) h
/-- A store over a cell that holds a slice. -/
theorem ci_set {w:World} {A:Option Addr} {l:List Int} (h:CI w A l) {p:Addr} {A':Option Addr} {n c:Nat} (hp:w.cell? p = some (.slice A' n c)) (u:Value):CI (w.setCell p u) A l:=by
  refine ci_of ⟨rfl,(ci_reads h).2.1,fun hn=>?_⟩
  obtain ⟨ad,e,hc⟩:=(ci_reads h).2.2 hn
  refine ⟨ad,e,fun j hj=>?_⟩
  rw [World.cell?_setCell_other _ _ _ _ (fun e=>by have:=hc j hj;rw [← e,hp] at this;cases this)]
  exact hc j hj
theorem ci_elem {w:World} {A:Option Addr} {l:List Int} (h:CI w A l) (j:Nat) (hj:j < l.length):∃ ad,A = some ad ∧ w.cell? (ad.add j) = some (.int .i64 (rd l (j:Int))):=by
  obtain ⟨ad,e,hc⟩:=(ci_reads h).2.2 (by omega)
  refine ⟨ad,e,?_⟩
  rw [hc j hj]
  unfold rd
  rw [Int.toNat_natCast]
structure Rows2 (w:World) (g:Nat) (xs:List (List Int)):Prop where
  blk:∃ cs:Array Value,w.heap[g]? = some (.cells cs 22 (0,0))
  rd:∀ j,j < xs.length → ∃ A c,w.cell? ⟨g,j,none⟩ = some (.slice A (xs.getD j []).length c) ∧ (xs.getD j []).length ≤ c ∧ CI w A (xs.getD j [])
theorem Rows2.lt {w:World} {g:Nat} {xs:List (List Int)} (h:Rows2 w g xs):g < w.heap.size:=(Array.getElem?_eq_some_iff.1 h.blk.choose_spec).1
theorem Rows2.below {w w':World} {g:Nat} {xs:List (List Int)} (h:Rows2 w g xs) (hb:Below w.heap.size w w'):Rows2 w' g xs:=by
  obtain ⟨⟨cs,hc⟩,hr⟩:=h
  have hlt:=(Array.getElem?_eq_some_iff.1 hc).1
  refine ⟨⟨cs,(hb.block g hlt).trans hc⟩,fun j hj=>?_⟩
  obtain ⟨A,c,h1,h2,h3⟩:=hr j hj
  exact ⟨A,c,(Below.cell hb hlt).trans h1,h2,Kd.C_below h3 hb⟩
theorem Rows2.frozen {w:World} {g:Nat} {xs:List (List Int)} (h:Rows2 w g xs) (j:Nat):w.frozen? ⟨g,j,none⟩ = false:=by
  obtain ⟨⟨cs,hc⟩,_⟩:=h
  exact blk_frozen hc j
theorem blk_setCell {w:World} {g:Nat} {cs:Array Value} {t:Nat} (hc:w.heap[g]? = some (.cells cs t (0,0))) (j:Nat) (u:Value):∃ cs',(w.setCell ⟨g,j,none⟩ u).heap[g]? = some (.cells cs' t (0,0)):=⟨_,blk_put hc j u rfl⟩
theorem Rows2.set {w:World} {g:Nat} {xs:List (List Int)} (h:Rows2 w g xs) (j:Nat) (hj:j < xs.length) {A:Option Addr} {c:Nat} {x:List Int} (hx:CI w A x) (hc:x.length ≤ c):Rows2 (w.setCell ⟨g,j,none⟩ (.slice A x.length c)) g (xs.set j x):=by
  have h0:=h
  obtain ⟨⟨cs,hcs⟩,hr⟩:=h
  obtain ⟨A0,c0,p0,_,_⟩:=hr j hj
  refine ⟨blk_setCell hcs j _,fun i hi=>?_⟩
  rw [List.length_set] at hi
  by_cases e:i = j
  · subst e
    refine ⟨A,c,?_,?_,?_⟩
    · rw [World.cell?_setCell_same _ _ _ p0]
      simp [List.getD_eq_getElem?_getD,hi]
    · simpa [List.getD_eq_getElem?_getD,hi] using hc
    · have:(xs.set i x).getD i [] = x:=by simp [List.getD_eq_getElem?_getD,hi]
      rw [this]
      exact ci_set hx p0 _
  · obtain ⟨A1,c1,p1,p2,p3⟩:=hr i hi
    have e2:(xs.set j x).getD i [] = xs.getD i []:=by rw [List.getD_eq_getElem?_getD,List.getD_eq_getElem?_getD,List.getElem?_set_ne (fun q=>e q.symm)]
    rw [e2]
    exact ⟨A1,c1,by rw [World.cell?_setCell_other _ _ _ _ (by intro q;cases q;exact e rfl)];exact p1,p2,ci_set p3 p0 _⟩
theorem Bx.set {W:World} {g t gb j:Nat} {v:Value} (h:Bx W g v t) {u u0:Value} (hne:g ≠ gb):Bx (W.setCell ⟨gb,j,none⟩ u) g v t:=by
  unfold Bx at h ⊢
  rw [Below.heap_setCell W ⟨gb,j,none⟩ u g hne]
  exact h
theorem ci_kd {w:World} {g:Nat} {xs:List (List Int)} (h:Rows2 w g xs) (hl:xs.length ≤ 1000000):Kd.C (Kd.slice 3 (Kd.int .i64)) w (some ⟨g,0,none⟩) xs.length xs:=by
  refine ⟨rfl,by omega,fun _=>⟨_,rfl,fun j p hj=>?_⟩⟩
  obtain ⟨hjl,hjp⟩:=List.getElem?_eq_some_iff.1 hj
  obtain ⟨A,c,h1,h2,h3⟩:=h.rd j hjl
  have e:xs.getD j [] = p:=by rw [List.getD_eq_getElem?_getD,hj];rfl
  rw [e] at h1 h2 h3
  refine ⟨[.slice A p.length c],rfl,⟨A,c,rfl,h2,h3⟩,fun i u hu=>?_⟩
  have:i = 0:=by
    have:=(List.getElem?_eq_some_iff.1 hu).1
    simp at this
    exact this
  subst this
  have hu':Value.slice A p.length c = u:=by simpa using hu
  subst hu'
  rw [add_plain]
  simpa [Kd.slice] using h1
/-- All rows of whole numbers read as they did. -/
def KI (w w':World):Prop:=∀ A l,CI w A l → CI w' A l
theorem KI.refl (w:World):KI w w:=fun _ _ h=>h
theorem KI.below {w w1 w2:World} (h:KI w w1) (hb:Below w1.heap.size w1 w2):KI w w2:=fun A l hc=>Kd.C_below (h A l hc) hb
theorem KI.set {w w1:World} (h:KI w w1) {p:Addr} {A':Option Addr} {n c:Nat} (hp:w1.cell? p = some (.slice A' n c)) (u:Value):KI w (w1.setCell p u):=fun A l hc=>ci_set (h A l hc) hp u
theorem Rows2.drew {w:World} {g:Nat} {xs:List (List Int)} (h:Rows2 w g xs):Rows2 w.drew g xs:=h.below (below_drew (Below.refl _ _))
theorem ivS_of {α:Type} {d:Kd α} {e:Nat} {W W':World} {v:Value} {xs:List α} (B:Nat) (h:Kd.S d e W' W.heap.size (fun _=>True) v xs) (hb:B ≤ W.heap.size):Kd.S d e W' B (Iv W.heap.size W'.heap.size) v xs :=
  Kd.S_lower (Kd.S_mono (Kd.S_bound h) (fun _ hk=>⟨hk.2.1,hk.2.2.1⟩)) hb
theorem ivS_step {α:Type} {d:Kd α} {e B lo hi:Nat} {W W':World} {v:Value} {xs:List α} {P:Nat → Prop} (h:Kd.S d e W B (Iv lo hi) v xs) (hk:Kept W W' P) (hn:∀ b,lo ≤ b → b < hi → ¬ P b):Kd.S d e W' B (Iv lo hi) v xs :=
  Kd.S_step h (fun k ho hlt=>hk.2 k hlt (hn k ho.1 ho.2))
theorem ivS_below {α:Type} {d:Kd α} {e B lo hi:Nat} {W W':World} {v:Value} {xs:List α} (h:Kd.S d e W B (Iv lo hi) v xs) (hb:Below W.heap.size W W'):Kd.S d e W' B (Iv lo hi) v xs:=Kd.S_below h hb
/-! ### Marks of a row of literals of the call's own, told anew -/
def mkLS (k:Nat):List S65 → Int → Option (Int × List S65)
  | [],a=>some (a,[])
  | x :: t,a=>if 0 ≤ a ∧ a ≤ 4611686018427387904 then (laws_markIntS.f k x.f1 (a + 1)).bind fun r=>(laws_markIntS.f k x.f2 r.1).bind fun q=>(mkLS k t q.1).bind fun z=>some (z.1,⟨a % 3 == 0,r.2,q.2⟩ :: z.2) else none
theorem mkLS_len (k:Nat) (l:List S65):∀ {a b:Int} {y:List S65},mkLS k l a = some (b,y) → y.length = l.length:=by
  induction l with
  | nil=>intro a b y h;simp only [mkLS,Option.some.injEq,Prod.mk.injEq] at h;rw [← h.2]
  | cons x t ih =>
    intro a b y h
    simp only [mkLS] at h
    split at h
    · obtain ⟨r,_,h⟩:=Option.bind_eq_some_iff.1 h
      obtain ⟨q,_,h⟩:=Option.bind_eq_some_iff.1 h
      obtain ⟨z,h2,h⟩:=Option.bind_eq_some_iff.1 h
      obtain ⟨z1,z2⟩:=z
      have:=ih h2
      simp only [Option.some.injEq,Prod.mk.injEq] at h
      rw [← h.2,List.length_cons,List.length_cons,this]
    · cases h
set_option maxHeartbeats 8000000 in
set_option maxRecDepth 1000000 in
theorem Try.markLitSR (k:Nat) (ok:Nat → Prop) (v:Value) (xs ys:List S65) (a b:Int) (w0 w:World) (hB:Below w0.heap.size w0 w) (h:Kd.S aLit 65 w w0.heap.size ok v xs) (hm:mkLS k xs a = some (b,ys)) :
    Calls Try.prog 23 #[v,.int .i64 a] w fun e w'=>e = .returned (.int .i64 b) ∧ Aside0 (Kd.S aLit 65 w' w0.heap.size ok v ys ∧ Below w0.heap.size w0 w' ∧ Kept w w' ok):=by
  rcases Nat.eq_zero_or_pos xs.length with h0|h0
  · obtain rfl:=List.eq_nil_of_length_eq_zero h0
    simp only [mkLS,Option.some.injEq,Prod.mk.injEq] at hm
    obtain ⟨rfl,rfl⟩:=hm
    have H:=Aside0.mk h
    have HB:=Aside0.mk hB
    obtain ⟨A,c,rfl⟩:=Kd.S_slice h
    clear h hB
    obtain ⟨W0,hW0⟩:∃ W,W = w:=⟨_,rfl⟩
    rw [← hW0] at H HB ⊢
    rw [List.length_nil] at H ⊢
    clear hW0
    go_enter Try.func23,Try.ntmps23
    go_wp2
    go_loopw [1,5] (fun v1 v5 wr=>v1 = .int .i64 a ∧ v5 = .int .i64 0 ∧ Hid (wr = W0)) (fun _ _ _=>0)
    case atStart=>exact ⟨rfl,rfl,rfl⟩
    case round =>
      obtain ⟨rfl,rfl,hw⟩:=hrel
      unfold Hid at hw
      subst hw
      go_wp2
      go_ret
      exact ⟨rfl,⟨H.out,HB.out,Kept.refl _ _⟩⟩
  · obtain ⟨g,cap,rfl,hbase,hglt,_⟩:=Kd.S_form h h0
    have HR:=Aside0.mk h
    have HM:=Aside0.mk hm
    have HB:=Aside0.mk hB
    have HGB:=Aside0.mk hbase
    have HOK:=Aside0.mk ((Kd.S_R h).1 g rfl)
    have hxl:xs.length ≤ 9223372036854775807:=(Kd.S_reads' h).2.2.2.1
    have hyl:=Aside0.mk (mkLS_len k xs hm)
    clear h hm hB hbase hglt
    have HK:=Aside0.mk (Kept.refl w ok)
    go_enter Try.func23,Try.ntmps23
    go_wp2
    go_loopw [1,5] (fun v1 v5 wr=>∃ (i:Nat) (a':Int) (pre post:List S65),i ≤ xs.length ∧ v1 = .int .i64 a' ∧ v5 = .int .i64 i ∧ Hid (pre.length = i) ∧ Hid (pre ++ post = ys) ∧ Hid (mkLS k (xs.drop i) a' = some (b,post)) ∧ Hid (Kd.S aLit 65 wr w0.heap.size ok (.slice (some ⟨g,0,none⟩) xs.length cap) (pre ++ xs.drop i)) ∧ Hid (Below w0.heap.size w0 wr) ∧ Hid (Kept w wr ok)) (fun _ v5 _=>xs.length - (intOf v5).toNat)
    case atStart=>exact ⟨0,a,[],ys,Nat.zero_le _,rfl,rfl,rfl,rfl,HM.out,HR.out,HB.out,HK.out⟩
    case round =>
      clear HM HR HB HK
      obtain ⟨i,a',pre,post,hi,rfl,rfl,hpl,hys,hmm,hR,hB,hK⟩:=hrel
      unfold Hid at hpl hys hmm hR hB hK
      by_cases hp:i < xs.length
      · rw [List.drop_eq_getElem_cons hp] at hmm hR
        simp only [mkLS] at hmm
        split at hmm
        rotate_left
        · cases hmm
        rename_i hab
        obtain ⟨⟨a2,y1⟩,hmk1,hmm⟩:=Option.bind_eq_some_iff.1 hmm
        obtain ⟨⟨a3,y2⟩,hmk2,hmm⟩:=Option.bind_eq_some_iff.1 hmm
        obtain ⟨⟨b2,post2⟩,hm2,hmm⟩:=Option.bind_eq_some_iff.1 hmm
        simp only [Option.some.injEq,Prod.mk.injEq] at hmm
        obtain ⟨rfl,rfl⟩:=hmm
        simp only at hmk2 hm2
        have hset:∀ y:S65,(pre ++ xs[i] :: xs.drop (i + 1)).set i y = (pre ++ [y]) ++ xs.drop (i + 1):=fun y=>by
          rw [List.set_append_right _ _ (by omega),hpl,Nat.sub_self,List.set_cons_zero,List.append_assoc];rfl
        obtain ⟨oki,c,hcl,hM,hcc,hfr,hoki,hkeep,hcell⟩:=S_at hR i xs[i] (by rw [List.getElem?_append_right (by omega),hpl];simp)
        have hMx:=hM
        obtain ⟨q,v1,v2,rfl,r1,r2⟩:=hMx
        obtain ⟨A1,c1,rfl⟩:=Kd.R_slice r1
        obtain ⟨A2,c2,rfl⟩:=Kd.R_slice r2
        have hx:wr.cell? ⟨g,i * 3,none⟩ = some (.bool (xs[i]).f0):=hcc 0 _ rfl
        have hx1:=hcc 1 _ rfl
        have hx2:=hcc 2 _ rfl
        have hf:wr.frozen? ⟨g,i * 3,none⟩ = false:=hfr 0
        have hS1:=hcell 0 (.bool (a' % 3 == 0)) ⟨a' % 3 == 0,(xs[i]).f1,(xs[i]).f2⟩ (by show 0 + 1 ≤ 3;omega) ⟨q,_,_,rfl,r1,r2⟩
        have hS1:Kd.S aLit 65 (wr.setCell ⟨g,i * 3,none⟩ (.bool (a' % 3 == 0))) w0.heap.size ok (.slice (some ⟨g,0,none⟩) xs.length cap) ((pre ++ xs[i] :: xs.drop (i + 1)).set i ⟨a' % 3 == 0,(xs[i]).f1,(xs[i]).f2⟩):=hS1
        have hB1:Below w0.heap.size w0 (wr.setCell ⟨g,i * 3,none⟩ (.bool (a' % 3 == 0))):=below_set hB HGB.out
        have hK1:Kept w (wr.setCell ⟨g,i * 3,none⟩ (.bool (a' % 3 == 0))) ok:=Kept.setCell hK (.inl HOK.out) _
        rw [hset] at hS1
        have hgl:i < ((pre ++ [(⟨a' % 3 == 0,(xs[i]).f1,(xs[i]).f2⟩:S65)]) ++ xs.drop (i + 1)).length:=by simp;omega
        have HPL:=Aside0.mk hpl
        have HYS:=Aside0.mk hys
        have HM2:=Aside0.mk hm2
        have HMK1:=Aside0.mk hmk1
        have HMK2:=Aside0.mk hmk2
        have HS1:=Aside0.mk hS1
        have HB:=Aside0.mk hB1
        have HK:=Aside0.mk hK1
        have ha0:0 ≤ a':=hab.1
        have ha1:a' ≤ 4611686018427387904:=hab.2
        have hx1':(wr.setCell ⟨g,i * 3,none⟩ (.bool (a' % 3 == 0))).cell? ⟨g,i * 3 + 1,none⟩ = some (.slice A1 (xs[i]).f1.length c1):=by
          rw [World.cell?_setCell_other _ _ _ _ (by simp)];exact hx1
        have hx2':(wr.setCell ⟨g,i * 3,none⟩ (.bool (a' % 3 == 0))).cell? ⟨g,i * 3 + 2,none⟩ = some (.slice A2 (xs[i]).f2.length c2):=by
          rw [World.cell?_setCell_other _ _ _ _ (by simp)];exact hx2
        clear hR hB hK hpl hys hm2 hmk1 hmk2 hS1 hB1 hK1 hcl hM hcc hfr hoki hkeep hcell r1 r2 hx1 hx2 hset hgl hab
        generalize hW1:wr.setCell ⟨g,i * 3,none⟩ (.bool (a' % 3 == 0)) = W1 at HS1 HB HK hx1' hx2'
        go_upto_region 6 with fail
        clear hW1 hx hf
        obtain ⟨ok1,d1,hcl,hM,hcc,hfr,hoki,hkeep,_⟩:=S_at HS1.out i _ (by rw [List.getElem?_append_left (by simp;have:=HPL.out;omega),List.getElem?_append_right (by have:=HPL.out;omega),HPL.out,Nat.sub_self];rfl)
        obtain ⟨q1,u1,u2,rfl,r1,r2⟩:=hM
        obtain rfl:u1 = .slice A1 (xs[i]).f1.length c1:=Option.some.inj ((hcc 1 _ rfl).symm.trans hx1')
        obtain rfl:u2 = .slice A2 (xs[i]).f2.length c2:=Option.some.inj ((hcc 2 _ rfl).symm.trans hx2')
        have hcall:=laws_markIntS.calls k (fun k_=>ok1 k_ ∧ q1 k_) (.slice A1 (xs[i]).f1.length c1) (xs[i]).f1 (a' + 1) a2 y1 w0 W1 HB.out r1 HMK1.out
        have R1:=Aside0.mk r1
        have R2:=Aside0.mk r2
        have HOKI:=Aside0.mk hoki
        have HKEEP:=Aside0.mk hkeep
        clear hcl hcc hfr hoki hkeep r1 r2
        go_wp2_with (go_at_call 22;refine hcall.mono ?_)
        first|rintro e W2 rfl hr hb hkp|rintro e W2 ⟨rfl,hr,hb,hkp⟩
        have r1:=Kd.R_reok (ok:=fun k_=>ok1 k_ ∧ q1 k_) rfl hr (fun k_ e_=>R1.out.1 k_ e_)
        have r2:=Kd.R_step R2.out (fun k_ h1 hl=>hkp.2 k_ hl (fun q_=>h1.2 q_.2))
        have hg2:W2.cell? ⟨g,i * 3 + 2,none⟩ = some (.slice A2 (xs[i]).f2.length c2):=by
          have e:=hkp.2 g (Kd.S_lt HS1.out g rfl) (fun q_=>(HOKI.out g q_.1).2 rfl)
          unfold World.cell? at hx2' ⊢
          rw [e]
          exact hx2'
        have hcall2:=laws_markIntS.calls k (fun k_=>ok1 k_ ∧ ¬ q1 k_) (.slice A2 (xs[i]).f2.length c2) (xs[i]).f2 a2 a3 y2 w0 W2 hb r2 HMK2.out
        have R1:=Aside0.mk r1
        have R2:=Aside0.mk r2
        have HKP:=Aside0.mk hkp
        clear hr hb hkp hcall r1 r2 hx1' hx2'
        go_wp2_with (go_at_call 22;refine hcall2.mono ?_)
        first|rintro e W3 rfl hr hb hkp|rintro e W3 ⟨rfl,hr,hb,hkp⟩
        have r2:=Kd.R_reok (ok:=fun k_=>ok1 k_ ∧ ¬ q1 k_) rfl hr (fun k_ e_=>R2.out.1 k_ e_)
        have r1:=Kd.R_step R1.out (fun k_ h1 hl=>hkp.2 k_ hl (fun q_=>q_.2 h1.2))
        have hk13:Kept W1 W3 ok1:=Kept.then_ (Kept.mono HKP.out (fun k_ h1=>h1.1)) (Kept.mono hkp (fun k_ h1=>h1.1)) (fun k_ h1=>.inl h1)
        have hS3:=HKEEP.out W3 ⟨a' % 3 == 0,y1,y2⟩ hk13 ⟨q1,_,_,rfl,r1,r2⟩
        have e9:((pre ++ [(⟨a' % 3 == 0,(xs[i]).f1,(xs[i]).f2⟩:S65)]) ++ xs.drop (i + 1)).set i ⟨a' % 3 == 0,y1,y2⟩ = (pre ++ [(⟨a' % 3 == 0,y1,y2⟩:S65)]) ++ xs.drop (i + 1):=by
          rw [List.set_append_left _ _ (by simp;have:=HPL.out;omega),List.set_append_right _ _ (by have:=HPL.out;omega),HPL.out,Nat.sub_self];rfl
        rw [e9] at hS3
        have HR:=Aside0.mk hS3
        have HB:=Aside0.mk hb
        have HK:=Aside0.mk (Kept.then_ HK.out hk13 (fun k_ h1=>.inl (HOKI.out k_ h1).1))
        clear hr hb hkp hcall2 r1 r2 hk13 hS3 e9 hg2 HKEEP R1 R2 HS1
        go_wp2
        go_roundw
        case rel=>exact ⟨i + 1,a3,pre ++ [(⟨a' % 3 == 0,y1,y2⟩:S65)],post2,by omega,rfl,rfl,by have:=HPL.out;unfold Hid;rw [List.length_append,List.length_singleton];omega,by have:=HYS.out;unfold Hid;rw [List.append_assoc];exact this,HM2.out,HR.out,HB.out,HK.out⟩
        case measure=>simp [intOf];omega
      · obtain rfl:i = xs.length:=by omega
        rw [List.drop_length] at hmm hR
        simp only [mkLS,Option.some.injEq,Prod.mk.injEq] at hmm
        obtain ⟨rfl,rfl⟩:=hmm
        rw [List.append_nil] at hR hys
        subst hys
        have HR:=Aside0.mk hR
        have HB:=Aside0.mk hB
        have HK:=Aside0.mk hK
        clear hR hB hK hpl
        go_wp2
        go_ret
        exact ⟨rfl,⟨HR.out,HB.out,HK.out⟩⟩
def okMarkL (x:S65):Prop:=x.f1.length ≤ 4611686018427387904 ∧ x.f2.length ≤ 4611686018427387904
structure laws_FnExactReadClause.Main (k:Nat) (l0_0:List Int) (a1:ByteArray) (r0:List S65) (r1:Int) (r2:Bool) (k0:Int) (y0:List Int) (mm:Int) (rr:List S65):Prop where
  h0:laws_toSign.f k l0_0 = some l0_0
  h1:spec_ReadClause.f k l0_0 a1 = some (r0,r1,r2)
  h2:impl_ReadClause.f k l0_0 a1 = some (r0,r1,r2)
  h3:laws_eqLitS.f k r0 r0 = some true
  h4:laws_eqSign.f k l0_0 l0_0 = some true
  h5:0 ≤ k0
  h6:laws_markSign.f k l0_0 1 = some (k0,y0)
  h7:mkLS k r0 1 = some (mm,rr)
  h8:laws_heldLitS.f k rr 1 = some mm
  h9:0 ≤ mm
def laws_FnExactReadClause.Facts (k:Nat) (l0_0:List Int) (a1:ByteArray):Prop:=((1048576:Int) < (a1.size:Int) ∨ ((a1.size:Int) ≤ 1048576 ∧ ∃ z0:Int,laws_szSign.f l0_0 1048576 = some z0 ∧ (z0 < 0 ∨ (0 ≤ z0 ∧ ∃ (r0:List S65) (r1:Int) (r2:Bool) (k0:Int) (y0:List Int) (mm:Int) (rr:List S65),laws_FnExactReadClause.Main k l0_0 a1 r0 r1 r2 k0 y0 mm rr))))
open Classical in
noncomputable def laws_FnExactReadClause.f (k:Nat) (l0_0:List Int) (a1:ByteArray):Option Bool:=if laws_FnExactReadClause.Facts k l0_0 a1 then some true else none
theorem laws_FnExactReadClause.f_of {k:Nat} {l0_0:List Int} {a1:ByteArray} (h:laws_FnExactReadClause.Facts k l0_0 a1):laws_FnExactReadClause.f k l0_0 a1 = some true:=by unfold laws_FnExactReadClause.f;rw [if_pos h]
theorem laws_FnExactReadClause.of_f {k:Nat} {l0_0:List Int} {a1:ByteArray} {r:Bool} (h:laws_FnExactReadClause.f k l0_0 a1 = some r):r = true ∧ laws_FnExactReadClause.Facts k l0_0 a1:=by
  unfold laws_FnExactReadClause.f at h
  split at h
  · rename_i g;exact ⟨(Option.some.inj h).symm,g⟩
  · cases h
set_option maxHeartbeats 64000000 in
set_option maxRecDepth 1000000 in
theorem laws_FnExactReadClause.calls (k:Nat) (A0_0:Option Addr) (c0_0:Nat) (l0_0:List Int) (a1:ByteArray) (r:Bool) (w:World) (hr0_0:Kd.C (Kd.int .i64) w A0_0 l0_0.length l0_0) (hc0_0:l0_0.length ≤ c0_0) (h:laws_FnExactReadClause.f k l0_0 a1 = some r) :
    Calls Try.prog 8 #[.agg #[.slice A0_0 l0_0.length c0_0],.string a1] w fun e w'=>e = .returned (.bool r) ∧ Below w.heap.size w w':=by
  have hR0:=Aside0.mk hr0_0
  clear hr0_0
  obtain ⟨rfl,hF⟩:=laws_FnExactReadClause.of_f h
  unfold laws_FnExactReadClause.Facts at hF
  clear h
  have bx0:Aside0 (Bx (w.alloc (.cells #[.slice A0_0 l0_0.length c0_0] 24)) w.heap.size (.slice A0_0 l0_0.length c0_0) 24):=⟨heap_alloc_new w _⟩
  have hw0:=Aside0.mk bx0.out.lt
  have hB:Aside0 (Below w.heap.size w (w.alloc (.cells #[.slice A0_0 l0_0.length c0_0] 24))):=⟨Below.alloc (Below.refl _ _) (Nat.le_refl _) _⟩
  go_enter Try.func8,Try.ntmps8
  go_upto_region 1 with fail
  generalize w.alloc (.cells #[.slice A0_0 l0_0.length c0_0] 24) = W0 at bx0 hB hw0 ⊢
  try clear bx0_c
  have bx0_c:=Bx.cell bx0.out
  rcases hF with hE|⟨hE,hF⟩
  · go_wp2
    go_ret
    exact ⟨rfl,hB.out⟩
  obtain ⟨z0,hz,hF⟩:=hF
  have hzz:=Aside0.mk hz
  clear hz
  have hcall:=laws_szSign.calls A0_0 c0_0 l0_0 1048576 z0 W0 (Kd.C_below hR0.out hB.out) hc0_0 hzz.out
  go_wp2_with (go_at_call 9;refine hcall.mono ?_)
  first|rintro e W1 rfl hd|rintro e W1 ⟨rfl,hd⟩
  replace hd:Below W0.heap.size W0 W1:=by first|exact hd|exact hd.below
  clear hcall
  replace bx0:=Aside0.mk (Bx.below bx0.out hd)
  replace hB:=Aside0.mk (below_step hB.out hd)
  have hz1:=Aside0.mk hd.size
  try clear bx0_c
  have bx0_c:=Bx.cell bx0.out
  clear hd
  clear hzz
  rcases hF with hE|⟨hE,hF⟩
  · go_wp2
    go_ret
    exact ⟨rfl,hB.out⟩
  obtain ⟨r0,r1,r2,k0,y0,mm,rr,hM⟩:=hF
  have H:=Aside0.mk hM
  clear hM
  have hcall:=laws_toSign.calls k A0_0 c0_0 l0_0 l0_0 W1 (Kd.C_below hR0.out hB.out) hc0_0 H.out.h0
  go_wp2_with (go_at_call 12;refine hcall.mono ?_)
  first|rintro e W2 v rfl hr hd|rintro e W2 ⟨v,rfl,hr,hd⟩
  have hS:=Aside0.mk hB.out.size
  clear hcall
  replace bx0:=Aside0.mk (Bx.below bx0.out hd)
  replace hB:=Aside0.mk (below_step hB.out hd)
  have hz2:=Aside0.mk hd.size
  try clear bx0_c
  have bx0_c:=Bx.cell bx0.out
  have q1:=Aside0.mk (iv_of (W:=W1) w.heap.size Ym hS.out)
  obtain ⟨Aq1,cq1,eq1⟩:=Kd.R_slice q1.out
  subst eq1
  clear hr hd hS
  have hcall:=spec_ReadClause.calls k Aq1 cq1 l0_0 a1 r0 r1 r2 W2 ( (Kd.R_reads' q1.out).2.2) (Kd.R_reads' q1.out).2.1 H.out.h1
  go_wp2_with (go_at_call 36;refine hcall.mono ?_)
  first|rintro e W3 v rfl hr hd|rintro e W3 ⟨v,rfl,hr,hd⟩
  have hS:=Aside0.mk hB.out.size
  clear hcall
  replace q1:=Aside0.mk (iv_below q1.out hd)
  replace bx0:=Aside0.mk (Bx.below bx0.out hd)
  replace hB:=Aside0.mk (below_step hB.out hd)
  have hz3:=Aside0.mk hd.size
  try clear bx0_c
  have bx0_c:=Bx.cell bx0.out
  have q2:=Aside0.mk (iv_of (W:=W2) w.heap.size Ym hS.out)
  obtain ⟨Aq2,cq2,eq2⟩:=Kd.R_slice q2.out
  subst eq2
  clear hr hd hS
  clear q1
  have hcall:=laws_toSign.calls k A0_0 c0_0 l0_0 l0_0 W3 (Kd.C_below hR0.out hB.out) hc0_0 H.out.h0
  go_wp2_with (go_at_call 12;refine hcall.mono ?_)
  first|rintro e W4 v rfl hr hd|rintro e W4 ⟨v,rfl,hr,hd⟩
  have hS:=Aside0.mk hB.out.size
  clear hcall
  replace q2:=Aside0.mk (iv_below q2.out hd)
  replace bx0:=Aside0.mk (Bx.below bx0.out hd)
  replace hB:=Aside0.mk (below_step hB.out hd)
  have hz4:=Aside0.mk hd.size
  try clear bx0_c
  have bx0_c:=Bx.cell bx0.out
  have q3:=Aside0.mk (iv_of (W:=W3) w.heap.size Ym hS.out)
  obtain ⟨Aq3,cq3,eq3⟩:=Kd.R_slice q3.out
  subst eq3
  clear hr hd hS
  go_upto_region 9 with fail
  have hd:Below W4.heap.size W4 (W4.alloc (.cells #[.slice Aq3 l0_0.length cq3] 30)):=Below.alloc (Below.refl _ _) (Nat.le_refl _) _
  have bx1:Aside0 (Bx (W4.alloc (.cells #[.slice Aq3 l0_0.length cq3] 30)) W4.heap.size (.slice Aq3 l0_0.length cq3) 30):=⟨heap_alloc_new W4 _⟩
  generalize (W4.alloc (.cells #[.slice Aq3 l0_0.length cq3] 30)) = W5 at bx1 hd ⊢
  replace q2:=Aside0.mk (iv_below q2.out hd)
  replace q3:=Aside0.mk (iv_below q3.out hd)
  replace bx0:=Aside0.mk (Bx.below bx0.out hd)
  replace hB:=Aside0.mk (below_step hB.out hd)
  have hz5:=Aside0.mk hd.size
  try clear bx0_c
  have bx0_c:=Bx.cell bx0.out
  clear hd
  try clear bx0_c
  have bx0_c:=Bx.cell bx0.out
  try clear bx1_c
  have bx1_c:=Bx.cell bx1.out
  have hcall:=impl_ReadClause.calls k Aq3 cq3 l0_0 a1 r0 r1 r2 W5 ( (Kd.R_reads' q3.out).2.2) (Kd.R_reads' q3.out).2.1 H.out.h2
  go_wp2_with (go_at_call 37;refine hcall.mono ?_)
  first|rintro e W6 v rfl hr hd|rintro e W6 ⟨v,rfl,hr,hd⟩
  have hS:=Aside0.mk hB.out.size
  clear hcall
  replace q2:=Aside0.mk (iv_below q2.out hd)
  replace q3:=Aside0.mk (iv_below q3.out hd)
  replace bx0:=Aside0.mk (Bx.below bx0.out hd)
  replace bx1:=Aside0.mk (Bx.below bx1.out hd)
  replace hB:=Aside0.mk (below_step hB.out hd)
  have hz6:=Aside0.mk hd.size
  try clear bx0_c
  have bx0_c:=Bx.cell bx0.out
  try clear bx1_c
  have bx1_c:=Bx.cell bx1.out
  have q4:=Aside0.mk (ivS_of (W:=W5) w.heap.size Ym hS.out)
  obtain ⟨Aq4,cq4,eq4⟩:=Kd.S_slice q4.out
  subst eq4
  clear hr hd hS
  have hcall:=laws_eqLitS.calls k Aq4 cq4 r0 Aq2 cq2 r0 true W6 (aLit_C (Kd.S_reads' q4.out).2.2) (Kd.S_reads' q4.out).2.1 ( (Kd.R_reads' q2.out).2.2) (Kd.R_reads' q2.out).2.1 H.out.h3
  go_wp2_with (go_at_call 18;refine hcall.mono ?_)
  first|rintro e W7 rfl hd|rintro e W7 ⟨rfl,hd⟩
  replace hd:Below W6.heap.size W6 W7:=by first|exact hd|exact hd.below
  clear hcall
  replace q2:=Aside0.mk (iv_below q2.out hd)
  replace q3:=Aside0.mk (iv_below q3.out hd)
  replace q4:=Aside0.mk (ivS_below q4.out hd)
  replace bx0:=Aside0.mk (Bx.below bx0.out hd)
  replace bx1:=Aside0.mk (Bx.below bx1.out hd)
  replace hB:=Aside0.mk (below_step hB.out hd)
  have hz7:=Aside0.mk hd.size
  try clear bx0_c
  have bx0_c:=Bx.cell bx0.out
  try clear bx1_c
  have bx1_c:=Bx.cell bx1.out
  clear hd
  go_upto_region 12 with fail
  have hsgn:∀ W,Drawn0 W7 W → Calls Try.prog 12 #[.agg #[.slice A0_0 l0_0.length c0_0]] W fun e w'=>∃ A c,e = .returned (.agg #[.slice A l0_0.length c]) ∧ Aside0 (SgRow W7 w' A c l0_0):=fun W hW=>(laws_toSign.calls k A0_0 c0_0 l0_0 l0_0 W (Kd.C_below hR0.out (below_step hB.out hW.below)) hc0_0 H.out.h0).mono fun e w' ⟨v,he,hr,hd⟩=>by
    obtain ⟨A,c,rfl⟩:=Kd.R_slice hr
    exact ⟨A,c,he,⟨⟨below_step hW.below hd,(Kd.R_reads' hr).2.2,(Kd.R_reads' hr).2.1⟩⟩⟩
  have heqs:∀ W A c,Aside0 (SgRow W7 W A c l0_0) → Calls Try.prog 16 #[.agg #[.slice Aq3 l0_0.length cq3],.agg #[.slice A l0_0.length c]] W fun e w'=>e = .returned (.bool true) ∧ Aside0 (Below W7.heap.size W7 w'):=fun W A c h=>(laws_eqSign.calls k Aq3 cq3 l0_0 A c l0_0 true W (Kd.C_below (Kd.R_reads' q3.out).2.2 h.out.bl) (Kd.R_reads' q3.out).2.1 h.out.rd h.out.le H.out.h4).mono fun e w' ⟨he,hd⟩=>⟨he,⟨below_step h.out.bl hd⟩⟩
  apply later
  · intro key
    go_region_with (first|(go_at_call 12;refine (hsgn _ (by first|exact Drawn0.refl _|exact ⟨⟨1,rfl⟩⟩|exact ⟨⟨2,rfl⟩⟩)).mono ?_;rintro e w' ⟨A,c,rfl,hf⟩;have hcx:=Bx.cell (Bx.below bx1.out hf.out.bl))|(go_at_call 16;refine (heqs _ _ _ (by first|exact hf|exact ⟨hf.out.drew⟩|exact ⟨hf.out.drewN _⟩)).mono ?_;rintro e W ⟨rfl,he⟩))
    all_goals (clear hf hcx;revert A c W;exact key)
  intro A c W8 he
  have hd:=he.out
  clear he hsgn heqs
  replace q2:=Aside0.mk (iv_below q2.out hd)
  replace q3:=Aside0.mk (iv_below q3.out hd)
  replace q4:=Aside0.mk (ivS_below q4.out hd)
  replace bx0:=Aside0.mk (Bx.below bx0.out hd)
  replace bx1:=Aside0.mk (Bx.below bx1.out hd)
  replace hB:=Aside0.mk (below_step hB.out hd)
  have hz8:=Aside0.mk hd.size
  try clear bx0_c
  have bx0_c:=Bx.cell bx0.out
  try clear bx1_c
  have bx1_c:=Bx.cell bx1.out
  clear hd
  have hpos0:=H.out.h5
  have hcall:=laws_markSign.calls k (Iv W3.heap.size W4.heap.size) (.slice Aq3 l0_0.length cq3) l0_0 1 k0 y0 w W8 hB.out q3.out H.out.h6
  go_wp2_with (go_at_call 21;refine hcall.mono ?_)
  first|rintro e W9 rfl hr hb hkp|rintro e W9 ⟨rfl,hr,hb,hkp⟩
  have hz9:=Aside0.mk hkp.1
  replace q2:=Aside0.mk (iv_step q2.out hkp (fun b_ h1_ h2_ h3_=>by have:=h3_.1;have:=h3_.2;have:=hw0.out;have:=hz1.out;have:=hz2.out;have:=hz3.out;have:=hz4.out;have:=hz5.out;have:=hz6.out;have:=hz7.out;have:=hz8.out;omega))
  replace q4:=Aside0.mk (ivS_step q4.out hkp (fun b_ h1_ h2_ h3_=>by have:=h3_.1;have:=h3_.2;have:=hw0.out;have:=hz1.out;have:=hz2.out;have:=hz3.out;have:=hz4.out;have:=hz5.out;have:=hz6.out;have:=hz7.out;have:=hz8.out;omega))
  replace bx0:=Aside0.mk (Bx.step bx0.out hkp (fun h3_=>by have:=h3_.1;have:=h3_.2;have:=hw0.out;have:=hz1.out;have:=hz2.out;have:=hz3.out;have:=hz4.out;have:=hz5.out;have:=hz6.out;have:=hz7.out;have:=hz8.out;omega))
  replace hB:=Aside0.mk hb
  clear hr hb hkp hcall bx1 bx1_c
  clear q3
  try clear bx0_c
  have bx0_c:=Bx.cell bx0.out
  have hcall:=laws_eqLitS.calls k Aq4 cq4 r0 Aq2 cq2 r0 true W9 (aLit_C (Kd.S_reads' q4.out).2.2) (Kd.S_reads' q4.out).2.1 ( (Kd.R_reads' q2.out).2.2) (Kd.R_reads' q2.out).2.1 H.out.h3
  go_wp2_with (go_at_call 18;refine hcall.mono ?_)
  first|rintro e W10 rfl hd|rintro e W10 ⟨rfl,hd⟩
  replace hd:Below W9.heap.size W9 W10:=by first|exact hd|exact hd.below
  clear hcall
  replace q2:=Aside0.mk (iv_below q2.out hd)
  replace q4:=Aside0.mk (ivS_below q4.out hd)
  replace bx0:=Aside0.mk (Bx.below bx0.out hd)
  replace hB:=Aside0.mk (below_step hB.out hd)
  have hz10:=Aside0.mk hd.size
  try clear bx0_c
  have bx0_c:=Bx.cell bx0.out
  clear hd
  have hcall:=Try.markLitSR k (Iv W5.heap.size W6.heap.size) (.slice Aq4 r0.length cq4) r0 rr 1 mm w W10 hB.out q4.out H.out.h7
  go_wp2_with (go_at_call 23;refine hcall.mono ?_)
  first|rintro e W11 rfl hk|rintro e W11 ⟨rfl,hk⟩
  obtain ⟨hnew,hb,hkp⟩:=hk.out
  have hz11:=Aside0.mk hkp.1
  replace q2:=Aside0.mk (iv_step q2.out hkp (fun b_ h1_ h2_ h3_=>by have:=h3_.1;have:=h3_.2;have:=hw0.out;have:=hz1.out;have:=hz2.out;have:=hz3.out;have:=hz4.out;have:=hz5.out;have:=hz6.out;have:=hz7.out;have:=hz8.out;have:=hz9.out;have:=hz10.out;omega))
  replace bx0:=Aside0.mk (Bx.step bx0.out hkp (fun h3_=>by have:=h3_.1;have:=h3_.2;have:=hw0.out;have:=hz1.out;have:=hz2.out;have:=hz3.out;have:=hz4.out;have:=hz5.out;have:=hz6.out;have:=hz7.out;have:=hz8.out;have:=hz9.out;have:=hz10.out;omega))
  replace hB:=Aside0.mk hb
  have hle:=Aside0.mk (Kd.S_reads' hnew).1
  replace q4:=Aside0.mk hnew
  clear hk hnew hb hkp hcall
  try clear bx0_c
  have bx0_c:=Bx.cell bx0.out
  have hposm:=H.out.h9
  have hcall:=laws_heldLitS.calls k Aq4 cq4 rr 1 mm W11 (aLit_C (hle.out ▸ (Kd.S_reads' q4.out).2.2)) (hle.out ▸ (Kd.S_reads' q4.out).2.1) H.out.h8
  rw [← hle.out] at hcall
  go_wp2_with (go_at_call 29;refine hcall.mono ?_)
  first|rintro e W12 rfl hd|rintro e W12 ⟨rfl,hd⟩
  replace hd:Below W11.heap.size W11 W12:=by first|exact hd|exact hd.below
  clear hcall
  replace q2:=Aside0.mk (iv_below q2.out hd)
  replace q4:=Aside0.mk (ivS_below q4.out hd)
  replace bx0:=Aside0.mk (Bx.below bx0.out hd)
  replace hB:=Aside0.mk (below_step hB.out hd)
  have hz12:=Aside0.mk hd.size
  try clear bx0_c
  have bx0_c:=Bx.cell bx0.out
  clear hd
  have hcall:=laws_toSign.calls k A0_0 c0_0 l0_0 l0_0 W12 (Kd.C_below hR0.out hB.out) hc0_0 H.out.h0
  go_wp2_with (go_at_call 12;refine hcall.mono ?_)
  first|rintro e W13 v rfl hr hd|rintro e W13 ⟨v,rfl,hr,hd⟩
  have hS:=Aside0.mk hB.out.size
  clear hcall
  replace q2:=Aside0.mk (iv_below q2.out hd)
  replace q4:=Aside0.mk (ivS_below q4.out hd)
  replace bx0:=Aside0.mk (Bx.below bx0.out hd)
  replace hB:=Aside0.mk (below_step hB.out hd)
  have hz13:=Aside0.mk hd.size
  try clear bx0_c
  have bx0_c:=Bx.cell bx0.out
  have q5:=Aside0.mk (iv_of (W:=W12) w.heap.size Ym hS.out)
  obtain ⟨Aq5,cq5,eq5⟩:=Kd.R_slice q5.out
  subst eq5
  clear hr hd hS
  have hcall:=impl_ReadClause.calls k Aq5 cq5 l0_0 a1 r0 r1 r2 W13 ( (Kd.R_reads' q5.out).2.2) (Kd.R_reads' q5.out).2.1 H.out.h2
  go_wp2_with (go_at_call 37;refine hcall.mono ?_)
  first|rintro e W14 v rfl hr hd|rintro e W14 ⟨v,rfl,hr,hd⟩
  have hS:=Aside0.mk hB.out.size
  clear hcall
  replace q2:=Aside0.mk (iv_below q2.out hd)
  replace q4:=Aside0.mk (ivS_below q4.out hd)
  replace q5:=Aside0.mk (iv_below q5.out hd)
  replace bx0:=Aside0.mk (Bx.below bx0.out hd)
  replace hB:=Aside0.mk (below_step hB.out hd)
  have hz14:=Aside0.mk hd.size
  try clear bx0_c
  have bx0_c:=Bx.cell bx0.out
  have q6:=Aside0.mk (ivS_of (W:=W13) w.heap.size Ym hS.out)
  obtain ⟨Aq6,cq6,eq6⟩:=Kd.S_slice q6.out
  subst eq6
  clear hr hd hS
  clear q5
  have hcall:=laws_eqLitS.calls k Aq6 cq6 r0 Aq2 cq2 r0 true W14 (aLit_C (Kd.S_reads' q6.out).2.2) (Kd.S_reads' q6.out).2.1 ( (Kd.R_reads' q2.out).2.2) (Kd.R_reads' q2.out).2.1 H.out.h3
  go_wp2_with (go_at_call 18;refine hcall.mono ?_)
  first|rintro e W15 rfl hd|rintro e W15 ⟨rfl,hd⟩
  replace hd:Below W14.heap.size W14 W15:=by first|exact hd|exact hd.below
  clear hcall
  replace q2:=Aside0.mk (iv_below q2.out hd)
  replace q4:=Aside0.mk (ivS_below q4.out hd)
  replace q6:=Aside0.mk (ivS_below q6.out hd)
  replace bx0:=Aside0.mk (Bx.below bx0.out hd)
  replace hB:=Aside0.mk (below_step hB.out hd)
  have hz15:=Aside0.mk hd.size
  try clear bx0_c
  have bx0_c:=Bx.cell bx0.out
  clear hd
  clear q6
  clear q2
  have hcall:=laws_heldLitS.calls k Aq4 cq4 rr 1 mm W15 (aLit_C (hle.out ▸ (Kd.S_reads' q4.out).2.2)) (hle.out ▸ (Kd.S_reads' q4.out).2.1) H.out.h8
  rw [← hle.out] at hcall
  go_wp2_with (go_at_call 29;refine hcall.mono ?_)
  first|rintro e W16 rfl hd|rintro e W16 ⟨rfl,hd⟩
  replace hd:Below W15.heap.size W15 W16:=by first|exact hd|exact hd.below
  clear hcall
  replace q4:=Aside0.mk (ivS_below q4.out hd)
  replace bx0:=Aside0.mk (Bx.below bx0.out hd)
  replace hB:=Aside0.mk (below_step hB.out hd)
  have hz16:=Aside0.mk hd.size
  try clear bx0_c
  have bx0_c:=Bx.cell bx0.out
  clear hd
  go_wp2
  go_ret
  exact ⟨rfl,hB.out⟩
/-- THE ONE PURE STATEMENT of laws_FnExactReadClause. -/
def laws_FnExactReadClause.Pure:Prop:=∀ (l0_0:List Int) (a1:ByteArray),(l0_0.length ≤ maxLen ∧ ∀ a ∈ l0_0,(Lit.int .i64 a).wf = true) → a1.size ≤ maxLen → ∃ k,laws_FnExactReadClause.f k l0_0 a1 = some true

end Go.Proofs.Ytlgnanbnicmdaab.QFnExactReadClause
