
import Derived.Test.YtmgkflkfoccgkaaQFnPutForx18
namespace Go.Proofs.Ytmgkflkfoccgkaa.Pure
open Go.RowKit Go.Proofs.Ytmgkflkfoccgkaa.QFnPutFor Go.Proofs.YtmgkflkfoccgkaaW.PrintWords Go.Proofs.YtmgkflkfoccgkaaW.PrintLast Go.Proofs.YtmgkflkfoccgkaaW.PrintMore
set_option linter.unusedVariables false
set_option linter.unusedSimpArgs false
theorem w64 {x:Int} (h0:-9223372036854775808≤x)(h1:x≤9223372036854775807):wrap64 x=x:=by
 unfold wrap64;omega
theorem Ev.succ {α:Type} {g:Nat→Option α} {r:α} (h:Ev (fun k=>g (k+1)) r):Ev g r:=Ev.step (fun _=>rfl) h
theorem Ev.pos {α:Type} {c:Prop} [Decidable c] {a b:Nat→Option α} {r:α} (h:c)(e:Ev (fun k=>a k) r):Ev (fun k=>if c then a k else b k) r:=Ev.congr (fun _=>if_pos h) e
theorem Ev.neg {α:Type} {c:Prop} [Decidable c] {a b:Nat→Option α} {r:α} (h:¬ c)(e:Ev (fun k=>b k) r):Ev (fun k=>if c then a k else b k) r:=Ev.congr (fun _=>if_neg h) e
theorem Ev.bnd {α β:Type} {g:Nat→Option α} {f:Nat→α→Option β} {a:α} {r:β} (h:Ev (fun k=>g k) a)(k:Ev (fun n=>f n a) r):Ev (fun n=>(g n).bind (fun x=>f n x)) r:=Ev.bind h k
theorem Ev.bnd1 {α β:Type} {g:Option α} {f:Nat→α→Option β} {a:α} {r:β} (h:g=some a)(k:Ev (fun n=>f n a) r):Ev (fun n=>g.bind (fun x=>f n x)) r:=by
 rw[h];exact k
theorem Ev.ret {α:Type} (r:α):Ev (fun _=>some r) r:=Ev.now r
theorem Ev.eq {α:Type} {g:Nat→Option α} {r r':α} (h:Ev g r)(e:r=r'):Ev g r':=e ▸ h
theorem Ev.all {α:Type} {g:Nat→Option α} {r:α} (h:Ev (fun k=>g k) r):∃ k,g k=some r:=h.rounds
theorem rd_mid (pre:List Int)(x:Int)(post:List Int):rd (pre++x :: post) (pre.length:Int)=x:=by
 unfold rd;simp
theorem rd_nat (xs:List Int)(i:Nat)(h:i<xs.length):rd xs (i:Int)=xs[i]:=by
 unfold rd;simp[List.getD_eq_getElem?_getD,List.getElem?_eq_getElem h]
theorem spec_in_eq (a lo hi:Int):spec_l1In.f a lo hi=some (decide (lo≤a∧a≤hi)):=by
 unfold spec_l1In.f
 by_cases h1:a≥lo
 ·rw[if_pos h1]
  by_cases h2:a≤hi
  ·rw[decide_eq_true h2,decide_eq_true ⟨h1,h2⟩]
  ·rw[decide_eq_false h2,decide_eq_false (fun h=>h2 h.2)]
 ·rw[if_neg h1,decide_eq_false (fun h=>h1 h.1)]
def inAll (lo hi:Int)(l:List Int):Bool:=l.all fun x=>decide (lo≤x∧x≤hi)
theorem spec_l1All_l0 (lo hi:Int)(post:List Int):∀ pre:List Int,(pre++post).length≤140737488351232→Ev (fun k=>spec_l1All.l0 k lo hi (pre++post) ((pre++post).length:Int) (pre.length:Int)) (inAll lo hi post):=by
 induction post with
 | nil=>
  intro pre hl
  refine Ev.succ ?_
  simp only[spec_l1All.l0]
  exact Ev.neg (by simp) (Ev.ret _)
 | cons x post ih=>
  intro pre hl
  have h:=ih (pre++[x]) (by simpa using hl)
  simp only[List.length_append,List.length_cons]at hl
  refine Ev.succ ?_
  simp only[spec_l1All.l0]
  refine Ev.pos (by simp only[List.length_append,List.length_cons];omega) (Ev.pos (by omega) (Ev.pos (by simp only[List.length_append,List.length_cons];omega) ?_))
  rw[rd_mid]
  refine Ev.bnd1 (spec_in_eq _ _ _) ?_
  by_cases hx:lo≤x∧x≤hi
  ·rw[decide_eq_true hx]
   refine Ev.pos rfl ?_
   rw[w64 (by omega) (by omega)]
   refine Ev.eq (by simpa using h) ?_
   simp[inAll,hx]
  ·rw[decide_eq_false hx]
   exact Ev.neg (by simp) (Ev.eq (Ev.ret _) (by simp only[inAll,List.all_cons,decide_eq_false hx,Bool.false_and]))
theorem spec_l1All_ev (lo hi:Int)(l:List Int)(hl:l.length≤140737488351232):Ev (fun k=>spec_l1All.f k l lo hi) (inAll lo hi l):=by
 simp only[spec_l1All.f]
 simpa using spec_l1All_l0 lo hi l [] (by simpa using hl)
theorem inAll_mem {lo hi:Int} {l:List Int} (h:inAll lo hi l=true):∀ x∈l,lo≤x∧x≤hi:=by
 intro x hx
 unfold inAll at h
 simpa using List.all_eq_true.1 h x hx
theorem anyO_not {α:Type} (f:α→Option Bool)(p:α→Bool)(l:List α)(h:∀ x∈l,f x=some (!p x)):anyO f l=some (!l.all p):=by
 induction l with
 | nil=>rfl
 | cons x t ih=>
  simp only[anyO]
  rw[h x (by simp),Option.bind_some]
  cases hp:p x with
  | true=>simp[hp,ih (fun y hy=>h y (by simp[hy]))]
  | false=>simp[hp]
def goodSign (s:List Int):Bool:=decide (1≤s.length∧s.length≤10) && (inAll 0 3 s && (rd s 0 == 0))
theorem goodSign_len {s:List Int} (h:goodSign s=true):1≤s.length∧s.length≤10:=by
 unfold goodSign at h
 simp only[Bool.and_eq_true,decide_eq_true_eq]at h
 exact h.1
theorem goodSign_mem {s:List Int} (h:goodSign s=true):∀ x∈s,0≤x∧x≤3:=by
 unfold goodSign at h
 simp only[Bool.and_eq_true]at h
 exact inAll_mem h.2.1
theorem goodSign_rd {s:List Int} (h:goodSign s=true)(x:Int)(h0:0≤x)(h1:x<s.length):0≤rd s x∧rd s x≤3:=by
 obtain⟨n,rfl⟩:∃ n:Nat,x=n:=⟨x.toNat,by omega⟩
 have hn:n<s.length:=by omega
 rw[rd_nat s n hn]
 exact goodSign_mem h _ (List.getElem_mem hn)
theorem spec_GoodSign_ev (s:List Int)(hl:s.length≤140737488351232):Ev (fun k=>spec_GoodSign.f k s) (goodSign s):=by
 simp only[spec_GoodSign.f]
 refine Ev.bnd1 (spec_in_eq _ _ _) ?_
 by_cases g:1≤s.length∧s.length≤10
 ·have g':(1:Int)≤(s.length:Int)∧(s.length:Int)≤10:=by omega
  refine Ev.pos (decide_eq_true g') (Ev.bnd (spec_l1All_ev 0 3 s hl) ?_)
  unfold goodSign
  rw[decide_eq_true g,Bool.true_and]
  cases ha:inAll 0 3 s with
  | true=>exact Ev.pos rfl (Ev.pos (by omega) (Ev.eq (Ev.ret _) rfl))
  | false=>exact Ev.neg (by simp) (Ev.eq (Ev.ret _) rfl)
 ·have g':¬ ((1:Int)≤(s.length:Int)∧(s.length:Int)≤10):=by omega
  refine Ev.neg (by rw[decide_eq_false g'];simp) (Ev.eq (Ev.ret _) ?_)
  unfold goodSign
  rw[decide_eq_false g,Bool.false_and]
theorem impl_GoodSign_any (s:List Int):impl_GoodSign_1_any.f s=some (!inAll 0 3 s):=by
 unfold impl_GoodSign_1_any.f inAll
 refine anyO_not _ _ _ (fun x _=>?_)
 unfold impl_GoodSign_1.f
 by_cases h1:x<0
 ·rw[if_pos h1,decide_eq_false (by omega)];rfl
 ·rw[if_neg h1]
  by_cases h2:x≤3
  ·rw[decide_eq_true (show 0≤x∧x≤3 by omega),decide_eq_false (by omega)];rfl
  ·rw[decide_eq_false (show ¬ (0≤x∧x≤3) by omega),decide_eq_true (by omega)];rfl
theorem impl_GoodSign_eq (s:List Int):impl_GoodSign.f s=some (goodSign s):=by
 unfold impl_GoodSign.f goodSign
 by_cases g:1≤s.length∧s.length≤10
 ·rw[if_neg (by omega),if_neg (by omega),if_pos (by omega),decide_eq_true g,Bool.true_and]
  by_cases e:rd s 0=0
  ·rw[if_pos e,impl_GoodSign_any,e];simp
  ·rw[if_neg e];simp[e]
 ·rw[decide_eq_false g,Bool.false_and]
  by_cases h1:(s.length:Int)<1
  ·rw[if_pos h1]
  ·rw[if_neg h1,if_pos (by omega)]
def ar (s:List Int)(x:Int):Nat:=if x<0 then 0 else (rd s x).toNat
def tok (s:List Int)(x:Int):Bool:=decide (-12≤x∧x<s.length)
def eat (s:List Int):List Int→Nat→Option (List Int)
 | l,0=>some l
 | [],_+1=>none
 | x :: l,n+1=>if tok s x=true then eat s l (n+ar s x) else none
def isTerm (s:List Int)(l:List Int):Bool:=decide (1≤l.length∧l.length≤40) && (eat s l 1 == some [])
theorem ar_le {s:List Int} (h:goodSign s=true) {x:Int} (ht:tok s x=true):ar s x≤3:=by
 unfold tok at ht
 simp only[decide_eq_true_eq]at ht
 unfold ar
 by_cases g:x<0
 ·rw[if_pos g];omega
 ·rw[if_neg g]
  have:=goodSign_rd h x (by omega) (by omega)
  omega
theorem ar_rd {s:List Int} (h:goodSign s=true) {x:Int} (h0:0≤x)(ht:tok s x=true):rd s x=(ar s x:Int):=by
 unfold tok at ht
 simp only[decide_eq_true_eq]at ht
 unfold ar
 rw[if_neg (by omega)]
 have:=goodSign_rd h x (by omega) (by omega)
 omega
theorem eat_suf (s:List Int)(l:List Int):∀ (n:Nat) (r:List Int),eat s l n=some r→∃ c,l=c++r:=by
 induction l with
 | nil=>
  intro n r h
  cases n with
  | zero=>simp only[eat,Option.some.injEq]at h;exact⟨[],by simp[h]⟩
  | succ n=>simp[eat]at h
 | cons x l ih=>
  intro n r h
  cases n with
  | zero=>simp only[eat,Option.some.injEq]at h;exact⟨[],by simp[h]⟩
  | succ n=>
   simp only[eat]at h
   split at h
   ·obtain⟨c,e⟩:=ih _ _ h
    exact⟨x :: c,by rw[e];rfl⟩
   ·simp at h
theorem eat_zero (s:List Int)(l:List Int):eat s l 0=some l:=by cases l <;> rfl
theorem eat_split (s:List Int)(l:List Int):∀ (n m:Nat) (r:List Int),eat s l (n+m)=some r→∃ mid,eat s l n=some mid∧eat s mid m=some r:=by
 induction l with
 | nil=>
  intro n m r h
  cases n with
  | zero=>exact⟨[],eat_zero _ _,by simpa using h⟩
  | succ n=>rw[show n+1+m=(n+m)+1 by omega]at h;simp[eat]at h
 | cons x l ih=>
  intro n m r h
  cases n with
  | zero=>exact⟨x :: l,eat_zero _ _,by simpa using h⟩
  | succ n=>
   rw[show n+1+m=(n+m)+1 by omega]at h
   simp only[eat]at h ⊢
   split at h
   ·rename_i ht
    rw[if_pos ht]
    exact ih _ _ _ (by rw[← h];congr 1;omega)
   ·simp at h
theorem spec_l1End_l0 (s:List Int)(hs:goodSign s=true)(l:List Int):∀ (pre:List Int) (n:Nat),(pre++l).length≤1000000000→n≤3*pre.length+3 →
  Ev (fun k=>spec_l1End.l0 k (pre++l) (pre.length:Int) (n:Int) s) (match eat s l n with | some r=>((pre++l).length:Int) - r.length | none=>-1):=by
 have hsl:=goodSign_len hs
 induction l with
 | nil=>
  intro pre n hl hn
  refine Ev.succ ?_
  simp only[spec_l1End.l0]
  cases n with
  | zero=>exact Ev.neg (by simp) (Ev.eq (Ev.ret _) (by simp[eat]))
  | succ n=>
   refine Ev.pos (by omega) (Ev.pos (by simp) (Ev.succ ?_))
   simp only[spec_l1End.j1]
   exact Ev.pos trivial (Ev.eq (Ev.ret _) (by simp[eat]))
 | cons x l ih=>
  intro pre n hl hn
  have hl':=hl
  simp only[List.length_append,List.length_cons]at hl
  refine Ev.succ ?_
  simp only[spec_l1End.l0]
  cases n with
  | zero=>exact Ev.neg (by simp) (Ev.eq (Ev.ret _) (by simp only[eat,List.length_append,List.length_cons];omega))
  | succ n=>
   refine Ev.pos (by omega) (Ev.neg (by simp only[List.length_append,List.length_cons];omega) (Ev.pos (by omega) (Ev.pos (by simp only[List.length_append,List.length_cons];omega) ?_)))
   rw[rd_mid,w64 (x:=(s.length:Int) - 1) (by omega) (by omega)]
   refine Ev.bnd1 (spec_in_eq _ _ _) (Ev.succ ?_)
   simp only[spec_l1End.j1]
   by_cases g:-12≤x∧x≤(s.length:Int) - 1
   ·have ht:tok s x=true:=by unfold tok;exact decide_eq_true (by omega)
    have har:=ar_le hs ht
    have h:=ih (pre++[x]) (n+ar s x) (by simpa using hl') (by simp only[List.length_append,List.length_cons,List.length_nil];omega)
    refine Ev.neg (by rw[decide_eq_true g];simp) (Ev.pos (by omega) (Ev.pos (by simp only[List.length_append,List.length_cons];omega) ?_))
    have e:eat s (x :: l) (n+1)=eat s l (n+ar s x):=by simp only[eat];rw[if_pos ht]
    rw[e]
    have e0:wrap64 ((pre.length:Int)+1)=(pre.length:Int)+1:=w64 (by omega) (by omega)
    have e1:wrap64 (((n+1:Nat):Int) - 1)=(n:Int):=by rw[w64 (by omega) (by omega)];omega
    rw[rd_mid,e0,e1]
    have h':Ev (fun k=>spec_l1End.l0 k (pre++x :: l) ((pre.length:Int)+1) ((n:Int)+(ar s x:Int)) s) (match eat s l (n+ar s x) with | some r=>((pre++x :: l).length:Int) - r.length | none=>-1):=by simpa using h
    by_cases g0:x≥0
    ·refine Ev.pos g0 (Ev.pos g0 (Ev.pos (by omega) ?_))
     rw[ar_rd hs g0 ht,w64 (by omega) (by omega)]
     exact h'
    ·refine Ev.neg g0 ?_
     have e2:ar s x=0:=by unfold ar;rw[if_pos (by omega)]
     rw[e2]at h' ⊢
     simpa using h'
   ·have ht:¬ tok s x=true:=by unfold tok;rw[decide_eq_true_eq];omega
    refine Ev.pos (by rw[decide_eq_false g];rfl) (Ev.eq (Ev.ret _) ?_)
    simp only[eat]
    rw[if_neg ht]
theorem spec_l1End_ev (s:List Int)(hs:goodSign s=true)(pre l:List Int)(hl:(pre++l).length≤1000000000) :
  Ev (fun k=>spec_l1End.f k s (pre++l) (pre.length:Int)) (match eat s l 1 with | some r=>((pre++l).length:Int) - r.length | none=>-1):=by
 simp only[spec_l1End.f]
 exact spec_l1End_l0 s hs l pre 1 hl (by omega)
theorem spec_l1Term_ev (s:List Int)(hs:goodSign s=true)(l:List Int):Ev (fun k=>spec_l1Term.f k s l) (isTerm s l):=by
 simp only[spec_l1Term.f]
 refine Ev.bnd1 (spec_in_eq _ _ _) ?_
 unfold isTerm
 by_cases g:1≤l.length∧l.length≤40
 ·have g':(1:Int)≤(l.length:Int)∧(l.length:Int)≤40:=by omega
  have h:=spec_l1End_ev s hs [] l (by simp;omega)
  refine Ev.pos (decide_eq_true g') (Ev.bnd (by simpa using h) (Ev.eq (Ev.ret _) ?_))
  rw[decide_eq_true g,Bool.true_and]
  cases e:eat s l 1 with
  | none=>simp
  | some r=>
   cases r with
   | nil=>simp
   | cons y r=>simp;omega
 ·have g':¬ ((1:Int)≤(l.length:Int)∧(l.length:Int)≤40):=by omega
  refine Ev.neg (by rw[decide_eq_false g'];simp) (Ev.eq (Ev.ret _) ?_)
  rw[decide_eq_false g,Bool.false_and]
theorem impl_args_eq (s:List Int)(hs:goodSign s=true)(x:Int)(ht:tok s x=true):impl_Sign_args.f s x=some (ar s x:Int):=by
 unfold impl_Sign_args.f
 by_cases g:x<0
 ·rw[if_pos g];unfold ar;rw[if_pos g];rfl
 ·have ht':=ht
  unfold tok at ht'
  simp only[decide_eq_true_eq]at ht'
  rw[if_neg g,if_pos (by omega),if_pos (by omega),ar_rd hs (by omega) ht]
theorem impl_isTerm_l0 (s:List Int)(hs:goodSign s=true)(l:List Int):∀ (pre:List Int) (n:Nat),(pre++l).length≤1000000→n≤3*pre.length+3 →
  Ev (fun k=>impl_Sign_isTerm.l0 k (n:Int) (pre++l) ((pre++l).length:Int) (pre.length:Int) s) (eat s l n == some []):=by
 have hsl:=goodSign_len hs
 induction l with
 | nil=>
  intro pre n hl hn
  refine Ev.succ ?_
  simp only[impl_Sign_isTerm.l0]
  refine Ev.neg (by simp) (Ev.eq (Ev.ret _) ?_)
  cases n with
  | zero=>rfl
  | succ n=>first | (simp[eat];done) | (simp[eat];omega)
 | cons x l ih=>
  intro pre n hl hn
  have hl':=hl
  simp only[List.length_append,List.length_cons]at hl
  refine Ev.succ ?_
  simp only[impl_Sign_isTerm.l0]
  refine Ev.pos (by simp only[List.length_append,List.length_cons];omega) (Ev.pos (by omega) (Ev.pos (by simp only[List.length_append,List.length_cons];omega) ?_))
  cases n with
  | zero=>exact Ev.pos rfl (Ev.eq (Ev.ret _) (by simp[eat]))
  | succ n=>
   refine Ev.neg (by omega) ?_
   rw[rd_mid]
   by_cases g1:x < -12
   ·refine Ev.pos g1 (Ev.eq (Ev.ret _) ?_)
    have ht:¬ tok s x=true:=by unfold tok;rw[decide_eq_true_eq];omega
    simp only[eat]
    rw[if_neg ht];rfl
   ·refine Ev.neg g1 ?_
    by_cases g2:x≥(s.length:Int)
    ·refine Ev.pos g2 (Ev.eq (Ev.ret _) ?_)
     have ht:¬ tok s x=true:=by unfold tok;rw[decide_eq_true_eq];omega
     simp only[eat]
     rw[if_neg ht];rfl
    ·refine Ev.neg g2 ?_
     have ht:tok s x=true:=by unfold tok;exact decide_eq_true (by omega)
     have har:=ar_le hs ht
     have h:=ih (pre++[x]) (n+ar s x) (by simpa using hl') (by simp only[List.length_append,List.length_cons,List.length_nil];omega)
     refine Ev.bnd1 (impl_args_eq s hs x ht) ?_
     have e0:wrap64 ((pre.length:Int)+1)=(pre.length:Int)+1:=w64 (by omega) (by omega)
     have e1:wrap64 ((ar s x:Int) - 1)=(ar s x:Int) - 1:=w64 (by omega) (by omega)
     have e2:wrap64 (((n+1:Nat):Int)+((ar s x:Int) - 1))=(n:Int)+(ar s x:Int):=by rw[w64 (by omega) (by omega)];omega
     rw[e0,e1,e2]
     refine Ev.eq (by simpa using h) ?_
     simp only[eat]
     rw[if_pos ht]
theorem impl_isTerm_ev (s:List Int)(hs:goodSign s=true)(l:List Int):Ev (fun k=>impl_Sign_isTerm.f k s l) (isTerm s l):=by
 simp only[impl_Sign_isTerm.f]
 unfold isTerm
 by_cases g:l.length > 40
 ·refine Ev.pos (by omega) (Ev.eq (Ev.ret _) ?_)
  rw[decide_eq_false (by omega),Bool.false_and]
 ·refine Ev.neg (by omega) ?_
  have h:=impl_isTerm_l0 s hs l [] 1 (by simp;omega) (by omega)
  refine Ev.eq (by simpa using h) ?_
  cases l with
  | nil=>simp[eat]
  | cons x l=>rw[decide_eq_true (show 1≤(x :: l).length∧(x :: l).length≤40 by simp only[List.length_cons]at g ⊢;omega),Bool.true_and]
theorem rdLB_mid (pre:List S83)(x:S83)(post:List S83):rd_T83 (pre++x :: post) (pre.length:Int)=x:=by
 unfold rd_T83;simp
def isLit (s:List Int)(x:S83):Bool:=isTerm s x.f1 && isTerm s x.f2
def isClause (s:List Int)(l:List S83):Bool:=decide (l.length≤8) && l.all (isLit s)
theorem spec_l1End_tot (s:List Int)(hsl:s.length≤1048576)(l:List Int):∀ (pre:List Int) (n:Int),(pre++l).length≤1000000000→∃ r,Ev (fun k=>spec_l1End.l0 k (pre++l) (pre.length:Int) n s) r:=by
 induction l with
 | nil=>
  intro pre n hl
  by_cases g:n > 0
  ·refine⟨-1,Ev.succ ?_⟩
   simp only[spec_l1End.l0]
   refine Ev.pos g (Ev.pos (by simp) (Ev.succ ?_))
   simp only[spec_l1End.j1]
   exact Ev.pos trivial (Ev.ret _)
  ·refine⟨(pre.length:Int),Ev.succ ?_⟩
   simp only[spec_l1End.l0]
   exact Ev.neg g (Ev.ret _)
 | cons x l ih=>
  intro pre n hl
  have hl':=hl
  simp only[List.length_append,List.length_cons]at hl
  by_cases g:n > 0
  ·by_cases g1:-12≤x∧x≤(s.length:Int) - 1
   ·by_cases g2:x≥0
    ·obtain⟨r,hr⟩:=ih (pre++[x]) (wrap64 (wrap64 (n - 1)+rd s x)) (by simpa using hl')
     refine⟨r,Ev.succ ?_⟩
     simp only[spec_l1End.l0]
     refine Ev.pos g (Ev.neg (by simp only[List.length_append,List.length_cons];omega) (Ev.pos (by omega) (Ev.pos (by simp only[List.length_append,List.length_cons];omega) ?_)))
     rw[rd_mid,w64 (x:=(s.length:Int) - 1) (by omega) (by omega)]
     refine Ev.bnd1 (spec_in_eq _ _ _) (Ev.succ ?_)
     simp only[spec_l1End.j1]
     refine Ev.neg (by rw[decide_eq_true g1];simp) (Ev.pos (by omega) (Ev.pos (by simp only[List.length_append,List.length_cons];omega) ?_))
     rw[rd_mid,w64 (x:=(pre.length:Int)+1) (by omega) (by omega)]
     exact Ev.pos g2 (Ev.pos g2 (Ev.pos (by omega) (by simpa using hr)))
    ·obtain⟨r,hr⟩:=ih (pre++[x]) (wrap64 (n - 1)) (by simpa using hl')
     refine⟨r,Ev.succ ?_⟩
     simp only[spec_l1End.l0]
     refine Ev.pos g (Ev.neg (by simp only[List.length_append,List.length_cons];omega) (Ev.pos (by omega) (Ev.pos (by simp only[List.length_append,List.length_cons];omega) ?_)))
     rw[rd_mid,w64 (x:=(s.length:Int) - 1) (by omega) (by omega)]
     refine Ev.bnd1 (spec_in_eq _ _ _) (Ev.succ ?_)
     simp only[spec_l1End.j1]
     refine Ev.neg (by rw[decide_eq_true g1];simp) (Ev.pos (by omega) (Ev.pos (by simp only[List.length_append,List.length_cons];omega) ?_))
     rw[rd_mid,w64 (x:=(pre.length:Int)+1) (by omega) (by omega)]
     exact Ev.neg g2 (by simpa using hr)
   ·refine⟨-1,Ev.succ ?_⟩
    simp only[spec_l1End.l0]
    refine Ev.pos g (Ev.neg (by simp only[List.length_append,List.length_cons];omega) (Ev.pos (by omega) (Ev.pos (by simp only[List.length_append,List.length_cons];omega) ?_)))
    rw[rd_mid,w64 (x:=(s.length:Int) - 1) (by omega) (by omega)]
    refine Ev.bnd1 (spec_in_eq _ _ _) (Ev.succ ?_)
    simp only[spec_l1End.j1]
    exact Ev.pos (by rw[decide_eq_false g1];rfl) (Ev.ret _)
  ·refine⟨(pre.length:Int),Ev.succ ?_⟩
   simp only[spec_l1End.l0]
   exact Ev.neg g (Ev.ret _)
theorem spec_l1Term_tot (s:List Int)(hsl:s.length≤1048576)(l:List Int):∃ b,Ev (fun k=>spec_l1Term.f k s l) b∧(goodSign s=true→b=isTerm s l):=by
 by_cases hs:goodSign s=true
 ·exact⟨_,spec_l1Term_ev s hs l,fun _=>rfl⟩
 ·simp only[spec_l1Term.f]
  by_cases g:(1:Int)≤(l.length:Int)∧(l.length:Int)≤40
  ·obtain⟨r,h⟩:=spec_l1End_tot s hsl l [] 1 (by simp only[List.nil_append];omega)
   refine⟨_,Ev.bnd1 (spec_in_eq _ _ _) (Ev.pos (decide_eq_true g) (Ev.bnd (a:=r) ?_ (Ev.ret _))),fun h=>absurd h hs⟩
   simp only[spec_l1End.f]
   simpa using h
  ·exact⟨_,Ev.bnd1 (spec_in_eq _ _ _) (Ev.neg (by rw[decide_eq_false g];simp) (Ev.ret _)),fun h=>absurd h hs⟩
theorem spec_l4Lit_tot (s:List Int)(hsl:s.length≤1048576)(x:S83):∃ b,Ev (fun k=>spec_l4Lit.f k s x.f0 x.f1 x.f2) b∧(goodSign s=true→b=isLit s x):=by
 obtain⟨b1,h1,e1⟩:=spec_l1Term_tot s hsl x.f1
 obtain⟨b2,h2,e2⟩:=spec_l1Term_tot s hsl x.f2
 simp only[spec_l4Lit.f]
 cases b1 with
 | true=>exact⟨b2,Ev.bnd h1 (Ev.pos rfl (Ev.bnd h2 (Ev.ret _))),fun h=>by unfold isLit;rw[← e1 h,← e2 h];rfl⟩
 | false=>exact⟨false,Ev.bnd h1 (Ev.neg (by simp) (Ev.ret _)),fun h=>by unfold isLit;rw[← e1 h];rfl⟩
theorem spec_l4Clause_l0 (s:List Int)(hsl:s.length≤1048576)(x1:List S83)(post:List S83):∀ pre:List S83,(pre++post).length≤1048576 →
  ∃ b,Ev (fun k=>spec_l4Clause.l0 k x1 (pre++post) ((pre++post).length:Int) (pre.length:Int) s) b∧(goodSign s=true→b=(post.all (isLit s) && decide (x1.length≤8))):=by
 induction post with
 | nil=>
  intro pre hl
  refine⟨decide ((x1.length:Int)≤8),Ev.succ ?_,fun _=>?_⟩
  ·simp only[spec_l4Clause.l0]
   exact Ev.neg (by simp) (Ev.ret _)
  ·rw[List.all_nil,Bool.true_and];congr 1;simp only[eq_iff_iff];omega
 | cons x post ih=>
  intro pre hl
  have hl':=hl
  simp only[List.length_append,List.length_cons]at hl
  obtain⟨b1,h1,e1⟩:=spec_l4Lit_tot s hsl x
  have pref:∀ {g:Nat→Option Bool} {r:Bool},Ev (fun k=>(spec_l4Lit.f k s x.f0 x.f1 x.f2).bind fun t=>if t=true then g k else some false) r→Ev (fun k=>if (pre.length:Int)<((pre++x :: post).length:Int) then (if 0≤(pre.length:Int) then (if (pre.length:Int)<((pre++x :: post).length:Int) then ((spec_l4Lit.f k s ((rd_T83 (pre++x :: post) (pre.length:Int)).f0) ((rd_T83 (pre++x :: post) (pre.length:Int)).f1) ((rd_T83 (pre++x :: post) (pre.length:Int)).f2)).bind fun t=>if t=true then g k else some false) else none) else none) else some (decide ((x1.length:Int)≤8))) r:=by
   intro g r h
   refine Ev.pos (by simp only[List.length_append,List.length_cons];omega) (Ev.pos (by omega) (Ev.pos (by simp only[List.length_append,List.length_cons];omega) ?_))
   rw[rdLB_mid]
   exact h
  cases b1 with
  | true=>
   obtain⟨b2,h2,e2⟩:=ih (pre++[x]) (by simpa using hl')
   refine⟨b2,Ev.succ ?_,fun h=>by rw[e2 h,List.all_cons,← e1 h,Bool.true_and]⟩
   simp only[spec_l4Clause.l0]
   rw[w64 (x:=(pre.length:Int)+1) (by omega) (by omega)]
   exact pref (Ev.bnd h1 (Ev.pos rfl (by simpa using h2)))
  | false=>
   refine⟨false,Ev.succ ?_,fun h=>by rw[List.all_cons,← e1 h,Bool.false_and,Bool.false_and]⟩
   simp only[spec_l4Clause.l0]
   exact pref (Ev.bnd h1 (Ev.neg (by simp) (Ev.ret _)))
theorem spec_l4Clause_tot (s:List Int)(hsl:s.length≤1048576)(l:List S83)(hl:l.length≤1048576):∃ b,Ev (fun k=>spec_l4Clause.f k s l) b∧(goodSign s=true→b=isClause s l):=by
 obtain⟨b,h,e⟩:=spec_l4Clause_l0 s hsl l l [] (by simpa using hl)
 simp only[spec_l4Clause.f]
 exact⟨b,by simpa using h,fun hs=>by rw[e hs,isClause,Bool.and_comm]⟩
theorem impl_isLit_ev (s:List Int)(hs:goodSign s=true)(x:S83):Ev (fun k=>impl_Sign_isLit.f k s x.f0 x.f1 x.f2) (isLit s x):=by
 simp only[impl_Sign_isLit.f]
 refine Ev.bnd (impl_isTerm_ev s hs x.f1) ?_
 unfold isLit
 cases isTerm s x.f1 with
 | true=>exact Ev.pos rfl (Ev.bnd (impl_isTerm_ev s hs x.f2) (Ev.eq (Ev.ret _) rfl))
 | false=>exact Ev.neg (by simp) (Ev.ret _)
theorem anyO_ev {α:Type} (f:Nat→α→Option Bool)(p:α→Bool)(l:List α)(h:∀ x∈l,Ev (fun k=>f k x) (!p x)):Ev (fun k=>anyO (fun x=>f k x) l) (!l.all p):=by
 induction l with
 | nil=>exact Ev.ret _
 | cons x t ih=>
  simp only[anyO]
  refine Ev.bnd (h x (by simp)) ?_
  cases hp:p x with
  | true=>exact Ev.neg (by simp) (Ev.eq (ih (fun y hy=>h y (by simp[hy]))) (by simp[hp]))
  | false=>exact Ev.pos rfl (Ev.eq (Ev.ret _) (by simp[hp]))
theorem impl_isClause_ev (s:List Int)(hs:goodSign s=true)(l:List S83):Ev (fun k=>impl_Sign_isClause.f k s l) (isClause s l):=by
 simp only[impl_Sign_isClause.f,isClause]
 by_cases g:l.length≤8
 ·refine Ev.pos (by omega) (Ev.bnd (a:=!l.all (isLit s)) ?_ (Ev.eq (Ev.ret _) ?_))
  ·simp only[impl_Sign_isClause_1_any.f]
   refine anyO_ev _ _ _ (fun x _=>?_)
   simp only[impl_Sign_isClause_1.f]
   exact Ev.bnd (impl_isLit_ev s hs x) (Ev.ret _)
  ·rw[decide_eq_true g,Bool.not_not,Bool.true_and]
 ·exact Ev.neg (by omega) (Ev.eq (Ev.ret _) (by rw[decide_eq_false g,Bool.false_and]))
theorem isTerm_of {s l:List Int} (h:isTerm s l=true):l.length≤40∧eat s l 1=some []:=by
 unfold isTerm at h
 simp only[Bool.and_eq_true,decide_eq_true_eq,beq_iff_eq]at h
 exact⟨h.1.2,h.2⟩
theorem isClause_of {s:List Int} {c:List S83} (h:isClause s c=true):c.length≤8∧∀ x∈c,isLit s x=true:=by
 unfold isClause at h
 rw[Bool.and_eq_true,decide_eq_true_eq,List.all_eq_true]at h
 exact h
theorem eat_front (s:List Int)(l:List Int):∀ (n:Nat) (r:List Int),eat s l n=some r→∃ c,l=c++r∧eat s c n=some []:=by
 induction l with
 | nil=>
  intro n r h
  cases n with
  | zero=>simp only[eat,Option.some.injEq]at h;exact⟨[],by simp[h],by simp[eat]⟩
  | succ n=>simp[eat]at h
 | cons x l ih=>
  intro n r h
  cases n with
  | zero=>simp only[eat,Option.some.injEq]at h;exact⟨[],by simp[h],by simp[eat]⟩
  | succ n=>
   simp only[eat]at h
   split at h
   ·rename_i ht
    obtain⟨c,e,e2⟩:=ih _ _ h
    exact⟨x :: c,by rw[e];rfl,by simp only[eat];rw[if_pos ht];exact e2⟩
   ·simp at h
theorem eat_app (s:List Int)(c:List Int):∀ (n m:Nat) (l:List Int),eat s c n=some []→eat s (c++l) (n+m)=eat s l m:=by
 induction c with
 | nil=>
  intro n m l h
  cases n with
  | zero=>simp
  | succ n=>simp[eat]at h
 | cons x c ih=>
  intro n m l h
  cases n with
  | zero=>simp[eat]at h
  | succ n=>
   simp only[eat]at h
   split at h
   ·rename_i ht
    rw[List.cons_append,show n+1+m=(n+m)+1 by omega]
    simp only[eat]
    rw[if_pos ht,show n+m+ar s x=n+ar s x+m by omega]
    exact ih _ _ _ h
   ·simp at h
theorem eat_tok (s:List Int)(l:List Int):∀ n,eat s l n=some []→∀ x∈l,tok s x=true:=by
 induction l with
 | nil=>intro n h x hx;simp at hx
 | cons x l ih=>
  intro n h y hy
  cases n with
  | zero=>simp[eat]at h
  | succ n=>
   simp only[eat]at h
   split at h
   ·rename_i ht
    rcases List.mem_cons.1 hy with rfl | hy
    ·exact ht
    ·exact ih _ h y hy
   ·simp at h
theorem eat_cons {s:List Int} {x:Int} {l:List Int} {n:Nat} {r:List Int} (h:eat s (x :: l) (n+1)=some r):tok s x=true∧eat s l (n+ar s x)=some r:=by
 simp only[eat]at h
 split at h
 ·rename_i ht;exact⟨ht,h⟩
 ·simp at h
def okB (s:List Int)(N:Nat)(b:List (List Int)):Prop:=b.length=12∧∀ x∈b,x.length≤N∧(x≠[]→eat s x 1=some [])
theorem okB_get {s:List Int} {N:Nat} {b:List (List Int)} (h:okB s N b)(v:Nat):(b.getD v []).length≤N∧(b.getD v []≠[]→eat s (b.getD v []) 1=some []):=by
 by_cases g:v<b.length
 ·have e:b.getD v []=b[v]:=by simp[List.getD_eq_getElem?_getD,List.getElem?_eq_getElem g]
  rw[e];exact h.2 _ (List.getElem_mem g)
 ·have e:b.getD v []=[]:=by rw[List.getD_eq_getElem?_getD,List.getElem?_eq_none (by omega)];rfl
  rw[e];simp
theorem tok_neg {s:List Int} {n:Int} (ht:tok s n=true)(h:n<0):ar s n=0 ∧ -12≤n:=by
 unfold tok at ht
 simp only[decide_eq_true_eq]at ht
 refine⟨by unfold ar;rw[if_pos h],ht.1⟩
def sub (b:List (List Int))(v:Nat):List Int:=if b.getD v []=[] then [-1 - (v:Int)] else b.getD v []
def app (b:List (List Int)):List Int→List Int
 | []=>[]
 | n :: t=>(if n<0 then sub b (-1 - n).toNat else [n])++app b t
theorem rdL2_nat (b:List (List Int))(n:Int)(h:n<0)(h2:-12≤n):rd_L2 b (wrap64 ((-1) - n))=b.getD (-1 - n).toNat []:=by
 unfold rd_L2
 rw[w64 (by omega) (by omega)]
theorem sub_of (b:List (List Int))(n:Int)(h:n<0):sub b (-1 - n).toNat=if b.getD (-1 - n).toNat []=[] then [n] else b.getD (-1 - n).toNat []:=by
 unfold sub
 rw[show -1 - ((-1 - n).toNat:Int)=n by omega]
def cap (l:List Int):List Int × Bool:=if l.length≤40 then (l,true) else ([],false)
theorem impl_apply_l0 (s:List Int)(b:List (List Int))(N:Nat)(hN:N≤1000)(hb:okB s N b)(post:List Int):∀ (pre acc:List Int),(pre++post).length≤1000→(∀ x∈post,-12≤x)→acc.length≤40 →
  Ev (fun k=>impl_apply.l0 k b acc (pre++post) ((pre++post).length:Int) (pre.length:Int)) (cap (acc++app b post)):=by
 have hb12:=hb.1
 induction post with
 | nil=>
  intro pre acc hl hx ha
  refine Ev.succ ?_
  simp only[impl_apply.l0]
  exact Ev.neg (by simp) (Ev.eq (Ev.ret _) (by rw[app,List.append_nil];unfold cap;rw[if_pos ha]))
 | cons x post ih=>
  intro pre acc hl hx ha
  have hl':=hl
  simp only[List.length_append,List.length_cons]at hl
  have hx0:=hx x (by simp)
  have hbv:=okB_get hb (-1 - x).toNat
  have e0:wrap64 ((pre.length:Int)+1)=(pre.length:Int)+1:=w64 (by omega) (by omega)
  have key:∀ y:List Int,Ev (fun k=>if ((acc++y).length:Int) > 40 then some (([]:List Int),false) else impl_apply.l0 k b (acc++y) (pre++x :: post) ((pre++x :: post).length:Int) ((pre.length:Int)+1)) (cap (acc++(y++app b post))):=by
   intro y
   by_cases g:(acc++y).length≤40
   ·have h:=ih (pre++[x]) (acc++y) (by simpa using hl') (fun z hz=>hx z (by simp[hz])) g
    refine Ev.neg (by omega) ?_
    simpa only[List.append_assoc,List.singleton_append,List.length_append,List.length_singleton,Int.natCast_add,Int.cast_ofNat_Int] using h
   ·refine Ev.pos (by omega) (Ev.eq (Ev.ret _) ?_)
    unfold cap;rw[if_neg (by rw[← List.append_assoc,List.length_append];omega)]
  refine Ev.succ ?_
  simp only[impl_apply.l0,app]
  refine Ev.pos (by simp only[List.length_append,List.length_cons];omega) (Ev.pos (by omega) (Ev.pos (by simp only[List.length_append,List.length_cons];omega) ?_))
  rw[rd_mid]
  by_cases g:x<0
  ·rw[rdL2_nat b x g hx0,if_pos g,sub_of b x g,w64 (x:=(-1) - x) (by omega) (by omega)]
   refine Ev.pos g (Ev.pos (by omega) (Ev.pos (by omega) (Ev.succ ?_)))
   simp only[impl_apply.j1]
   rw[e0,rdL2_nat b x g hx0,w64 (x:=(-1) - x) (by omega) (by omega)]
   by_cases g2:b.getD (-1 - x).toNat []=[]
   ·rw[if_pos g2]
    exact Ev.neg (by rw[g2];simp) (Ev.pos (by omega) (Ev.bnd1 rfl (key [x])))
   ·rw[if_neg g2]
    have:=List.length_pos_iff.2 g2
    exact Ev.pos (decide_eq_true (by omega)) (Ev.pos (by omega) (Ev.pos (by omega) (Ev.pos (by omega) (Ev.bnd1 rfl (key _)))))
  ·rw[if_neg g]
   refine Ev.neg g (Ev.succ ?_)
   simp only[impl_apply.j1]
   rw[e0]
   exact Ev.neg (by simp) (Ev.pos (by omega) (Ev.bnd1 rfl (key [x])))
theorem impl_apply_ev (s:List Int)(b:List (List Int))(N:Nat)(hN:N≤1000)(hb:okB s N b)(l:List Int)(hl:l.length≤1000)(hx:∀ x∈l,-12≤x):Ev (fun k=>impl_apply.f k b l) (cap (app b l)):=by
 simp only[impl_apply.f]
 simpa using impl_apply_l0 s b N hN hb l [] [] (by simpa using hl) hx (by simp)
theorem app_eat (s:List Int)(b:List (List Int))(N:Nat)(hb:okB s N b)(l:List Int):∀ n,eat s l n=some []→eat s (app b l) n=some []:=by
 induction l with
 | nil=>intro n h;exact h
 | cons x l ih=>
  intro n h
  cases n with
  | zero=>simp[eat]at h
  | succ n=>
   obtain⟨ht,h⟩:=eat_cons h
   simp only[app]
   by_cases g:x<0
   ·rw[if_pos g,sub_of b x g]
    obtain⟨htn,_⟩:=tok_neg ht g
    rw[htn]at h
    by_cases g2:b.getD (-1 - x).toNat []=[]
    ·rw[if_pos g2,List.singleton_append]
     simp only[eat]
     rw[if_pos ht,htn]
     exact ih _ h
    ·rw[if_neg g2,Nat.add_comm,eat_app s _ 1 n _ ((okB_get hb _).2 g2)]
     exact ih _ h
   ·rw[if_neg g,List.singleton_append]
    simp only[eat]
    rw[if_pos ht]
    exact ih _ h
theorem and255 (x:Int):0≤Go.bits .and .u64 x 255∧Go.bits .and .u64 x 255≤255:=by
 simp only[Go.bits,BitVec.toNat_and]
 have h:=Nat.and_le_right (n:=(BitVec.ofInt IntKind.u64.bits x).toNat) (m:=(BitVec.ofInt IntKind.u64.bits 255).toNat)
 have h2:(BitVec.ofInt IntKind.u64.bits 255).toNat=255:=by decide
 rw[h2]at h ⊢
 generalize (BitVec.ofInt IntKind.u64.bits x).toNat &&& 255=y at h
 rw[IntWalk.u64_in _ (by omega)]
 omega
theorem rd_range (l:List Int)(hl:∀ x∈l,0≤x∧x≤255)(i:Int):0≤rd l i∧rd l i≤255:=by
 unfold rd
 rw[List.getD_eq_getElem?_getD]
 cases h:l[i.toNat]? with
 | none=>simp
 | some x=>exact hl x (List.mem_of_getElem? h)
theorem next_ok (l:List Int)(hl:∀ x∈l,0≤x∧x≤255)(a sd:Int)(h0:0≤a)(h1:a≤4611686018427387904):∃ b sd',spec_l1Cur_next.f l a sd=some (b,a+1,sd')∧0≤b∧b≤255:=by
 have hw:wrap64 (a+1)=a+1:=w64 (by omega) (by omega)
 have hr:=rd_range l hl a
 have hrw:wrap64 (rd l a)=rd l a:=w64 (by omega) (by omega)
 unfold spec_l1Cur_next.f
 rw[hw,hrw]
 by_cases g:a<(l.length:Int)
 ·rw[if_pos g,if_pos h0]
  by_cases g2:a+1≤(l.length:Int)
  ·rw[if_pos g2];exact⟨_,_,rfl,hr.1,hr.2⟩
  ·rw[if_neg g2]
   refine⟨_,_,rfl,?_⟩
   have:=and255 ((IntKind.u64.wrap ((IntKind.u64.wrap ((IntKind.u64.wrap (sd*6364136223846793005))+(IntKind.u64.wrap (rd l a))))+1442695040888963407)) / 1099511627776)
   rw[w64 (by omega) (by omega)]
   exact this
 ·rw[if_neg g]
  by_cases g2:a+1≤(l.length:Int)
  ·rw[if_pos g2];exact⟨_,_,rfl,by omega,by omega⟩
  ·rw[if_neg g2]
   refine⟨_,_,rfl,?_⟩
   generalize (IntKind.u64.wrap ((IntKind.u64.wrap (IntKind.u64.wrap (sd*6364136223846793005)))+1442695040888963407)) / 1099511627776=z
   have:=and255 z
   rw[w64 (by omega) (by omega)]
   exact this
theorem pick_ok (l:List Int)(hl:∀ x∈l,0≤x∧x≤255)(a sd n:Int)(h0:0≤a)(h1:a≤4611686018427387000)(hn:n≤1000000000):∃ p a' sd',spec_l1Cur_pick.f l a sd n=some (p,a',sd')∧0≤p∧(1≤n→p<n)∧a≤a'∧a'≤a+2:=by
 unfold spec_l1Cur_pick.f
 by_cases g:n≤1
 ·rw[if_pos g];exact⟨0,a,sd,rfl,by omega,by omega,by omega,by omega⟩
 ·rw[if_neg g]
  obtain⟨b,s1,e1,hb0,hb1⟩:=next_ok l hl a sd h0 (by omega)
  rw[e1]
  simp only[Option.bind_some]
  by_cases g2:n > 200
  ·rw[if_pos g2]
   obtain⟨c,s2,e2,hc0,hc1⟩:=next_ok l hl (a+1) s1 (by omega) (by omega)
   rw[e2]
   simp only[Option.bind_some]
   rw[if_neg (show ¬ n=0 by omega),w64 (x:=b*256) (by omega) (by omega),w64 (x:=b*256+c) (by omega) (by omega)]
   exact⟨_,_,_,rfl,Int.tmod_nonneg _ (by omega),fun _=>Int.tmod_lt_of_pos _ (by omega),by omega,by omega⟩
  ·rw[if_neg g2,if_neg (show ¬ n=0 by omega)]
   exact⟨_,_,_,rfl,Int.tmod_nonneg _ (by omega),fun _=>Int.tmod_lt_of_pos _ (by omega),by omega,by omega⟩
theorem one_ok (l:List Int)(hl:∀ x∈l,0≤x∧x≤255)(a sd n:Int)(h0:0≤a)(h1:a≤4611686018427387000)(hn:n≤1000000000):∃ b a' sd',spec_l1Cur_one.f l a sd n=some (b,a',sd')∧a≤a'∧a'≤a+2:=by
 obtain⟨p,a1,s1,e1,hp0,hp1,ha1,ha2⟩:=pick_ok l hl a sd n h0 h1 hn
 exact⟨_,a1,s1,by unfold spec_l1Cur_one.f;rw[e1];rfl,ha1,ha2⟩
def LT:Nat→Nat
 | 0=>1
 | d+1=>1+3*LT d
def SR (s:List Int):Prop:=s.length≤6∧∀ i:Int,0≤rd s i∧rd s i≤3
theorem SR_of (s:List Int)(h1:s.length≤6)(h2:∀ x∈s,0≤x∧x≤3):SR s:=by
 refine⟨h1,fun i=>?_⟩
 unfold rd
 rw[List.getD_eq_getElem?_getD]
 cases h:s[i.toNat]? with
 | none=>simp
 | some x=>exact h2 x (List.mem_of_getElem? h)
def Bs (l:List Int):Prop:=∀ x∈l,0≤x∧x≤255
theorem sign_ok (l:List Int)(hl:Bs l)(a sd:Int)(h0:0≤a)(h1:a≤4000000000000000000):∃ s a' sd',spec_l1Cur_sign.f l a sd=some (s,a',sd')∧SR s∧a≤a'∧a'≤a+2:=by
 obtain⟨p,a1,s1,e1,_,_,q1,q2⟩:=pick_ok l hl a sd 40 h0 (by omega) (by omega)
 unfold spec_l1Cur_sign.f
 rw[e1]
 simp only[Option.bind_some]
 by_cases g0:p=0
 ·rw[if_pos g0];exact⟨_,_,_,rfl,SR_of _ (by decide) (by decide),q1,q2⟩
 ·rw[if_neg g0]
  by_cases g1:p=1
  ·rw[if_pos g1];exact⟨_,_,_,rfl,SR_of _ (by decide) (by decide),q1,q2⟩
  ·rw[if_neg g1]
   by_cases g2:p=2
   ·rw[if_pos g2];exact⟨_,_,_,rfl,SR_of _ (by decide) (by decide),q1,q2⟩
   ·rw[if_neg g2];exact⟨_,_,_,rfl,SR_of _ (by decide) (by decide),q1,q2⟩
theorem among_ok (l:List Int)(hl:Bs l)(a sd:Int)(xs:List Int)(hx:1≤xs.length∧xs.length≤1000)(h0:0≤a)(h1:a≤4000000000000000000):∃ x a' sd',spec_l1Cur_among.f l a sd xs=some (x,a',sd')∧x∈xs∧a≤a'∧a'≤a+2:=by
 obtain⟨p,a1,s1,e1,p0,p1,q1,q2⟩:=pick_ok l hl a sd (xs.length:Int) h0 (by omega) (by omega)
 have hp:=p1 (by omega)
 unfold spec_l1Cur_among.f
 rw[e1]
 simp only[Option.bind_some]
 rw[if_pos p0,if_pos hp]
 refine⟨_,_,_,rfl,?_,q1,q2⟩
 unfold rd
 rw[List.getD_eq_getElem?_getD,List.getElem?_eq_getElem (by omega)]
 exact List.getElem_mem _
theorem LT_pos (d:Nat):1≤LT d:=by cases d <;> simp[LT]
theorem LT_le (d:Nat)(h:d≤3):LT d≤40:=by
 match d,h with
 | 0,_=>decide
 | 1,_=>decide
 | 2,_=>decide
 | 3,_=>decide
theorem term_top (l:List Int)(hl:Bs l)(s:List Int)(hs:SR s)(v:Int)(hv:v≤1000)(dp a sd:Int)(X Y:Nat)(hX:1≤X)(h0:0≤a)(h1:a+6+Y≤4000000000000000000)
  (HL:∀ n a1 s1:Int,0≤n→n<s.length→(dp≤1→rd s n≤0)→a≤a1→a1≤a+6→∃ r a' sd',Ev (fun k=>spec_l1Cur_term.l0 k dp v [n] (rd s n) l a1 s1 s) (r,a',sd')∧1≤r.length∧r.length≤X∧a1≤a'∧a'≤a1+Y) :
  ∃ r a' sd',Ev (fun k=>spec_l1Cur_term.f k l a sd s dp v) (r,a',sd')∧1≤r.length∧r.length≤X∧a≤a'∧a'≤a+6+Y:=by
 by_cases gs:(s.length:Int)=0
 ·refine⟨[0],a,sd,Ev.succ ?_,by simp,by simpa using hX,by omega,by omega⟩
  simp only[spec_l1Cur_term.f]
  exact Ev.pos gs (Ev.ret _)
 have hsl:=hs.1
 have H3:∀ (n a1 s1:Int) (b:Bool),0≤n→n<s.length→(b=false→dp≤1→rd s n≤0)→a≤a1→a1≤a+6→∃ r a' sd',Ev (fun k=>spec_l1Cur_term.j3 k dp v n b l a1 s1 s) (r,a',sd')∧1≤r.length∧r.length≤X∧a≤a'∧a'≤a+6+Y:=by
  intro n a1 s1 b n0 n1 hb q1 q2
  cases b with
  | true=>
   refine⟨[0],a1,s1,Ev.succ ?_,by simp,by simpa using hX,by omega,by omega⟩
   simp only[spec_l1Cur_term.j3]
   exact Ev.pos (by simp) (Ev.ret _)
  | false=>
   obtain⟨r,a',sd',e,t1,t2,t3,t4⟩:=HL n a1 s1 n0 n1 (hb rfl) q1 q2
   refine⟨r,a',sd',Ev.succ ?_,t1,t2,by omega,by omega⟩
   simp only[spec_l1Cur_term.j3]
   exact Ev.neg (by simp) (Ev.pos n0 (Ev.pos n1 e))
 have H2:∀ (n a1 s1:Int),0≤n→n<s.length→a≤a1→a1≤a+6→∃ r a' sd',Ev (fun k=>spec_l1Cur_term.j2 k dp v n l a1 s1 s) (r,a',sd')∧1≤r.length∧r.length≤X∧a≤a'∧a'≤a+6+Y:=by
  intro n a1 s1 n0 n1 q1 q2
  by_cases g:rd s n > 0
  ·obtain⟨r,a',sd',e,t⟩:=H3 n a1 s1 (decide (dp≤1)) n0 n1 (fun h h2=>absurd h2 (of_decide_eq_false h)) q1 q2
   refine⟨r,a',sd',Ev.succ ?_,t⟩
   simp only[spec_l1Cur_term.j2]
   exact Ev.pos n0 (Ev.pos n1 (Ev.pos g e))
  ·obtain⟨r,a',sd',e,t⟩:=H3 n a1 s1 false n0 n1 (fun _ _=>by omega) q1 q2
   refine⟨r,a',sd',Ev.succ ?_,t⟩
   simp only[spec_l1Cur_term.j2]
   exact Ev.pos n0 (Ev.pos n1 (Ev.neg g e))
 have H1:∀ (n a1 s1:Int) (b:Bool),0≤n→n<s.length→a≤a1→a1≤a+4→∃ r a' sd',Ev (fun k=>spec_l1Cur_term.j1 k dp v n b l a1 s1 s) (r,a',sd')∧1≤r.length∧r.length≤X∧a≤a'∧a'≤a+6+Y:=by
  intro n a1 s1 b n0 n1 q1 q2
  cases b with
  | false=>
   obtain⟨r,a',sd',e,t⟩:=H2 n a1 s1 n0 n1 q1 (by omega)
   refine⟨r,a',sd',Ev.succ ?_,t⟩
   simp only[spec_l1Cur_term.j1]
   exact Ev.neg (by simp) e
  | true=>
   obtain⟨p,a2,s2,e2,p0,p1,r1,r2⟩:=pick_ok l hl a1 s1 (s.length:Int) (by omega) (by omega) (by omega)
   have hp:=p1 (by omega)
   have hd0:0≤Int.tdiv p 2:=Int.tdiv_nonneg p0 (by omega)
   have hd1:Int.tdiv p 2≤p:=by rw[Int.tdiv_eq_ediv_of_nonneg p0];omega
   obtain⟨r,a',sd',e,t⟩:=H2 (Int.tdiv p 2) a2 s2 hd0 (by omega) (by omega) (by omega)
   refine⟨r,a',sd',Ev.succ ?_,t⟩
   simp only[spec_l1Cur_term.j1]
   refine Ev.pos (by simp) (Ev.bnd1 e2 ?_)
   simp only
   rw[w64 (by omega) (by omega)]
   exact e
 have H0:∀ (a1 s1:Int) (b:Bool),a≤a1→a1≤a+2→∃ r a' sd',Ev (fun k=>spec_l1Cur_term.j0 k dp v b l a1 s1 s) (r,a',sd')∧1≤r.length∧r.length≤X∧a≤a'∧a'≤a+6+Y:=by
  intro a1 s1 b q1 q2
  cases b with
  | true=>
   obtain⟨p,a2,s2,e2,p0,p1,r1,r2⟩:=pick_ok l hl a1 s1 v (by omega) (by omega) (by omega)
   refine⟨[wrap64 (-1 - p)],a2,s2,Ev.succ ?_,by simp,by simpa using hX,by omega,by omega⟩
   simp only[spec_l1Cur_term.j0]
   exact Ev.pos (by simp) (Ev.bnd1 e2 (Ev.ret _))
  | false=>
   obtain⟨p,a2,s2,e2,p0,p1,r1,r2⟩:=pick_ok l hl a1 s1 (s.length:Int) (by omega) (by omega) (by omega)
   have hp:=p1 (by omega)
   by_cases g:rd s p > 0
   ·obtain⟨r,a',sd',e,t⟩:=H1 p a2 s2 (decide (dp≤1)) p0 hp (by omega) (by omega)
    refine⟨r,a',sd',Ev.succ ?_,t⟩
    simp only[spec_l1Cur_term.j0]
    exact Ev.neg (by simp) (Ev.bnd1 e2 (Ev.pos p0 (Ev.pos hp (Ev.pos g e))))
   ·obtain⟨r,a',sd',e,t⟩:=H1 p a2 s2 false p0 hp (by omega) (by omega)
    refine⟨r,a',sd',Ev.succ ?_,t⟩
    simp only[spec_l1Cur_term.j0]
    exact Ev.neg (by simp) (Ev.bnd1 e2 (Ev.pos p0 (Ev.pos hp (Ev.neg g e))))
 by_cases gv:v > 0
 ·obtain⟨b,a1,s1,e1,q1,q2⟩:=one_ok l hl a sd 3 h0 (by omega) (by omega)
  obtain⟨r,a',sd',e,t⟩:=H0 a1 s1 b q1 q2
  refine⟨r,a',sd',Ev.succ ?_,t⟩
  simp only[spec_l1Cur_term.f]
  exact Ev.neg gs (Ev.pos gv (Ev.bnd1 e1 e))
 ·obtain⟨r,a',sd',e,t⟩:=H0 a sd false (by omega) (by omega)
  refine⟨r,a',sd',Ev.succ ?_,t⟩
  simp only[spec_l1Cur_term.f]
  exact Ev.neg gs (Ev.neg gv e)
theorem term_ok (l:List Int)(hl:Bs l)(s:List Int)(hs:SR s)(v:Int)(hv:v≤1000)(d:Nat):∀ (a sd dp:Int),d≤3→0≤a→a+8*LT d≤4000000000000000000→dp≤d+1 → -1000≤dp →
  ∃ r a' sd',Ev (fun k=>spec_l1Cur_term.f k l a sd s dp v) (r,a',sd')∧1≤r.length∧r.length≤LT d∧a≤a'∧a'≤a+8*LT d:=by
 have flat:∀ (dp n a1 s1:Int),rd s n≤0→∃ r a' sd',Ev (fun k=>spec_l1Cur_term.l0 k dp v [n] (rd s n) l a1 s1 s) (r,a',sd')∧1≤r.length∧r.length≤1∧a1≤a'∧a'≤a1+0:=by
  intro dp n a1 s1 h
  refine⟨[n],a1,s1,Ev.succ ?_,by simp,by simp,by omega,by omega⟩
  simp only[spec_l1Cur_term.l0]
  exact Ev.neg (by omega) (Ev.ret _)
 induction d with
 | zero=>
  intro a sd dp _ h0 h1 hd hd2
  obtain⟨r,a',sd',e,t1,t2,t3,t4⟩:=term_top l hl s hs v hv dp a sd 1 0 (Nat.le_refl _) h0 (by simp only[LT]at h1;omega) (fun n a1 s1 _ _ h _ _=>flat dp n a1 s1 (h (by omega)))
  exact⟨r,a',sd',e,t1,by simp only[LT];omega,t3,by simp only[LT];omega⟩
 | succ d ih=>
  intro a sd dp hd3 h0 h1 hd hd2
  have hp:=LT_pos d
  have h1':a+8*(1+3*LT d:Nat)≤4000000000000000000:=h1
  obtain⟨r,a',sd',e,t1,t2,t3,t4⟩:=term_top l hl s hs v hv dp a sd (1+3*LT d) (24*LT d) (by omega) h0 (by omega) (fun n a1 s1 n0 n1 h q1 q2=>by
   have loop:∀ (m:Nat) (out:List Int) (b1 t1:Int),m≤3→out.length+m*40≤1000→a≤b1→b1+(8*LT d*m:Nat)≤a+6+(24*LT d:Nat) →
     ¬ dp≤1→∃ r a' sd',Ev (fun k=>spec_l1Cur_term.l0 k dp v out (m:Int) l b1 t1 s) (r,a',sd')∧out.length≤r.length∧r.length≤out.length+m*LT d∧b1≤a'∧a'≤b1+(8*LT d*m:Nat):=by
    intro m
    induction m with
    | zero=>
     intro out b1 t1 _ _ _ _ _
     refine⟨out,b1,t1,Ev.succ ?_,Nat.le_refl _,by omega,by omega,by omega⟩
     simp only[spec_l1Cur_term.l0]
     exact Ev.neg (by omega) (Ev.ret _)
    | succ m ihm=>
     intro out b1 t1 hm ho hb hb2 hdp
     have hmul:8*LT d*(m+1)=8*LT d*m+8*LT d:=Nat.mul_succ _ _
     have hmul2:(m+1)*LT d=m*LT d+LT d:=Nat.succ_mul _ _
     rw[hmul]at hb2 ⊢
     rw[hmul2]
     have hLT:=LT_le d (by omega)
     obtain⟨r,c1,u1,e,x1,x2,x3,x4⟩:=ih b1 t1 (dp - 1) (by omega) (by omega) (by omega) (by omega) (by omega)
     obtain⟨r2,c2,u2,e2,y1,y2,y3,y4⟩:=ihm (out++r) c1 u1 (by omega) (by rw[List.length_append];omega) (by omega) (by omega) hdp
     rw[List.length_append]at y1 y2
     refine⟨r2,c2,u2,Ev.succ ?_,by omega,by omega,by omega,by omega⟩
     simp only[spec_l1Cur_term.l0]
     rw[w64 (x:=dp - 1) (by omega) (by omega),w64 (x:=((m+1:Nat):Int) - 1) (by omega) (by omega),show ((m+1:Nat):Int) - 1=(m:Int) by omega]
     exact Ev.pos (by omega) (Ev.bnd e (Ev.pos (by simp only;omega) e2))
   have hr:=hs.2 n
   by_cases g:dp≤1
   ·obtain⟨r,a',sd',e,t1,t2,t3,t4⟩:=flat dp n a1 s1 (h g)
    exact⟨r,a',sd',e,t1,by omega,t3,by omega⟩
   ·obtain⟨m,hm⟩:∃ m:Nat,rd s n=(m:Int):=⟨(rd s n).toNat,by omega⟩
    have hmm:8*LT d*m≤24*LT d:=by
     have:8*LT d*m≤8*LT d*3:=Nat.mul_le_mul_left _ (by omega)
     omega
    have hm3:m*LT d≤3*LT d:=Nat.mul_le_mul_right _ (by omega)
    obtain⟨r,a',sd',e,t1,t2,t3,t4⟩:=loop m [n] a1 s1 (by omega) (by rw[List.length_singleton];omega) q1 (by omega) g
    rw[List.length_singleton]at t1 t2
    exact⟨r,a',sd',by rw[hm];exact e,t1,by omega,t3,by omega⟩)
  refine⟨r,a',sd',e,t1,t2,t3,?_⟩
  show a'≤a+8*(1+3*LT d:Nat)
  omega
theorem anyTerm_ok (l:List Int)(hl:Bs l)(s:List Int)(hs:SR s)(a sd:Int)(h0:0≤a)(h1:a≤3000000000000000000) :
  ∃ r a' sd',Ev (fun k=>spec_l1Cur_anyTerm.f k l a sd s) (r,a',sd')∧r.length≤41∧a≤a'∧a'≤a+400:=by
 obtain⟨p,a1,s1,e1,p0,p1,q1,q2⟩:=pick_ok l hl a sd 4 h0 (by omega) (by omega)
 have hp:=p1 (by omega)
 obtain⟨r,a2,s2,e2,t1,t2,t3,t4⟩:=term_ok l hl s hs 3 (by omega) 3 a1 s1 (1+p) (by omega) (by omega) (by show a1+8*(40:Nat)≤_;omega) (by omega) (by omega)
 have t2':r.length≤40:=t2
 have t4':a2≤a1+8*(40:Nat):=t4
 obtain⟨q,a3,s3,e3,r0,r1,u1,u2⟩:=pick_ok l hl a2 s2 40 (by omega) (by omega) (by omega)
 have hw:wrap64 (1+p)=1+p:=w64 (by omega) (by omega)
 have key:∀ R:List Int × Int × Int,Ev (fun k=>if q=0 then (if r.length<17592186044416 then some ((r++[1]),a3,s3) else none) else (if q=1 then ((spec_l1Cur_among.f l a3 s3 [(-13),(-12),10,9]).bind fun bt=>if 0<(r.length:Int) then some ((r.set (0:Int).toNat bt.1),bt.2.1,bt.2.2) else none) else (if q=2 then (if 1≤(r.length:Int) then some ((r.drop (1:Int).toNat),a3,s3) else none) else some (r,a3,s3)))) R→Ev (fun k=>spec_l1Cur_anyTerm.f k l a sd s) R:=fun R h=>by
  simp only[spec_l1Cur_anyTerm.f]
  refine Ev.bnd1 e1 ?_
  simp only[hw]
  exact Ev.bnd e2 (Ev.bnd1 e3 h)
 by_cases g0:q=0
 ·exact⟨r++[1],a3,s3,key _ (Ev.pos g0 (Ev.pos (by omega) (Ev.ret _))),by rw[List.length_append,List.length_singleton];omega,by omega,by omega⟩
 by_cases g1:q=1
 ·obtain⟨x,a4,s4,e4,_,v1,v2⟩:=among_ok l hl a3 s3 [(-13),(-12),10,9] (by decide) (by omega) (by omega)
  exact⟨r.set (0:Int).toNat x,a4,s4,key _ (Ev.neg g0 (Ev.pos g1 (Ev.bnd1 e4 (Ev.pos (by omega) (Ev.ret _))))),by rw[List.length_set];omega,by omega,by omega⟩
 by_cases g2:q=2
 ·exact⟨r.drop (1:Int).toNat,a3,s3,key _ (Ev.neg g0 (Ev.neg g1 (Ev.pos g2 (Ev.pos (by omega) (Ev.ret _))))),by rw[List.length_drop];omega,by omega,by omega⟩
 ·exact⟨r,a3,s3,key _ (Ev.neg g0 (Ev.neg g1 (Ev.neg g2 (Ev.ret _)))),by omega,by omega,by omega⟩
theorem subL_ok (l:List Int)(hl:Bs l)(s:List Int)(hs:SR s)(n:Nat):∀ (b:List (List Int)) (a sd:Int),n≤4→b.length=12→(∀ x∈b,x.length≤4)→0≤a→a+40*n≤3000000000000000000 →
  ∃ r a' sd',Ev (fun k=>subL k l s n b a sd) (r,a',sd')∧r.length=12∧(∀ x∈r,x.length≤4)∧a≤a'∧a'≤a+40*n:=by
 induction n with
 | zero=>intro b a sd _ hb hx _ _;exact⟨b,a,sd,Ev.ret _,hb,hx,by omega,by omega⟩
 | succ n ih=>
  intro b a sd hn hb hx h0 h1
  obtain⟨p,a1,s1,e1,p0,p1,q1,q2⟩:=pick_ok l hl a sd 4 h0 (by omega) (by omega)
  obtain⟨q,a2,s2,e2,r0,r1,u1,u2⟩:=pick_ok l hl a1 s1 2 (by omega) (by omega) (by omega)
  have hp:=p1 (by omega)
  have hq:=r1 (by omega)
  obtain⟨t,a3,s3,e3,t1,t2,t3,t4⟩:=term_ok l hl s hs 4 (by omega) 1 a2 s2 (1+q) (by omega) (by omega) (by show a2+8*(4:Nat)≤_;omega) (by omega) (by omega)
  have t2':t.length≤4:=t2
  have t4':a3≤a2+8*(4:Nat):=t4
  obtain⟨r,a4,s4,e4,v1,v2,v3,v4⟩:=ih (b.set p.toNat t) a3 s3 (by omega) (by rw[List.length_set];exact hb) (fun x hm=>by
   rcases List.mem_or_eq_of_mem_set hm with h | h
   ·exact hx x h
   ·rw[h];exact t2') (by omega) (by omega)
  refine⟨r,a4,s4,?_,v1,v2,by omega,by omega⟩
  simp only[subL]
  refine Ev.bnd1 e1 (Ev.bnd1 e2 ?_)
  simp only
  rw[w64 (x:=1+q) (by omega) (by omega)]
  exact Ev.bnd e3 (Ev.pos ⟨p0,by omega⟩ e4)
theorem subst_ok (l:List Int)(hl:Bs l)(s:List Int)(hs:SR s)(a sd:Int)(h0:0≤a)(h1:a≤2000000000000000000) :
  ∃ r a' sd',Ev (fun k=>spec_l1Cur_subst.f k l a sd s) (r,a',sd')∧r.length≤12∧(∀ x∈r,x.length≤4)∧a≤a'∧a'≤a+200:=by
 obtain⟨p,a1,s1,e1,p0,p1,q1,q2⟩:=pick_ok l hl a sd 5 h0 (by omega) (by omega)
 have hp:=p1 (by omega)
 obtain⟨n,hn⟩:∃ n:Nat,p=(n:Int):=⟨p.toNat,by omega⟩
 subst hn
 obtain⟨r,a2,s2,e2,v1,v2,v3,v4⟩:=subL_ok l hl s hs n (List.replicate 12 []) a1 s1 (by omega) (by simp) (by simp) (by omega) (by omega)
 obtain⟨z,a3,s3,e3,w1,w2⟩:=one_ok l hl a2 s2 40 (by omega) (by omega) (by omega)
 refine⟨if z=true then r.drop 1 else r,a3,s3,?_,?_,?_,by omega,by omega⟩
 ·simp only[spec_l1Cur_subst.f]
  refine Ev.bnd1 e1 (Ev.pos ⟨by simp only;omega,by simp only;omega⟩ ?_)
  simp only[Int.toNat_natCast]
  exact Ev.bnd e2 (Ev.bnd1 e3 (Ev.ret _))
 ·split
  ·rw[List.length_drop];omega
  ·omega
 ·intro x hx
  split at hx
  ·exact v2 x (List.mem_of_mem_drop hx)
  ·exact v2 x hx
theorem DrawApply_ok (l:List Int)(hl:Bs l):∃ (s:List Int) (b:List (List Int)) (t:List Int),Ev (fun k=>spec_DrawApply.f k l) (s,b,t)∧SR s∧b.length≤12∧(∀ x∈b,x.length≤4)∧t.length≤41:=by
 obtain⟨s,a1,s1,e1,hs,q1,q2⟩:=sign_ok l hl 0 0 (by omega) (by omega)
 obtain⟨b,a2,s2,e2,v1,v2,v3,v4⟩:=subst_ok l hl s hs a1 s1 (by omega) (by omega)
 obtain⟨t,a3,s3,e3,w1,w2,w3⟩:=anyTerm_ok l hl s hs a2 s2 (by omega) (by omega)
 refine⟨s,b,t,?_,hs,v1,v2,w1⟩
 simp only[spec_DrawApply.f]
 exact Ev.bnd1 e1 (Ev.bnd e2 (Ev.bnd e3 (Ev.ret _)))
theorem pw_le (n a:Nat)(h1:n≤4)(h2:a≤3):n ^ a≤64:=by
 calc n ^ a≤4 ^ a:=Nat.pow_le_pow_left h1 a
  _≤4 ^ 3:=Nat.pow_le_pow_right (by omega) h2
  _=64:=by decide
theorem long_l0 (n:Nat)(hn:n≤4)(m:Nat):∀ (j:Nat),j+m≤3→Ev (fun k=>spec_l5Long.l0 k (n:Int) (m:Int) ((n ^ j:Nat):Int)) ((n ^ (j+m):Nat):Int):=by
 induction m with
 | zero=>
  intro j hj
  refine Ev.succ ?_
  simp only[spec_l5Long.l0]
  exact Ev.neg (by omega) (Ev.ret _)
 | succ m ih=>
  intro j hj
  have h:=ih (j+1) (by omega)
  have hp:=pw_le n (j+1) hn (by omega)
  have hm:((n ^ j:Nat):Int)*(n:Int)=((n ^ (j+1):Nat):Int):=by rw[Nat.pow_succ];push_cast;rfl
  refine Ev.succ ?_
  simp only[spec_l5Long.l0]
  rw[hm,w64 (x:=((n ^ (j+1):Nat):Int)) (by omega) (by omega),w64 (x:=((m+1:Nat):Int) - 1) (by omega) (by omega),show ((m+1:Nat):Int) - 1=(m:Int) by omega]
  exact Ev.pos (by omega) (Ev.eq h (by rw[show j+1+m=j+(m+1) by omega]))
theorem long_ok (n:Nat)(hn:n≤4)(x:Int)(h0:0≤x)(h1:x≤3):Ev (fun k=>spec_l5Long.f k (n:Int) x) ((n ^ x.toNat:Nat):Int):=by
 have:=long_l0 n hn x.toNat 0 (by omega)
 simp only[spec_l5Long.f]
 rw[Int.toNat_of_nonneg h0,Nat.zero_add]at this
 exact this
theorem world_l1 (l:List Int)(hl:Bs l)(ss:List Int)(sz i:Int)(hsz:sz≤4)(tb:List (List Int))(htb:tb.length≤100)(m:Nat):∀ (out:List Int) (a sd:Int),out.length+m≤100→0≤a→a+2*m≤3000000000000000000 →
  ∃ (out2:List Int) (a2 sd2:Int),out2.length=out.length+m∧a≤a2∧a2≤a+2*m∧∀ R:Int × List (List Int) × Int × Int,Ev (fun k=>spec_l1Cur_world.l0 k ss (ss.length:Int) (wrap64 (i+1)) l a2 sd2 sz (tb++[out2])) R →
  Ev (fun k=>spec_l1Cur_world.l1 k out (m:Int) ss (ss.length:Int) i l a sd sz tb) R:=by
 induction m with
 | zero=>
  intro out a sd h1 h0 h2
  refine⟨out,a,sd,by omega,by omega,by omega,fun R h=>Ev.succ ?_⟩
  simp only[spec_l1Cur_world.l1]
  exact Ev.neg (by omega) (Ev.pos (by omega) h)
 | succ m ih=>
  intro out a sd h1 h0 h2
  obtain⟨p,a1,s1,e1,p0,p1,q1,q2⟩:=pick_ok l hl a sd sz h0 (by omega) (by omega)
  obtain⟨out2,a2,sd2,g1,g2,g3,g4⟩:=ih (out++[p]) a1 s1 (by rw[List.length_append,List.length_singleton];omega) (by omega) (by omega)
  rw[List.length_append,List.length_singleton]at g1
  refine⟨out2,a2,sd2,by omega,by omega,by omega,fun R h=>Ev.succ ?_⟩
  simp only[spec_l1Cur_world.l1]
  rw[w64 (x:=((m+1:Nat):Int) - 1) (by omega) (by omega),show ((m+1:Nat):Int) - 1=(m:Int) by omega]
  exact Ev.pos (by omega) (Ev.bnd1 e1 (Ev.pos (by omega) (g4 R h)))
def WB (tb:List (List Int)):Prop:=tb.length≤6∧∀ x∈tb,x.length≤64
theorem world_l0 (l:List Int)(hl:Bs l)(ss:List Int)(hs:SR ss)(sz:Nat)(hsz:sz≤3)(m:Nat):∀ (i:Nat) (tb:List (List Int)) (a sd:Int),i+m=ss.length→tb.length=i→(∀ x∈tb,x.length≤64)→0≤a→a+200*m+2≤3000000000000000000 →
  ∃ (sz':Int) (tb':List (List Int)) (a' sd':Int),Ev (fun k=>spec_l1Cur_world.l0 k ss (ss.length:Int) (i:Int) l a sd (sz:Int) tb) (sz',tb',a',sd')∧(0≤sz'∧sz'≤4)∧WB tb'∧a≤a'∧a'≤a+200*m+2:=by
 have h6:=hs.1
 induction m with
 | zero=>
  intro i tb a sd hi ht hx h0 h1
  obtain⟨p,a1,s1,e1,p0,p1,q1,q2⟩:=pick_ok l hl a sd 40 h0 (by omega) (by omega)
  have key:∀ R:Int × List (List Int) × Int × Int,Ev (fun k=>if p=0 then some (wrap64 ((sz:Int)+1),tb,a1,s1) else if p=1 then some ((sz:Int),([]:List (List Int)),a1,s1) else some ((sz:Int),tb,a1,s1)) R→Ev (fun k=>spec_l1Cur_world.l0 k ss (ss.length:Int) (i:Int) l a sd (sz:Int) tb) R:=fun R h=>by
   refine Ev.succ ?_
   simp only[spec_l1Cur_world.l0]
   exact Ev.neg (by omega) (Ev.bnd1 e1 h)
  have hwb:WB tb:=⟨by omega,hx⟩
  by_cases g0:p=0
  ·refine⟨_,_,_,_,key _ (Ev.pos g0 (Ev.ret _)),?_,hwb,by omega,by omega⟩
   rw[w64 (by omega) (by omega)];omega
  ·by_cases g1:p=1
   ·exact⟨_,_,_,_,key _ (Ev.neg g0 (Ev.pos g1 (Ev.ret _))),by omega,⟨by simp,by simp⟩,by omega,by omega⟩
   ·exact⟨_,_,_,_,key _ (Ev.neg g0 (Ev.neg g1 (Ev.ret _))),by omega,hwb,by omega,by omega⟩
 | succ m ih=>
  intro i tb a sd hi ht hx h0 h1
  have hr:=hs.2 (i:Int)
  have hL:=long_ok sz (by omega) (rd ss (i:Int)) hr.1 hr.2
  have hpw:=pw_le sz (rd ss (i:Int)).toNat (by omega) (by omega)
  obtain⟨out2,a2,sd2,g1,g2,g3,g4⟩:=world_l1 l hl ss (sz:Int) (i:Int) (by omega) tb (by omega) (sz ^ (rd ss (i:Int)).toNat) [] a sd (by simp only[List.length_nil];omega) h0 (by omega)
  rw[List.length_nil,Nat.zero_add]at g1
  obtain⟨sz',tb',a',sd',e,t1,t2,t3,t4⟩:=ih (i+1) (tb++[out2]) a2 sd2 (by omega) (by rw[List.length_append,List.length_singleton];omega) (fun x hm=>by
   rcases List.mem_append.1 hm with h | h
   ·exact hx x h
   ·rw[List.mem_singleton]at h;rw[h];omega) (by omega) (by omega)
  refine⟨sz',tb',a',sd',Ev.succ ?_,t1,t2,by omega,by omega⟩
  simp only[spec_l1Cur_world.l0]
  refine Ev.pos (by omega) (Ev.pos (by omega) (Ev.pos (by omega) (Ev.bnd hL (g4 _ ?_))))
  rw[w64 (by omega) (by omega)]
  exact e
theorem world_ok (l:List Int)(hl:Bs l)(ss:List Int)(hs:SR ss)(a sd:Int)(h0:0≤a)(h1:a≤2000000000000000000) :
  ∃ (sz':Int) (tb':List (List Int)) (a' sd':Int),Ev (fun k=>spec_l1Cur_world.f k l a sd ss) (sz',tb',a',sd')∧(0≤sz'∧sz'≤4)∧WB tb'∧a≤a'∧a'≤a+2000:=by
 have h6:=hs.1
 obtain⟨p,a1,s1,e1,p0,p1,q1,q2⟩:=pick_ok l hl a sd 3 h0 (by omega) (by omega)
 have hp:=p1 (by omega)
 obtain⟨n,hn⟩:∃ n:Nat,1+p=(n:Int):=⟨(1+p).toNat,by omega⟩
 obtain⟨sz',tb',a',sd',e,t1,t2,t3,t4⟩:=world_l0 l hl ss hs n (by omega) ss.length 0 [] a1 s1 (by omega) rfl (by simp) (by omega) (by omega)
 refine⟨sz',tb',a',sd',?_,t1,t2,by omega,by omega⟩
 simp only[spec_l1Cur_world.f]
 refine Ev.bnd1 e1 ?_
 simp only
 rw[w64 (x:=1+p) (by omega) (by omega),hn]
 exact e
theorem env_l0 (l:List Int)(hl:Bs l)(sz:Int)(hsz:0≤sz∧sz≤4)(tb:List (List Int))(m:Nat):∀ (i:Nat) (out:List Int) (a sd:Int),i+m=12→out.length=i→0≤a→a+2*m+2≤3000000000000000000 →
  ∃ (r:List Int) (a' sd':Int),Ev (fun k=>spec_l1Cur_env.l0 k out (i:Int) l a sd sz tb) (r,a',sd')∧r.length=12∧a≤a'∧a'≤a+2*m+2:=by
 induction m with
 | zero=>
  intro i out a sd hi ho h0 h1
  obtain⟨b,a1,s1,e1,q1,q2⟩:=one_ok l hl a sd 40 h0 (by omega) (by omega)
  cases b with
  | true=>
   refine⟨out.set (0:Int).toNat sz,a1,s1,Ev.succ ?_,by rw[List.length_set];omega,by omega,by omega⟩
   simp only[spec_l1Cur_env.l0]
   exact Ev.neg (by omega) (Ev.bnd1 e1 (Ev.pos rfl (Ev.pos (by omega) (Ev.ret _))))
  | false=>
   refine⟨out,a1,s1,Ev.succ ?_,by omega,by omega,by omega⟩
   simp only[spec_l1Cur_env.l0]
   exact Ev.neg (by omega) (Ev.bnd1 e1 (Ev.neg (by simp) (Ev.ret _)))
 | succ m ih=>
  intro i out a sd hi ho h0 h1
  have hm:spec_l1Most.f 1 sz=some (if 1 > sz then 1 else sz):=by unfold spec_l1Most.f;split <;> rfl
  obtain⟨p,a1,s1,e1,p0,p1,q1,q2⟩:=pick_ok l hl a sd (if 1 > sz then 1 else sz) h0 (by omega) (by split <;> omega)
  obtain⟨r,a',sd',e,t1,t2,t3⟩:=ih (i+1) (out++[p]) a1 s1 (by omega) (by rw[List.length_append,List.length_singleton];omega) (by omega) (by omega)
  refine⟨r,a',sd',Ev.succ ?_,t1,by omega,by omega⟩
  simp only[spec_l1Cur_env.l0]
  refine Ev.pos (by omega) (Ev.bnd1 hm (Ev.bnd1 e1 (Ev.pos (by omega) ?_)))
  rw[w64 (by omega) (by omega)]
  exact e
theorem env_ok (l:List Int)(hl:Bs l)(sz:Int)(hsz:0≤sz∧sz≤4)(tb:List (List Int))(a sd:Int)(h0:0≤a)(h1:a≤2000000000000000000) :
  ∃ (r:List Int) (a' sd':Int),Ev (fun k=>spec_l1Cur_env.f k l a sd sz tb) (r,a',sd')∧r.length=12:=by
 obtain⟨r,a',sd',e,t1,_,_⟩:=env_l0 l hl sz hsz tb 12 0 [] a sd rfl rfl h0 (by omega)
 exact⟨r,a',sd',by simp only[spec_l1Cur_env.f];exact e,t1⟩
theorem DrawEvalIn_ok (l:List Int)(hl:Bs l):∃ (s:List Int) (sz:Int) (tb:List (List Int)) (t e:List Int),Ev (fun k=>spec_DrawEvalIn.f k l) (s,sz,tb,t,e)∧SR s∧(0≤sz∧sz≤4)∧WB tb∧t.length≤41∧e.length=12:=by
 obtain⟨s,a1,s1,e1,hs,q1,q2⟩:=sign_ok l hl 0 0 (by omega) (by omega)
 obtain⟨sz,tb,a2,s2,e2,v1,v2,v3,v4⟩:=world_ok l hl s hs a1 s1 (by omega) (by omega)
 obtain⟨t,a3,s3,e3,w1,w2,w3⟩:=anyTerm_ok l hl s hs a2 s2 (by omega) (by omega)
 obtain⟨e,a4,s4,e4,x1⟩:=env_ok l hl sz v1 tb a3 s3 (by omega) (by omega)
 refine⟨s,sz,tb,t,e,?_,hs,v1,v2,w1,x1⟩
 simp only[spec_DrawEvalIn.f]
 exact Ev.bnd1 e1 (Ev.bnd e2 (Ev.bnd e3 (Ev.bnd e4 (Ev.ret _))))
def LS (x:S83):Prop:=x.f1.length≤40∧x.f2.length≤40
theorem lit_ok (l:List Int)(hl:Bs l)(s:List Int)(hs:SR s)(a sd:Int)(h0:0≤a)(h1:a≤2000000000000000000) :
  ∃ (b:Bool) (t u:List Int) (a' sd':Int),Ev (fun k=>spec_l1Cur_lit.f k l a sd s) (b,t,u,a',sd')∧t.length≤40∧u.length≤40∧a≤a'∧a'≤a+400:=by
 obtain⟨b,a1,s1,e1,q1,q2⟩:=one_ok l hl a sd 3 h0 (by omega) (by omega)
 obtain⟨p,a2,s2,e2,p0,p1,q3,q4⟩:=pick_ok l hl a1 s1 3 (by omega) (by omega) (by omega)
 have hp:=p1 (by omega)
 obtain⟨t,a3,s3,e3,t1,t2,t3,t4⟩:=term_ok l hl s hs 3 (by omega) 2 a2 s2 (1+p) (by omega) (by omega) (by show a2+8*(13:Nat)≤_;omega) (by omega) (by omega)
 have t2':t.length≤13:=t2
 have t4':a3≤a2+8*(13:Nat):=t4
 obtain⟨q,a4,s4,e4,p0',p1',q5,q6⟩:=pick_ok l hl a3 s3 2 (by omega) (by omega) (by omega)
 have hq:=p1' (by omega)
 obtain⟨u,a5,s5,e5,u1,u2,u3,u4⟩:=term_ok l hl s hs 3 (by omega) 2 a4 s4 (1+q) (by omega) (by omega) (by show a4+8*(13:Nat)≤_;omega) (by omega) (by omega)
 have u2':u.length≤13:=u2
 have u4':a5≤a4+8*(13:Nat):=u4
 obtain⟨c,a6,s6,e6,q7,q8⟩:=one_ok l hl a5 s5 3 (by omega) (by omega) (by omega)
 have hw1:wrap64 (1+p)=1+p:=w64 (by omega) (by omega)
 have hw2:wrap64 (1+q)=1+q:=w64 (by omega) (by omega)
 have key:∀ R:Bool × List Int × List Int × Int × Int,Ev (fun k=>if c=true then some (!b,t,([0]:List Int),a6,s6) else some (!b,t,u,a6,s6)) R→Ev (fun k=>spec_l1Cur_lit.f k l a sd s) R:=fun R h=>by
  simp only[spec_l1Cur_lit.f]
  refine Ev.bnd1 e1 (Ev.bnd1 e2 ?_)
  simp only[hw1]
  refine Ev.bnd e3 (Ev.bnd1 e4 ?_)
  simp only[hw2]
  exact Ev.bnd e5 (Ev.bnd1 e6 h)
 clear hw1 hw2
 by_cases g:c=true
 ·exact⟨_,_,_,_,_,key _ (Ev.pos g (Ev.ret _)),by omega,by simp,by omega,by omega⟩
 ·exact⟨_,_,_,_,_,key _ (Ev.neg g (Ev.ret _)),by omega,by omega,by omega,by omega⟩
def CB (c:List S83)(n:Nat):Prop:=c.length≤n∧∀ x∈c,LS x
theorem CB_snoc {c:List S83} {n:Nat} (h:CB c n)(x:S83)(hx:LS x):CB (c++[x]) (n+1):=by
 refine⟨by have:=h.1;rw[List.length_append,List.length_singleton];omega,fun y hy=>?_⟩
 rcases List.mem_append.1 hy with hy | hy
 ·exact h.2 y hy
 ·rw[List.mem_singleton]at hy;rw[hy];exact hx
theorem CB_rd {c:List S83} {n:Nat} (h:CB c n)(i:Int):LS (rd_T83 c i):=by
 unfold rd_T83
 rw[List.getD_eq_getElem?_getD]
 cases e:c[i.toNat]? with
 | none=>exact⟨by decide,by decide⟩
 | some x=>exact h.2 x (List.mem_of_getElem? e)
def ClOK (l:List Int)(a:Int)(N:Int)(g:Nat→Option (List S83 × Int × Int)):Prop:=∃ (r:List S83) (a' sd':Int),Ev g (r,a',sd')∧CB r 12∧a≤a'∧a'≤N
theorem cl_l1 (l:List Int)(hl:Bs l)(s:List Int)(hs:SR s)(m:Nat):∀ (c:List S83) (a sd:Int),c.length+m=9→CB c 9→0≤a→a+500*m+2≤1000000000000000000→ClOK l a (a+500*m+2) (fun k=>spec_l1Cur_clause.l1 k c l a sd s):=by
 induction m with
 | zero=>
  intro c a sd hm hc h0 h1
  obtain⟨p,a1,s1,e1,p0,p1,q1,q2⟩:=pick_ok l hl a sd 2 h0 (by omega) (by omega)
  have hp:=p1 (by omega)
  refine⟨c,a1,s1,Ev.succ ?_,⟨by omega,hc.2⟩,by omega,by omega⟩
  simp only[spec_l1Cur_clause.l1]
  refine Ev.bnd1 e1 (Ev.neg ?_ (Ev.ret _))
  simp only
  rw[w64 (by omega) (by omega)];omega
 | succ m ih=>
  intro c a sd hm hc h0 h1
  obtain⟨p,a1,s1,e1,p0,p1,q1,q2⟩:=pick_ok l hl a sd 2 h0 (by omega) (by omega)
  have hp:=p1 (by omega)
  by_cases g:(c.length:Int)<8+p
  ·obtain⟨b,t,u,a2,s2,e2,t1,t2,q3,q4⟩:=lit_ok l hl s hs a1 s1 (by omega) (by omega)
   have hcs:=CB_snoc hc (⟨b,t,u⟩:S83) ⟨t1,t2⟩
   obtain⟨r,a',sd',e,r1,r2,r3⟩:=ih (c++[(⟨b,t,u⟩:S83)]) a2 s2 (by rw[List.length_append,List.length_singleton];omega) ⟨by rw[List.length_append,List.length_singleton];omega,hcs.2⟩ (by omega) (by omega)
   refine⟨r,a',sd',Ev.succ ?_,r1,by omega,by omega⟩
   simp only[spec_l1Cur_clause.l1]
   refine Ev.bnd1 e1 (Ev.pos ?_ (Ev.bnd e2 (Ev.pos (by omega) e)))
   simp only
   rw[w64 (by omega) (by omega)];exact g
  ·refine⟨c,a1,s1,Ev.succ ?_,⟨by omega,hc.2⟩,by omega,by omega⟩
   simp only[spec_l1Cur_clause.l1]
   refine Ev.bnd1 e1 (Ev.neg ?_ (Ev.ret _))
   simp only
   rw[w64 (by omega) (by omega)];exact g
theorem cl_j4 (l:List Int)(hl:Bs l)(s:List Int)(hs:SR s)(c:List S83)(hc:CB c 5)(a sd:Int)(h0:0≤a)(h1:a≤100000000000000000):ClOK l a (a+6000) (fun k=>spec_l1Cur_clause.j4 k c l a sd s):=by
 have hlen:=hc.1
 obtain⟨p,a1,s1,e1,p0,p1,q1,q2⟩:=pick_ok l hl a sd 60 h0 (by omega) (by omega)
 by_cases g0:p=0
 ·obtain⟨r,a',sd',e,r1,r2,r3⟩:=cl_l1 l hl s hs (9 - c.length) c a1 s1 (by omega) ⟨by omega,hc.2⟩ (by omega) (by omega)
  refine⟨r,a',sd',Ev.succ ?_,r1,by omega,by omega⟩
  simp only[spec_l1Cur_clause.j4]
  exact Ev.bnd1 e1 (Ev.pos g0 e)
 ·by_cases g1:p=1
  ·have hcs:=CB_snoc hc (⟨false,[0],[]⟩:S83) ⟨by decide,by decide⟩
   refine⟨_,a1,s1,Ev.succ ?_,⟨by have:=hcs.1;omega,hcs.2⟩,by omega,by omega⟩
   simp only[spec_l1Cur_clause.j4]
   exact Ev.bnd1 e1 (Ev.neg g0 (Ev.pos g1 (Ev.pos (by omega) (Ev.ret _))))
  ·refine⟨c,a1,s1,Ev.succ ?_,⟨by omega,hc.2⟩,by omega,by omega⟩
   simp only[spec_l1Cur_clause.j4]
   exact Ev.bnd1 e1 (Ev.neg g0 (Ev.neg g1 (Ev.ret _)))
theorem cl_j3 (l:List Int)(hl:Bs l)(s:List Int)(hs:SR s)(c:List S83)(hc:CB c 5)(b:Bool)(hb:b=true→0<c.length)(a sd:Int)(h0:0≤a)(h1:a≤100000000000000000):ClOK l a (a+6000) (fun k=>spec_l1Cur_clause.j3 k c b l a sd s):=by
 cases b with
 | true=>
  have hr:=CB_rd hc 0
  have hc2:CB (c.set (0:Int).toNat (⟨(rd_T83 c 0).f0,(rd_T83 c 0).f1,(rd_T83 c 0).f1⟩:S83)) 5:=⟨by rw[List.length_set];exact hc.1,fun x hx=>by
   rcases List.mem_or_eq_of_mem_set hx with h | h
   ·exact hc.2 x h
   ·rw[h];exact⟨hr.1,hr.1⟩⟩
  obtain⟨r,a',sd',e,t⟩:=cl_j4 l hl s hs _ hc2 a sd h0 h1
  refine⟨r,a',sd',Ev.succ ?_,t⟩
  simp only[spec_l1Cur_clause.j3]
  exact Ev.pos (by simp) (Ev.pos (by have:=hb rfl;omega) e)
 | false=>
  obtain⟨r,a',sd',e,t⟩:=cl_j4 l hl s hs c hc a sd h0 h1
  refine⟨r,a',sd',Ev.succ ?_,t⟩
  simp only[spec_l1Cur_clause.j3]
  exact Ev.neg (by simp) e
theorem cl_j2 (l:List Int)(hl:Bs l)(s:List Int)(hs:SR s)(c:List S83)(hc:CB c 5)(a sd:Int)(h0:0≤a)(h1:a≤90000000000000000):ClOK l a (a+6100) (fun k=>spec_l1Cur_clause.j2 k c l a sd s):=by
 by_cases g:(c.length:Int) > 0
 ·obtain⟨b,a1,s1,e1,q1,q2⟩:=one_ok l hl a sd 12 h0 (by omega) (by omega)
  obtain⟨r,a',sd',e,t1,t2,t3⟩:=cl_j3 l hl s hs c hc b (fun _=>by omega) a1 s1 (by omega) (by omega)
  refine⟨r,a',sd',Ev.succ ?_,t1,by omega,by omega⟩
  simp only[spec_l1Cur_clause.j2]
  exact Ev.pos g (Ev.bnd1 e1 e)
 ·obtain⟨r,a',sd',e,t1,t2,t3⟩:=cl_j3 l hl s hs c hc false (by simp) a sd (by omega) (by omega)
  refine⟨r,a',sd',Ev.succ ?_,t1,by omega,by omega⟩
  simp only[spec_l1Cur_clause.j2]
  exact Ev.neg g e
theorem cl_j1 (l:List Int)(hl:Bs l)(s:List Int)(hs:SR s)(c:List S83)(hc:CB c 4)(b:Bool)(hb:b=true→0<c.length)(a sd:Int)(h0:0≤a)(h1:a≤80000000000000000):ClOK l a (a+6200) (fun k=>spec_l1Cur_clause.j1 k c b l a sd s):=by
 have hlen:=hc.1
 cases b with
 | true=>
  have hpos:=hb rfl
  obtain⟨p,a1,s1,e1,p0,p1,q1,q2⟩:=pick_ok l hl a sd (c.length:Int) h0 (by omega) (by omega)
  have hp:=p1 (by omega)
  obtain⟨z,a2,s2,e2,q3,q4⟩:=one_ok l hl a1 s1 3 (by omega) (by omega) (by omega)
  have hr:=CB_rd hc p
  obtain⟨r,a',sd',e,t1,t2,t3⟩:=cl_j2 l hl s hs _ (CB_snoc hc (⟨((rd_T83 c p).f0 != z),(rd_T83 c p).f2,(rd_T83 c p).f1⟩:S83) ⟨hr.2,hr.1⟩) a2 s2 (by omega) (by omega)
  refine⟨r,a',sd',Ev.succ ?_,t1,by omega,by omega⟩
  simp only[spec_l1Cur_clause.j1]
  exact Ev.pos (by simp) (Ev.bnd1 e1 (Ev.pos p0 (Ev.pos hp (Ev.bnd1 e2 (Ev.pos (by omega) e)))))
 | false=>
  obtain⟨r,a',sd',e,t1,t2,t3⟩:=cl_j2 l hl s hs c ⟨by omega,hc.2⟩ a sd (by omega) (by omega)
  refine⟨r,a',sd',Ev.succ ?_,t1,by omega,by omega⟩
  simp only[spec_l1Cur_clause.j1]
  exact Ev.neg (by simp) e
theorem cl_l0 (l:List Int)(hl:Bs l)(s:List Int)(hs:SR s)(m:Nat):∀ (c:List S83) (n:Nat) (a sd:Int),n+m≤4→CB c n→0≤a→a+500*m≤70000000000000000→ClOK l a (a+500*m+6300) (fun k=>spec_l1Cur_clause.l0 k c (m:Int) l a sd s):=by
 induction m with
 | zero=>
  intro c n a sd hn hc h0 h1
  have hlen:=hc.1
  by_cases g:(c.length:Int) > 0
  ·obtain⟨b,a1,s1,e1,q1,q2⟩:=one_ok l hl a sd 6 h0 (by omega) (by omega)
   obtain⟨r,a',sd',e,t1,t2,t3⟩:=cl_j1 l hl s hs c ⟨by omega,hc.2⟩ b (fun _=>by omega) a1 s1 (by omega) (by omega)
   refine⟨r,a',sd',Ev.succ ?_,t1,by omega,by omega⟩
   simp only[spec_l1Cur_clause.l0]
   exact Ev.neg (by omega) (Ev.pos g (Ev.bnd1 e1 e))
  ·obtain⟨r,a',sd',e,t1,t2,t3⟩:=cl_j1 l hl s hs c ⟨by omega,hc.2⟩ false (by simp) a sd (by omega) (by omega)
   refine⟨r,a',sd',Ev.succ ?_,t1,by omega,by omega⟩
   simp only[spec_l1Cur_clause.l0]
   exact Ev.neg (by omega) (Ev.neg g e)
 | succ m ih=>
  intro c n a sd hn hc h0 h1
  have hlen:=hc.1
  obtain⟨b,t,u,a2,s2,e2,t1,t2,q3,q4⟩:=lit_ok l hl s hs a sd (by omega) (by omega)
  obtain⟨r,a',sd',e,r1,r2,r3⟩:=ih (c++[(⟨b,t,u⟩:S83)]) (n+1) a2 s2 (by omega) (CB_snoc hc _ ⟨t1,t2⟩) (by omega) (by omega)
  refine⟨r,a',sd',Ev.succ ?_,r1,by omega,by omega⟩
  simp only[spec_l1Cur_clause.l0]
  rw[w64 (x:=((m+1:Nat):Int) - 1) (by omega) (by omega),show ((m+1:Nat):Int) - 1=(m:Int) by omega]
  exact Ev.pos (by omega) (Ev.bnd e2 (Ev.pos (by omega) e))
theorem clause_ok (l:List Int)(hl:Bs l)(s:List Int)(hs:SR s)(a sd:Int)(h0:0≤a)(h1:a≤10000000000000000):ClOK l a (a+10000) (fun k=>spec_l1Cur_clause.f k l a sd s):=by
 obtain⟨x,a1,s1,e1,hx,q1,q2⟩:=among_ok l hl a sd [0,1,1,1,2,2,3] (by decide) h0 (by omega)
 have hx3:0≤x∧x≤3:=by simp at hx;omega
 obtain⟨m,hm⟩:∃ m:Nat,x=(m:Int):=⟨x.toNat,by omega⟩
 subst hm
 obtain⟨r,a',sd',e,t1,t2,t3⟩:=cl_l0 l hl s hs m [] 0 a1 s1 (by omega) ⟨by simp,by simp⟩ (by omega) (by omega)
 refine⟨r,a',sd',?_,t1,by omega,by omega⟩
 simp only[spec_l1Cur_clause.f]
 exact Ev.bnd1 e1 e
theorem DrawHoldsAt_ok (l:List Int)(hl:Bs l):∃ (s:List Int) (sz:Int) (tb:List (List Int)) (c:List S83) (e:List Int),Ev (fun k=>spec_DrawHoldsAt.f k l) (s,sz,tb,c,e)∧SR s∧(0≤sz∧sz≤4)∧WB tb∧CB c 12∧e.length=12:=by
 obtain⟨s,a1,s1,e1,hs,q1,q2⟩:=sign_ok l hl 0 0 (by omega) (by omega)
 obtain⟨sz,tb,a2,s2,e2,v1,v2,v3,v4⟩:=world_ok l hl s hs a1 s1 (by omega) (by omega)
 obtain⟨c,a3,s3,e3,w1,w2,w3⟩:=clause_ok l hl s hs a2 s2 (by omega) (by omega)
 obtain⟨e,a4,s4,e4,x1⟩:=env_ok l hl sz v1 tb a3 s3 (by omega) (by omega)
 refine⟨s,sz,tb,c,e,?_,hs,v1,v2,w1,x1⟩
 simp only[spec_DrawHoldsAt.f]
 exact Ev.bnd1 e1 (Ev.bnd e2 (Ev.bnd e3 (Ev.bnd e4 (Ev.ret _))))
structure WF (s:List Int) (sz:Nat) (tb:List (List Int)) (env:List Int):Prop where
 gs:goodSign s=true
 s1:1≤sz
 s3:sz≤3
 tl:tb.length=s.length
 tlen:∀ n:Nat,n<s.length→(rd_L2 tb (n:Int)).length=sz ^ (rd s (n:Int)).toNat
 tin:∀ n:Nat,n<s.length→∀ x∈rd_L2 tb (n:Int),0≤x∧x≤(sz:Int) - 1
 el:env.length=12
 ein:∀ x∈env,0≤x∧x≤(sz:Int) - 1
def evs (s:List Int)(sz:Nat)(tb:List (List Int))(env:List Int):Nat→Nat→Int→List Int→Int × List Int
 | 0,_,i,t=>(i,t)
 | _+1,0,i,t=>(i,t)
 | _+1,_+1,i,[]=>(i,[])
 | f+1,m+1,i,n :: t=>if n<0 then evs s sz tb env f m (i*sz+rd env (-1 - n)) t else evs s sz tb env f m (i*sz+rd (rd_L2 tb n) (evs s sz tb env f (ar s n) 0 t).1) (evs s sz tb env f (ar s n) 0 t).2
theorem rd_in (l:List Int)(lo hi:Int)(h:∀ x∈l,lo≤x∧x≤hi)(i:Int)(h0:0≤i)(h1:i<l.length):lo≤rd l i∧rd l i≤hi:=by
 unfold rd
 rw[List.getD_eq_getElem?_getD,List.getElem?_eq_getElem (by omega)]
 exact h _ (List.getElem_mem _)
theorem ar_neg (s:List Int)(n:Int)(h:n<0):ar s n=0:=by unfold ar;rw[if_pos h]
theorem WF_tab {s:List Int} {sz:Nat} {tb:List (List Int)} {env:List Int} (w:WF s sz tb env) {n:Int} (h0:0≤n)(ht:tok s n=true):n<s.length∧(rd_L2 tb n).length=sz ^ ar s n∧∀ x∈rd_L2 tb n,0≤x∧x≤(sz:Int) - 1:=by
 have hn:n<s.length:=by unfold tok at ht;simp only[decide_eq_true_eq]at ht;exact ht.2
 obtain⟨m,hm⟩:∃ m:Nat,n=(m:Int):=⟨n.toNat,by omega⟩
 subst hm
 refine⟨hn,?_,w.tin m (by omega)⟩
 rw[w.tlen m (by omega)]
 unfold ar
 rw[if_neg (by omega)]
theorem WF_env {s:List Int} {sz:Nat} {tb:List (List Int)} {env:List Int} (w:WF s sz tb env) {n:Int} (h0:n<0)(ht:tok s n=true):0 ≤ -1 - n ∧ -1 - n<env.length∧0≤rd env (-1 - n)∧rd env (-1 - n)≤(sz:Int) - 1:=by
 have hn:-12≤n:=by unfold tok at ht;simp only[decide_eq_true_eq]at ht;exact ht.1
 have hl:=w.el
 have:=rd_in env 0 _ w.ein (-1 - n) (by omega) (by omega)
 exact⟨by omega,by omega,this.1,this.2⟩
theorem step_in {sz:Nat} (h1:1≤sz) {i v:Int} {j:Nat} (hi:0≤i∧i<((sz ^ j:Nat):Int))(hv:0≤v∧v≤(sz:Int) - 1):0≤i*sz+v∧i*sz+v<((sz ^ (j+1):Nat):Int):=by
 obtain⟨a,ha⟩:∃ a:Nat,i=(a:Int):=⟨i.toNat,by omega⟩
 subst ha
 have h2:a+1≤sz ^ j:=by omega
 have h3:(a+1)*sz≤sz ^ j*sz:=Nat.mul_le_mul_right _ h2
 have e3:sz ^ (j+1)=sz ^ j*sz:=Nat.pow_succ ..
 rw[Nat.add_mul,Nat.one_mul,← e3]at h3
 have h4:(a:Int)*(sz:Int)=((a*sz:Nat):Int):=by push_cast;rfl
 rw[h4]
 constructor
 ·omega
 ·omega
theorem evs_ok {s:List Int} {sz:Nat} {tb:List (List Int)} {env:List Int} (w:WF s sz tb env)(f:Nat):∀ (m:Nat) (i:Int) (t r:List Int) (j:Nat),t.length≤f→eat s t m=some r→(0≤i∧i<((sz ^ j:Nat):Int)) →
  (evs s sz tb env f m i t).2=r∧0≤(evs s sz tb env f m i t).1∧(evs s sz tb env f m i t).1<((sz ^ (j+m):Nat):Int):=by
 induction f with
 | zero=>
  intro m i t r j hl he hi
  have ht:t=[]:=List.eq_nil_of_length_eq_zero (by omega)
  subst ht
  cases m with
  | zero=>simp only[eat,Option.some.injEq]at he;exact⟨he,hi.1,hi.2⟩
  | succ m=>simp[eat]at he
 | succ f ih=>
  intro m i t r j hl he hi
  cases m with
  | zero=>rw[eat_zero,Option.some.injEq]at he;exact⟨he,hi.1,hi.2⟩
  | succ m=>
   cases t with
   | nil=>simp[eat]at he
   | cons n t=>
    obtain⟨ht,he⟩:=eat_cons he
    simp only[List.length_cons]at hl
    simp only[evs]
    by_cases g:n<0
    ·rw[if_pos g]
     rw[ar_neg s n g,Nat.add_zero]at he
     obtain⟨_,_,v0,v1⟩:=WF_env w g ht
     have:=ih m (i*sz+rd env (-1 - n)) t r (j+1) (by omega) he (step_in w.s1 hi ⟨v0,v1⟩)
     rw[show j+1+m=j+(m+1) by omega]at this
     exact this
    ·rw[if_neg g]
     rw[Nat.add_comm]at he
     obtain⟨r1,e1,e2⟩:=eat_split s t (ar s n) m r he
     obtain⟨q1,q2,q3⟩:=ih (ar s n) 0 t r1 0 (by omega) e1 ⟨by omega,by simp⟩
     rw[Nat.zero_add]at q3
     obtain⟨hn,tl,tin⟩:=WF_tab w (by omega) ht
     have hv:=rd_in (rd_L2 tb n) 0 _ tin (evs s sz tb env f (ar s n) 0 t).1 q2 (by rw[tl];exact q3)
     obtain⟨c,hc⟩:=eat_suf s t _ _ e1
     have hlc:r1.length≤t.length:=by rw[hc,List.length_append];omega
     rw[q1]
     have:=ih m (i*sz+rd (rd_L2 tb n) (evs s sz tb env f (ar s n) 0 t).1) r1 r (j+1) (by omega) e2 (step_in w.s1 hi hv)
     rw[show j+1+m=j+(m+1) by omega]at this
     exact this
theorem small3 (sz j:Nat)(h:sz≤3)(hj:j≤3):sz ^ j≤27:=by
 calc sz ^ j≤3 ^ j:=Nat.pow_le_pow_left h j
  _≤3 ^ 3:=Nat.pow_le_pow_right (by omega) hj
  _=27:=by decide
theorem impl_eval_l0 {s:List Int} {sz:Nat} {tb:List (List Int)} {env:List Int} (w:WF s sz tb env)(f:Nat):∀ (m:Nat) (i:Int) (t r:List Int) (j:Nat) (pre:List Int) (n0:Int),t.length≤f→eat s t m=some r→(0≤i∧i<((sz ^ j:Nat):Int))→(pre++t).length≤1000000→0≤n0→tok s n0=true→ar s n0=j+m →
  Ev (fun k=>impl_Sign_eval.l0 k (pre++t) env n0 i (pre.length:Int) (rd s n0) (j:Int) s (sz:Int) tb) (rd (rd_L2 tb n0) (evs s sz tb env f m i t).1,((pre++t).length:Int) - (r.length:Int)):=by
 have fin:∀ (i:Int) (t:List Int) (j:Nat) (pre:List Int) (n0:Int),(0≤i∧i<((sz ^ j:Nat):Int))→0≤n0→tok s n0=true→ar s n0=j →
   Ev (fun k=>impl_Sign_eval.l0 k (pre++t) env n0 i (pre.length:Int) (rd s n0) (j:Int) s (sz:Int) tb) (rd (rd_L2 tb n0) i,((pre++t).length:Int) - (t.length:Int)):=by
  intro i t j pre n0 hi h0 ht ha
  obtain⟨hn,tl,tin⟩:=WF_tab w h0 ht
  have hr:=ar_rd w.gs h0 ht
  have htl:=w.tl
  refine Ev.succ ?_
  simp only[impl_Sign_eval.l0]
  exact Ev.neg (by rw[hr];omega) (Ev.pos h0 (Ev.pos (by rw[htl];exact hn) (Ev.pos hi.1 (Ev.pos (by rw[tl,ha];exact hi.2) (Ev.eq (Ev.ret _) (by rw[List.length_append];simp))))))
 induction f with
 | zero=>
  intro m i t r j pre n0 hl he hi hL h0 ht ha
  have htn:t=[]:=List.eq_nil_of_length_eq_zero (by omega)
  subst htn
  cases m with
  | zero=>simp only[eat,Option.some.injEq]at he;subst he;exact fin i [] j pre n0 hi h0 ht (by omega)
  | succ m=>simp[eat]at he
 | succ f ih=>
  intro m i t r j pre n0 hl he hi hL h0 ht ha
  cases m with
  | zero=>rw[eat_zero,Option.some.injEq]at he;subst he;exact fin i t j pre n0 hi h0 ht (by omega)
  | succ m=>
   cases t with
   | nil=>simp[eat]at he
   | cons n t=>
    obtain⟨htn,he⟩:=eat_cons he
    have hr:=ar_rd w.gs h0 ht
    have h3:=ar_le w.gs ht
    have hs3:=w.s3
    have hpw:=small3 sz j w.s3 (by omega)
    have hL':=hL
    simp only[List.length_append,List.length_cons]at hl hL'
    have hpp:pre++n :: t=(pre++[n])++t:=by simp
    have him:0≤i*(sz:Int)∧i*(sz:Int)≤81:=by
     obtain⟨a,ha'⟩:∃ a:Nat,i=(a:Int):=⟨i.toNat,by omega⟩
     subst ha'
     have h4:(a:Int)*(sz:Int)=((a*sz:Nat):Int):=by push_cast;rfl
     have h5:a*sz≤27*3:=Nat.mul_le_mul (by omega) hs3
     rw[h4]
     omega
    obtain⟨v,r1,hv,e1,e2,hev,hvs,hr1⟩:∃ (v:Int) (r1:List Int),(0≤v∧v≤(sz:Int) - 1)∧(∃ c,t=c++r1)∧eat s r1 m=some r∧Ev (fun k=>impl_Sign_eval.f k s (sz:Int) tb (pre++n :: t) (pre.length:Int) env) (v,((pre++n :: t).length:Int) - (r1.length:Int))∧(evs s sz tb env (f+1) (m+1) i (n :: t))=evs s sz tb env f m (i*sz+v) r1∧r1.length≤f:=by
     have hrd:rd (pre++n :: t) (pre.length:Int)=n:=rd_mid pre n t
     by_cases g:n<0
     ·rw[ar_neg s n g,Nat.add_zero]at he
      obtain⟨w0,w1,v0,v1⟩:=WF_env w g htn
      have hel:=w.el
      refine⟨rd env (-1 - n),t,⟨v0,v1⟩,⟨[],rfl⟩,he,Ev.succ ?_,by simp only[evs];rw[if_pos g],by omega⟩
      simp only[impl_Sign_eval.f,hrd]
      rw[w64 (x:=-1 - n) (by omega) (by omega),w64 (x:=(pre.length:Int)+1) (by omega) (by omega)]
      exact Ev.pos (by omega) (Ev.pos (by simp only[List.length_append,List.length_cons];omega) (Ev.pos g (Ev.pos w0 (Ev.pos w1 (Ev.eq (Ev.ret _) (by simp only[List.length_append,List.length_cons,Prod.mk.injEq,true_and];omega))))))
     ·rw[Nat.add_comm]at he
      obtain⟨r1,e1,e2⟩:=eat_split s t (ar s n) m r he
      obtain⟨q1,q2,q3⟩:=evs_ok w f (ar s n) 0 t r1 0 (by omega) e1 ⟨by omega,by simp⟩
      rw[Nat.zero_add]at q3
      obtain⟨hn,tl,tin⟩:=WF_tab w (by omega) htn
      have hv:=rd_in (rd_L2 tb n) 0 _ tin (evs s sz tb env f (ar s n) 0 t).1 q2 (by rw[tl];exact q3)
      have hc:=eat_suf s t _ _ e1
      have hlc:r1.length≤t.length:=by obtain⟨c,hc⟩:=hc;rw[hc,List.length_append];omega
      have hi2:=ih (ar s n) 0 t r1 0 (pre++[n]) n (by omega) e1 ⟨by omega,by simp⟩ (by rw[← hpp];exact hL) (by omega) htn (by omega)
      rw[← hpp]at hi2
      refine⟨_,r1,hv,hc,e2,Ev.succ ?_,by simp only[evs];rw[if_neg g,q1],by omega⟩
      simp only[impl_Sign_eval.f,hrd]
      rw[w64 (x:=(pre.length:Int)+1) (by omega) (by omega)]
      refine Ev.pos (by omega) (Ev.pos (by simp only[List.length_append,List.length_cons];omega) (Ev.neg g (Ev.bnd1 (impl_args_eq s w.gs n htn) ?_)))
      rw[ar_rd w.gs (by omega) htn]at hi2
      simpa using hi2
    obtain⟨c,hc⟩:=e1
    have hT:pre++n :: t=(pre++n :: c)++r1:=by rw[hc];simp
    have hpl:((pre++n :: t).length:Int) - (r1.length:Int)=((pre++n :: c).length:Int):=by rw[hT,List.length_append];omega
    have hi3:=ih m (i*sz+v) r1 r (j+1) (pre++n :: c) n0 hr1 e2 (step_in w.s1 hi hv) (by rw[← hT];exact hL) h0 ht (by omega)
    rw[← hT]at hi3
    refine Ev.succ ?_
    simp only[impl_Sign_eval.l0]
    rw[w64 (x:=(j:Int)+1) (by omega) (by omega),w64 (x:=i*(sz:Int)) (by omega) (by omega)]
    refine Ev.pos (by rw[hr];omega) (Ev.bnd hev ?_)
    simp only
    rw[w64 (x:=i*(sz:Int)+v) (by omega) (by omega),hpl,hvs]
    exact hi3
theorem impl_value_ev {s:List Int} {sz:Nat} {tb:List (List Int)} {env:List Int} (w:WF s sz tb env)(t:List Int)(ht:isTerm s t=true):Ev (fun k=>impl_Sign_value.f k s (sz:Int) tb t env) (evs s sz tb env t.length 1 0 t).1:=by
 unfold isTerm at ht
 simp only[Bool.and_eq_true,decide_eq_true_eq,beq_iff_eq]at ht
 obtain⟨⟨hl1,hl2⟩,he⟩:=ht
 cases t with
 | nil=>simp at hl1
 | cons n t=>
  obtain⟨htn,he⟩:=eat_cons he
  simp only[List.length_cons]at hl2
  simp only[impl_Sign_value.f,List.length_cons,evs]
  by_cases g:n<0
  ·rw[ar_neg s n g,Nat.add_zero,eat_zero]at he
   have htn0:t=[]:=Option.some.inj he
   subst htn0
   obtain⟨w0,w1,v0,v1⟩:=WF_env w g htn
   have hel:=w.el
   refine Ev.bnd (a:=(rd env (-1 - n),1)) (Ev.succ ?_) (Ev.eq (Ev.ret _) ?_)
   ·simp only[impl_Sign_eval.f]
    have hrd:rd [n] 0=n:=rfl
    simp only[hrd]
    rw[w64 (x:=-1 - n) (by omega) (by omega),w64 (x:=(0:Int)+1) (by omega) (by omega)]
    exact Ev.pos (by omega) (Ev.pos (by simp) (Ev.pos g (Ev.pos w0 (Ev.pos w1 (Ev.ret _)))))
   ·rw[if_pos g];simp[evs]
  ·rw[Nat.zero_add]at he
   have h:=impl_eval_l0 w t.length (ar s n) 0 t [] 0 [n] n (Nat.le_refl _) he ⟨by omega,by simp⟩ (by simp;omega) (by omega) htn (by omega)
   refine Ev.bnd (a:=(rd (rd_L2 tb n) (evs s sz tb env t.length (ar s n) 0 t).1,(([n]++t).length:Int) - (([]:List Int).length:Int))) (Ev.succ ?_) (Ev.eq (Ev.ret _) ?_)
   ·simp only[impl_Sign_eval.f]
    have hrd:rd (n :: t) 0=n:=rfl
    simp only[hrd]
    rw[w64 (x:=(0:Int)+1) (by omega) (by omega)]
    refine Ev.pos (by omega) (Ev.pos (by simp only[List.length_cons];omega) (Ev.neg g (Ev.bnd1 (impl_args_eq s w.gs n htn) ?_)))
    rw[ar_rd w.gs (by omega) htn]at h
    simpa using h
   ·rw[if_neg g]
    have q:=evs_ok w t.length (ar s n) 0 t [] 0 (Nat.le_refl _) he ⟨by omega,by simp⟩
    rw[q.1]
    cases t.length <;> simp[evs]
def poss (s:List Int):Nat→Nat→List Int→List Int
 | 0,_,_=>[]
 | m+1,o,t=>match eat s t 1 with
  | some r=>(o:Int) :: poss s m (o+(t.length - r.length)) r
  | none=>[]
theorem args_l0 {s:List Int} (hs:goodSign s=true)(m:Nat):∀ (pre t r acc:List Int),eat s t m=some r→(pre++t).length≤1000000→acc.length+m≤1000→m≤3 →
  Ev (fun k=>spec_l1Args.l0 k (pre++t) acc (pre.length:Int) (m:Int) s) (acc++poss s m pre.length t):=by
 induction m with
 | zero=>
  intro pre t r acc _ _ _ _
  refine Ev.succ ?_
  simp only[spec_l1Args.l0,poss,List.append_nil]
  exact Ev.neg (by omega) (Ev.ret _)
 | succ m ih=>
  intro pre t r acc he hl ha hm
  rw[Nat.add_comm]at he
  obtain⟨r1,e1,e2⟩:=eat_split s t 1 m r he
  obtain⟨c,hc⟩:=eat_suf s t _ _ e1
  have hE:=spec_l1End_ev s hs pre t (by omega)
  rw[e1]at hE
  simp only at hE
  have hT:pre++t=(pre++c)++r1:=by rw[hc];simp
  have hlc:t.length=c.length+r1.length:=by rw[hc,List.length_append]
  have hpl:((pre++t).length:Int) - (r1.length:Int)=((pre++c).length:Int):=by rw[hT,List.length_append];omega
  have h:=ih (pre++c) r1 r (acc++[(pre.length:Int)]) e2 (by rw[← hT];exact hl) (by rw[List.length_append,List.length_singleton];omega) (by omega)
  rw[← hT]at h
  refine Ev.succ ?_
  simp only[spec_l1Args.l0]
  rw[w64 (x:=((m+1:Nat):Int) - 1) (by omega) (by omega),show ((m+1:Nat):Int) - 1=(m:Int) by omega]
  refine Ev.pos (by omega) (Ev.pos (by omega) (Ev.bnd hE ?_))
  rw[hpl]
  refine Ev.eq h ?_
  simp only[poss,e1]
  rw[show t.length - r1.length=c.length by omega,List.length_append]
  simp
theorem poss_len {s:List Int} (m:Nat):∀ (o:Nat) (t r:List Int),eat s t m=some r→(poss s m o t).length=m:=by
 induction m with
 | zero=>intro o t r _;rfl
 | succ m ih=>
  intro o t r he
  rw[Nat.add_comm]at he
  obtain⟨r1,e1,e2⟩:=eat_split s t 1 m r he
  simp only[poss,e1,List.length_cons,ih _ _ _ e2]
theorem spec_eval_l0 {s:List Int} {sz:Nat} {tb:List (List Int)} {env:List Int} (w:WF s sz tb env)(f:Nat):∀ (m:Nat) (i:Int) (t r:List Int) (pre done T:List Int) (n0 a:Int),T=pre++t→t.length≤f→eat s t m=some r→(0≤i∧i<((sz ^ done.length:Nat):Int))→T.length≤1000000→0≤n0→tok s n0=true→ar s n0=done.length+m→(0≤a∧a<T.length∧rd T a=n0) →
  Ev (fun k=>spec_l5Eval.l0 k T a env i (done++poss s m pre.length t) ((done++poss s m pre.length t).length:Int) (done.length:Int) s (sz:Int) tb) (rd (rd_L2 tb n0) (evs s sz tb env f m i t).1):=by
 have fin:∀ (i:Int) (done T:List Int) (n0 a:Int),(0≤i∧i<((sz ^ done.length:Nat):Int))→0≤n0→tok s n0=true→ar s n0=done.length→(0≤a∧a<T.length∧rd T a=n0) →
   Ev (fun k=>spec_l5Eval.l0 k T a env i (done++[]) ((done++[]).length:Int) (done.length:Int) s (sz:Int) tb) (rd (rd_L2 tb n0) i):=by
  intro i done T n0 a hi h0 ht ha hT
  obtain⟨hn,tl,tin⟩:=WF_tab w h0 ht
  have htl:=w.tl
  refine Ev.succ ?_
  simp only[spec_l5Eval.l0,List.append_nil,hT.2.2]
  exact Ev.neg (by omega) (Ev.pos hT.1 (Ev.pos hT.2.1 (Ev.pos h0 (Ev.pos (by rw[htl];exact hn) (Ev.pos hi.1 (Ev.pos (by rw[tl,ha];exact hi.2) (Ev.ret _)))))))
 induction f with
 | zero=>
  intro m i t r pre done T n0 a hTe hl he hi hL h0 ht ha hA
  have htn:t=[]:=List.eq_nil_of_length_eq_zero (by omega)
  subst htn
  cases m with
  | zero=>exact fin i done T n0 a hi h0 ht (by omega) hA
  | succ m=>simp[eat]at he
 | succ f ih=>
  intro m i t r pre done T n0 a hTe hl he hi hL h0 ht ha hA
  cases m with
  | zero=>exact fin i done T n0 a hi h0 ht (by omega) hA
  | succ m=>
   cases t with
   | nil=>simp[eat]at he
   | cons n t=>
    have he0:=he
    rw[Nat.add_comm]at he0
    obtain⟨r1',f1,f2⟩:=eat_split s (n :: t) 1 m r he0
    obtain⟨htn,he⟩:=eat_cons he
    have h3:=ar_le w.gs ht
    have hs3:=w.s3
    have hpw:=small3 sz done.length w.s3 (by omega)
    subst hTe
    have hL':=hL
    simp only[List.length_append,List.length_cons]at hl hL'
    have hpp:pre++n :: t=(pre++[n])++t:=by simp
    have him:0≤i*(sz:Int)∧i*(sz:Int)≤81:=by
     obtain⟨a,ha'⟩:∃ a:Nat,i=(a:Int):=⟨i.toNat,by omega⟩
     subst ha'
     have h4:(a:Int)*(sz:Int)=((a*sz:Nat):Int):=by push_cast;rfl
     have h5:a*sz≤27*3:=Nat.mul_le_mul (by omega) hs3
     rw[h4]
     omega
    have hrd:rd (pre++n :: t) (pre.length:Int)=n:=rd_mid pre n t
    obtain⟨v,r1,hv,e1,e2,hev,hvs,hr1,hrr⟩:∃ (v:Int) (r1:List Int),(0≤v∧v≤(sz:Int) - 1)∧(∃ c,t=c++r1)∧eat s r1 m=some r∧Ev (fun k=>spec_l5Eval.f k s (sz:Int) tb (pre++n :: t) (pre.length:Int) env) v∧(evs s sz tb env (f+1) (m+1) i (n :: t))=evs s sz tb env f m (i*sz+v) r1∧r1.length≤f∧r1'=r1:=by
     have hf1:=f1
     simp only[eat]at hf1
     rw[if_pos htn,Nat.zero_add]at hf1
     by_cases g:n<0
     ·rw[ar_neg s n g,Nat.add_zero]at he
      rw[ar_neg s n g,eat_zero,Option.some.injEq]at hf1
      obtain⟨w0,w1,v0,v1⟩:=WF_env w g htn
      have hel:=w.el
      refine⟨rd env (-1 - n),t,⟨v0,v1⟩,⟨[],rfl⟩,he,Ev.succ ?_,by simp only[evs];rw[if_pos g],by omega,hf1.symm⟩
      simp only[spec_l5Eval.f,hrd]
      rw[w64 (x:=-1 - n) (by omega) (by omega)]
      exact Ev.pos (by omega) (Ev.pos (by simp only[List.length_append,List.length_cons];omega) (Ev.pos g (Ev.pos w0 (Ev.pos w1 (Ev.ret _)))))
     ·rw[Nat.add_comm]at he
      obtain⟨r1,e1,e2⟩:=eat_split s t (ar s n) m r he
      obtain⟨q1,q2,q3⟩:=evs_ok w f (ar s n) 0 t r1 0 (by omega) e1 ⟨by omega,by simp⟩
      rw[Nat.zero_add]at q3
      obtain⟨hn,tl,tin⟩:=WF_tab w (by omega) htn
      have hv:=rd_in (rd_L2 tb n) 0 _ tin (evs s sz tb env f (ar s n) 0 t).1 q2 (by rw[tl];exact q3)
      have hc:=eat_suf s t _ _ e1
      have hlc:r1.length≤t.length:=by obtain⟨c,hc⟩:=hc;rw[hc,List.length_append];omega
      have har:=ar_le w.gs htn
      have hA2:=args_l0 w.gs (ar s n) (pre++[n]) t r1 [] e1 (by rw[← hpp];exact hL) (by simp only[List.length_nil];omega) har
      have hi2:=ih (ar s n) 0 t r1 (pre++[n]) [] (pre++n :: t) n (pre.length:Int) hpp (by omega) e1 ⟨by omega,by simp⟩ hL (by omega) htn (by simp) ⟨by omega,by simp only[List.length_append,List.length_cons];omega,hrd⟩
      rw[← hpp]at hA2
      simp only[List.length_append,List.length_singleton,List.nil_append]at hA2
      simp only[List.length_append,List.length_singleton,List.nil_append,List.length_nil]at hi2
      have hAf:Ev (fun k=>spec_l1Args.f k s (pre++n :: t) (pre.length:Int)) (poss s (ar s n) (pre.length+1) t):=by
       simp only[spec_l1Args.f,hrd]
       rw[w64 (x:=(pre.length:Int)+1) (by omega) (by omega),ar_rd w.gs (by omega) htn]
       exact Ev.pos (by omega) (Ev.pos (by simp only[List.length_append,List.length_cons];omega) (Ev.neg g (Ev.pos (by omega) (Ev.pos hn (by simpa using hA2)))))
      refine⟨_,r1,hv,hc,e2,Ev.succ ?_,by simp only[evs];rw[if_neg g,q1],by omega,?_⟩
      ·simp only[spec_l5Eval.f,hrd]
       exact Ev.pos (by omega) (Ev.pos (by simp only[List.length_append,List.length_cons];omega) (Ev.neg g (Ev.bnd hAf (by simpa using hi2))))
      ·rw[hf1]at e1
       exact Option.some.inj e1
    subst hrr
    obtain⟨c,hc⟩:=e1
    have hT:pre++n :: t=(pre++n :: c)++r1':=by rw[hc];simp
    have hlc:t.length=c.length+r1'.length:=by rw[hc,List.length_append]
    have hi3:=ih m (i*sz+v) r1' r (pre++n :: c) (done++[(pre.length:Int)]) (pre++n :: t) n0 a hT hr1 e2 (by rw[List.length_append,List.length_singleton];exact step_in w.s1 hi hv) hL h0 ht (by rw[List.length_append,List.length_singleton];omega) hA
    have hps:poss s (m+1) pre.length (n :: t)=(pre.length:Int) :: poss s m (pre++n :: c).length r1':=by
     simp only[poss,f1]
     rw[show (n :: t).length - r1'.length=(n :: c).length by simp only[List.length_cons];omega,List.length_append]
    rw[hps]
    have hlp:=poss_len m (pre++n :: c).length r1' r e2
    have hidx:rd (done++(pre.length:Int) :: poss s m (pre++n :: c).length r1') (done.length:Int)=(pre.length:Int):=rd_mid _ _ _
    refine Ev.succ ?_
    simp only[spec_l5Eval.l0,hidx]
    rw[w64 (x:=(done.length:Int)+1) (by omega) (by omega),w64 (x:=i*(sz:Int)) (by omega) (by omega)]
    refine Ev.pos (by simp only[List.length_append,List.length_cons];omega) (Ev.pos (by omega) (Ev.pos (by simp only[List.length_append,List.length_cons];omega) (Ev.bnd hev ?_)))
    rw[w64 (x:=i*(sz:Int)+v) (by omega) (by omega),hvs]
    simpa using hi3
theorem spec_value_ev {s:List Int} {sz:Nat} {tb:List (List Int)} {env:List Int} (w:WF s sz tb env)(t:List Int)(ht:isTerm s t=true):Ev (fun k=>spec_l5Eval.f k s (sz:Int) tb t 0 env) (evs s sz tb env t.length 1 0 t).1:=by
 unfold isTerm at ht
 simp only[Bool.and_eq_true,decide_eq_true_eq,beq_iff_eq]at ht
 obtain⟨⟨hl1,hl2⟩,he⟩:=ht
 cases t with
 | nil=>simp at hl1
 | cons n t=>
  obtain⟨htn,he⟩:=eat_cons he
  simp only[List.length_cons]at hl2
  simp only[List.length_cons,evs]
  have hrd:rd (n :: t) 0=n:=rfl
  by_cases g:n<0
  ·rw[ar_neg s n g,Nat.add_zero,eat_zero]at he
   have htn0:t=[]:=Option.some.inj he
   subst htn0
   obtain⟨w0,w1,v0,v1⟩:=WF_env w g htn
   have hel:=w.el
   refine Ev.succ ?_
   simp only[spec_l5Eval.f,hrd]
   rw[w64 (x:=-1 - n) (by omega) (by omega)]
   refine Ev.pos (by omega) (Ev.pos (by simp) (Ev.pos g (Ev.pos w0 (Ev.pos w1 (Ev.eq (Ev.ret _) ?_)))))
   rw[if_pos g];simp[evs]
  ·rw[Nat.zero_add]at he
   obtain⟨hn,tl,tin⟩:=WF_tab w (by omega) htn
   have har:=ar_le w.gs htn
   have hA2:=args_l0 w.gs (ar s n) [n] t [] [] he (by simp;omega) (by simp;omega) har
   have h:=spec_eval_l0 w t.length (ar s n) 0 t [] [n] [] (n :: t) n 0 rfl (Nat.le_refl _) he ⟨by omega,by simp⟩ (by simp only[List.length_cons];omega) (by omega) htn (by simp) ⟨by omega,by simp only[List.length_cons];omega,hrd⟩
   have hAf:Ev (fun k=>spec_l1Args.f k s (n :: t) 0) (poss s (ar s n) 1 t):=by
    simp only[spec_l1Args.f,hrd]
    rw[w64 (x:=(0:Int)+1) (by omega) (by omega),ar_rd w.gs (by omega) htn]
    exact Ev.pos (by omega) (Ev.pos (by simp only[List.length_cons];omega) (Ev.neg g (Ev.pos (by omega) (Ev.pos hn (by simpa using hA2)))))
   refine Ev.succ ?_
   simp only[spec_l5Eval.f,hrd]
   refine Ev.pos (by omega) (Ev.pos (by simp only[List.length_cons];omega) (Ev.neg g (Ev.bnd hAf (Ev.eq (by simpa using h) ?_))))
   rw[if_neg g]
   have q:=evs_ok w t.length (ar s n) 0 t [] 0 (Nat.le_refl _) he ⟨by omega,by simp⟩
   rw[q.1]
   cases t.length <;> simp[evs]
def wTail (s:List Int)(n:Nat)(tb:List (List Int)):Nat→Nat→Bool
 | 0,_=>true
 | m+1,i=>if (rd_L2 tb (i:Int)).length=n ^ (rd s (i:Int)).toNat then (if inAll 0 ((n:Int) - 1) (rd_L2 tb (i:Int))=true then wTail s n tb m (i+1) else false) else false
def wOk (s:List Int)(sz:Int)(tb:List (List Int)):Bool:=if 1≤sz∧sz≤3 then (if tb.length=s.length then wTail s sz.toNat tb s.length 0 else false) else false
def goodWorld (s:List Int)(sz:Int)(tb:List (List Int)):Bool:=goodSign s && wOk s sz tb
def isEnv (sz:Int)(l:List Int):Bool:=decide (l.length=12) && inAll 0 (sz - 1) l
theorem wTail_of {s:List Int} {n:Nat} {tb:List (List Int)} (m:Nat):∀ i:Nat,wTail s n tb m i=true→∀ j:Nat,i≤j→j<i+m→(rd_L2 tb (j:Int)).length=n ^ (rd s (j:Int)).toNat∧inAll 0 ((n:Int) - 1) (rd_L2 tb (j:Int))=true:=by
 induction m with
 | zero=>intro i _ j h1 h2;omega
 | succ m ih=>
  intro i h j h1 h2
  simp only[wTail]at h
  split at h
  ·rename_i g1
   split at h
   ·rename_i g2
    by_cases e:j=i
    ·subst e;exact⟨g1,g2⟩
    ·exact ih (i+1) h j (by omega) (by omega)
   ·simp at h
  ·simp at h
theorem WF_mk {s:List Int} {sz:Int} {tb:List (List Int)} {env:List Int} (h:goodWorld s sz tb=true)(he:isEnv sz env=true):∃ n:Nat,sz=(n:Int)∧WF s n tb env:=by
 unfold goodWorld at h
 rw[Bool.and_eq_true]at h
 obtain⟨hs,h⟩:=h
 unfold wOk at h
 unfold isEnv at he
 rw[Bool.and_eq_true,decide_eq_true_eq]at he
 split at h
 ·rename_i g
  split at h
  ·rename_i g2
   obtain⟨n,hn⟩:∃ n:Nat,sz=(n:Int):=⟨sz.toNat,by omega⟩
   subst hn
   rw[Int.toNat_natCast]at h
   have:=wTail_of s.length 0 h
   exact⟨n,rfl,⟨hs,by omega,by omega,g2,fun j hj=>(this j (by omega) (by omega)).1,fun j hj=>inAll_mem (this j (by omega) (by omega)).2,he.1,inAll_mem he.2⟩⟩
  ·simp at h
 ·simp at h
theorem entries_l0 (n:Nat)(hn:n≤4)(m:Nat):∀ j i:Nat,j+m≤3→i+m≤100→Ev (fun k=>impl_entries.l0 k (n:Int) ((n ^ j:Nat):Int) ((i+m:Nat):Int) (i:Int)) ((n ^ (j+m):Nat):Int):=by
 induction m with
 | zero=>
  intro j i _ _
  refine Ev.succ ?_
  simp only[impl_entries.l0]
  exact Ev.neg (by omega) (Ev.ret _)
 | succ m ih=>
  intro j i hj hi
  have h:=ih (j+1) (i+1) (by omega) (by omega)
  have hp:=pw_le n (j+1) hn (by omega)
  have hm:((n ^ j:Nat):Int)*(n:Int)=((n ^ (j+1):Nat):Int):=by rw[Nat.pow_succ];push_cast;rfl
  refine Ev.succ ?_
  simp only[impl_entries.l0]
  rw[hm,w64 (x:=((n ^ (j+1):Nat):Int)) (by omega) (by omega),w64 (x:=(i:Int)+1) (by omega) (by omega)]
  rw[show i+1+m=i+(m+1) by omega,show j+1+m=j+(m+1) by omega]at h
  exact Ev.pos (by omega) h
theorem entries_ok (n:Nat)(hn:n≤4)(x:Int)(h0:0≤x)(h1:x≤3):Ev (fun k=>impl_entries.f k (n:Int) x) ((n ^ x.toNat:Nat):Int):=by
 have:=entries_l0 n hn x.toNat 0 0 (by omega) (by omega)
 simp only[impl_entries.f]
 rw[Nat.zero_add,Int.toNat_of_nonneg h0]at this
 exact this
theorem areElements_eq (sz:Int)(l:List Int):impl_areElements.f sz l=some (inAll 0 (sz - 1) l):=by
 unfold impl_areElements.f impl_areElements_1_any.f
 rw[anyO_not _ (fun x=>decide (0≤x∧x≤sz - 1)) l (fun x _=>by
  unfold impl_areElements_1.f
  by_cases h1:x<0
  ·rw[if_pos h1,decide_eq_false (by omega)];rfl
  ·rw[if_neg h1]
   by_cases h2:x≥sz
   ·rw[decide_eq_true h2,decide_eq_false (by omega)];rfl
   ·rw[decide_eq_false h2,decide_eq_true (by omega)];rfl)]
 simp[inAll]
theorem impl_world_l0 (s:List Int)(hs:goodSign s=true)(n:Nat)(hn:n≤3)(tb:List (List Int))(ht:tb.length=s.length)(m:Nat):∀ i:Nat,i+m=tb.length→Ev (fun k=>impl_Sign_isWorld.l0 k tb (tb.length:Int) (i:Int) s (n:Int) tb) (wTail s n tb m i):=by
 have hl:=goodSign_len hs
 induction m with
 | zero=>
  intro i hi
  refine Ev.succ ?_
  simp only[impl_Sign_isWorld.l0]
  exact Ev.neg (by omega) (Ev.ret _)
 | succ m ih=>
  intro i hi
  have hr:=goodSign_rd hs (i:Int) (by omega) (by omega)
  have hE:=entries_ok n (by omega) (rd s (i:Int)) hr.1 hr.2
  refine Ev.succ ?_
  simp only[impl_Sign_isWorld.l0,wTail]
  refine Ev.pos (by omega) (Ev.pos (by omega) (Ev.pos (by omega) (Ev.pos (by omega) (Ev.bnd hE ?_))))
  by_cases g:(rd_L2 tb (i:Int)).length=n ^ (rd s (i:Int)).toNat
  ·rw[if_pos g]
   refine Ev.pos (by omega) (Ev.bnd1 (areElements_eq _ _) ?_)
   by_cases g2:inAll 0 ((n:Int) - 1) (rd_L2 tb (i:Int))=true
   ·rw[if_pos g2]
    refine Ev.pos g2 ?_
    rw[w64 (by omega) (by omega)]
    exact ih (i+1) (by omega)
   ·rw[if_neg g2];exact Ev.neg g2 (Ev.ret _)
  ·rw[if_neg g];exact Ev.neg (by omega) (Ev.ret _)
theorem impl_GoodWorld_ev (s:List Int)(sz:Int)(tb:List (List Int)):Ev (fun k=>impl_GoodWorld.f k s sz tb) (goodWorld s sz tb):=by
 unfold goodWorld wOk
 simp only[impl_GoodWorld.f]
 refine Ev.bnd1 (impl_GoodSign_eq s) ?_
 by_cases gs:goodSign s=true
 ·rw[gs,Bool.true_and]
  have hz:impl_isSize.f sz=some (decide (1≤sz∧sz≤3)):=by
   unfold impl_isSize.f
   by_cases h1:sz≥1
   ·rw[if_pos h1]
    by_cases h2:sz≤3
    ·rw[decide_eq_true h2,decide_eq_true ⟨h1,h2⟩]
    ·rw[decide_eq_false h2,decide_eq_false (fun q=>h2 q.2)]
   ·rw[if_neg h1,decide_eq_false (fun q=>h1 q.1)]
  have hf:∀ b:Bool,b=true→Ev (fun k=>impl_Sign_isWorld.j0 k b s sz tb) false:=fun b hb=>by
   subst hb
   refine Ev.succ ?_
   simp only[impl_Sign_isWorld.j0]
   exact Ev.pos (by simp) (Ev.ret _)
  refine Ev.pos rfl (Ev.bnd (a:=(if 1≤sz∧sz≤3 then (if tb.length=s.length then wTail s sz.toNat tb s.length 0 else false) else false)) ?_ (Ev.ret _))
  simp only[impl_Sign_isWorld.f]
  refine Ev.bnd1 hz ?_
  by_cases g:1≤sz∧sz≤3
  ·rw[if_pos g]
   refine Ev.pos (decide_eq_true g) ?_
   by_cases g2:tb.length=s.length
   ·rw[if_pos g2]
    refine Ev.succ ?_
    simp only[impl_Sign_isWorld.j0]
    refine Ev.neg (by simp[g2]) ?_
    obtain⟨n,hn⟩:∃ n:Nat,sz=(n:Int):=⟨sz.toNat,by omega⟩
    subst hn
    rw[Int.toNat_natCast,← g2]
    exact impl_world_l0 s gs n (by omega) tb g2 tb.length 0 (by omega)
   ·rw[if_neg g2]
    exact hf _ (by simp[g2];omega)
  ·rw[if_neg g]
   exact Ev.neg (by rw[decide_eq_false g];simp) (hf _ rfl)
 ·rw[Bool.eq_false_iff.2 gs,Bool.false_and]
  exact Ev.neg (by simp) (Ev.ret _)
theorem spec_world_l0 (s:List Int)(hs:goodSign s=true)(n:Nat)(h1:1≤n)(hn:n≤3)(tb:List (List Int))(ht:tb.length=s.length)(hx:∀ x∈tb,x.length≤1000)(m:Nat):∀ i:Nat,i+m=tb.length→Ev (fun k=>spec_l5World.l0 k tb (tb.length:Int) (i:Int) s (n:Int) tb) (wTail s n tb m i):=by
 have hl:=goodSign_len hs
 induction m with
 | zero=>
  intro i hi
  refine Ev.succ ?_
  simp only[spec_l5World.l0]
  exact Ev.neg (by omega) (Ev.ret _)
 | succ m ih=>
  intro i hi
  have hr:=goodSign_rd hs (i:Int) (by omega) (by omega)
  have hE:=long_ok n (by omega) (rd s (i:Int)) hr.1 hr.2
  have hxl:(rd_L2 tb (i:Int)).length≤1000:=by
   unfold rd_L2
   rw[List.getD_eq_getElem?_getD]
   cases e:tb[(i:Int).toNat]? with
   | none=>simp
   | some x=>exact hx x (List.mem_of_getElem? e)
  refine Ev.succ ?_
  simp only[spec_l5World.l0,wTail]
  rw[w64 (x:=(n:Int) - 1) (by omega) (by omega)]
  refine Ev.pos (by omega) (Ev.pos (by omega) (Ev.pos (by omega) (Ev.pos (by omega) (Ev.bnd hE ?_))))
  by_cases g:(rd_L2 tb (i:Int)).length=n ^ (rd s (i:Int)).toNat
  ·rw[if_pos g]
   refine Ev.pos (by omega) (Ev.bnd (spec_l1All_ev 0 ((n:Int) - 1) (rd_L2 tb (i:Int)) (by omega)) ?_)
   by_cases g2:inAll 0 ((n:Int) - 1) (rd_L2 tb (i:Int))=true
   ·rw[if_pos g2]
    refine Ev.pos g2 ?_
    rw[w64 (by omega) (by omega)]
    exact ih (i+1) (by omega)
   ·rw[if_neg g2];exact Ev.neg g2 (Ev.ret _)
  ·rw[if_neg g];exact Ev.neg (by omega) (Ev.ret _)
theorem spec_GoodWorld_ev (s:List Int)(hsl:s.length≤1000)(sz:Int)(tb:List (List Int))(hx:∀ x∈tb,x.length≤1000):Ev (fun k=>spec_GoodWorld.f k s sz tb) (goodWorld s sz tb):=by
 unfold goodWorld wOk
 simp only[spec_GoodWorld.f]
 refine Ev.bnd (spec_GoodSign_ev s (by omega)) ?_
 by_cases gs:goodSign s=true
 ·rw[gs,Bool.true_and]
  have hf:∀ b:Bool,b=true→Ev (fun k=>spec_l5World.j0 k b s sz tb) false:=fun b hb=>by
   subst hb
   refine Ev.succ ?_
   simp only[spec_l5World.j0]
   exact Ev.pos (by simp) (Ev.ret _)
  refine Ev.pos rfl (Ev.bnd (a:=(if 1≤sz∧sz≤3 then (if tb.length=s.length then wTail s sz.toNat tb s.length 0 else false) else false)) ?_ (Ev.ret _))
  simp only[spec_l5World.f]
  refine Ev.bnd1 (spec_in_eq sz 1 3) ?_
  by_cases g:1≤sz∧sz≤3
  ·rw[if_pos g]
   refine Ev.pos (decide_eq_true g) ?_
   by_cases g2:tb.length=s.length
   ·rw[if_pos g2]
    refine Ev.succ ?_
    simp only[spec_l5World.j0]
    refine Ev.neg (by simp[g2]) ?_
    obtain⟨n,hn⟩:∃ n:Nat,sz=(n:Int):=⟨sz.toNat,by omega⟩
    subst hn
    rw[Int.toNat_natCast,← g2]
    exact spec_world_l0 s gs n (by omega) (by omega) tb g2 hx tb.length 0 (by omega)
   ·rw[if_neg g2]
    exact hf _ (by simp[g2];omega)
  ·rw[if_neg g]
   exact Ev.neg (by rw[decide_eq_false g];simp) (hf _ rfl)
 ·rw[Bool.eq_false_iff.2 gs,Bool.false_and]
  exact Ev.neg (by simp) (Ev.ret _)
theorem impl_isEnv_eq (sz:Int)(tb:List (List Int))(l:List Int):impl_World_isEnv.f sz tb l=some (isEnv sz l):=by
 unfold impl_World_isEnv.f isEnv
 by_cases g:l.length=12
 ·rw[if_pos (by omega),areElements_eq,decide_eq_true g];simp
 ·rw[if_neg (by omega),decide_eq_false g,Bool.false_and]
theorem spec_isEnv_ev (sz:Int)(hz:0≤sz∧sz≤1000)(tb:List (List Int))(l:List Int):Ev (fun k=>spec_l5Env.f k sz tb l) (isEnv sz l):=by
 simp only[spec_l5Env.f,isEnv]
 by_cases g:l.length=12
 ·rw[w64 (by omega) (by omega),decide_eq_true g,Bool.true_and]
  exact Ev.pos (by omega) (Ev.bnd (spec_l1All_ev 0 (sz - 1) l (by omega)) (Ev.ret _))
 ·rw[decide_eq_false g,Bool.false_and]
  exact Ev.neg (by omega) (Ev.ret _)
def evalIn (s:List Int)(sz:Int)(tb:List (List Int))(t env:List Int):Int × Bool:=if goodWorld s sz tb=true∧isTerm s t=true∧isEnv sz env=true then ((evs s sz.toNat tb env t.length 1 0 t).1,true) else (0,false)
theorem impl_EvalIn_ev (s:List Int)(sz:Int)(tb:List (List Int))(t env:List Int):Ev (fun k=>impl_EvalIn.f k s sz tb t env) (evalIn s sz tb t env):=by
 unfold evalIn
 simp only[impl_EvalIn.f]
 refine Ev.bnd (impl_GoodWorld_ev s sz tb) ?_
 by_cases g:goodWorld s sz tb=true
 ·have gs:goodSign s=true:=by unfold goodWorld at g;rw[Bool.and_eq_true]at g;exact g.1
  refine Ev.pos g (Ev.bnd (impl_isTerm_ev s gs t) ?_)
  by_cases g2:isTerm s t=true
  ·refine Ev.pos g2 (Ev.bnd1 (impl_isEnv_eq sz tb env) ?_)
   by_cases g3:isEnv sz env=true
   ·obtain⟨n,rfl,w⟩:=WF_mk g g3
    rw[if_pos ⟨g,g2,g3⟩,Int.toNat_natCast]
    exact Ev.pos g3 (Ev.bnd (impl_value_ev w t g2) (Ev.ret _))
   ·rw[if_neg (fun q=>g3 q.2.2)];exact Ev.neg g3 (Ev.ret _)
  ·rw[if_neg (fun q=>g2 q.2.1)];exact Ev.neg g2 (Ev.ret _)
 ·rw[if_neg (fun q=>g q.1)];exact Ev.neg g (Ev.ret _)
theorem spec_EvalIn_ev (s:List Int)(hsl:s.length≤1000)(sz:Int)(hz:0≤sz∧sz≤1000)(tb:List (List Int))(hx:∀ x∈tb,x.length≤1000)(t env:List Int):Ev (fun k=>spec_EvalIn.f k s sz tb t env) (evalIn s sz tb t env):=by
 unfold evalIn
 simp only[spec_EvalIn.f]
 refine Ev.bnd (spec_GoodWorld_ev s hsl sz tb hx) ?_
 by_cases g:goodWorld s sz tb=true
 ·have gs:goodSign s=true:=by unfold goodWorld at g;rw[Bool.and_eq_true]at g;exact g.1
  refine Ev.pos g (Ev.bnd (spec_l1Term_ev s gs t) ?_)
  by_cases g2:isTerm s t=true
  ·refine Ev.pos g2 (Ev.bnd (spec_isEnv_ev sz hz tb env) ?_)
   by_cases g3:isEnv sz env=true
   ·obtain⟨n,rfl,w⟩:=WF_mk g g3
    rw[if_pos ⟨g,g2,g3⟩,Int.toNat_natCast]
    exact Ev.pos g3 (Ev.bnd (spec_value_ev w t g2) (Ev.ret _))
   ·rw[if_neg (fun q=>g3 q.2.2)];exact Ev.neg g3 (Ev.ret _)
  ·rw[if_neg (fun q=>g2 q.2.1)];exact Ev.neg g2 (Ev.ret _)
 ·rw[if_neg (fun q=>g q.1)];exact Ev.neg g (Ev.ret _)
theorem numberOf_l0_ok (l:List Int)(hl:∀ x∈l,0≤x∧x≤255)(hs:l.length≤140737488351232)(d:Nat):∀ (n i:Int),0≤n→n<1000003→0≤i→i+d=l.length→∃ m,Ev (fun k=>laws_numberOf.l0 k n l (l.length:Int) i) m∧0≤m∧m<1000003:=by
 induction d with
 | zero=>
  intro n i h0 h1 hi hd
  refine⟨n,Ev.step (fun k=>?_) (Ev.now n),h0,h1⟩
  simp only[laws_numberOf.l0]
  rw[if_neg (by omega)]
 | succ d ih=>
  intro n i h0 h1 hi hd
  have hr:=rd_range l hl i
  obtain⟨m,e,hm⟩:=ih (Int.tmod (31*n+rd l i) 1000003) (i+1) (Int.tmod_nonneg _ (by omega)) (Int.tmod_lt_of_pos _ (by omega)) (by omega) (by omega)
  refine⟨m,Ev.step (fun k=>?_) e,hm⟩
  simp only[laws_numberOf.l0]
  rw[if_pos (by omega),if_pos hi,if_pos (by omega),w64 (x:=31*n) (by omega) (by omega),w64 (x:=rd l i) (by omega) (by omega),w64 (x:=31*n+rd l i) (by omega) (by omega),w64 (x:=i+1) (by omega) (by omega)]
theorem numberOf_ok (l:List Int)(hl:∀ x∈l,0≤x∧x≤255)(hs:l.length≤140737488351232):∃ m,Ev (fun k=>laws_numberOf.f k l) m∧0≤m∧m<1000003:=
 numberOf_l0_ok l hl hs l.length 0 0 (by omega) (by omega) (by omega) (by omega)
theorem anyO_ev3 {α:Type} (f:Nat→α→Option Bool)(p:α→Bool)(l:List α)(h:∀ x∈l,Ev (fun k=>f k x) (p x)):Ev (fun k=>anyO (fun x=>f k x) l) (l.any p):=by
 have:=anyO_ev f (fun x=>!p x) l (fun x hx=>Ev.eq (h x hx) (by simp))
 refine Ev.eq this ?_
 rw[List.any_eq_not_all_not]
def valT (s:List Int)(sz:Int)(tb:List (List Int))(env t:List Int):Int:=(evs s sz.toNat tb env t.length 1 0 t).1
def litHolds (s:List Int)(sz:Int)(tb:List (List Int))(env:List Int)(x:S83):Bool:=(valT s sz tb env x.f1 == valT s sz tb env x.f2) == x.f0
def holdsAt (s:List Int)(sz:Int)(tb:List (List Int))(c:List S83)(env:List Int):Bool × Bool:=if goodWorld s sz tb=true∧isClause s c=true∧isEnv sz env=true then (c.any (litHolds s sz tb env),true) else (false,false)
theorem impl_holds_ev {s:List Int} {n:Nat} {tb:List (List Int)} {env:List Int} (w:WF s n tb env)(c:List S83)(hc:∀ x∈c,isLit s x=true):Ev (fun k=>impl_Sign_holdsAt.f k s (n:Int) tb c env) (c.any (litHolds s (n:Int) tb env)):=by
 simp only[impl_Sign_holdsAt.f,impl_Sign_holdsAt_1_any.f]
 refine Ev.bnd (anyO_ev3 _ _ _ (fun x hx=>?_)) (Ev.ret _)
 have hl:=hc x hx
 unfold isLit at hl
 rw[Bool.and_eq_true]at hl
 simp only[impl_Sign_holdsAt_1.f]
 exact Ev.bnd (impl_value_ev w x.f1 hl.1) (Ev.bnd (impl_value_ev w x.f2 hl.2) (Ev.eq (Ev.ret _) (by unfold litHolds valT;rw[Int.toNat_natCast])))
theorem spec_at_l0 {s:List Int} {n:Nat} {tb:List (List Int)} {env:List Int} (w:WF s n tb env)(post:List S83):∀ pre:List S83,(pre++post).length≤1000→(∀ x∈post,isLit s x=true) →
  Ev (fun k=>spec_l5At.l0 k env (pre++post) ((pre++post).length:Int) (pre.length:Int) s (n:Int) tb) (post.any (litHolds s (n:Int) tb env)):=by
 induction post with
 | nil=>
  intro pre _ _
  refine Ev.succ ?_
  simp only[spec_l5At.l0]
  exact Ev.neg (by simp) (Ev.ret _)
 | cons x post ih=>
  intro pre hl hc
  have h:=ih (pre++[x]) (by simpa using hl) (fun y hy=>hc y (by simp[hy]))
  simp only[List.length_append,List.length_cons]at hl
  have hx:=hc x (by simp)
  unfold isLit at hx
  rw[Bool.and_eq_true]at hx
  refine Ev.succ ?_
  simp only[spec_l5At.l0,rdLB_mid]
  rw[w64 (x:=(pre.length:Int)+1) (by omega) (by omega)]
  refine Ev.pos (by simp only[List.length_append,List.length_cons];omega) (Ev.pos (by omega) (Ev.pos (by simp only[List.length_append,List.length_cons];omega) (Ev.bnd (spec_value_ev w x.f1 hx.1) (Ev.bnd (spec_value_ev w x.f2 hx.2) ?_))))
  have e:litHolds s (n:Int) tb env x=(((evs s n tb env x.f1.length 1 0 x.f1).1 == (evs s n tb env x.f2.length 1 0 x.f2).1) == x.f0):=by unfold litHolds valT;rw[Int.toNat_natCast]
  rw[List.any_cons]
  by_cases g:litHolds s (n:Int) tb env x=true
  ·exact Ev.pos (by rw[← e];exact g) (Ev.eq (Ev.ret _) (by rw[g,Bool.true_or]))
  ·refine Ev.neg (by rw[← e];exact g) (Ev.eq (by simpa using h) (by rw[Bool.eq_false_iff.2 g,Bool.false_or]))
theorem impl_HoldsAt_ev (s:List Int)(sz:Int)(tb:List (List Int))(c:List S83)(env:List Int):Ev (fun k=>impl_HoldsAt.f k s sz tb c env) (holdsAt s sz tb c env):=by
 unfold holdsAt
 simp only[impl_HoldsAt.f]
 refine Ev.bnd (impl_GoodWorld_ev s sz tb) ?_
 by_cases g:goodWorld s sz tb=true
 ·have gs:goodSign s=true:=by unfold goodWorld at g;rw[Bool.and_eq_true]at g;exact g.1
  refine Ev.pos g (Ev.bnd (impl_isClause_ev s gs c) ?_)
  by_cases g2:isClause s c=true
  ·refine Ev.pos g2 (Ev.bnd1 (impl_isEnv_eq sz tb env) ?_)
   by_cases g3:isEnv sz env=true
   ·obtain⟨n,rfl,w⟩:=WF_mk g g3
    rw[if_pos ⟨g,g2,g3⟩]
    exact Ev.pos g3 (Ev.bnd (impl_holds_ev w c (isClause_of g2).2) (Ev.ret _))
   ·rw[if_neg (fun q=>g3 q.2.2)];exact Ev.neg g3 (Ev.ret _)
  ·rw[if_neg (fun q=>g2 q.2.1)];exact Ev.neg g2 (Ev.ret _)
 ·rw[if_neg (fun q=>g q.1)];exact Ev.neg g (Ev.ret _)
theorem spec_HoldsAt_ev (s:List Int)(hsl:s.length≤1000)(sz:Int)(hz:0≤sz∧sz≤1000)(tb:List (List Int))(hx:∀ x∈tb,x.length≤1000)(c:List S83)(hcl:c.length≤1000)(env:List Int):Ev (fun k=>spec_HoldsAt.f k s sz tb c env) (holdsAt s sz tb c env):=by
 unfold holdsAt
 simp only[spec_HoldsAt.f]
 refine Ev.bnd (spec_GoodWorld_ev s hsl sz tb hx) ?_
 by_cases g:goodWorld s sz tb=true
 ·have gs:goodSign s=true:=by unfold goodWorld at g;rw[Bool.and_eq_true]at g;exact g.1
  obtain⟨b,hb,eb⟩:=spec_l4Clause_tot s (by omega) c (by omega)
  have eb:=eb gs
  subst eb
  refine Ev.pos g (Ev.bnd hb ?_)
  by_cases g2:isClause s c=true
  ·refine Ev.pos g2 (Ev.bnd (spec_isEnv_ev sz hz tb env) ?_)
   by_cases g3:isEnv sz env=true
   ·obtain⟨n,rfl,w⟩:=WF_mk g g3
    rw[if_pos ⟨g,g2,g3⟩]
    refine Ev.pos g3 (Ev.bnd (a:=c.any (litHolds s (n:Int) tb env)) ?_ (Ev.ret _))
    simp only[spec_l5At.f]
    simpa using spec_at_l0 w c [] (by simpa using hcl) (isClause_of g2).2
   ·rw[if_neg (fun q=>g3 q.2.2)];exact Ev.neg g3 (Ev.ret _)
  ·rw[if_neg (fun q=>g2 q.2.1)];exact Ev.neg g2 (Ev.ret _)
 ·rw[if_neg (fun q=>g q.1)];exact Ev.neg g (Ev.ret _)
theorem u64_range (z:Int):0≤IntKind.u64.wrap z∧IntKind.u64.wrap z≤18446744073709551615:=by
 rw[IntKind.wrap_u64]
 omega
theorem ent_range (z sz:Int)(h1:1≤sz):0≤Int.tmod (wrap64 (IntKind.u64.wrap z / 1099511627776)) sz∧Int.tmod (wrap64 (IntKind.u64.wrap z / 1099511627776)) sz≤sz - 1:=by
 obtain⟨a,b⟩:=u64_range z
 rw[w64 (by omega) (by omega)]
 have h0:0≤IntKind.u64.wrap z / 1099511627776:=by omega
 exact⟨Int.tmod_nonneg _ h0,by have:=Int.tmod_lt_of_pos (IntKind.u64.wrap z / 1099511627776) (show 0<sz by omega);omega⟩
theorem worldOf_l2 (ss:List Int)(sz i:Int)(h1:1≤sz)(tb:List (List Int))(htb:tb.length≤100)(m:Nat):∀ (x:Int) (out:List Int),m+out.length≤1000→(∀ y∈out,0≤y∧y≤sz - 1) →
  ∃ (x2:Int) (out2:List Int),out2.length=out.length+m∧(∀ y∈out2,0≤y∧y≤sz - 1)∧∀ R:Int × List (List Int),Ev (fun k=>laws_worldOf.l0 k x2 ss (ss.length:Int) (wrap64 (i+1)) sz (tb++[out2])) R→Ev (fun k=>laws_worldOf.l2 k x (m:Int) out ss (ss.length:Int) i sz tb) R:=by
 induction m with
 | zero=>
  intro x out _ ho
  refine⟨x,out,by omega,ho,fun R h=>Ev.succ ?_⟩
  simp only[laws_worldOf.l2]
  exact Ev.neg (by omega) (Ev.pos (by omega) h)
 | succ m ih=>
  intro x out hl ho
  have hr:=ent_range ((IntKind.u64.wrap (x*6364136223846793005))+1442695040888963407) sz h1
  obtain⟨x2,out2,g1,g2,g3⟩:=ih (IntKind.u64.wrap ((IntKind.u64.wrap (x*6364136223846793005))+1442695040888963407)) (out++[Int.tmod (wrap64 ((IntKind.u64.wrap ((IntKind.u64.wrap (x*6364136223846793005))+1442695040888963407)) / 1099511627776)) sz]) (by rw[List.length_append,List.length_singleton];omega) (fun y hy=>by
   rcases List.mem_append.1 hy with hy | hy
   ·exact ho y hy
   ·rw[List.mem_singleton]at hy;rw[hy];exact hr)
  rw[List.length_append,List.length_singleton]at g1
  refine⟨x2,out2,by omega,g2,fun R h=>Ev.succ ?_⟩
  simp only[laws_worldOf.l2]
  rw[w64 (x:=((m+1:Nat):Int) - 1) (by omega) (by omega),show ((m+1:Nat):Int) - 1=(m:Int) by omega]
  exact Ev.pos (by omega) (Ev.neg (by omega) (Ev.pos (by omega) (g3 R h)))
theorem worldOf_l1 (ss:List Int)(n:Nat)(hn:n≤3)(x i:Int)(tb:List (List Int))(R:Int × List (List Int))(m:Nat):∀ j:Nat,j+m≤3 →
  Ev (fun k=>laws_worldOf.l2 k x ((n ^ (j+m):Nat):Int) [] ss (ss.length:Int) i (n:Int) tb) R→Ev (fun k=>laws_worldOf.l1 k x (m:Int) ((n ^ j:Nat):Int) ss (ss.length:Int) i (n:Int) tb) R:=by
 induction m with
 | zero=>
  intro j _ h
  refine Ev.succ ?_
  simp only[laws_worldOf.l1]
  exact Ev.neg (by omega) h
 | succ m ih=>
  intro j hj h
  have hp:=pw_le n (j+1) (by omega) (by omega)
  have hm:((n ^ j:Nat):Int)*(n:Int)=((n ^ (j+1):Nat):Int):=by rw[Nat.pow_succ];push_cast;rfl
  have h2:=ih (j+1) (by omega) (by rw[show j+1+m=j+(m+1) by omega];exact h)
  refine Ev.succ ?_
  simp only[laws_worldOf.l1]
  rw[hm,w64 (x:=((n ^ (j+1):Nat):Int)) (by omega) (by omega),w64 (x:=((m+1:Nat):Int) - 1) (by omega) (by omega),show ((m+1:Nat):Int) - 1=(m:Int) by omega]
  exact Ev.pos (by omega) h2
theorem rdL2_app (tb:List (List Int))(y:List Int)(j:Nat):rd_L2 (tb++[y]) (j:Int)=if j<tb.length then rd_L2 tb (j:Int) else if j=tb.length then y else []:=by
 unfold rd_L2
 simp only[Int.toNat_natCast,List.getD_eq_getElem?_getD]
 by_cases g:j<tb.length
 ·rw[if_pos g,List.getElem?_append_left g]
 ·rw[if_neg g,List.getElem?_append_right (by omega)]
  by_cases g2:j=tb.length
  ·rw[if_pos g2,g2,Nat.sub_self];rfl
  ·rw[if_neg g2,List.getElem?_eq_none (by simp;omega)];rfl
def TB (ss:List Int)(n i:Nat)(tb:List (List Int)):Prop:=tb.length=i∧∀ j:Nat,j<i→(rd_L2 tb (j:Int)).length=n ^ (rd ss (j:Int)).toNat∧∀ y∈rd_L2 tb (j:Int),0≤y∧y≤(n:Int) - 1
theorem worldOf_l0 (ss:List Int)(hs:SR ss)(n:Nat)(h1:1≤n)(hn:n≤3)(m:Nat):∀ (i:Nat) (x:Int) (tb:List (List Int)),i+m=ss.length→TB ss n i tb →
  ∃ tb',Ev (fun k=>laws_worldOf.l0 k x ss (ss.length:Int) (i:Int) (n:Int) tb) ((n:Int),tb')∧TB ss n ss.length tb':=by
 have h6:=hs.1
 induction m with
 | zero=>
  intro i x tb hi ht
  refine⟨tb,Ev.succ ?_,by rw[← hi];exact ht⟩
  simp only[laws_worldOf.l0]
  exact Ev.neg (by omega) (Ev.ret _)
 | succ m ih=>
  intro i x tb hi ht
  have hr:=hs.2 (i:Int)
  obtain⟨a,ha⟩:∃ a:Nat,rd ss (i:Int)=(a:Int):=⟨(rd ss (i:Int)).toNat,by omega⟩
  have hpw:=pw_le n a (by omega) (by omega)
  obtain⟨x2,out2,g1,g2,g3⟩:=worldOf_l2 ss (n:Int) (i:Int) (by omega) tb (by have:=ht.1;omega) (n ^ a) x [] (by simp only[List.length_nil];omega) (by simp)
  rw[List.length_nil,Nat.zero_add]at g1
  have ht2:TB ss n (i+1) (tb++[out2]):=by
   refine⟨by rw[List.length_append,List.length_singleton,ht.1],fun j hj=>?_⟩
   rw[rdL2_app,ht.1]
   by_cases g:j<i
   ·rw[if_pos g];exact ht.2 j g
   ·have e:j=i:=by omega
    subst e
    rw[if_neg g,if_pos rfl,ha,Int.toNat_natCast]
    exact⟨g1,g2⟩
  obtain⟨tb',e,t⟩:=ih (i+1) x2 (tb++[out2]) (by omega) ht2
  refine⟨tb',Ev.succ ?_,t⟩
  simp only[laws_worldOf.l0,ha]
  refine Ev.pos (by omega) (Ev.pos (by omega) (Ev.pos (by omega) ?_))
  have:=worldOf_l1 ss n hn x (i:Int) tb ((n:Int),tb') a 0 (by omega) (by
   rw[Nat.zero_add]
   refine g3 _ ?_
   rw[w64 (x:=(i:Int)+1) (by omega) (by omega)]
   exact e)
  simpa using this
theorem worldOf_ok (ss:List Int)(hs:SR ss)(l:List Int)(hl:Bs l)(hll:l.length≤1048576):∃ (n:Nat) (tb:List (List Int)),Ev (fun k=>laws_worldOf.f k ss l) ((n:Int),tb)∧1≤n∧n≤3∧TB ss n ss.length tb:=by
 obtain⟨m,em,m0,m1⟩:=numberOf_ok l hl (by omega)
 have hx:0≤Int.tmod (IntKind.u64.wrap (IntKind.u64.wrap m+7)) 3:=Int.tmod_nonneg _ (u64_range _).1
 have hx2:=Int.tmod_lt_of_pos (IntKind.u64.wrap (IntKind.u64.wrap m+7)) (show (0:Int)<3 by omega)
 obtain⟨n,hn⟩:∃ n:Nat,1+Int.tmod (IntKind.u64.wrap (IntKind.u64.wrap m+7)) 3=(n:Int):=⟨(1+Int.tmod (IntKind.u64.wrap (IntKind.u64.wrap m+7)) 3).toNat,by omega⟩
 obtain⟨tb',e,t⟩:=worldOf_l0 ss hs n (by omega) (by omega) ss.length 0 (IntKind.u64.wrap (IntKind.u64.wrap m+7)) [] (by omega) ⟨rfl,fun j hj=>absurd hj (Nat.not_lt_zero _)⟩
 refine⟨n,tb',?_,by omega,by omega,t⟩
 simp only[laws_worldOf.f]
 refine Ev.bnd em ?_
 rw[w64 (x:=Int.tmod (IntKind.u64.wrap (IntKind.u64.wrap m+7)) 3) (by omega) (by omega),hn,w64 (x:=(n:Int)) (by omega) (by omega)]
 exact e
theorem envOf_l0 (sz:Int)(h1:1≤sz)(tb:List (List Int))(m:Nat):∀ (i:Nat) (x:Int) (out:List Int),i+m=12→out.length=i→(∀ y∈out,0≤y∧y≤sz - 1) →
  ∃ r,Ev (fun k=>laws_envOf.l0 k x out (i:Int) sz tb) r∧r.length=12∧∀ y∈r,0≤y∧y≤sz - 1:=by
 induction m with
 | zero=>
  intro i x out hi ho hy
  refine⟨out,Ev.succ ?_,by omega,hy⟩
  simp only[laws_envOf.l0]
  exact Ev.neg (by omega) (Ev.ret _)
 | succ m ih=>
  intro i x out hi ho hy
  have hr:=ent_range ((IntKind.u64.wrap (x*6364136223846793005))+1442695040888963407) sz h1
  obtain⟨r,e,t⟩:=ih (i+1) (IntKind.u64.wrap ((IntKind.u64.wrap (x*6364136223846793005))+1442695040888963407)) (out++[Int.tmod (wrap64 ((IntKind.u64.wrap ((IntKind.u64.wrap (x*6364136223846793005))+1442695040888963407)) / 1099511627776)) sz]) (by omega) (by rw[List.length_append,List.length_singleton];omega) (fun y hm=>by
   rcases List.mem_append.1 hm with hm | hm
   ·exact hy y hm
   ·rw[List.mem_singleton]at hm;rw[hm];exact hr)
  refine⟨r,Ev.succ ?_,t⟩
  simp only[laws_envOf.l0]
  refine Ev.pos (by omega) (Ev.neg (by omega) (Ev.pos (by omega) ?_))
  rw[w64 (x:=(i:Int)+1) (by omega) (by omega)]
  exact e
theorem envOf_ok (sz:Int)(h1:1≤sz)(tb:List (List Int))(l:List Int)(hl:Bs l)(hll:l.length≤1048576):∃ r,Ev (fun k=>laws_envOf.f k sz tb l) r∧isEnv sz r=true:=by
 obtain⟨m,em,m0,m1⟩:=numberOf_ok l hl (by omega)
 obtain⟨r,e,t1,t2⟩:=envOf_l0 sz h1 tb 12 0 (IntKind.u64.wrap (IntKind.u64.wrap m+3)) [] rfl rfl (by simp)
 refine⟨r,?_,?_⟩
 ·simp only[laws_envOf.f]
  exact Ev.bnd em e
 ·unfold isEnv inAll
  rw[decide_eq_true t1,Bool.true_and,List.all_eq_true]
  exact fun x hx=>decide_eq_true (t2 x hx)
theorem wTail_mk {s:List Int} {n:Nat} {tb:List (List Int)} (m:Nat):∀ i:Nat,(∀ j:Nat,i≤j→j<i+m→(rd_L2 tb (j:Int)).length=n ^ (rd s (j:Int)).toNat∧∀ y∈rd_L2 tb (j:Int),0≤y∧y≤(n:Int) - 1)→wTail s n tb m i=true:=by
 induction m with
 | zero=>intro i _;rfl
 | succ m ih=>
  intro i h
  have h0:=h i (Nat.le_refl _) (by omega)
  simp only[wTail]
  rw[if_pos h0.1,if_pos (by unfold inAll;rw[List.all_eq_true];exact fun x hx=>decide_eq_true (h0.2 x hx))]
  exact ih (i+1) (fun j h1 h2=>h j (by omega) (by omega))
theorem goodWorld_mk {s:List Int} (hs:goodSign s=true) {n:Nat} (h1:1≤n)(h3:n≤3) {tb:List (List Int)} (ht:TB s n s.length tb):goodWorld s (n:Int) tb=true:=by
 unfold goodWorld wOk
 rw[hs,Bool.true_and,if_pos ⟨by omega,by omega⟩,if_pos ht.1,Int.toNat_natCast]
 exact wTail_mk s.length 0 (fun j _ hj=>ht.2 j (by omega))
theorem evs_fuel0 {s:List Int} {sz:Nat} {tb:List (List Int)} {env:List Int} (w:WF s sz tb env)(N:Nat):∀ (f m:Nat) (i:Int) (t r:List Int),f≤N→t.length≤f→eat s t m=some r→evs s sz tb env f m i t=evs s sz tb env t.length m i t:=by
 induction N with
 | zero=>
  intro f m i t r hf hl he
  obtain rfl:f=t.length:=by omega
  rfl
 | succ N ih=>
  intro f m i t r hf hl he
  cases t with
  | nil=>cases f <;> cases m <;> first | rfl | simp[eat]at he
  | cons n t=>
   cases f with
   | zero=>simp at hl
   | succ f=>
    cases m with
    | zero=>rfl
    | succ m=>
     obtain⟨ht,he⟩:=eat_cons he
     simp only[List.length_cons]at hl ⊢
     simp only[evs]
     by_cases g:n<0
     ·rw[if_pos g,if_pos g]
      rw[ar_neg s n g,Nat.add_zero]at he
      exact ih f m _ t r (by omega) (by omega) he
     ·rw[if_neg g,if_neg g]
      rw[Nat.add_comm]at he
      obtain⟨r1,e1,e2⟩:=eat_split s t (ar s n) m r he
      obtain⟨c,hc⟩:=eat_suf s t _ _ e1
      have hlc:r1.length≤t.length:=by rw[hc,List.length_append];omega
      have q:=(evs_ok w t.length (ar s n) 0 t r1 0 (Nat.le_refl _) e1 ⟨by omega,by simp⟩).1
      rw[ih f (ar s n) 0 t r1 (by omega) (by omega) e1,q,ih f m _ r1 r (by omega) (by omega) e2,ih t.length m _ r1 r (by omega) hlc e2]
theorem evs_fuel {s:List Int} {sz:Nat} {tb:List (List Int)} {env:List Int} (w:WF s sz tb env) {f m:Nat} {i:Int} {t r:List Int} (hl:t.length≤f)(he:eat s t m=some r)(f2:Nat)(hl2:t.length≤f2):evs s sz tb env f m i t=evs s sz tb env f2 m i t:=by
 rw[evs_fuel0 w f f m i t r (Nat.le_refl _) hl he,evs_fuel0 w f2 f2 m i t r (Nat.le_refl _) hl2 he]
theorem eat_rest (s:List Int)(x rest:List Int)(m:Nat)(h:eat s x m=some []):eat s (x++rest) m=some rest:=by
 have:=eat_app s x m 0 rest h
 rw[Nat.add_zero,eat_zero]at this
 exact this
theorem evs_same0 {s:List Int} {sz:Nat} {tb:List (List Int)} {env:List Int} (w:WF s sz tb env)(rest:List Int)(F:Nat):∀ (x:List Int) (m:Nat) (i:Int) (r1:List Int),(x++rest).length≤F→eat s x m=some r1→(evs s sz tb env F m i (x++rest)).1=(evs s sz tb env F m i x).1:=by
 induction F with
 | zero=>
  intro x m i r1 hl he
  rw[List.length_append]at hl
  have hx:x=[]:=List.eq_nil_of_length_eq_zero (by omega)
  subst hx
  cases m with
  | zero=>rfl
  | succ m=>simp[eat]at he
 | succ F ih=>
  intro x m i r1 hl he
  cases m with
  | zero=>cases x <;> cases rest <;> rfl
  | succ m=>
   cases x with
   | nil=>simp[eat]at he
   | cons n x=>
    obtain⟨ht,he⟩:=eat_cons he
    simp only[List.cons_append,List.length_cons]at hl ⊢
    simp only[evs]
    by_cases g:n<0
    ·rw[if_pos g,if_pos g]
     rw[ar_neg s n g,Nat.add_zero]at he
     exact ih x m _ r1 (by omega) he
    ·rw[if_neg g,if_neg g]
     rw[Nat.add_comm]at he
     obtain⟨r2,e1,e2⟩:=eat_split s x (ar s n) m r1 he
     obtain⟨c,hc,hce⟩:=eat_front s x _ _ e1
     have hlx:x.length=c.length+r2.length:=by rw[hc,List.length_append]
     rw[List.length_append]at hl
     have e1':eat s (x++rest) (ar s n)=some (r2++rest):=by rw[hc,List.append_assoc];exact eat_rest s c _ _ hce
     have q1:=(evs_ok w F (ar s n) 0 (x++rest) (r2++rest) 0 (by rw[List.length_append];omega) e1' ⟨by omega,by simp⟩).1
     have q2:=(evs_ok w F (ar s n) 0 x r2 0 (by omega) e1 ⟨by omega,by simp⟩).1
     rw[q1,q2,ih x (ar s n) 0 r2 (by rw[List.length_append];omega) e1]
     exact ih r2 m _ r1 (by rw[List.length_append];omega) e2
theorem evs_same {s:List Int} {sz:Nat} {tb:List (List Int)} {env:List Int} (w:WF s sz tb env)(x rest:List Int)(m:Nat)(i:Int)(F:Nat)(hF:(x++rest).length≤F)(he:eat s x m=some []):(evs s sz tb env F m i (x++rest)).1=(evs s sz tb env x.length m i x).1:=by
 rw[evs_same0 w rest F x m i [] hF he]
 have h:evs s sz tb env F m i x=evs s sz tb env x.length m i x:=evs_fuel w (by rw[List.length_append]at hF;omega) he _ (Nat.le_refl _)
 rw[h]
theorem evs_front {s:List Int} {sz:Nat} {tb:List (List Int)} {env:List Int} (w:WF s sz tb env)(x:List Int)(hx:eat s x 1=some [])(rest r:List Int)(m:Nat)(i:Int)(f:Nat)(hf:(x++rest).length≤f)(he:eat s rest m=some r) :
  evs s sz tb env f (m+1) i (x++rest)=evs s sz tb env f m (i*sz+(evs s sz tb env x.length 1 0 x).1) rest:=by
 cases x with
 | nil=>simp[eat]at hx
 | cons n x=>
  obtain⟨ht,hx⟩:=eat_cons hx
  rw[Nat.zero_add]at hx
  simp only[List.cons_append,List.length_cons,List.length_append]at hf ⊢
  cases f with
  | zero=>omega
  | succ f=>
   simp only[evs]
   by_cases g:n<0
   ·rw[if_pos g,if_pos g]
    rw[ar_neg s n g,eat_zero]at hx
    have hx0:x=[]:=Option.some.inj hx
    subst hx0
    simp only[List.nil_append,List.length_nil,evs,Int.zero_mul,Int.zero_add]
    simp only[List.length_nil]at hf
    exact evs_fuel w (by omega) he _ (by omega)
   ·rw[if_neg g,if_neg g]
    have e1:=eat_rest s x rest _ hx
    have q1:=(evs_ok w f (ar s n) 0 (x++rest) rest 0 (by rw[List.length_append];omega) e1 ⟨by omega,by simp⟩).1
    have q2:=(evs_ok w x.length (ar s n) 0 x [] 0 (Nat.le_refl _) hx ⟨by omega,by simp⟩).1
    have key:∀ F,(x++rest).length≤F→(evs s sz tb env F (ar s n) 0 (x++rest)).1=(evs s sz tb env x.length (ar s n) 0 x).1:=fun F hF=>by
     exact evs_same w x rest (ar s n) 0 F hF hx
    rw[q1,q2,key f (by rw[List.length_append];omega)]
    have h0:∀ z:Int,evs s sz tb env x.length 0 z ([]:List Int)=(z,[]):=fun z=>by cases x.length <;> rfl
    rw[h0,Int.zero_mul,Int.zero_add]
    exact evs_fuel w (by omega) he _ (by omega)
theorem app_append (b:List (List Int))(x y:List Int):app b (x++y)=app b x++app b y:=by
 induction x with
 | nil=>rfl
 | cons n x ih=>simp[app,ih]
theorem app_eat2 (s:List Int)(b:List (List Int))(hb:okB s 40 b)(t r:List Int)(m:Nat)(h:eat s t m=some r):eat s (app b t) m=some (app b r):=by
 obtain⟨c,hc,hce⟩:=eat_front s t m r h
 rw[hc,app_append]
 exact eat_rest s _ _ _ (app_eat s b 40 hb c m hce)
theorem sub_eat (s:List Int)(b:List (List Int))(hb:okB s 40 b)(v:Nat)(hv:v<12)(hs:goodSign s=true):eat s (sub b v) 1=some []∧(sub b v).length≤40∧1≤(sub b v).length:=by
 unfold sub
 have:=goodSign_len hs
 obtain⟨h1,h2⟩:=okB_get hb v
 split
 ·refine⟨?_,by simp,by simp⟩
  simp only[eat]
  rw[if_pos (by unfold tok;rw[decide_eq_true_eq];omega),ar_neg s _ (by omega)]
  rfl
 ·rename_i g
  refine⟨h2 g,h1,?_⟩
  cases e:b.getD v [] with
  | nil=>exact absurd e g
  | cons x y=>simp
theorem evs_subst {s:List Int} {sz:Nat} {tb:List (List Int)} {env other:List Int} (w:WF s sz tb env)(w2:WF s sz tb other)(b:List (List Int))(hb:okB s 40 b)
  (ho:∀ v:Nat,v<12→other.getD v 0=(evs s sz tb env (sub b v).length 1 0 (sub b v)).1) (f:Nat):∀ (m:Nat) (i:Int) (t r:List Int) (F:Nat),t.length≤f→(app b t).length≤F→eat s t m=some r →
   (evs s sz tb env F m i (app b t)).1=(evs s sz tb other f m i t).1:=by
 induction f with
 | zero=>
  intro m i t r F hl hF he
  have ht:t=[]:=List.eq_nil_of_length_eq_zero (by omega)
  subst ht
  cases m with
  | zero=>cases F <;> rfl
  | succ m=>simp[eat]at he
 | succ f ih=>
  intro m i t r F hl hF he
  cases m with
  | zero=>cases F <;> cases t <;> rfl
  | succ m=>
   cases t with
   | nil=>simp[eat]at he
   | cons n t=>
    obtain⟨ht,he⟩:=eat_cons he
    simp only[List.length_cons]at hl
    simp only[app]at hF ⊢
    simp only[evs]
    by_cases g:n<0
    ·rw[if_pos g]at hF ⊢
     rw[if_pos g]
     rw[ar_neg s n g,Nat.add_zero]at he
     have hn:-12≤n:=by unfold tok at ht;simp only[decide_eq_true_eq]at ht;exact ht.1
     have hv:(-1 - n).toNat<12:=by omega
     have hx:=sub_eat s b hb (-1 - n).toNat hv w.gs
     rw[evs_front w _ hx.1 (app b t) (app b r) m i F hF (app_eat2 s b hb t r m he),← ho _ hv]
     have hrd:rd other (-1 - n)=other.getD (-1 - n).toNat 0:=rfl
     rw[hrd]
     rw[List.length_append]at hF
     exact ih m _ t r F (by omega) (by omega) he
    ·rw[if_neg g]at hF ⊢
     rw[if_neg g]
     rw[Nat.add_comm]at he
     obtain⟨r1,e1,e2⟩:=eat_split s t (ar s n) m r he
     obtain⟨c,hc⟩:=eat_suf s t _ _ e1
     have hlc:r1.length≤t.length:=by rw[hc,List.length_append];omega
     have hlc2:(app b r1).length≤(app b t).length:=by rw[hc,app_append,List.length_append];omega
     simp only[List.singleton_append,List.length_cons]at hF ⊢
     cases F with
     | zero=>omega
     | succ F=>
      simp only[evs]
      rw[if_neg g]
      have q1:=(evs_ok w F (ar s n) 0 (app b t) (app b r1) 0 (by omega) (app_eat2 s b hb t r1 _ e1) ⟨by omega,by simp⟩).1
      have q2:=(evs_ok w2 f (ar s n) 0 t r1 0 (by omega) e1 ⟨by omega,by simp⟩).1
      rw[q1,q2,ih (ar s n) 0 t r1 F (by omega) (by omega) e1]
      exact ih m _ r1 r F (by omega) (by omega) e2
def goodSubst (s:List Int)(b:List (List Int)):Bool:=goodSign s && (decide (b.length=12) && b.all fun x=>if 0<x.length then isTerm s x else true)
theorem GoodSubst_ev (s:List Int)(b:List (List Int)):Ev (fun k=>impl_GoodSubst.f k s b) (goodSubst s b):=by
 unfold goodSubst
 simp only[impl_GoodSubst.f]
 refine Ev.bnd1 (impl_GoodSign_eq s) ?_
 by_cases gs:goodSign s=true
 ·rw[gs,Bool.true_and]
  refine Ev.pos rfl (Ev.bnd (a:=(decide (b.length=12) && b.all fun x=>if 0<x.length then isTerm s x else true)) ?_ (Ev.ret _))
  simp only[impl_Sign_isSubst.f]
  by_cases g:b.length=12
  ·rw[decide_eq_true g,Bool.true_and]
   refine Ev.pos (by omega) (Ev.bnd (a:=!(b.all fun x=>if 0<x.length then isTerm s x else true)) ?_ (Ev.eq (Ev.ret _) (by simp)))
   simp only[impl_Sign_isSubst_1_any.f]
   refine anyO_ev _ _ _ (fun x _=>?_)
   simp only[impl_Sign_isSubst_1.f]
   by_cases gx:0<x.length
   ·exact Ev.pos (by omega) (Ev.bnd (impl_isTerm_ev s gs x) (Ev.eq (Ev.ret _) (by rw[if_pos gx])))
   ·exact Ev.neg (by omega) (Ev.eq (Ev.ret _) (by rw[if_neg gx];rfl))
  ·rw[decide_eq_false g,Bool.false_and]
   exact Ev.neg (by omega) (Ev.ret _)
 ·rw[Bool.eq_false_iff.2 gs,Bool.false_and]
  exact Ev.neg (by simp) (Ev.ret _)
theorem okB_of {s:List Int} {b:List (List Int)} (h:goodSubst s b=true):goodSign s=true∧okB s 40 b:=by
 unfold goodSubst at h
 rw[Bool.and_eq_true,Bool.and_eq_true,decide_eq_true_eq,List.all_eq_true]at h
 refine⟨h.1,h.2.1,fun x hx=>?_⟩
 have:=h.2.2 x hx
 split at this
 ·have t:=isTerm_of this
  exact⟨t.1,fun _=>t.2⟩
 ·rename_i g
  have e:x=[]:=List.eq_nil_of_length_eq_zero (by omega)
  rw[e]
  exact⟨by simp,fun q=>absurd rfl q⟩
def applyT (s:List Int)(b:List (List Int))(t:List Int):List Int × Bool:=if goodSubst s b=true∧isTerm s t=true then cap (app b t) else ([],false)
theorem Apply_ev (s:List Int)(b:List (List Int))(t:List Int):Ev (fun k=>impl_Apply.f k s b t) (applyT s b t):=by
 unfold applyT
 simp only[impl_Apply.f]
 refine Ev.bnd (GoodSubst_ev s b) ?_
 by_cases g:goodSubst s b=true
 ·obtain⟨gs,hb⟩:=okB_of g
  refine Ev.pos g (Ev.bnd (impl_isTerm_ev s gs t) ?_)
  by_cases g2:isTerm s t=true
  ·have ht:=isTerm_of g2
   rw[if_pos ⟨g,g2⟩]
   refine Ev.pos g2 (Ev.bnd (impl_apply_ev s b 40 (by omega) hb t (by omega) (fun x hx=>?_)) (Ev.ret _))
   have:=eat_tok s t 1 ht.2 x hx
   unfold tok at this
   simp only[decide_eq_true_eq]at this
   exact this.1
  ·rw[if_neg (fun q=>g2 q.2)];exact Ev.neg g2 (Ev.ret _)
 ·rw[if_neg (fun q=>g q.1)];exact Ev.neg g (Ev.ret _)
theorem big_eq (l0 l1:List Int)(h0:l0.length≤140737488351232)(h1:l1.length≤140737488351232):∃ bg,laws_big.f l0 l1=some bg∧(bg=false→l0.length≤1048576∧l1.length≤1048576):=by
 unfold laws_big.f
 by_cases g:(l0.length:Int) > 1048576
 ·rw[if_pos g];exact⟨true,rfl,by simp⟩
 ·rw[if_neg g,w64 (by omega) (by omega)]
  exact⟨_,rfl,fun h=>by rw[decide_eq_false_iff_not]at h;exact⟨by omega,by omega⟩⟩
def Evp (P:Nat→Prop):Prop:=∃ K,∀ k,K≤k→P k
theorem Evp.and {P Q:Nat→Prop} (hp:Evp P)(hq:Evp Q):Evp (fun k=>P k∧Q k):=by
 obtain⟨K1,h1⟩:=hp
 obtain⟨K2,h2⟩:=hq
 exact⟨K1+K2,fun k hk=>⟨h1 k (by omega),h2 k (by omega)⟩⟩
theorem Evp.some {P:Nat→Prop} (h:Evp P):∃ k,P k:=by
 obtain⟨K,h⟩:=h
 exact⟨K,h K (Nat.le_refl _)⟩
theorem Evp.of {α:Type} {g:Nat→Option α} {r:α} (h:Ev g r):Evp (fun k=>g k=.some r):=h
theorem wf8 (l:List Int)(h:∀ x∈l,(Lit.int .u8 x).wf=true):∀ x∈l,0≤x∧x≤255:=by
 intro x hx
 have:=h x hx
 simp only[Lit.wf,IntKind.min,IntKind.max,IntKind.signed,IntKind.bits,Bool.and_eq_true,decide_eq_true_eq]at this
 simp at this
 omega
theorem isTerm_mk2 {s l:List Int} (h:l.length≤40)(h2:eat s l 1=some []):isTerm s l=true:=by
 unfold isTerm
 simp only[Bool.and_eq_true,decide_eq_true_eq,beq_iff_eq]
 refine⟨⟨?_,h⟩,h2⟩
 cases l with
 | nil=>simp[eat]at h2
 | cons x l=>simp
theorem xv_sub (b:List (List Int))(v:Nat):laws_FnPutFor.xv b v=sub b v:=by
 unfold laws_FnPutFor.xv sub rd_L2
 rw[Int.toNat_natCast]
 by_cases g:b.getD v []=[]
 ·rw[if_pos g,if_pos (by rw[g];rfl)]
 ·rw[if_neg g,if_neg (fun h=>g (List.eq_nil_of_length_eq_zero h))]
theorem Evp.upto {P:Nat→Nat→Prop} (n:Nat)(h:∀ v,v<n→Evp (fun k=>P v k)):Evp (fun k=>∀ v,v<n→P v k):=by
 induction n with
 | zero=>exact⟨0,fun k _ v hv=>absurd hv (Nat.not_lt_zero _)⟩
 | succ n ih=>
  obtain⟨K1,h1⟩:=ih (fun v hv=>h v (by omega))
  obtain⟨K2,h2⟩:=h n (by omega)
  refine⟨K1+K2,fun k hk v hv=>?_⟩
  by_cases g:v=n
  ·subst g;exact h2 k (by omega)
  ·exact h1 k (by omega) v (by omega)
theorem evalIn_pos {s:List Int} {n:Nat} {tb:List (List Int)} {t env:List Int} (g:goodWorld s (n:Int) tb=true)(g2:isTerm s t=true)(g3:isEnv (n:Int) env=true):evalIn s (n:Int) tb t env=((evs s n tb env t.length 1 0 t).1,true):=by
 unfold evalIn
 rw[if_pos ⟨g,g2,g3⟩,Int.toNat_natCast]
theorem inn_ok {s:List Int} (hs:SR s) {n:Nat} {tb:List (List Int)} {b:List (List Int)} {t env:List Int} (h1:1≤n)(h3:n≤3)(ht:TB s n s.length tb)(he:isEnv (n:Int) env=true)(hok:(applyT s b t).2=true) :
  ∃ other x,Evp (fun k=>laws_FnPutFor.In k s b t (n:Int) tb env (applyT s b t).1 other x):=by
 unfold applyT at hok ⊢
 split at hok
 case isFalse=>cases hok
 rename_i g
 rw[if_pos g]
 obtain⟨gs,hb⟩:=okB_of g.1
 have gw:=goodWorld_mk gs h1 h3 ht
 obtain⟨m,hm,w⟩:=WF_mk gw he
 have hmn:m=n:=by omega
 subst hmn
 unfold cap at hok ⊢
 split at hok
 case isFalse=>cases hok
 rename_i gl
 rw[if_pos gl]
 simp only
 have htm:=isTerm_of g.2
 have hpe:eat s (app b t) 1=some []:=app_eat2 s b hb t [] 1 htm.2
 have hp:=isTerm_mk2 gl hpe
 have hv:∀ v,v<12→isTerm s (sub b v)=true:=fun v hv=>isTerm_mk2 (sub_eat s b hb v hv gs).2.1 (sub_eat s b hb v hv gs).1
 generalize hO:(List.range 12).map (fun v=>(evs s m tb env (sub b v).length 1 0 (sub b v)).1)=other
 have hol:other.length=12:=by rw[← hO,List.length_map,List.length_range]
 have hod:∀ v:Nat,v<12→other.getD v 0=(evs s m tb env (sub b v).length 1 0 (sub b v)).1:=fun v hv=>by
  rw[← hO,List.getD_eq_getElem?_getD,List.getElem?_map,List.getElem?_range hv];rfl
 have hoe:isEnv (m:Int) other=true:=by
  unfold isEnv inAll
  rw[decide_eq_true hol,Bool.true_and,List.all_eq_true]
  intro x hx
  rw[← hO,List.mem_map]at hx
  obtain⟨v,hvr,rfl⟩:=hx
  rw[List.mem_range]at hvr
  have:=(evs_ok w (sub b v).length 1 0 (sub b v) [] 0 (Nat.le_refl _) (sub_eat s b hb v hvr gs).1 ⟨by omega,by simp⟩).2
  rw[Nat.zero_add,Nat.pow_one]at this
  exact decide_eq_true ⟨this.1,by omega⟩
 obtain⟨m2,hm2,w2⟩:=WF_mk gw hoe
 have hmn2:m2=m:=by omega
 subst hmn2
 have key:=evs_subst w w2 b hb hod t.length 1 0 t [] (app b t).length (Nat.le_refl _) (Nat.le_refl _) htm.2
 refine⟨other,(evs s m2 tb other t.length 1 0 t).1,?_⟩
 have e1:=impl_EvalIn_ev s (m2:Int) tb (app b t) env
 have e2:=impl_EvalIn_ev s (m2:Int) tb t other
 rw[evalIn_pos gw hp he,key]at e1
 rw[evalIn_pos gw g.2 hoe]at e2
 have e3:Evp (fun k=>∀ v,v<12→impl_EvalIn.f k s (m2:Int) tb (laws_FnPutFor.xv b v) env=some (other.getD v 0,true)):=Evp.upto 12 (fun v hv'=>by
  have e:=impl_EvalIn_ev s (m2:Int) tb (sub b v) env
  rw[evalIn_pos gw (hv v hv') he,← hod v hv']at e
  rw[xv_sub]
  exact Evp.of e)
 obtain⟨K,hK⟩:=((Evp.of e1).and (Evp.of e2)).and e3
 exact⟨K,fun k hk=>⟨hb.1,hol,(hK k hk).2,(hK k hk).1.1,(hK k hk).1.2⟩⟩
theorem FnPutFor:laws_FnPutFor.Pure:=by
 intro l0 l1 _ hl0 hw0 _ hl1 hw1
 have h0:=wf8 l0 hw0
 have h1:=wf8 l1 hw1
 obtain⟨bg,hb,hbs⟩:=big_eq l0 l1 (by omega) (by omega)
 cases bg with
 | true=>exact⟨0,true,hb,fun h=>absurd h (by simp)⟩
 | false=>
  obtain⟨hL0,hL1⟩:=hbs rfl
  obtain⟨s,b,t,ed,hs,_⟩:=DrawApply_ok l0 h0
  obtain⟨n,tb,ew,hn1,hn3,ht⟩:=worldOf_ok s hs l1 h1 hL1
  obtain⟨env,ee,hv⟩:=envOf_ok (n:Int) (by omega) tb l1 h1 hL1
  have ea:=Apply_ev s b t
  obtain⟨a,b1,b2,c,e,ed2,ha,hb1,hb2,_⟩:=DrawEvalIn_ok l1 h1
  obtain⟨d,f1,f2,g,h,ed3,hd,hf1,hf2,hg,_⟩:=DrawHoldsAt_ok l1 h1
  have ie:=impl_EvalIn_ev a b1 b2 c e
  have se:=spec_EvalIn_ev a (by have:=ha.1;omega) b1 (by omega) b2 (fun x hx=>by have:=hb2.2 x hx;omega) c e
  have ih:=impl_HoldsAt_ev d f1 f2 g h
  have sh:=spec_HoldsAt_ev d (by have:=hd.1;omega) f1 (by omega) f2 (fun x hx=>by have:=hf2.2 x hx;omega) g (by have:=hg.1;omega) h
  have ig:=impl_GoodWorld_ev a b1 b2
  have sg:=spec_GoodWorld_ev a (by have:=ha.1;omega) b1 b2 (fun x hx=>by have:=hb2.2 x hx;omega)
  have inn:∃ (K:Nat),∀ k,K≤k→(applyT s b t).2=true→∃ other x,laws_FnPutFor.In k s b t (n:Int) tb env (applyT s b t).1 other x:=by
   cases hok:(applyT s b t).2 with
   | false=>exact⟨0,fun k _ h=>absurd h (by simp)⟩
   | true=>
    obtain⟨other,x,K,hK⟩:=inn_ok hs hn1 hn3 ht hv hok
    exact⟨K,fun k hk _=>⟨other,x,hK k hk⟩⟩
  obtain⟨K,hK⟩:=((((Evp.of ed).and (Evp.of ew)).and ((Evp.of ee).and (Evp.of ea))).and (((Evp.of ed2).and (Evp.of ed3)).and ((Evp.of ie).and (Evp.of se)))).and (((Evp.of ih).and (Evp.of sh)).and ((Evp.of ig).and (Evp.of sg)))
  obtain⟨K2,hK2⟩:=inn
  obtain⟨⟨⟨⟨q1,q2⟩,q3,q4⟩,⟨q5,q6⟩,q7,q8⟩,⟨q9,q10⟩,q11,q12⟩:=hK (K+K2) (by omega)
  refine⟨K+K2,false,hb,fun _=>⟨s,b,t,(n:Int),tb,env,(applyT s b t).1,(applyT s b t).2,a,b1,b2,c,e,(evalIn a b1 b2 c e).1,(evalIn a b1 b2 c e).2,d,f1,f2,g,h,(holdsAt d f1 f2 g h).1,(holdsAt d f1 f2 g h).2,goodWorld a b1 b2,⟨q1,q2,q3,q4,hK2 _ (by omega),q5,q7,q8,q6,q9,q10,q11,q12⟩⟩⟩
end Go.Proofs.Ytmgkflkfoccgkaa.Pure
