import PyProof.Rows.All
import HandS.ForMost
import HandS.ForExc
import HandS.TupAny
import HandS.TupMul
import HandS.TupLe
import HandS.IsInst
import HandS.Zip
import HandS.Rev
import HandS.Gcd
import HandS.Wide
import HandS.Flow
import HandS.SetKeys
import HandS.CallLocal
import HandS.Deep
import HandS.RevRange
import HandS.Style
import HandS.SortInts
import KE.KSortedM
import KE.GoesEnum
import KE.GoesMore
import KE.GoesZip
import HandS.Walk
import HandS.RaiseMore
import HandS.Small
import KE.KExcInit
import PySem.Challenge.RW_allthatisowed_k13_weighings_shown_or_not
import Wide.All
import OpenK.AllK
import Wide.FinOn
set_option Elab.async false
set_option linter.all false
set_option hygiene false in
local macro_rules
  | `(tactic| dsimp! [$ts,*]) => `(tactic| simp -implicitDefEqProofs only [IDef.run, exs, IS.ex, IE.ev, IE.te, evs, evo, teo, IE.ment, ments, mento, IIt.ment, IIt.gone, iev_seq, iev_rng1, iev_rng2, iev_enum, iev_zip, mask, withE, withB, after_k, afterK_nil, afterK_non, afterK_val, afterK_own, unown, nolB_val, nolB_own, nol_non, nol_bl, nol_int, nol_str, nol_tup, nol_lst, nol_fn, nol_scr, nols_nil, nols_cons, retE, List.length_cons, List.length_nil, List.map_cons, List.map_nil, List.replicate, List.cons_append, List.nil_append, List.getElem?_cons_zero, List.getElem?_cons_succ, List.set_cons_zero, List.set_cons_succ, bind_ok, Bd.d, ixD, at0, at1, at2, cmpD, bl, truD, bltD, Nat.zero_add, Nat.reduceAdd, Nat.reduceSub, Nat.reduceLeDiff, Bool.true_and, Bool.and_true, if_true, if_false, ite_true, ite_false, reduceIte, Bool.and_eq_true, decide_true, decide_false, negD, eqv_int, grd_int, grd_sz, eqv_bl, grd_bl, bq_true, bq_false, Bool.false_eq_true, decide_eq_true_eq, add_ev, sub_ev, ite_dec, Bool.not_eq_true', Bool.not_true, Bool.not_false, Int.cast_ofNat_Int, Int.reduceEq, Int.reduceLT, Int.reduceLE, Int.reduceAdd, Int.reduceSub, Int.reduceMul, Int.reduceNeg, eq_self, reduceCtorEq, decide_eq_false_iff_not, not_true, not_false_iff, not_true_eq_false, not_false_eq_true, ne_eq, ite_self, Nat.reduceBEq, Nat.reduceEqDiff, beq_self_eq_true, Bool.or_false, Bool.false_or, Bool.or_true, Bool.true_or, it_lst, it_tup, sq_lst, sq_tup, tuple_lst, tuple_tup, len_lst, len_tup, len_scr, int_int, wipeE, $ts,*])
set_option hygiene false in
local macro_rules
  | `(tactic| simp_all! [$ts,*]) => `(tactic| simp -implicitDefEqProofs only [IDef.run, exs, IS.ex, IE.ev, IE.te, evs, evo, teo, IE.ment, ments, mento, IIt.ment, IIt.gone, iev_seq, iev_rng1, iev_rng2, iev_enum, iev_zip, mask, withE, withB, after_k, afterK_nil, afterK_non, afterK_val, afterK_own, unown, List.length_cons, List.length_nil, List.map_cons, List.map_nil, List.length_map, List.replicate, List.cons_append, List.nil_append, List.getElem?_cons_zero, List.getElem?_cons_succ, List.set_cons_zero, List.set_cons_succ, bind_ok, Bd.d, bltD, len_tup, len_lst, len_scr, tuple_lst, tuple_tup, it_lst, it_tup, sq_lst, sq_tup, add_ev, sub_ev, if_true, if_false, ite_true, ite_false, reduceIte, Bool.false_eq_true, truD, Bool.not_true, Bool.not_false, retE, Nat.reduceAdd, Nat.reduceSub, Nat.reduceBEq, Nat.zero_add, Bool.true_and, Bool.false_and, Bool.or_false, Bool.false_or, Bool.or_true, Bool.true_or, decide_true, decide_false, isn_rr, isn_rp, ix0_rr, int_int, bl, nolB_val, nolB_own, wipeE, $ts,*])
section
set_option Elab.async false
set_option linter.all false
set_option maxRecDepth 100000
/-! PF1: plain data, how a value bears it, how heaps grow. -/
namespace PF
open PySem PySem.Spec PyProof.Rows L2

inductive D where
  | non | bl (b : Bool) | int (i : Int) | str (x : Str) | tup (xs : List D) | lst (xs : List D) | fn (f : Nat) | scr (ns : List Int)
/-- what a name holds: a list of its own (no one else has it), or a value -/
inductive Bd where
  | own (xs : List D) | val (d : D)
def Bd.d : Bd → D
  | .own xs => .lst xs
  | .val d => d
inductive R (α : Type) where
  | ok (a : α) | exc (c : Nat) (at_ : Option Int) | bad
def R.bind {α β : Type} (r : R α) (f : α → R β) : R β := match r with
  | .ok a => f a
  | .exc c k => .exc c k
  | .bad => .bad
instance : Monad R where
  pure := R.ok
  bind := R.bind

/-- what stands around: the program, the world, the written part, the globals, the base; where the defs and the exceptions' classes stand -/
structure Ga where
  P : Program
  w : World
  K : PySem.W.Frag
  mg : Str → Option Value
  base : Heap
  F : Nat → Addr
  C : Nat → Addr

mutual
inductive Rep (Γ : Ga) (H : Hp) : V → D → Prop
  | non : Rep Γ H .non .non
  | bl (b : Bool) : Rep Γ H (.bl b) (.bl b)
  | int (i : Int) : Rep Γ H (.int i) (.int i)
  | str (x : Str) : Rep Γ H (.str x) (.str x)
  | tup {a : Addr} {vs : List V} {ds : List D} : SqT Γ.K H a vs → RepL Γ H vs ds → Rep Γ H (.ref a) (.tup ds)
  | lst {a : Addr} {vs : List V} {ds : List D} : H a = some (.lst vs) → RepL Γ H vs ds → Rep Γ H (.ref a) (.lst ds)
  | fn (j : Nat) : Rep Γ H (.ref (Γ.F j)) (.fn j)
  | scr {a : Addr} {ns : List Int} : SqL Γ.K H a (ns.map V.int) → Rep Γ H (.ref a) (.scr ns)
inductive RepL (Γ : Ga) (H : Hp) : List V → List D → Prop
  | nil : RepL Γ H [] []
  | cons {v : V} {vs : List V} {d : D} {ds : List D} : Rep Γ H v d → RepL Γ H vs ds → RepL Γ H (v :: vs) (d :: ds)
end

/-! ### heaps that grow -/
theorem Same.seqT {K : PySem.W.Frag} {H H' : Hp} {a : Addr} {xs : List V} (e : Same H H') (h : SqT K H a xs) : SqT K H' a xs := by
  rcases h with (h | ⟨o, h⟩) | h
  · exact .inl (.inl (e _ _ h))
  · exact .inl (.inr ⟨o, e _ _ h⟩)
  · exact .inr h
section
variable {Γ : Ga} {H H' : Hp}
mutual
theorem Rep.mono (e : Same H H') : ∀ {d : D} {v : V}, Rep Γ H v d → Rep Γ H' v d
  | .non, _, .non => .non
  | .bl _, _, .bl b => .bl b
  | .int _, _, .int i => .int i
  | .str _, _, .str x => .str x
  | .tup _, _, .tup h r => .tup (Same.seqT e h) (RepL.mono e r)
  | .lst _, _, .lst h r => .lst (e _ _ h) (RepL.mono e r)
  | .fn _, _, .fn j => .fn j
  | .scr _, _, .scr h => .scr (e.seq h)
theorem RepL.mono (e : Same H H') : ∀ {ds : List D} {vs : List V}, RepL Γ H vs ds → RepL Γ H' vs ds
  | [], _, .nil => .nil
  | _ :: _, _, .cons h r => .cons (Rep.mono e h) (RepL.mono e r)
end
end
mutual
/-- no list within -/
def nol : D → Bool
  | .lst _ => false
  | .scr _ => false
  | .tup xs => nols xs
  | _ => true
def nols : List D → Bool
  | [] => true
  | x :: xs => nol x && nols xs
end
/-- what is read as a tuple -/
def HTup (o : HO) : Prop := ∃ xs, o = .tup xs ∨ ∃ ob, o = .frz ob (.tup xs)
section
variable {Γ : Ga} {H H' : Hp}
theorem seqT_of {K : PySem.W.Frag} {a : Addr} {xs : List V} (e : ∀ a o, H a = some o → HTup o → H' a = some o) (h : SqT K H a xs) : SqT K H' a xs := by
  rcases h with (h | ⟨o, h⟩) | h
  · exact .inl (.inl (e _ _ h ⟨xs, .inl rfl⟩))
  · exact .inl (.inr ⟨o, e _ _ h ⟨xs, .inr ⟨o, rfl⟩⟩⟩)
  · exact .inr h
mutual
theorem Rep.tups (e : ∀ a o, H a = some o → HTup o → H' a = some o) : ∀ {d : D} {v : V}, nol d = true → Rep Γ H v d → Rep Γ H' v d
  | .non, _, _, .non => .non
  | .bl _, _, _, .bl b => .bl b
  | .int _, _, _, .int i => .int i
  | .str _, _, _, .str x => .str x
  | .tup _, _, n, .tup h r => .tup (seqT_of e h) (RepL.tups e (by simpa [nol] using n) r)
  | .lst _, _, n, _ => by simp [nol] at n
  | .fn _, _, _, .fn j => .fn j
  | .scr _, _, n, _ => by simp [nol] at n
theorem RepL.tups (e : ∀ a o, H a = some o → HTup o → H' a = some o) : ∀ {ds : List D} {vs : List V}, nols ds = true → RepL Γ H vs ds → RepL Γ H' vs ds
  | [], _, _, .nil => .nil
  | _ :: _, _, n, .cons h r => by
    simp only [nols, Bool.and_eq_true] at n
    exact .cons (Rep.tups e n.1 h) (RepL.tups e n.2 r)
end
theorem RepL.length : ∀ {ds : List D} {vs : List V}, RepL Γ H vs ds → vs.length = ds.length
  | [], _, .nil => rfl
  | _ :: _, _, .cons _ r => by rw [List.length_cons, List.length_cons, RepL.length r]
theorem RepL.get : ∀ {ds : List D} {vs : List V} {i : Nat} {d : D}, RepL Γ H vs ds → ds[i]? = some d → ∃ v, vs[i]? = some v ∧ Rep Γ H v d
  | [], _, i, _, .nil, h => by simp at h
  | _ :: _, _, 0, d, .cons h r, e => by
    simp at e
    subst e
    exact ⟨_, rfl, h⟩
  | _ :: _, _, i + 1, d, .cons h r, e => by
    obtain ⟨v, h1, h2⟩ := RepL.get (i := i) (d := d) r (by simpa using e)
    exact ⟨v, by simpa using h1, h2⟩
theorem RepL.getV : ∀ {ds : List D} {vs : List V} {i : Nat} {v : V}, RepL Γ H vs ds → vs[i]? = some v → ∃ d, ds[i]? = some d ∧ Rep Γ H v d
  | [], _, i, _, .nil, h => by simp at h
  | _ :: _, _, 0, v, .cons h r, e => by
    simp at e
    subst e
    exact ⟨_, rfl, h⟩
  | _ :: _, _, i + 1, d, .cons h r, e => by
    obtain ⟨v, h1, h2⟩ := RepL.getV (i := i) (v := d) r (by simpa using e)
    exact ⟨v, by simpa using h1, h2⟩
theorem RepL.append : ∀ {ds es : List D} {vs us : List V}, RepL Γ H vs ds → RepL Γ H us es → RepL Γ H (vs ++ us) (ds ++ es)
  | [], _, _, _, .nil, s => s
  | _ :: _, _, _, _, .cons h r, s => .cons h (RepL.append r s)
theorem RepL.take : ∀ {ds : List D} {vs : List V} (n : Nat), RepL Γ H vs ds → RepL Γ H (vs.take n) (ds.take n)
  | _, _, 0, _ => by simpa using RepL.nil
  | [], _, n + 1, .nil => by simpa using RepL.nil
  | _ :: _, _, n + 1, .cons h r => by simpa using RepL.cons h (RepL.take n r)
theorem RepL.drop : ∀ {ds : List D} {vs : List V} (n : Nat), RepL Γ H vs ds → RepL Γ H (vs.drop n) (ds.drop n)
  | _, _, 0, h => by simpa using h
  | [], _, n + 1, .nil => by simpa using RepL.nil
  | _ :: _, _, n + 1, .cons h r => by simpa using RepL.drop n r
theorem RepL.set {v : V} {d : D} (hd : Rep Γ H v d) : ∀ {ds : List D} {vs : List V} (n : Nat), RepL Γ H vs ds → RepL Γ H (vs.set n v) (ds.set n d)
  | [], _, n, .nil => by simpa using RepL.nil
  | _ :: _, _, 0, .cons h r => by simpa using RepL.cons hd r
  | _ :: _, _, n + 1, .cons h r => by simpa using RepL.cons h (RepL.set hd n r)
theorem RepL.reverse {ds : List D} {vs : List V} (h : RepL Γ H vs ds) : RepL Γ H vs.reverse ds.reverse := by
  induction ds generalizing vs with
  | nil => cases h; exact .nil
  | cons d ds ih =>
    cases h with
    | cons h r =>
      rw [List.reverse_cons, List.reverse_cons]
      exact (ih r).append (.cons h .nil)
theorem RepL.rep {ds : List D} {vs : List V} (h : RepL Γ H vs ds) : ∀ k : Nat, RepL Γ H (List.replicate k vs).flatten (List.replicate k ds).flatten
  | 0 => .nil
  | k + 1 => by
    rw [List.replicate_succ, List.replicate_succ, List.flatten_cons, List.flatten_cons]
    exact h.append (RepL.rep h k)
end

/-- from P (what stays for ever) and H to P' and H' -/
structure Ext (P H P' H' : Hp) : Prop where
  same : Same H H'
  grow : Same P P'
  sub : Same P' H'
  new : ∀ a o, P' a = some o → P a = some o ∨ H a = none
section
variable {Γ : Ga} {P H P' H' P1 H1 P2 H2 : Hp}
theorem Ext.refl (h : Same P H) : Ext P H P H := ⟨Same.refl _, Same.refl _, h, fun _ _ e => .inl e⟩
theorem Ext.trans (a : Ext P H P1 H1) (b : Ext P1 H1 P2 H2) : Ext P H P2 H2 := ⟨a.same.trans b.same, a.grow.trans b.grow, b.sub, fun x o e => by
  rcases b.new x o e with e | e
  · exact a.new x o e
  · exact .inr (a.same.free e)⟩
/-- a new object that stays -/
theorem Ext.new1 {p : Addr} {o : HO} (h : Same P H) (n : H p = none) : Ext P H (upd P p o) (upd H p o) where
  same := fun b u e => by rw [upd_ne (ne_of_none e n)]; exact e
  grow := fun b u e => by rw [upd_ne (ne_of_none (h _ _ e) n)]; exact e
  sub := fun b u e => by
    by_cases hb : b = p
    · subst hb; rw [upd_same] at e ⊢; exact e
    · rw [upd_ne hb] at e ⊢; exact h _ _ e
  new := fun b u e => by
    by_cases hb : b = p
    · subst hb; exact .inr n
    · rw [upd_ne hb] at e; exact .inl e
/-- a new list of one's own -/
theorem Ext.new0 {p : Addr} {o : HO} (h : Same P H) (n : H p = none) : Ext P H P (upd H p o) where
  same := fun b u e => by rw [upd_ne (ne_of_none e n)]; exact e
  grow := Same.refl _
  sub := fun b u e => by rw [upd_ne (ne_of_none (h _ _ e) n)]; exact h _ _ e
  new := fun _ _ e => .inl e
theorem Same.none {H H' : Hp} (h : Same H H') {a : Addr} (n : H' a = Option.none) : H a = Option.none := h.free n

/-- a value bears what a name holds; H0: the heap ahead -/
def RB (Γ : Ga) (P H H0 : Hp) (v : V) : Bd → Prop
  | .val d => Rep Γ P v d
  | .own xs => ∃ o vs, v = .ref o ∧ H o = some (.lst vs) ∧ P o = none ∧ H0 o = none ∧ RepL Γ P vs xs
theorem RB.freeze {b : Bd} {v : V} (r : RB Γ P' H' H v b) (e : Ext P H P' H') : ∃ P2, Ext P H P2 H' ∧ Same P' P2 ∧ Rep Γ P2 v b.d := by
  cases b with
  | val d => exact ⟨P', e, Same.refl _, r⟩
  | own xs =>
    obtain ⟨o, vs, rfl, h1, h2, h3, h4⟩ := r
    have s2 : Same P' (upd P' o (.lst vs)) := fun b u q => by rw [upd_ne (ne_of_none q h2)]; exact q
    refine ⟨upd P' o (.lst vs), ⟨e.same, e.grow.trans s2, fun b u q => ?_, fun b u q => ?_⟩, s2, .lst upd_same (h4.mono s2)⟩
    · by_cases hb : b = o
      · subst hb; rw [upd_same] at q; rw [← q]; exact h1
      · rw [upd_ne hb] at q; exact e.sub _ _ q
    · by_cases hb : b = o
      · subst hb; exact .inr h3
      · rw [upd_ne hb] at q; exact e.new _ _ q
theorem RB.ext {b : Bd} {v : V} {H0 : Hp} (r : RB Γ P1 H1 H0 v b) (e : Ext P1 H1 P2 H2) : RB Γ P2 H2 H0 v b := by
  cases b with
  | val d => exact Rep.mono e.grow r
  | own xs =>
    obtain ⟨o, vs, rfl, h1, h2, h3, h4⟩ := r
    refine ⟨o, vs, rfl, e.same _ _ h1, ?_, h3, h4.mono e.grow⟩
    cases q : P2 o with
    | none => rfl
    | some u =>
      rcases e.new _ _ q with z | z
      · rw [h2] at z; cases z
      · rw [h1] at z; cases z
theorem RB.base {b : Bd} {v : V} {H0 H3 : Hp} (r : RB Γ P1 H1 H3 v b) (s : Same H0 H3) : RB Γ P1 H1 H0 v b := by
  cases b with
  | val d => exact r
  | own xs =>
    obtain ⟨o, vs, e, h1, h2, h3, h4⟩ := r
    exact ⟨o, vs, e, h1, h2, s.free h3, h4⟩

/-- an exception: its class, its own dict -/
def XRep (Γ : Ga) (H : Hp) (cls : Value) (d : Option Addr) (c : Nat) : Option Int → Prop
  | some i => cls = .ref (Γ.C c) ∧ ∃ dd, d = some dd ∧ H dd = some (.xd [(("at" : Str), .int i)])
  | none => cls = .ref (Γ.C c) ∧ d = none

/-! ### what is wanted behind: of an answer, or of an exception -/
def Wp (Γ : Ga) (W : XK) (P H : Hp) (r : R Bd) (Q : VK) : Prop := match r with
  | .ok b => ∀ P' H' v, Ext P H P' H' → RB Γ P' H' H v b → Q v H'
  | .exc c k => ∀ P' H' cls d, Ext P H P' H' → XRep Γ H' cls d c k → W cls d H'
  | .bad => False
def WpL (Γ : Ga) (W : XK) (P H : Hp) (r : R (List D)) (Q : List V → Hp → Prop) : Prop := match r with
  | .ok ds => ∀ P' H' vs, Ext P H P' H' → RepL Γ P' vs ds → Q vs H'
  | .exc c k => ∀ P' H' cls d, Ext P H P' H' → XRep Γ H' cls d c k → W cls d H'
  | .bad => False
def WpB (Γ : Ga) (W : XK) (P H : Hp) (r : R Bool) (Q : Bool → Hp → Prop) : Prop := match r with
  | .ok b => ∀ P' H', Ext P H P' H' → Q b H'
  | .exc c k => ∀ P' H' cls d, Ext P H P' H' → XRep Γ H' cls d c k → W cls d H'
  | .bad => False
variable {W : XK}
theorem Wp.later {r : R Bd} {Q : VK} (h : Wp Γ W P H r Q) (e : Ext P H P1 H1) : Wp Γ W P1 H1 r Q := by
  cases r with
  | ok b => exact fun P' H' v x q => h P' H' v (e.trans x) (q.base e.same)
  | exc c k => exact fun P' H' cls d x q => h P' H' cls d (e.trans x) q
  | bad => exact h
theorem WpL.later {r : R (List D)} {Q : List V → Hp → Prop} (h : WpL Γ W P H r Q) (e : Ext P H P1 H1) : WpL Γ W P1 H1 r Q := by
  cases r with
  | ok b => exact fun P' H' v x q => h P' H' v (e.trans x) q
  | exc c k => exact fun P' H' cls d x q => h P' H' cls d (e.trans x) q
  | bad => exact h
theorem WpB.later {r : R Bool} {Q : Bool → Hp → Prop} (h : WpB Γ W P H r Q) (e : Ext P H P1 H1) : WpB Γ W P1 H1 r Q := by
  cases r with
  | ok b => exact fun P' H' x => h P' H' (e.trans x)
  | exc c k => exact fun P' H' cls d x q => h P' H' cls d (e.trans x) q
  | bad => exact h
end
end PF

end

section
set_option Elab.async false
set_option linter.all false
set_option maxRecDepth 100000
/-! PF2: the intermediate language and its interpreter over plain data. -/
namespace PF
open PySem L2

inductive Bop where | add | sub | mul | fdiv | mod | pow
inductive Cop where | eq | ne | lt | le | gt | ge | isn | isnn | inn | nin
inductive Ty where | int | bool | str | tuple | list
  deriving DecidableEq
/-- built-ins called by their names -/
inductive Blt where | len | abs | int | tuple | list | all | any | sum | max1 | max2 | min2 | gcd | sorted | str
  deriving DecidableEq
inductive Tg where
  | nm (i : Nat) | tup (ts : List Tg)

mutual
inductive IE where
  | var (i : Nat)
  | con (d : D)
  | glb (x : String) (d : D)
  | fnv (j : Nat)
  | bin (op : Bop) (a b : IE)
  | cmp (op : Cop) (a b : IE)
  | chain (o1 o2 : Cop) (a b c : IE)
  | neg (a : IE)
  | not (a : IE)
  | and (a b : IE)
  | or (a b : IE)
  | one (a : IE)
  | tr (a : IE)
  | ife (c a b : IE)
  | tup (es : List IE)
  | lst (es : List IE)
  | ix (a i : IE)
  | sl (a : IE) (lo hi : Option IE)
  | rev (a : IE)
  | call (j : Nat) (es : List IE)
  | callv (i : Nat) (es : List IE)
  | blt (b : Blt) (es : List IE)
  | lenset (a : IE)
  | lrng (a : IE)
  | isin (a : IE) (t : Ty)
  | isin2 (a : IE) (t u : Ty)
  | join (s a : IE)
  | index (a x : IE)
  | comp (elt : IE) (tg : Tg) (it : IIt) (own : List Nat) (ifs : Option IE)
  | comp2 (elt : IE) (tg : Tg) (it : IIt) (tg2 : Tg) (it2 : IIt) (own : List Nat)
inductive IIt where
  | seq (e : IE)
  | rng1 (a : IE)
  | rng2 (a b : IE)
  | enum (e : IE)
  | zip (a b : IE)
  | zip3 (a b c : IE)
  | rev (e : IE)
end

/-- what is done in an except suite -/
inductive Su where
  | retAt | retAtEq (i : Nat) | retAtEqC (k : Int) | addAt (i : Nat) | ifAt (k : Int)

inductive IS where
  | set (i : Nat) (e : IE)
  | asg (t : Tg) (e : IE)
  | par (i j : Nat) (a b : IE)
  | swap (xs : Nat) (i j : Nat) (a b c d : IE)
  | ixs (i : Nat) (k e : IE)
  | aug (i : Nat) (op : Bop) (e : IE)
  | app (i : Nat) (e : IE)
  | ins (i : Nat) (k e : IE)
  | ext (i : Nat) (e : IE)
  | ite (c : IE) (a b : List IS)
  | for_ (t : Tg) (it : IIt) (body : List IS)
  | whl (c : IE) (body : List IS)
  | brk | cnt
  | ret (e : IE)
  | raise (c : Nat) (e : IE)
  | raise0 (c : Nat)
  | xp (e : IE)
  | try_ (body : List IS) (c : Nat) (os : List Nat) (nm : Nat) (su : Su)
  | tryO (body : List IS) (c : Nat) (os : List Nat) (su : List IS)

/-! ### plain data -/
mutual
def toPy : D → PyData
  | .non => .none
  | .bl b => .bool b
  | .int i => .int i
  | .str x => .str x
  | .tup xs => .tuple (toPys xs)
  | .lst xs => .list (toPys xs)
  | .fn _ => .none
  | .scr _ => .none
def toPys : List D → List PyData
  | [] => []
  | x :: xs => toPy x :: toPys xs
end
mutual
def eqv : D → D → Bool
  | .non, .non => true
  | .bl a, .bl b => a == b
  | .bl a, .int j => (if a then 1 else 0) == j
  | .int i, .bl b => i == (if b then 1 else 0)
  | .int i, .int j => i == j
  | .str x, .str y => x == y
  | .tup xs, .tup ys => eqvs xs ys
  | .lst xs, .lst ys => eqvs xs ys
  | _, _ => false
def eqvs : List D → List D → Bool
  | [], [] => true
  | x :: xs, y :: ys => eqv x y && eqvs xs ys
  | _, _ => false
end
mutual
/-- no def within, texts of signs -/
def wf : D → Bool
  | .str x => PyData.strOk x
  | .tup xs => wfs xs
  | .lst xs => wfs xs
  | .fn _ => false
  | .scr _ => false
  | _ => true
def wfs : List D → Bool
  | [] => true
  | x :: xs => wf x && wfs xs
end
mutual
def dep : D → Nat
  | .tup xs => deps xs + 1
  | .lst xs => deps xs + 1
  | _ => 0
def deps : List D → Nat
  | [] => 0
  | x :: xs => max (dep x) (deps xs)
end
def okD (d : D) : Bool := wf d && decide (dep d ≤ 64)
def flatD : D → Bool
  | .non => true
  | .bl _ => true
  | .int _ => true
  | .str _ => true
  | _ => false
abbrev SZ : Nat := 16777216

/-! ### operations -/
/-- an int that is not too far off (told of its absolute value: a test that stays folded where the int is not known) -/
def near (n : Int) : Prop := n.natAbs ≤ 1000000000000
instance {n : Int} : Decidable (near n) := inferInstanceAs (Decidable (n.natAbs ≤ 1000000000000))
theorem near_b {n : Int} (h : near n) : -(2 ^ 62) ≤ n ∧ n < 2 ^ 62 := by unfold near at h; omega
def grd (c : Prop) [Decidable c] (r : R Bd) : R Bd := if c then r else .bad
def repl (xs : List D) (k : Nat) : List D := (List.replicate k xs).flatten
def binD : Bop → D → D → R Bd
  | .add, .int i, .int j => .ok (.val (.int (i + j)))
  | .add, .str x, .str y => grd (x.length + y.length ≤ SZ) (.ok (.val (.str (x ++ y))))
  | .add, .tup xs, .tup ys => grd (xs.length + ys.length ≤ SZ) (.ok (.val (.tup (xs ++ ys))))
  | .add, .lst xs, .lst ys => grd (xs.length + ys.length ≤ SZ) (.ok (.own (xs ++ ys)))
  | .sub, .int i, .int j => .ok (.val (.int (i - j)))
  | .mul, .int i, .int j => grd (i.natAbs.log2 + j.natAbs.log2 < 1000000 ∨ j.natAbs < 2 ^ 64) (.ok (.val (.int (i * j))))
  | .mul, .lst xs, .int k => grd (near k ∧ xs.length * k.toNat ≤ SZ) (.ok (.own (repl xs k.toNat)))
  | .mul, .tup xs, .int k => grd (-1000 ≤ k ∧ k ≤ 1000 ∧ xs.length ≤ 1000) (.ok (.val (.tup (repl xs k.toNat))))
  | .fdiv, .int i, .int j => grd (0 < j ∧ j.natAbs.log2 < 9000) (.ok (.val (.int (i / j))))
  | .mod, .int i, .int j => grd (0 < j) (.ok (.val (.int (i % j))))
  | .pow, .int i, .int j => grd (0 ≤ j ∧ j ≤ 1000000 ∧ i.natAbs < 2 ^ 64) (.ok (.val (.int (i ^ j.toNat))))
  | _, _, _ => .bad
def bl (b : Bool) : R Bd := .ok (.val (.bl b))
def anyEq (x : D) (xs : List D) : Bool := xs.any fun y => eqv y x
def inD (neg : Bool) (x : D) (xs : List D) : R Bd := grd (flatD x = true ∧ xs.all flatD = true) (bl (if neg then !anyEq x xs else anyEq x xs))
def cmpD : Cop → D → D → R Bd
  | .eq, x, y => grd (okD x = true ∧ okD y = true) (bl (eqv x y))
  | .ne, x, y => grd (okD x = true ∧ okD y = true) (bl (!eqv x y))
  | .lt, .int i, .int j => bl (decide (i < j))
  | .le, .int i, .int j => bl (decide (i ≤ j))
  | .gt, .int i, .int j => bl (decide (j < i))
  | .ge, .int i, .int j => bl (decide (j ≤ i))
  | .lt, .str x, .str y => bl (decide (x.cps.toList < y.cps.toList))
  | .le, .str x, .str y => bl (!decide (y.cps.toList < x.cps.toList))
  | .isn, x, .non => bl (match x with | .non => true | _ => false)
  | .isnn, x, .non => bl (match x with | .non => false | _ => true)
  | .inn, x, .tup ys => inD false x ys
  | .inn, x, .lst ys => inD false x ys
  | .nin, x, .tup ys => inD true x ys
  | .nin, x, .lst ys => inD true x ys
  | _, _, _ => .bad
def negD : D → R Bd
  | .int i => .ok (.val (.int (-i)))
  | _ => .bad
/-- truth -/
def truD : D → R Bool
  | .non => .ok false
  | .bl b => .ok b
  | .int i => .ok (i != 0)
  | .str y => if y.length ≤ SZ then .ok ((y.length : Int) != 0) else .bad
  | .tup xs => .ok (!xs.isEmpty)
  | .lst xs => .ok (!xs.isEmpty)
  | .fn _ => .bad
  | .scr _ => .bad
def ixD : D → D → R Bd
  | .tup xs, .int i => match atI xs i with
    | some d => .ok (.val d)
    | none => .bad
  | .lst xs, .int i => match atI xs i with
    | some d => .ok (.val d)
    | none => .bad
  | .scr ns, .int i => match atI ns i with
    | some d => .ok (.val (.int d))
    | none => .bad
  | .str z, .int i => match atI z.cps.toList i with
    | some c => grd (z.length ≤ SZ) (.ok (.val (.str ⟨#[c]⟩)))
    | none => .bad
  | _, _ => .bad
def cutD (xs : List D) (lo hi : Option Int) : List D := (xs.drop (HT.sIx xs.length 0 lo)).take (HT.sIx xs.length xs.length hi - HT.sIx xs.length 0 lo)
def slD : D → Option Int → Option Int → R Bd
  | .tup xs, lo, hi => .ok (.val (.tup (cutD xs lo hi)))
  | .lst xs, lo, hi => .ok (.own (cutD xs lo hi))
  | _, _, _ => .bad
def tyD : Ty → D → Bool
  | .int, .int _ => true
  | .int, .bl _ => true
  | .bool, .bl _ => true
  | .str, .str _ => true
  | .tuple, .tup _ => true
  | .list, .lst _ => true
  | _, _ => false
def isinD (t : Ty) : D → R Bd
  | .fn _ => .bad
  | .scr _ => .bad
  | d => bl (tyD t d)
def isin2D (t u : Ty) : D → R Bd
  | .fn _ => .bad
  | .scr _ => .bad
  | d => bl (tyD t d || tyD u d)
def intsD : List D → Option (List Int)
  | [] => some []
  | .int i :: r => (intsD r).map (i :: ·)
  | _ :: _ => none
def blsD : List D → Option (List Bool)
  | [] => some []
  | .bl i :: r => (blsD r).map (i :: ·)
  | _ :: _ => none
def strsD : List D → Option (List Str)
  | [] => some []
  | .str i :: r => (strsD r).map (i :: ·)
  | _ :: _ => none
def insI (x : Int) : List Int → List Int
  | [] => [x]
  | y :: r => if x ≤ y then x :: y :: r else y :: insI x r
def srtI : List Int → List Int
  | [] => []
  | x :: r => insI x (srtI r)
def maxI : Int → List Int → Int
  | m, [] => m
  | m, x :: r => maxI (if m < x then x else m) r
def lenF : List D → R Bd
  | [.tup xs] => .ok (.val (.int xs.length))
  | [.lst xs] => .ok (.val (.int xs.length))
  | [.scr xs] => .ok (.val (.int xs.length))
  | [.str x] => grd (x.length ≤ SZ) (.ok (.val (.int x.length)))
  | _ => .bad
def absF : List D → R Bd
  | [.int i] => .ok (.val (.int (if i < 0 then -i else i)))
  | _ => .bad
def intF : List D → R Bd
  | [.int i] => .ok (.val (.int i))
  | _ => .bad
def tupleF : List D → R Bd
  | [.tup xs] => .ok (.val (.tup xs))
  | [.lst xs] => .ok (.val (.tup xs))
  | _ => .bad
def listF : List D → R Bd
  | [.tup xs] => .ok (.own xs)
  | [.lst xs] => .ok (.own xs)
  | _ => .bad
def allF : List D → R Bd
  | [.lst xs] => (match blsD xs with
    | some bs => bl (bs.all id)
    | none => .bad)
  | _ => .bad
def anyF : List D → R Bd
  | [.lst xs] => (match blsD xs with
    | some bs => bl (bs.any id)
    | none => .bad)
  | _ => .bad
def sumF : List D → R Bd
  | [.lst xs] => (match intsD xs with
    | some ns => .ok (.val (.int ns.sum))
    | none => .bad)
  | _ => .bad
def max1F : List D → R Bd
  | [.lst xs] => (match intsD xs with
    | some (n :: ns) => .ok (.val (.int (maxI n ns)))
    | _ => .bad)
  | _ => .bad
def max2F : List D → R Bd
  | [.int i, .int j] => .ok (.val (.int (if j > i then j else i)))
  | _ => .bad
def min2F : List D → R Bd
  | [.int i, .int j] => .ok (.val (.int (if j < i then j else i)))
  | _ => .bad
def gcdF : List D → R Bd
  | [.int a, .int b] => .ok (.val (.int ((Nat.gcd a.natAbs b.natAbs : Nat) : Int)))
  | _ => .bad
def sortedF : List D → R Bd
  | [.lst xs] => (match intsD xs with
    | some ns => .ok (.own ((srtI ns).map .int))
    | none => .bad)
  | _ => .bad
def strF : List D → R Bd
  | [.int i] => grd (i.natAbs.log2 < 1920) (.ok (.val (.str (toString i))))
  | _ => .bad
def bltD : Blt → List D → R Bd
  | .len => lenF
  | .abs => absF
  | .int => intF
  | .tuple => tupleF
  | .list => listF
  | .all => allF
  | .any => anyF
  | .sum => sumF
  | .max1 => max1F
  | .max2 => max2F
  | .min2 => min2F
  | .gcd => gcdF
  | .sorted => sortedF
  | .str => strF
/-- how many unlike ones (texts or intsD) -/
def distinct : List D → List D → Nat
  | _, [] => 0
  | seen, x :: r => if anyEq x seen then distinct seen r else distinct (seen ++ [x]) r + 1
def lensetD : D → R Bd
  | .tup xs => grd (xs.all (fun d => match d with | .int _ => true | .str _ => true | _ => false) = true ∧ xs.length ≤ 4000) (.ok (.val (.int (distinct [] xs))))
  | .lst xs => grd (xs.all (fun d => match d with | .int _ => true | .str _ => true | _ => false) = true ∧ xs.length ≤ 4000) (.ok (.val (.int (distinct [] xs))))
  | _ => .bad
def rngD (lo : Int) (n : Nat) : List D := (List.range n).map fun (i : Nat) => D.int (lo + i)
def lrngD : D → R Bd
  | .int n => grd (n ≤ 1000000) (.ok (.own (rngD 0 n.toNat)))
  | _ => .bad
def joinD : D → D → R Bd
  | .str s, .lst xs => match strsD xs with
    | some ws => grd ((ws.map (·.length)).sum + s.length * ws.length ≤ SZ) (.ok (.val (.str (Txt.join s ws))))
    | none => .bad
  | .str s, .tup xs => match strsD xs with
    | some ws => grd ((ws.map (·.length)).sum + s.length * ws.length ≤ SZ) (.ok (.val (.str (Txt.join s ws))))
    | none => .bad
  | _, _ => .bad
def findD (x : D) : Nat → List D → Option Nat
  | _, [] => none
  | k, y :: r => if eqv y x then some k else findD x (k + 1) r
def indexD : D → D → R Bd
  | .lst xs, x => match findD x 0 xs with
    | some k => grd (flatD x = true ∧ xs.all flatD = true) (.ok (.val (.int (k : Nat))))
    | none => .bad
  | .tup xs, x => match findD x 0 xs with
    | some k => grd (flatD x = true ∧ xs.all flatD = true) (.ok (.val (.int (k : Nat))))
    | none => .bad
  | _, _ => .bad
/-- what is walked -/
def itemsD : D → R (List D)
  | .tup xs => .ok xs
  | .lst xs => .ok xs
  | .str z => .ok (z.cps.toList.map fun c => .str ⟨#[c]⟩)
  | _ => .bad
def seqD : D → R (List D)
  | .tup xs => .ok xs
  | .lst xs => .ok xs
  | _ => .bad
def enumFrom : Nat → List D → List D
  | _, [] => []
  | k, x :: r => .tup [.int (k : Nat), x] :: enumFrom (k + 1) r
def zipD : List D → List D → List D
  | x :: xs, y :: ys => .tup [x, y] :: zipD xs ys
  | _, _ => []
def zip3D : List D → List D → List D → List D
  | x :: xs, y :: ys, z :: zs => .tup [x, y, z] :: zip3D xs ys zs
  | _, _, _ => []

/-! ### names that are mentioned -/
mutual
def IE.ment : IE → Nat → Bool
  | .var i, k => i == k
  | .con _, _ => false
  | .glb _ _, _ => false
  | .fnv _, _ => false
  | .bin _ a b, k => a.ment k || b.ment k
  | .cmp _ a b, k => a.ment k || b.ment k
  | .chain _ _ a b c, k => a.ment k || (b.ment k || c.ment k)
  | .neg a, k => a.ment k
  | .not a, k => a.ment k
  | .and a b, k => a.ment k || b.ment k
  | .or a b, k => a.ment k || b.ment k
  | .one a, k => a.ment k
  | .tr a, k => a.ment k
  | .ife c a b, k => c.ment k || (a.ment k || b.ment k)
  | .tup es, k => ments es k
  | .lst es, k => ments es k
  | .ix a i, k => a.ment k || i.ment k
  | .sl a lo hi, k => a.ment k || (mento lo k || mento hi k)
  | .rev a, k => a.ment k
  | .call _ es, k => ments es k
  | .callv i es, k => i == k || ments es k
  | .blt _ es, k => ments es k
  | .lenset a, k => a.ment k
  | .lrng a, k => a.ment k
  | .isin a _, k => a.ment k
  | .isin2 a _ _, k => a.ment k
  | .join s a, k => s.ment k || a.ment k
  | .index a x, k => a.ment k || x.ment k
  | .comp elt _ it _ ifs, k => elt.ment k || (it.ment k || mento ifs k)
  | .comp2 elt _ it _ it2 _, k => elt.ment k || (it.ment k || it2.ment k)
def ments : List IE → Nat → Bool
  | [], _ => false
  | e :: r, k => e.ment k || ments r k
def mento : Option IE → Nat → Bool
  | none, _ => false
  | some e, k => e.ment k
def IIt.ment : IIt → Nat → Bool
  | .seq e, k => e.ment k
  | .rng1 a, k => a.ment k
  | .rng2 a b, k => a.ment k || b.ment k
  | .enum e, k => e.ment k
  | .zip a b, k => a.ment k || b.ment k
  | .zip3 a b c, k => a.ment k || (b.ment k || c.ment k)
  | .rev e, k => e.ment k
end
/-- .. that are given away by walking -/
def IIt.gone : IIt → Nat → Bool
  | .seq e, k => e.ment k
  | .rng1 _, _ => false
  | .rng2 _ _, _ => false
  | .enum e, k => e.ment k
  | .zip a b, k => a.ment k || b.ment k
  | .zip3 a b c, k => a.ment k || (b.ment k || c.ment k)
  | .rev e, k => e.ment k

/-! ### expressions -/
abbrev Env := List (Option D)
/-- what a target's names take -/
def asgs : Tg → D → Option (List (Nat × D))
  | .nm i, d => some [(i, d)]
  | .tup ts, d => match d with
    | .tup xs => asgss ts xs
    | .lst xs => asgss ts xs
    | _ => none
where asgss : List Tg → List D → Option (List (Nat × D))
  | [], [] => some []
  | t :: ts, x :: xs => (asgs t x).bind fun a => (asgss ts xs).bind fun b => some (a ++ b)
  | _, _ => none
def setE : List (Nat × D) → Env → Env
  | [], η => η
  | p :: r, η => setE r (η.set p.1 (some p.2))
def putT (t : Tg) (d : D) (η : Env) : R Env := match asgs t d with
  | some l => .ok (setE l η)
  | none => .bad
/-- own names of a comprehension forgotten -/
def wipeE (η : Env) : List Nat → Env
  | [] => η
  | v :: vs => (wipeE η vs).set v none
def compF (put : D → Env → R Env) (test : Env → R Bool) (elt : Env → R Bd) (η : Env) : List D → R (List D)
  | [] => .ok []
  | x :: r => match put x η with
    | .ok η1 => (match test η1 with
      | .ok true => (match elt η1 with
        | .ok b => (match compF put test elt η r with
          | .ok ds => .ok (b.d :: ds)
          | _ => .bad)
        | _ => .bad)
      | .ok false => compF put test elt η r
      | _ => .bad)
    | _ => .bad
def flatF (f : D → R (List D)) : List D → R (List D)
  | [] => .ok []
  | x :: r => match f x with
    | .ok ds => (match flatF f r with
      | .ok es => .ok (ds ++ es)
      | _ => .bad)
    | _ => .bad
section
variable (m : Nat → List D → R Bd)
mutual
def IE.ev : IE → Env → R Bd
  | .var i, η => match η[i]? with
    | some (some d) => .ok (.val d)
    | _ => .bad
  | .con d, _ => .ok (.val d)
  | .glb _ d, _ => .ok (.val d)
  | .fnv j, _ => .ok (.val (.fn j))
  | .bin op a b, η => (a.ev η).bind fun x => (b.ev η).bind fun y => binD op x.d y.d
  | .cmp op a b, η => (a.ev η).bind fun x => (b.ev η).bind fun y => cmpD op x.d y.d
  | .chain o1 o2 a b c, η => (a.ev η).bind fun x => (b.ev η).bind fun y => (cmpD o1 x.d y.d).bind fun t => match t with
    | .val (.bl true) => (c.ev η).bind fun z => cmpD o2 y.d z.d
    | .val (.bl false) => .ok (.val (.bl false))
    | _ => .bad
  | .neg a, η => (a.ev η).bind fun x => negD x.d
  | .not a, η => (a.ev η).bind fun x => (truD x.d).bind fun t => bl (!t)
  | .and a b, η => (a.ev η).bind fun x => (truD x.d).bind fun t => if t then b.ev η else .ok (.val x.d)
  | .or a b, η => (a.ev η).bind fun x => (truD x.d).bind fun t => if t then .ok (.val x.d) else b.ev η
  | .one a, η => a.ev η
  | .tr _, _ => .bad
  | .ife c a b, η => (c.te η).bind fun t => if t then a.ev η else b.ev η
  | .tup es, η => (evs es η).bind fun ds => grd (ds.length ≤ SZ) (.ok (.val (.tup ds)))
  | .lst es, η => (evs es η).bind fun ds => grd (ds.length ≤ SZ) (.ok (.own ds))
  | .ix a i, η => (a.ev η).bind fun x => (i.ev η).bind fun y => ixD x.d y.d
  | .sl a lo hi, η => (a.ev η).bind fun x => (evo lo η).bind fun l => (evo hi η).bind fun h => slD x.d l h
  | .rev a, η => (a.ev η).bind fun x => match x.d with
    | .lst xs => .ok (.own xs.reverse)
    | _ => .bad
  | .call j es, η => (evs es η).bind fun ds => m j ds
  | .callv i es, η => match η[i]? with
    | some (some (.fn j)) => (match evs es η with
      | .ok ds => m j ds
      | _ => .bad)
    | _ => .bad
  | .blt b es, η => (evs es η).bind fun ds => bltD b ds
  | .lenset a, η => (a.ev η).bind fun x => lensetD x.d
  | .lrng a, η => (a.ev η).bind fun x => lrngD x.d
  | .isin a t, η => (a.ev η).bind fun x => isinD t x.d
  | .isin2 a t u, η => (a.ev η).bind fun x => isin2D t u x.d
  | .join s a, η => (s.ev η).bind fun x => match x.d with
    | .str _ => (a.ev η).bind fun y => joinD x.d y.d
    | _ => .bad
  | .index a x, η => (a.ev η).bind fun y => match y.d with
    | .lst _ => (x.ev η).bind fun z => indexD y.d z.d
    | .tup _ => (x.ev η).bind fun z => indexD y.d z.d
    | _ => .bad
  | .comp elt tg it own ifs, η => (it.ev η).bind fun items => (compF (putT tg) (fun η1 => teo ifs η1) (fun η1 => elt.ev η1) (wipeE η own) items).bind fun ds => grd (ds.length ≤ SZ) (.ok (.own ds))
  | .comp2 elt tg it tg2 it2 own, η => (it.ev η).bind fun items => (flatF (fun x => (putT tg x (wipeE η own)).bind fun η1 => (it2.ev η1).bind fun items2 => compF (putT tg2) (fun _ => .ok true) (fun η2 => elt.ev η2) η1 items2) items).bind fun ds => grd (ds.length ≤ SZ) (.ok (.own ds))
def evs : List IE → Env → R (List D)
  | [], _ => .ok []
  | e :: r, η => (e.ev η).bind fun b => (evs r η).bind fun ds => .ok (b.d :: ds)
def evo : Option IE → Env → R (Option Int)
  | none, _ => .ok none
  | some e, η => (e.ev η).bind fun b => match b.d with
    | .int i => .ok (some i)
    | _ => .bad
/-- a test -/
def IE.te : IE → Env → R Bool
  | .cmp op a b, η => (a.ev η).bind fun x => (b.ev η).bind fun y => (cmpD op x.d y.d).bind fun t => match t with
    | .val (.bl c) => .ok c
    | _ => .bad
  | .not a, η => (a.te η).bind fun t => .ok (!t)
  | .and a b, η => (a.te η).bind fun t => if t then b.te η else .ok false
  | .or a b, η => (a.te η).bind fun t => if t then .ok true else b.te η
  | .one a, η => a.te η
  | .chain o1 o2 a b c, η => (a.ev η).bind fun x => (b.ev η).bind fun y => (cmpD o1 x.d y.d).bind fun t => match t with
    | .val (.bl true) => (c.ev η).bind fun z => (cmpD o2 y.d z.d).bind fun t => match t with
      | .val (.bl c) => .ok c
      | _ => .bad
    | .val (.bl false) => .ok false
    | _ => .bad
  | .tr e, η => (e.ev η).bind fun x => truD x.d
  | _, _ => .bad
def teo : Option IE → Env → R Bool
  | none, _ => .ok true
  | some e, η => e.te η
def IIt.ev : IIt → Env → R (List D)
  | .seq e, η => (e.ev η).bind fun x => itemsD x.d
  | .rng1 a, η => (a.ev η).bind fun x => match x.d with
    | .int n => if near n then .ok (rngD 0 n.toNat) else .bad
    | _ => .bad
  | .rng2 a b, η => (a.ev η).bind fun x => (b.ev η).bind fun y => match x.d, y.d with
    | .int i, .int j => if near i ∧ near j then .ok (rngD i (j - i).toNat) else .bad
    | _, _ => .bad
  | .enum e, η => (e.ev η).bind fun x => (seqD x.d).bind fun xs => .ok (enumFrom 0 xs)
  | .zip a b, η => (a.ev η).bind fun x => (b.ev η).bind fun y => (seqD x.d).bind fun xs => (seqD y.d).bind fun ys => .ok (zipD xs ys)
  | .zip3 a b c, η => (a.ev η).bind fun x => (b.ev η).bind fun y => (c.ev η).bind fun z => (seqD x.d).bind fun xs => (seqD y.d).bind fun ys => (seqD z.d).bind fun zs => .ok (zip3D xs ys zs)
  | .rev e, η => (e.ev η).bind fun x => (seqD x.d).bind fun xs => .ok xs.reverse
end

/-! ### statements -/
abbrev SEnv := List (Option Bd)
inductive Fl where
  | nx | bk | ct | rt (b : Bd)
inductive SR where
  | ok (ρ : SEnv) (f : Fl) | exc (c : Nat) (k : Option Int) (ρ : SEnv) | bad
/-- what an expression sees: an own list only if it is mentioned -/
def mask (M : Nat → Bool) : Nat → SEnv → Env
  | _, [] => []
  | i, none :: r => none :: mask M (i + 1) r
  | i, some (.val d) :: r => some d :: mask M (i + 1) r
  | i, some (.own xs) :: r => (if M i then some (.lst xs) else none) :: mask M (i + 1) r
/-- the own lists that are mentioned are no more one's own -/
def unown (M : Nat → Bool) : Nat → SEnv → SEnv
  | _, [] => []
  | i, some (.own xs) :: r => (if M i then some (.val (.lst xs)) else some (.own xs)) :: unown M (i + 1) r
  | i, b :: r => b :: unown M (i + 1) r
def nolB : Bd → Bool
  | .own xs => nols xs
  | .val d => nol d
def after (M : Nat → Bool) (b : Bd) (ρ : SEnv) : SEnv := if nolB b then ρ else unown M 0 ρ
def setS : List (Nat × D) → SEnv → SEnv
  | [], ρ => ρ
  | p :: r, ρ => setS r (ρ.set p.1 (some (.val p.2)))
def putS (t : Tg) (d : D) (ρ : SEnv) : Option SEnv := match asgs t d with
  | some l => some (setS l ρ)
  | none => none
def loopF (put : D → SEnv → Option SEnv) (body : SEnv → SR) : List D → SEnv → SR
  | [], ρ => .ok ρ .nx
  | x :: r, ρ => match put x ρ with
    | none => .bad
    | some ρ1 => match body ρ1 with
      | .ok ρ2 .nx => loopF put body r ρ2
      | .ok ρ2 .ct => loopF put body r ρ2
      | .ok ρ2 .bk => .ok ρ2 .nx
      | .ok ρ2 (.rt b) => .ok ρ2 (.rt b)
      | .exc c k ρ2 => .exc c k ρ2
      | .bad => .bad
def whileF (test : SEnv → R Bool) (body : SEnv → SR) : Nat → SEnv → SR
  | 0, _ => .bad
  | n + 1, ρ => match test ρ with
    | .ok true => (match body ρ with
      | .ok ρ2 .nx => whileF test body n ρ2
      | .ok ρ2 .ct => whileF test body n ρ2
      | .ok ρ2 .bk => .ok ρ2 .nx
      | .ok ρ2 (.rt b) => .ok ρ2 (.rt b)
      | .exc c k ρ2 => .exc c k ρ2
      | .bad => .bad)
    | .ok false => .ok ρ .nx
    | .exc c k => .exc c k ρ
    | .bad => .bad
def fuel : Nat := 10 ^ 60
def eqAtF (k : Int) (ρ : SEnv) : Option (Option Bd) → SR
  | some (some (.val (.int j))) => .ok ρ (.rt (.val (.bl (decide (k = j)))))
  | _ => .bad
def addAtF (i : Nat) (k : Int) (ρ : SEnv) : Option (Option Bd) → SR
  | some (some (.val (.int j))) => .ok (ρ.set i (some (.val (.int (j + k))))) .nx
  | _ => .bad
def suF : Su → Int → SEnv → SR
  | .retAt, k, ρ => .ok ρ (.rt (.val (.int k)))
  | .retAtEq i, k, ρ => eqAtF k ρ ρ[i]?
  | .retAtEqC j, k, ρ => .ok ρ (.rt (.val (.bl (decide (k = j)))))
  | .addAt i, k, ρ => addAtF i k ρ ρ[i]?
  | .ifAt j, k, ρ => if k = j then .ok ρ .ct else .ok ρ .nx
def noX : SR → SR
  | .exc _ _ _ => .bad
  | r => r
def catchF (c : Nat) (os : List Nat) (h : Option Int → SEnv → SR) : SR → SR
  | .exc c' k ρ => if c' = c then noX (h k ρ) else if c' ∈ os then .exc c' k ρ else .bad
  | .ok ρ f => .ok ρ f
  | .bad => .bad
/-- the suite's own name goes -/
def suA (nm : Nat) (su : Su) : Option Int → SEnv → SR
  | some k, ρ => if nm < ρ.length then suF su k (ρ.set nm none) else .bad
  | none, _ => .bad
/-- an expression's answer, handed on -/
def withE (M : Nat → Bool) (ρ : SEnv) (r : R Bd) (k : Bd → SEnv → SR) : SR := match r with
  | .ok b => k b (after M b ρ)
  | .exc c at_ => .exc c at_ ρ
  | .bad => .bad
def withB (ρ : SEnv) (r : R Bool) (k : Bool → SR) : SR := match r with
  | .ok b => k b
  | .exc c at_ => .exc c at_ ρ
  | .bad => .bad
def isOwn : Option (Option Bd) → Bool
  | some (some (.own _)) => true
  | _ => false
def appS (i : Nat) (d : D) (ρ : SEnv) : SR := match ρ[i]? with
  | some (some (.own xs)) => if xs.length < SZ then .ok (ρ.set i (some (.own (xs ++ [d])))) .nx else .bad
  | _ => .bad
def ixsS (i : Nat) (k : D) (d : D) (ρ : SEnv) : SR := match ρ[i]?, k with
  | some (some (.own xs)), .int j => (match ixN xs.length j with
    | some p => .ok (ρ.set i (some (.own (xs.set p d)))) .nx
    | none => .bad)
  | _, _ => .bad
def extS (i : Nat) (d : D) (ρ : SEnv) : SR := match ρ[i]?, d with
  | some (some (.own xs)), .lst ys => if xs.length + ys.length ≤ SZ then .ok (ρ.set i (some (.own (xs ++ ys)))) .nx else .bad
  | _, _ => .bad
/-- what an expression that is handed back gives: an own name's list goes with it -/
def retE (e : IE) (ρ : SEnv) : R Bd := match e with
  | .var i => (match ρ[i]? with
    | some (some b) => .ok b
    | _ => .bad)
  | e => e.ev m (mask e.ment 0 ρ)
mutual
def IS.ex : IS → SEnv → SR
  | .set i e, ρ => withE e.ment ρ (e.ev m (mask e.ment 0 ρ)) fun b ρ1 => .ok (ρ1.set i (some b)) .nx
  | .asg t e, ρ => withE e.ment ρ (e.ev m (mask e.ment 0 ρ)) fun b ρ1 => match putS t b.d ρ1 with
    | some ρ2 => .ok ρ2 .nx
    | none => .bad
  | .par i j a b, ρ => withE (fun k => a.ment k || b.ment k) ρ ((a.ev m (mask (fun k => a.ment k || b.ment k) 0 ρ)).bind fun x => (b.ev m (mask (fun k => a.ment k || b.ment k) 0 ρ)).bind fun y => .ok (.val (.tup [x.d, y.d]))) fun t ρ1 => match t with
    | .val (.tup [x, y]) => .ok ((ρ1.set i (some (.val x))).set j (some (.val y))) .nx
    | _ => .bad
  | .swap _ _ _ _ _ _ _, _ => .bad
  | .ixs i k e, ρ => withE e.ment ρ (e.ev m (mask e.ment 0 ρ)) fun b ρ1 => if isOwn ρ1[i]? then withE k.ment ρ1 (k.ev m (mask k.ment 0 ρ1)) fun kb ρ2 => ixsS i kb.d b.d ρ2 else .bad
  | .aug i op e, ρ => match ρ[i]? with
    | some (some (.val (.int x))) => withE e.ment ρ (e.ev m (mask e.ment 0 ρ)) fun b ρ1 => (match op, b with
      | .add, .val (.int y) => .ok (ρ1.set i (some (.val (.int (x + y))))) .nx
      | .sub, .val (.int y) => .ok (ρ1.set i (some (.val (.int (x - y))))) .nx
      | _, _ => .bad)
    | _ => .bad
  | .app i e, ρ => if isOwn ρ[i]? then withE e.ment ρ (e.ev m (mask e.ment 0 ρ)) fun b ρ1 => appS i b.d ρ1 else .bad
  | .ins _ _ _, _ => .bad
  | .ext i e, ρ => if isOwn ρ[i]? then withE e.ment ρ (e.ev m (mask e.ment 0 ρ)) fun b ρ1 => extS i b.d ρ1 else .bad
  | .ite c a b, ρ => withB ρ (c.te m (mask c.ment 0 ρ)) fun t => if t then exs a ρ else exs b ρ
  | .for_ t it body, ρ => match it.ev m (mask it.ment 0 ρ) with
    | .ok items => loopF (putS t) (fun ρ1 => exs body ρ1) items (unown it.gone 0 ρ)
    | .exc c k => .exc c k ρ
    | .bad => .bad
  | .whl c body, ρ => whileF (fun ρ1 => c.te m (mask c.ment 0 ρ1)) (fun ρ1 => exs body ρ1) fuel ρ
  | .brk, ρ => .ok ρ .bk
  | .cnt, ρ => .ok ρ .ct
  | .ret e, ρ => match retE m e ρ with
    | .ok b => .ok ρ (.rt b)
    | .exc c k => .exc c k ρ
    | .bad => .bad
  | .raise c e, ρ => withE e.ment ρ (e.ev m (mask e.ment 0 ρ)) fun b _ => match b with
    | .val (.int k) => .exc c (some k) ρ
    | _ => .bad
  | .raise0 c, ρ => .exc c none ρ
  | .xp e, ρ => withE e.ment ρ (e.ev m (mask e.ment 0 ρ)) fun _ ρ1 => .ok ρ1 .nx
  | .try_ body c os nm su, ρ => catchF c os (suA nm su) (exs body ρ)
  | .tryO body c os su, ρ => catchF c os (fun _ ρ1 => exs su ρ1) (exs body ρ)
def exs : List IS → SEnv → SR
  | [], ρ => .ok ρ .nx
  | s :: r, ρ => match s.ex ρ with
    | .ok ρ1 .nx => exs r ρ1
    | x => x
end
end
/-- a def: how many parameters, how many names, its body -/
structure IDef where
  ar : Nat
  n : Nat
  body : List IS
def IDef.run (m : Nat → List D → R Bd) (d : IDef) (ds : List D) : R Bd :=
  if ds.length = d.ar then
    match exs m d.body (ds.map (fun x => some (.val x)) ++ List.replicate (d.n - d.ar) none) with
    | .ok _ .nx => .ok (.val .non)
    | .ok _ (.rt b) => .ok b
    | .exc c k _ => .exc c k
    | _ => .bad
  else .bad
def sem (defs : Nat → Option IDef) : Nat → Nat → List D → R Bd
  | 0, _, _ => .bad
  | n + 1, j, ds => match defs j with
    | some d => d.run (sem defs n) ds
    | none => .bad
end PF

end

section
set_option Elab.async false
set_option linter.all false
set_option maxRecDepth 100000
/-! PF3: the operations by values. -/
namespace PF
open PySem PySem.Spec PyProof.Rows L2
abbrev ga (X : Cx) (F C : Nat → Addr) : Ga := ⟨X.prog, X.w, X.K, X.mg, X.base, F, C⟩
theorem SZ_eq : (SZ : Nat) = sizeLine := by rw [sizeLine_eq]
section
variable {Γ : Ga} {W : XK} {P H : Hp} {Q : VK}
theorem Wp.value {d : D} {v : V} (h : Wp Γ W P H (.ok (.val d)) Q) (s : Same P H) (r : Rep Γ P v d) : Q v H := h P H v (Ext.refl s) r
theorem Wp.tuple {ds : List D} {vs : List V} {p : Addr} (h : Wp Γ W P H (.ok (.val (.tup ds))) Q) (s : Same P H) (r : RepL Γ P vs ds) (n : H p = none) : Q (.ref p) (upd H p (.tup vs)) :=
  h (upd P p (.tup vs)) _ _ (Ext.new1 s n) (.tup (.inl (.inl upd_same)) (r.mono (Ext.new1 s n).grow))
theorem Wp.list {ds : List D} {vs : List V} {p : Addr} (h : Wp Γ W P H (.ok (.own ds)) Q) (s : Same P H) (r : RepL Γ P vs ds) (n : H p = none) : Q (.ref p) (upd H p (.lst vs)) :=
  h P _ _ (Ext.new0 s n) ⟨p, vs, rfl, upd_same, s.free n, n, r⟩
theorem Wp.grd {c : Prop} [Decidable c] {r : R Bd} (h : Wp Γ W P H (PF.grd c r) Q) : c ∧ Wp Γ W P H r Q := by
  unfold PF.grd at h
  split at h
  · exact ⟨by assumption, h⟩
  · exact h.elim
theorem seqL {K : PySem.W.Frag} {a : Addr} {vs : List V} (s : Same P H) (h : P a = some (.lst vs)) : SqL K H a vs := .inl (.inl (s _ _ h))
end
/-- (..) * 1, () * k: the tuple itself -/
theorem tmul_same (l : Addr) (its : Array Value) (n : Nat) (dd : Option Addr) (sl : Array (Option Value)) (x : Int) (u : Tok) (h0 : (decide (x < -(2 ^ 63)) || decide (x ≥ 2 ^ 63)) = false) (h1 : (its.isEmpty || x == 1) = true) :
    Meets (Builtin.«tuple.__mul__» ⟨[.ref l, .int x u], []⟩) (fun _ R s => s.heap.get? l = some { cls := .type "tuple", dict := dd, data := .seq its n, slots := sl } ∧ R (.ok (.ret (Value.ref l))) s) :=
  .of_wp fun prog w A R s h => by
    obtain ⟨hp, g, d, tk, os⟩ := s
    obtain ⟨hl, h⟩ := h
    have f1 := AutoSeq1.idx_int
    wp_walk using wpAny_loadPart' hl
    refine wpAny_ite_false (decide_eq_false (by rw [h0]; exact Bool.false_ne_true)) ?_
    wp_walk using wpAny_loadPart' hl
    exact ⟨_, rfl, h⟩
/-- (..) * 0 -/
theorem tmul_none (l : Addr) (its : Array Value) (n : Nat) (dd : Option Addr) (sl : Array (Option Value)) (x : Int) (u : Tok) (h0 : (decide (x < -(2 ^ 63)) || decide (x ≥ 2 ^ 63)) = false) (h1 : (its.isEmpty || x == 1) = false) (h2 : (decide (x ≤ 0) || its.isEmpty) = true) :
    Meets (Builtin.«tuple.__mul__» ⟨[.ref l, .int x u], []⟩) (fun _ R s => s.heap.get? l = some { cls := .type "tuple", dict := dd, data := .seq its n, slots := sl } ∧
      R (.ok (.ret (Value.ref s.heap.objs.size))) { s with heap := s.heap.push { cls := Value.type "tuple", data := Data.seq #[] }, toks := s.toks }) :=
  .of_wp fun prog w A R s h => by
    obtain ⟨hp, g, d, tk, os⟩ := s
    obtain ⟨hl, h⟩ := h
    have f1 := AutoSeq1.idx_int
    wp_walk using wpAny_loadPart' hl
    refine wpAny_ite_false (decide_eq_false (by rw [h0]; exact Bool.false_ne_true)) ?_
    wp_walk using wpAny_loadPart' hl
    exact ⟨_, rfl, h⟩

def rRepS (K : PySem.W.Frag) : R2 := fun x y H Q => ∃ l k xs, x = .ref l ∧ y = .int k ∧ SqT K H l xs ∧ -(2 ^ 63) ≤ k ∧ k < 2 ^ 63 ∧
  (((xs = [] ∨ k = 1) ∧ Q (.ref l) H) ∨ (xs ≠ [] ∧ k ≤ 0 ∧ ∀ p, H p = none → Q (.ref p) (upd H p (.tup []))))
theorem op_repS {X : Cx} : OpR X (binaryOp .Mult) (rRepS X.K) := by
  intro pins s σ H x y v u Q I rx ry h
  obtain ⟨l, k, xs, rfl, rfl, hT, hk1, hk2, q⟩ := h
  cases rx
  obtain ⟨t, rfl⟩ := ry
  obtain ⟨its, r, ⟨⟨cls, dd, data, sl⟩, ho, hc, n, hd⟩, hs⟩ := I.tuple hT
  simp only at hc hd
  subst hc hd
  have c0 : (decide (k < -(2 ^ 63)) || decide (k ≥ 2 ^ 63)) = false := by
    rw [decide_eq_false (by omega), decide_eq_false (by omega)] <;> rfl
  have go : ∀ {R : Result → Shared → Prop}, codeAny (model X.prog X.w) X.A (.call (.builtin "tuple.__mul__") ⟨[.ref l, .int k t], []⟩) R s → codeAny (model X.prog X.w) X.A (.call (.builtin "tuple.__mul__") ⟨[.ref l, .int k t], []⟩) R s := fun z => z
  refine wpAny_binaryOp_repeat_ref (T := "tuple") (U := "int") (by decide) ⟨_, ho, rfl⟩ (fun s' => typeIs_int s' k t) noFill_tuple_mul F.fills_int_mul F.slot_int_rmul repeat_tuple F.slot_int_index.lookup
    (call_meets F.slot_int_rmul (typeIs_int s k t) F.entry_int_rmul (F.args_int_rmul_2 _ _) (int_rmul_tuple k t l its.toArray n dd sl) ⟨ho, rfl, ⟨_, ho, rfl⟩, ?_⟩)
  rcases q with ⟨hx, q⟩ | ⟨hne, hk, q⟩
  · have c1 : (its.toArray.isEmpty || k == 1) = true := by
      rcases hx with e | e
      · subst e
        cases r
        rfl
      · subst e
        rw [Bool.or_eq_true]
        exact .inr rfl
    exact call_meets F.slot_tuple_mul ⟨_, ho, rfl⟩ F.entry_tuple_mul (F.args_tuple_mul_2 _ _) (tmul_same l its.toArray n dd sl k t c0 c1) ⟨ho, .ref l, H, I, rfl, q⟩
  · have c1 : (its.toArray.isEmpty || k == 1) = false := by
      cases r with
      | nil => exact absurd rfl hne
      | cons a b =>
        rw [Bool.or_eq_false_iff]
        exact ⟨rfl, beq_eq_false_iff_ne.mpr (by omega)⟩
    have c2 : (decide (k ≤ 0) || its.toArray.isEmpty) = true := by
      rw [decide_eq_true hk]
      rfl
    refine call_meets F.slot_tuple_mul ⟨_, ho, rfl⟩ F.entry_tuple_mul (F.args_tuple_mul_2 _ _) (tmul_none l its.toArray n dd sl k t c0 c1 c2) ⟨ho, ?_⟩
    refine ⟨.ref s.heap.objs.size, _, I.laid (t' := s.toks) (o := .tup []) (fun b ob q => Heap.get?_push_of_some _ q) (Nat.le_refl _) ?_, rfl, q _ (I.hok.fresh (Nat.le_refl _))⟩
    exact ⟨Nat.zero_le _, [], .nil, IsTup.new _ _⟩
/-- an operation of two values -/
def OpOk (F C : Nat → Addr) (X : Cx) (fn : Value → Value → Sem Value) (g : D → D → R Bd) : Prop :=
  ∃ r : R2, OpR X fn r ∧ ∀ (P H : Hp) (x y : V) (dx dy : D) (W : XK) (Q : VK), Same P H → Rep (ga X F C) P x dx → Rep (ga X F C) P y dy → Wp (ga X F C) W P H (g dx dy) Q → r x y H Q
section
variable {F C : Nat → Addr} {X : Cx}
theorem add_ok : OpOk F C X (binaryOp .Add) (binD .add) := by
  refine ⟨_, OpR.or (OpR.or op_add op_add_str) (OpR.or (op_catA (X := X)) op_cat), fun P H x y dx dy W Q s rx ry h => ?_⟩
  cases dx with
  | int i =>
    cases dy with
    | int j => cases rx; cases ry; exact .inl (.inl ⟨_, _, rfl, rfl, h.value s (.int _)⟩)
    | _ => exact h.elim
  | str i =>
    cases dy with
    | str j =>
      cases rx; cases ry
      obtain ⟨c, h⟩ := h.grd
      exact .inl (.inr ⟨_, _, rfl, rfl, by rw [← SZ_eq]; exact c, h.value s (.str _)⟩)
    | _ => exact h.elim
  | tup i =>
    cases dy with
    | tup j =>
      cases rx with
      | tup q1 r1 =>
        cases ry with
        | tup q2 r2 =>
          obtain ⟨c, h⟩ := h.grd
          refine .inr (.inl ⟨_, _, _, _, rfl, rfl, Same.seqT s q1, Same.seqT s q2, by rw [← SZ_eq, r1.length, r2.length]; exact c, fun e => ?_, fun _ e => ?_, fun _ _ p np => ?_⟩)
          · subst e
            cases r1
            exact h.value s (.tup q2 r2)
          · subst e
            cases r2
            rw [List.append_nil] at h
            exact h.value s (.tup q1 r1)
          · exact h.tuple s (r1.append r2) np
    | _ => exact h.elim
  | lst i =>
    cases dy with
    | lst j =>
      cases rx with
      | lst q1 r1 =>
        cases ry with
        | lst q2 r2 =>
          obtain ⟨c, h⟩ := h.grd
          exact .inr (.inr ⟨_, _, _, _, rfl, rfl, s _ _ q1, s _ _ q2, by rw [← SZ_eq, r1.length, r2.length]; exact c, fun p np => h.list s (r1.append r2) np⟩)
    | _ => exact h.elim
  | _ => exact h.elim
theorem sub_ok : OpOk F C X (binaryOp .Sub) (binD .sub) := by
  refine ⟨_, op_sub, fun P H x y dx dy W Q s rx ry h => ?_⟩
  cases dx with
  | int i =>
    cases dy with
    | int j => cases rx; cases ry; exact ⟨_, _, rfl, rfl, h.value s (.int _)⟩
    | _ => exact h.elim
  | _ => exact h.elim
theorem mul_ok : OpOk F C X (binaryOp .Mult) (binD .mul) := by
  refine ⟨_, OpR.or (OpR.or op_mulW op_mul) (OpR.or op_rep (OpR.or (op_repT (X := X)) op_repS)), fun P H x y dx dy W Q s rx ry h => ?_⟩
  cases dx with
  | int i =>
    cases dy with
    | int j =>
      cases rx; cases ry
      obtain ⟨c, h⟩ := h.grd
      rcases c with c | c
      · exact .inl (.inl ⟨_, _, rfl, rfl, c, h.value s (.int _)⟩)
      · exact .inl (.inr ⟨_, _, rfl, rfl, .inr (by omega), h.value s (.int _)⟩)
    | _ => exact h.elim
  | lst i =>
    cases dy with
    | int j =>
      cases rx with
      | lst q1 r1 =>
        cases ry
        obtain ⟨⟨c1, c3⟩, h⟩ := h.grd
        have c2 := near_b c1
        exact .inr (.inl ⟨_, _, _, rfl, rfl, s _ _ q1, by omega, by omega, by rw [← SZ_eq, r1.length]; exact c3, fun p np => h.list s (r1.rep _) np⟩)
    | _ => exact h.elim
  | tup i =>
    cases dy with
    | int j =>
      cases rx with
      | tup q1 r1 =>
        cases ry
        obtain ⟨⟨c2, c3, c4⟩, h⟩ := h.grd
        by_cases hx : i = []
        · subst hx
          cases r1
          refine .inr (.inr (.inr ⟨_, _, _, rfl, rfl, Same.seqT s q1, by omega, by omega, .inl ⟨.inl rfl, ?_⟩⟩))
          have e : repl [] j.toNat = [] := by
            unfold repl
            induction j.toNat with
            | zero => rfl
            | succ n ih => rw [List.replicate_succ, List.flatten_cons, ih]; rfl
          rw [e] at h
          exact h.value s (.tup q1 .nil)
        · by_cases h1 : j = 1
          · subst h1
            refine .inr (.inr (.inr ⟨_, _, _, rfl, rfl, Same.seqT s q1, by omega, by omega, .inl ⟨.inr rfl, ?_⟩⟩))
            have e : repl i (1 : Int).toNat = i := by
              show ([i] : List (List D)).flatten = i
              simp
            rw [e] at h
            exact h.value s (.tup q1 r1)
          · have ne : ∀ {vs : List V}, RepL (ga X F C) P vs i → vs ≠ [] := fun r e => by
              subst e
              cases r
              exact hx rfl
            by_cases h0 : j ≤ 0
            · refine .inr (.inr (.inr ⟨_, _, _, rfl, rfl, Same.seqT s q1, by omega, by omega, .inr ⟨ne r1, h0, fun p np => ?_⟩⟩))
              have e : repl i j.toNat = [] := by
                rw [show j.toNat = 0 by omega]
                rfl
              rw [e] at h
              exact h.tuple s .nil np
            · exact .inr (.inr (.inl ⟨_, _, _, rfl, rfl, Same.seqT s q1, ne r1, by omega, c3, by rw [r1.length]; exact c4, fun p np => h.tuple s (r1.rep _) np⟩))
    | _ => exact h.elim
  | _ => exact h.elim
theorem fdiv_ok : OpOk F C X (binaryOp .FloorDiv) (binD .fdiv) := by
  refine ⟨_, op_fdivW, fun P H x y dx dy W Q s rx ry h => ?_⟩
  cases dx with
  | int i =>
    cases dy with
    | int j =>
      cases rx; cases ry
      obtain ⟨c, h⟩ := h.grd
      exact ⟨_, _, rfl, rfl, c, h.value s (.int _)⟩
    | _ => exact h.elim
  | _ => exact h.elim
theorem mod_ok : OpOk F C X (binaryOp .Mod) (binD .mod) := by
  refine ⟨_, op_mod, fun P H x y dx dy W Q s rx ry h => ?_⟩
  cases dx with
  | int i =>
    cases dy with
    | int j =>
      cases rx; cases ry
      obtain ⟨c, h⟩ := h.grd
      exact ⟨_, _, rfl, rfl, c, h.value s (.int _)⟩
    | _ => exact h.elim
  | _ => exact h.elim
theorem pow_ok : OpOk F C X (binaryOp .Pow) (binD .pow) := by
  refine ⟨_, op_pow, fun P H x y dx dy W Q s rx ry h => ?_⟩
  cases dx with
  | int i =>
    cases dy with
    | int j =>
      cases rx; cases ry
      obtain ⟨c, h⟩ := h.grd
      exact ⟨_, _, rfl, rfl, c, h.value s (.int _)⟩
    | _ => exact h.elim
  | _ => exact h.elim

/-! ### == of data -/
section
variable {Γ : Ga} {P H : Hp}
mutual
theorem Rep.dp (s : Same P H) : ∀ {d : D} {v : V}, wf d = true → Rep Γ P v d → Dp Γ.K H v (toPy d)
  | .non, _, _, .non => .non
  | .bl _, _, _, .bl b => .bl b
  | .int _, _, _, .int b => .int b
  | .str _, _, _, .str b => .str b
  | .tup _, _, w, .tup q r => .tup (Same.seqT s q) (RepL.dp s (by simpa [wf] using w) r)
  | .lst _, _, w, .lst q r => .lst (seqL s q) (RepL.dp s (by simpa [wf] using w) r)
  | .fn _, _, w, _ => by simp [wf] at w
  | .scr _, _, w, _ => by simp [wf] at w
theorem RepL.dp (s : Same P H) : ∀ {ds : List D} {vs : List V}, wfs ds = true → RepL Γ P vs ds → DpAll Γ.K H vs (toPys ds)
  | [], _, _, .nil => .nil
  | _ :: _, _, w, .cons h r => by
    simp only [wfs, Bool.and_eq_true] at w
    exact .cons (Rep.dp s w.1 h) (RepL.dp s w.2 r)
end
end
mutual
theorem canLay_of : ∀ {d : D}, wf d = true → PyData.canLay0 (toPy d) = true
  | .non, _ => rfl
  | .bl _, _ => rfl
  | .int _, _ => rfl
  | .str _, w => by simpa [wf, toPy, PyData.canLay0] using w
  | .tup _, w => by
    simp only [toPy, PyData.canLay0]
    exact canLays_of (by simpa [wf] using w)
  | .lst _, w => by
    simp only [toPy, PyData.canLay0]
    exact canLays_of (by simpa [wf] using w)
  | .fn _, w => by simp [wf] at w
  | .scr _, w => by simp [wf] at w
theorem canLays_of : ∀ {ds : List D}, wfs ds = true → PyData.canLayAll0 (toPys ds) = true
  | [], _ => rfl
  | _ :: _, w => by
    simp only [wfs, Bool.and_eq_true] at w
    simp only [toPys, PyData.canLayAll0, Bool.and_eq_true]
    exact ⟨canLay_of w.1, canLays_of w.2⟩
end
mutual
theorem dep_of : ∀ d : D, PyData.depth (toPy d) = dep d
  | .non => rfl
  | .bl _ => rfl
  | .int _ => rfl
  | .str _ => rfl
  | .tup _ => by simp only [toPy, PyData.depth, dep]; rw [deps_of]
  | .lst _ => by simp only [toPy, PyData.depth, dep]; rw [deps_of]
  | .fn _ => rfl
  | .scr _ => rfl
theorem deps_of : ∀ ds : List D, PyData.depthAll (toPys ds) = deps ds
  | [] => rfl
  | _ :: _ => by simp only [toPys, PyData.depthAll, deps]; rw [dep_of, deps_of]
end
theorem shaped_of {d : D} (h : okD d = true) : SeqAt.shaped (toPy d) = true := by
  unfold okD at h
  simp only [Bool.and_eq_true, decide_eq_true_eq] at h
  unfold SeqAt.shaped
  simp only [Bool.and_eq_true, decide_eq_true_eq]
  exact ⟨canLay_of h.1, by rw [dep_of]; exact h.2⟩
mutual
theorem eqv_of : ∀ {d e : D}, wf d = true → wf e = true → PyData.eqv (toPy d) (toPy e) = eqv d e
  | .tup xs, e, wd, we => by
    cases e with
    | tup ys => simp only [toPy, PyData.eqv, eqv]; exact eqvs_of (by simpa [wf] using wd) (by simpa [wf] using we)
    | fn _ => simp [wf] at we
    | scr _ => simp [wf] at we
    | _ => simp only [toPy, PyData.eqv, eqv]
  | .lst xs, e, wd, we => by
    cases e with
    | lst ys => simp only [toPy, PyData.eqv, eqv]; exact eqvs_of (by simpa [wf] using wd) (by simpa [wf] using we)
    | fn _ => simp [wf] at we
    | scr _ => simp [wf] at we
    | _ => simp only [toPy, PyData.eqv, eqv]
  | .fn _, _, wd, _ => by simp [wf] at wd
  | .scr _, _, wd, _ => by simp [wf] at wd
  | .non, e, _, we => by
    cases e with
    | fn _ => simp [wf] at we
    | scr _ => simp [wf] at we
    | _ => simp only [toPy, PyData.eqv, eqv]
  | .bl _, e, _, we => by
    cases e with
    | fn _ => simp [wf] at we
    | scr _ => simp [wf] at we
    | _ => simp only [toPy, PyData.eqv, eqv]
  | .int _, e, _, we => by
    cases e with
    | fn _ => simp [wf] at we
    | scr _ => simp [wf] at we
    | _ => simp only [toPy, PyData.eqv, eqv]
  | .str _, e, _, we => by
    cases e with
    | fn _ => simp [wf] at we
    | scr _ => simp [wf] at we
    | _ => simp only [toPy, PyData.eqv, eqv]
theorem eqvs_of : ∀ {ds es : List D}, wfs ds = true → wfs es = true → PyData.eqvAll (toPys ds) (toPys es) = eqvs ds es
  | [], [], _, _ => rfl
  | [], _ :: _, _, _ => rfl
  | _ :: _, [], _, _ => rfl
  | _ :: _, _ :: _, w1, w2 => by
    simp only [wfs, Bool.and_eq_true] at w1 w2
    simp only [toPys, PyData.eqvAll, eqvs]
    rw [eqv_of w1.1 w2.1, eqvs_of w1.2 w2.2]
end
theorem okD_wf {d : D} (h : okD d = true) : wf d = true := by
  unfold okD at h
  simp only [Bool.and_eq_true] at h
  exact h.1
theorem eq_ok (hu : X.A.units + 64 < cLine) : OpOk F C X (compareOp .Eq) (cmpD .eq) := by
  refine ⟨_, op_eqD hu, fun P H x y dx dy W Q s rx ry h => ?_⟩
  obtain ⟨⟨c1, c2⟩, h⟩ := h.grd
  refine ⟨_, _, rx.dp s (okD_wf c1), ry.dp s (okD_wf c2), shaped_of c1, shaped_of c2, ?_⟩
  rw [eqv_of (okD_wf c1) (okD_wf c2)]
  exact h.value s (.bl _)
theorem ne_ok (hu : X.A.units + 64 < cLine) : OpOk F C X (compareOp .NotEq) (cmpD .ne) := by
  refine ⟨_, op_neD hu, fun P H x y dx dy W Q s rx ry h => ?_⟩
  obtain ⟨⟨c1, c2⟩, h⟩ := h.grd
  refine ⟨_, _, rx.dp s (okD_wf c1), ry.dp s (okD_wf c2), shaped_of c1, shaped_of c2, ?_⟩
  rw [eqv_of (okD_wf c1) (okD_wf c2)]
  exact h.value s (.bl _)
theorem lt_ok : OpOk F C X (compareOp .Lt) (cmpD .lt) := by
  refine ⟨_, OpR.or op_lt op_lt_str, fun P H x y dx dy W Q s rx ry h => ?_⟩
  cases dx with
  | int i =>
    cases dy with
    | int j => cases rx; cases ry; exact .inl ⟨_, _, rfl, rfl, h.value s (.bl _)⟩
    | _ => exact h.elim
  | str i =>
    cases dy with
    | str j => cases rx; cases ry; exact .inr ⟨_, _, rfl, rfl, h.value s (.bl _)⟩
    | _ => exact h.elim
  | _ => exact h.elim
theorem le_ok : OpOk F C X (compareOp .LtE) (cmpD .le) := by
  refine ⟨_, OpR.or op_le op_le_str, fun P H x y dx dy W Q s rx ry h => ?_⟩
  cases dx with
  | int i =>
    cases dy with
    | int j => cases rx; cases ry; exact .inl ⟨_, _, rfl, rfl, h.value s (.bl _)⟩
    | _ => exact h.elim
  | str i =>
    cases dy with
    | str j => cases rx; cases ry; exact .inr ⟨_, _, rfl, rfl, h.value s (.bl _)⟩
    | _ => exact h.elim
  | _ => exact h.elim
theorem gt_ok : OpOk F C X (compareOp .Gt) (cmpD .gt) := by
  refine ⟨_, op_gt, fun P H x y dx dy W Q s rx ry h => ?_⟩
  cases dx with
  | int i =>
    cases dy with
    | int j => cases rx; cases ry; exact ⟨_, _, rfl, rfl, h.value s (.bl _)⟩
    | _ => exact h.elim
  | _ => exact h.elim
theorem ge_ok : OpOk F C X (compareOp .GtE) (cmpD .ge) := by
  refine ⟨_, op_ge, fun P H x y dx dy W Q s rx ry h => ?_⟩
  cases dx with
  | int i =>
    cases dy with
    | int j => cases rx; cases ry; exact ⟨_, _, rfl, rfl, h.value s (.bl _)⟩
    | _ => exact h.elim
  | _ => exact h.elim
theorem isn_ok : OpOk F C X (compareOp .Is) (cmpD .isn) := by
  refine ⟨_, op_isN, fun P H x y dx dy W Q s rx ry h => ?_⟩
  cases dy with
  | non =>
    cases ry
    refine ⟨rfl, ?_⟩
    cases rx <;> exact h.value s (.bl _)
  | _ => cases dx <;> exact h.elim
theorem isnn_ok : OpOk F C X (compareOp .IsNot) (cmpD .isnn) := by
  refine ⟨_, op_notN, fun P H x y dx dy W Q s rx ry h => ?_⟩
  cases dy with
  | non =>
    cases ry
    refine ⟨rfl, ?_⟩
    cases rx <;> exact h.value s (.bl _)
  | _ => cases dx <;> exact h.elim
/-! ### in, of flat things -/
section
variable {Γ : Ga} {P : Hp}
theorem flat_of {v : V} {d : D} (r : Rep Γ P v d) (f : flatD d = true) : flatV v = true := by
  cases r <;> first | rfl | (simp [flatD] at f)
theorem flats_of : ∀ {ds : List D} {vs : List V}, RepL Γ P vs ds → ds.all flatD = true → vs.all flatV = true
  | [], _, .nil, _ => rfl
  | _ :: _, _, .cons h r, f => by
    simp only [List.all_cons, Bool.and_eq_true] at f ⊢
    exact ⟨flat_of h f.1, flats_of r f.2⟩
theorem eqV_of {v w : V} {d e : D} (r : Rep Γ P v d) (q : Rep Γ P w e) (f : flatD d = true) (g : flatD e = true) : eqV v w = eqv d e := by
  cases r <;> first | (simp [flatD] at f; done) | (cases q <;> first | (simp [flatD] at g; done) | rfl | simp [eqV, eqv])
theorem inV_of {x : V} {dx : D} (rx : Rep Γ P x dx) (f : flatD dx = true) : ∀ {ds : List D} {vs : List V}, RepL Γ P vs ds → ds.all flatD = true → inV x vs = anyEq dx ds
  | [], _, .nil, _ => rfl
  | _ :: _, _, .cons h r, g => by
    simp only [List.all_cons, Bool.and_eq_true] at g
    show (eqV _ x || inV x _) = (eqv _ dx || anyEq dx _)
    rw [eqV_of h rx g.1 f, inV_of rx f r g.2]
end
theorem inn_ok : OpOk F C X (compareOp .In) (cmpD .inn) := by
  refine ⟨_, op_in_seq (X := X), fun P H x y dx dy W Q s rx ry h => ?_⟩
  cases dy with
  | tup ys =>
    cases ry with
    | tup q r =>
      obtain ⟨⟨c1, c2⟩, h⟩ := h.grd
      refine ⟨_, _, rfl, .inr (Same.seqT s q), flat_of rx c1, flats_of r c2, ?_⟩
      rw [inV_of rx c1 r c2]
      exact h.value s (.bl _)
  | lst ys =>
    cases ry with
    | lst q r =>
      obtain ⟨⟨c1, c2⟩, h⟩ := h.grd
      refine ⟨_, _, rfl, .inl (seqL s q), flat_of rx c1, flats_of r c2, ?_⟩
      rw [inV_of rx c1 r c2]
      exact h.value s (.bl _)
  | _ => exact h.elim
theorem nin_ok : OpOk F C X (compareOp .NotIn) (cmpD .nin) := by
  refine ⟨_, op_notIn_seq (X := X), fun P H x y dx dy W Q s rx ry h => ?_⟩
  cases dy with
  | tup ys =>
    cases ry with
    | tup q r =>
      obtain ⟨⟨c1, c2⟩, h⟩ := h.grd
      refine ⟨_, _, rfl, .inr (Same.seqT s q), flat_of rx c1, flats_of r c2, ?_⟩
      rw [inV_of rx c1 r c2]
      exact h.value s (.bl _)
  | lst ys =>
    cases ry with
    | lst q r =>
      obtain ⟨⟨c1, c2⟩, h⟩ := h.grd
      refine ⟨_, _, rfl, .inl (seqL s q), flat_of rx c1, flats_of r c2, ?_⟩
      rw [inV_of rx c1 r c2]
      exact h.value s (.bl _)
  | _ => exact h.elim
/-! ### items -/
def IxOk (F C : Nat → Addr) (X : Cx) : Prop :=
  ∃ r : R2, IxR X r ∧ ∀ (P H : Hp) (x y : V) (dx dy : D) (W : XK) (Q : VK), Same P H → Rep (ga X F C) P x dx → Rep (ga X F C) P y dy → Wp (ga X F C) W P H (ixD dx dy) Q → r x y H Q
theorem atI_of {Γ : Ga} {P : Hp} {ds : List D} {vs : List V} {i : Int} {d : D} (r : RepL Γ P vs ds) (h : atI ds i = some d) : ∃ v, atI vs i = some v ∧ Rep Γ P v d := by
  unfold atI at h ⊢
  rw [r.length]
  cases e : ixN ds.length i with
  | none => rw [e] at h; cases h
  | some j =>
    rw [e] at h
    exact r.get h
theorem ix_ok : IxOk F C X := by
  refine ⟨_, ix_seq (X := X), fun P H x y dx dy W Q s rx ry h => ?_⟩
  cases dy with
  | int i =>
    cases ry
    cases dx with
    | tup xs =>
      cases rx with
      | tup q r =>
        have h : Wp _ W P H (match atI xs i with | some d => .ok (.val d) | none => .bad) Q := h
        cases e : atI xs i with
        | none => rw [e] at h; exact h.elim
        | some d =>
          rw [e] at h
          obtain ⟨v, e2, rv⟩ := atI_of r e
          exact .inr (.inl ⟨_, _, _, v, rfl, rfl, Same.seqT s q, e2, h.value s rv⟩)
    | lst xs =>
      cases rx with
      | lst q r =>
        have h : Wp _ W P H (match atI xs i with | some d => .ok (.val d) | none => .bad) Q := h
        cases e : atI xs i with
        | none => rw [e] at h; exact h.elim
        | some d =>
          rw [e] at h
          obtain ⟨v, e2, rv⟩ := atI_of r e
          exact .inl ⟨_, _, _, v, rfl, rfl, seqL s q, e2, h.value s rv⟩
    | scr xs =>
      cases rx with
      | scr q =>
        have h : Wp _ W P H (match atI xs i with | some d => .ok (.val (.int d)) | none => .bad) Q := h
        cases e : atI xs i with
        | none => rw [e] at h; exact h.elim
        | some d =>
          rw [e] at h
          refine .inl ⟨_, _, _, .int d, rfl, rfl, s.seq q, ?_, h.value s (.int _)⟩
          unfold atI at e ⊢
          rw [List.length_map]
          cases e2 : ixN xs.length i with
          | none => rw [e2] at e; cases e
          | some j =>
            rw [e2] at e
            have e : xs[j]? = some d := e
            show (xs.map V.int)[j]? = _
            rw [List.getElem?_map, e]
            rfl
    | str z =>
      cases rx
      have h : Wp _ W P H (match atI z.cps.toList i with | some c => PF.grd (z.length ≤ SZ) (.ok (.val (.str ⟨#[c]⟩))) | none => .bad) Q := h
      cases e : atI z.cps.toList i with
      | none => rw [e] at h; exact h.elim
      | some d =>
        rw [e] at h
        obtain ⟨c, h⟩ := h.grd
        exact .inr (.inr ⟨_, _, d, rfl, rfl, by rw [← SZ_eq]; exact c, e, h.value s (.str _)⟩)
    | _ => exact h.elim
  | _ => cases dx <;> exact h.elim
/-! ### slices -/
def SlOk (F C : Nat → Addr) (X : Cx) : Prop :=
  ∃ r : V → Option Int → Option Int → Hp → VK → Prop, SlR X r ∧ ∀ (P H : Hp) (x : V) (lo hi : Option Int) (dx : D) (W : XK) (Q : VK), Same P H → Rep (ga X F C) P x dx → Wp (ga X F C) W P H (slD dx lo hi) Q → r x lo hi H Q
theorem cut_of {Γ : Ga} {P : Hp} {ds : List D} {vs : List V} (r : RepL Γ P vs ds) (lo hi : Option Int) : RepL Γ P (cutV vs lo hi) (cutD ds lo hi) := by
  unfold cutV cutD
  rw [r.length]
  exact (r.drop _).take _
theorem sl_ok : SlOk F C X := by
  refine ⟨_, SlR.or (sl_tupA (X := X)) (sl_list (X := X)), fun P H x lo hi dx W Q s rx h => ?_⟩
  cases dx with
  | tup xs =>
    cases rx with
    | tup q r =>
      refine .inl ⟨_, _, rfl, Same.seqT s q, fun ⟨e1, e2⟩ => ?_, fun _ p np => ?_⟩
      · have e : cutD xs lo hi = xs := by
          unfold cutD
          rw [← r.length, e1, e2, r.length]
          simp
        have h : Wp _ W P H (.ok (.val (.tup (cutD xs lo hi)))) Q := h
        rw [e] at h
        exact h.value s (.tup q r)
      · exact Wp.tuple (ds := cutD xs lo hi) h s (cut_of r lo hi) np
  | lst xs =>
    cases rx with
    | lst q r => exact .inr ⟨_, _, rfl, seqL s q, fun p np => Wp.list (ds := cutD xs lo hi) h s (cut_of r lo hi) np⟩
  | _ => exact h.elim
/-! ### truth -/
theorem tru_of {Γ : Ga} {P H : Hp} {v : V} {d : D} {b : Bool} (s : Same P H) (r : Rep Γ P v d) (h : truD d = .ok b) : TruV Γ.K v H b := by
  cases r with
  | non => cases h; rfl
  | bl b => cases h; rfl
  | int i => cases h; rfl
  | str x =>
    have h : (if x.length ≤ SZ then R.ok ((x.length : Int) != 0) else .bad) = .ok b := h
    split at h
    · cases h
      exact ⟨by rw [← SZ_eq]; assumption, rfl⟩
    · cases h
  | tup q r =>
    cases h
    refine .inr (.inl ⟨_, Same.seqT s q, ?_⟩)
    cases r <;> rfl
  | lst q r =>
    cases h
    refine .inl ⟨_, seqL s q, ?_⟩
    cases r <;> rfl
  | fn j => cases h
  | scr _ => cases h
end
end PF

end

section
set_option Elab.async false
set_option linter.all false
set_option maxRecDepth 100000
/-! PF4: what an expression gives (the judgements and their rules). -/
namespace PF
open PySem PySem.Spec PyProof.Rows L2
/-- the slots bear what the names hold -/
structure SimE (Γ : Ga) (P : Hp) (σ : L2.St) (η : Env) : Prop where
  len : σ.length = η.length
  val : ∀ (i : Nat) (d : D), η[i]? = some (some d) → ∃ v, σ[i]? = some (some v) ∧ Rep Γ P v d
theorem SimE.mono {Γ : Ga} {P P' : Hp} {σ : L2.St} {η : Env} (h : SimE Γ P σ η) (s : Same P P') : SimE Γ P' σ η :=
  ⟨h.len, fun i d e => let ⟨v, h1, h2⟩ := h.val i d e; ⟨v, h1, h2.mono s⟩⟩
def isComp : Expr → Bool
  | .ListComp _ _ _ _ => true
  | .SetComp _ _ _ _ => true
  | .DictComp _ _ _ _ _ => true
  | _ => false
def isStar : Expr → Bool
  | .Starred _ _ => true
  | _ => false
/-- name = e -/
def AsgOk (X : Cx) (e : Expr) (t : TE) : Prop := ∀ (i : Nat) (y : Str) (py spos : Pos), X.N[i]? = some y → Loc X.env.scope y → (X.fn y = true ∨ X.env.scope.names.lookup y = some .local) →
  PS X (.Assign [.Name y py] e spos) (tAsg t (gName i))
theorem swaps_no {e : Expr} {t : Option Expr} {l : Nat} {env : PySem.Env} (h : isComp e = false) : swapsWith e t l env = pure false := by
  cases e <;> first | rfl | (simp [isComp] at h)
theorem asg_plain {X : Cx} {e : Expr} {t : TE} (nd : X.N.Nodup) (h : PE X e t) (hc : isComp e = false) : AsgOk X e t := fun i y py spos h1 h2 h3 =>
  ps_set nd h1 h2 h (swaps_no hc) h3
section
variable (F C : Nat → Addr) (X : Cx) (W : WX)
structure EO (e : Expr) (f : Env → R Bd) : Prop where
  ex : ∃ t, PE X e t ∧ AsgOk X e t ∧ ∀ (P H : Hp) (σ : L2.St) (η : Env) (Q : VK), Same P H → SimE (ga X F C) P σ η → Wp (ga X F C) (WE W σ) P H (f η) Q → t σ H Q
  star : isStar e = false
def AO (es : List Expr) (f : Env → R (List D)) : Prop :=
  es.all (fun e => !isStar e) = true ∧ ∃ t, PA X es t ∧ ∀ (P H : Hp) (σ : L2.St) (η : Env) (Q : List V → Hp → Prop), Same P H → SimE (ga X F C) P σ η → WpL (ga X F C) (WE W σ) P H (f η) Q → t σ H Q
def TO (e : Expr) (f : Env → R Bool) : Prop :=
  ∃ t, PT X e t ∧ (∀ op es pos, e = .BoolOp op es pos → PW X e t) ∧ ∀ (P H : Hp) (σ : L2.St) (η : Env) (Q : Bool → Hp → Prop), Same P H → SimE (ga X F C) P σ η → WpB (ga X F C) (WE W σ) P H (f η) Q → t σ H Q
end
section
variable {F C : Nat → Addr} {X : Cx} {W : WX} {P H : Hp} {σ : L2.St} {η : Env} {Q : VK}
theorem EO.of {e : Expr} {f : Env → R Bd} (nd : X.N.Nodup) {t : TE} (h : PE X e t) (hc : isComp e = false) (hs : isStar e = false)
    (r : ∀ (P H : Hp) (σ : L2.St) (η : Env) (Q : VK), Same P H → SimE (ga X F C) P σ η → Wp (ga X F C) (WE W σ) P H (f η) Q → t σ H Q) : EO F C X W e f := ⟨⟨t, h, asg_plain nd h hc, r⟩, hs⟩
/-- the answer of a part, handed on -/
theorem part {t : TE} {f : Env → R Bd} {k : Bd → R Bd} {Q' : VK} (r : ∀ (P H : Hp) (σ : L2.St) (η : Env) (Q : VK), Same P H → SimE (ga X F C) P σ η → Wp (ga X F C) (WE W σ) P H (f η) Q → t σ H Q)
    (s : Same P H) (i : SimE (ga X F C) P σ η) (h : Wp (ga X F C) (WE W σ) P H ((f η).bind k) Q)
    (next : ∀ b P1 H1 v, Ext P H P1 H1 → Rep (ga X F C) P1 v b.d → Wp (ga X F C) (WE W σ) P1 H1 (k b) Q → Q' v H1) : t σ H Q' := by
  refine r P H σ η Q' s i ?_
  cases e : f η with
  | ok b =>
    rw [e] at h
    intro P' H' v x rb
    obtain ⟨P2, x2, s2, rv⟩ := rb.freeze x
    exact next b P2 H' v x2 rv (Wp.later h x2)
  | exc c k =>
    rw [e] at h
    exact h
  | bad =>
    rw [e] at h
    exact h.elim
theorem partB {t : TE} {f : Env → R Bd} {k : Bd → R Bool} {Q : Bool → Hp → Prop} {Q' : VK} (r : ∀ (P H : Hp) (σ : L2.St) (η : Env) (Q : VK), Same P H → SimE (ga X F C) P σ η → Wp (ga X F C) (WE W σ) P H (f η) Q → t σ H Q)
    (s : Same P H) (i : SimE (ga X F C) P σ η) (h : WpB (ga X F C) (WE W σ) P H ((f η).bind k) Q)
    (next : ∀ b P1 H1 v, Ext P H P1 H1 → Rep (ga X F C) P1 v b.d → WpB (ga X F C) (WE W σ) P1 H1 (k b) Q → Q' v H1) : t σ H Q' := by
  refine r P H σ η Q' s i ?_
  cases e : f η with
  | ok b =>
    rw [e] at h
    intro P' H' v x rb
    obtain ⟨P2, x2, s2, rv⟩ := rb.freeze x
    exact next b P2 H' v x2 rv (WpB.later h x2)
  | exc c k =>
    rw [e] at h
    exact h
  | bad =>
    rw [e] at h
    exact h.elim
theorem partL {t : TE} {f : Env → R Bd} {k : Bd → R (List D)} {Q : List V → Hp → Prop} {Q' : VK} (r : ∀ (P H : Hp) (σ : L2.St) (η : Env) (Q : VK), Same P H → SimE (ga X F C) P σ η → Wp (ga X F C) (WE W σ) P H (f η) Q → t σ H Q)
    (s : Same P H) (i : SimE (ga X F C) P σ η) (h : WpL (ga X F C) (WE W σ) P H ((f η).bind k) Q)
    (next : ∀ b P1 H1 v, Ext P H P1 H1 → Rep (ga X F C) P1 v b.d → WpL (ga X F C) (WE W σ) P1 H1 (k b) Q → Q' v H1) : t σ H Q' := by
  refine r P H σ η Q' s i ?_
  cases e : f η with
  | ok b =>
    rw [e] at h
    intro P' H' v x rb
    obtain ⟨P2, x2, s2, rv⟩ := rb.freeze x
    exact next b P2 H' v x2 rv (WpL.later h x2)
  | exc c k =>
    rw [e] at h
    exact h
  | bad =>
    rw [e] at h
    exact h.elim
theorem testP {t : TT} {f : Env → R Bool} {k : Bool → R Bd} {Q' : Bool → Hp → Prop} (r : ∀ (P H : Hp) (σ : L2.St) (η : Env) (Q : Bool → Hp → Prop), Same P H → SimE (ga X F C) P σ η → WpB (ga X F C) (WE W σ) P H (f η) Q → t σ H Q)
    (s : Same P H) (i : SimE (ga X F C) P σ η) (h : Wp (ga X F C) (WE W σ) P H ((f η).bind k) Q)
    (next : ∀ b P1 H1, Ext P H P1 H1 → Wp (ga X F C) (WE W σ) P1 H1 (k b) Q → Q' b H1) : t σ H Q' := by
  refine r P H σ η Q' s i ?_
  cases e : f η with
  | ok b =>
    rw [e] at h
    intro P' H' x
    exact next b P' H' x (Wp.later h x)
  | exc c k =>
    rw [e] at h
    exact h
  | bad =>
    rw [e] at h
    exact h.elim
theorem testB {t : TT} {f : Env → R Bool} {k : Bool → R Bool} {Q : Bool → Hp → Prop} {Q' : Bool → Hp → Prop} (r : ∀ (P H : Hp) (σ : L2.St) (η : Env) (Q : Bool → Hp → Prop), Same P H → SimE (ga X F C) P σ η → WpB (ga X F C) (WE W σ) P H (f η) Q → t σ H Q)
    (s : Same P H) (i : SimE (ga X F C) P σ η) (h : WpB (ga X F C) (WE W σ) P H ((f η).bind k) Q)
    (next : ∀ b P1 H1, Ext P H P1 H1 → WpB (ga X F C) (WE W σ) P1 H1 (k b) Q → Q' b H1) : t σ H Q' := by
  refine r P H σ η Q' s i ?_
  cases e : f η with
  | ok b =>
    rw [e] at h
    intro P' H' x
    exact next b P' H' x (WpB.later h x)
  | exc c k =>
    rw [e] at h
    exact h
  | bad =>
    rw [e] at h
    exact h.elim
theorem argsP {t : TA} {f : Env → R (List D)} {k : List D → R Bd} {Q' : List V → Hp → Prop} (r : ∀ (P H : Hp) (σ : L2.St) (η : Env) (Q : List V → Hp → Prop), Same P H → SimE (ga X F C) P σ η → WpL (ga X F C) (WE W σ) P H (f η) Q → t σ H Q)
    (s : Same P H) (i : SimE (ga X F C) P σ η) (h : Wp (ga X F C) (WE W σ) P H ((f η).bind k) Q)
    (next : ∀ ds P1 H1 vs, Ext P H P1 H1 → RepL (ga X F C) P1 vs ds → Wp (ga X F C) (WE W σ) P1 H1 (k ds) Q → Q' vs H1) : t σ H Q' := by
  refine r P H σ η Q' s i ?_
  cases e : f η with
  | ok b =>
    rw [e] at h
    intro P' H' vs x rv
    exact next b P' H' vs x rv (Wp.later h x)
  | exc c k =>
    rw [e] at h
    exact h
  | bad =>
    rw [e] at h
    exact h.elim
theorem star_cons {e : Expr} {es : List Expr} {env : PySem.Env} (h : isStar e = false) : starEach (e :: es) env = (false, eval e env) :: starEach es env := by
  cases e <;> first | rfl | (simp [isStar] at h)
theorem star_plain : ∀ {es : List Expr} {env : PySem.Env} {pos : Pos}, es.all (fun e => !isStar e) = true → (backTo pos (starEach es env)).any (·.1) = false
  | [], _, _, _ => rfl
  | e :: es, env, pos, h => by
    simp only [List.all_cons, Bool.and_eq_true, Bool.not_eq_true'] at h
    rw [star_cons h.1]
    have := star_plain (env := env) (pos := pos) h.2
    cases es with
    | nil => rfl
    | cons e2 es =>
      have h2 := h.2
      simp only [List.all_cons, Bool.and_eq_true, Bool.not_eq_true'] at h2
      rw [star_cons h2.1] at this ⊢
      exact this

/-! ### names, constants -/
variable (nd : X.N.Nodup)
include nd
theorem eo_var {i : Nat} {x : Str} {pos : Pos} (hN : X.N[i]? = some x) (hv : Vis X.env.scope x) (hd : (x == ("__debug__" : Str)) = false) (hcd : (x == ("__classdict__" : Str)) = false) :
    EO F C X W (.Name x pos) (fun η => match η[i]? with | some (some d) => .ok (.val d) | _ => .bad) := by
  refine .of nd (pe_var hN hv hd hcd) rfl rfl fun P H σ η Q s se h => ?_
  split at h
  · rename_i d e
    obtain ⟨v, h1, h2⟩ := se.val i d e
    exact ⟨v, h1, h.value s h2⟩
  · exact h.elim
theorem eo_int {i : Int} {k : Nat} {pos : Pos} : EO F C X W (.Constant (.int i) k pos) (fun _ => .ok (.val (.int i))) := .of nd pe_int rfl rfl fun P H σ η Q s se h => h.value s (.int _)
theorem eo_str {i : Str} {k : Nat} {pos : Pos} : EO F C X W (.Constant (.str i) k pos) (fun _ => .ok (.val (.str i))) := .of nd pe_str rfl rfl fun P H σ η Q s se h => h.value s (.str _)
theorem eo_bl {i : Bool} {k : Nat} {pos : Pos} : EO F C X W (.Constant (.bool i) k pos) (fun _ => .ok (.val (.bl i))) := .of nd pe_bl rfl rfl fun P H σ η Q s se h => h.value s (.bl _)
theorem eo_non {k : Nat} {pos : Pos} : EO F C X W (.Constant .none k pos) (fun _ => .ok (.val .non)) := .of nd pe_non rfl rfl fun P H σ η Q s se h => h.value s .non
theorem eo_glob {x : Str} {v : V} {u : Value} {d : D} {pos : Pos} (hg : Gl X x) (hm : X.mg x = some u) (r : RelV v u) (hr : ∀ H, Rep (ga X F C) H v d) (hd : (x == ("__debug__" : Str)) = false) : EO F C X W (.Name x pos) (fun _ => .ok (.val d)) :=
  .of nd (pe_glob hg hm r hd) rfl rfl fun P H σ η Q s se h => h.value s (hr P)
variable {a b c : Expr} {fa fb fc : Env → R Bd} {pos : Pos}
theorem eo_bin {op : Operator} {g : D → D → R Bd} (ho : OpOk F C X (binaryOp op) g) (ha : EO F C X W a fa) (hb : EO F C X W b fb) :
    EO F C X W (.BinOp a op b pos) (fun η => (fa η).bind fun x => (fb η).bind fun y => g x.d y.d) := by
  obtain ⟨⟨ta, pa, _, ra⟩, _⟩ := ha
  obtain ⟨⟨tb, pb, _, rb⟩, _⟩ := hb
  obtain ⟨r, hr, q⟩ := ho
  refine .of nd (pe_op hr pa pb) rfl rfl fun P H σ η Q s se h => ?_
  refine part (t := ta) ra s se h fun x P1 H1 v x1 rv h1 => ?_
  refine part (t := tb) rb x1.sub (se.mono x1.grow) h1 fun y P2 H2 w x2 rw' h2 => ?_
  exact q P2 H2 v w _ _ _ Q x2.sub (rv.mono x2.grow) rw' h2
def cop : Cop → CmpOp
  | .eq => .Eq | .ne => .NotEq | .lt => .Lt | .le => .LtE | .gt => .Gt | .ge => .GtE | .isn => .Is | .isnn => .IsNot | .inn => .In | .nin => .NotIn
omit nd in
theorem cmp_ok (hu : X.A.units + 64 < cLine) : ∀ o : Cop, OpOk F C X (compareOp (cop o)) (cmpD o)
  | .eq => eq_ok hu
  | .ne => ne_ok hu
  | .lt => lt_ok
  | .le => le_ok
  | .gt => gt_ok
  | .ge => ge_ok
  | .isn => isn_ok
  | .isnn => isnn_ok
  | .inn => inn_ok
  | .nin => nin_ok
def isSet : Expr → Bool
  | .Set _ _ _ => true
  | _ => false
omit nd in
theorem marks_no {op : CmpOp} {b : Expr} (h : isSet b = false) : behindInMarks op b = false := by
  cases b <;> first | rfl | (simp [isSet] at h)
theorem eo_cmp {o : Cop} (hu : X.A.units + 64 < cLine) (hs : isSet b = false) (ha : EO F C X W a fa) (hb : EO F C X W b fb) :
    EO F C X W (.Compare a [cop o] [b] pos) (fun η => (fa η).bind fun x => (fb η).bind fun y => cmpD o x.d y.d) := by
  obtain ⟨⟨ta, pa, _, ra⟩, _⟩ := ha
  obtain ⟨⟨tb, pb, _, rb⟩, _⟩ := hb
  obtain ⟨r, hr, q⟩ := cmp_ok (F := F) (C := C) hu o
  refine .of nd (pe_cmpR hr pa pb (marks_no hs)) rfl rfl fun P H σ η Q s se h => ?_
  refine part (t := ta) ra s se h fun x P1 H1 v x1 rv h1 => ?_
  refine part (t := tb) rb x1.sub (se.mono x1.grow) h1 fun y P2 H2 w x2 rw' h2 => ?_
  exact q P2 H2 v w _ _ _ Q x2.sub (rv.mono x2.grow) rw' h2
omit nd in
theorem to_cmp {o : Cop} (hu : X.A.units + 64 < cLine) (hs : isSet b = false) (ha : EO F C X W a fa) (hb : EO F C X W b fb) :
    TO F C X W (.Compare a [cop o] [b] pos) (fun η => (fa η).bind fun x => (fb η).bind fun y => (cmpD o x.d y.d).bind fun t => match t with | .val (.bl c) => .ok c | _ => .bad) := by
  obtain ⟨⟨ta, pa, _, ra⟩, _⟩ := ha
  obtain ⟨⟨tb, pb, _, rb⟩, _⟩ := hb
  obtain ⟨r, hr, q⟩ := cmp_ok (F := F) (C := C) hu o
  refine ⟨_, pt_cmpR hr pa pb (marks_no hs), fun _ _ _ e => (by cases e), fun P H σ η Q s se h => ?_⟩
  refine partB (t := ta) ra s se h fun x P1 H1 v x1 rv h1 => ?_
  refine partB (t := tb) rb x1.sub (se.mono x1.grow) h1 fun y P2 H2 w x2 rw' h2 => ?_
  refine q P2 H2 v w _ _ (WE W σ) _ x2.sub (rv.mono x2.grow) rw' ?_
  cases e : cmpD o x.d y.d with
  | ok bd =>
    rw [e] at h2
    intro P3 H3 z x3 rz
    cases bd with
    | own xs => exact h2.elim
    | val d =>
      cases d with
      | bl c =>
        cases rz
        exact ⟨_, rfl, h2 P3 H3 x3⟩
      | _ => exact h2.elim
  | exc c k => rw [e] at h2; exact h2
  | bad => rw [e] at h2; exact h2.elim
omit nd in
theorem pe_chain_ok {o1 o2 : Cop} (hu : X.A.units + 64 < cLine) : True := trivial
theorem eo_neg (ha : EO F C X W a fa) : EO F C X W (.UnaryOp .USub a pos) (fun η => (fa η).bind fun x => negD x.d) := by
  obtain ⟨⟨ta, pa, _, ra⟩, _⟩ := ha
  refine .of nd (pe_un un_neg pa) rfl rfl fun P H σ η Q s se h => ?_
  refine part (t := ta) ra s se h fun x P1 H1 v x1 rv h1 => ?_
  cases e : x.d with
  | int i =>
    rw [e] at rv h1
    cases rv
    exact ⟨_, rfl, h1.value x1.sub (.int _)⟩
  | _ => rw [e] at h1; exact h1.elim
omit nd in
theorem tru_noexc {d : D} {c : Nat} {k : Option Int} : truD d ≠ .exc c k := by
  cases d with
  | str y =>
    show (if y.length ≤ SZ then R.ok ((y.length : Int) != 0) else .bad) ≠ _
    split <;> (intro h; cases h)
  | _ => intro h; cases h
theorem eo_not (ha : EO F C X W a fa) : EO F C X W (.UnaryOp .Not a pos) (fun η => (fa η).bind fun x => (truD x.d).bind fun t => PF.bl (!t)) := by
  obtain ⟨⟨ta, pa, _, ra⟩, _⟩ := ha
  refine .of nd (pe_notT pa) rfl rfl fun P H σ η Q s se h => ?_
  refine part (t := ta) ra s se h fun x P1 H1 v x1 rv h1 => ?_
  cases e : truD x.d with
  | ok k => rw [e] at h1; exact ⟨k, tru_of x1.sub rv e, h1.value x1.sub (.bl _)⟩
  | exc c k => exact absurd e tru_noexc
  | bad => rw [e] at h1; exact h1.elim
theorem eo_and {rest : List Expr} (ha : EO F C X W a fa) (hb : EO F C X W (.BoolOp .And (b :: rest) pos) fb) :
    EO F C X W (.BoolOp .And (a :: b :: rest) pos) (fun η => (fa η).bind fun x => (truD x.d).bind fun t => if t then fb η else .ok (.val x.d)) := by
  obtain ⟨⟨ta, pa, _, ra⟩, _⟩ := ha
  obtain ⟨⟨tb, pb, _, rb⟩, _⟩ := hb
  refine .of nd (pe_andT pa pb) rfl rfl fun P H σ η Q s se h => ?_
  refine part (t := ta) ra s se h fun x P1 H1 v x1 rv h1 => ?_
  cases e : truD x.d with
  | ok k =>
    rw [e] at h1
    refine ⟨k, tru_of x1.sub rv e, ?_⟩
    cases k with
    | true => exact rb P1 H1 σ η Q x1.sub (se.mono x1.grow) h1
    | false => exact h1.value x1.sub rv
  | exc c k => exact absurd e tru_noexc
  | bad => rw [e] at h1; exact h1.elim
theorem eo_or {rest : List Expr} (ha : EO F C X W a fa) (hb : EO F C X W (.BoolOp .Or (b :: rest) pos) fb) :
    EO F C X W (.BoolOp .Or (a :: b :: rest) pos) (fun η => (fa η).bind fun x => (truD x.d).bind fun t => if t then .ok (.val x.d) else fb η) := by
  obtain ⟨⟨ta, pa, _, ra⟩, _⟩ := ha
  obtain ⟨⟨tb, pb, _, rb⟩, _⟩ := hb
  refine .of nd (pe_orT pa pb) rfl rfl fun P H σ η Q s se h => ?_
  refine part (t := ta) ra s se h fun x P1 H1 v x1 rv h1 => ?_
  cases e : truD x.d with
  | ok k =>
    rw [e] at h1
    refine ⟨k, tru_of x1.sub rv e, ?_⟩
    cases k with
    | true => exact h1.value x1.sub rv
    | false => exact rb P1 H1 σ η Q x1.sub (se.mono x1.grow) h1
  | exc c k => exact absurd e tru_noexc
  | bad => rw [e] at h1; exact h1.elim
theorem eo_one {op : BoolOp} (ha : EO F C X W a fa) : EO F C X W (.BoolOp op [a] pos) fa := by
  obtain ⟨⟨ta, pa, _, ra⟩, _⟩ := ha
  exact .of nd (pe_one pa) rfl rfl ra
variable {ta tb : Env → R Bool}
omit nd in
theorem to_not (ha : TO F C X W a ta) : TO F C X W (.UnaryOp .Not a pos) (fun η => (ta η).bind fun t => .ok (!t)) := by
  obtain ⟨t, pa, _, ra⟩ := ha
  refine ⟨_, pt_not pa, fun _ _ _ e => (by cases e), fun P H σ η Q s se h => ?_⟩
  exact testB (t := t) ra s se h fun b P1 H1 x1 h1 => h1 P1 H1 (Ext.refl x1.sub)
omit nd in
theorem to_and {rest : List Expr} (ha : TO F C X W a ta) (hb : TO F C X W (.BoolOp .And (b :: rest) pos) tb) :
    TO F C X W (.BoolOp .And (a :: b :: rest) pos) (fun η => (ta η).bind fun t => if t then tb η else .ok false) := by
  obtain ⟨t, pa, _, ra⟩ := ha
  obtain ⟨u, _, pb, rb⟩ := hb
  have p := pw_and pa (pb _ _ _ rfl)
  refine ⟨_, p.pt, fun _ _ _ _ => p, fun P H σ η Q s se h => ?_⟩
  refine testB (t := t) ra s se h fun b P1 H1 x1 h1 => ?_
  cases b with
  | true => exact rb P1 H1 σ η Q x1.sub (se.mono x1.grow) h1
  | false => exact h1 P1 H1 (Ext.refl x1.sub)
omit nd in
theorem to_or {rest : List Expr} (ha : TO F C X W a ta) (hb : TO F C X W (.BoolOp .Or (b :: rest) pos) tb) :
    TO F C X W (.BoolOp .Or (a :: b :: rest) pos) (fun η => (ta η).bind fun t => if t then .ok true else tb η) := by
  obtain ⟨t, pa, _, ra⟩ := ha
  obtain ⟨u, _, pb, rb⟩ := hb
  have p := pw_or pa (pb _ _ _ rfl)
  refine ⟨_, p.pt, fun _ _ _ _ => p, fun P H σ η Q s se h => ?_⟩
  refine testB (t := t) ra s se h fun b P1 H1 x1 h1 => ?_
  cases b with
  | false => exact rb P1 H1 σ η Q x1.sub (se.mono x1.grow) h1
  | true => exact h1 P1 H1 (Ext.refl x1.sub)
omit nd in
theorem to_one {op : BoolOp} (ha : TO F C X W a ta) : TO F C X W (.BoolOp op [a] pos) ta := by
  obtain ⟨t, pa, _, ra⟩ := ha
  have p : PW X (.BoolOp op [a] pos) t := by
    cases op with
    | And => exact pw_and1 pa
    | Or => exact pw_or1 pa
  exact ⟨t, p.pt, fun _ _ _ _ => p, ra⟩
def plainTest : Expr → Bool
  | .UnaryOp _ _ _ => false
  | .BoolOp _ _ _ => false
  | .IfExp _ _ _ _ => false
  | .Compare _ _ _ _ => false
  | _ => true
omit nd in
theorem isTrue_of {e : Expr} {env : PySem.Env} (h : plainTest e = true) : ∀ whole, isTrue e env whole = (do let v ← whole; standAt e.pos; holding [v] (truthy v)) := by
  intro whole
  cases e <;> first | rfl | (simp [plainTest] at h)
omit nd in
theorem to_tr (hp : plainTest a = true) (ha : EO F C X W a fa) : TO F C X W a (fun η => (fa η).bind fun x => truD x.d) := by
  obtain ⟨⟨t, pa, _, ra⟩, _⟩ := ha
  refine ⟨_, pt_truth pa (isTrue_of hp), fun op es p e => (by subst e; simp [plainTest] at hp), fun P H σ η Q s se h => ?_⟩
  refine partB (t := t) ra s se h fun x P1 H1 v x1 rv h1 => ?_
  cases e : truD x.d with
  | ok k => rw [e] at h1; exact ⟨k, tru_of x1.sub rv e, h1 P1 H1 (Ext.refl x1.sub)⟩
  | exc c k => exact absurd e tru_noexc
  | bad => rw [e] at h1; exact h1.elim
theorem eo_ife (hc : TO F C X W c ta) (ha : EO F C X W a fa) (hb : EO F C X W b fb) : EO F C X W (.IfExp c a b pos) (fun η => (ta η).bind fun t => if t then fa η else fb η) := by
  obtain ⟨tc, pc, _, rc⟩ := hc
  obtain ⟨⟨t1, pa, _, ra⟩, _⟩ := ha
  obtain ⟨⟨t2, pb, _, rb⟩, _⟩ := hb
  refine .of nd (pe_ifExp pc pa pb) rfl rfl fun P H σ η Q s se h => ?_
  refine testP (t := tc) rc s se h fun t P1 H1 x1 h1 => ?_
  cases t with
  | true => exact ra P1 H1 σ η Q x1.sub (se.mono x1.grow) h1
  | false => exact rb P1 H1 σ η Q x1.sub (se.mono x1.grow) h1
/-! ### argument lists, displays -/
omit nd in
theorem ao_nil : AO F C X W [] (fun _ => .ok []) := ⟨rfl, _, pa_nil, fun P H σ η Q s se h => h P H [] (Ext.refl s) .nil⟩
omit nd in
theorem ao_cons {es : List Expr} {fr : Env → R (List D)} (ha : EO F C X W a fa) (hr : AO F C X W es fr) : AO F C X W (a :: es) (fun η => (fa η).bind fun b => (fr η).bind fun ds => .ok (b.d :: ds)) := by
  obtain ⟨⟨t, pa, _, ra⟩, hs⟩ := ha
  obtain ⟨hss, tr, pr, rr⟩ := hr
  refine ⟨by rw [List.all_cons, hss, hs]; rfl, _, pa_cons pa pr (star_cons hs), fun P H σ η Q s se h => ?_⟩
  refine partL (t := t) ra s se h fun x P1 H1 v x1 rv h1 => ?_
  refine rr P1 H1 σ η _ x1.sub (se.mono x1.grow) ?_
  cases e : fr η with
  | ok ds =>
    rw [e] at h1
    intro P2 H2 vs x2 rvs
    exact h1 P2 H2 (v :: vs) x2 (.cons (rv.mono x2.grow) rvs)
  | exc c k => rw [e] at h1; exact h1
  | bad => rw [e] at h1; exact h1.elim
variable {es : List Expr} {fs : Env → R (List D)}
theorem eo_tup {k : Nat} (ha : AO F C X W es fs) : EO F C X W (.Tuple es k pos) (fun η => (fs η).bind fun ds => PF.grd (ds.length ≤ SZ) (.ok (.val (.tup ds)))) := by
  obtain ⟨_, t, pa, ra⟩ := ha
  refine .of nd (pe_tup pa) rfl rfl fun P H σ η Q s se h => ?_
  refine argsP (t := t) ra s se h fun ds P1 H1 vs x1 rvs h1 => ?_
  obtain ⟨c, h1⟩ := h1.grd
  exact ⟨by rw [← SZ_eq, rvs.length]; exact c, fun p np => h1.tuple x1.sub rvs np⟩
theorem eo_lst (ha : AO F C X W es fs) : EO F C X W (.List es pos) (fun η => (fs η).bind fun ds => PF.grd (ds.length ≤ SZ) (.ok (.own ds))) := by
  obtain ⟨_, t, pa, ra⟩ := ha
  refine .of nd (pe_lst pa) rfl rfl fun P H σ η Q s se h => ?_
  refine argsP (t := t) ra s se h fun ds P1 H1 vs x1 rvs h1 => ?_
  obtain ⟨c, h1⟩ := h1.grd
  exact ⟨by rw [← SZ_eq, rvs.length]; exact c, fun p np => h1.list x1.sub rvs np⟩
/-! ### items, slices -/
def isSlice : Expr → Bool
  | .Slice _ _ _ _ => true
  | _ => false
omit nd in
theorem plainIx_of {b : Expr} (h : isSlice b = false) : PlainIx b := fun o i => by
  cases b <;> first | rfl | (simp [isSlice] at h)
theorem eo_ix (hs : isSlice b = false) (ha : EO F C X W a fa) (hb : EO F C X W b fb) : EO F C X W (.Subscript a b pos) (fun η => (fa η).bind fun x => (fb η).bind fun y => ixD x.d y.d) := by
  obtain ⟨⟨ta, pa, _, ra⟩, _⟩ := ha
  obtain ⟨⟨tb, pb, _, rb⟩, _⟩ := hb
  obtain ⟨r, hr, q⟩ := ix_ok (F := F) (C := C) (X := X)
  refine .of nd (pe_ix hr pa pb (plainIx_of hs)) rfl rfl fun P H σ η Q s se h => ?_
  refine part (t := ta) ra s se h fun x P1 H1 v x1 rv h1 => ?_
  refine part (t := tb) rb x1.sub (se.mono x1.grow) h1 fun y P2 H2 w x2 rw' h2 => ?_
  exact q P2 H2 v w _ _ _ Q x2.sub (rv.mono x2.grow) rw' h2
/-- a part of a slice -/
def PartO (F C : Nat → Addr) (X : Cx) (W : WX) (e : Option Expr) (f : Env → R (Option Int)) : Prop :=
  ∃ t, PO X e t ∧ ∀ (P H : Hp) (σ : L2.St) (η : Env) (k : Option Int → R Bd) (Q : VK) (Q' : Option Int → Hp → Prop), Same P H → SimE (ga X F C) P σ η → Wp (ga X F C) (WE W σ) P H ((f η).bind k) Q →
    (∀ o P1 H1, Ext P H P1 H1 → Wp (ga X F C) (WE W σ) P1 H1 (k o) Q → Q' o H1) → t σ H Q'
omit nd in
theorem part_none : PartO F C X W none (fun _ => .ok none) := ⟨_, po_none, fun P H σ η k Q Q' s se h next => next none P H (Ext.refl s) h⟩
omit nd in
theorem part_some (ha : EO F C X W a fa) : PartO F C X W (some a) (fun η => (fa η).bind fun b => match b.d with | .int i => .ok (some i) | _ => .bad) := by
  obtain ⟨⟨t, pa, _, ra⟩, _⟩ := ha
  refine ⟨_, po_some pa, fun P H σ η k Q Q' s se h next => ?_⟩
  refine ra P H σ η _ s se ?_
  dsimp only at h
  cases e : fa η with
  | ok b =>
    rw [e] at h
    intro P1 H1 v x1 rb
    obtain ⟨P2, x2, s2, rv⟩ := rb.freeze x1
    have h : Wp (ga X F C) (WE W σ) P H ((match b.d with | .int i => R.ok (some i) | _ => .bad).bind k) Q := h
    cases e2 : b.d with
    | int i =>
      rw [e2] at rv h
      cases rv
      exact ⟨i, rfl, next (some i) P2 H1 x2 (Wp.later h x2)⟩
    | _ => rw [e2] at h; exact h.elim
  | exc c k => rw [e] at h; exact h
  | bad => rw [e] at h; exact h.elim
theorem eo_sl {lo hi : Option Expr} {fl fh : Env → R (Option Int)} {p2 : Pos} (ha : EO F C X W a fa) (hl : PartO F C X W lo fl) (hh : PartO F C X W hi fh) :
    EO F C X W (.Subscript a (.Slice lo hi none p2) pos) (fun η => (fa η).bind fun x => (fl η).bind fun l => (fh η).bind fun h => slD x.d l h) := by
  obtain ⟨⟨t, pa, _, ra⟩, _⟩ := ha
  obtain ⟨tl, pl, rl⟩ := hl
  obtain ⟨th, ph, rh⟩ := hh
  obtain ⟨r, hr, q⟩ := sl_ok (F := F) (C := C) (X := X)
  refine .of nd (pe_slice hr pa pl ph) rfl rfl fun P H σ η Q s se h => ?_
  refine part (t := t) ra s se h fun x P1 H1 v x1 rv h1 => ?_
  refine rl P1 H1 σ η _ Q _ x1.sub (se.mono x1.grow) h1 fun o P2 H2 x2 h2 => ?_
  refine rh P2 H2 σ η _ Q _ x2.sub ((se.mono x1.grow).mono x2.grow) h2 fun u P3 H3 x3 h3 => ?_
  exact q P3 H3 v o u _ _ Q x3.sub (rv.mono (x2.grow.trans x3.grow)) h3
end
end PF

end

section
set_option Elab.async false
set_option linter.all false
set_option maxRecDepth 100000
/-! PF5: calls. -/
namespace PF
open PySem PySem.Spec PyProof.Rows L2
/-- a def's promise by its interpreter -/
def spD (Γ : Ga) (ar : Nat) (g : List D → R Bd) : Sp := fun vs H Q E => ∃ P ds, Same P H ∧ RepL Γ P vs ds ∧ ds.length = ar ∧ Wp Γ E P H (g ds) Q
/-- the def j of the table: its name, its arity, what it gives -/
def CalOk (F C : Nat → Addr) (X : Cx) (n j : Nat) (nm : Str) (ar : Nat) (g : List D → R Bd) : Prop :=
  ∃ fd ps, ps.length = ar ∧ FnOk X.prog X.w X.K X.mg X.base (L2.CX X.prog X.w) n (F j) fd ps (spD (ga X F C) ar g) ∧ X.mg nm = some (.ref (F j)) ∧ PySem.W.keepIn X.K (.ref (F j)) = true ∧ Binds X.K fd ps []
section
variable {F C : Nat → Addr} {X : Cx} {W : WX}
theorem calls_with {x : Str} {p pos : Pos} {n : Nat} {f : Addr} {fd : FuncData} {ps : List Str} {sp : Sp} {E : L2.St → XK} {i : Nat} {e : Expr} {es : List Expr} {t : TA}
    (Fn : FnOk X.prog X.w X.K X.mg X.base (L2.CX X.prog X.w) n f fd ps sp) (hr : Room n X.A) (hN : X.N[i]? = some x) (hv : Vis X.env.scope x) (hk : PySem.W.keepIn X.K (.ref f) = true) (hb : Binds X.K fd ps []) (hx : ∀ σ, PassesAt (L2.CX X.prog X.w) X σ (E σ)) (ha : PA X (e :: es) t)
    (hdb : (x == ("__debug__" : Str)) = false) (hcd : (x == ("__classdict__" : Str)) = false)
    (he : starEach (e :: es) X.env = (false, eval e X.env) :: starEach es X.env) (hpl : (backTo pos (starEach es X.env)).any (·.1) = false) :
    PE X (.Call (.Name x p) (e :: es) [] pos) (fun σ H Q => σ[i]? = some (some (.ref f)) ∧ t σ H fun vs H1 => sp vs H1 Q (E σ)) := by
  refine ⟨fun pins s σ H Q I h => ?_⟩
  obtain ⟨hs, ht⟩ := h
  refine wpAny_Call_Name_kw (thn ((pe_var (pos := p) hN hv hdb hcd).run pins s σ H (fun v H1 => v = .ref f ∧ H1 = H) I ⟨.ref f, hs, rfl, rfl⟩) fun u s1 ⟨v, H1, I1, r1, q1⟩ => ?_)
  obtain ⟨rfl, rfl⟩ := q1
  cases r1
  refine PySem.W.callWith_K (h₀ := X.base) I.ok.mod.kin hk (thn (ha.run pos pins s1 σ _ _ I1 ht) fun us s2 ⟨vs, H2, I2, r, q⟩ => ⟨I2.kIn, ?_⟩) he hpl
  exact run_fnS Fn hr hb (hx σ) I2 r q
variable (nd : X.N.Nodup)
include nd
variable {e : Expr} {es : List Expr} {fs : Env → R (List D)} {pos p : Pos}
theorem eo_call {n j : Nat} {nm : Str} {ar : Nat} {g : List D → R Bd} (hc : CalOk F C X n j nm ar g) (hr : Room n X.A) (tk : Takes X W) (hg : Gl X nm) (hdb : (nm == ("__debug__" : Str)) = false) (har : (e :: es).length = ar)
    (ha : AO F C X W (e :: es) fs) (hlen : ∀ η ds, fs η = .ok ds → ds.length = ar) : EO F C X W (.Call (.Name nm p) (e :: es) [] pos) (fun η => (fs η).bind fun ds => g ds) := by
  obtain ⟨fd, ps, hps, hF, hm, hk, hb⟩ := hc
  obtain ⟨hs, t, pa, ra⟩ := ha
  simp only [List.all_cons, Bool.and_eq_true, Bool.not_eq_true'] at hs
  refine .of nd (pe_callS hF hr hg hm hk hb (fun σ => passAt tk σ) pa hdb (star_cons hs.1) (star_plain hs.2)) rfl rfl fun P H σ η Q s se h => ?_
  refine ra P H σ η _ s se ?_
  have hl := hlen η
  cases e : fs η with
  | ok ds =>
    rw [e] at h
    intro P1 H1 vs x1 rvs
    exact ⟨P1, ds, x1.sub, rvs, hl ds e, Wp.later h x1⟩
  | exc c k => rw [e] at h; exact h
  | bad => rw [e] at h; exact h.elim
/-- a call of a name that holds a def of the table -/
theorem eo_callv {n i : Nat} {x : Str} {ar : Nat} {g : Nat → List D → R Bd} (T : Nat → Option (Str × Nat)) (hT : ∀ j nm ar, T j = some (nm, ar) → CalOk F C X n j nm ar (g j)) (hr : Room n X.A) (tk : Takes X W) (hN : X.N[i]? = some x) (hv : Vis X.env.scope x)
    (hdb : (x == ("__debug__" : Str)) = false) (hcd : (x == ("__classdict__" : Str)) = false)
    (ha : AO F C X W (e :: es) fs) (hg : ∀ j ds, (∀ nm, T j ≠ some (nm, ds.length)) → g j ds = .bad) :
    EO F C X W (.Call (.Name x p) (e :: es) [] pos) (fun η => match η[i]? with | some (some (.fn j)) => (match fs η with | .ok ds => g j ds | _ => .bad) | _ => .bad) := by
  obtain ⟨hs, t, pa, ra⟩ := ha
  simp only [List.all_cons, Bool.and_eq_true, Bool.not_eq_true'] at hs
  have pe : PE X (.Call (.Name x p) (e :: es) [] pos) (fun σ H Q => ∃ j nm ar, T j = some (nm, ar) ∧ (σ[i]? = some (some (.ref (F j))) ∧ t σ H fun vs H1 => spD (ga X F C) ar (g j) vs H1 Q (WE W σ))) := by
    refine ⟨fun pins s σ H Q I h => ?_⟩
    obtain ⟨j, nm, ar, e1, h⟩ := h
    obtain ⟨fd, ps, hps, hF, hm, hk, hb⟩ := hT j nm ar e1
    exact (calls_with hF hr hN hv hk hb (fun σ => passAt tk σ) pa hdb hcd (star_cons hs.1) (star_plain hs.2)).run pins s σ H Q I h
  refine .of nd pe rfl rfl fun P H σ η Q s se h => ?_
  split at h
  · rename_i j e1
    obtain ⟨v, h1, h2⟩ := se.val i _ e1
    cases h2
    cases e2 : fs η with
    | ok ds =>
      rw [e2] at h
      have h : Wp (ga X F C) (WE W σ) P H (g j ds) Q := h
      have hj : ∃ nm, T j = some (nm, ds.length) := Classical.byContradiction fun no => by
        rw [hg j ds fun nm e => no ⟨nm, e⟩] at h
        exact h.elim
      obtain ⟨nm, hj⟩ := hj
      refine ⟨j, nm, ds.length, hj, h1, ra P H σ η _ s se ?_⟩
      rw [e2]
      intro P1 H1 vs x1 rvs
      exact ⟨P1, ds, x1.sub, rvs, rfl, Wp.later h x1⟩
    | exc c k => rw [e2] at h; exact h.elim
    | bad => rw [e2] at h; exact h.elim
  · exact h.elim
end
end PF

end

section
set_option Elab.async false
set_option linter.all false
set_option maxRecDepth 100000
/-! PF6: built-ins. -/
namespace PF
open PySem PySem.Spec PyProof.Rows L2
def BltOk (F C : Nat → Addr) (X : Cx) (fv : Value) (g : List D → R Bd) : Prop :=
  ∃ r : List V → Hp → VK → Prop, CallR X fv r ∧ ∀ (P H : Hp) (vs : List V) (ds : List D) (W : XK) (Q : VK), Same P H → RepL (ga X F C) P vs ds → Wp (ga X F C) W P H (g ds) Q → r vs H Q
section
variable {F C : Nat → Addr} {X : Cx} {W : WX}
section
variable {Γ : Ga} {P : Hp}
theorem ints_of : ∀ {ds : List D} {ns : List Int} {vs : List V}, intsD ds = some ns → RepL Γ P vs ds → vs = ns.map V.int
  | [], ns, _, h, .nil => by simp [intsD] at h; subst h; rfl
  | .int i :: r, ns, _, h, .cons q t => by
    cases q
    unfold intsD at h
    cases e : intsD r with
    | none => rw [e] at h; cases h
    | some ms => rw [e] at h; cases h; rw [ints_of e t]; rfl
  | .non :: _, _, _, h, _ => by simp [intsD] at h
  | .bl _ :: _, _, _, h, _ => by simp [intsD] at h
  | .str _ :: _, _, _, h, _ => by simp [intsD] at h
  | .tup _ :: _, _, _, h, _ => by simp [intsD] at h
  | .lst _ :: _, _, _, h, _ => by simp [intsD] at h
  | .fn _ :: _, _, _, h, _ => by simp [intsD] at h
  | .scr _ :: _, _, _, h, _ => by simp [intsD] at h
theorem bls_of : ∀ {ds : List D} {ns : List Bool} {vs : List V}, blsD ds = some ns → RepL Γ P vs ds → vs = ns.map V.bl
  | [], ns, _, h, .nil => by simp [blsD] at h; subst h; rfl
  | .bl i :: r, ns, _, h, .cons q t => by
    cases q
    unfold blsD at h
    cases e : blsD r with
    | none => rw [e] at h; cases h
    | some ms => rw [e] at h; cases h; rw [bls_of e t]; rfl
  | .non :: _, _, _, h, _ => by simp [blsD] at h
  | .int _ :: _, _, _, h, _ => by simp [blsD] at h
  | .str _ :: _, _, _, h, _ => by simp [blsD] at h
  | .tup _ :: _, _, _, h, _ => by simp [blsD] at h
  | .lst _ :: _, _, _, h, _ => by simp [blsD] at h
  | .fn _ :: _, _, _, h, _ => by simp [blsD] at h
  | .scr _ :: _, _, _, h, _ => by simp [blsD] at h
theorem strs_of : ∀ {ds : List D} {ns : List Str} {vs : List V}, strsD ds = some ns → RepL Γ P vs ds → vs = ns.map V.str
  | [], ns, _, h, .nil => by simp [strsD] at h; subst h; rfl
  | .str i :: r, ns, _, h, .cons q t => by
    cases q
    unfold strsD at h
    cases e : strsD r with
    | none => rw [e] at h; cases h
    | some ms => rw [e] at h; cases h; rw [strs_of e t]; rfl
  | .non :: _, _, _, h, _ => by simp [strsD] at h
  | .int _ :: _, _, _, h, _ => by simp [strsD] at h
  | .bl _ :: _, _, _, h, _ => by simp [strsD] at h
  | .tup _ :: _, _, _, h, _ => by simp [strsD] at h
  | .lst _ :: _, _, _, h, _ => by simp [strsD] at h
  | .fn _ :: _, _, _, h, _ => by simp [strsD] at h
  | .scr _ :: _, _, _, h, _ => by simp [strsD] at h
theorem rep_ints : ∀ ns : List Int, RepL Γ P (ns.map V.int) (ns.map D.int)
  | [] => .nil
  | n :: ns => .cons (.int n) (rep_ints ns)
end
theorem b_len : BltOk F C X (.builtin "len") lenF := by
  refine ⟨_, call_len, fun P H vs ds W Q s rs h => ?_⟩
  unfold lenF at h
  split at h
  · cases rs with | cons a b => cases b; cases a with | tup q r => exact ⟨_, _, rfl, .inr ⟨_, Same.seqT s q, r.length.symm⟩, h.value s (.int _)⟩
  · cases rs with | cons a b => cases b; cases a with | lst q r => exact ⟨_, _, rfl, .inl ⟨_, seqL s q, r.length.symm⟩, h.value s (.int _)⟩
  · cases rs with | cons a b => cases b; cases a with | scr q => exact ⟨_, _, rfl, .inl ⟨_, s.seq q, by rw [List.length_map]⟩, h.value s (.int _)⟩
  · cases rs with | cons a b =>
      cases b; cases a
      obtain ⟨c, h⟩ := h.grd
      exact ⟨_, _, rfl, ⟨by rw [← SZ_eq]; exact c, rfl⟩, h.value s (.int _)⟩
  · exact h.elim
theorem b_abs : BltOk F C X (.builtin "abs") absF := by
  refine ⟨_, call_abs, fun P H vs ds W Q s rs h => ?_⟩
  unfold absF at h
  split at h
  · cases rs with | cons a b => cases b; cases a; exact ⟨_, rfl, h.value s (.int _)⟩
  · exact h.elim
theorem b_int : BltOk F C X (.type "int") intF := by
  refine ⟨_, call_int1, fun P H vs ds W Q s rs h => ?_⟩
  unfold intF at h
  split at h
  · cases rs with | cons a b => cases b; cases a; exact .inl ⟨_, rfl, h.value s (.int _)⟩
  · exact h.elim
theorem b_tuple : BltOk F C X (.type "tuple") tupleF := by
  refine ⟨_, call_tuple_of, fun P H vs ds W Q s rs h => ?_⟩
  unfold tupleF at h
  split at h
  · cases rs with | cons a b => cases b; cases a with | tup q r => exact ⟨_, _, rfl, .inr ⟨Same.seqT s q, h.value s (.tup q r)⟩⟩
  · cases rs with | cons a b => cases b; cases a with | lst q r => exact ⟨_, _, rfl, .inl ⟨seqL s q, fun p np => h.tuple s r np⟩⟩
  · exact h.elim
theorem b_list : BltOk F C X (.type "list") listF := by
  refine ⟨_, call_list_of, fun P H vs ds W Q s rs h => ?_⟩
  unfold listF at h
  split at h
  · cases rs with | cons a b => cases b; cases a with | tup q r => exact ⟨_, _, rfl, .inr (Same.seqT s q), fun p np => h.list s r np⟩
  · cases rs with | cons a b => cases b; cases a with | lst q r => exact ⟨_, _, rfl, .inl (seqL s q), fun p np => h.list s r np⟩
  · exact h.elim
theorem b_all (hc : X.calm = true) : BltOk F C X (.builtin "all") allF := by
  refine ⟨_, cr_all hc, fun P H vs ds W Q s rs h => ?_⟩
  unfold allF at h
  split at h
  · split at h
    · rename_i xs bs e
      cases rs with | cons a b => cases b; cases a with | lst q r => (have e2 := bls_of e r; subst e2; exact ⟨_, bs, rfl, seqL s q, h.value s (.bl _)⟩)
    · exact h.elim
  · exact h.elim
theorem b_any (hc : X.calm = true) : BltOk F C X (.builtin "any") anyF := by
  refine ⟨_, cr_any hc, fun P H vs ds W Q s rs h => ?_⟩
  unfold anyF at h
  split at h
  · split at h
    · rename_i xs bs e
      cases rs with | cons a b => cases b; cases a with | lst q r => (have e2 := bls_of e r; subst e2; exact ⟨_, bs, rfl, seqL s q, h.value s (.bl _)⟩)
    · exact h.elim
  · exact h.elim
theorem b_sum (hc : X.calm = true) : BltOk F C X (.builtin "sum") sumF := by
  refine ⟨_, cr_sum hc, fun P H vs ds W Q s rs h => ?_⟩
  unfold sumF at h
  split at h
  · split at h
    · rename_i xs bs e
      cases rs with | cons a b => cases b; cases a with | lst q r => (have e2 := ints_of e r; subst e2; exact ⟨_, bs, rfl, seqL s q, h.value s (.int _)⟩)
    · exact h.elim
  · exact h.elim
theorem maxI_is : ∀ (ns : List Int) (n m : Int), m ∈ n :: ns → (∀ y ∈ n :: ns, y ≤ m) → maxI n ns = m
  | [], n, m, h, _ => by
    have e : m = n := by simpa using h
    rw [e]
    rfl
  | x :: r, n, m, h, hy => by
    unfold maxI
    have h1 := hy n (by simp)
    have h2 := hy x (by simp)
    refine maxI_is r _ m ?_ fun y hm => ?_
    · split
      · rcases List.mem_cons.mp h with e | e
        · omega
        · exact e
      · rcases List.mem_cons.mp h with e | e
        · rw [e]; simp
        · rcases List.mem_cons.mp e with e | e
          · have : m = n := by omega
            rw [this]; simp
          · simp [e]
    · rcases List.mem_cons.mp hm with e | e
      · rw [e]; split <;> assumption
      · exact hy y (by simp [e])
theorem b_max1 (hc : X.calm = true) : BltOk F C X (.builtin "max") max1F := by
  refine ⟨_, cr_max hc, fun P H vs ds W Q s rs h => ?_⟩
  unfold max1F at h
  split at h
  · split at h
    · rename_i xs n ns e
      cases rs with
      | cons a b =>
        cases b
        cases a with
        | lst q r =>
          have e2 := ints_of e r
          subst e2
          refine ⟨_, n :: ns, rfl, seqL s q, by simp, fun m hm hy => ?_⟩
          rw [maxI_is ns n m hm hy] at h
          exact h.value s (.int _)
    · exact h.elim
  · exact h.elim
theorem b_max2 (hc : X.calm = true) : BltOk F C X (.builtin "max") max2F := by
  refine ⟨_, call_max2 hc, fun P H vs ds W Q s rs h => ?_⟩
  unfold max2F at h
  split at h
  · cases rs with | cons a b => cases b with | cons b c => cases c; cases a; cases b; exact ⟨_, _, rfl, h.value s (.int _)⟩
  · exact h.elim
theorem b_min2 (hc : X.calm = true) : BltOk F C X (.builtin "min") min2F := by
  refine ⟨_, call_min2 hc, fun P H vs ds W Q s rs h => ?_⟩
  unfold min2F at h
  split at h
  · cases rs with | cons a b => cases b with | cons b c => cases c; cases a; cases b; exact ⟨_, _, rfl, h.value s (.int _)⟩
  · exact h.elim
theorem b_gcd : BltOk F C X (.builtin "math.gcd") gcdF := by
  refine ⟨_, cr_gcd, fun P H vs ds W Q s rs h => ?_⟩
  unfold gcdF at h
  split at h
  · cases rs with | cons a b => cases b with | cons b c => cases c; cases a; cases b; exact ⟨_, _, rfl, h.value s (.int _)⟩
  · exact h.elim
theorem insI_perm (x : Int) : ∀ l : List Int, (insI x l).Perm (x :: l)
  | [] => .refl _
  | y :: r => by
    unfold insI
    split
    · exact .refl _
    · exact ((insI_perm x r).cons y).trans (.swap x y r)
theorem srtI_perm : ∀ l : List Int, (srtI l).Perm l
  | [] => .refl _
  | x :: r => (insI_perm x _).trans ((srtI_perm r).cons x)
theorem insI_srt (x : Int) : ∀ l : List Int, l.Pairwise (· ≤ ·) → (insI x l).Pairwise (· ≤ ·)
  | [], _ => by simp [insI]
  | y :: r, h => by
    unfold insI
    have h2 := List.pairwise_cons.mp h
    split
    · rename_i hx
      refine List.pairwise_cons.mpr ⟨fun z hz => ?_, h⟩
      rcases List.mem_cons.mp hz with e | e
      · rw [e]; exact hx
      · exact Int.le_trans hx (h2.1 z e)
    · rename_i hx
      refine List.pairwise_cons.mpr ⟨fun z hz => ?_, insI_srt x r h2.2⟩
      rcases List.mem_cons.mp ((insI_perm x r).mem_iff.mp hz) with e | e
      · rw [e]; omega
      · exact h2.1 z e
theorem srtI_srt : ∀ l : List Int, (srtI l).Pairwise (· ≤ ·)
  | [] => .nil
  | x :: r => insI_srt x _ (srtI_srt r)
theorem b_sorted : BltOk F C X (.builtin "sorted") sortedF := by
  refine ⟨_, cr_sortedI, fun P H vs ds W Q s rs h => ?_⟩
  unfold sortedF at h
  split at h
  · split at h
    · rename_i xs ns e
      cases rs with
      | cons a b =>
        cases b
        cases a with
        | lst q r =>
          have e2 := ints_of e r
          subst e2
          refine ⟨_, ns, rfl, seqL s q, fun ns' p hp hs np => ?_⟩
          have e3 : ns' = srtI ns := PySem.W.ksm_same (hp.trans (srtI_perm ns).symm) hs (srtI_srt ns)
          subst e3
          exact h.list s (rep_ints _) np
    · exact h.elim
  · exact h.elim
theorem b_str : BltOk F C X (.type "str") strF := by
  refine ⟨_, call_str_int, fun P H vs ds W Q s rs h => ?_⟩
  unfold strF at h
  split at h
  · cases rs with | cons a b =>
      cases b; cases a
      obtain ⟨c, h⟩ := h.grd
      exact ⟨_, rfl, c, h.value s (.str _)⟩
  · exact h.elim
variable (nd : X.N.Nodup)
include nd
variable {e : Expr} {es : List Expr} {fs : Env → R (List D)} {pos p : Pos} {x : Str} {id : String} {g : List D → R Bd}
theorem eo_bltF (hb : BltOk F C X (.builtin id) g) (hg : Gl X x) (hm : X.mg x = none) (hv : bootBuiltins x = some (.builtin id)) (hn : x ≠ "__name__") (hdb : (x == ("__debug__" : Str)) = false) (ha : AO F C X W (e :: es) fs) :
    EO F C X W (.Call (.Name x p) (e :: es) [] pos) (fun η => (fs η).bind fun ds => g ds) := by
  obtain ⟨hs, t, pa, ra⟩ := ha
  obtain ⟨r, hr, q⟩ := hb
  simp only [List.all_cons, Bool.and_eq_true, Bool.not_eq_true'] at hs
  refine .of nd (pe_callB hr hg hm hv pa hn hdb (star_cons hs.1) (star_plain hs.2)) rfl rfl fun P H σ η Q s se h => ?_
  exact argsP (t := t) ra s se h fun ds P1 H1 vs x1 rvs h1 => q P1 H1 vs ds _ Q x1.sub rvs h1
theorem eo_bltT (hb : BltOk F C X (.type id) g) (hg : Gl X x) (hm : X.mg x = none) (hv : bootBuiltins x = some (.type id)) (hn : x ≠ "__name__") (hdb : (x == ("__debug__" : Str)) = false) (ha : AO F C X W (e :: es) fs) :
    EO F C X W (.Call (.Name x p) (e :: es) [] pos) (fun η => (fs η).bind fun ds => g ds) := by
  obtain ⟨hs, t, pa, ra⟩ := ha
  obtain ⟨r, hr, q⟩ := hb
  simp only [List.all_cons, Bool.and_eq_true, Bool.not_eq_true'] at hs
  refine .of nd (pe_callTy hr hg hm hv pa hn hdb (star_cons hs.1) (star_plain hs.2)) rfl rfl fun P H σ η Q s se h => ?_
  exact argsP (t := t) ra s se h fun ds P1 H1 vs x1 rvs h1 => q P1 H1 vs ds _ Q x1.sub rvs h1
theorem eo_bltM (hb : BltOk F C X (.builtin id) g) (hg : Gl X x) (hm : X.mg x = some (.builtin id)) (hdb : (x == ("__debug__" : Str)) = false) (ha : AO F C X W (e :: es) fs) :
    EO F C X W (.Call (.Name x p) (e :: es) [] pos) (fun η => (fs η).bind fun ds => g ds) := by
  obtain ⟨hs, t, pa, ra⟩ := ha
  obtain ⟨r, hr, q⟩ := hb
  simp only [List.all_cons, Bool.and_eq_true, Bool.not_eq_true'] at hs
  refine .of nd (pe_callBfun hr hg hm pa hdb (star_cons hs.1) (star_plain hs.2)) rfl rfl fun P H σ η Q s se h => ?_
  exact argsP (t := t) ra s se h fun ds P1 H1 vs x1 rvs h1 => q P1 H1 vs ds _ Q x1.sub rvs h1
/-! ### isinstance -/
omit nd in
theorem tyX_of {P H : Hp} {v : V} {d : D} (s : Same P H) (r : Rep (ga X F C) P v d) : (∃ i, d = .fn i) ∨ (∃ i, d = .scr i) ∨ ∃ tn : String, TyX X.K H v (.type tn) ∧ (tn = "NoneType" ∧ d = .non ∨ (tn = "bool" ∧ ∃ b, d = .bl b) ∨ (tn = "int" ∧ ∃ b, d = .int b) ∨ (tn = "str" ∧ ∃ b, d = .str b) ∨ (tn = "tuple" ∧ ∃ b, d = .tup b) ∨ (tn = "list" ∧ ∃ b, d = .lst b)) := by
  cases r with
  | non => exact .inr (.inr ⟨_, .base .non, .inl ⟨rfl, rfl⟩⟩)
  | bl b => exact .inr (.inr ⟨_, .base (.bl b), .inr (.inl ⟨rfl, _, rfl⟩)⟩)
  | int b => exact .inr (.inr ⟨_, .base (.int b), .inr (.inr (.inl ⟨rfl, _, rfl⟩))⟩)
  | str b => exact .inr (.inr ⟨_, .base (.str b), .inr (.inr (.inr (.inl ⟨rfl, _, rfl⟩)))⟩)
  | tup q r =>
    refine .inr (.inr ⟨"tuple", ?_, .inr (.inr (.inr (.inr (.inl ⟨rfl, _, rfl⟩))))⟩)
    rcases q with (q | ⟨o, q⟩) | ⟨o, its, n, q, c, _⟩
    · exact .base (.tup (s _ _ q))
    · exact .fTuple (s _ _ q)
    · exact .kTuple q c
  | lst q r => exact .inr (.inr ⟨"list", .base (.lst (s _ _ q)), .inr (.inr (.inr (.inr (.inr ⟨rfl, _, rfl⟩))))⟩)
  | fn j => exact .inl ⟨j, rfl⟩
  | scr q => exact .inr (.inl ⟨_, rfl⟩)
def tyN : Ty → String
  | .int => "int" | .bool => "bool" | .str => "str" | .tuple => "tuple" | .list => "list"
omit nd in
theorem kit_one {K : PySem.W.Frag} {d : D} {tn : String} (h : tn = "NoneType" ∧ d = .non ∨ (tn = "bool" ∧ ∃ b, d = .bl b) ∨ (tn = "int" ∧ ∃ b, d = .int b) ∨ (tn = "str" ∧ ∃ b, d = .str b) ∨ (tn = "tuple" ∧ ∃ b, d = .tup b) ∨ (tn = "list" ∧ ∃ b, d = .lst b)) (t : Ty) :
    PySem.W.kitOne K (.type tn) (.type (tyN t)) = some (tyD t d) := by
  rcases h with ⟨rfl, rfl⟩ | ⟨rfl, _, rfl⟩ | ⟨rfl, _, rfl⟩ | ⟨rfl, _, rfl⟩ | ⟨rfl, _, rfl⟩ | ⟨rfl, _, rfl⟩ <;> cases t <;> rfl
omit nd in
theorem kit_two {K : PySem.W.Frag} {d : D} {tn : String} (h : tn = "NoneType" ∧ d = .non ∨ (tn = "bool" ∧ ∃ b, d = .bl b) ∨ (tn = "int" ∧ ∃ b, d = .int b) ∨ (tn = "str" ∧ ∃ b, d = .str b) ∨ (tn = "tuple" ∧ ∃ b, d = .tup b) ∨ (tn = "list" ∧ ∃ b, d = .lst b)) (t u : Ty) :
    PySem.W.kitAny K (.type tn) [.type (tyN t), .type (tyN u)] = some (tyD t d || tyD u d) := by
  rcases h with ⟨rfl, rfl⟩ | ⟨rfl, _, rfl⟩ | ⟨rfl, _, rfl⟩ | ⟨rfl, _, rfl⟩ | ⟨rfl, _, rfl⟩ | ⟨rfl, _, rfl⟩ <;> cases t <;> cases u <;> rfl
variable {a : Expr} {fa : Env → R Bd}
theorem eo_isin {t : Ty} {tn : Str} {tp : Pos} (hg : Gl X "isinstance") (hm : X.mg "isinstance" = none) (hgt : Gl X tn) (hmt : X.mg tn = none) (hvt : bootBuiltins tn = some (.type (tyN t))) (hnt : tn ≠ "__name__") (hdt : (tn == ("__debug__" : Str)) = false)
    (ha : EO F C X W a fa) : EO F C X W (.Call (.Name "isinstance" p) [a, .Name tn tp] [] pos) (fun η => (fa η).bind fun x => isinD t x.d) := by
  obtain ⟨⟨ta, pa, _, ra⟩, hs⟩ := ha
  have pt : PE X (.Name tn tp) (tC (.ty (tyN t))) := pe_bltn hgt hmt hvt rfl hnt hdt
  refine .of nd (pe_callB call_isi hg hm PyProof.Rows.boot_isinstance (pa_cons pa (pa_cons pt pa_nil) (star_cons hs)) (by decide) (by decide) (star_cons hs) rfl) rfl rfl fun P H σ η Q s se h => ?_
  refine part (t := ta) ra s se h fun x P1 H1 v x1 rv h1 => ?_
  rcases tyX_of x1.sub rv with ⟨i, e⟩ | ⟨i, e⟩ | ⟨nm, ty, c⟩
  · rw [e] at h1; exact h1.elim
  · rw [e] at h1; exact h1.elim
  · refine ⟨v, _, _, _, tyD t x.d, rfl, .ty _, ty, kit_one c t, ?_⟩
    have h1 : Wp (ga X F C) (WE W σ) P1 H1 (PF.bl (tyD t x.d)) Q := by
      rcases c with ⟨_, e⟩ | ⟨_, _, e⟩ | ⟨_, _, e⟩ | ⟨_, _, e⟩ | ⟨_, _, e⟩ | ⟨_, _, e⟩ <;> rw [e] at h1 ⊢ <;> exact h1
    exact h1.value x1.sub (.bl _)
theorem eo_isin2 {t u : Ty} {tn un : Str} {tp up : Pos} {k : Nat} {tpos : Pos} (hg : Gl X "isinstance") (hm : X.mg "isinstance" = none) (hgt : Gl X tn) (hmt : X.mg tn = none) (hvt : bootBuiltins tn = some (.type (tyN t))) (hnt : tn ≠ "__name__") (hdt : (tn == ("__debug__" : Str)) = false)
    (hgu : Gl X un) (hmu : X.mg un = none) (hvu : bootBuiltins un = some (.type (tyN u))) (hnu : un ≠ "__name__") (hdu : (un == ("__debug__" : Str)) = false)
    (ha : EO F C X W a fa) : EO F C X W (.Call (.Name "isinstance" p) [a, .Tuple [.Name tn tp, .Name un up] k tpos] [] pos) (fun η => (fa η).bind fun x => isin2D t u x.d) := by
  obtain ⟨⟨ta, pa, _, ra⟩, hs⟩ := ha
  have pt : PE X (.Name tn tp) (tC (.ty (tyN t))) := pe_bltn hgt hmt hvt rfl hnt hdt
  have pu : PE X (.Name un up) (tC (.ty (tyN u))) := pe_bltn hgu hmu hvu rfl hnu hdu
  refine .of nd (pe_callB call_isiT hg hm PyProof.Rows.boot_isinstance (pa_cons pa (pa_cons (pe_tup (x1 := k) (pa_cons pt (pa_cons pu pa_nil))) pa_nil) (star_cons hs)) (by decide) (by decide) (star_cons hs) rfl) rfl rfl fun P H σ η Q s se h => ?_
  refine part (t := ta) ra s se h fun x P1 H1 v x1 rv h1 => ?_
  refine ⟨by show 2 ≤ sizeLine; decide, fun T nT => ?_⟩
  have x2 : Ext P1 H1 P1 (upd H1 T (.tup [.ty (tyN t), .ty (tyN u)])) := Ext.new0 x1.sub nT
  have h2 := Wp.later h1 x2
  rcases tyX_of x2.sub rv with ⟨i, e⟩ | ⟨i, e⟩ | ⟨nm, ty, c⟩
  · rw [e] at h1; exact h1.elim
  · rw [e] at h1; exact h1.elim
  · refine ⟨v, T, _, _, _, tyD t x.d || tyD u x.d, rfl, upd_same, .cons (.ty _) (.cons (.ty _) .nil), ty, kit_two c t u, ?_⟩
    have h2 : Wp (ga X F C) (WE W σ) P1 (upd H1 T (.tup [.ty (tyN t), .ty (tyN u)])) (PF.bl (tyD t x.d || tyD u x.d)) Q := by
      rcases c with ⟨_, e⟩ | ⟨_, _, e⟩ | ⟨_, _, e⟩ | ⟨_, _, e⟩ | ⟨_, _, e⟩ | ⟨_, _, e⟩ <;> rw [e] at h2 ⊢ <;> exact h2
    exact h2.value x2.sub (.bl _)
/-! ### chains, reversed copies, join -/
variable {b c : Expr} {fb fc : Env → R Bd}
omit nd in
theorem lastMarks_no {o1 o2 : CmpOp} (h : isSet c = false) : lastMarks [o1, o2] [b, c] = false := by
  cases c <;> first | rfl | (simp [isSet] at h)
theorem eo_chain {o1 o2 : Cop} (hu : X.A.units + 64 < cLine) (hs : isSet c = false) (ha : EO F C X W a fa) (hb : EO F C X W b fb) (hc : EO F C X W c fc) :
    EO F C X W (.Compare a [cop o1, cop o2] [b, c] pos) (fun η => (fa η).bind fun x => (fb η).bind fun y => (cmpD o1 x.d y.d).bind fun t => match t with
      | .val (.bl true) => (fc η).bind fun z => cmpD o2 y.d z.d
      | .val (.bl false) => .ok (.val (.bl false))
      | _ => .bad) := by
  obtain ⟨⟨ta, pa, _, ra⟩, _⟩ := ha
  obtain ⟨⟨tb, pb, _, rb⟩, _⟩ := hb
  obtain ⟨⟨tc, pc, _, rc⟩, _⟩ := hc
  obtain ⟨r1, hr1, q1⟩ := cmp_ok (F := F) (C := C) hu o1
  obtain ⟨r2, hr2, q2⟩ := cmp_ok (F := F) (C := C) hu o2
  refine .of nd (pe_chain hr1 hr2 pa pb pc (lastMarks_no hs)) rfl rfl fun P H σ η Q s se h => ?_
  refine part (t := ta) ra s se h fun x P1 H1 v x1 rv h1 => ?_
  refine part (t := tb) rb x1.sub (se.mono x1.grow) h1 fun y P2 H2 w x2 rw' h2 => ?_
  refine q1 P2 H2 v w _ _ (WE W σ) _ x2.sub (rv.mono x2.grow) rw' ?_
  cases e : cmpD o1 x.d y.d with
  | ok bd =>
    rw [e] at h2
    intro P3 H3 z x3 rz
    cases bd with
    | own xs => exact h2.elim
    | val d =>
      cases d with
      | bl k =>
        cases rz
        refine ⟨k, rfl, ?_⟩
        cases k with
        | false => exact (Wp.later (r := .ok (.val (.bl false))) h2 x3).value x3.sub (.bl _)
        | true =>
          refine part (t := tc) rc x3.sub (((se.mono x1.grow).mono x2.grow).mono x3.grow) (Wp.later (r := (fc η).bind fun z => cmpD o2 y.d z.d) h2 x3) fun z P4 H4 v4 x4 r4 h4 => ?_
          exact q2 P4 H4 w v4 _ _ _ Q x4.sub (rw'.mono (x3.grow.trans x4.grow)) r4 h4
      | _ => exact h2.elim
  | exc c k => rw [e] at h2; exact h2
  | bad => rw [e] at h2; exact h2.elim
omit nd in
theorem to_chain {o1 o2 : Cop} (hu : X.A.units + 64 < cLine) (hs : isSet c = false) (ha : EO F C X W a fa) (hb : EO F C X W b fb) (hc : EO F C X W c fc) :
    TO F C X W (.Compare a [cop o1, cop o2] [b, c] pos) (fun η => (fa η).bind fun x => (fb η).bind fun y => (cmpD o1 x.d y.d).bind fun t => match t with
      | .val (.bl true) => (fc η).bind fun z => (cmpD o2 y.d z.d).bind fun t => match t with
        | .val (.bl c) => .ok c
        | _ => .bad
      | .val (.bl false) => .ok false
      | _ => .bad) := by
  obtain ⟨⟨ta, pa, _, ra⟩, _⟩ := ha
  obtain ⟨⟨tb, pb, _, rb⟩, _⟩ := hb
  obtain ⟨⟨tc, pc, _, rc⟩, _⟩ := hc
  obtain ⟨r1, hr1, q1⟩ := cmp_ok (F := F) (C := C) hu o1
  obtain ⟨r2, hr2, q2⟩ := cmp_ok (F := F) (C := C) hu o2
  refine ⟨_, pt_chain hr1 hr2 pa pb pc (lastMarks_no hs), fun _ _ _ e => (by cases e), fun P H σ η Q s se h => ?_⟩
  refine partB (t := ta) ra s se h fun x P1 H1 v x1 rv h1 => ?_
  refine partB (t := tb) rb x1.sub (se.mono x1.grow) h1 fun y P2 H2 w x2 rw' h2 => ?_
  refine q1 P2 H2 v w _ _ (WE W σ) _ x2.sub (rv.mono x2.grow) rw' ?_
  cases e : cmpD o1 x.d y.d with
  | ok bd =>
    rw [e] at h2
    intro P3 H3 z x3 rz
    cases bd with
    | own xs => exact h2.elim
    | val d =>
      cases d with
      | bl k =>
        cases rz
        refine ⟨k, rfl, ?_⟩
        cases k with
        | false => exact ⟨false, rfl, h2 P3 H3 x3⟩
        | true =>
          refine partB (t := tc) rc x3.sub (((se.mono x1.grow).mono x2.grow).mono x3.grow) (WpB.later (r := (fc η).bind fun z => (cmpD o2 y.d z.d).bind fun t => match t with | .val (.bl c) => .ok c | _ => .bad) h2 x3) fun z P4 H4 v4 x4 r4 h4 => ?_
          refine q2 P4 H4 w v4 _ _ (WE W σ) _ x4.sub (rw'.mono (x3.grow.trans x4.grow)) r4 ?_
          cases e : cmpD o2 y.d z.d with
          | ok bd =>
            rw [e] at h4
            intro P5 H5 z5 x5 rz5
            cases bd with
            | own xs => exact h4.elim
            | val d =>
              cases d with
              | bl c =>
                cases rz5
                exact ⟨_, rfl, h4 P5 H5 x5⟩
              | _ => exact h4.elim
          | exc c k => rw [e] at h4; exact h4
          | bad => rw [e] at h4; exact h4.elim
      | _ => exact h2.elim
  | exc c k => rw [e] at h2; exact h2
  | bad => rw [e] at h2; exact h2.elim
theorem eo_rev {k : Nat} {p1 p2 p3 : Pos} (ha : EO F C X W a fa) : EO F C X W (.Subscript a (.Slice none none (some (.UnaryOp .USub (.Constant (.int 1) k p1) p2)) p3) pos) (fun η => (fa η).bind fun x => match x.d with
    | .lst xs => .ok (.own xs.reverse)
    | _ => .bad) := by
  obtain ⟨⟨ta, pa, _, ra⟩, _⟩ := ha
  refine .of nd (pe_revL pa) rfl rfl fun P H σ η Q s se h => ?_
  refine part (t := ta) ra s se h fun x P1 H1 v x1 rv h1 => ?_
  cases e : x.d with
  | lst xs =>
    rw [e] at h1 rv
    cases rv with
    | lst q r => exact ⟨_, _, rfl, seqL x1.sub q, fun p np => Wp.list (ds := xs.reverse) h1 x1.sub r.reverse np⟩
  | _ => rw [e] at h1; exact h1.elim
def isCall : Expr → Bool
  | .Call _ _ _ _ => true
  | _ => false
omit nd in
theorem base_of {o : Expr} {at_ : Str} {env : PySem.Env} (h : isCall o = false) : attributeBase o at_ env (eval o env) = eval o env := by
  cases o <;> first | rfl | (simp [isCall] at h)
theorem eo_join {ap : Pos} (hc : isCall a = false) (hl : (ap.endLine == pos.line) = true) (ha : EO F C X W a fa) (hb : EO F C X W b fb) :
    EO F C X W (.Call (.Attribute a "join" ap) [b] [] pos) (fun η => (fa η).bind fun x => match x.d with
      | .str _ => (fb η).bind fun y => joinD x.d y.d
      | _ => .bad) := by
  obtain ⟨⟨ta, pa, _, ra⟩, _⟩ := ha
  obtain ⟨⟨tb, pb, _, rb⟩, hs⟩ := hb
  refine .of nd (pe_join pa pb (star_cons hs) (base_of hc) hl) rfl rfl fun P H σ η Q s se h => ?_
  refine part (t := ta) ra s se h fun x P1 H1 v x1 rv h1 => ?_
  cases e : x.d with
  | str z =>
    rw [e] at h1 rv
    cases rv
    refine ⟨⟨_, rfl⟩, ?_⟩
    refine part (t := tb) rb x1.sub (se.mono x1.grow) h1 fun y P2 H2 w x2 rw' h2 => ?_
    cases e2 : y.d with
    | lst xs =>
      rw [e2] at h2 rw'
      cases rw' with
      | lst q r =>
        have h2 : Wp (ga X F C) (WE W σ) P2 H2 (match strsD xs with | some ws => PF.grd ((ws.map (·.length)).sum + z.length * ws.length ≤ SZ) (.ok (.val (.str (Txt.join z ws)))) | none => .bad) Q := h2
        cases e3 : strsD xs with
        | none => rw [e3] at h2; exact h2.elim
        | some ws =>
          rw [e3] at h2
          obtain ⟨c, h2⟩ := h2.grd
          have e4 := strs_of e3 r
          subst e4
          exact ⟨z, _, ws, rfl, rfl, .inl (seqL x2.sub q), by rw [Nat.mul_comm ws.length]; exact c, h2.value x2.sub (.str _)⟩
    | tup xs =>
      rw [e2] at h2 rw'
      cases rw' with
      | tup q r =>
        have h2 : Wp (ga X F C) (WE W σ) P2 H2 (match strsD xs with | some ws => PF.grd ((ws.map (·.length)).sum + z.length * ws.length ≤ SZ) (.ok (.val (.str (Txt.join z ws)))) | none => .bad) Q := h2
        cases e3 : strsD xs with
        | none => rw [e3] at h2; exact h2.elim
        | some ws =>
          rw [e3] at h2
          obtain ⟨c, h2⟩ := h2.grd
          have e4 := strs_of e3 r
          subst e4
          exact ⟨z, _, ws, rfl, rfl, .inr (Same.seqT x2.sub q), by rw [Nat.mul_comm ws.length]; exact c, h2.value x2.sub (.str _)⟩
    | _ => rw [e2] at h2; exact h2.elim
  | _ => rw [e] at h1; exact h1.elim
end
end PF

end

section
set_option Elab.async false
set_option linter.all false
set_option maxRecDepth 100000
/-! PF7: what is walked: enumerate, zip of lists and tuples in any mix. -/
namespace PF
open PySem PySem.Spec PyProof.Rows L2
/-- a list or a tuple that is walked -/
inductive Src where
  | l (a : Addr) (xs : List V) | t (a : Addr) (xs : List V)
def Src.a : Src → Addr
  | .l a _ => a
  | .t a _ => a
def Src.xs : Src → List V
  | .l _ xs => xs
  | .t _ xs => xs
def Src.ok (K : PySem.W.Frag) (H : Hp) : Src → Prop
  | .l a xs => SqL K H a xs
  | .t a xs => SqT K H a xs
def Src.at_ (h : Heap) (its : Array Value) : Src → Prop
  | .l a _ => h.IsList a its
  | .t a _ => h.IsTuple a its
def Src.it (h : Heap) (it : Addr) (i : Nat) : Src → Prop
  | .l a _ => h.IsListIter it a i
  | .t a _ => h.IsTupleIter it a i
def Src.ob : Src → Obj
  | .l a _ => { cls := .type "list_iterator", data := .fields #[.ref a, .int 0 0] }
  | .t a _ => { cls := .type "tuple_iterator", data := .fields #[.ref a, .int 0 0] }
theorem Src.same {K : PySem.W.Frag} {H H' : Hp} (e : Same H H') : ∀ {S : Src}, S.ok K H → S.ok K H'
  | .l _ _, h => e.seq h
  | .t _ _, h => Same.seqT e h
theorem Src.draws {P : Program} {w : World} {A : Around} (hh : A.handled = none) (S : Src) (it : Addr) (ne : S.a ≠ it) (its : Array Value) :
    Draws P w A it [it, S.a] its.size (fun i v => its[i]? = some v) (fun i h => S.it h it i ∧ S.at_ h its) := by
  cases S with
  | l a xs => exact Draws.list hh it a ne its
  | t a xs => exact Draws.tuple hh it a ne its
theorem Src.begins (S : Src) (its : Array Value) : Begins (.ref S.a) S.ob (fun h => S.at_ h its) := by
  cases S with
  | l a xs => exact begins_list a its
  | t a xs => exact begins_tuple a its
theorem Src.it_mono {h h' : Heap} {it : Addr} {i : Nat} {S : Src} (x : S.it h it i) (k : ∀ o, h.get? it = some o → h'.get? it = some o) : S.it h' it i := by
  cases S with
  | l a xs => exact Heap.IsListIter.at x k
  | t a xs => exact Heap.IsTupleIter.at x k
theorem Src.it_obj {h : Heap} {it : Addr} {i : Nat} {S : Src} (x : S.it h it i) : ∃ o, h.get? it = some o ∧ ∀ v, o.data ≠ .cell v := by
  cases S with
  | l a xs => obtain ⟨o, e, c, d⟩ := x; exact ⟨o, e, fun v z => by rw [d] at z; cases z⟩
  | t a xs => obtain ⟨o, e, c, d⟩ := x; exact ⟨o, e, fun v z => by rw [d] at z; cases z⟩
theorem Src.it_new {h : Heap} {it : Addr} (S : Src) (e : h.get? it = some S.ob) : S.it h it 0 := by
  cases S with
  | l a xs => exact ⟨_, e, rfl, rfl⟩
  | t a xs => exact ⟨_, e, rfl, rfl⟩
section
variable {X : Cx} {pins : List (Addr × Obj)} {σ : L2.St} {H : Hp} {s : Shared}
theorem Src.get (I : Inv X pins σ H s) {S : Src} (h : S.ok X.K H) : ∃ its : List Value, Vals S.xs its ∧ S.at_ s.heap its.toArray ∧ S.a < s.heap.objs.size := by
  cases S with
  | l a xs => obtain ⟨its, r, p, _⟩ := I.list h; exact ⟨its, r, p.isList, p.lt⟩
  | t a xs => obtain ⟨its, r, p, _⟩ := I.tuple h; obtain ⟨o, ho, _⟩ := id p; exact ⟨its, r, p, Heap.lt_size ho⟩
end
/-! ### enumerate -/
def ItE (K : PySem.W.Frag) (S : Src) : It :=
  ⟨fun i H => i < S.xs.length ∧ S.ok K H, fun i H v H' => ∃ T x, v = .ref T ∧ H T = none ∧ H' = upd H T (.tup [.int (i : Nat), x]) ∧ S.xs[i]? = some x, fun i H => i = S.xs.length ∧ S.ok K H⟩
theorem turn_enumS {P : Program} {w : World} {K : PySem.W.Frag} {elts : List Expr} {kk : Nat} {tpos : Pos} (S : Src) (e it : Addr) :
    Turn P w K (.Tuple elts kk tpos) (ItE K S) [e, it] e (fun i h => (∃ old, IsEnum h e it ((i : Nat) : Int) old) ∧ S.it h it i ∧ e ≠ it ∧ S.a ≠ it ∧ S.a ≠ e) where
  mem := by simp
  obj := fun i h st b hb => by
    obtain ⟨⟨old, he⟩, hi, _⟩ := st
    have e' : b = e ∨ b = it := by simpa using hb
    rcases e' with z | z
    · rw [z]; exact ⟨_, he, fun v q => nomatch q⟩
    · rw [z]; exact Src.it_obj hi
  keep := fun i h h' st k => let ⟨⟨old, he⟩, hi, hne⟩ := st; ⟨⟨old, k e (by simp) _ he⟩, Src.it_mono hi fun o q => k it (by simp) o q, hne⟩
  item := by
    intro X hP hw hK hc i pins s σ H E I hf st hg
    subst hP hw hK
    obtain ⟨⟨old, he⟩, hit, hne, ha1, ha2⟩ := st
    obtain ⟨hi, hq⟩ := hg
    obtain ⟨its, rv, p, _⟩ := Src.get I hq
    have hl : its.toArray.size = S.xs.length := by rw [List.size_toArray, rv.length]
    have D : Draws X.prog X.w X.A.in1 it [it, S.a] its.toArray.size _ _ := S.draws (A := X.A.in1) (I.ok.hd hc) it ha1 its.toArray
    have nin : e ∉ [it, S.a] := by
      simp only [List.mem_cons, List.mem_nil_iff, or_false, not_or]
      exact ⟨hne, fun z => ha2 z.symm⟩
    have W := WalksT.enumFrom (prog := X.prog) (w := X.w) (A := X.A) 0 D e hne nin (by simp)
    have e0 : (0 : Int) + (i : Int) = i := by omega
    refine W.item i s _ E (by rw [hl]; exact hi) ⟨⟨old, by rw [e0]; exact he⟩, hit, p⟩ fun T vals h' tk hPt hT hTup hMid hk => ?_
    obtain ⟨t, u, hu, rfl⟩ := hPt
    have ap := W.apart i T h' hMid
    refine ⟨_, rfl, W.go elts kk tpos i T _ _ E hMid fun h'' hst hk2 => ?_⟩
    obtain ⟨⟨old2, he2⟩, hit2, _⟩ := hst
    obtain ⟨x, hx, ru⟩ : ∃ x, S.xs[i]? = some x ∧ RelV x u := by
      have hlt : i < its.length := by rw [← rv.length]; exact hi
      obtain ⟨u', hu', r'⟩ := rv.get (List.getElem?_eq_getElem hi)
      have e3 : its[i]? = some u := by simpa using hu
      rw [hu'] at e3
      cases e3
      exact ⟨_, List.getElem?_eq_getElem hi, r'⟩
    obtain ⟨oT, hoT, hcT, nT, hdT⟩ := hTup
    have hT2 : h''.get? T = some oT := hk2 T oT ap hoT
    have new : ObjOk X.prog X.w (upd H T (.tup [.int (i : Nat), x])) h'' T (.tup [.int (i : Nat), x]) :=
      ⟨by show 2 ≤ sizeLine; decide, [.int (0 + (i : Int)) t, u], .cons ⟨_, by rw [e0]⟩ (.cons ru .nil), ⟨oT, hT2, hcT, nT, hdT⟩⟩
    have I1 : Inv X pins σ (upd H T (.tup [.int (i : Nat), x])) { s with heap := h'', toks := tk } :=
      I.turnedNew (ch := [e, it]) (fun b ob hb q => hk2 b ob hb (hk b ob hb q)) hf hT new
    refine ⟨.ref T, _, I1, rfl, ⟨T, x, rfl, I.hok.fresh hT, rfl, hx⟩, ⟨⟨old2, ?_⟩, hit2, hne, ha1, ha2⟩, fun b hb => ?_⟩
    · have e1 : ((i + 1 : Nat) : Int) = 0 + ((i + 1 : Nat) : Int) := by omega
      rw [e1]; exact he2
    · have hbT : b ≠ T := fun z => ap (by rw [← z]; exact hb)
      rw [upd_ne hbT]
      exact (hf b hb).1
  done := by
    intro X hP hw hK hc i pins s σ H E I hf st hg
    subst hP hw hK
    obtain ⟨⟨old, he⟩, hit, hne, ha1, ha2⟩ := st
    obtain ⟨hi, hq⟩ := hg
    obtain ⟨its, rv, p, _⟩ := Src.get I hq
    have hl : its.toArray.size = S.xs.length := by rw [List.size_toArray, rv.length]
    have D : Draws X.prog X.w X.A.in1 it [it, S.a] its.toArray.size _ _ := S.draws (A := X.A.in1) (I.ok.hd hc) it ha1 its.toArray
    have nin : e ∉ [it, S.a] := by
      simp only [List.mem_cons, List.mem_nil_iff, or_false, not_or]
      exact ⟨hne, fun z => ha2 z.symm⟩
    have W := WalksT.enumFrom (prog := X.prog) (w := X.w) (A := X.A) 0 D e hne nin (by simp)
    have e0 : (0 : Int) + (its.toArray.size : Int) = (i : Int) := by rw [hl, hi]; omega
    refine W.done s _ E ⟨⟨old, by rw [e0]; exact he⟩, by rw [hl, ← hi]; exact hit, p⟩ fun h' tk hk => ⟨rfl, I.turnedL (ch := [e, it]) (fun b ob hb q => hk b ob hb q) hf⟩
  self := fun A i s Q E st h => let ⟨⟨_, he⟩, _⟩ := st; wpAny_pyIter_enum he h
theorem walk_enumS {K : PySem.W.Frag} {S : Src} : Walk (ItE K S) S.xs.length (fun H => S.ok K H) (YPair (fun i => some (.int (i : Nat))) (fun i => S.xs[i]?)) := by
  refine ⟨fun i _ hi q => ⟨hi, q⟩, fun _ q => ⟨rfl, q⟩, fun i H v H' _ q y => ?_⟩
  obtain ⟨T, x, h1, h2, h3, h4⟩ := y
  exact ⟨T, .int (i : Nat), x, h1, h2, h3, rfl, h4⟩
set_option maxHeartbeats 1000000 in
theorem meets_enumerate_new1 {v : Value} {o : Obj} {H : Heap → Prop} (B : Begins v o H) :
    Meets (Builtin.«enumerate.__new__» ⟨[.type "enumerate", v], []⟩) (fun _ R s => H s.heap ∧
      R (.ok (.ret (.ref (s.heap.push o).objs.size))) { s with heap := (s.heap.push o).push { cls := .type "enumerate", data := .fields #[.none, .bool false, .ref s.heap.objs.size, rawInt 0, .none, .none] } }) :=
  .of_wp fun prog w A R s h => by
    obtain ⟨hp, g, d, tk, os⟩ := s; obtain ⟨h1, h⟩ := h
    have hsub := sub_enumerate
    have q1 : ∀ {A' : Around} {E : Value → Shared → Prop} {Q : Value → Shared → Prop}, Q (.ref hp.objs.size) ⟨hp.push o, g, d, tk, os⟩ → wpAny (model prog w) A' (pyIter v) Q E ⟨hp, g, d, tk, os⟩ :=
      fun q => B.iter prog w _ _ ⟨hp, g, d, tk, os⟩ _ h1 q
    wp_walk using q1
    refine wpAny_stack_any fun st => wpAny_pure ?_
    split
    · rename_i c _ _ _ _ _
      cases (c == Value.type "enumerate")
      · wp_walk using q1
        exact ⟨_, rfl, h⟩
      · wp_walk using q1
        exact ⟨_, rfl, h⟩
    · wp_walk using q1
      exact ⟨_, rfl, h⟩
section
variable {prog : Program} {w : World} {A : Around} {E : Value → Shared → Prop} {s : Shared}
theorem enum_begins1 {v : Value} {o : Obj} {H : Heap → Prop} {Q : Value → Shared → Prop} (B : Begins v o H) (h1 : H s.heap)
    (h : ∀ h', IsEnum h' (s.heap.objs.size + 1) s.heap.objs.size 0 .none → h'.get? s.heap.objs.size = some o → h'.objs.size = s.heap.objs.size + 2 →
      (∀ b o, s.heap.get? b = some o → h'.get? b = some o) → Q (.ref (s.heap.objs.size + 1)) { s with heap := h' }) :
    wpAny (model prog w) A (call (.type "enumerate") [v]) Q E s := by
  refine callType_new F.called_enumerate (by decide) (F.typeCall_enumerate_1 _) (F.newCall_enumerate_1 _) (fun obj => F.args_object_init_2 obj _) F.entry_enumerate_new
    (meets_enumerate_new1 B) ⟨h1, ?_⟩
  have hz : (s.heap.push o).objs.size = s.heap.objs.size + 1 := Heap.size_push ..
  show _ ∧ _
  rw [hz]
  have he : IsEnum ((s.heap.push o).push { cls := .type "enumerate", data := .fields #[.none, .bool false, .ref s.heap.objs.size, rawInt 0, .none, .none] }) (s.heap.objs.size + 1) s.heap.objs.size 0 .none := by
    have := Heap.get?_push_size (s.heap.push o) (o := { cls := .type "enumerate", data := .fields #[.none, .bool false, .ref s.heap.objs.size, rawInt 0, .none, .none] }) rfl
    rw [hz] at this; exact this
  refine ⟨⟨_, he, rfl⟩, h _ he (Heap.get?_push_of_some _ (Heap.get?_push_size _ B.free)) (by rw [Heap.size_push, hz]) fun b o x => Heap.get?_push_of_some _ (Heap.get?_push_of_some _ x)⟩
end
theorem pi_enumS {X : Cx} {e : Expr} {ta : TA} {p pos tpos : Pos} {elts : List Expr} {kk : Nat} (hg : Gl X "enumerate") (hm : X.mg "enumerate" = none) (ha : PA X [e] ta) (hs : starEach [e] X.env = [(false, eval e X.env)]) :
    PI X (.Tuple elts kk tpos) (.Call (.Name "enumerate" p) [e] [] pos) (fun σ H R => ta σ H fun vs H1 => ∃ S : Src, vs = [.ref S.a] ∧ S.ok X.K H1 ∧ R (ItE X.K S) H1) := by
  refine ⟨fun pins s σ H R I h => ?_⟩
  refine Call_ (ld_blt I hg hm boot_enumerate (PyProof.Rows.callWith_type1 (thn (ha.run pos pins s σ H _ I h) fun us s1 ⟨vs, H1, I1, r1, q1⟩ => ?_) hs rfl))
  obtain ⟨S, ex, hq, q⟩ := q1
  subst ex
  cases r1 with
  | cons r rr =>
    cases rr
    cases r
    obtain ⟨its, rv, p', hlt⟩ := Src.get I1 hq
    refine enum_begins1 (S.begins its.toArray) p' fun h' he hit hsz hk => wpAny_pyIter_enum he ?_
    have I2 : Inv X pins σ H1 { s1 with heap := h' } := I1.kept (t' := s1.toks) hk
    refine ⟨s1.heap.objs.size + 1, [s1.heap.objs.size + 1, s1.heap.objs.size], _, _, H1, rfl, I2, turn_enumS S (s1.heap.objs.size + 1) s1.heap.objs.size, ⟨⟨.none, he⟩, S.it_new hit, Nat.succ_ne_self _, Nat.ne_of_lt hlt, Nat.ne_of_lt (Nat.lt_succ_of_lt hlt)⟩, fun b hb => ?_, q⟩
    have e' : b = s1.heap.objs.size + 1 ∨ b = s1.heap.objs.size := by simpa using hb
    have hle : s1.heap.objs.size ≤ b := by
      rcases e' with z | z
      · rw [z]; exact Nat.le_add_right _ _
      · rw [z]; exact Nat.le_refl _
    exact I1.fpOk hle (I1.hok.fresh hle)
/-! ### zip of two -/
def ItZ (K : PySem.W.Frag) (S1 S2 : Src) : It :=
  ⟨fun i H => i < min S1.xs.length S2.xs.length ∧ S1.ok K H ∧ S2.ok K H, fun i H v H' => ∃ T x y, v = .ref T ∧ H T = none ∧ H' = upd H T (.tup [x, y]) ∧ S1.xs[i]? = some x ∧ S2.xs[i]? = some y, fun i H => i = min S1.xs.length S2.xs.length ∧ S1.ok K H ∧ S2.ok K H⟩
theorem src_item {S : Src} {its : List Value} {i : Nat} {u : Value} (rv : Vals S.xs its) (hi : i < S.xs.length) (hu : its.toArray[i]? = some u) : ∃ x, S.xs[i]? = some x ∧ RelV x u := by
  obtain ⟨u', hu', r'⟩ := rv.get (List.getElem?_eq_getElem hi)
  have e3 : its[i]? = some u := by simpa using hu
  rw [hu'] at e3
  cases e3
  exact ⟨_, List.getElem?_eq_getElem hi, r'⟩
theorem turn_zipS {P : Program} {w : World} {K : PySem.W.Frag} {elts : List Expr} {kk : Nat} {tpos : Pos} (S1 S2 : Src) (z TI TO i1 i2 : Addr) (D : ZipSep2 z TI TO i1 i2 [i1, S1.a] [i2, S2.a]) :
    Turn P w K (.Tuple elts kk tpos) (ItZ K S1 S2) [z, TI, TO, i1, i2] z (fun i h => IsZip h z TI TO .none ∧ IsTupOf2 h TI (.ref i1) (.ref i2) ∧ (∃ a1 a2, IsTupOf2 h TO a1 a2) ∧ S1.it h i1 i ∧ S2.it h i2 i ∧ S1.a ≠ i1 ∧ S2.a ≠ i2) where
  mem := by simp
  obj := fun i h st c hc => by
    obtain ⟨hz, hTI, ⟨x, y, hTO⟩, h1, h2, _⟩ := st
    have e' : c = z ∨ c = TI ∨ c = TO ∨ c = i1 ∨ c = i2 := by simpa using hc
    rcases e' with q | q | q | q | q
    · rw [q]; exact ⟨_, hz, fun v q => nomatch q⟩
    · rw [q]; exact ⟨_, hTI, fun v q => nomatch q⟩
    · rw [q]; exact ⟨_, hTO, fun v q => nomatch q⟩
    · rw [q]; exact Src.it_obj h1
    · rw [q]; exact Src.it_obj h2
  keep := fun i h h' st k => by
    obtain ⟨hz, hTI, ⟨x, y, hTO⟩, h1, h2, n⟩ := st
    exact ⟨k z (by simp) _ hz, k TI (by simp) _ hTI, ⟨x, y, k TO (by simp) _ hTO⟩, Src.it_mono h1 fun o q => k i1 (by simp) o q, Src.it_mono h2 fun o q => k i2 (by simp) o q, n⟩
  item := by
    intro X hP hw hK hc i pins s σ H E I hf st hg
    subst hP hw hK
    obtain ⟨hz, hTI, hTO, h1, h2, n1, n2⟩ := st
    obtain ⟨hi, hq1, hq2⟩ := hg
    obtain ⟨its1, rv1, p1, _⟩ := Src.get I hq1
    obtain ⟨its2, rv2, p2, _⟩ := Src.get I hq2
    have hl1 : its1.toArray.size = S1.xs.length := by rw [List.size_toArray, rv1.length]
    have hl2 : its2.toArray.size = S2.xs.length := by rw [List.size_toArray, rv2.length]
    have D1 : Draws X.prog X.w X.A.in1 i1 [i1, S1.a] its1.toArray.size _ _ := S1.draws (A := X.A.in1) (I.ok.hd hc) i1 n1 its1.toArray
    have D2 : Draws X.prog X.w X.A.in1 i2 [i2, S2.a] its2.toArray.size _ _ := S2.draws (A := X.A.in1) (I.ok.hd hc) i2 n2 its2.toArray
    have W := WalksT.zipD2 (prog := X.prog) (w := X.w) (A := X.A) D D1 D2
    refine W.item i s _ E (by rw [hl1, hl2]; exact hi) ⟨hz, hTI, hTO, ⟨h1, p1⟩, ⟨h2, p2⟩⟩ fun T vals h' tk hPt hT hTup hMid hk => ?_
    obtain ⟨u1, u2, hu1, hu2, rfl⟩ := hPt
    have ap := W.apart i T h' hMid
    refine ⟨_, rfl, W.go elts kk tpos i T _ _ E hMid fun h'' hst hk2 => ?_⟩
    obtain ⟨hz3, hTI3, hTO3, ⟨h13, _⟩, ⟨h23, _⟩⟩ := hst
    obtain ⟨x, hx, ru1⟩ := src_item rv1 (by omega) hu1
    obtain ⟨y, hy, ru2⟩ := src_item rv2 (by omega) hu2
    obtain ⟨oT, hoT, hcT, nT, hdT⟩ := hTup
    have hT2 : h''.get? T = some oT := hk2 T oT ap hoT
    have new : ObjOk X.prog X.w (upd H T (.tup [x, y])) h'' T (.tup [x, y]) :=
      ⟨by show 2 ≤ sizeLine; decide, [u1, u2], .cons ru1 (.cons ru2 .nil), ⟨oT, hT2, hcT, nT, hdT⟩⟩
    have wrn : ∀ b, b ∉ [z, TI, TO, i1, i2] → b ∉ [z, TO, i1, i2] := fun b hb q => hb (by simp only [List.mem_cons, List.mem_nil_iff, or_false] at q ⊢; rcases q with q | q | q | q <;> simp [q])
    have I1 : Inv X pins σ (upd H T (.tup [x, y])) { s with heap := h'', toks := tk } :=
      I.turnedNew (ch := [z, TI, TO, i1, i2]) (fun b ob hb q => hk2 b ob (wrn b hb) (hk b ob (wrn b hb) q)) hf hT new
    refine ⟨.ref T, _, I1, rfl, ⟨T, x, y, rfl, I.hok.fresh hT, rfl, hx, hy⟩, ⟨hz3, hTI3, hTO3, h13, h23, n1, n2⟩, fun b hb => ?_⟩
    have hbT : b ≠ T := fun q => by
      have hb' : b < s.heap.objs.size := by
        have e' : b = z ∨ b = TI ∨ b = TO ∨ b = i1 ∨ b = i2 := by simpa using hb
        rcases e' with q | q | q | q | q
        · rw [q]; exact Heap.lt_size hz
        · rw [q]; exact Heap.lt_size hTI
        · obtain ⟨_, _, e⟩ := hTO; rw [q]; exact Heap.lt_size e
        · obtain ⟨_, e, _⟩ := Src.it_obj h1; rw [q]; exact Heap.lt_size e
        · obtain ⟨_, e, _⟩ := Src.it_obj h2; rw [q]; exact Heap.lt_size e
      rw [q] at hb'
      exact absurd (Nat.lt_of_lt_of_le hb' hT) (Nat.lt_irrefl _)
    rw [upd_ne hbT]
    exact (hf b hb).1
  done := by
    intro X hP hw hK hc i pins s σ H E I hf st hg
    subst hP hw hK
    obtain ⟨hz, hTI, hTO, h1, h2, n1, n2⟩ := st
    obtain ⟨hi, hq1, hq2⟩ := hg
    obtain ⟨its1, rv1, p1, _⟩ := Src.get I hq1
    obtain ⟨its2, rv2, p2, _⟩ := Src.get I hq2
    have hl1 : its1.toArray.size = S1.xs.length := by rw [List.size_toArray, rv1.length]
    have hl2 : its2.toArray.size = S2.xs.length := by rw [List.size_toArray, rv2.length]
    have D1 : Draws X.prog X.w X.A.in1 i1 [i1, S1.a] its1.toArray.size _ _ := S1.draws (A := X.A.in1) (I.ok.hd hc) i1 n1 its1.toArray
    have D2 : Draws X.prog X.w X.A.in1 i2 [i2, S2.a] its2.toArray.size _ _ := S2.draws (A := X.A.in1) (I.ok.hd hc) i2 n2 its2.toArray
    have W := WalksT.zipD2 (prog := X.prog) (w := X.w) (A := X.A) D D1 D2
    have wrn : ∀ b, b ∉ [z, TI, TO, i1, i2] → b ∉ [z, TO, i1, i2] := fun b hb q => hb (by simp only [List.mem_cons, List.mem_nil_iff, or_false] at q ⊢; rcases q with q | q | q | q <;> simp [q])
    have ei : min its1.toArray.size its2.toArray.size = i := by rw [hl1, hl2, hi]
    refine W.done s _ E (by rw [ei]; exact ⟨hz, hTI, hTO, ⟨h1, p1⟩, ⟨h2, p2⟩⟩) fun h' tk hk => ⟨rfl, I.turnedL (ch := [z, TI, TO, i1, i2]) (fun b ob hb q => hk b ob (wrn b hb) q) hf⟩
  self := fun A i s Q E st h => wpAny_pyIter_zip st.1 h
theorem walk_zipS {K : PySem.W.Frag} {S1 S2 : Src} : Walk (ItZ K S1 S2) (min S1.xs.length S2.xs.length) (fun H => S1.ok K H ∧ S2.ok K H) (YPair (fun i => S1.xs[i]?) (fun i => S2.xs[i]?)) := by
  refine ⟨fun i _ hi q => ⟨hi, q⟩, fun _ q => ⟨rfl, q⟩, fun i H v H' _ q y => ?_⟩
  obtain ⟨T, x, z, h1, h2, h3, h4, h5⟩ := y
  exact ⟨T, x, z, h1, h2, h3, h4, h5⟩
theorem pi_zipS {X : Cx} {e e2 : Expr} {ta : TA} {p pos tpos : Pos} {elts : List Expr} {kk : Nat} (hg : Gl X "zip") (hm : X.mg "zip" = none) (ha : PA X [e, e2] ta)
    (hs : starEach [e, e2] X.env = (false, eval e X.env) :: starEach [e2] X.env) (hpl : (backTo pos (starEach [e2] X.env)).any (·.1) = false) :
    PI X (.Tuple elts kk tpos) (.Call (.Name "zip" p) [e, e2] [] pos) (fun σ H R => ta σ H fun vs H1 => ∃ S1 S2 : Src, vs = [.ref S1.a, .ref S2.a] ∧ S1.ok X.K H1 ∧ S2.ok X.K H1 ∧ R (ItZ X.K S1 S2) H1) := by
  refine ⟨fun pins s σ H R I h => ?_⟩
  refine Call_ (ld_blt I hg hm PyProof.Rows.boot_zip (PyProof.Rows.callWith_type1 (thn (ha.run pos pins s σ H _ I h) fun us s1 ⟨vs, H1, I1, r1, q1⟩ => ?_) hs hpl))
  obtain ⟨S1, S2, ex, hq1, hq2, q⟩ := q1
  subst ex
  cases r1 with
  | cons r rr =>
    cases rr with
    | cons r' rr =>
      cases rr
      cases r
      cases r'
      obtain ⟨its1, rv1, p1, l1⟩ := Src.get I1 hq1
      obtain ⟨its2, rv2, p2, l2⟩ := Src.get I1 hq2
      refine zip_begins2 (S1.begins its1.toArray) (S2.begins its2.toArray) p1 p2 fun h' hz hTI hTO h1 h2 hsz hk => wpAny_pyIter_zip hz ?_
      have I2 : Inv X pins σ H1 { s1 with heap := h' } := I1.kept (t' := s1.toks) hk
      refine ⟨s1.heap.objs.size + 4, [s1.heap.objs.size + 4, s1.heap.objs.size + 2, s1.heap.objs.size + 3, s1.heap.objs.size, s1.heap.objs.size + 1], _, _, H1, rfl, I2,
        turn_zipS S1 S2 _ _ _ _ _ (zip_sep2 (fp1 := [S1.a]) (fp2 := [S2.a]) (fun b hb => by rw [List.mem_singleton.mp hb]; exact l1) (fun b hb => by rw [List.mem_singleton.mp hb]; exact l2)),
        ⟨hz, hTI, ⟨_, _, hTO⟩, S1.it_new h1, S2.it_new h2, Nat.ne_of_lt l1, Nat.ne_of_lt (Nat.lt_succ_of_lt l2)⟩, fun c hcm => ?_, q⟩
      have e' : c = s1.heap.objs.size + 4 ∨ c = s1.heap.objs.size + 2 ∨ c = s1.heap.objs.size + 3 ∨ c = s1.heap.objs.size ∨ c = s1.heap.objs.size + 1 := by simpa using hcm
      have hle : s1.heap.objs.size ≤ c := by
        rcases e' with z | z | z | z | z
        · rw [z]; exact Nat.le_add_right _ _
        · rw [z]; exact Nat.le_add_right _ _
        · rw [z]; exact Nat.le_add_right _ _
        · rw [z]; exact Nat.le_refl _
        · rw [z]; exact Nat.le_add_right _ _
      exact I1.fpOk hle (I1.hok.fresh hle)
end PF

end

section
set_option Elab.async false
set_option linter.all false
set_option maxRecDepth 100000
/-! PF8: targets, what is walked, comprehensions. -/
namespace PF
open PySem PySem.Spec PyProof.Rows L2
/-! ### targets -/
/-- the slots behind -/
def Put (Γ : Ga) (P : Hp) : List (Nat × D) → L2.St → L2.St → Prop
  | [], σ, σ' => σ' = σ
  | p :: r, σ, σ' => ∃ v, Rep Γ P v p.2 ∧ Put Γ P r (σ.set p.1 (some v)) σ'
theorem Put.append {Γ : Ga} {P : Hp} : ∀ {l m : List (Nat × D)} {σ σ1 σ2 : L2.St}, Put Γ P l σ σ1 → Put Γ P m σ1 σ2 → Put Γ P (l ++ m) σ σ2
  | [], _, _, _, _, h, q => by
    have e : _ = _ := h
    subst e
    exact q
  | _ :: _, _, _, _, _, ⟨v, r, h⟩, q => ⟨v, r, Put.append h q⟩
theorem SimE.set {Γ : Ga} {P : Hp} {σ : L2.St} {η : Env} {i : Nat} {v : V} {d : D} (h : SimE Γ P σ η) (r : Rep Γ P v d) : SimE Γ P (σ.set i (some v)) (η.set i (some d)) := by
  refine ⟨by rw [List.length_set, List.length_set]; exact h.len, fun j e he => ?_⟩
  by_cases hj : i = j
  · subst hj
    by_cases hl : i < η.length
    · rw [List.getElem?_set_self hl] at he
      cases he
      exact ⟨v, by rw [List.getElem?_set_self (by rw [h.len]; exact hl)], r⟩
    · rw [List.getElem?_eq_none (by rw [List.length_set]; omega)] at he
      cases he
  · rw [List.getElem?_set_ne hj] at he ⊢
    exact h.val j e he
theorem SimE.put {Γ : Ga} {P : Hp} : ∀ {l : List (Nat × D)} {σ σ' : L2.St} {η : Env}, SimE Γ P σ η → Put Γ P l σ σ' → SimE Γ P σ' (setE l η)
  | [], _, _, _, h, q => by
    have e : _ = _ := q
    subst e
    exact h
  | p :: l, _, _, _, h, ⟨v, r, q⟩ => SimE.put (l := l) (h.set r) q
theorem wipe_set {σ : L2.St} {i : Nat} {v : Option V} : ∀ {vs : List Nat}, i ∈ vs → wipe (σ.set i v) vs = wipe σ vs
  | [], h => by simp at h
  | w :: ws, h => by
    unfold wipe
    by_cases e : i ∈ ws
    · rw [wipe_set e]
    · have e2 : i = w := by
        rcases List.mem_cons.mp h with z | z
        · exact z
        · exact absurd z e
      subst e2
      have aux : ∀ {us : List Nat} {σ : L2.St}, i ∉ us → wipe (σ.set i v) us = (wipe σ us).set i v := by
        intro us
        induction us with
        | nil => intro σ _; rfl
        | cons u us ih =>
          intro σ hu
          simp only [List.mem_cons, not_or] at hu
          unfold wipe
          rw [ih hu.2, List.set_comm _ _ hu.1]
      rw [aux e, List.set_set]
theorem Put.wipe {Γ : Ga} {P : Hp} {vs : List Nat} : ∀ {l : List (Nat × D)} {σ σ' : L2.St}, Put Γ P l σ σ' → (∀ p ∈ l, p.1 ∈ vs) → L2.wipe σ' vs = L2.wipe σ vs
  | [], _, _, q, _ => by
    have e : _ = _ := q
    subst e
    rfl
  | p :: r, _, _, ⟨v, _, q⟩, h => by
    rw [Put.wipe q fun z hz => h z (List.mem_cons_of_mem _ hz), wipe_set (h p List.mem_cons_self)]
section
variable (F C : Nat → Addr) (X : Cx)
structure GO (e : Expr) (t : Tg) : Prop where
  ex : ∃ g, PG X e g ∧ ∀ (P H : Hp) (v : V) (d : D) (σ : L2.St) (l : List (Nat × D)) (Q : L2.St → Hp → Prop), Same P H → Rep (ga X F C) P v d → asgs t d = some l → (∀ σ', Put (ga X F C) P l σ σ' → Q σ' H) → g v σ H Q
  star : isStar e = false
structure GOs (es : List Expr) (ts : List Tg) : Prop where
  ex : ∃ g, PGs X es g ∧ ∀ (P H : Hp) (vs : List V) (ds : List D) (σ : L2.St) (l : List (Nat × D)) (Q : L2.St → Hp → Prop), Same P H → RepL (ga X F C) P vs ds → asgs.asgss ts ds = some l → (∀ σ', Put (ga X F C) P l σ σ' → Q σ' H) → g vs σ H Q
  star : es.all (fun e => !isStar e) = true
  len : es.length = ts.length
end
section
variable {F C : Nat → Addr} {X : Cx}
theorem go_nm {i : Nat} {x : Str} {pos : Pos} (nd : X.N.Nodup) (hi : X.N[i]? = some x) (hx : Loc X.env.scope x) (hf : X.fn x = true ∨ X.env.scope.names.lookup x = some .local) : GO F C X (.Name x pos) (.nm i) := by
  refine ⟨⟨_, pg_name nd hi hx hf, fun P H v d σ l Q s r e q => ?_⟩, rfl⟩
  cases e
  exact q _ ⟨v, r, rfl⟩
theorem gos_nil : GOs F C X [] [] := by
  refine ⟨⟨_, pgs_nil, fun P H vs ds σ l Q s r e q => ?_⟩, rfl, rfl⟩
  cases ds with
  | nil =>
    cases r
    cases e
    exact ⟨rfl, q σ rfl⟩
  | cons d ds => cases e
theorem assignEach_cons {e : Expr} {es : List Expr} {env : PySem.Env} (h : isStar e = false) : assignEach (e :: es) env = (false, assign e env) :: assignEach es env := by
  cases e <;> first | rfl | (simp [isStar] at h)
theorem gos_cons {e : Expr} {es : List Expr} {t : Tg} {ts : List Tg} (h1 : GO F C X e t) (h2 : GOs F C X es ts) : GOs F C X (e :: es) (t :: ts) := by
  obtain ⟨⟨g, pg, rg⟩, hs⟩ := h1
  obtain ⟨⟨gs, pgs, rgs⟩, hss, hl⟩ := h2
  refine ⟨⟨_, pgs_cons pg pgs (by rw [assignEach_cons hs]; rfl), fun P H vs ds σ l Q s r e q => ?_⟩, by rw [List.all_cons, hs, hss]; rfl, by rw [List.length_cons, List.length_cons, hl]⟩
  cases ds with
  | nil => cases e
  | cons d ds =>
    cases r with
    | cons r rr =>
      have e : ((asgs t d).bind fun a => (asgs.asgss ts ds).bind fun b => some (a ++ b)) = some l := e
      cases e1 : asgs t d with
      | none => rw [e1] at e; cases e
      | some a =>
        rw [e1] at e
        cases e2 : asgs.asgss ts ds with
        | none =>
          have e : ((asgs.asgss ts ds).bind fun b => some (a ++ b)) = some l := e
          rw [e2] at e
          cases e
        | some b =>
          have e : ((asgs.asgss ts ds).bind fun b => some (a ++ b)) = some l := e
          rw [e2] at e
          cases e
          exact ⟨_, _, rfl, rg P H _ d σ a _ s r e1 fun σ1 p1 => rgs P H _ ds σ1 b Q s rr e2 fun σ2 p2 => q σ2 (p1.append p2)⟩
theorem assignEach_len : ∀ {es : List Expr} {env : PySem.Env}, es.all (fun e => !isStar e) = true → (assignEach es env).length = es.length ∧ (assignEach es env).findIdx? (·.1) = none
  | [], _, _ => ⟨rfl, rfl⟩
  | e :: es, env, h => by
    simp only [List.all_cons, Bool.and_eq_true, Bool.not_eq_true'] at h
    obtain ⟨h1, h2⟩ := assignEach_len (env := env) h.2
    rw [assignEach_cons h.1]
    refine ⟨by rw [List.length_cons, List.length_cons, h1], ?_⟩
    rw [List.findIdx?_cons]
    simp only [Bool.false_eq_true, if_false, h2]
    rfl
theorem asgss_len : ∀ {ts : List Tg} {ds : List D} {l : List (Nat × D)}, asgs.asgss ts ds = some l → ds.length = ts.length
  | [], [], _, _ => rfl
  | t :: ts, d :: ds, l, e => by
    have e : ((asgs t d).bind fun a => (asgs.asgss ts ds).bind fun b => some (a ++ b)) = some l := e
    cases e1 : asgs t d with
    | none => rw [e1] at e; cases e
    | some a =>
      rw [e1] at e
      have e : ((asgs.asgss ts ds).bind fun b => some (a ++ b)) = some l := e
      cases e2 : asgs.asgss ts ds with
      | none => rw [e2] at e; cases e
      | some b => rw [List.length_cons, List.length_cons, asgss_len e2]
  | [], _ :: _, _, e => by cases e
  | _ :: _, [], _, e => by cases e
theorem go_tup {es : List Expr} {ts : List Tg} {k : Nat} {pos : Pos} (hc : X.calm = true) (h : GOs F C X es ts) : GO F C X (.Tuple es k pos) (.tup ts) := by
  obtain ⟨⟨g, pg, rg⟩, hs, hl⟩ := h
  have p1 := pg_tup (k := k) (pos := pos) hc pg (assignEach_len hs).1 (assignEach_len hs).2
  have p2 := pg_lst (k := k) (pos := pos) hc pg (assignEach_len hs).1 (assignEach_len hs).2
  refine ⟨⟨fun v σ H Q => gTup X.K es.length g v σ H Q ∨ gLst X.K es.length g v σ H Q, ⟨fun pins s σ H v u Q I r h => ?_⟩, fun P H v d σ l Q s r e q => ?_⟩, rfl⟩
  · rcases h with h | h
    · exact p1.run pins s σ H v u Q I r h
    · exact p2.run pins s σ H v u Q I r h
  · cases r with
    | tup q1 r1 => exact .inl ⟨_, _, rfl, Same.seqT s q1, by rw [r1.length, hl]; exact asgss_len e, rg P H _ _ σ l Q s r1 e q⟩
    | lst q1 r1 => exact .inr ⟨_, _, rfl, seqL s q1, by rw [r1.length, hl]; exact asgss_len e, rg P H _ _ σ l Q s r1 e q⟩
    | _ => cases e
end
/-! ### what is walked -/
/-- the items that are given out, turn by turn -/
def WalksD (Γ : Ga) (J : It) (P1 : Hp) (items : List D) : Prop :=
  ∃ (G : Hp → Prop) (Y : Nat → Hp → V → Hp → Prop), Walk J items.length G Y ∧ (∀ H, Same P1 H → G H) ∧
    ∀ (i : Nat) (H : Hp) (x : V) (H' P : Hp), i < items.length → Same P1 P → Same P H → Y i H x H' → ∃ d P', items[i]? = some d ∧ Ext P H P' H' ∧ Rep Γ P' x d
def WpI (Γ : Ga) (W : XK) (P H : Hp) (r : R (List D)) (Q : It → Hp → Prop) : Prop := match r with
  | .ok items => ∀ J P' H', Ext P H P' H' → WalksD Γ J P' items → Q J H'
  | .exc c k => ∀ P' H' cls d, Ext P H P' H' → XRep Γ H' cls d c k → W cls d H'
  | .bad => False
def IO (F C : Nat → Addr) (X : Cx) (W : WX) (tg iter : Expr) (f : Env → R (List D)) : Prop :=
  ∃ wi, PI X tg iter wi ∧ (∀ x, foldedSetIterable iter X.env x = pure x) ∧ ∀ (P H : Hp) (σ : L2.St) (η : Env) (Q : It → Hp → Prop), Same P H → SimE (ga X F C) P σ η → WpI (ga X F C) (WE W σ) P H (f η) Q → wi σ H Q
section
variable {F C : Nat → Addr} {X : Cx} {W : WX} {tg : Expr} {pos p : Pos}
theorem WpI.later {Γ : Ga} {W : XK} {P H P1 H1 : Hp} {r : R (List D)} {Q : It → Hp → Prop} (h : WpI Γ W P H r Q) (e : Ext P H P1 H1) : WpI Γ W P1 H1 r Q := by
  cases r with
  | ok b => exact fun J P' H' x q => h J P' H' (e.trans x) q
  | exc c k => exact fun P' H' cls d x q => h P' H' cls d (e.trans x) q
  | bad => exact h
theorem partI {σ : L2.St} {η : Env} {P H : Hp} {t : TE} {f : Env → R Bd} {k : Bd → R (List D)} {Q : It → Hp → Prop} {Q' : VK} (r : ∀ (P H : Hp) (σ : L2.St) (η : Env) (Q : VK), Same P H → SimE (ga X F C) P σ η → Wp (ga X F C) (WE W σ) P H (f η) Q → t σ H Q)
    (s : Same P H) (i : SimE (ga X F C) P σ η) (h : WpI (ga X F C) (WE W σ) P H ((f η).bind k) Q)
    (next : ∀ b P1 H1 v, Ext P H P1 H1 → Rep (ga X F C) P1 v b.d → WpI (ga X F C) (WE W σ) P1 H1 (k b) Q → Q' v H1) : t σ H Q' := by
  refine r P H σ η Q' s i ?_
  cases e : f η with
  | ok b =>
    rw [e] at h
    intro P' H' v x rb
    obtain ⟨P2, x2, s2, rv⟩ := rb.freeze x
    exact next b P2 H' v x2 rv (WpI.later h x2)
  | exc c k => rw [e] at h; exact h
  | bad => rw [e] at h; exact h.elim
/-- a list, a tuple: its items as they stand -/
theorem walksD_list {Γ : Ga} {P : Hp} {a : Addr} {vs : List V} {ds : List D} (h : P a = some (.lst vs)) (r : RepL Γ P vs ds) : WalksD Γ (Itl Γ.K a) P ds := by
  refine ⟨_, _, by rw [← r.length]; exact walk_list, fun H s => seqL s h, fun i H x H' P2 hi s1 s2 y => ?_⟩
  obtain ⟨e, hx⟩ := y
  subst e
  obtain ⟨d, hd, rd⟩ := r.getV hx
  exact ⟨d, P2, hd, Ext.refl s2, rd.mono s1⟩
theorem walksD_tup {Γ : Ga} {P : Hp} {a : Addr} {vs : List V} {ds : List D} (h : SqT Γ.K P a vs) (r : RepL Γ P vs ds) : WalksD Γ (Itt Γ.K a) P ds := by
  refine ⟨_, _, by rw [← r.length]; exact walk_tup, fun H s => Same.seqT s h, fun i H x H' P2 hi s1 s2 y => ?_⟩
  obtain ⟨e, hx⟩ := y
  subst e
  obtain ⟨d, hd, rd⟩ := r.getV hx
  exact ⟨d, P2, hd, Ext.refl s2, rd.mono s1⟩
theorem walksD_str {Γ : Ga} {P : Hp} {z : Str} : WalksD Γ (Its z) P (z.cps.toList.map fun c => .str ⟨#[c]⟩) := by
  refine ⟨_, _, by rw [List.length_map, Array.length_toList]; exact walk_str, fun H s => trivial, fun i H x H' P2 hi s1 s2 y => ?_⟩
  obtain ⟨e, c, hc, rfl⟩ := y
  subst e
  refine ⟨.str ⟨#[c]⟩, P2, ?_, Ext.refl s2, .str _⟩
  rw [List.getElem?_map, Array.getElem?_toList, hc]
  rfl
theorem walksD_range {Γ : Ga} {P : Hp} {lo : Int} {n : Nat} : WalksD Γ (Itr lo n) P (rngD lo n) := by
  have hl : (rngD lo n).length = n := by unfold rngD; rw [List.length_map, List.length_range]
  refine ⟨_, _, by rw [hl]; exact walk_range, fun H s => trivial, fun i H x H' P2 hi s1 s2 y => ?_⟩
  obtain ⟨e, rfl⟩ := y
  subst e
  rw [hl] at hi
  refine ⟨.int (lo + i), P2, ?_, Ext.refl s2, .int _⟩
  unfold rngD
  rw [List.getElem?_map, List.getElem?_range hi]
  rfl
def isSetE : Expr → Bool
  | .Set _ _ _ => true
  | _ => false
theorem folded_of {e : Expr} {env : PySem.Env} (h : isSetE e = false) : ∀ x, foldedSetIterable e env x = pure x := by
  intro x
  cases e <;> first | rfl | (simp [isSetE] at h)
variable {a b : Expr} {fa fb : Env → R Bd}
theorem runOk {σ : L2.St} {η : Env} {P H : Hp} {t : TE} {f : Env → R Bd} {Q' : VK} {b : Bd} (r : ∀ (P H : Hp) (σ : L2.St) (η : Env) (Q : VK), Same P H → SimE (ga X F C) P σ η → Wp (ga X F C) (WE W σ) P H (f η) Q → t σ H Q)
    (s : Same P H) (i : SimE (ga X F C) P σ η) (e : f η = .ok b) (next : ∀ P1 H1 v, Ext P H P1 H1 → Rep (ga X F C) P1 v b.d → Q' v H1) : t σ H Q' := by
  refine r P H σ η Q' s i ?_
  rw [e]
  intro P' H' v x rb
  obtain ⟨P2, x2, s2, rv⟩ := rb.freeze x
  exact next P2 H' v x2 rv
theorem runExc {σ : L2.St} {η : Env} {P H : Hp} {t : TE} {f : Env → R Bd} {Q' : VK} {c : Nat} {k : Option Int} (r : ∀ (P H : Hp) (σ : L2.St) (η : Env) (Q : VK), Same P H → SimE (ga X F C) P σ η → Wp (ga X F C) (WE W σ) P H (f η) Q → t σ H Q)
    (s : Same P H) (i : SimE (ga X F C) P σ η) (e : f η = .exc c k) (h : ∀ P' H' cls d, Ext P H P' H' → XRep (ga X F C) H' cls d c k → W cls d σ H') : t σ H Q' := by
  refine r P H σ η Q' s i ?_
  rw [e]
  exact h
theorem io_seq (hs : isSetE a = false) (ha : EO F C X W a fa) : IO F C X W tg a (fun η => (fa η).bind fun x => itemsD x.d) := by
  obtain ⟨⟨t, pa, _, ra⟩, _⟩ := ha
  refine ⟨fun σ H R => iList X.K t σ H R ∨ iTup X.K t σ H R ∨ iStr t σ H R, ⟨fun pins s σ H R I h => ?_⟩, folded_of hs, fun P H σ η Q s se h => ?_⟩
  · rcases h with h | h | h
    · exact (pi_list pa).run pins s σ H R I h
    · exact (pi_tup pa).run pins s σ H R I h
    · exact (pi_str pa).run pins s σ H R I h
  · dsimp only at h
    cases e : fa η with
    | ok x =>
      rw [e] at h
      have h : WpI (ga X F C) (WE W σ) P H (itemsD x.d) Q := h
      cases e2 : x.d with
      | tup xs =>
        rw [e2] at h
        refine .inr (.inl (runOk (t := t) ra s se e fun P1 H1 v x1 rv => ?_))
        rw [e2] at rv
        cases rv with
        | tup q r => exact ⟨_, rfl, ⟨_, Same.seqT x1.sub q⟩, h _ P1 H1 x1 (walksD_tup q r)⟩
      | lst xs =>
        rw [e2] at h
        refine .inl (runOk (t := t) ra s se e fun P1 H1 v x1 rv => ?_)
        rw [e2] at rv
        cases rv with
        | lst q r => exact ⟨_, rfl, ⟨_, seqL x1.sub q⟩, h _ P1 H1 x1 (walksD_list q r)⟩
      | str z =>
        rw [e2] at h
        refine .inr (.inr (runOk (t := t) ra s se e fun P1 H1 v x1 rv => ?_))
        rw [e2] at rv
        cases rv
        exact ⟨_, rfl, h _ P1 H1 x1 walksD_str⟩
      | _ => rw [e2] at h; exact h.elim
    | exc c k => rw [e] at h; exact .inl (runExc (t := t) ra s se e h)
    | bad => rw [e] at h; exact h.elim
theorem io_rng1 {x : Str} (hg : Gl X "range") (hm : X.mg "range" = none) (ha : EO F C X W a fa) : IO F C X W tg (.Call (.Name "range" p) [a] [] pos) (fun η => (fa η).bind fun x => match x.d with
    | .int n => if near n then .ok (rngD 0 n.toNat) else .bad
    | _ => .bad) := by
  obtain ⟨⟨t, pa, _, ra⟩, hs⟩ := ha
  refine ⟨_, pi_range1 hg hm (pa_cons pa pa_nil (star_cons hs)) (star_cons hs), folded_of rfl, fun P H σ η Q s se h => ?_⟩
  refine partI (t := t) ra s se h fun b P1 H1 v x1 rv h1 => ?_
  cases e : b.d with
  | int n =>
    rw [e] at h1 rv
    cases rv
    have h1 : WpI (ga X F C) (WE W σ) P1 H1 (if near n then .ok (rngD 0 n.toNat) else .bad) Q := h1
    split at h1
    · rename_i c
      exact ⟨n, rfl, (near_b c).1, (near_b c).2, h1 _ P1 H1 (Ext.refl x1.sub) walksD_range⟩
    · exact h1.elim
  | _ => rw [e] at h1; exact h1.elim
theorem io_rng2 (hg : Gl X "range") (hm : X.mg "range" = none) (ha : EO F C X W a fa) (hb : EO F C X W b fb) : IO F C X W tg (.Call (.Name "range" p) [a, b] [] pos) (fun η => (fa η).bind fun x => (fb η).bind fun y => match x.d, y.d with
    | .int i, .int j => if near i ∧ near j then .ok (rngD i (j - i).toNat) else .bad
    | _, _ => .bad) := by
  obtain ⟨⟨t, pa, _, ra⟩, hs⟩ := ha
  obtain ⟨⟨u, pb, _, rb⟩, hs2⟩ := hb
  refine ⟨_, pi_range2 hg hm (pa_cons pa (pa_cons pb pa_nil (star_cons hs2)) (star_cons hs)) (by rw [star_cons hs, star_cons hs2]; rfl) (star_cons hs2), folded_of rfl, fun P H σ η Q s se h => ?_⟩
  refine partI (t := t) ra s se h fun x P1 H1 v x1 rv h1 => ?_
  refine partI (t := u) rb x1.sub (se.mono x1.grow) h1 fun y P2 H2 w x2 rw' h2 => ?_
  cases e : x.d with
  | int i =>
    cases e2 : y.d with
    | int j =>
      rw [e] at rv h2
      rw [e2] at rw' h2
      cases rv
      cases rw'
      have h2 : WpI (ga X F C) (WE W σ) P2 H2 (if near i ∧ near j then .ok (rngD i (j - i).toNat) else .bad) Q := h2
      split at h2
      · rename_i c
        exact ⟨i, j, rfl, ⟨(near_b c.1).1, (near_b c.1).2, (near_b c.2).1, (near_b c.2).2⟩, h2 _ P2 H2 (Ext.refl x2.sub) walksD_range⟩
      · exact h2.elim
    | _ => rw [e, e2] at h2; exact h2.elim
  | _ => rw [e] at h2; exact h2.elim
/-- a value that is walked beside others -/
theorem src_of {Γ : Ga} {P : Hp} {v : V} {d : D} {ds : List D} (r : Rep Γ P v d) (h : seqD d = .ok ds) : ∃ S : Src, v = .ref S.a ∧ S.ok Γ.K P ∧ RepL Γ P S.xs ds := by
  cases r with
  | tup q r => cases h; exact ⟨.t _ _, rfl, q, r⟩
  | lst q r => cases h; exact ⟨.l _ _, rfl, .inl (.inl q), r⟩
  | _ => cases h
theorem enum_get : ∀ {xs : List D} {k i : Nat} {d : D}, xs[i]? = some d → (enumFrom k xs)[i]? = some (.tup [.int ((k + i : Nat) : Int), d])
  | [], _, i, _, h => by simp at h
  | x :: xs, k, 0, d, h => by
    simp at h
    subst h
    rfl
  | x :: xs, k, i + 1, d, h => by
    have := enum_get (xs := xs) (k := k + 1) (i := i) (d := d) (by simpa using h)
    show (enumFrom (k + 1) xs)[i]? = _
    rw [this]
    congr 4
    omega
theorem enum_len : ∀ (xs : List D) (k : Nat), (enumFrom k xs).length = xs.length
  | [], _ => rfl
  | _ :: xs, k => by show (enumFrom (k + 1) xs).length + 1 = _; rw [enum_len xs]; rfl
theorem zip_get : ∀ {xs ys : List D} {i : Nat} {d e : D}, xs[i]? = some d → ys[i]? = some e → (zipD xs ys)[i]? = some (.tup [d, e])
  | [], _, i, _, _, h, _ => by simp at h
  | _ :: _, [], i, _, _, _, h => by simp at h
  | x :: xs, y :: ys, 0, d, e, h, h2 => by
    simp at h h2
    subst h h2
    rfl
  | x :: xs, y :: ys, i + 1, d, e, h, h2 => zip_get (xs := xs) (ys := ys) (i := i) (by simpa using h) (by simpa using h2)
theorem zip_len : ∀ (xs ys : List D), (zipD xs ys).length = min xs.length ys.length
  | [], _ => by simp [zipD]
  | _ :: _, [] => by simp [zipD]
  | _ :: xs, _ :: ys => by show (zipD xs ys).length + 1 = _; rw [zip_len xs ys, List.length_cons, List.length_cons]; omega
/-- a new pair is given out -/
theorem pair_out {Γ : Ga} {P H : Hp} {T : Addr} {x y : V} {d e : D} (s : Same P H) (n : H T = none) (r1 : Rep Γ P x d) (r2 : Rep Γ P y e) : Ext P H (upd P T (.tup [x, y])) (upd H T (.tup [x, y])) ∧ Rep Γ (upd P T (.tup [x, y])) (.ref T) (.tup [d, e]) :=
  ⟨Ext.new1 s n, .tup (.inl (.inl upd_same)) (.cons (r1.mono (Ext.new1 s n).grow) (.cons (r2.mono (Ext.new1 s n).grow) .nil))⟩
variable {es : List Expr} {kk : Nat} {tpos : Pos}
theorem seqD_noexc {d : D} {c : Nat} {k : Option Int} : seqD d ≠ .exc c k := by
  cases d <;> (intro h; cases h)
theorem io_enum (hg : Gl X "enumerate") (hm : X.mg "enumerate" = none) (ha : EO F C X W a fa) : IO F C X W (.Tuple es kk tpos) (.Call (.Name "enumerate" p) [a] [] pos) (fun η => (fa η).bind fun x => (seqD x.d).bind fun xs => .ok (enumFrom 0 xs)) := by
  obtain ⟨⟨t, pa, _, ra⟩, hs⟩ := ha
  refine ⟨_, pi_enumS hg hm (pa_cons pa pa_nil (star_cons hs)) (star_cons hs), folded_of rfl, fun P H σ η Q s se h => ?_⟩
  refine partI (t := t) ra s se h fun b P1 H1 v x1 rv h1 => ?_
  cases e : seqD b.d with
  | ok ds =>
    rw [e] at h1
    obtain ⟨S, rfl, hS, r⟩ := src_of rv e
    refine ⟨S, rfl, S.same x1.sub hS, h1 _ P1 H1 (Ext.refl x1.sub) ⟨_, _, by rw [enum_len, ← r.length]; exact walk_enumS, fun H s => S.same s hS, fun i H x H' P2 hi s1 s2 y => ?_⟩⟩
    obtain ⟨T, u, w, rfl, nT, rfl, h3, h4⟩ := y
    cases h3
    obtain ⟨d, hd, rd⟩ := r.getV h4
    have o := pair_out s2 nT (.int (i : Nat)) (rd.mono s1)
    refine ⟨_, _, ?_, o.1, o.2⟩
    have := enum_get (k := 0) hd
    rw [this]
    congr 4
    omega
  | exc c k => exact absurd e seqD_noexc
  | bad => rw [e] at h1; exact h1.elim
theorem io_zip (hg : Gl X "zip") (hm : X.mg "zip" = none) (ha : EO F C X W a fa) (hb : EO F C X W b fb) : IO F C X W (.Tuple es kk tpos) (.Call (.Name "zip" p) [a, b] [] pos) (fun η => (fa η).bind fun x => (fb η).bind fun y => (seqD x.d).bind fun xs => (seqD y.d).bind fun ys => .ok (zipD xs ys)) := by
  obtain ⟨⟨t, pa, _, ra⟩, hs⟩ := ha
  obtain ⟨⟨u, pb, _, rb⟩, hs2⟩ := hb
  refine ⟨_, pi_zipS hg hm (pa_cons pa (pa_cons pb pa_nil (star_cons hs2)) (star_cons hs)) (star_cons hs) (by rw [star_cons hs2]; rfl), folded_of rfl, fun P H σ η Q s se h => ?_⟩
  refine partI (t := t) ra s se h fun x P1 H1 v x1 rv h1 => ?_
  refine partI (t := u) rb x1.sub (se.mono x1.grow) h1 fun y P2 H2 w x2 rw' h2 => ?_
  cases e : seqD x.d with
  | ok ds =>
    cases e2 : seqD y.d with
    | ok es =>
      rw [e] at h2
      have h2 : WpI (ga X F C) (WE W σ) P2 H2 ((seqD y.d).bind fun ys => .ok (zipD ds ys)) Q := h2
      rw [e2] at h2
      obtain ⟨S1, rfl, hS1, r1⟩ := src_of (rv.mono x2.grow) e
      obtain ⟨S2, rfl, hS2, r2⟩ := src_of rw' e2
      refine ⟨S1, S2, rfl, S1.same x2.sub hS1, S2.same x2.sub hS2, h2 _ P2 H2 (Ext.refl x2.sub) ⟨fun H => S1.ok X.K H ∧ S2.ok X.K H, _, by rw [zip_len, ← r1.length, ← r2.length]; exact walk_zipS, fun H s => ⟨S1.same s hS1, S2.same s hS2⟩, fun i H x H' P3 hi s1 s2 y => ?_⟩⟩
      obtain ⟨T, u1, u2, rfl, nT, rfl, h3, h4⟩ := y
      obtain ⟨d, hd, rd⟩ := r1.getV h3
      obtain ⟨d2, hd2, rd2⟩ := r2.getV h4
      have o := pair_out s2 nT (rd.mono s1) (rd2.mono s1)
      exact ⟨_, _, zip_get hd hd2, o.1, o.2⟩
    | exc c k => exact absurd e2 seqD_noexc
    | bad =>
      rw [e] at h2
      have h2 : WpI (ga X F C) (WE W σ) P2 H2 ((seqD y.d).bind fun ys => .ok (zipD ds ys)) Q := h2
      rw [e2] at h2
      exact h2.elim
  | exc c k => exact absurd e seqD_noexc
  | bad => rw [e] at h2; exact h2.elim
end
end PF

end

section
set_option Elab.async false
set_option linter.all false
set_option maxRecDepth 100000
/-! PF9: comprehensions. -/
namespace PF
open PySem PySem.Spec PyProof.Rows L2
/-! ### readings that hang on nothing but what is given -/
def tE (Γ : Ga) (W : WX) (f : Env → R Bd) : TE := fun σ H Q => ∃ P η, Same P H ∧ SimE Γ P σ η ∧ Wp Γ (WE W σ) P H (f η) Q
def tT (Γ : Ga) (W : WX) (f : Env → R Bool) : TT := fun σ H Q => ∃ P η, Same P H ∧ SimE Γ P σ η ∧ WpB Γ (WE W σ) P H (f η) Q
def gE (Γ : Ga) (t : Tg) : TG := fun v σ H Q => ∃ P d l, Same P H ∧ Rep Γ P v d ∧ asgs t d = some l ∧ ∀ σ', Put Γ P l σ σ' → Q σ' H
def tI (Γ : Ga) (W : WX) (f : Env → R (List D)) : TI := fun σ H Q => ∃ P η, Same P H ∧ SimE Γ P σ η ∧ WpI Γ (WE W σ) P H (f η) Q
section
variable {F C : Nat → Addr} {X : Cx} {W : WX} {e tg iter : Expr}
theorem EO.can {f : Env → R Bd} (h : EO F C X W e f) : PE X e (tE (ga X F C) W f) := by
  obtain ⟨⟨t, pe, _, r⟩, _⟩ := h
  exact ⟨fun pins s σ H Q I ⟨P, η, h1, h2, h3⟩ => pe.run pins s σ H Q I (r P H σ η Q h1 h2 h3)⟩
theorem TO.can {f : Env → R Bool} (h : TO F C X W e f) : PT X e (tT (ga X F C) W f) := by
  obtain ⟨t, pe, _, r⟩ := h
  exact ⟨fun pins s σ H Q I ⟨P, η, h1, h2, h3⟩ => pe.run pins s σ H Q I (r P H σ η Q h1 h2 h3)⟩
theorem GO.can {t : Tg} (h : GO F C X e t) : PG X e (gE (ga X F C) t) := by
  obtain ⟨⟨g, pg, r⟩, _⟩ := h
  exact ⟨fun pins s σ H v u Q I rv ⟨P, d, l, h1, h2, h3, h4⟩ => pg.run pins s σ H v u Q I rv (r P H v d σ l Q h1 h2 h3 h4)⟩
theorem IO.can {f : Env → R (List D)} (h : IO F C X W tg iter f) : PI X tg iter (tI (ga X F C) W f) := by
  obtain ⟨w, pi, _, r⟩ := h
  exact ⟨fun pins s σ H Q I ⟨P, η, h1, h2, h3⟩ => pi.run pins s σ H Q I (r P H σ η Q h1 h2 h3)⟩
end
/-! ### own names forgotten -/
theorem wipe_out {i : Nat} {v : Option V} : ∀ {us : List Nat} {σ : L2.St}, i ∉ us → wipe (σ.set i v) us = (wipe σ us).set i v
  | [], _, _ => rfl
  | u :: us, _, hu => by
    simp only [List.mem_cons, not_or] at hu
    unfold wipe
    rw [wipe_out hu.2, List.set_comm _ _ hu.1]
theorem wipe_wipe : ∀ (us : List Nat) (σ : L2.St), wipe (wipe σ us) us = wipe σ us
  | [], _ => rfl
  | u :: us, σ => by
    show (wipe ((wipe σ us).set u none) us).set u none = (wipe σ us).set u none
    by_cases h : u ∈ us
    · rw [wipe_set h, wipe_wipe us σ]
    · rw [wipe_out h, wipe_wipe us σ, List.set_set]
theorem SimE.wipe {Γ : Ga} {P : Hp} {σ : L2.St} {η : Env} (h : SimE Γ P σ η) : ∀ vs : List Nat, SimE Γ P (L2.wipe σ vs) (wipeE η vs)
  | [] => h
  | v :: vs => by
    have ih := SimE.wipe h vs
    show SimE Γ P ((L2.wipe σ vs).set v none) ((wipeE η vs).set v none)
    refine ⟨by rw [List.length_set, List.length_set]; exact ih.len, fun j e he => ?_⟩
    by_cases hj : v = j
    · subst hj
      by_cases hl : v < (wipeE η vs).length
      · rw [List.getElem?_set_self hl] at he
        cases he
      · rw [List.getElem?_eq_none (by rw [List.length_set]; omega)] at he
        cases he
    · rw [List.getElem?_set_ne hj] at he ⊢
      exact ih.val j e he
theorem compF_noexc {put : D → Env → R Env} {test : Env → R Bool} {elt : Env → R Bd} {η : Env} {c : Nat} {k : Option Int} : ∀ l : List D, compF put test elt η l ≠ .exc c k
  | [] => fun h => by cases h
  | x :: r => fun h => by
    unfold compF at h
    split at h
    · split at h
      · split at h
        · split at h <;> cases h
        · cases h
      · exact compF_noexc r h
      · cases h
    · cases h
theorem Ext.keepN {P H P' H' : Hp} (x : Ext P H P' H') {D : Addr} {o : HO} (h1 : P D = none) (h2 : H D = some o) : P' D = none := by
  cases q : P' D with
  | none => rfl
  | some u =>
    rcases x.new _ _ q with z | z
    · rw [h1] at z; cases z
    · rw [h2] at z; cases z
/-- a clause's test, or none -/
def tIf (Γ : Ga) : Option (Env → R Bool) → TT
  | none => tYes
  | some f => tT Γ (fun _ _ _ _ => False) f
def fIf : Option (Env → R Bool) → Env → R Bool
  | none, _ => .ok true
  | some f, η => f η
section
variable {Γ : Ga} {W : WX}
/-- the reading of a comprehension's block -/
theorem lc_read {t : Tg} {test : Option (Env → R Bool)} {felt : Env → R Bd} {vs : List Nat} {J : It} {P P1 H H1 : Hp} {σ : L2.St} {η : Env} {Q : VK} {items : List D} {ds : List D}
    (x1 : Ext P H P1 H1) (se : SimE Γ P1 σ η) (wd : WalksD Γ J P1 items) (hown : ∀ d l, asgs t d = some l → ∀ p ∈ l, p.1 ∈ vs)
    (hc : compF (putT t) (fIf test) felt (wipeE η vs) items = .ok ds) (hz : ds.length ≤ SZ) (hq : Wp Γ (WE W σ) P H (.ok (.own ds)) Q) {D : Addr} (nD : H1 D = none) :
    ∃ W' : Nat → Nat → Hp → Prop, (∃ m, W' 0 m (upd H1 D (.lst []))) ∧ ∀ i m H, W' i m H →
      (J.stop i H ∧ Q (.ref D) H) ∨ (J.go i H ∧ ∃ Nx : Hp → Prop, (∀ H', Nx H' → ∃ m', m' < m ∧ W' (i + 1) m' H') ∧ ∀ x H', J.yld i H x H' → gE Γ t x (wipe σ vs) H' fun σ2 H2 => wipe σ2 vs = wipe σ vs ∧ tIf Γ test σ2 H2 fun b H3 =>
        if b = true then tE Γ (fun _ _ _ _ => False) felt σ2 H3 fun y H4 => ∃ acc, H4 D = some (.lst acc) ∧ acc.length < sizeLine ∧ Nx (upd H4 D (.lst (acc ++ [y]))) else Nx H3) := by
  obtain ⟨G, Y, hW, hG, hY⟩ := wd
  refine lc_it (Qd := fun H => Q (.ref D) H) hW (fun i H' => ∃ P2 us ds1 ds2, Ext P1 H1 P2 H' ∧ P2 D = none ∧ H' D = some (.lst us) ∧ RepL Γ P2 us ds1 ∧ compF (putT t) (fIf test) felt (wipeE η vs) (items.drop i) = .ok ds2 ∧ ds1 ++ ds2 = ds)
    ⟨P1, [], [], ds, Ext.new0 x1.sub nD, x1.sub.free nD, upd_same, .nil, hc, rfl⟩ (fun i H' _ ⟨P2, _, _, _, e, _⟩ => hG H' (e.grow.trans e.sub)) ?_ ?_
  · rintro i x H2 H2' hi ⟨P2, us, ds1, ds2, e2, n2, hD, rs, hc2, eds⟩ y
    obtain ⟨d, P3, hd, e3, rd⟩ := hY i H2 x H2' P2 hi e2.grow e2.sub y
    have hdrop : items.drop i = d :: items.drop (i + 1) := by
      obtain ⟨hlt, hde⟩ := List.getElem?_eq_some_iff.mp hd
      rw [← hde]
      exact List.drop_eq_getElem_cons hlt
    rw [hdrop] at hc2
    unfold compF at hc2
    have e23 := e2.trans e3
    cases ep : putT t d (wipeE η vs) with
    | ok η1 =>
      rw [ep] at hc2
      unfold putT at ep
      cases ea : asgs t d with
      | none => rw [ea] at ep; cases ep
      | some l =>
        rw [ea] at ep
        cases ep
        refine ⟨P3, d, l, e3.sub, rd, ea, fun σ' put => ⟨?_, ?_⟩⟩
        · rw [put.wipe (hown d l ea), wipe_wipe]
        · have s1 : SimE Γ P3 σ' (setE l (wipeE η vs)) := SimE.put (((se.mono e23.grow).wipe vs)) put
          have dsk : H2' D = some (.lst us) := e3.same _ _ hD
          -- the element, and the next turn
          have elt : ∀ {P4 H4 : Hp}, Ext P3 H2' P4 H4 → (match felt (setE l (wipeE η vs)) with | .ok b => (match compF (putT t) (fIf test) felt (wipeE η vs) (items.drop (i + 1)) with | .ok ds => R.ok (b.d :: ds) | _ => .bad) | _ => .bad) = .ok ds2 →
              tE Γ (fun _ _ _ _ => False) felt σ' H4 fun y H5 => ∃ acc, H5 D = some (.lst acc) ∧ acc.length < sizeLine ∧ (∃ P2 us ds1 ds2, Ext P1 H1 P2 (upd H5 D (.lst (acc ++ [y]))) ∧ P2 D = none ∧ (upd H5 D (.lst (acc ++ [y]))) D = some (.lst us) ∧ RepL Γ P2 us ds1 ∧ compF (putT t) (fIf test) felt (wipeE η vs) (items.drop (i + 1)) = .ok ds2 ∧ ds1 ++ ds2 = ds) := by
            intro P4 H4 e4 hm
            refine ⟨P4, setE l (wipeE η vs), e4.sub, s1.mono e4.grow, ?_⟩
            cases ef : felt (setE l (wipeE η vs)) with
            | ok b =>
              rw [ef] at hm
              cases er : compF (putT t) (fIf test) felt (wipeE η vs) (items.drop (i + 1)) with
              | ok dr =>
                rw [er] at hm
                cases hm
                intro P5 H5 v e5 rb
                obtain ⟨P6, e6, s6, rv⟩ := rb.freeze e5
                have e46 := e4.trans e6
                have e26 := e3.trans e46
                have hD5 : H5 D = some (.lst us) := e46.same _ _ dsk
                have n6 : P6 D = none := e26.keepN n2 hD
                have e16 := e2.trans e26
                refine ⟨us, hD5, ?_, P6, us ++ [v], ds1 ++ [b.d], dr, ⟨fun a o q => ?_, e16.grow, fun a o q => ?_, e16.new⟩, n6, upd_same, (rs.mono e26.grow).append (.cons rv .nil), rfl, by rw [← eds, List.append_assoc]; rfl⟩
                · rw [rs.length, ← SZ_eq]
                  have : (ds1 ++ b.d :: dr).length ≤ SZ := by rw [eds]; exact hz
                  rw [List.length_append, List.length_cons] at this
                  omega
                · rw [upd_ne (ne_of_none q nD)]; exact e16.same _ _ q
                · rw [upd_ne (ne_of_none q n6)]; exact e16.sub _ _ q
              | exc c k => rw [er] at hm; cases hm
              | bad => rw [er] at hm; cases hm
            | exc c k => rw [ef] at hm; cases hm
            | bad => rw [ef] at hm; cases hm
          cases test with
          | none =>
            have hc2 : (match felt (setE l (wipeE η vs)) with | .ok b => (match compF (putT t) (fIf none) felt (wipeE η vs) (items.drop (i + 1)) with | .ok ds => R.ok (b.d :: ds) | _ => .bad) | _ => .bad) = .ok ds2 := hc2
            unfold tIf tYes
            simp only [if_true]
            exact elt (Ext.refl e3.sub) hc2
          | some f =>
            refine ⟨P3, setE l (wipeE η vs), e3.sub, s1, ?_⟩
            cases et : f (setE l (wipeE η vs)) with
            | ok b =>
              have ft : fIf (some f) (setE l (wipeE η vs)) = .ok b := et
              intro P4 H4 e4
              cases b with
              | true =>
                rw [if_pos rfl]
                simp only [ft] at hc2
                exact elt e4 hc2
              | false =>
                rw [if_neg Bool.false_ne_true]
                simp only [ft] at hc2
                have e24 := e3.trans e4
                exact ⟨P4, us, ds1, ds2, e2.trans e24, e24.keepN n2 hD, e24.same _ _ hD, rs.mono e24.grow, hc2, eds⟩
            | exc c k =>
              have ft : fIf (some f) (setE l (wipeE η vs)) = .exc c k := et
              simp only [ft] at hc2
              cases hc2
            | bad =>
              have ft : fIf (some f) (setE l (wipeE η vs)) = .bad := et
              simp only [ft] at hc2
              cases hc2
    | exc c k => rw [ep] at hc2; cases hc2
    | bad => rw [ep] at hc2; cases hc2
  · rintro H' ⟨P2, us, ds1, ds2, e2, n2, hD, rs, hc2, eds⟩
    rw [List.drop_length] at hc2
    cases hc2
    rw [List.append_nil] at eds
    subst eds
    exact hq P2 H' _ (x1.trans e2) ⟨D, us, rfl, hD, n2, x1.same.free nD, rs⟩
end
theorem comp_asg {X : Cx} {elt tg iter : Expr} {ifs : List Expr} {scope : Scope} {own : List (Str × Nat)} {pos : Pos} {wi : TI} {g : TG} {tt : TT} {te : TE} (nd : X.N.Nodup) (hc : X.calm = true) (hi : PI X tg iter wi) (ok : BlkOk X.N X.env.scope scope own)
    (hg : ∀ (s : Shared) (H : Hp) (C : Addr) (cl : List (Str × Addr)) (fp : List Addr), PG (X.blk s H scope (compEnvC scope cl C X.env) fp) tg g) (ht : ∀ (s : Shared) (H : Hp) (C : Addr) (cl : List (Str × Addr)) (fp : List Addr), PTs (X.blk s H scope (compEnvC scope cl C X.env) fp) ifs tt)
    (he : ∀ (s : Shared) (H : Hp) (C : Addr) (cl : List (Str × Addr)) (fp : List Addr), PE (X.blk s H scope (compEnvC scope cl C X.env) fp) elt te) (hs : ∀ x, foldedSetIterable iter X.env x = pure x) :
    AsgOk X (.ListComp elt [⟨tg, iter, ifs, 0⟩] scope pos) (tLc wi g tt te (own.map (·.2))) := by
  intro i y py spos h1 h2 h3
  have hsw : swapsWith (.ListComp elt [⟨tg, iter, ifs, 0⟩] scope pos) (some (.Name y py)) spos.line X.env = pure (X.env.blockKind == .function && X.env.kindOf y == some .local && py.line == pos.line && !(scope.names.any fun (n, k) => n == y && (k == .local || k == .cell))) := rfl
  cases hb : (X.env.blockKind == .function && X.env.kindOf y == some .local && py.line == pos.line && !(scope.names.any fun (n, k) => n == y && (k == .local || k == .cell))) with
  | true =>
    rw [hb] at hsw
    simp only [Bool.and_eq_true, beq_iff_eq] at hb
    exact ps_setLc hc nd h1 hb.1.1.2 hsw hi ok hg ht he hs
  | false =>
    rw [hb] at hsw
    exact ps_set nd h1 h2 (pe_lc hc nd hi ok hg ht he hs) hsw h3
section
variable {F C : Nat → Addr} {X : Cx} {W : WX}
theorem eo_comp {elt tg iter : Expr} {ifs : List Expr} {scope : Scope} {own : List (Str × Nat)} {pos : Pos} {t : Tg} {test : Option (Env → R Bool)} {felt : Env → R Bd} {fit : Env → R (List D)} (nd : X.N.Nodup) (hc : X.calm = true) (ok : BlkOk X.N X.env.scope scope own)
    (hown : ∀ d l, asgs t d = some l → ∀ p ∈ l, p.1 ∈ own.map (·.2)) (hi : IO F C X W tg iter fit)
    (hg : ∀ (s : Shared) (H : Hp) (c : Addr) (cl : List (Str × Addr)) (fp : List Addr), GO F C (X.blk s H scope (compEnvC scope cl c X.env) fp) tg t)
    (ht : ∀ (s : Shared) (H : Hp) (c : Addr) (cl : List (Str × Addr)) (fp : List Addr), match ifs, test with
      | [], none => True
      | [e], some f => TO F C (X.blk s H scope (compEnvC scope cl c X.env) fp) (fun _ _ _ _ => False) e f
      | _, _ => False)
    (he : ∀ (s : Shared) (H : Hp) (c : Addr) (cl : List (Str × Addr)) (fp : List Addr), EO F C (X.blk s H scope (compEnvC scope cl c X.env) fp) (fun _ _ _ _ => False) elt felt) :
    EO F C X W (.ListComp elt [⟨tg, iter, ifs, 0⟩] scope pos) (fun η => (fit η).bind fun items => (compF (putT t) (fIf test) felt (wipeE η (own.map (·.2))) items).bind fun ds => PF.grd (ds.length ≤ SZ) (.ok (.own ds))) := by
  have pi := hi.can
  obtain ⟨wi, _, hs, ri⟩ := hi
  have pg : ∀ (s : Shared) (H : Hp) (c : Addr) (cl : List (Str × Addr)) (fp : List Addr), PG (X.blk s H scope (compEnvC scope cl c X.env) fp) tg (gE (ga X F C) t) := fun s H c cl fp => (hg s H c cl fp).can
  have pe : ∀ (s : Shared) (H : Hp) (c : Addr) (cl : List (Str × Addr)) (fp : List Addr), PE (X.blk s H scope (compEnvC scope cl c X.env) fp) elt (tE (ga X F C) (fun _ _ _ _ => False) felt) := fun s H c cl fp => (he s H c cl fp).can
  have pt : ∀ (s : Shared) (H : Hp) (c : Addr) (cl : List (Str × Addr)) (fp : List Addr), PTs (X.blk s H scope (compEnvC scope cl c X.env) fp) ifs (tIf (ga X F C) test) := by
    intro s H c cl fp
    have h := ht s H c cl fp
    match ifs, test, h with
    | [], none, _ => exact pts_nil
    | [e], some f, h => exact pts_one h.can
  refine ⟨⟨_, pe_lc hc nd pi ok pg pt pe hs, comp_asg nd hc pi ok pg pt pe hs, fun P H σ η Q s se h => ?_⟩, rfl⟩
  refine ⟨P, η, s, se, ?_⟩
  cases e : fit η with
  | ok items =>
    rw [e] at h
    have h : Wp (ga X F C) (WE W σ) P H ((compF (putT t) (fIf test) felt (wipeE η (own.map (·.2))) items).bind fun ds => PF.grd (ds.length ≤ SZ) (.ok (.own ds))) Q := h
    intro J P1 H1 x1 wd D nD
    cases e2 : compF (putT t) (fIf test) felt (wipeE η (own.map (·.2))) items with
    | ok ds =>
      rw [e2] at h
      obtain ⟨c, h⟩ := Wp.grd (c := ds.length ≤ SZ) (r := .ok (.own ds)) h
      exact lc_read (W := W) x1 (se.mono x1.grow) wd hown e2 c h nD
    | exc c k => exact absurd e2 (compF_noexc items)
    | bad => rw [e2] at h; exact h.elim
  | exc c k => rw [e] at h; exact h
  | bad => rw [e] at h; exact h.elim
end
end PF

end

section
set_option Elab.async false
set_option linter.all false
set_option maxRecDepth 100000
/-! PF10: statements: what the names hold, and what a statement leaves. -/
namespace PF
open PySem PySem.Spec PyProof.Rows L2
/-- the slots bear what the names hold; P0, H0: as the def was entered -/
structure Sim (Γ : Ga) (P0 H0 P H : Hp) (σ : L2.St) (ρ : SEnv) : Prop where
  ext : Ext P0 H0 P H
  len : σ.length = ρ.length
  val : ∀ (i : Nat) (d : D), ρ[i]? = some (some (.val d)) → ∃ v, σ[i]? = some (some v) ∧ Rep Γ P v d
  own : ∀ (i : Nat) (xs : List D), ρ[i]? = some (some (.own xs)) → ∃ o vs, σ[i]? = some (some (.ref o)) ∧ H o = some (.lst vs) ∧ P o = none ∧ H0 o = none ∧ RepL Γ P vs xs
  dis : ∀ (i j : Nat) (xs ys : List D) (v : V), ρ[i]? = some (some (.own xs)) → ρ[j]? = some (some (.own ys)) → σ[i]? = some (some v) → σ[j]? = some (some v) → i = j
section
variable {Γ : Ga} {P0 H0 P H P1 H1 : Hp} {σ : L2.St} {ρ : SEnv}
theorem mask_get {M : Nat → Bool} : ∀ {ρ : SEnv} {k i : Nat}, (mask M k ρ)[i]? = ρ[i]?.map fun b => match b with
    | none => none
    | some (.val d) => some d
    | some (.own xs) => if M (k + i) = true then some (.lst xs) else none
  | [], k, i => by simp [mask]
  | none :: r, k, 0 => by simp [mask]
  | some (.val d) :: r, k, 0 => by simp [mask]
  | some (.own xs) :: r, k, 0 => by simp [mask]
  | none :: r, k, i + 1 => by simp only [mask, List.getElem?_cons_succ]; rw [mask_get, Nat.add_right_comm]; rfl
  | some (.val d) :: r, k, i + 1 => by simp only [mask, List.getElem?_cons_succ]; rw [mask_get, Nat.add_right_comm]; rfl
  | some (.own xs) :: r, k, i + 1 => by simp only [mask, List.getElem?_cons_succ]; rw [mask_get, Nat.add_right_comm]; rfl
theorem unown_get {M : Nat → Bool} : ∀ {ρ : SEnv} {k i : Nat}, (unown M k ρ)[i]? = ρ[i]?.map fun b => match b with
    | some (.own xs) => if M (k + i) = true then some (.val (.lst xs)) else some (.own xs)
    | b => b
  | [], k, i => by simp [unown]
  | none :: r, k, 0 => by simp [unown]
  | some (.val d) :: r, k, 0 => by simp [unown]
  | some (.own xs) :: r, k, 0 => by simp [unown]
  | none :: r, k, i + 1 => by simp only [unown, List.getElem?_cons_succ]; rw [unown_get, Nat.add_right_comm]; rfl
  | some (.val d) :: r, k, i + 1 => by simp only [unown, List.getElem?_cons_succ]; rw [unown_get, Nat.add_right_comm]; rfl
  | some (.own xs) :: r, k, i + 1 => by simp only [unown, List.getElem?_cons_succ]; rw [unown_get, Nat.add_right_comm]; rfl
theorem mask_len {M : Nat → Bool} : ∀ {ρ : SEnv} {k : Nat}, (mask M k ρ).length = ρ.length
  | [], _ => rfl
  | none :: r, k => by simp only [mask, List.length_cons]; rw [mask_len]
  | some (.val d) :: r, k => by simp only [mask, List.length_cons]; rw [mask_len]
  | some (.own d) :: r, k => by simp only [mask, List.length_cons]; rw [mask_len]
theorem unown_len {M : Nat → Bool} : ∀ {ρ : SEnv} {k : Nat}, (unown M k ρ).length = ρ.length
  | [], _ => rfl
  | none :: r, k => by simp only [unown, List.length_cons]; rw [unown_len]
  | some (.val d) :: r, k => by simp only [unown, List.length_cons]; rw [unown_len]
  | some (.own d) :: r, k => by simp only [unown, List.length_cons]; rw [unown_len]
theorem Sim.grow (S : Sim Γ P0 H0 P H σ ρ) (e : Ext P H P1 H1) : Sim Γ P0 H0 P1 H1 σ ρ := by
  refine ⟨S.ext.trans e, S.len, fun i d h => ?_, fun i xs h => ?_, S.dis⟩
  · obtain ⟨v, h1, h2⟩ := S.val i d h
    exact ⟨v, h1, h2.mono e.grow⟩
  · obtain ⟨o, vs, h1, h2, h3, h4, h5⟩ := S.own i xs h
    exact ⟨o, vs, h1, e.same _ _ h2, e.keepN h3 h2, h4, h5.mono e.grow⟩
/-- the own lists that are mentioned -/
def OwnA (M : Nat → Bool) (σ : L2.St) (ρ : SEnv) (a : Addr) : Prop := ∃ i xs, ρ[i]? = some (some (.own xs)) ∧ M i = true ∧ σ[i]? = some (some (.ref a))
open Classical in
noncomputable def frzP (M : Nat → Bool) (σ : L2.St) (ρ : SEnv) (P H : Hp) : Hp := fun a => if OwnA M σ ρ a then H a else P a
open Classical in
noncomputable def thaw (M : Nat → Bool) (σ : L2.St) (ρ : SEnv) (P : Hp) : Hp := fun a => if OwnA M σ ρ a then none else P a
theorem Sim.ownA (S : Sim Γ P0 H0 P H σ ρ) {M : Nat → Bool} {a : Addr} (h : OwnA M σ ρ a) : (∃ vs, H a = some (.lst vs)) ∧ P a = none ∧ H0 a = none := by
  obtain ⟨i, xs, h1, h2, h3⟩ := h
  obtain ⟨o, vs, g1, g2, g3, g4, g5⟩ := S.own i xs h1
  rw [h3] at g1
  cases g1
  exact ⟨⟨vs, g2⟩, g3, g4⟩
theorem Sim.frz (S : Sim Γ P0 H0 P H σ ρ) (M : Nat → Bool) : Same P (frzP M σ ρ P H) ∧ Same (frzP M σ ρ P H) H ∧ SimE Γ (frzP M σ ρ P H) σ (mask M 0 ρ) := by
  have s1 : Same P (frzP M σ ρ P H) := fun a o e => by
    unfold frzP
    split
    · rename_i h
      rw [(S.ownA h).2.1] at e
      cases e
    · exact e
  have s2 : Same (frzP M σ ρ P H) H := fun a o e => by
    unfold frzP at e
    split at e
    · exact e
    · exact S.ext.sub _ _ e
  refine ⟨s1, s2, by rw [mask_len]; exact S.len, fun i d h => ?_⟩
  rw [mask_get] at h
  cases e : ρ[i]? with
  | none => rw [e] at h; cases h
  | some b =>
    rw [e] at h
    match b, h, e with
    | none, h, e => cases h
    | some (.val d'), h, e =>
      cases h
      obtain ⟨v, h1, h2⟩ := S.val i _ e
      exact ⟨v, h1, h2.mono s1⟩
    | some (.own xs), h, e =>
      have h : some (if M (0 + i) = true then some (D.lst xs) else none) = some (some d) := h
      rw [Nat.zero_add] at h
      split at h
      · rename_i hm
        cases h
        obtain ⟨o, vs, h1, h2, h3, h4, h5⟩ := S.own i xs e
        refine ⟨.ref o, h1, .lst ?_ (h5.mono s1)⟩
        unfold frzP
        rw [if_pos ⟨i, xs, e, hm, h1⟩]
        exact h2
      · cases h
/-- what was mentioned is no more one's own -/
theorem Sim.lost (S : Sim Γ P0 H0 P H σ ρ) {M : Nat → Bool} {P2 H2 : Hp} (e : Ext (frzP M σ ρ P H) H P2 H2) : Sim Γ P0 H0 P2 H2 σ (unown M 0 ρ) := by
  obtain ⟨s1, s2, se⟩ := S.frz M
  have x1 : Ext P0 H0 (frzP M σ ρ P H) H := ⟨S.ext.same, S.ext.grow.trans s1, s2, fun a o q => by
    unfold frzP at q
    split at q
    · rename_i h
      exact .inr (S.ownA h).2.2
    · exact S.ext.new _ _ q⟩
  refine ⟨x1.trans e, by rw [unown_len]; exact S.len, fun i d h => ?_, fun i xs h => ?_, fun i j xs ys v h1 h2 h3 h4 => ?_⟩
  · rw [unown_get] at h
    cases q : ρ[i]? with
    | none => rw [q] at h; cases h
    | some b =>
      rw [q] at h
      match b, h, q with
      | none, h, q => cases h
      | some (.val d'), h, q =>
        cases h
        obtain ⟨v, h1, h2⟩ := S.val i _ q
        exact ⟨v, h1, (h2.mono s1).mono e.grow⟩
      | some (.own xs), h, q =>
        have h : some (if M (0 + i) = true then some (Bd.val (D.lst xs)) else some (.own xs)) = some (some (.val d)) := h
        rw [Nat.zero_add] at h
        split at h
        · rename_i hm
          cases h
          obtain ⟨v, h1, h2⟩ := se.val i (.lst xs) (by rw [mask_get, q]; show some (if M (0 + i) = true then _ else _) = _; rw [Nat.zero_add, if_pos hm])
          exact ⟨v, h1, h2.mono e.grow⟩
        · cases h
  · rw [unown_get] at h
    cases q : ρ[i]? with
    | none => rw [q] at h; cases h
    | some b =>
      rw [q] at h
      match b, h, q with
      | none, h, q => cases h
      | some (.val d'), h, q => cases h
      | some (.own zs), h, q =>
        have h : some (if M (0 + i) = true then some (Bd.val (D.lst zs)) else some (.own zs)) = some (some (.own xs)) := h
        rw [Nat.zero_add] at h
        split at h
        · cases h
        · rename_i hm
          cases h
          obtain ⟨o, vs, h1, h2, h3, h4, h5⟩ := S.own i xs q
          refine ⟨o, vs, h1, e.same _ _ h2, ?_, h4, (h5.mono s1).mono e.grow⟩
          cases z : P2 o with
          | none => rfl
          | some u =>
            rcases e.new _ _ z with z | z
            · unfold frzP at z
              split at z
              · rename_i hw
                obtain ⟨j, ys, g1, g2, g3⟩ := hw
                have := S.dis i j xs ys _ q g1 h1 g3
                subst this
                exact absurd g2 hm
              · rw [h3] at z; cases z
            · rw [h2] at z; cases z
  · have back : ∀ (i : Nat) (xs : List D), (unown M 0 ρ)[i]? = some (some (.own xs)) → ρ[i]? = some (some (.own xs)) := fun i xs h => by
      rw [unown_get] at h
      cases q : ρ[i]? with
      | none => rw [q] at h; cases h
      | some b =>
        rw [q] at h
        match b, h with
        | none, h => cases h
        | some (.val d'), h => cases h
        | some (.own zs), h =>
          have h : some (if M (0 + i) = true then some (Bd.val (D.lst zs)) else some (.own zs)) = some (some (.own xs)) := h
          split at h
          · cases h
          · exact h
    exact S.dis i j xs ys v (back i xs h1) (back j ys h2) h3 h4
/-- .. or it is still -/
theorem Sim.thaws (S : Sim Γ P0 H0 P H σ ρ) {M : Nat → Bool} {P2 H2 : Hp} (e : Ext (frzP M σ ρ P H) H P2 H2) : Ext P H (thaw M σ ρ P2) H2 := by
  obtain ⟨s1, s2, se⟩ := S.frz M
  refine ⟨e.same, fun a o q => ?_, fun a o q => ?_, fun a o q => ?_⟩
  · unfold thaw
    split
    · rename_i h
      rw [(S.ownA h).2.1] at q
      cases q
    · exact e.grow _ _ (s1 _ _ q)
  · unfold thaw at q
    split at q
    · cases q
    · exact e.sub _ _ q
  · unfold thaw at q
    split at q
    · cases q
    · rename_i h
      rcases e.new _ _ q with z | z
      · unfold frzP at z
        rw [if_neg h] at z
        exact .inl z
      · exact .inr z
theorem Sim.kept (S : Sim Γ P0 H0 P H σ ρ) {M : Nat → Bool} {P2 H2 : Hp} (e : Ext (frzP M σ ρ P H) H P2 H2) : Sim Γ P0 H0 (thaw M σ ρ P2) H2 σ ρ := S.grow (S.thaws e)
theorem Sim.thawB (S : Sim Γ P0 H0 P H σ ρ) {M : Nat → Bool} {P2 H2 : Hp} (e : Ext (frzP M σ ρ P H) H P2 H2) {b : Bd} {v : V} (n : nolB b = true) (r : RB Γ P2 H2 H v b) : RB Γ (thaw M σ ρ P2) H2 H v b := by
  have k : ∀ a o, P2 a = some o → HTup o → thaw M σ ρ P2 a = some o := fun a o q t => by
    unfold thaw
    split
    · rename_i h
      obtain ⟨⟨vs, h1⟩, h2, h3⟩ := S.ownA h
      have := e.sub _ _ q
      rw [e.same _ _ h1] at this
      cases this
      obtain ⟨xs, z | ⟨ob, z⟩⟩ := t <;> cases z
    · exact q
  cases b with
  | val d => exact Rep.tups k n r
  | own xs =>
    obtain ⟨o, vs, h1, h2, h3, h4, h5⟩ := r
    refine ⟨o, vs, h1, h2, ?_, h4, RepL.tups k n h5⟩
    unfold thaw
    split
    · rfl
    · exact h3
/-- no name's own list -/
def NewTo (σ : L2.St) (ρ : SEnv) (v : V) : Bd → Prop
  | .own _ => ∀ (j : Nat) (xs : List D), ρ[j]? = some (some (Bd.own xs)) → σ[j]? ≠ some (some v)
  | .val _ => True
theorem Sim.setB (S : Sim Γ P0 H0 P H σ ρ) {b : Bd} {v : V} (r : RB Γ P H H0 v b) (n : NewTo σ ρ v b) (i : Nat) : Sim Γ P0 H0 P H (σ.set i (some v)) (ρ.set i (some b)) := by
  have at_i : ∀ {j : Nat} {c : Bd}, (ρ.set i (some b))[j]? = some (some c) → (j = i ∧ c = b ∧ (σ.set i (some v))[j]? = some (some v)) ∨ (j ≠ i ∧ ρ[j]? = some (some c) ∧ (σ.set i (some v))[j]? = σ[j]?) := fun {j c} h => by
    by_cases hj : i = j
    · subst hj
      by_cases hl : i < ρ.length
      · rw [List.getElem?_set_self hl] at h
        cases h
        exact .inl ⟨rfl, rfl, by rw [List.getElem?_set_self (by rw [S.len]; exact hl)]⟩
      · rw [List.getElem?_eq_none (by rw [List.length_set]; omega)] at h
        cases h
    · rw [List.getElem?_set_ne hj] at h
      exact .inr ⟨fun e => hj e.symm, h, List.getElem?_set_ne hj⟩
  refine ⟨S.ext, by rw [List.length_set, List.length_set]; exact S.len, fun j d h => ?_, fun j xs h => ?_, fun j k xs ys w h1 h2 h3 h4 => ?_⟩
  · rcases at_i h with ⟨_, e2, e3⟩ | ⟨_, e2, e3⟩
    · subst e2
      exact ⟨v, e3, r⟩
    · obtain ⟨w, g1, g2⟩ := S.val j d e2
      exact ⟨w, e3.trans g1, g2⟩
  · rcases at_i h with ⟨_, e2, e3⟩ | ⟨_, e2, e3⟩
    · subst e2
      obtain ⟨o, vs, rfl, g2, g3, g4, g5⟩ := r
      exact ⟨o, vs, e3, g2, g3, g4, g5⟩
    · obtain ⟨o, vs, g1, g⟩ := S.own j xs e2
      exact ⟨o, vs, e3.trans g1, g⟩
  · rcases at_i h1 with ⟨a1, a2, a3⟩ | ⟨a1, a2, a3⟩
    · rcases at_i h2 with ⟨b1, b2, b3⟩ | ⟨b1, b2, b3⟩
      · rw [a1, b1]
      · rw [a3] at h3
        cases h3
        rw [b3] at h4
        subst a2
        exact absurd h4 (n k ys b2)
    · rcases at_i h2 with ⟨b1, b2, b3⟩ | ⟨b1, b2, b3⟩
      · rw [b3] at h4
        cases h4
        rw [a3] at h3
        subst b2
        exact absurd h3 (n j xs a2)
      · exact S.dis j k xs ys w a2 b2 (a3 ▸ h3) (b3 ▸ h4)
theorem Sim.setV (S : Sim Γ P0 H0 P H σ ρ) {d : D} {v : V} (r : Rep Γ P v d) (i : Nat) : Sim Γ P0 H0 P H (σ.set i (some v)) (ρ.set i (some (.val d))) := S.setB (b := .val d) r trivial i
theorem Sim.put : ∀ {l : List (Nat × D)} {σ σ' : L2.St} {ρ : SEnv}, Sim Γ P0 H0 P H σ ρ → Put Γ P l σ σ' → Sim Γ P0 H0 P H σ' (setS l ρ)
  | [], _, _, _, S, q => by
    have e : _ = _ := q
    subst e
    exact S
  | p :: l, _, _, _, S, ⟨v, r, q⟩ => Sim.put (l := l) (S.setV r p.1) q
theorem Sim.freeze (S : Sim Γ P0 H0 P H σ ρ) {b : Bd} {v : V} (r : RB Γ P H H0 v b) (n : NewTo σ ρ v b) : ∃ P2, Sim Γ P0 H0 P2 H σ ρ ∧ Same P P2 ∧ Rep Γ P2 v b.d := by
  obtain ⟨P2, x2, s2, rv⟩ := r.freeze S.ext
  cases b with
  | val d => exact ⟨P, S, Same.refl _, r⟩
  | own xs =>
    obtain ⟨o, vs, rfl, g1, g2, g3, g4⟩ := r
    have s3 : Same P (upd P o (.lst vs)) := fun a u q => by rw [upd_ne (ne_of_none q g2)]; exact q
    refine ⟨upd P o (.lst vs), ⟨⟨S.ext.same, S.ext.grow.trans s3, fun a u q => ?_, fun a u q => ?_⟩, S.len, fun i d h => ?_, fun i ys h => ?_, S.dis⟩, s3, .lst upd_same (g4.mono s3)⟩
    · by_cases ha : a = o
      · subst ha; rw [upd_same] at q; rw [← q]; exact g1
      · rw [upd_ne ha] at q; exact S.ext.sub _ _ q
    · by_cases ha : a = o
      · subst ha; exact .inr g3
      · rw [upd_ne ha] at q; exact S.ext.new _ _ q
    · obtain ⟨w, k1, k2⟩ := S.val i d h
      exact ⟨w, k1, k2.mono s3⟩
    · obtain ⟨p, ws, k1, k2, k3, k4, k5⟩ := S.own i ys h
      refine ⟨p, ws, k1, k2, ?_, k4, k5.mono s3⟩
      rw [upd_ne fun e => ?_]
      · exact k3
      · subst e
        exact n i ys h k1
/-- an own list rewritten -/
theorem Sim.rewr (S : Sim Γ P0 H0 P H σ ρ) {i : Nat} {xs ys : List D} {o : Addr} {us : List V} (h : ρ[i]? = some (some (.own xs))) (h1 : σ[i]? = some (some (.ref o))) (r : RepL Γ P us ys) : Sim Γ P0 H0 P (upd H o (.lst us)) σ (ρ.set i (some (.own ys))) := by
  obtain ⟨o', vs, g1, g2, g3, g4, g5⟩ := S.own i xs h
  rw [h1] at g1
  cases g1
  have hl : i < ρ.length := (List.getElem?_eq_some_iff.mp h).1
  refine ⟨⟨fun a u q => ?_, S.ext.grow, fun a u q => ?_, S.ext.new⟩, by rw [List.length_set]; exact S.len, fun j d q => ?_, fun j zs q => ?_, fun j k zs ws v q1 q2 q3 q4 => ?_⟩
  · rw [upd_ne (ne_of_none q g4)]
    exact S.ext.same _ _ q
  · rw [upd_ne (ne_of_none q g3)]
    exact S.ext.sub _ _ q
  · by_cases hj : i = j
    · subst hj
      rw [List.getElem?_set_self hl] at q
      cases q
    · rw [List.getElem?_set_ne hj] at q
      exact S.val j d q
  · by_cases hj : i = j
    · subst hj
      rw [List.getElem?_set_self hl] at q
      cases q
      exact ⟨o, us, h1, upd_same, g3, g4, r⟩
    · rw [List.getElem?_set_ne hj] at q
      obtain ⟨p, ws, k1, k2, k3, k4, k5⟩ := S.own j zs q
      refine ⟨p, ws, k1, ?_, k3, k4, k5⟩
      rw [upd_ne fun e => ?_]
      · exact k2
      · subst e
        exact hj (S.dis i j xs zs _ h q h1 k1)
  · have back : ∀ (j : Nat) (zs : List D), (ρ.set i (some (.own ys)))[j]? = some (some (.own zs)) → ∃ ws, ρ[j]? = some (some (.own ws)) := fun j zs q => by
      by_cases hj : i = j
      · subst hj
        exact ⟨xs, h⟩
      · rw [List.getElem?_set_ne hj] at q
        exact ⟨zs, q⟩
    obtain ⟨_, e1⟩ := back j zs q1
    obtain ⟨_, e2⟩ := back k ws q2
    exact S.dis j k _ _ v e1 e2 q3 q4
end
/-! ### statements -/
def WpS (Γ : Ga) (W : WX) (P0 H0 : Hp) (r : SR) (D : Ends) : Prop := match r with
  | .ok ρ .nx => ∀ P H σ, Sim Γ P0 H0 P H σ ρ → D.nx σ H
  | .ok ρ .bk => ∀ P H σ, Sim Γ P0 H0 P H σ ρ → D.bk σ H
  | .ok ρ .ct => ∀ P H σ, Sim Γ P0 H0 P H σ ρ → D.ct σ H
  | .ok _ (.rt b) => ∀ P H v, Ext P0 H0 P H → RB Γ P H H0 v b → D.rt v H
  | .exc c k ρ => ∀ P H σ cls d, Sim Γ P0 H0 P H σ ρ → XRep Γ H cls d c k → W cls d σ H
  | .bad => False
def tS (Γ : Ga) (W : WX) (g : SEnv → SR) : TS := fun D σ H => ∃ P0 H0 P ρ, Sim Γ P0 H0 P H σ ρ ∧ WpS Γ W P0 H0 (g ρ) D
theorem PS.imp {X : Cx} {s : Stmt} {t t' : TS} (h : PS X s t) (i : ∀ D σ H, t' D σ H → t D σ H) : PS X s t' := ⟨fun pins s σ H D I w => h.run pins s σ H D I (i D σ H w)⟩
theorem PSs.imp {X : Cx} {s : List Stmt} {t t' : TS} (h : PSs X s t) (i : ∀ D σ H, t' D σ H → t D σ H) : PSs X s t' := ⟨fun pins s σ H D I w => h.run pins s σ H D I (i D σ H w)⟩
section
variable (F C : Nat → Addr) (X : Cx) (W : WX)
def SO (s : Stmt) (g : SEnv → SR) : Prop := PS X s (tS (ga X F C) W g)
def SOs (s : List Stmt) (g : SEnv → SR) : Prop := PSs X s (tS (ga X F C) W g)
end
section
variable {F C : Nat → Addr} {X : Cx} {W : WX}
abbrev Rd1 (Γ : Ga) (W : WX) (t : TE) (f : Env → R Bd) : Prop := ∀ (P H : Hp) (σ : L2.St) (η : Env) (Q : VK), Same P H → SimE Γ P σ η → Wp Γ (WE W σ) P H (f η) Q → t σ H Q
/-- an expression's answer, handed on -/
theorem Sim.run {Γ : Ga} {P0 H0 P H : Hp} {σ : L2.St} {ρ : SEnv} {D : Ends} {t : TE} {f : Env → R Bd} {M : Nat → Bool} {K : Bd → SEnv → SR} {Q : VK} (S : Sim Γ P0 H0 P H σ ρ) (r : Rd1 Γ W t f) (h : WpS Γ W P0 H0 (withE M ρ (f (mask M 0 ρ)) K) D)
    (next : ∀ b ρ1 P1 H1 v, Sim Γ P0 H0 P1 H1 σ ρ1 → RB Γ P1 H1 H0 v b → NewTo σ ρ1 v b → WpS Γ W P0 H0 (K b ρ1) D → Q v H1) : t σ H Q := by
  obtain ⟨s1, s2, se⟩ := S.frz M
  refine r _ H σ _ Q s2 se ?_
  cases e : f (mask M 0 ρ) with
  | ok b =>
    rw [e] at h
    have h : WpS Γ W P0 H0 (K b (after M b ρ)) D := h
    intro P1 H1 v x1 rb
    have nw : ∀ ρ1 : SEnv, (∀ (j : Nat) (xs : List PF.D), ρ1[j]? = some (some (Bd.own xs)) → ∃ ys : List PF.D, ρ[j]? = some (some (Bd.own ys))) → NewTo σ ρ1 v b := fun ρ1 hb => by
      cases b with
      | val d => trivial
      | own xs =>
        intro j ys hj hs
        obtain ⟨o, vs, rfl, g1, g2, g3, g4⟩ := rb
        obtain ⟨zs, hz⟩ := hb j ys hj
        obtain ⟨o', vs', k1, k2, _⟩ := S.own j zs hz
        rw [hs] at k1
        cases k1
        rw [g3] at k2
        cases k2
    unfold after at h
    split at h
    · rename_i hn
      exact next b ρ _ H1 v (S.kept x1) ((S.thawB x1 hn rb).base S.ext.same) (nw ρ fun j xs q => ⟨xs, q⟩) h
    · refine next b _ P1 H1 v (S.lost x1) (rb.base S.ext.same) (nw _ fun j xs q => ?_) h
      rw [unown_get] at q
      cases z : ρ[j]? with
      | none => rw [z] at q; cases q
      | some c =>
        rw [z] at q
        match c, q with
        | none, q => cases q
        | some (.val d'), q => cases q
        | some (.own zs), q => exact ⟨zs, rfl⟩
  | exc c k =>
    rw [e] at h
    intro P1 H1 cls d x1 xr
    exact h _ H1 σ cls d (S.kept x1) xr
  | bad =>
    rw [e] at h
    exact h.elim
theorem Sim.runB {Γ : Ga} {P0 H0 P H : Hp} {σ : L2.St} {ρ : SEnv} {D : Ends} {t : TT} {f : Env → R Bool} {M : Nat → Bool} {K : Bool → SR} {Q : Bool → Hp → Prop} (S : Sim Γ P0 H0 P H σ ρ)
    (r : ∀ (P H : Hp) (σ : L2.St) (η : Env) (Q : Bool → Hp → Prop), Same P H → SimE Γ P σ η → WpB Γ (WE W σ) P H (f η) Q → t σ H Q) (h : WpS Γ W P0 H0 (withB ρ (f (mask M 0 ρ)) K) D)
    (next : ∀ b P1 H1, Sim Γ P0 H0 P1 H1 σ ρ → WpS Γ W P0 H0 (K b) D → Q b H1) : t σ H Q := by
  obtain ⟨s1, s2, se⟩ := S.frz M
  refine r _ H σ _ Q s2 se ?_
  cases e : f (mask M 0 ρ) with
  | ok b =>
    rw [e] at h
    intro P1 H1 x1
    exact next b _ H1 (S.kept x1) h
  | exc c k =>
    rw [e] at h
    intro P1 H1 cls d x1 xr
    exact h _ H1 σ cls d (S.kept x1) xr
  | bad =>
    rw [e] at h
    exact h.elim
/-! ### the rules -/
theorem so_nil {m : Nat → List D → R Bd} : SOs F C X W [] (exs m []) := PSs.imp pss_nil fun D σ H ⟨P0, H0, P, ρ, S, h⟩ => h P H σ S
theorem so_cons {m : Nat → List D → R Bd} {s : Stmt} {r : List Stmt} {i : IS} {is : List IS} (h1 : SO F C X W s (i.ex m)) (h2 : SOs F C X W r (exs m is)) : SOs F C X W (s :: r) (exs m (i :: is)) := by
  refine PSs.imp (pss_cons h1 h2) fun D σ H ⟨P0, H0, P, ρ, S, h⟩ => ?_
  refine ⟨P0, H0, P, ρ, S, ?_⟩
  unfold exs at h
  cases e : i.ex m ρ with
  | ok ρ1 f =>
    rw [e] at h
    cases f with
    | nx => exact fun P1 H1 σ1 S1 => ⟨P0, H0, P1, ρ1, S1, h⟩
    | bk => exact h
    | ct => exact h
    | rt b => exact h
  | exc c k ρ1 => rw [e] at h; exact h
  | bad => rw [e] at h; exact h.elim
theorem so_set {m : Nat → List D → R Bd} {e : Expr} {ie : IE} {i : Nat} {x : Str} {p pos : Pos} (he : EO F C X W e (ie.ev m)) (hi : X.N[i]? = some x) (hx : Loc X.env.scope x) (hf : X.fn x = true ∨ X.env.scope.names.lookup x = some .local) :
    SO F C X W (.Assign [.Name x p] e pos) ((IS.set i ie).ex m) := by
  obtain ⟨⟨t, pe, ao, r⟩, _⟩ := he
  refine PS.imp (ao i x p pos hi hx hf) fun D σ H ⟨P0, H0, P, ρ, S, h⟩ => ?_
  unfold IS.ex at h
  exact S.run r h fun b ρ1 P1 H1 v S1 rb nw h1 => h1 P1 H1 _ (S1.setB rb nw i)
theorem so_asg {m : Nat → List D → R Bd} {tg e : Expr} {tt : Tg} {ie : IE} {pos : Pos} (he : EO F C X W e (ie.ev m)) (hg : GO F C X tg tt) (hs : swapsWithSole [tg] e pos.line X.env = pure false) (hw : swappedStores [tg] e X.env = pure none)
    (h1 : (assignEach [tg] X.env).map (·.2) = [assign tg X.env]) : SO F C X W (.Assign [tg] e pos) ((IS.asg tt ie).ex m) := by
  obtain ⟨⟨t, pe, ao, r⟩, _⟩ := he
  obtain ⟨⟨g, pg, rg⟩, _⟩ := hg
  refine PS.imp (ps_asg pe pg hs hw h1) fun D σ H ⟨P0, H0, P, ρ, S, h⟩ => ?_
  unfold IS.ex at h
  refine S.run r h fun b ρ1 P1 H1 v S1 rb nw h1 => ?_
  obtain ⟨P2, S2, s2, rv⟩ := S1.freeze rb nw
  unfold putS at h1
  cases e : asgs tt b.d with
  | none => rw [e] at h1; exact h1.elim
  | some l =>
    rw [e] at h1
    exact rg P2 H1 v b.d σ l _ S2.ext.sub rv e fun σ' put => h1 P2 H1 σ' (S2.put put)
end
end PF

end

section
set_option Elab.async false
set_option linter.all false
set_option maxRecDepth 100000
/-! PF11: statements: the rest of the rules. -/
namespace PF
open PySem PySem.Spec PyProof.Rows L2
section
variable {F C : Nat → Addr} {X : Cx} {W : WX} {m : Nat → List D → R Bd} {pos : Pos}
theorem so_brk : SO F C X W (.Break pos) (IS.brk.ex m) := PS.imp ps_break fun D σ H ⟨P0, H0, P, ρ, S, h⟩ => h P H σ S
theorem so_cnt : SO F C X W (.Continue pos) (IS.cnt.ex m) := PS.imp ps_continue fun D σ H ⟨P0, H0, P, ρ, S, h⟩ => h P H σ S
theorem so_xp {e : Expr} {ie : IE} (he : EO F C X W e (ie.ev m)) (hc : isComp e = false) : SO F C X W (.Expr e pos) ((IS.xp ie).ex m) := by
  obtain ⟨⟨t, pe, ao, r⟩, _⟩ := he
  refine PS.imp (ps_expr pe (swaps_no hc)) fun D σ H ⟨P0, H0, P, ρ, S, h⟩ => ?_
  unfold IS.ex at h
  exact S.run r h fun b ρ1 P1 H1 v S1 rb nw h1 => h1 P1 H1 σ S1
theorem so_ite {c : Expr} {ic : IE} {a b : List Stmt} {ia ib : List IS} (hc : TO F C X W c (ic.te m)) (ha : SOs F C X W a (exs m ia)) (hb : SOs F C X W b (exs m ib)) : SO F C X W (.If c a b pos) ((IS.ite ic ia ib).ex m) := by
  obtain ⟨t, pt, _, r⟩ := hc
  refine PS.imp (ps_if pt ha hb) fun D σ H ⟨P0, H0, P, ρ, S, h⟩ => ?_
  unfold IS.ex at h
  refine S.runB r h fun b P1 H1 S1 h1 => ?_
  cases b with
  | true => exact ⟨P0, H0, P1, ρ, S1, h1⟩
  | false => exact ⟨P0, H0, P1, ρ, S1, h1⟩
theorem so_whl {c : Expr} {ic : IE} {a : List Stmt} {ia : List IS} (hp : PassesOwn (model X.prog X.w) X.A X.env X.xe) (hc : TO F C X W c (ic.te m)) (ha : SOs F C X W a (exs m ia)) : SO F C X W (.While c a [] pos) ((IS.whl ic ia).ex m) := by
  obtain ⟨t, pt, _, r⟩ := hc
  refine PS.imp (ps_while hp pt ha) fun D σ H ⟨P0, H0, P, ρ, S, h⟩ => ?_
  unfold IS.ex at h
  refine ⟨fun n σ H => ∃ P ρ, Sim (ga X F C) P0 H0 P H σ ρ ∧ WpS (ga X F C) W P0 H0 (whileF (fun ρ1 => ic.te m (mask ic.ment 0 ρ1)) (fun ρ1 => exs m ia ρ1) n ρ) D, ⟨fuel, P, ρ, S, h⟩, ?_⟩
  rintro n σ H ⟨P, ρ, S, h⟩
  cases n with
  | zero => exact h.elim
  | succ n =>
    unfold whileF at h
    have h : WpS (ga X F C) W P0 H0 (withB ρ (ic.te m (mask ic.ment 0 ρ)) fun b => if b then (match exs m ia ρ with
      | .ok ρ2 .nx => whileF (fun ρ1 => ic.te m (mask ic.ment 0 ρ1)) (fun ρ1 => exs m ia ρ1) n ρ2
      | .ok ρ2 .ct => whileF (fun ρ1 => ic.te m (mask ic.ment 0 ρ1)) (fun ρ1 => exs m ia ρ1) n ρ2
      | .ok ρ2 .bk => .ok ρ2 .nx
      | .ok ρ2 (.rt b) => .ok ρ2 (.rt b)
      | .exc c k ρ2 => .exc c k ρ2
      | .bad => .bad) else .ok ρ .nx) D := by
      cases e : ic.te m (mask ic.ment 0 ρ) with
      | ok b => rw [e] at h; cases b <;> exact h
      | exc c k => rw [e] at h; exact h
      | bad => rw [e] at h; exact h
    refine S.runB r h fun b P1 H1 S1 h1 => ?_
    cases b with
    | true =>
      rw [if_pos rfl] at h1 ⊢
      refine ⟨fun σ H => ∃ P ρ, Sim (ga X F C) P0 H0 P H σ ρ ∧ WpS (ga X F C) W P0 H0 (whileF (fun ρ1 => ic.te m (mask ic.ment 0 ρ1)) (fun ρ1 => exs m ia ρ1) n ρ) D, fun σ' H' q => ⟨n, Nat.lt_succ_self n, q⟩, P0, H0, P1, ρ, S1, ?_⟩
      cases e : exs m ia ρ with
      | ok ρ2 f =>
        rw [e] at h1
        cases f with
        | nx => exact fun P2 H2 σ2 S2 => ⟨P2, ρ2, S2, h1⟩
        | ct => exact fun P2 H2 σ2 S2 => ⟨P2, ρ2, S2, h1⟩
        | bk => exact h1
        | rt b => exact h1
      | exc c k ρ2 => rw [e] at h1; exact h1
      | bad => rw [e] at h1; exact h1.elim
    | false =>
      rw [if_neg Bool.false_ne_true] at h1 ⊢
      exact h1 P1 H1 σ S1
/-- what stays for ever taken from a later point on -/
theorem Ext.base {P0 H0 P1 H1 P H : Hp} (a : Ext P0 H0 P1 H1) (b : Ext P1 H0 P H) : Ext P0 H0 P H := ⟨b.same, a.grow.trans b.grow, b.sub, fun x o q => (b.new x o q).elim (fun z => a.new x o z) .inr⟩
theorem Sim.base {Γ : Ga} {P0 H0 P1 H1 P H : Hp} {σ : L2.St} {ρ : SEnv} (a : Ext P0 H0 P1 H1) (S : Sim Γ P1 H0 P H σ ρ) : Sim Γ P0 H0 P H σ ρ := ⟨Ext.base a S.ext, S.len, S.val, S.own, S.dis⟩
theorem Sim.rebase {Γ : Ga} {P0 H0 P H : Hp} {σ : L2.St} {ρ : SEnv} (S : Sim Γ P0 H0 P H σ ρ) : Sim Γ P H0 P H σ ρ := ⟨⟨S.ext.same, Same.refl _, S.ext.sub, fun _ _ q => .inl q⟩, S.len, S.val, S.own, S.dis⟩
theorem WpS.rebase {Γ : Ga} {P0 H0 P1 H1 : Hp} {r : SR} {D : Ends} (a : Ext P0 H0 P1 H1) (h : WpS Γ W P0 H0 r D) : WpS Γ W P1 H0 r D := by
  cases r with
  | ok ρ f =>
    cases f with
    | nx => exact fun P H σ S => h P H σ (Sim.base a S)
    | bk => exact fun P H σ S => h P H σ (Sim.base a S)
    | ct => exact fun P H σ S => h P H σ (Sim.base a S)
    | rt b => exact fun P H v x q => h P H v (Ext.base a x) q
  | exc c k ρ => exact fun P H σ cls d S x => h P H σ cls d (Sim.base a S) x
  | bad => exact h
/-- a loop from its walked items on -/
theorem for_core {Γ : Ga} {t : Tg} {g : TG} {ia : List IS} {P0 H0 : Hp} {D : Ends} {J : It} {items : List PF.D} {σ : L2.St} {H1 : Hp} {ρ : SEnv} {P1 : Hp}
    (rg : ∀ (P H : Hp) (v : V) (d : PF.D) (σ : L2.St) (l : List (Nat × PF.D)) (Q : L2.St → Hp → Prop), Same P H → Rep Γ P v d → asgs t d = some l → (∀ σ', Put Γ P l σ σ' → Q σ' H) → g v σ H Q)
    (wd : WalksD Γ J P1 items) (S : Sim Γ P0 H0 P1 H1 σ ρ) (h : WpS Γ W P0 H0 (loopF (putS t) (fun ρ1 => exs m ia ρ1) items ρ) D) :
    ∃ W' : Nat → Nat → L2.St → Hp → Prop, (∃ m, W' 0 m σ H1) ∧ ∀ i m' σ H, W' i m' σ H →
      (J.stop i H ∧ D.nx σ H) ∨ (J.go i H ∧ ∃ N : L2.St → Hp → Prop, (∀ σ' H', N σ' H' → ∃ m'', m'' < m' ∧ W' (i + 1) m'' σ' H') ∧ ∀ x H', J.yld i H x H' → g x σ H' fun σ2 H2 => tS Γ W (exs m ia) { D with nx := N, ct := N, bk := D.nx } σ2 H2) := by
  obtain ⟨G, Y, hW, hG, hY⟩ := wd
  refine ⟨fun i n σ H => i + n = items.length ∧ ∃ P ρ, Same P1 P ∧ Sim Γ P0 H0 P H σ ρ ∧ WpS Γ W P0 H0 (loopF (putS t) (fun ρ1 => exs m ia ρ1) (items.drop i) ρ) D, ⟨items.length, Nat.zero_add _, P1, ρ, Same.refl _, S, h⟩, ?_⟩
  rintro i n σ H ⟨hn, P, ρ, sp, S, h⟩
  cases n with
  | zero =>
    have hi : i = items.length := by omega
    subst hi
    refine .inl ⟨hW.stops _ (hG H (sp.trans S.ext.sub)), ?_⟩
    rw [List.drop_length] at h
    exact h P H σ S
  | succ n =>
    have hi : i < items.length := by omega
    refine .inr ⟨hW.goes _ _ hi (hG H (sp.trans S.ext.sub)), fun σ H => i + 1 + n = items.length ∧ ∃ P ρ, Same P1 P ∧ Sim Γ P0 H0 P H σ ρ ∧ WpS Γ W P0 H0 (loopF (putS t) (fun ρ1 => exs m ia ρ1) (items.drop (i + 1)) ρ) D, fun σ' H' q => ⟨n, Nat.lt_succ_self n, q⟩, fun x H' y => ?_⟩
    obtain ⟨d, P2, hd, e2, rd⟩ := hY i H x H' P hi sp S.ext.sub (hW.yields _ _ _ _ hi (hG H (sp.trans S.ext.sub)) y)
    have hdrop : items.drop i = d :: items.drop (i + 1) := by
      obtain ⟨hlt, hde⟩ := List.getElem?_eq_some_iff.mp hd
      rw [← hde]
      exact List.drop_eq_getElem_cons hlt
    rw [hdrop] at h
    unfold loopF putS at h
    have S2 := S.grow e2
    cases ea : asgs t d with
    | none => rw [ea] at h; exact h.elim
    | some l =>
      rw [ea] at h
      refine rg P2 H' x d σ l _ S2.ext.sub rd ea fun σ' put => ?_
      have S3 := S2.put put
      refine ⟨P2, H0, P2, _, S3.rebase, ?_⟩
      dsimp only at h
      have sp2 := sp.trans e2.grow
      cases eb : exs m ia (setS l ρ) with
      | ok ρ2 f =>
        rw [eb] at h
        cases f with
        | nx => exact fun P3 H3 σ3 S4 => ⟨by omega, P3, ρ2, sp2.trans S4.ext.grow, Sim.base S3.ext S4, h⟩
        | ct => exact fun P3 H3 σ3 S4 => ⟨by omega, P3, ρ2, sp2.trans S4.ext.grow, Sim.base S3.ext S4, h⟩
        | bk => exact fun P3 H3 σ3 S4 => h P3 H3 σ3 (Sim.base S3.ext S4)
        | rt b => exact fun P3 H3 v x q => h P3 H3 v (Ext.base S3.ext x) q
      | exc c k ρ2 => rw [eb] at h; exact fun P3 H3 σ3 cls d S4 x => h P3 H3 σ3 cls d (Sim.base S3.ext S4) x
      | bad => rw [eb] at h; exact h.elim
theorem so_for {tg iter : Expr} {t : Tg} {it : IIt} {body : List Stmt} {ia : List IS} (hp : PassesOwn (model X.prog X.w) X.A X.env X.xe) (hc : X.calm = true) (hi : IO F C X W tg iter (it.ev m)) (hg : GO F C X tg t) (hb : SOs F C X W body (exs m ia)) (hgo : it.gone = it.ment) :
    SO F C X W (.For tg iter body [] pos) ((IS.for_ t it ia).ex m) := by
  obtain ⟨wi, pi, hs, ri⟩ := hi
  obtain ⟨⟨g, pg, rg⟩, _⟩ := hg
  refine PS.imp (ps_for hp hc pi pg hb hs) fun D σ H ⟨P0, H0, P, ρ, S, h⟩ => ?_
  unfold IS.ex at h
  obtain ⟨s1, s2, se⟩ := S.frz it.ment
  refine ri _ H σ _ _ s2 se ?_
  cases e : it.ev m (mask it.ment 0 ρ) with
  | ok items =>
    rw [e, hgo] at h
    intro J P1 H1 x1 wd
    exact for_core rg wd (S.lost x1) h
  | exc c k =>
    rw [e] at h
    exact fun P1 H1 cls d x1 xr => h _ H1 σ cls d (S.kept x1) xr
  | bad =>
    rw [e] at h
    exact h.elim
/-- ranges: what is walked hangs on no list -/
def WpR (Γ : Ga) (W : XK) (P H : Hp) (r : R (List PF.D)) (Q : It → Hp → Prop) : Prop := match r with
  | .ok items => ∀ J P' H', Ext P H P' H' → (∀ P, WalksD Γ J P items) → Q J H'
  | .exc c k => ∀ P' H' cls d, Ext P H P' H' → XRep Γ H' cls d c k → W cls d H'
  | .bad => False
def IOR (F C : Nat → Addr) (X : Cx) (W : WX) (tg iter : Expr) (f : Env → R (List PF.D)) : Prop :=
  ∃ wi, PI X tg iter wi ∧ (∀ x, foldedSetIterable iter X.env x = pure x) ∧ ∀ (P H : Hp) (σ : L2.St) (η : Env) (Q : It → Hp → Prop), Same P H → SimE (ga X F C) P σ η → WpR (ga X F C) (WE W σ) P H (f η) Q → wi σ H Q
theorem WpR.later {Γ : Ga} {W : XK} {P H P1 H1 : Hp} {r : R (List PF.D)} {Q : It → Hp → Prop} (h : WpR Γ W P H r Q) (e : Ext P H P1 H1) : WpR Γ W P1 H1 r Q := by
  cases r with
  | ok b => exact fun J P' H' x q => h J P' H' (e.trans x) q
  | exc c k => exact fun P' H' cls d x q => h P' H' cls d (e.trans x) q
  | bad => exact h
theorem partR {σ : L2.St} {η : Env} {P H : Hp} {t : TE} {f : Env → R Bd} {k : Bd → R (List PF.D)} {Q : It → Hp → Prop} {Q' : VK} (r : Rd1 (ga X F C) W t f)
    (s : Same P H) (i : SimE (ga X F C) P σ η) (h : WpR (ga X F C) (WE W σ) P H ((f η).bind k) Q)
    (next : ∀ b P1 H1 v, Ext P H P1 H1 → Rep (ga X F C) P1 v b.d → WpR (ga X F C) (WE W σ) P1 H1 (k b) Q → Q' v H1) : t σ H Q' := by
  refine r P H σ η Q' s i ?_
  cases e : f η with
  | ok b =>
    rw [e] at h
    intro P' H' v x rb
    obtain ⟨P2, x2, s2, rv⟩ := rb.freeze x
    exact next b P2 H' v x2 rv (WpR.later h x2)
  | exc c k => rw [e] at h; exact h
  | bad => rw [e] at h; exact h.elim
theorem ior_rng1 {tg a : Expr} {fa : Env → R Bd} {p : Pos} (hg : Gl X "range") (hm : X.mg "range" = none) (ha : EO F C X W a fa) : IOR F C X W tg (.Call (.Name "range" p) [a] [] pos) (fun η => (fa η).bind fun x => match x.d with
    | .int n => if near n then .ok (rngD 0 n.toNat) else .bad
    | _ => .bad) := by
  obtain ⟨⟨t, pa, _, ra⟩, hs⟩ := ha
  refine ⟨_, pi_range1 hg hm (pa_cons pa pa_nil (star_cons hs)) (star_cons hs), folded_of rfl, fun P H σ η Q s se h => ?_⟩
  refine partR (t := t) ra s se h fun b P1 H1 v x1 rv h1 => ?_
  cases e : b.d with
  | int n =>
    rw [e] at h1 rv
    cases rv
    have h1 : WpR (ga X F C) (WE W σ) P1 H1 (if near n then .ok (rngD 0 n.toNat) else .bad) Q := h1
    split at h1
    · rename_i c
      exact ⟨n, rfl, (near_b c).1, (near_b c).2, h1 _ P1 H1 (Ext.refl x1.sub) fun _ => walksD_range⟩
    · exact h1.elim
  | _ => rw [e] at h1; exact h1.elim
theorem ior_rng2 {tg a b : Expr} {fa fb : Env → R Bd} {p : Pos} (hg : Gl X "range") (hm : X.mg "range" = none) (ha : EO F C X W a fa) (hb : EO F C X W b fb) : IOR F C X W tg (.Call (.Name "range" p) [a, b] [] pos) (fun η => (fa η).bind fun x => (fb η).bind fun y => match x.d, y.d with
    | .int i, .int j => if near i ∧ near j then .ok (rngD i (j - i).toNat) else .bad
    | _, _ => .bad) := by
  obtain ⟨⟨t, pa, _, ra⟩, hs⟩ := ha
  obtain ⟨⟨u, pb, _, rb⟩, hs2⟩ := hb
  refine ⟨_, pi_range2 hg hm (pa_cons pa (pa_cons pb pa_nil (star_cons hs2)) (star_cons hs)) (by rw [star_cons hs, star_cons hs2]; rfl) (star_cons hs2), folded_of rfl, fun P H σ η Q s se h => ?_⟩
  refine partR (t := t) ra s se h fun x P1 H1 v x1 rv h1 => ?_
  refine partR (t := u) rb x1.sub (se.mono x1.grow) h1 fun y P2 H2 w x2 rw' h2 => ?_
  cases e : x.d with
  | int n =>
    cases e2 : y.d with
    | int k =>
      rw [e] at rv
      rw [e2] at rw'
      cases rv
      cases rw'
      have h2 : WpR (ga X F C) (WE W σ) P2 H2 (match x.d, y.d with
    | .int i, .int j => if near i ∧ near j then .ok (rngD i (j - i).toNat) else .bad
    | _, _ => .bad) Q := h2
      rw [e, e2] at h2
      have h2 : WpR (ga X F C) (WE W σ) P2 H2 (if near n ∧ near k then .ok (rngD n (k - n).toNat) else .bad) Q := h2
      split at h2
      · rename_i c
        exact ⟨n, k, rfl, ⟨(near_b c.1).1, (near_b c.1).2, (near_b c.2).1, (near_b c.2).2⟩, h2 _ P2 H2 (Ext.refl x2.sub) fun _ => walksD_range⟩
      · exact h2.elim
    | _ => rw [e, e2] at h2; exact h2.elim
  | _ => rw [e] at h2; exact h2.elim
theorem unown_none : ∀ {ρ : SEnv} {k : Nat}, unown (fun _ => false) k ρ = ρ
  | [], _ => rfl
  | none :: r, k => by simp only [unown]; rw [unown_none]
  | some (.val d) :: r, k => by simp only [unown]; rw [unown_none]
  | some (.own d) :: r, k => by simp only [unown]; rw [unown_none]; rfl
theorem so_forR {tg iter : Expr} {t : Tg} {it : IIt} {body : List Stmt} {ia : List IS} (hp : PassesOwn (model X.prog X.w) X.A X.env X.xe) (hc : X.calm = true) (hi : IOR F C X W tg iter (it.ev m)) (hg : GO F C X tg t) (hb : SOs F C X W body (exs m ia)) (hgo : it.gone = fun _ => false) :
    SO F C X W (.For tg iter body [] pos) ((IS.for_ t it ia).ex m) := by
  obtain ⟨wi, pi, hs, ri⟩ := hi
  obtain ⟨⟨g, pg, rg⟩, _⟩ := hg
  refine PS.imp (ps_for hp hc pi pg hb hs) fun D σ H ⟨P0, H0, P, ρ, S, h⟩ => ?_
  unfold IS.ex at h
  obtain ⟨s1, s2, se⟩ := S.frz it.ment
  refine ri _ H σ _ _ s2 se ?_
  cases e : it.ev m (mask it.ment 0 ρ) with
  | ok items =>
    rw [e, hgo, unown_none] at h
    intro J P1 H1 x1 wd
    exact for_core rg (wd _) (S.kept x1) h
  | exc c k =>
    rw [e] at h
    exact fun P1 H1 cls d x1 xr => h _ H1 σ cls d (S.kept x1) xr
  | bad =>
    rw [e] at h
    exact h.elim
/-! ### handed back -/
theorem ret_ev {e : IE} {ρ : SEnv} {b : Bd} : IE.ev m e (mask e.ment 0 ρ) = .ok b → True := fun _ => trivial
theorem so_ret {e : Expr} {ie : IE} (he : EO F C X W e (ie.ev m)) (hv : ∀ i, ie ≠ .var i) : SO F C X W (.Return (some e) pos) ((IS.ret ie).ex m) := by
  obtain ⟨⟨t, pe, ao, r⟩, _⟩ := he
  refine PS.imp (ps_ret pe) fun D σ H ⟨P0, H0, P, ρ, S, h⟩ => ?_
  unfold IS.ex at h
  have hr : retE m ie ρ = ie.ev m (mask ie.ment 0 ρ) := by
    cases ie <;> first | rfl | exact absurd rfl (hv _)
  rw [hr] at h
  obtain ⟨s1, s2, se⟩ := S.frz ie.ment
  refine r _ H σ _ D.rt s2 se ?_
  cases e : ie.ev m (mask ie.ment 0 ρ) with
  | ok b =>
    rw [e] at h
    intro P1 H1 v x1 rb
    have S1 := S.lost x1
    exact h P1 H1 v S1.ext (rb.base S.ext.same)
  | exc c k =>
    rw [e] at h
    exact fun P1 H1 cls d x1 xr => h _ H1 σ cls d (S.kept x1) xr
  | bad =>
    rw [e] at h
    exact h.elim
theorem so_retV {i : Nat} {x : Str} {p : Pos} (hN : X.N[i]? = some x) (hv : Vis X.env.scope x) (hd : (x == ("__debug__" : Str)) = false) (hcd : (x == ("__classdict__" : Str)) = false) : SO F C X W (.Return (some (.Name x p)) pos) ((IS.ret (.var i)).ex m) := by
  refine PS.imp (ps_ret (pe_var hN hv hd hcd)) fun D σ H ⟨P0, H0, P, ρ, S, h⟩ => ?_
  have h : WpS (ga X F C) W P0 H0 (match (match ρ[i]? with | some (some b) => R.ok b | _ => .bad) with
    | .ok b => .ok ρ (.rt b)
    | .exc c k => .exc c k ρ
    | .bad => .bad) D := h
  split at h
  · rename_i b hb
    split at hb
    · rename_i b' e
      cases hb
      cases b with
      | val d =>
        obtain ⟨v, h1, h2⟩ := S.val i d e
        exact ⟨v, h1, h P H v S.ext h2⟩
      | own xs =>
        obtain ⟨o, vs, h1, h2, h3, h4, h5⟩ := S.own i xs e
        exact ⟨_, h1, h P H _ S.ext ⟨o, vs, rfl, h2, h3, h4, h5⟩⟩
    · cases hb
  · rename_i hb
    split at hb <;> cases hb
  · exact h.elim
theorem so_retN : SO F C X W (.Return none pos) ((IS.ret (.con .non)).ex m) := PS.imp ps_retN fun D σ H ⟨P0, H0, P, ρ, S, h⟩ => h P H _ S.ext .non
end
end PF

end

section
set_option Elab.async false
set_option linter.all false
set_option maxRecDepth 100000
/-! PF12: own errors with a place, raised. -/
namespace PF
open PySem PySem.Spec PyProof.Rows L2
open PySem.W PySem.Calls PySem.HandSPX
/-! ### the text of __init__ -/
def aA (p1 p2 : Pos) : Arguments := { posonlyargs := [], args := [{ arg := "self", annotation := none, pos := p1 }, { arg := "at", annotation := none, pos := p2 }], vararg := none, kwonlyargs := [], kw_defaults := [], kwarg := none, defaults := [] }
def aB (q1 q2 q3 q4 : Pos) : List Stmt := [.Assign [.Attribute (.Name "self" q1) "at" q2] (.Name "at" q3) q4]
def aS : Scope := { kind := .function, names := [(PySem.Str.ofString "self", .local), (PySem.Str.ofString "at", .local)], isGenerator := false, isCoroutine := false, more := [] }
abbrev eTail : List Value := [.type "Exception", .type "BaseException", .type "object"]
/-- what the written part says of a class, at c, with a place of its own; of its __init__, at fI -/
structure AtTxt (K : PySem.W.Frag) (mg : Str → Option Value) (x qn : Str) (c fI : Addr) : Prop where
  gC : mg x = some (.ref c)
  ini : excInitIn K c eTail "Exception.__new__" = true
  over : excOver K c eTail = true
  sa : findIn K (.ref c) "__setattr__" = some (some (.builtin "object.__setattr__"))
  ga : findIn K (.ref c) "__getattribute__" = some (some (.builtin "BaseException.__getattribute__"))
  gg : findIn K (.ref c) "__getattr__" = some none
  noN : findIn K (.ref c) "at" = some none
  iC : findIn K (.ref c) "__init__" = some (some (.ref fI))
  tC : typeIn K (.ref fI) = some (.type "function")
  kC : keepIn K (.ref c) = true
  exC : subIn K (.ref c) (.type "BaseException") = some true
  tyC : typeIn K (.ref c) = some (.type "type")
  hdC : hasDictIn K c = true
  isC : isClsIn K c = true
  fn : ∃ (oc : Value) (od : Option Addr) (doc pm : Value) (an : Option Addr) (cdv ct : Value) (osl : Array (Option Value)) (p1 p2 q1 q2 q3 q4 : Pos),
    K.lookup fI = some ⟨oc, od, .func (fnOf "__init__" qn (aA p1 p2) (aB q1 q2 q3 q4) aS .none .none doc pm an cdv ct), osl⟩ ∧ codeIn K cdv qn = true
theorem ldA {M : Model} {s : Shared} {name : Str} {scope : Scope} {L a : Addr} {cd : Value} {m : Str → Option Value} {x : Str} {pos : Pos} {v : Value} {Q : Value → Shared → Prop} {A : Around} {E : Value → Shared → Prop} (hn : s.heap.Ns L m) (hv : m x = some v) (h : Q v s)
    (hk : scope.kind = .function := by rfl) (hl : (envOfC name scope L a cd).kindOf x = some .local := by rfl) (hd : (x == ("__debug__" : Str)) = false := by decide) :
    wpAny M A (eval (.Name x pos) (envOfC name scope L a cd)) Q E s := wpAny_Name (wpAny_loadName_local hk hl hn hv h) hd
/-- what __init__ leaves of a fresh exception at x -/
structure AtEnd (h h' : Heap) (x c dx t1 : Addr) (v : Value) : Prop where
  keep : ∀ b o, b ≠ x → h.get? b = some o → h'.get? b = some o
  obj : h'.get? x = some { cls := .ref c, dict := some dx, data := .fields #[.ref t1, .none, .none, .none, .bool false, .none] }
  dbig : h.objs.size ≤ dx
  dne : dx ≠ x
  ns : h'.Ns1 dx (fun y => if y = "at" then some v else none)
structure AtMade (h h' : Heap) (e c d : Addr) (v : Value) : Prop where
  keep : ∀ b o, h.get? b = some o → h'.get? b = some o
  new : h.objs.size ≤ e
  obj : ∃ oe vs, h'.get? e = some oe ∧ oe.cls = .ref c ∧ oe.dict = some d ∧ oe.data = .fields vs ∧ vs[1]? = some .none
  dbig : h.objs.size ≤ d
  dne : d ≠ e
  ns : h'.Ns1 d (fun y => if y = "at" then some v else none)
section
open Builtin Builtin.ObjectAttr
variable {prog : Program} {w : World} {A : Around} {R : Result → Shared → Prop} {hp : Heap} {g : Array GenState} {dr : Drawn} {t : Nat} {os : OsState} {K : PySem.W.Frag} {mg : Str → Option Value} {x qn : Str} {c fI : Addr}
/-- the first field of a fresh exception -/
theorem at_store (T : AtTxt K mg x qn c fI) {tk : Tok} {v : Value} {e : Addr} {fv : Array Value} (X : K.In hp) (hx : hp.get? e = some { cls := .ref c, data := .fields fv })
    (hq : ∀ h' tk' dx, (∀ b o, b ≠ e → hp.get? b = some o → h'.get? b = some o) → hp.objs.size ≤ dx → dx ≠ e → h'.get? e = some { cls := .ref c, dict := some dx, data := .fields fv } →
      h'.Ns1 dx (fun y => if y = "at" then some v else none) → R (.ok (.ret .none)) ⟨h', g, dr, tk', os⟩) :
    codeAny (model prog w) A (.call (.builtin "object.__setattr__") ⟨[.ref e, .str "at" tk, v], []⟩) R ⟨hp, g, dr, t, os⟩ := by
  have ne : e ≠ hp.objs.size := Nat.ne_of_lt (Heap.lt_size hx)
  have I : W.InstAt hp e { cls := .ref c, data := .fields fv } c none := ⟨hx, rfl, rfl, trivial⟩
  refine osa_openX (s := ⟨hp, g, dr, t, os⟩) F.store_Exception X I T.over (r := none) (by unfold takerIn; rw [T.noN]; rfl) fun b => ?_
  obtain ⟨cd, hcd, hh⟩ : ∃ cd, clsIn K c = some cd ∧ cd.hasDict = true := by
    have z := T.hdC
    unfold hasDictIn at z
    cases q : clsIn K c with
    | none => rw [q] at z; cases z
    | some cd => rw [q] at z; exact ⟨cd, rfl, z⟩
  have hc : W.Looks (model prog w) hp (classData c) cd := W.looks_clsIn X hcd
  obtain ⟨nm, bs, mro, ns, qn', hd, sn, sb, ab, col, del⟩ := cd
  dsimp only at hh
  subst hh
  unfold storeInOwnDict ownDictForStores
  repeat (first | with_reducible refine store_in_new ?_ ?_ | with_reducible refine wpAny_loadPart_at hx ?_ | with_reducible refine hc.at ?_ | wp_step)
  · exact ⟨_, #[], _, (Heap.get?_update_ne _ _ _ _ ne.symm).trans (Heap.get?_push_at rfl rfl), rfl, fun _ z => absurd z (by simp), fun _ => rfl⟩
  · intro h' tk' hn same
    have hx1 : (hp.push { cls := .type "dict", data := .dict #[] }).get? e = some { cls := .ref c, data := .fields fv } := Heap.get?_push_of_some _ hx
    exact hq h' tk' hp.objs.size (fun b o hb ho => (same.2 b (Nat.ne_of_lt (Heap.lt_size ho))).trans ((Heap.get?_update_ne _ _ _ _ hb).trans (Heap.get?_push_of_some _ ho))) (Nat.le_refl _) ne.symm
      ((same.2 e ne).trans (Heap.get?_update_self _ hx1 rfl)) hn
end
section
variable {prog : Program} {w : World} {A : Around} {R : Result → Shared → Prop} {s : Shared} {K : PySem.W.Frag} {mg : Str → Option Value} {x qn : Str} {c fI : Addr}
theorem at_init (T : AtTxt K mg x qn c fI) {e t0 : Addr} {v : Value} (X : K.In s.heap) (hlim : s.heap.NoLimit) (hx : s.heap.get? e = some (excO c t0)) (hroom : A.depth < recursionLimit)
    (hq : ∀ h' tk dx, AtEnd s.heap h' e c dx t0 v → R (.ok (.ret .none)) { s with heap := h', toks := tk }) :
    codeAny (model prog w) A (.call (.ref fI) ⟨[.ref e, v], []⟩) R s := by
  obtain ⟨oc, od, doc, pm, an, cdv, ct, osl, p1, p2, q1, q2, q3, q4, ho, hcd⟩ := T.fn
  refine Att.call_fn (binds := [("self", .ref e), ("at", v)]) X hlim ho hcd hroom (BindsTo.of_eq (by first | rfl | with_unfolding_all rfl)) (by first | rfl | decide | with_unfolding_all rfl) (fun s₁ IC => ?_) rfl rfl rfl
  obtain ⟨h₁, tk₁, rfl⟩ := IC.toInCall.same
  have k : ∀ b o, s.heap.get? b = some o → h₁.get? b = some o := IC.toInCall.keep
  have hn := IC.toInCall.ns
  have X₁ : K.In h₁ := X.keeps k
  have hx₁ := k _ _ hx
  show wpAny _ _ (execs _ _) _ _ _
  refine wpAny_execs_cons (plainObj_wpAny_Assign_Attribute ?_)
  refine ldA (v := v) hn (by first | rfl | with_unfolding_all rfl | kernel_rfl) (ldA (v := .ref e) hn (by first | rfl | with_unfolding_all rfl | kernel_rfl) ?_)
  refine set_plain X₁ (ox := excO c t0) (od := none) ⟨hx₁, rfl, rfl, trivial⟩ T.sa ?_
  refine at_store T X₁ hx₁ (fun h₃ tk₃ dx k₃ dn dne hx₃ hn₃ => ?_)
  show wpAny _ _ (execs _ _) _ _ _
  have z : s.heap.objs.size < h₁.objs.size := hn.lt
  exact wpAny_execs_nil (hq h₃ tk₃ dx ⟨fun b o hb e => k₃ b o hb (k b o e), hx₃, Nat.le_of_lt (Nat.lt_of_lt_of_le z dn), dne, hn₃⟩)
theorem at_made (T : AtTxt K mg x qn c fI) {v : Value} (X : K.In s.heap) (hlim : s.heap.NoLimit) (hroom : A.depth + 1 < recursionLimit)
    (hq : ∀ h' tk e d, AtMade s.heap h' e c d v → R (.ok (.ret (.ref e))) { s with heap := h', toks := tk }) :
    codeAny (model prog w) A (.call (.ref c) ⟨[v], []⟩) R s := by
  obtain ⟨nm, N, q, bs, bm, hdct, sn, sub, ab, col, dd, k0, k1, k2, k3, k5, hC, hT⟩ := excInit_of X T.ini
  obtain ⟨hp, g, dr, tk, os⟩ := s
  have k : ∀ b o, hp.get? b = some o → ((hp.push (W.kdv_tup [v])).push (excO c hp.objs.size)).get? b = some o := fun b o e => Heap.get?_push_of_some _ (Heap.get?_push_of_some _ e)
  have hget : ((hp.push (W.kdv_tup [v])).push (excO c hp.objs.size)).get? (hp.objs.size + 1) = some (excO c hp.objs.size) := by heap_get
  refine call_own F.excBase_Exception hT hC (looks_findIn X T.iC) (fun self => bind_fn X self T.tC) (by show 1 ≤ sizeLine; rw [sizeLine_eq]; omega) ?_
  refine at_init (s := ⟨(hp.push (W.kdv_tup [v])).push (excO c hp.objs.size), g, dr, tk, os⟩) T (X.keeps k) (hlim.keeps k) hget ?_ fun h' tk' dx ⟨k', hx, dn, dne, hns⟩ => ?_
  · show A.depth + 1 < recursionLimit
    exact hroom
  · have old : ∀ b o, hp.get? b = some o → h'.get? b = some o := fun b o e => k' b o (Nat.ne_of_lt (Nat.lt_succ_of_lt (Heap.lt_size e))) (k b o e)
    have z : hp.objs.size + 1 + 1 ≤ dx := by
      first
        | (simpa only [Heap.size_push] using dn)
        | exact dn
        | (have q := dn; rw [Heap.size_push, Heap.size_push] at q; exact q)
    exact ⟨rfl, hq h' tk' (hp.objs.size + 1) dx ⟨old, Nat.le_succ _, ⟨_, _, hx, rfl, rfl, rfl, rfl⟩, Nat.le_trans (Nat.le_trans (Nat.le_succ _) (Nat.le_succ _)) z, dne, hns⟩⟩
end
theorem relO_at {v : V} {v' : Value} (r : RelV v v') (f : Str) : RelO (List.lookup f [(("at" : Str), v)]) (if f = "at" then some v' else none) := by
  by_cases hw : f = "at"
  · subst hw
    rw [if_pos rfl]
    have q : List.lookup ("at" : Str) [(("at" : Str), v)] = some v := by simp [List.lookup]
    rw [q]
    exact r
  · rw [if_neg hw]
    have qw : (f == ("at" : Str)) = false := by simpa using hw
    have q2 : List.lookup f [(("at" : Str), v)] = none := by simp [List.lookup, qw]
    rw [q2]
    trivial
section
variable {X : Cx} {x qn : Str} {c fI : Addr}
/-- C(e) -/
def tMkAt (c : Addr) (ta : TA) : L2.St → Hp → XK → Prop := fun σ H Q => ta σ H fun vs H1 => ∃ v, vs = [v] ∧ ∀ d, H1 d = none → Q (.ref c) (some d) (upd H1 d (.xd [(("at" : Str), v)]))
theorem pmk_at {a : Expr} {ta : TA} {p pos : Pos} {k : Nat} (T : AtTxt X.K X.mg x qn c fI) (hr : Room k X.A) (ha : PA X [a] ta) (hg : Gl X x) (hdb : (x == ("__debug__" : Str)) = false)
    (he : starEach (a :: []) X.env = (false, eval a X.env) :: starEach [] X.env) (hpl : (backTo pos (starEach [] X.env)).any (·.1) = false := by rfl) :
    PMk X (.Call (.Name x p) [a] [] pos) (tMkAt c ta) := by
  intro pins s σ H Q I h
  refine wpAny_Call_Name_kw (ld_glob I hg T.gC ?_ hdb)
  refine PySem.W.callWith_K (h₀ := X.base) I.ok.mod.kin T.kC (thn (ha.run pos pins s σ H _ I h) fun us s1 hh => ?_) he hpl
  obtain ⟨vs, H1, I1, r1, v, ev, q1⟩ := hh
  subst ev
  refine ⟨I1.kIn, ?_⟩
  cases r1 with
  | cons rv rn =>
    rename_i v' us'
    cases rn
    show wpAny _ _ (call (.ref c) [v']) _ _ _
    have hlim := I1.nolimit
    obtain ⟨hp, g, dr, tk, os⟩ := s1
    refine wpAny_call (at_made T I1.kIn hlim (by have := hr.dp; omega) fun h' tk' e d M => ?_)
    show MkP X pins σ Q (.ref e) ⟨h', g, dr, tk', os⟩
    obtain ⟨oe, fv, hoe, hc, hd, hdat, h1⟩ := M.obj
    have hns := M.ns
    obtain ⟨G', g1, g2⟩ := restrict h' fun b => decide (b ≠ e)
    have gk : ∀ b, b ≠ e → G'.get? b = h'.get? b := fun b hb => g1 b (decide_eq_true hb)
    have ge : G'.get? e = none := g2 e (by simp)
    have old : ∀ b o, hp.get? b = some o → G'.get? b = some o := fun b o q => (gk b (Nat.ne_of_lt (Nat.lt_of_lt_of_le (Heap.lt_size q) M.new))).trans (M.keep b o q)
    have ob : ObjOk X.prog X.w (upd H1 d (.xd [(("at" : Str), v)])) G' d (.xd [(("at" : Str), v)]) :=
      ⟨_, hns.at (fun o q => (gk d M.dne).trans q), fun f => relO_at rv f⟩
    have J : Inv X pins σ (upd H1 d (.xd [(("at" : Str), v)])) ⟨G', g, dr, tk', os⟩ := I1.laid (t' := tk') old M.dbig ob
    refine ⟨e, oe, fv, ⟨G', g, dr, tk', os⟩, _, .ref c, some d, rfl, J, fun b o q => ?_, ge, hoe, ⟨hc, hd⟩, hdat, h1, ?_, rfl, I1.bare, raises_own T.exC T.tyC, q1 d (I1.hok.fresh M.dbig)⟩
    · by_cases hb : b = e
      · have q' : G'.get? b = some o := q
        rw [hb, ge] at q'; cases q'
      · exact (gk b hb).symm.trans q
    · rw [upd_ne (Ne.symm M.dne)]
      exact I1.hok.fresh M.new
/-- a class without a word of its own, made with nothing -/
theorem pmk_own0 {C : Addr} {bmB : List Value} {B newId initId : String} {p pos : Pos} (F : ExcBaseFacts B newId initId bmB) (q : PySem.W.excIn X.K C bmB newId = true) (gC : X.mg x = some (.ref C)) (kC : PySem.W.keepIn X.K (.ref C) = true) (r : Raises X (.ref C)) (hg : Gl X x)
    (hdb : (x == ("__debug__" : Str)) = false) : PMk X (.Call (.Name x p) [] [] pos) (fun _ H Q => Q (.ref C) none H) := by
  intro pins s σ H Q I h
  refine wpAny_Call_Name_kw (ld_glob I hg gC ?_ hdb)
  refine PySem.W.callWith_K0 I.kIn kC ?_
  show wpAny _ _ (call (.ref C) []) _ _ _
  obtain ⟨bm, N, nm, qn, bs, hdct, sn, sub, ab, col, dd, k0, k1, k2, k3, k5, mN, hC, hN, hni, T⟩ := exc_obj I.kIn q
  exact wpAny_call_exc_subT F T hC hN hni (fun h' e hm => mk_of I hm r h (I.hok.gone hm.new)) (by show 0 ≤ sizeLine; omega)
/-- e.at, e the exception that the suite holds -/
def tAtX (c : Addr) (a : Addr) (cls : Value) (d : Option Addr) (te : TE) : TE := fun σ H Q => te σ H fun y H1 => y = .ref a ∧ cls = .ref c ∧ ∃ (dd : Addr) (v : V), d = some dd ∧ H1 dd = some (.xd [(("at" : Str), v)]) ∧ Q v H1
theorem pe_atX {a : Addr} {oe : Obj} {cls : Value} {d : Option Addr} {pn : List (Addr × Obj)} {e : Expr} {te : TE} {pos : Pos} (T : AtTxt X.K X.mg x qn c fI) (hz : Zc cls d oe) (hf : ∃ vs, oe.data = .fields vs) (he : PE (X.suite a ((a, oe) :: pn)) e te)
    (hb : attributeBase e "at" X.env (eval e X.env) = eval e X.env) :
    PE (X.suite a ((a, oe) :: pn)) (.Attribute e "at" pos) (tAtX c a cls d te) := by
  refine ⟨fun pins s σ H Q I h => ?_⟩
  refine attr_of hb (thn (he.run pins s σ H _ I h) fun u s1 hh => ?_)
  obtain ⟨y, H1, I1, rx, ex, ec, dd, v, ed, ea, q⟩ := hh
  subst ex
  obtain rfl : u = Value.ref a := rx
  subst ec
  subst ed
  obtain ⟨ha, _⟩ := I1.pin (a, oe) (List.mem_append_left _ List.mem_cons_self)
  obtain ⟨vs, hd⟩ := hf
  have hx : ObjOk X.prog X.w H1 s1.heap dd (.xd [(("at" : Str), v)]) := I1.hok dd _ ea
  obtain ⟨mA, hns, hr⟩ := hx
  obtain ⟨od, ho, hl⟩ := lookIn_ns hns
  have l : List.lookup ("at" : Str) [(("at" : Str), v)] = some v := by simp [List.lookup]
  obtain ⟨u, hu, ru⟩ := RelO.some_of (v := v) (o := mA "at") (by rw [← l]; exact hr "at")
  have J : PySem.W.InstAt s1.heap a oe c (some od) := ⟨ha, hz.1, by unfold PySem.W.notCls; rw [hd] <;> rfl, by rw [hz.2]; exact ho⟩
  exact HandSPX.exc_get I1.kIn J T.ga T.gg T.exC (PySem.W.findObj_own T.hdC T.noN rfl (by rw [hl, hu])) (handed_of ru) ⟨v, H1, I1.tok _, ru, q⟩
end
/-! ### the statements -/
section
variable {F C : Nat → Addr} {X : Cx} {W : WX} {m : Nat → List D → R Bd} {x qn : Str} {fI : Addr} {p pos pos2 : Pos}
/-- raise C(e) -/
theorem so_raise {c k : Nat} {e : Expr} {ie : IE} (hc : X.calm = true) (T : AtTxt X.K X.mg x qn (C c) fI) (hr : Room k X.A) (tk : Takes X W) (he : EO F C X W e (ie.ev m)) (hg : Gl X x) (hdb : (x == ("__debug__" : Str)) = false) :
    SO F C X W (.Raise (some (.Call (.Name x p) [e] [] pos)) none pos2) ((IS.raise c ie).ex m) := by
  obtain ⟨⟨t, pe, ao, r⟩, hs⟩ := he
  refine PS.imp (ps_raise hc tk (pmk_at T hr (pa_cons pe pa_nil (star_cons hs)) hg hdb (star_cons hs))) fun D σ H ⟨P0, H0, P, ρ, S, h⟩ => ?_
  unfold IS.ex at h
  show t σ H _
  have h : WpS (ga X F C) W P0 H0 (withE ie.ment ρ (ie.ev m (mask ie.ment 0 ρ)) fun b _ => match b with
    | .val (.int k) => .exc c (some k) ρ
    | _ => .bad) D := h
  obtain ⟨s1, s2, se⟩ := S.frz ie.ment
  refine r _ H σ _ _ s2 se ?_
  cases e : ie.ev m (mask ie.ment 0 ρ) with
  | ok b =>
    rw [e] at h
    intro P1 H1 v x1 rb
    cases b with
    | own xs => exact False.elim h
    | val dv =>
      cases dv with
      | int z =>
        have h : WpS (ga X F C) W P0 H0 (.exc c (some z) ρ) D := h
        cases rb
        refine ⟨_, rfl, fun d hd => ?_⟩
        have S1 := S.kept x1
        have S2 : Sim (ga X F C) P0 H0 _ (upd H1 d (.xd [(("at" : Str), .int z)])) σ ρ := S1.grow (Ext.new0 S1.ext.sub hd)
        exact h _ _ σ _ _ S2 ⟨rfl, d, rfl, upd_same⟩
      | _ => exact False.elim h
  | exc c k =>
    rw [e] at h
    exact fun P1 H1 cls d x1 xr => h _ H1 σ cls d (S.kept x1) xr
  | bad =>
    rw [e] at h
    exact h.elim
/-- raise C() -/
theorem so_raise0 {c : Nat} (hc : X.calm = true) (q : excIn X.K (C c) eTail "Exception.__new__" = true) (gC : X.mg x = some (.ref (C c))) (kC : keepIn X.K (.ref (C c)) = true) (e1 : subIn X.K (.ref (C c)) (.type "BaseException") = some true) (e2 : typeIn X.K (.ref (C c)) = some (.type "type"))
    (tk : Takes X W) (hg : Gl X x) (hdb : (x == ("__debug__" : Str)) = false) : SO F C X W (.Raise (some (.Call (.Name x p) [] [] pos)) none pos2) ((IS.raise0 c).ex m) := by
  refine PS.imp (ps_raise hc tk (pmk_own0 PySem.F.excBase_Exception q gC kC (raises_own e1 e2) hg hdb)) fun D σ H ⟨P0, H0, P, ρ, S, h⟩ => ?_
  exact h P H σ _ _ S ⟨rfl, rfl⟩
end
end PF

end

section
set_option Elab.async false
set_option linter.all false
set_option maxRecDepth 100000
/-! PF13: try. -/
namespace PF
open PySem PySem.Spec PyProof.Rows L2
open PySem.W PySem.Calls PySem.HandSPX
abbrev W0 : WX := fun _ _ _ _ => False
theorem Sim.clear {Γ : Ga} {P0 H0 P H : Hp} {σ : L2.St} {ρ : SEnv} (S : Sim Γ P0 H0 P H σ ρ) (i : Nat) : Sim Γ P0 H0 P H (σ.set i none) (ρ.set i none) := by
  have at_i : ∀ {j : Nat} {c : Bd}, (ρ.set i none)[j]? = some (some c) → ρ[j]? = some (some c) ∧ (σ.set i none)[j]? = σ[j]? := fun {j c} h => by
    by_cases hj : i = j
    · subst hj
      by_cases hl : i < ρ.length
      · rw [List.getElem?_set_self hl] at h; cases h
      · rw [List.getElem?_eq_none (by rw [List.length_set]; omega)] at h; cases h
    · rw [List.getElem?_set_ne hj] at h
      exact ⟨h, List.getElem?_set_ne hj⟩
  refine ⟨S.ext, by rw [List.length_set, List.length_set]; exact S.len, fun j d h => ?_, fun j xs h => ?_, fun j k xs ys w h1 h2 h3 h4 => ?_⟩
  · obtain ⟨a, b⟩ := at_i h
    rw [b]
    exact S.val j d a
  · obtain ⟨a, b⟩ := at_i h
    rw [b]
    exact S.own j xs a
  · obtain ⟨a, b⟩ := at_i h1
    obtain ⟨a', b'⟩ := at_i h2
    exact S.dis j k xs ys w a a' (b ▸ h3) (b' ▸ h4)
/-- a slot of which nothing is told may hold anything -/
theorem Sim.any {Γ : Ga} {P0 H0 P H : Hp} {σ : L2.St} {ρ : SEnv} (S : Sim Γ P0 H0 P H σ ρ) {i : Nat} (v : Option V) (n : ∀ b, ρ[i]? ≠ some (some b)) : Sim Γ P0 H0 P H (σ.set i v) ρ := by
  have ne : ∀ {j : Nat} {c : Bd}, ρ[j]? = some (some c) → (σ.set i v)[j]? = σ[j]? := fun {j c} h => List.getElem?_set_ne fun e => n c (by rw [e]; exact h)
  refine ⟨S.ext, by rw [List.length_set]; exact S.len, fun j d h => ?_, fun j xs h => ?_, fun j k xs ys w h1 h2 h3 h4 => ?_⟩
  · rw [ne h]; exact S.val j d h
  · rw [ne h]; exact S.own j xs h
  · rw [ne h1] at h3
    rw [ne h2] at h4
    exact S.dis j k xs ys w h1 h2 h3 h4
theorem set_gone {ρ : SEnv} {i : Nat} (b : Bd) : (ρ.set i none)[i]? ≠ some (some b) := fun h => by
  by_cases hl : i < ρ.length
  · rw [List.getElem?_set_self hl] at h; cases h
  · rw [List.getElem?_eq_none (by rw [List.length_set]; omega)] at h; cases h
/-- a suite's reading: the exception stands at a, in the slot i, its place k in its dict -/
def tSuA (Γ : Ga) (c i : Nat) (su : Su) : Addr → Value → Option Addr → TS := fun a cls d D σ H => ∃ P0 H0 P ρ k, Sim Γ P0 H0 P H σ ρ ∧ (∀ b, ρ[i]? ≠ some (some b)) ∧ σ[i]? = some (some (.ref a)) ∧ cls = .ref (Γ.C c) ∧
  (∃ dd, d = some dd ∧ H dd = some (.xd [(("at" : Str), .int k)])) ∧ WpS Γ W0 P0 H0 (suF su k ρ) D
theorem WpS.noX {Γ : Ga} {W : WX} {P0 H0 : Hp} {r : SR} {D : Ends} (h : WpS Γ W P0 H0 (PF.noX r) D) : WpS Γ W0 P0 H0 r D := by
  cases r with
  | ok ρ f => cases f <;> exact h
  | exc c k ρ => exact h.elim
  | bad => exact h
theorem eqAt_inv {Γ : Ga} {W : WX} {P0 H0 : Hp} {k : Int} {ρ : SEnv} {o : Option (Option Bd)} {D : Ends} (h : WpS Γ W P0 H0 (eqAtF k ρ o) D) : ∃ j, o = some (some (.val (.int j))) ∧ WpS Γ W P0 H0 (.ok ρ (.rt (.val (.bl (decide (k = j)))))) D := by
  unfold eqAtF at h
  split at h
  · exact ⟨_, rfl, h⟩
  · exact h.elim
theorem addAt_inv {Γ : Ga} {W : WX} {P0 H0 : Hp} {i : Nat} {k : Int} {ρ : SEnv} {o : Option (Option Bd)} {D : Ends} (h : WpS Γ W P0 H0 (addAtF i k ρ o) D) : ∃ j, o = some (some (.val (.int j))) ∧ WpS Γ W P0 H0 (.ok (ρ.set i (some (.val (.int (j + k))))) .nx) D := by
  unfold addAtF at h
  split at h
  · exact ⟨_, rfl, h⟩
  · exact h.elim
section
variable {F C : Nat → Addr} {X : Cx} {W : WX} {m : Nat → List D → R Bd} {x qn : Str} {fI : Addr} {p pos pos2 np : Pos}
/-- the errors of the table: which is which -/
structure Ex (K : PySem.W.Frag) (C : Nat → Addr) (c : Nat) (os : List Nat) : Prop where
  yes : exmOne K (.ref (C c)) (.ref (C c)) = some true
  no : ∀ o ∈ os, exmOne K (.ref (C o)) (.ref (C c)) = some false
theorem so_tryO {c : Nat} {os : List Nat} {body suite : List Stmt} {b₀ : Stmt} {ia isu : List IS} (hs : X.stack = X.env :: X.outer) (hf : X.env.frame = some X.env.locals) (gC : X.mg x = some (.ref (C c))) (hg : Gl X x) (hdb : (x == ("__debug__" : Str)) = false) (ex : Ex X.K C c os) (tk : Takes X W)
    (hb : ∀ (W : WX) (pn : List (Addr × Obj)) (xe : Value → Shared → Prop), Takes (X.tr pn xe) W → PassesOwn (model X.prog X.w) X.A X.env xe → SOs F C (X.tr pn xe) W body (exs m ia))
    (hsu : ∀ (a : Addr) (pn : List (Addr × Obj)), SOs F C (X.suite a pn) W0 (b₀ :: suite) (exs m isu)) :
    SO F C X W (.Try body [.ExceptHandler (some (.Name x np)) none (b₀ :: suite) pos2] [] [] pos) ((IS.tryO ia c os isu).ex m) := by
  refine PS.imp (ps_try_only (tb := fun W => tS (ga X F C) W (exs m ia)) (ts := fun _ _ _ => tS (ga X F C) W0 (exs m isu)) (Wout := W) hs hf ⟨hg, hdb, .inl gC⟩ tk hb (fun a oe cls d pn _ _ => hsu a _)) fun D σ H ⟨P0, H0, P, ρ, S, h⟩ => ?_
  unfold IS.ex at h
  refine ⟨P0, H0, P, ρ, S, ?_⟩
  cases e : exs m ia ρ with
  | ok ρ1 f =>
    rw [e] at h
    cases f <;> exact h
  | exc c' k ρ1 =>
    rw [e] at h
    unfold catchF at h
    intro P1 H1 σ1 cls d S1 xr
    have hc : cls = .ref (C c') := by cases k <;> exact xr.1
    dsimp only at h
    split at h
    · rename_i e1
      subst e1
      refine ⟨true, by rw [hc]; exact ex.yes, fun _ a ha => ⟨P0, H0, P1, ρ1, S1, h.noX⟩, fun z => Bool.noConfusion z⟩
    · split at h
      · rename_i ho
        exact ⟨false, by rw [hc]; exact ex.no _ ho, (fun z => Bool.noConfusion z), fun _ => h P1 H1 σ1 cls d S1 xr⟩
      · exact h.elim
  | bad => rw [e] at h; exact h.elim
theorem so_tryA {c i : Nat} {n : Str} {os : List Nat} {body suite : List Stmt} {b₀ : Stmt} {ia : List IS} {su : Su} (hs : X.stack = X.env :: X.outer) (hf : X.env.frame = some X.env.locals) (nd : X.N.Nodup) (hi : X.N[i]? = some n) (hln : X.env.kindOf n = some .local)
    (gC : X.mg x = some (.ref (C c))) (hg : Gl X x) (hdb : (x == ("__debug__" : Str)) = false) (ex : Ex X.K C c os) (tk : Takes X W)
    (hb : ∀ (W : WX) (pn : List (Addr × Obj)) (xe : Value → Shared → Prop), Takes (X.tr pn xe) W → PassesOwn (model X.prog X.w) X.A X.env xe → SOs F C (X.tr pn xe) W body (exs m ia))
    (hsu : ∀ (a : Addr) (oe : Obj) (cls : Value) (d : Option Addr) (pn : List (Addr × Obj)), Zc cls d oe → (∃ vs, oe.data = .fields vs) → PSs (X.suite a ((a, oe) :: pn)) (b₀ :: suite) (tSuA (ga X F C) c i su a cls d)) :
    SO F C X W (.Try body [.ExceptHandler (some (.Name x np)) (some n) (b₀ :: suite) pos2] [] [] pos) ((IS.try_ ia c os i su).ex m) := by
  refine PS.imp (ps_try_as (tb := fun W => tS (ga X F C) W (exs m ia)) (ts := tSuA (ga X F C) c i su) (Wout := W) hs hf nd hi hln ⟨hg, hdb, .inl gC⟩ tk hb hsu) fun D σ H ⟨P0, H0, P, ρ, S, h⟩ => ?_
  unfold IS.ex at h
  refine ⟨P0, H0, P, ρ, S, ?_⟩
  cases e : exs m ia ρ with
  | ok ρ1 f =>
    rw [e] at h
    cases f <;> exact h
  | exc c' k ρ1 =>
    rw [e] at h
    unfold catchF at h
    intro P1 H1 σ1 cls d S1 xr
    have hc : cls = .ref (C c') := by cases k <;> exact xr.1
    dsimp only at h
    split at h
    · rename_i e1
      subst e1
      refine ⟨true, by rw [hc]; exact ex.yes, fun _ a ha => ?_, fun z => Bool.noConfusion z⟩
      cases k with
      | none => exact h.elim
      | some k =>
        obtain ⟨_, dd, e2, e3⟩ := xr
        have S2 := S1.clear i
        have S3 : Sim (ga X F C) P0 H0 P1 H1 (σ1.set i (some (.ref a))) (ρ1.set i none) := by
          have := S2.any (i := i) (some (.ref a)) set_gone
          rw [List.set_set] at this
          exact this
        have h : WpS (ga X F C) W0 P0 H0 (if i < ρ1.length then suF su k (ρ1.set i none) else .bad) D := h.noX
        split at h
        · rename_i hl
          refine ⟨P0, H0, P1, ρ1.set i none, k, S3, set_gone, by rw [List.getElem?_set_self (by rw [S1.len]; exact hl)], hc, ⟨dd, e2, e3⟩, ?_⟩
          have key : ∀ ρ2 : SEnv, (∀ b, ρ2[i]? ≠ some (some b)) → ∀ P H σ, Sim (ga X F C) P0 H0 P H σ ρ2 → Sim (ga X F C) P0 H0 P H (σ.set i none) ρ2 := fun ρ2 n P H σ S => S.any none n
          cases su with
          | retAt => exact h
          | retAtEqC j => exact h
          | retAtEq j =>
            obtain ⟨z, q, h⟩ := eqAt_inv h
            show WpS _ _ _ _ (eqAtF _ _ _) _
            rw [q]
            exact h
          | addAt j =>
            obtain ⟨z, q, h⟩ := addAt_inv h
            show WpS _ _ _ _ (addAtF _ _ _ _) _
            rw [q]
            refine fun P H σ S => h P H _ (key _ (fun b q2 => ?_) P H σ S)
            by_cases hj : j = i
            · subst hj
              exact set_gone _ q
            · rw [List.getElem?_set_ne hj] at q2
              exact set_gone _ q2
          | ifAt j =>
            have h : WpS (ga X F C) W0 P0 H0 (if k = j then .ok (ρ1.set i none) .ct else .ok (ρ1.set i none) .nx) D := h
            show WpS (ga X F C) W0 P0 H0 (if k = j then .ok (ρ1.set i none) .ct else .ok (ρ1.set i none) .nx) _
            split
            · rename_i z
              rw [if_pos z] at h
              exact fun P H σ S => h P H _ (key _ set_gone P H σ S)
            · rename_i z
              rw [if_neg z] at h
              exact fun P H σ S => h P H _ (key _ set_gone P H σ S)
        · exact h.elim
    · split at h
      · rename_i ho
        exact ⟨false, by rw [hc]; exact ex.no _ ho, (fun z => Bool.noConfusion z), fun _ => h P1 H1 σ1 cls d S1 xr⟩
      · exact h.elim
  | bad => rw [e] at h; exact h.elim
/-! ### the suites -/
section
variable {c i : Nat} {n : Str} {a : Addr} {oe : Obj} {cls : Value} {d : Option Addr} {pn : List (Addr × Obj)} {p1 p2 p3 p4 : Pos}
theorem pe_at1 (T : AtTxt X.K X.mg x qn (C c) fI) (hz : Zc cls d oe) (hf : ∃ vs, oe.data = .fields vs) (hi : X.N[i]? = some n) (hln : X.env.kindOf n = some .local) (hd : (n == ("__debug__" : Str)) = false) (hcd : (n == ("__classdict__" : Str)) = false) (hb : attributeBase (.Name n p1) "at" X.env (eval (.Name n p1) X.env) = eval (.Name n p1) X.env) :
    PE (X.suite a ((a, oe) :: pn)) (.Attribute (.Name n p1) "at" p2) (tAtX (C c) a cls d (tVar i)) :=
  pe_atX T hz hf (pe_var (X := X.suite a ((a, oe) :: pn)) hi (.inl hln) hd hcd) hb
theorem su_retAt (T : AtTxt X.K X.mg x qn (C c) fI) (hz : Zc cls d oe) (hf : ∃ vs, oe.data = .fields vs) (hi : X.N[i]? = some n) (hln : X.env.kindOf n = some .local) (hd : (n == ("__debug__" : Str)) = false) (hcd : (n == ("__classdict__" : Str)) = false) (hb : attributeBase (.Name n p1) "at" X.env (eval (.Name n p1) X.env) = eval (.Name n p1) X.env) :
    PSs (X.suite a ((a, oe) :: pn)) [.Return (some (.Attribute (.Name n p1) "at" p2)) p3] (tSuA (ga X F C) c i .retAt a cls d) :=
  PSs.imp (pss_one (ps_ret (pe_at1 T hz hf hi hln hd hcd hb))) fun D σ H ⟨P0, H0, P, ρ, k, S, _, h1, h2, ⟨dd, h3, h4⟩, h⟩ => ⟨_, h1, rfl, h2, dd, _, h3, h4, h P H _ S.ext (.int k)⟩
theorem su_retAtEq {y : Str} {j : Nat} (T : AtTxt X.K X.mg x qn (C c) fI) (hz : Zc cls d oe) (hf : ∃ vs, oe.data = .fields vs) (hi : X.N[i]? = some n) (hln : X.env.kindOf n = some .local) (hd : (n == ("__debug__" : Str)) = false) (hcd : (n == ("__classdict__" : Str)) = false) (hb : attributeBase (.Name n p1) "at" X.env (eval (.Name n p1) X.env) = eval (.Name n p1) X.env)
    (hj : X.N[j]? = some y) (hv : Vis X.env.scope y) (hyd : (y == ("__debug__" : Str)) = false) (hyc : (y == ("__classdict__" : Str)) = false) :
    PSs (X.suite a ((a, oe) :: pn)) [.Return (some (.Compare (.Attribute (.Name n p1) "at" p2) [.Eq] [.Name y p4] pos)) p3] (tSuA (ga X F C) c i (.retAtEq j) a cls d) := by
  refine PSs.imp (pss_one (ps_ret (pe_cmpR op_eq (pe_at1 T hz hf hi hln hd hcd hb) (pe_var (X := X.suite a ((a, oe) :: pn)) hj hv hyd hyc) (marks_no rfl)))) fun D σ H ⟨P0, H0, P, ρ, k, S, _, h1, h2, ⟨dd, h3, h4⟩, h⟩ => ?_
  obtain ⟨z, e, h⟩ := eqAt_inv h
  obtain ⟨v, g1, g2⟩ := S.val j _ e
  cases g2
  refine ⟨_, h1, rfl, h2, dd, _, h3, h4, _, g1, rfl, ?_⟩
  have e2 : decide (V.int k = V.int z) = decide (k = z) := by
    by_cases q : k = z
    · subst q; simp
    · rw [decide_eq_false q, decide_eq_false fun e => q (by cases e; rfl)]
  rw [e2]
  exact h P H _ S.ext (.bl _)
theorem su_retAtEqC {z : Int} {kk : Nat} (T : AtTxt X.K X.mg x qn (C c) fI) (hz : Zc cls d oe) (hf : ∃ vs, oe.data = .fields vs) (hi : X.N[i]? = some n) (hln : X.env.kindOf n = some .local) (hd : (n == ("__debug__" : Str)) = false) (hcd : (n == ("__classdict__" : Str)) = false) (hb : attributeBase (.Name n p1) "at" X.env (eval (.Name n p1) X.env) = eval (.Name n p1) X.env) :
    PSs (X.suite a ((a, oe) :: pn)) [.Return (some (.Compare (.Attribute (.Name n p1) "at" p2) [.Eq] [.Constant (.int z) kk p4] pos)) p3] (tSuA (ga X F C) c i (.retAtEqC z) a cls d) := by
  refine PSs.imp (pss_one (ps_ret (pe_cmpR op_eq (pe_at1 T hz hf hi hln hd hcd hb) pe_int (marks_no rfl)))) fun D σ H ⟨P0, H0, P, ρ, k, S, _, h1, h2, ⟨dd, h3, h4⟩, h⟩ => ?_
  refine ⟨_, h1, rfl, h2, dd, _, h3, h4, rfl, ?_⟩
  have e2 : decide (V.int k = V.int z) = decide (k = z) := by
    by_cases q : k = z
    · subst q; simp
    · rw [decide_eq_false q, decide_eq_false fun e => q (by cases e; rfl)]
  rw [e2]
  exact h P H _ S.ext (.bl _)
theorem su_ifAt {z : Int} {kk : Nat} {p5 p6 : Pos} (T : AtTxt X.K X.mg x qn (C c) fI) (hz : Zc cls d oe) (hf : ∃ vs, oe.data = .fields vs) (hi : X.N[i]? = some n) (hln : X.env.kindOf n = some .local) (hd : (n == ("__debug__" : Str)) = false) (hcd : (n == ("__classdict__" : Str)) = false) (hb : attributeBase (.Name n p1) "at" X.env (eval (.Name n p1) X.env) = eval (.Name n p1) X.env) :
    PSs (X.suite a ((a, oe) :: pn)) [.If (.Compare (.Attribute (.Name n p1) "at" p2) [.Eq] [.Constant (.int z) kk p4] pos) [.Continue p5] [] p6] (tSuA (ga X F C) c i (.ifAt z) a cls d) := by
  refine PSs.imp (pss_one (ps_if (pt_cmpR op_eq (pe_at1 T hz hf hi hln hd hcd hb) pe_int (marks_no rfl)) (pss_one ps_continue) pss_nil)) fun D σ H ⟨P0, H0, P, ρ, k, S, _, h1, h2, ⟨dd, h3, h4⟩, h⟩ => ?_
  refine ⟨_, h1, rfl, h2, dd, _, h3, h4, rfl, decide (k = z), ?_, ?_⟩
  · show V.bl (decide (V.int k = V.int z)) = _
    by_cases q : k = z
    · subst q; simp
    · rw [decide_eq_false q, decide_eq_false fun e => q (by cases e; rfl)]
  · have h : WpS (ga X F C) W0 P0 H0 (if k = z then .ok ρ .ct else .ok ρ .nx) D := h
    by_cases q : k = z
    · rw [if_pos q] at h
      show if decide (k = z) = true then D.ct σ H else D.nx σ H
      rw [if_pos (decide_eq_true q)]
      exact h P H σ S
    · rw [if_neg q] at h
      show if decide (k = z) = true then D.ct σ H else D.nx σ H
      rw [if_neg (by simp [q])]
      exact h P H σ S
theorem su_addAt {y : Str} {j : Nat} {p5 p6 : Pos} (T : AtTxt X.K X.mg x qn (C c) fI) (hz : Zc cls d oe) (hf : ∃ vs, oe.data = .fields vs) (nd : X.N.Nodup) (hi : X.N[i]? = some n) (hln : X.env.kindOf n = some .local) (hd : (n == ("__debug__" : Str)) = false) (hcd : (n == ("__classdict__" : Str)) = false) (hb : attributeBase (.Name n p1) "at" X.env (eval (.Name n p1) X.env) = eval (.Name n p1) X.env)
    (hj : X.N[j]? = some y) (hv : Loc X.env.scope y) (hyf : X.fn y = true ∨ X.env.scope.names.lookup y = some .local) (hyd : (y == ("__debug__" : Str)) = false) (hyc : (y == ("__classdict__" : Str)) = false) :
    PSs (X.suite a ((a, oe) :: pn)) [.Assign [.Name y p4] (.BinOp (.Name y p5) .Add (.Attribute (.Name n p1) "at" p2) p6) p3] (tSuA (ga X F C) c i (.addAt j) a cls d) := by
  have vis : Vis X.env.scope y := by rcases hv with k | k; exact .inl k; exact .inr (.inl k)
  refine PSs.imp (pss_one (ps_set (X := X.suite a ((a, oe) :: pn)) nd hj hv (pe_op op_add (pe_var (X := X.suite a ((a, oe) :: pn)) hj vis hyd hyc) (pe_at1 T hz hf hi hln hd hcd hb)) rfl hyf)) fun D σ H ⟨P0, H0, P, ρ, k, S, _, h1, h2, ⟨dd, h3, h4⟩, h⟩ => ?_
  obtain ⟨z, e, h⟩ := addAt_inv h
  obtain ⟨v, g1, g2⟩ := S.val j _ e
  cases g2
  exact ⟨_, g1, _, h1, rfl, h2, dd, _, h3, h4, z, k, rfl, rfl, h P H _ (S.setV (.int _) j)⟩
end
end
end PF

end

section
set_option Elab.async false
set_option linter.all false
set_option maxRecDepth 100000
/-! PF14: own lists changed, pairs of names. -/
namespace PF
open PySem PySem.Spec PyProof.Rows L2
section
variable {F C : Nat → Addr} {X : Cx} {W : WX} {m : Nat → List D → R Bd} {pos p1 p2 p3 p4 : Pos}
theorem isOwn_inv {o : Option (Option Bd)} (h : isOwn o = true) : ∃ xs, o = some (some (.own xs)) := by
  unfold isOwn at h
  split at h
  · exact ⟨_, rfl⟩
  · cases h
theorem own_inv {Γ : Ga} {P0 H0 : Hp} {o : Option (Option Bd)} {r : SR} {D : Ends} (h : WpS Γ W P0 H0 (if isOwn o then r else .bad) D) : (∃ xs, o = some (some (.own xs))) ∧ WpS Γ W P0 H0 r D := by
  by_cases c : isOwn o = true
  · rw [if_pos c] at h
    exact ⟨isOwn_inv c, h⟩
  · rw [if_neg c] at h
    exact h.elim
theorem appS_inv {Γ : Ga} {P0 H0 : Hp} {ρ : SEnv} {i : Nat} {d : PF.D} {D : Ends} (h : WpS Γ W P0 H0 (appS i d ρ) D) : ∃ xs, ρ[i]? = some (some (.own xs)) ∧ xs.length < SZ ∧ WpS Γ W P0 H0 (.ok (ρ.set i (some (.own (xs ++ [d])))) .nx) D := by
  unfold appS at h
  split at h
  · rename_i xs e
    split at h
    · rename_i c
      exact ⟨_, e, c, h⟩
    · exact h.elim
  · exact h.elim
theorem extS_inv {Γ : Ga} {P0 H0 : Hp} {ρ : SEnv} {i : Nat} {d : PF.D} {D : Ends} (h : WpS Γ W P0 H0 (extS i d ρ) D) : ∃ xs ys, ρ[i]? = some (some (.own xs)) ∧ d = .lst ys ∧ xs.length + ys.length ≤ SZ ∧ WpS Γ W P0 H0 (.ok (ρ.set i (some (.own (xs ++ ys)))) .nx) D := by
  unfold extS at h
  split at h
  · rename_i xs ys e
    split at h
    · rename_i c
      exact ⟨_, _, e, rfl, c, h⟩
    · exact h.elim
  · exact h.elim
theorem ixsS_inv {Γ : Ga} {P0 H0 : Hp} {ρ : SEnv} {i : Nat} {k d : PF.D} {D : Ends} (h : WpS Γ W P0 H0 (ixsS i k d ρ) D) : ∃ xs j p, ρ[i]? = some (some (.own xs)) ∧ k = .int j ∧ ixN xs.length j = some p ∧ WpS Γ W P0 H0 (.ok (ρ.set i (some (.own (xs.set p d)))) .nx) D := by
  unfold ixsS at h
  split at h
  · rename_i xs j e
    split at h
    · rename_i p c
      exact ⟨_, _, _, e, rfl, c, h⟩
    · exact h.elim
  · exact h.elim
/-- o.name(e) of a built-in type -/
theorem pe_bm1 {T id : String} {name : Str} {o e : Expr} {to t : TE} {r : V → List V → Hp → VK → Prop} (pa : PlainAttrs T) (slot : Slot T name id) (hty : typeOf (.builtin id) = pure (.type "method_descriptor")) (hm : MtR X id r) (ho : PE X o to) (he : PE X e t) (hs : isStar e = false) (hc : isCall o = false) (hl : (p2.endLine == p3.line) = true) :
    PE X (.Call (.Attribute o name p2) [e] [] p3) (tBM X.K T r to (tCons t tNil)) :=
  pe_bm pa slot hty hm ho (pa_cons he pa_nil (star_cons hs)) (base_of hc) (by rw [star_cons hs]; rfl) hl (star_cons hs) rfl
theorem so_app {e : Expr} {ie : IE} {i : Nat} {x : Str} (he : EO F C X W e (ie.ev m)) (hi : X.N[i]? = some x) (hv : Vis X.env.scope x) (hd : (x == ("__debug__" : Str)) = false) (hcd : (x == ("__classdict__" : Str)) = false) (hl : (p2.endLine == p3.line) = true) :
    SO F C X W (.Expr (.Call (.Attribute (.Name x p1) "append" p2) [e] [] p3) pos) ((IS.app i ie).ex m) := by
  obtain ⟨⟨t, pe, ao, r⟩, hs⟩ := he
  refine PS.imp (ps_expr (pe_bm1 (p2 := p2) (p3 := p3) PySem.F.plainAttrs_list PySem.F.slot_list_append PySem.F.type_list_append mt_append (pe_var (pos := p1) hi hv hd hcd) pe hs rfl hl) (swaps_no rfl)) fun D σ H ⟨P0, H0, P, ρ, S, h⟩ => ?_
  unfold IS.ex at h
  obtain ⟨⟨xs, e1⟩, h⟩ := own_inv h
  obtain ⟨o, vs, h1, h2, h3, h4, h5⟩ := S.own i xs e1
  refine ⟨_, h1, .inl ⟨rfl, _, SqL.of h2⟩, ?_⟩
  refine S.run r h fun b ρ1 P1 H1 v S1 rb nw h1' => ?_
  obtain ⟨P2, S2, s2, rv⟩ := S1.freeze rb nw
  obtain ⟨ys, g1, g2, h1'⟩ := appS_inv h1'
  obtain ⟨o', ws, k1, k2, k3, k4, k5⟩ := S2.own i ys g1
  rw [h1] at k1
  cases k1
  exact ⟨_, _, _, rfl, rfl, k2, by rw [k5.length, ← SZ_eq]; exact g2, h1' _ _ _ (S2.rewr g1 h1 (k5.append (.cons rv .nil)))⟩
theorem so_ext {e : Expr} {ie : IE} {i : Nat} {x : Str} (he : EO F C X W e (ie.ev m)) (hi : X.N[i]? = some x) (hv : Vis X.env.scope x) (hd : (x == ("__debug__" : Str)) = false) (hcd : (x == ("__classdict__" : Str)) = false) (hl : (p2.endLine == p3.line) = true) :
    SO F C X W (.Expr (.Call (.Attribute (.Name x p1) "extend" p2) [e] [] p3) pos) ((IS.ext i ie).ex m) := by
  obtain ⟨⟨t, pe, ao, r⟩, hs⟩ := he
  refine PS.imp (ps_expr (pe_bm1 (p2 := p2) (p3 := p3) PySem.F.plainAttrs_list PySem.F.slot_list_extend PySem.F.type_list_extend mt_extend (pe_var (pos := p1) hi hv hd hcd) pe hs rfl hl) (swaps_no rfl)) fun D σ H ⟨P0, H0, P, ρ, S, h⟩ => ?_
  unfold IS.ex at h
  obtain ⟨⟨xs, e1⟩, h⟩ := own_inv h
  obtain ⟨o, vs, h1, h2, h3, h4, h5⟩ := S.own i xs e1
  refine ⟨_, h1, .inl ⟨rfl, _, SqL.of h2⟩, ?_⟩
  refine S.run r h fun b ρ1 P1 H1 v S1 rb nw h1' => ?_
  obtain ⟨P2, S2, s2, rv⟩ := S1.freeze rb nw
  obtain ⟨ys, zs, g1, g3, g2, h1'⟩ := extS_inv h1'
  obtain ⟨o', ws, k1, k2, k3, k4, k5⟩ := S2.own i ys g1
  rw [h1] at k1
  cases k1
  rw [g3] at rv
  cases rv with
  | lst q1 q2 =>
    exact ⟨_, _, _, _, rfl, rfl, k2, S2.ext.sub _ _ q1, by rw [k5.length, q2.length, ← SZ_eq]; exact g2, h1' _ _ _ (S2.rewr g1 h1 (k5.append q2))⟩
theorem so_ixs {e k : Expr} {ie ik : IE} {i : Nat} {x : Str} (he : EO F C X W e (ie.ev m)) (hk : EO F C X W k (ik.ev m)) (hi : X.N[i]? = some x) (hv : Vis X.env.scope x) (hd : (x == ("__debug__" : Str)) = false) (hcd : (x == ("__classdict__" : Str)) = false)
    (hs : swapsWithSole [.Subscript (.Name x p1) k p2] e pos.line X.env = pure false) (hw : swappedStores [.Subscript (.Name x p1) k p2] e X.env = pure none)
    (ha : ∀ v, assign (.Subscript (.Name x p1) k p2) X.env v = (do
      let ov ← holding [v] (eval (.Name x p1) X.env)
      let iv ← holding [v, ov] (eval k X.env)
      standAt p2
      holding [v, ov, iv] (setItem ov iv v)
      release [v, ov, iv] [])) : SO F C X W (.Assign [.Subscript (.Name x p1) k p2] e pos) ((IS.ixs i ik ie).ex m) := by
  obtain ⟨⟨t, pe, ao, r⟩, _⟩ := he
  obtain ⟨⟨u, pk, _, rk⟩, _⟩ := hk
  refine PS.imp (ps_asg pe (pg_sub (pe_var hi hv hd hcd) pk set_list ha) hs hw rfl) fun D σ H ⟨P0, H0, P, ρ, S, h⟩ => ?_
  unfold IS.ex at h
  refine S.run r h fun b ρ1 P1 H1 v S1 rb nw h1 => ?_
  obtain ⟨P2, S2, s2, rv⟩ := S1.freeze rb nw
  obtain ⟨⟨xs, e1⟩, h1⟩ := own_inv h1
  obtain ⟨o, vs, g1, g2, _⟩ := S2.own i xs e1
  refine ⟨_, g1, ?_⟩
  obtain ⟨x2, w2⟩ : True ∧ True := ⟨trivial, trivial⟩
  have S3 := S2.rebase
  have h2 := WpS.rebase S2.ext h1
  refine S3.run rk h2 fun kb ρ2 P3 H3 w S4 rk nk h3 => ?_
  obtain ⟨ys, j, p, k1, k2, k3, h3⟩ := ixsS_inv h3
  obtain ⟨P4, S5, s5, rw'⟩ := S4.freeze rk nk
  obtain ⟨o', ws, l1, l2, l3, l4, l5⟩ := S5.own i ys k1
  rw [g1] at l1
  cases l1
  rw [k2] at rw'
  cases rw'
  exact ⟨_, _, _, _, rfl, rfl, l2, by rw [l5.length]; exact k3, h3 _ _ _ (S5.rewr k1 g1 (l5.set ((rv.mono S4.ext.grow).mono s5) p))⟩
theorem so_augA {e : Expr} {ie : IE} {i : Nat} {x : Str} (nd : X.N.Nodup) (he : EO F C X W e (ie.ev m)) (hi : X.N[i]? = some x) (hx : Loc X.env.scope x) (hf : X.fn x = true ∨ X.env.scope.names.lookup x = some .local) :
    SO F C X W (.AugAssign (.Name x p1) .Add e pos) ((IS.aug i .add ie).ex m) := by
  obtain ⟨⟨t, pe, ao, r⟩, _⟩ := he
  refine PS.imp (ps_aug nd hi hx pe ip_add hf) fun D σ H ⟨P0, H0, P, ρ, S, h⟩ => ?_
  unfold IS.ex at h
  split at h
  · rename_i z e1
    obtain ⟨v, h1, h2⟩ := S.val i _ e1
    cases h2
    refine ⟨_, h1, ?_⟩
    refine S.run r h fun b ρ1 P1 H1 w S1 rb nw h1 => ?_
    cases b with
    | own xs => exact h1.elim
    | val d =>
      cases d with
      | int y => cases rb; exact ⟨_, _, rfl, rfl, h1 _ _ _ (S1.setV (.int _) i)⟩
      | _ => exact h1.elim
  · exact h.elim
theorem so_augS {e : Expr} {ie : IE} {i : Nat} {x : Str} (nd : X.N.Nodup) (he : EO F C X W e (ie.ev m)) (hi : X.N[i]? = some x) (hx : Loc X.env.scope x) (hf : X.fn x = true ∨ X.env.scope.names.lookup x = some .local) :
    SO F C X W (.AugAssign (.Name x p1) .Sub e pos) ((IS.aug i .sub ie).ex m) := by
  obtain ⟨⟨t, pe, ao, r⟩, _⟩ := he
  refine PS.imp (ps_aug nd hi hx pe ip_sub hf) fun D σ H ⟨P0, H0, P, ρ, S, h⟩ => ?_
  unfold IS.ex at h
  split at h
  · rename_i z e1
    obtain ⟨v, h1, h2⟩ := S.val i _ e1
    cases h2
    refine ⟨_, h1, ?_⟩
    refine S.run r h fun b ρ1 P1 H1 w S1 rb nw h1 => ?_
    cases b with
    | own xs => exact h1.elim
    | val d =>
      cases d with
      | int y => cases rb; exact ⟨_, _, rfl, rfl, h1 _ _ _ (S1.setV (.int _) i)⟩
      | _ => exact h1.elim
  · exact h.elim
/-- a, b = e, f -/
theorem so_par {a b : Expr} {ia ib : IE} {i j : Nat} {x y : Str} {kt k2 : Nat} {px py pt pt2 : Pos} (nd : X.N.Nodup) (hc : X.calm = true) (hi : X.N[i]? = some x) (hj : X.N[j]? = some y) (hij : i ≠ j) (hx : X.env.scope.names.lookup x = some .local) (hy : X.env.scope.names.lookup y = some .local)
    (ha : EO F C X W a (ia.ev m)) (hb : EO F C X W b (ib.ev m)) (hw : swappedStores [.Tuple [.Name x px, .Name y py] (kt : Nat) pt] (.Tuple [a, b] k2 pt2) X.env = pure (some [x, y]))
    (hs : swapsWithSole [.Tuple [.Name x px, .Name y py] kt pt] (.Tuple [a, b] k2 pt2) pos.line X.env = pure false) :
    SO F C X W (.Assign [.Tuple [.Name x px, .Name y py] kt pt] (.Tuple [a, b] k2 pt2) pos) ((IS.par i j ia ib).ex m) := by
  obtain ⟨⟨t, pa, _, ra⟩, hsa⟩ := ha
  obtain ⟨⟨u, pb, _, rb⟩, hsb⟩ := hb
  refine PS.imp (ps_par hc nd hi hj hij hx hy (pa_cons pa (pa_cons pb pa_nil (star_cons hsb)) (star_cons hsa)) hw hs) fun D σ H ⟨P0, H0, P, ρ, S, h⟩ => ?_
  unfold IS.ex at h
  obtain ⟨s1, s2, se⟩ := S.frz (fun k => ia.ment k || ib.ment k)
  generalize hM : (fun k => ia.ment k || ib.ment k) = M at h s1 s2 se
  show t σ H _
  -- the first
  refine ra _ H σ _ _ s2 se ?_
  cases e1 : ia.ev m (mask M 0 ρ) with
  | bad => rw [e1] at h; exact h.elim
  | exc c k => rw [e1] at h; exact fun P1 H1 cls d x1 xr => h _ H1 σ cls d (S.kept x1) xr
  | ok b1 =>
    rw [e1] at h
    intro P1 H1 v x1 rv1
    obtain ⟨P2, x2, q2, rv⟩ := rv1.freeze x1
    show u σ H1 _
    refine rb P2 H1 σ _ _ x2.sub (se.mono x2.grow) ?_
    cases e2 : ib.ev m (mask M 0 ρ) with
    | bad => rw [e2] at h; exact h.elim
    | exc c k => rw [e2] at h; exact fun P3 H3 cls d x3 xr => h _ H3 σ cls d (S.kept (x2.trans x3)) xr
    | ok b2 =>
      rw [e2] at h
      intro P3 H3 w x3 rw3
      obtain ⟨P4, x4, q4, rw'⟩ := rw3.freeze x3
      have x5 := x2.trans x4
      have rv := rv.mono x4.grow
      refine ⟨v, w, rfl, ?_⟩
      have h : WpS (ga X F C) W P0 H0 (.ok (((after M (.val (.tup [b1.d, b2.d])) ρ).set i (some (.val b1.d))).set j (some (.val b2.d))) .nx) D := h
      unfold after at h
      by_cases c : nolB (.val (.tup [b1.d, b2.d])) = true
      · rw [if_pos c] at h
        have c2 : nol b1.d = true ∧ nol b2.d = true := by
          have c : (nol b1.d && (nol b2.d && true)) = true := c
          simp only [Bool.and_eq_true] at c
          exact ⟨c.1, c.2.1⟩
        have t1 := S.thawB (b := .val b1.d) (v := v) x5 c2.1 rv
        have t2 := S.thawB (b := .val b2.d) (v := w) x5 c2.2 rw'
        exact h _ H3 _ (((S.kept x5).setV t1 i).setV t2 j)
      · rw [if_neg c] at h
        exact h _ H3 _ (((S.lost x5).setV rv i).setV rw' j)
end
end PF

end

section
set_option Elab.async false
set_option linter.all false
set_option maxRecDepth 100000
/-! PF15: the rules by the intermediate language; checks by the kernel. -/
namespace PF
open PySem PySem.Spec PyProof.Rows L2
open PySem.W PySem.Calls
/-! ### checks -/
def visK (sc : Scope) (x : Str) : Bool := match sc.names.lookup x with
  | some .local => true
  | some .cell => true
  | some .free => true
  | _ => false
def vOk (N : List Str) (sc : Scope) (i : Nat) (x : Str) : Bool := decide (N[i]? = some x) && visK sc x && !(x == ("__debug__" : Str)) && !(x == ("__classdict__" : Str))
def tOk (N : List Str) (sc : Scope) (fc : Str → Bool) (i : Nat) (x : Str) : Bool := decide (N[i]? = some x) && (match sc.names.lookup x with
  | some .local => true
  | some .cell => fc x
  | _ => false)
def gOk (sc : Scope) (x : Str) : Bool := decide (sc.names.lookup x = some .globalImplicit) && !(x == ("__debug__" : Str))
structure Tb where
  tab : Nat → Option (Str × Nat)
  gl : List (Str × D)
  bn : List Str
  ats : List (Str × Nat)
  zs : List (Str × Nat)
  cs : List Nat
  gcd : Bool
def CalG (Γ : Ga) (n j : Nat) (nm : Str) (ar : Nat) (g : List D → R Bd) : Prop :=
  ∃ fd ps, ps.length = ar ∧ FnOk Γ.P Γ.w Γ.K Γ.mg Γ.base (L2.CX Γ.P Γ.w) n (Γ.F j) fd ps (spD Γ ar g) ∧ Γ.mg nm = some (.ref (Γ.F j)) ∧ keepIn Γ.K (.ref (Γ.F j)) = true ∧ Binds Γ.K fd ps []
/-- what the written part says -/
structure Wd (Γ : Ga) (T : Tb) : Prop where
  gl : ∀ (k : Nat) (x : Str) (d : D), T.gl[k]? = some (x, d) → ∃ v u, Γ.mg x = some u ∧ RelV v u ∧ ∀ H, Rep Γ H v d
  bn : ∀ x, T.bn.contains x = true → Γ.mg x = none
  ats : ∀ x c, T.ats.lookup x = some c → ∃ qn fI, AtTxt Γ.K Γ.mg x qn (Γ.C c) fI
  zs : ∀ x c, T.zs.lookup x = some c → Γ.mg x = some (.ref (Γ.C c)) ∧ excIn Γ.K (Γ.C c) eTail "Exception.__new__" = true ∧ keepIn Γ.K (.ref (Γ.C c)) = true ∧ subIn Γ.K (.ref (Γ.C c)) (.type "BaseException") = some true ∧ typeIn Γ.K (.ref (Γ.C c)) = some (.type "type")
  ex : ∀ c o, T.cs.contains c = true → T.cs.contains o = true → exmOne Γ.K (.ref (Γ.C o)) (.ref (Γ.C c)) = some (decide (o = c))
  gcd : T.gcd = true → Γ.mg "gcd" = some (.builtin "math.gcd")
structure Bw (Γ : Ga) (T : Tb) (N : List Str) (sc : Scope) (fc : Str → Bool) (X : Cx) : Prop where
  g : ga X Γ.F Γ.C = Γ
  wd : Wd Γ T
  hN : X.N = N
  sc : X.env.scope = sc
  nd : N.Nodup
  hu : X.A.units + 64 < cLine
  fn : ∀ x, fc x = true → X.fn x = true
structure Bx (Γ : Ga) (T : Tb) (m : Nat → List D → R Bd) (n : Nat) (N : List Str) (sc : Scope) (fc : Str → Bool) (X : Cx) (W : WX) : Prop extends Bw Γ T N sc fc X where
  cal : ∀ j nm ar, T.tab j = some (nm, ar) → CalG Γ n j nm ar (m j)
  calm : X.calm = true
  room : Room n X.A
  tk : Takes X W
structure Sx (Γ : Ga) (T : Tb) (m : Nat → List D → R Bd) (n : Nat) (N : List Str) (sc : Scope) (fc : Str → Bool) (X : Cx) (W : WX) : Prop extends Bx Γ T m n N sc fc X W where
  pw : PassesOwn (model X.prog X.w) X.A X.env X.xe
  st : X.stack = X.env :: X.outer
  fr : X.env.frame = some X.env.locals
section
variable {Γ : Ga} {T : Tb} {m : Nat → List D → R Bd} {n : Nat} {N : List Str} {sc : Scope} {fc : Str → Bool} {X : Cx} {W : WX}
theorem Bw.nd' (B : Bw Γ T N sc fc X) : X.N.Nodup := by rw [B.hN]; exact B.nd
theorem Bw.mg (B : Bw Γ T N sc fc X) : X.mg = Γ.mg := congrArg Ga.mg B.g
theorem Bw.K (B : Bw Γ T N sc fc X) : X.K = Γ.K := congrArg Ga.K B.g
theorem Bw.none (B : Bw Γ T N sc fc X) {x : Str} (h : T.bn.contains x = true) : X.mg x = Option.none := by rw [B.mg]; exact B.wd.bn x h
theorem Bw.var (B : Bw Γ T N sc fc X) {i : Nat} {x : Str} (h : vOk N sc i x = true) : X.N[i]? = some x ∧ Vis X.env.scope x ∧ (x == ("__debug__" : Str)) = false ∧ (x == ("__classdict__" : Str)) = false := by
  unfold vOk at h
  simp only [Bool.and_eq_true, Bool.not_eq_true', decide_eq_true_eq] at h
  obtain ⟨⟨⟨h1, h2⟩, h3⟩, h4⟩ := h
  refine ⟨by rw [B.hN]; exact h1, ?_, h3, h4⟩
  rw [B.sc]
  unfold visK at h2
  split at h2
  · rename_i e; exact .inl e
  · rename_i e; exact .inr (.inl e)
  · rename_i e; exact .inr (.inr e)
  · cases h2
theorem Bw.tgt (B : Bw Γ T N sc fc X) {i : Nat} {x : Str} (h : tOk N sc fc i x = true) : X.N[i]? = some x ∧ Loc X.env.scope x ∧ (X.fn x = true ∨ X.env.scope.names.lookup x = some .local) := by
  unfold tOk at h
  simp only [Bool.and_eq_true, decide_eq_true_eq] at h
  obtain ⟨h1, h2⟩ := h
  refine ⟨by rw [B.hN]; exact h1, ?_⟩
  rw [B.sc]
  split at h2
  · rename_i e; exact ⟨.inl e, .inr e⟩
  · rename_i e; exact ⟨.inr e, .inl (B.fn x h2)⟩
  · cases h2
theorem Bw.glo (B : Bw Γ T N sc fc X) {x : Str} (h : gOk sc x = true) : Gl X x ∧ (x == ("__debug__" : Str)) = false := by
  unfold gOk at h
  simp only [Bool.and_eq_true, decide_eq_true_eq, Bool.not_eq_true'] at h
  refine ⟨?_, h.2⟩
  show X.env.scope.names.lookup x = _
  rw [B.sc]
  exact h.1
abbrev EI (Γ : Ga) (m : Nat → List D → R Bd) (X : Cx) (W : WX) (e : Expr) (i : IE) : Prop := EO Γ.F Γ.C X W e (i.ev m)
abbrev TI' (Γ : Ga) (m : Nat → List D → R Bd) (X : Cx) (W : WX) (e : Expr) (i : IE) : Prop := TO Γ.F Γ.C X W e (i.te m)
abbrev AI (Γ : Ga) (m : Nat → List D → R Bd) (X : Cx) (W : WX) (es : List Expr) (is : List IE) : Prop := AO Γ.F Γ.C X W es (evs m is)
abbrev SI (Γ : Ga) (m : Nat → List D → R Bd) (X : Cx) (W : WX) (s : Stmt) (i : IS) : Prop := SO Γ.F Γ.C X W s (i.ex m)
abbrev SsI (Γ : Ga) (m : Nat → List D → R Bd) (X : Cx) (W : WX) (s : List Stmt) (i : List IS) : Prop := SOs Γ.F Γ.C X W s (exs m i)
abbrev II (Γ : Ga) (m : Nat → List D → R Bd) (X : Cx) (W : WX) (tg e : Expr) (i : IIt) : Prop := IO Γ.F Γ.C X W tg e (i.ev m)
abbrev IR (Γ : Ga) (m : Nat → List D → R Bd) (X : Cx) (W : WX) (tg e : Expr) (i : IIt) : Prop := IOR Γ.F Γ.C X W tg e (i.ev m)
variable {a b c e : Expr} {ia ib ic ie : IE} {pos p p2 p3 : Pos} {k : Nat}
/-! ### leaves -/
theorem e_var (B : Bw Γ T N sc fc X) {i : Nat} {x : Str} (h : vOk N sc i x = true) : EI Γ m X W (.Name x pos) (.var i) := by
  obtain ⟨h1, h2, h3, h4⟩ := B.var h
  exact eo_var B.nd' h1 h2 h3 h4
theorem e_int (B : Bw Γ T N sc fc X) {i : Int} : EI Γ m X W (.Constant (.int i) k pos) (.con (.int i)) := eo_int B.nd'
theorem e_str (B : Bw Γ T N sc fc X) {i : Str} : EI Γ m X W (.Constant (.str i) k pos) (.con (.str i)) := eo_str B.nd'
theorem e_bl (B : Bw Γ T N sc fc X) {i : Bool} : EI Γ m X W (.Constant (.bool i) k pos) (.con (.bl i)) := eo_bl B.nd'
theorem e_non (B : Bw Γ T N sc fc X) : EI Γ m X W (.Constant .none k pos) (.con .non) := eo_non B.nd'
theorem e_glb (B : Bw Γ T N sc fc X) {x : Str} {y : String} {d : D} (i : Nat) (h : T.gl[i]? = some (x, d)) (hg : gOk sc x = true) : EI Γ m X W (.Name x pos) (.glb y d) := by
  obtain ⟨h1, h2⟩ := B.glo hg
  obtain ⟨v, u, h3, h4, h5⟩ := B.wd.gl i x d h
  exact eo_glob B.nd' h1 (by rw [B.mg]; exact h3) h4 (fun H => by rw [B.g]; exact h5 H) h2
theorem e_fnv (B : Bx Γ T m n N sc fc X W) {x : Str} {j ar : Nat} (h : T.tab j = some (x, ar)) (hg : gOk sc x = true) : EI Γ m X W (.Name x pos) (.fnv j) := by
  obtain ⟨h1, h2⟩ := B.glo hg
  obtain ⟨fd, ps, _, _, h3, _⟩ := B.cal j x ar h
  exact eo_glob B.nd' h1 (by rw [B.mg]; exact h3) (show RelV (.ref (Γ.F j)) (.ref (Γ.F j)) from rfl) (fun H => by rw [B.g]; exact .fn j) h2
/-! ### operations -/
theorem e_add (B : Bw Γ T N sc fc X) (ha : EI Γ m X W a ia) (hb : EI Γ m X W b ib) : EI Γ m X W (.BinOp a .Add b pos) (.bin .add ia ib) := eo_bin B.nd' add_ok ha hb
theorem e_sub (B : Bw Γ T N sc fc X) (ha : EI Γ m X W a ia) (hb : EI Γ m X W b ib) : EI Γ m X W (.BinOp a .Sub b pos) (.bin .sub ia ib) := eo_bin B.nd' sub_ok ha hb
theorem e_mul (B : Bw Γ T N sc fc X) (ha : EI Γ m X W a ia) (hb : EI Γ m X W b ib) : EI Γ m X W (.BinOp a .Mult b pos) (.bin .mul ia ib) := eo_bin B.nd' mul_ok ha hb
theorem e_fdiv (B : Bw Γ T N sc fc X) (ha : EI Γ m X W a ia) (hb : EI Γ m X W b ib) : EI Γ m X W (.BinOp a .FloorDiv b pos) (.bin .fdiv ia ib) := eo_bin B.nd' fdiv_ok ha hb
theorem e_mod (B : Bw Γ T N sc fc X) (ha : EI Γ m X W a ia) (hb : EI Γ m X W b ib) : EI Γ m X W (.BinOp a .Mod b pos) (.bin .mod ia ib) := eo_bin B.nd' mod_ok ha hb
theorem e_pow (B : Bw Γ T N sc fc X) (ha : EI Γ m X W a ia) (hb : EI Γ m X W b ib) : EI Γ m X W (.BinOp a .Pow b pos) (.bin .pow ia ib) := eo_bin B.nd' pow_ok ha hb
theorem e_cmp (o : Cop) (B : Bw Γ T N sc fc X) (hs : isSet b = false) (ha : EI Γ m X W a ia) (hb : EI Γ m X W b ib) : EI Γ m X W (.Compare a [cop o] [b] pos) (.cmp o ia ib) := eo_cmp B.nd' B.hu hs ha hb
theorem e_chain (o1 o2 : Cop) (B : Bw Γ T N sc fc X) (hs : isSet c = false) (ha : EI Γ m X W a ia) (hb : EI Γ m X W b ib) (hc : EI Γ m X W c ic) : EI Γ m X W (.Compare a [cop o1, cop o2] [b, c] pos) (.chain o1 o2 ia ib ic) := eo_chain B.nd' B.hu hs ha hb hc
theorem e_neg (B : Bw Γ T N sc fc X) (ha : EI Γ m X W a ia) : EI Γ m X W (.UnaryOp .USub a pos) (.neg ia) := eo_neg B.nd' ha
theorem e_not (B : Bw Γ T N sc fc X) (ha : EI Γ m X W a ia) : EI Γ m X W (.UnaryOp .Not a pos) (.not ia) := eo_not B.nd' ha
theorem e_and (B : Bw Γ T N sc fc X) {r : List Expr} (ha : EI Γ m X W a ia) (hb : EI Γ m X W (.BoolOp .And (b :: r) pos) ib) : EI Γ m X W (.BoolOp .And (a :: b :: r) pos) (.and ia ib) := eo_and B.nd' ha hb
theorem e_or (B : Bw Γ T N sc fc X) {r : List Expr} (ha : EI Γ m X W a ia) (hb : EI Γ m X W (.BoolOp .Or (b :: r) pos) ib) : EI Γ m X W (.BoolOp .Or (a :: b :: r) pos) (.or ia ib) := eo_or B.nd' ha hb
theorem e_one (B : Bw Γ T N sc fc X) {op : BoolOp} (ha : EI Γ m X W a ia) : EI Γ m X W (.BoolOp op [a] pos) (.one ia) := eo_one B.nd' ha
theorem e_ife (B : Bw Γ T N sc fc X) (hc : TI' Γ m X W c ic) (ha : EI Γ m X W a ia) (hb : EI Γ m X W b ib) : EI Γ m X W (.IfExp c a b pos) (.ife ic ia ib) := eo_ife B.nd' hc ha hb
variable {es : List Expr} {is : List IE}
theorem a_nil : AI Γ m X W [] [] := ao_nil
theorem a_cons (ha : EI Γ m X W a ia) (hr : AI Γ m X W es is) : AI Γ m X W (a :: es) (ia :: is) := ao_cons ha hr
theorem e_tup (B : Bw Γ T N sc fc X) (h : AI Γ m X W es is) : EI Γ m X W (.Tuple es k pos) (.tup is) := eo_tup B.nd' h
theorem e_lst (B : Bw Γ T N sc fc X) (h : AI Γ m X W es is) : EI Γ m X W (.List es pos) (.lst is) := eo_lst B.nd' h
theorem e_ix (B : Bw Γ T N sc fc X) (hs : isSlice b = false) (ha : EI Γ m X W a ia) (hb : EI Γ m X W b ib) : EI Γ m X W (.Subscript a b pos) (.ix ia ib) := eo_ix B.nd' hs ha hb
abbrev PI' (Γ : Ga) (m : Nat → List D → R Bd) (X : Cx) (W : WX) (e : Option Expr) (i : Option IE) : Prop := PartO Γ.F Γ.C X W e (evo m i)
theorem q_none : PI' Γ m X W none none := part_none
theorem q_some (ha : EI Γ m X W a ia) : PI' Γ m X W (some a) (some ia) := part_some ha
theorem e_sl (B : Bw Γ T N sc fc X) {lo hi : Option Expr} {il ih : Option IE} (ha : EI Γ m X W a ia) (hl : PI' Γ m X W lo il) (hh : PI' Γ m X W hi ih) : EI Γ m X W (.Subscript a (.Slice lo hi none p2) pos) (.sl ia il ih) := eo_sl B.nd' ha hl hh
theorem e_rev (B : Bw Γ T N sc fc X) {p1 p4 : Pos} (ha : EI Γ m X W a ia) : EI Γ m X W (.Subscript a (.Slice none none (some (.UnaryOp .USub (.Constant (.int 1) k p1) p2)) p3) pos) (.rev ia) := eo_rev B.nd' ha
/-! ### calls -/
theorem evs_len : ∀ {is : List IE} {η : Env} {ds : List D}, evs m is η = .ok ds → ds.length = is.length
  | [], _, _, h => by cases h; rfl
  | e :: r, η, ds, h => by
    have h : ((e.ev m η).bind fun b => (evs m r η).bind fun ds => .ok (b.d :: ds)) = .ok ds := h
    cases h1 : e.ev m η with
    | ok b =>
      rw [h1] at h
      cases h2 : evs m r η with
      | ok es =>
        have h : ((evs m r η).bind fun ds => R.ok (b.d :: ds)) = .ok ds := h
        rw [h2] at h
        cases h
        rw [List.length_cons, List.length_cons, evs_len h2]
      | exc c k =>
        have h : ((evs m r η).bind fun ds => R.ok (b.d :: ds)) = .ok ds := h
        rw [h2] at h
        cases h
      | bad =>
        have h : ((evs m r η).bind fun ds => R.ok (b.d :: ds)) = .ok ds := h
        rw [h2] at h
        cases h
    | exc c k => rw [h1] at h; cases h
    | bad => rw [h1] at h; cases h
theorem AO.len {F C : Nat → Addr} : ∀ {es : List Expr} {f : Env → R (List D)}, AO F C X W es f → True := fun _ => trivial
theorem e_call (B : Bx Γ T m n N sc fc X W) {j ar : Nat} {nm : Str} (h : T.tab j = some (nm, ar)) (hg : gOk sc nm = true) (h1 : (e :: es).length = ar) (h2 : is.length = ar) (ha : AI Γ m X W (e :: es) is) : EI Γ m X W (.Call (.Name nm p) (e :: es) [] pos) (.call j is) := by
  obtain ⟨g1, g2⟩ := B.glo hg
  have hc : CalOk Γ.F Γ.C X n j nm ar (m j) := by
    have q := B.cal j nm ar h
    rw [← B.g] at q
    exact q
  exact eo_call B.nd' hc B.room B.tk g1 g2 h1 ha fun η ds e => (evs_len e).trans h2
/-- a table's defs, and nothing else -/
theorem e_callv (B : Bx Γ T m n N sc fc X W) {i : Nat} {x : Str} (h : vOk N sc i x = true) (ha : AI Γ m X W (e :: es) is) (hm : ∀ j ds, (∀ nm, T.tab j ≠ some (nm, ds.length)) → m j ds = .bad) : EI Γ m X W (.Call (.Name x p) (e :: es) [] pos) (.callv i is) := by
  obtain ⟨h1, h2, h3, h4⟩ := B.var h
  refine eo_callv (ar := 0) (T := T.tab) B.nd' (g := m) (fun j nm ar q => ?_) B.room B.tk h1 h2 h3 h4 ha hm
  have q := B.cal j nm ar q
  rw [← B.g] at q
  exact q
/-! ### built-ins -/
theorem e_len (B : Bw Γ T N sc fc X) (hb : T.bn.contains "len" = true) (hg : gOk sc "len" = true) (ha : AI Γ m X W (e :: es) is) : EI Γ m X W (.Call (.Name "len" p) (e :: es) [] pos) (.blt .len is) := eo_bltF B.nd' b_len (B.glo hg).1 (B.none hb) (by kernel_rfl) (by decide) (by decide) ha
theorem e_abs (B : Bw Γ T N sc fc X) (hb : T.bn.contains "abs" = true) (hg : gOk sc "abs" = true) (ha : AI Γ m X W (e :: es) is) : EI Γ m X W (.Call (.Name "abs" p) (e :: es) [] pos) (.blt .abs is) := eo_bltF B.nd' b_abs (B.glo hg).1 (B.none hb) (by kernel_rfl) (by decide) (by decide) ha
theorem e_bint (B : Bw Γ T N sc fc X) (hb : T.bn.contains "int" = true) (hg : gOk sc "int" = true) (ha : AI Γ m X W (e :: es) is) : EI Γ m X W (.Call (.Name "int" p) (e :: es) [] pos) (.blt .int is) := eo_bltT B.nd' b_int (B.glo hg).1 (B.none hb) (by kernel_rfl) (by decide) (by decide) ha
theorem e_tuple (B : Bw Γ T N sc fc X) (hb : T.bn.contains "tuple" = true) (hg : gOk sc "tuple" = true) (ha : AI Γ m X W (e :: es) is) : EI Γ m X W (.Call (.Name "tuple" p) (e :: es) [] pos) (.blt .tuple is) := eo_bltT B.nd' b_tuple (B.glo hg).1 (B.none hb) (by kernel_rfl) (by decide) (by decide) ha
theorem e_list (B : Bw Γ T N sc fc X) (hb : T.bn.contains "list" = true) (hg : gOk sc "list" = true) (ha : AI Γ m X W (e :: es) is) : EI Γ m X W (.Call (.Name "list" p) (e :: es) [] pos) (.blt .list is) := eo_bltT B.nd' b_list (B.glo hg).1 (B.none hb) (by kernel_rfl) (by decide) (by decide) ha
theorem e_bstr (B : Bw Γ T N sc fc X) (hb : T.bn.contains "str" = true) (hg : gOk sc "str" = true) (ha : AI Γ m X W (e :: es) is) : EI Γ m X W (.Call (.Name "str" p) (e :: es) [] pos) (.blt .str is) := eo_bltT B.nd' b_str (B.glo hg).1 (B.none hb) (by kernel_rfl) (by decide) (by decide) ha
theorem e_all (B : Bx Γ T m n N sc fc X W) (hb : T.bn.contains "all" = true) (hg : gOk sc "all" = true) (ha : AI Γ m X W (e :: es) is) : EI Γ m X W (.Call (.Name "all" p) (e :: es) [] pos) (.blt .all is) := eo_bltF B.nd' (b_all B.calm) (B.glo hg).1 (B.none hb) (by kernel_rfl) (by decide) (by decide) ha
theorem e_any (B : Bx Γ T m n N sc fc X W) (hb : T.bn.contains "any" = true) (hg : gOk sc "any" = true) (ha : AI Γ m X W (e :: es) is) : EI Γ m X W (.Call (.Name "any" p) (e :: es) [] pos) (.blt .any is) := eo_bltF B.nd' (b_any B.calm) (B.glo hg).1 (B.none hb) (by kernel_rfl) (by decide) (by decide) ha
theorem e_sum (B : Bx Γ T m n N sc fc X W) (hb : T.bn.contains "sum" = true) (hg : gOk sc "sum" = true) (ha : AI Γ m X W (e :: es) is) : EI Γ m X W (.Call (.Name "sum" p) (e :: es) [] pos) (.blt .sum is) := eo_bltF B.nd' (b_sum B.calm) (B.glo hg).1 (B.none hb) (by kernel_rfl) (by decide) (by decide) ha
theorem e_max1 (B : Bx Γ T m n N sc fc X W) (hb : T.bn.contains "max" = true) (hg : gOk sc "max" = true) (ha : AI Γ m X W (e :: es) is) : EI Γ m X W (.Call (.Name "max" p) (e :: es) [] pos) (.blt .max1 is) := eo_bltF B.nd' (b_max1 B.calm) (B.glo hg).1 (B.none hb) (by kernel_rfl) (by decide) (by decide) ha
theorem e_max2 (B : Bx Γ T m n N sc fc X W) (hb : T.bn.contains "max" = true) (hg : gOk sc "max" = true) (ha : AI Γ m X W (e :: es) is) : EI Γ m X W (.Call (.Name "max" p) (e :: es) [] pos) (.blt .max2 is) := eo_bltF B.nd' (b_max2 B.calm) (B.glo hg).1 (B.none hb) (by kernel_rfl) (by decide) (by decide) ha
theorem e_min2 (B : Bx Γ T m n N sc fc X W) (hb : T.bn.contains "min" = true) (hg : gOk sc "min" = true) (ha : AI Γ m X W (e :: es) is) : EI Γ m X W (.Call (.Name "min" p) (e :: es) [] pos) (.blt .min2 is) := eo_bltF B.nd' (b_min2 B.calm) (B.glo hg).1 (B.none hb) (by kernel_rfl) (by decide) (by decide) ha
theorem e_sorted (B : Bw Γ T N sc fc X) (hb : T.bn.contains "sorted" = true) (hg : gOk sc "sorted" = true) (ha : AI Γ m X W (e :: es) is) : EI Γ m X W (.Call (.Name "sorted" p) (e :: es) [] pos) (.blt .sorted is) := eo_bltF B.nd' b_sorted (B.glo hg).1 (B.none hb) (by kernel_rfl) (by decide) (by decide) ha
theorem e_gcd (B : Bw Γ T N sc fc X) (hb : T.gcd = true) (hg : gOk sc "gcd" = true) (ha : AI Γ m X W (e :: es) is) : EI Γ m X W (.Call (.Name "gcd" p) (e :: es) [] pos) (.blt .gcd is) := eo_bltM B.nd' b_gcd (B.glo hg).1 (by rw [B.mg]; exact B.wd.gcd hb) (by decide) ha
def tyOk (t : Ty) (tn : Str) : Bool := decide (tn = (tyN t : Str))
theorem boot_ty : ∀ t : Ty, bootBuiltins (tyN t : Str) = some (.type (tyN t))
  | .int => by kernel_rfl
  | .bool => by kernel_rfl
  | .str => by kernel_rfl
  | .tuple => by kernel_rfl
  | .list => by kernel_rfl
theorem name_ty : ∀ t : Ty, (tyN t : Str) ≠ "__name__"
  | .int => by decide
  | .bool => by decide
  | .str => by decide
  | .tuple => by decide
  | .list => by decide
theorem e_isin (t : Ty) (B : Bw Γ T N sc fc X) (hb : T.bn.contains "isinstance" = true) (hg : gOk sc "isinstance" = true) (hb2 : T.bn.contains (tyN t : Str) = true) (hg2 : gOk sc (tyN t : Str) = true) (ha : EI Γ m X W a ia) : EI Γ m X W (.Call (.Name "isinstance" p) [a, .Name (tyN t : Str) p2] [] pos) (.isin ia t) :=
  eo_isin B.nd' (B.glo hg).1 (B.none hb) (B.glo hg2).1 (B.none hb2) (boot_ty t) (name_ty t) (B.glo hg2).2 ha
theorem e_isin2 (t u : Ty) (B : Bw Γ T N sc fc X) (hb : T.bn.contains "isinstance" = true) (hg : gOk sc "isinstance" = true) (hb2 : T.bn.contains (tyN t : Str) = true) (hg2 : gOk sc (tyN t : Str) = true) (hb3 : T.bn.contains (tyN u : Str) = true) (hg3 : gOk sc (tyN u : Str) = true) (ha : EI Γ m X W a ia) :
    EI Γ m X W (.Call (.Name "isinstance" p) [a, .Tuple [.Name (tyN t : Str) p2, .Name (tyN u : Str) p3] k pp] [] pos) (.isin2 ia t u) :=
  eo_isin2 B.nd' (B.glo hg).1 (B.none hb) (B.glo hg2).1 (B.none hb2) (boot_ty t) (name_ty t) (B.glo hg2).2 (B.glo hg3).1 (B.none hb3) (boot_ty u) (name_ty u) (B.glo hg3).2 ha
theorem e_join (B : Bw Γ T N sc fc X) (hc : isCall a = false) (hl : (p2.endLine == pos.line) = true) (ha : EI Γ m X W a ia) (hb : EI Γ m X W b ib) : EI Γ m X W (.Call (.Attribute a "join" p2) [b] [] pos) (.join ia ib) := eo_join B.nd' hc hl ha hb
/-! ### tests -/
theorem t_cmp (o : Cop) (B : Bw Γ T N sc fc X) (hs : isSet b = false) (ha : EI Γ m X W a ia) (hb : EI Γ m X W b ib) : TI' Γ m X W (.Compare a [cop o] [b] pos) (.cmp o ia ib) := to_cmp B.hu hs ha hb
theorem t_chain (o1 o2 : Cop) (B : Bw Γ T N sc fc X) (hs : isSet c = false) (ha : EI Γ m X W a ia) (hb : EI Γ m X W b ib) (hc : EI Γ m X W c ic) : TI' Γ m X W (.Compare a [cop o1, cop o2] [b, c] pos) (.chain o1 o2 ia ib ic) := to_chain B.hu hs ha hb hc
theorem t_not (ha : TI' Γ m X W a ia) : TI' Γ m X W (.UnaryOp .Not a pos) (.not ia) := to_not ha
theorem t_and {r : List Expr} (ha : TI' Γ m X W a ia) (hb : TI' Γ m X W (.BoolOp .And (b :: r) pos) ib) : TI' Γ m X W (.BoolOp .And (a :: b :: r) pos) (.and ia ib) := to_and ha hb
theorem t_or {r : List Expr} (ha : TI' Γ m X W a ia) (hb : TI' Γ m X W (.BoolOp .Or (b :: r) pos) ib) : TI' Γ m X W (.BoolOp .Or (a :: b :: r) pos) (.or ia ib) := to_or ha hb
theorem t_one {op : BoolOp} (ha : TI' Γ m X W a ia) : TI' Γ m X W (.BoolOp op [a] pos) (.one ia) := to_one ha
theorem t_tr (hp : plainTest a = true) (ha : EI Γ m X W a ia) : TI' Γ m X W a (.tr ia) := to_tr hp ha
/-! ### targets, what is walked -/
theorem g_nm (B : Bw Γ T N sc fc X) {i : Nat} {x : Str} (h : tOk N sc fc i x = true) : GO Γ.F Γ.C X (.Name x pos) (.nm i) := by
  obtain ⟨h1, h2, h3⟩ := B.tgt h
  exact go_nm B.nd' h1 h2 h3
theorem g_tup (B : Bx Γ T m n N sc fc X W) {ts : List Tg} (h : GOs Γ.F Γ.C X es ts) : GO Γ.F Γ.C X (.Tuple es k pos) (.tup ts) := go_tup B.calm h
variable {tg : Expr}
theorem i_seq (hs : isSetE a = false) (ha : EI Γ m X W a ia) : II Γ m X W tg a (.seq ia) := io_seq hs ha
theorem i_rng1 (B : Bw Γ T N sc fc X) (hb : T.bn.contains "range" = true) (hg : gOk sc "range" = true) (ha : EI Γ m X W a ia) : II Γ m X W tg (.Call (.Name "range" p) [a] [] pos) (.rng1 ia) := io_rng1 (x := "range") (B.glo hg).1 (B.none hb) ha
theorem i_rng2 (B : Bw Γ T N sc fc X) (hb : T.bn.contains "range" = true) (hg : gOk sc "range" = true) (ha : EI Γ m X W a ia) (hc : EI Γ m X W b ib) : II Γ m X W tg (.Call (.Name "range" p) [a, b] [] pos) (.rng2 ia ib) := io_rng2 (B.glo hg).1 (B.none hb) ha hc
theorem r_rng1 (B : Bw Γ T N sc fc X) (hb : T.bn.contains "range" = true) (hg : gOk sc "range" = true) (ha : EI Γ m X W a ia) : IR Γ m X W tg (.Call (.Name "range" p) [a] [] pos) (.rng1 ia) := ior_rng1 (B.glo hg).1 (B.none hb) ha
theorem r_rng2 (B : Bw Γ T N sc fc X) (hb : T.bn.contains "range" = true) (hg : gOk sc "range" = true) (ha : EI Γ m X W a ia) (hc : EI Γ m X W b ib) : IR Γ m X W tg (.Call (.Name "range" p) [a, b] [] pos) (.rng2 ia ib) := ior_rng2 (B.glo hg).1 (B.none hb) ha hc
theorem i_enum (B : Bw Γ T N sc fc X) (hb : T.bn.contains "enumerate" = true) (hg : gOk sc "enumerate" = true) (ha : EI Γ m X W a ia) : II Γ m X W (.Tuple es k p2) (.Call (.Name "enumerate" p) [a] [] pos) (.enum ia) := io_enum (B.glo hg).1 (B.none hb) ha
theorem i_zip (B : Bw Γ T N sc fc X) (hb : T.bn.contains "zip" = true) (hg : gOk sc "zip" = true) (ha : EI Γ m X W a ia) (hc : EI Γ m X W b ib) : II Γ m X W (.Tuple es k p2) (.Call (.Name "zip" p) [a, b] [] pos) (.zip ia ib) := io_zip (B.glo hg).1 (B.none hb) ha hc
/-! ### comprehensions -/
def relS (sc scope : Scope) : Scope := { scope with names := scope.names.map fun (n, k) => if (k == .free && sc.kind == .function && sc.names.lookup n == some .cell) then (n, .cell) else (n, k) }
def fcOf (scope : Scope) : Str → Bool := fun x => scope.names.lookup x == some .cell
theorem Bx.blk (B : Bx Γ T m n N sc fc X W) (s : Shared) (H : Hp) (scope : Scope) (c : Addr) (cl : List (Str × Addr)) (fp : List Addr) : Bx Γ T m n N (relS sc scope) (fcOf scope) (X.blk s H scope (compEnvC scope cl c X.env) fp) W0 where
  g := B.g
  wd := B.wd
  hN := B.hN
  sc := by
    show relabel scope X.env = _
    unfold relabel relS PySem.Env.kindOf
    rw [B.sc]
  nd := B.nd
  hu := B.hu
  fn := fun x h => h
  cal := B.cal
  calm := B.calm
  room := B.room
  tk := fun u s' x => by
    obtain ⟨_, _, _, _, _, _, _, _, _, _, _, _, _, _, _, _, z⟩ := x
    exact z.elim
/-- which names a target takes -/
def tgNs : Tg → List Nat
  | .nm i => [i]
  | .tup ts => go ts
where go : List Tg → List Nat
  | [] => []
  | t :: ts => tgNs t ++ go ts
mutual
theorem asgs_in : ∀ {t : Tg} {d : D} {l : List (Nat × D)}, asgs t d = some l → ∀ p ∈ l, p.1 ∈ tgNs t
  | .nm i, d, l, h, p, hp => by
    cases h
    rw [List.mem_singleton] at hp
    subst hp
    exact List.mem_singleton.mpr rfl
  | .tup ts, d, l, h, p, hp => by
    cases d with
    | tup xs => exact asgss_in (ts := ts) h p hp
    | lst xs => exact asgss_in (ts := ts) h p hp
    | _ => cases h
theorem asgss_in : ∀ {ts : List Tg} {ds : List D} {l : List (Nat × D)}, asgs.asgss ts ds = some l → ∀ p ∈ l, p.1 ∈ tgNs.go ts
  | [], [], l, h, p, hp => by cases h; cases hp
  | [], _ :: _, l, h, p, hp => by cases h
  | _ :: _, [], l, h, p, hp => by cases h
  | t :: ts, d :: ds, l, h, p, hp => by
    have h : ((asgs t d).bind fun a => (asgs.asgss ts ds).bind fun b => some (a ++ b)) = some l := h
    cases h1 : asgs t d with
    | none => rw [h1] at h; cases h
    | some a =>
      rw [h1] at h
      cases h2 : asgs.asgss ts ds with
      | none =>
        have h : ((asgs.asgss ts ds).bind fun b => some (a ++ b)) = some l := h
        rw [h2] at h
        cases h
      | some b =>
        have h : ((asgs.asgss ts ds).bind fun b => some (a ++ b)) = some l := h
        rw [h2] at h
        cases h
        show p.1 ∈ tgNs t ++ tgNs.go ts
        rcases List.mem_append.mp hp with q | q
        · exact List.mem_append_left _ (asgs_in h1 p q)
        · exact List.mem_append_right _ (asgss_in h2 p q)
end
theorem e_comp {elt iter : Expr} {scope : Scope} {t : Tg} {ielt : IE} {it : IIt} (own : List (Str × Nat)) (B : Bx Γ T m n N sc fc X W) (ok : blkC N sc scope own = true) (hown : (tgNs t).all (fun i => (own.map (·.2)).contains i) = true) (hi : II Γ m X W tg iter it)
    (hg : ∀ (s : Shared) (H : Hp) (c : Addr) (cl : List (Str × Addr)) (fp : List Addr), GO Γ.F Γ.C (X.blk s H scope (compEnvC scope cl c X.env) fp) tg t)
    (he : ∀ (s : Shared) (H : Hp) (c : Addr) (cl : List (Str × Addr)) (fp : List Addr), EI Γ m (X.blk s H scope (compEnvC scope cl c X.env) fp) W0 elt ielt) :
    EI Γ m X W (.ListComp elt [⟨tg, iter, [], 0⟩] scope pos) (.comp ielt t it (own.map (·.2)) none) := by
  refine eo_comp (test := none) B.nd' B.calm (by rw [B.hN, B.sc]; exact blkOk_by ok) (fun d l h p hp => ?_) hi hg (fun _ _ _ _ _ => trivial) he
  have q := List.all_eq_true.mp hown p.1 (asgs_in h p hp)
  exact List.contains_iff_mem.mp q
theorem e_compI {elt iter : Expr} {scope : Scope} {t : Tg} {ielt ite : IE} {it : IIt} (own : List (Str × Nat)) (B : Bx Γ T m n N sc fc X W) (ok : blkC N sc scope own = true) (hown : (tgNs t).all (fun i => (own.map (·.2)).contains i) = true) (hi : II Γ m X W tg iter it)
    (hg : ∀ (s : Shared) (H : Hp) (c : Addr) (cl : List (Str × Addr)) (fp : List Addr), GO Γ.F Γ.C (X.blk s H scope (compEnvC scope cl c X.env) fp) tg t)
    (ht : ∀ (s : Shared) (H : Hp) (c : Addr) (cl : List (Str × Addr)) (fp : List Addr), TI' Γ m (X.blk s H scope (compEnvC scope cl c X.env) fp) W0 e ite)
    (he : ∀ (s : Shared) (H : Hp) (c : Addr) (cl : List (Str × Addr)) (fp : List Addr), EI Γ m (X.blk s H scope (compEnvC scope cl c X.env) fp) W0 elt ielt) :
    EI Γ m X W (.ListComp elt [⟨tg, iter, [e], 0⟩] scope pos) (.comp ielt t it (own.map (·.2)) (some ite)) := by
  refine eo_comp (test := some (ite.te m)) B.nd' B.calm (by rw [B.hN, B.sc]; exact blkOk_by ok) (fun d l h p hp => ?_) hi hg ht he
  have q := List.all_eq_true.mp hown p.1 (asgs_in h p hp)
  exact List.contains_iff_mem.mp q
end
end PF

end

section
set_option Elab.async false
set_option linter.all false
set_option maxRecDepth 100000
/-! PF16: the rules of the statements by the intermediate language; defs. -/
namespace PF
open PySem PySem.Spec PyProof.Rows L2
open PySem.W PySem.Calls
section
variable {Γ : Ga} {T : Tb} {m : Nat → List D → R Bd} {n : Nat} {N : List Str} {sc : Scope} {fc : Str → Bool} {X : Cx} {W : WX}
variable {a b c e : Expr} {ia ib ic ie : IE} {pos p p2 p3 : Pos} {k : Nat} {s : Stmt} {ss ss2 : List Stmt} {is : IS} {iss iss2 : List IS}
theorem s_nil : SsI Γ m X W [] [] := so_nil
theorem s_cons (h1 : SI Γ m X W s is) (h2 : SsI Γ m X W ss iss) : SsI Γ m X W (s :: ss) (is :: iss) := so_cons h1 h2
theorem s_set (B : Bw Γ T N sc fc X) {i : Nat} {x : Str} (h : tOk N sc fc i x = true) (he : EI Γ m X W e ie) : SI Γ m X W (.Assign [.Name x p] e pos) (.set i ie) := by
  obtain ⟨h1, h2, h3⟩ := B.tgt h
  exact so_set he h1 h2 h3
def e0 (sc : Scope) : PySem.Env := { scope := sc, locals := 0, globals := 0, cells := [] }
theorem sw_env {ts : List Expr} {v : Expr} {e1 e2 : PySem.Env} (h : e1.scope = e2.scope) : swappedStores ts v e1 = swappedStores ts v e2 := by
  unfold swappedStores PySem.Env.blockKind PySem.Env.kindOf
  rw [h]
theorem s_asg (B : Bw Γ T N sc fc X) (he : EI Γ m X W e ie) {tt : Tg} (hg : GO Γ.F Γ.C X c tt) (hs : ∀ env, swapsWithSole [c] e pos.line env = pure false) (hw : swappedStores [c] e (e0 sc) = pure none) (h1 : ∀ env, (assignEach [c] env).map (·.2) = [assign c env]) : SI Γ m X W (.Assign [c] e pos) (.asg tt ie) :=
  so_asg he hg (hs _) (by rw [sw_env (e2 := e0 sc) B.sc]; exact hw) (h1 _)
theorem s_par (B : Bx Γ T m n N sc fc X W) {i j : Nat} {x y : Str} {kt k2 : Nat} {px py pt pt2 : Pos} (hi : tOk N sc (fun _ => false) i x = true) (hj : tOk N sc (fun _ => false) j y = true) (hij : i ≠ j) (ha : EI Γ m X W a ia) (hb : EI Γ m X W b ib)
    (hw : swappedStores [.Tuple [.Name x px, .Name y py] kt pt] (.Tuple [a, b] k2 pt2) (e0 sc) = pure (some [x, y])) :
    SI Γ m X W (.Assign [.Tuple [.Name x px, .Name y py] kt pt] (.Tuple [a, b] k2 pt2) pos) (.par i j ia ib) := by
  have loc : ∀ {i : Nat} {x : Str}, tOk N sc (fun _ => false) i x = true → X.env.scope.names.lookup x = some .local := fun {i x} h => by
    unfold tOk at h
    simp only [Bool.and_eq_true] at h
    have h2 := h.2
    rw [B.sc]
    split at h2
    · rename_i e; exact e
    · cases h2
    · cases h2
  have at_ : ∀ {i : Nat} {x : Str}, tOk N sc (fun _ => false) i x = true → X.N[i]? = some x := fun {i x} h => by
    unfold tOk at h
    simp only [Bool.and_eq_true, decide_eq_true_eq] at h
    rw [B.hN]
    exact h.1
  exact so_par B.nd' B.calm (at_ hi) (at_ hj) hij (loc hi) (loc hj) ha hb (by rw [sw_env (e2 := e0 sc) B.sc]; exact hw) rfl
theorem s_ixs (B : Bw Γ T N sc fc X) {i : Nat} {x : Str} (h : vOk N sc i x = true) (he : EI Γ m X W e ie) (hk : EI Γ m X W c ic)
    (hs : ∀ env, swapsWithSole [.Subscript (.Name x p) c p2] e pos.line env = pure false) (hw : ∀ env, swappedStores [.Subscript (.Name x p) c p2] e env = pure none)
    (ha : ∀ env v, assign (.Subscript (.Name x p) c p2) env v = (do
      let ov ← holding [v] (eval (.Name x p) env)
      let iv ← holding [v, ov] (eval c env)
      standAt p2
      holding [v, ov, iv] (setItem ov iv v)
      release [v, ov, iv] [])) : SI Γ m X W (.Assign [.Subscript (.Name x p) c p2] e pos) (.ixs i ic ie) := by
  obtain ⟨h1, h2, h3, h4⟩ := B.var h
  exact so_ixs he hk h1 h2 h3 h4 (hs _) (hw _) (ha _)
theorem s_augA (B : Bw Γ T N sc fc X) {i : Nat} {x : Str} (h : tOk N sc fc i x = true) (he : EI Γ m X W e ie) : SI Γ m X W (.AugAssign (.Name x p) .Add e pos) (.aug i .add ie) := by
  obtain ⟨h1, h2, h3⟩ := B.tgt h
  exact so_augA B.nd' he h1 h2 h3
theorem s_augS (B : Bw Γ T N sc fc X) {i : Nat} {x : Str} (h : tOk N sc fc i x = true) (he : EI Γ m X W e ie) : SI Γ m X W (.AugAssign (.Name x p) .Sub e pos) (.aug i .sub ie) := by
  obtain ⟨h1, h2, h3⟩ := B.tgt h
  exact so_augS B.nd' he h1 h2 h3
theorem s_app (B : Bw Γ T N sc fc X) {i : Nat} {x : Str} (h : vOk N sc i x = true) (hl : (p2.endLine == p3.line) = true) (he : EI Γ m X W e ie) : SI Γ m X W (.Expr (.Call (.Attribute (.Name x p) "append" p2) [e] [] p3) pos) (.app i ie) := by
  obtain ⟨h1, h2, h3, h4⟩ := B.var h
  exact so_app he h1 h2 h3 h4 hl
theorem s_ext (B : Bw Γ T N sc fc X) {i : Nat} {x : Str} (h : vOk N sc i x = true) (hl : (p2.endLine == p3.line) = true) (he : EI Γ m X W e ie) : SI Γ m X W (.Expr (.Call (.Attribute (.Name x p) "extend" p2) [e] [] p3) pos) (.ext i ie) := by
  obtain ⟨h1, h2, h3, h4⟩ := B.var h
  exact so_ext he h1 h2 h3 h4 hl
theorem s_ite (hc : TI' Γ m X W c ic) (ha : SsI Γ m X W ss iss) (hb : SsI Γ m X W ss2 iss2) : SI Γ m X W (.If c ss ss2 pos) (.ite ic iss iss2) := so_ite hc ha hb
theorem s_for (B : Sx Γ T m n N sc fc X W) {tg : Expr} {t : Tg} {it : IIt} (hi : II Γ m X W tg e it) (hg : GO Γ.F Γ.C X tg t) (hb : SsI Γ m X W ss iss) (hgo : it.gone = it.ment) : SI Γ m X W (.For tg e ss [] pos) (.for_ t it iss) := so_for B.pw B.calm hi hg hb hgo
theorem s_forR (B : Sx Γ T m n N sc fc X W) {tg : Expr} {t : Tg} {it : IIt} (hi : IR Γ m X W tg e it) (hg : GO Γ.F Γ.C X tg t) (hb : SsI Γ m X W ss iss) (hgo : it.gone = fun _ => false) : SI Γ m X W (.For tg e ss [] pos) (.for_ t it iss) := so_forR B.pw B.calm hi hg hb hgo
theorem s_whl (B : Sx Γ T m n N sc fc X W) (hc : TI' Γ m X W c ic) (ha : SsI Γ m X W ss iss) : SI Γ m X W (.While c ss [] pos) (.whl ic iss) := so_whl B.pw hc ha
theorem s_brk : SI Γ m X W (.Break pos) .brk := so_brk
theorem s_cnt : SI Γ m X W (.Continue pos) .cnt := so_cnt
theorem s_ret (he : EI Γ m X W e ie) (hv : ∀ i, ie ≠ .var i) : SI Γ m X W (.Return (some e) pos) (.ret ie) := so_ret he hv
theorem s_retV (B : Bw Γ T N sc fc X) {i : Nat} {x : Str} (h : vOk N sc i x = true) : SI Γ m X W (.Return (some (.Name x p)) pos) (.ret (.var i)) := by
  obtain ⟨h1, h2, h3, h4⟩ := B.var h
  exact so_retV h1 h2 h3 h4
theorem s_retN : SI Γ m X W (.Return none pos) (.ret (.con .non)) := so_retN
theorem s_xp (he : EI Γ m X W e ie) (hc : isComp e = false) : SI Γ m X W (.Expr e pos) (.xp ie) := so_xp he hc
theorem s_raise (B : Bx Γ T m n N sc fc X W) {x : Str} {i : Nat} (h : T.ats.lookup x = some i) (hg : gOk sc x = true) (he : EI Γ m X W e ie) : SI Γ m X W (.Raise (some (.Call (.Name x p) [e] [] p2)) none pos) (.raise i ie) := by
  obtain ⟨g1, g2⟩ := B.glo hg
  obtain ⟨qn, fI, t⟩ := B.wd.ats x i h
  have t2 : AtTxt X.K X.mg x qn (Γ.C i) fI := by rw [B.K, B.mg]; exact t
  exact so_raise B.calm t2 B.room B.tk he g1 g2
theorem s_raise0 (B : Bx Γ T m n N sc fc X W) {x : Str} {i : Nat} (h : T.zs.lookup x = some i) (hg : gOk sc x = true) : SI Γ m X W (.Raise (some (.Call (.Name x p) [] [] p2)) none pos) (.raise0 i) := by
  obtain ⟨g1, g2⟩ := B.glo hg
  obtain ⟨h1, h2, h3, h4, h5⟩ := B.wd.zs x i h
  rw [← B.mg] at h1
  rw [← B.K] at h2 h3 h4 h5
  exact so_raise0 B.calm h2 h1 h3 h4 h5 B.tk g1 g2
theorem Sx.tr (B : Sx Γ T m n N sc fc X W) {W2 : WX} {pn : List (Addr × Obj)} {xe : Value → Shared → Prop} (tk : Takes (X.tr pn xe) W2) (pw : PassesOwn (model X.prog X.w) X.A X.env xe) : Sx Γ T m n N sc fc (X.tr pn xe) W2 where
  g := B.g
  wd := B.wd
  hN := B.hN
  sc := B.sc
  nd := B.nd
  hu := B.hu
  fn := B.fn
  cal := B.cal
  calm := B.calm
  room := B.room
  tk := tk
  pw := pw
  st := B.st
  fr := B.fr
/-- an except suite's context -/
theorem Bw.su (B : Bw Γ T N sc fc X) (a : Addr) (pn : List (Addr × Obj)) : Bw Γ T N sc fc (X.suite a pn) where
  g := B.g
  wd := B.wd
  hN := B.hN
  sc := B.sc
  nd := B.nd
  hu := B.hu
  fn := B.fn
theorem Bw.exs (B : Bw Γ T N sc fc X) {i : Nat} {os : List Nat} (h1 : T.cs.contains i = true) (h2 : os.all (fun o => T.cs.contains o && !(o == i)) = true) : Ex X.K Γ.C i os := by
  refine ⟨?_, fun o ho => ?_⟩
  · rw [B.K, B.wd.ex i i h1 h1, decide_eq_true rfl]
  · have q := List.all_eq_true.mp h2 o ho
    simp only [Bool.and_eq_true, Bool.not_eq_true', beq_eq_false_iff_ne] at q
    rw [B.K, B.wd.ex i o h1 q.1, decide_eq_false q.2]
theorem s_tryO (B : Sx Γ T m n N sc fc X W) {i : Nat} {os : List Nat} {x : Str} {s0 : Stmt} (hx : Γ.mg x = some (.ref (Γ.C i))) (hg : gOk sc x = true) (h1 : T.cs.contains i = true) (h2 : os.all (fun o => T.cs.contains o && !(o == i)) = true)
    (hb : ∀ (X2 : Cx) (W2 : WX), Sx Γ T m n N sc fc X2 W2 → SsI Γ m X2 W2 ss iss) (hsu : ∀ X2 : Cx, Bw Γ T N sc fc X2 → SsI Γ m X2 W0 (s0 :: ss2) iss2) : SI Γ m X W (.Try ss [.ExceptHandler (some (.Name x p)) none (s0 :: ss2) p2] [] [] pos) (.tryO iss i os iss2) := by
  obtain ⟨g1, g2⟩ := B.glo hg
  exact so_tryO B.st B.fr (by rw [B.mg]; exact hx) g1 g2 (B.exs h1 h2) B.tk (fun W2 pn xe tk pw => hb _ W2 (B.tr tk pw)) fun a pn => hsu _ (B.su a pn)
theorem Wd.zx {x : Str} {i : Nat} (w : Wd Γ T) (h : T.zs.lookup x = some i) : Γ.mg x = some (.ref (Γ.C i)) := (w.zs x i h).1
theorem Wd.ax {x : Str} {i : Nat} (w : Wd Γ T) (h : T.ats.lookup x = some i) : Γ.mg x = some (.ref (Γ.C i)) := by
  obtain ⟨_, _, t⟩ := w.ats x i h
  exact t.gC
/-- the names of a suite: the exception's -/
structure Sn (N : List Str) (sc : Scope) (j : Nat) (y : Str) : Prop where
  h : (decide (N[j]? = some y) && decide (sc.names.lookup y = some .local) && !(y == ("__debug__" : Str)) && !(y == ("__classdict__" : Str))) = true
theorem s_tryA (B : Sx Γ T m n N sc fc X W) {i j : Nat} {y : Str} {os : List Nat} {x : Str} {s0 : Stmt} {su : Su} (hx : Γ.mg x = some (.ref (Γ.C i))) (hg : gOk sc x = true) (h1 : T.cs.contains i = true) (h2 : os.all (fun o => T.cs.contains o && !(o == i)) = true) (hy : tOk N sc (fun _ => false) j y = true)
    (hb : ∀ (X2 : Cx) (W2 : WX), Sx Γ T m n N sc fc X2 W2 → SsI Γ m X2 W2 ss iss)
    (hsu : ∀ (a : Addr) (oe : Obj) (cls : Value) (d : Option Addr) (pn : List (Addr × Obj)), Zc cls d oe → (∃ vs, oe.data = .fields vs) → PSs (X.suite a ((a, oe) :: pn)) (s0 :: ss2) (tSuA (ga X Γ.F Γ.C) i j su a cls d)) :
    SI Γ m X W (.Try ss [.ExceptHandler (some (.Name x p)) (some y) (s0 :: ss2) p2] [] [] pos) (.try_ iss i os j su) := by
  obtain ⟨g1, g2⟩ := B.glo hg
  have hy2 : X.N[j]? = some y ∧ X.env.scope.names.lookup y = some .local := by
    unfold tOk at hy
    simp only [Bool.and_eq_true, decide_eq_true_eq] at hy
    refine ⟨by rw [B.hN]; exact hy.1, ?_⟩
    have h2 := hy.2
    rw [B.sc]
    split at h2
    · rename_i e; exact e
    · cases h2
    · cases h2
  exact so_tryA B.st B.fr B.nd' hy2.1 hy2.2 (by rw [B.mg]; exact hx) g1 g2 (B.exs h1 h2) B.tk (fun W2 pn xe tk pw => hb _ W2 (B.tr tk pw)) hsu
section
variable {i j : Nat} {y x : Str} {a : Addr} {oe : Obj} {cls : Value} {d : Option Addr} {pn : List (Addr × Obj)} {p1 p4 p5 p6 : Pos}
theorem Bw.atx (B : Bw Γ T N sc fc X) (h : T.ats.lookup x = some i) : ∃ qn fI, AtTxt X.K X.mg x qn (Γ.C i) fI := by
  obtain ⟨qn, fI, t⟩ := B.wd.ats x i h
  exact ⟨qn, fI, by rw [B.K, B.mg]; exact t⟩
theorem Bw.sn (B : Bw Γ T N sc fc X) (hy : tOk N sc (fun _ => false) j y = true) (hv : vOk N sc j y = true) : X.N[j]? = some y ∧ X.env.kindOf y = some .local ∧ (y == ("__debug__" : Str)) = false ∧ (y == ("__classdict__" : Str)) = false := by
  obtain ⟨h1, h2, h3, h4⟩ := B.var hv
  unfold tOk at hy
  simp only [Bool.and_eq_true, decide_eq_true_eq] at hy
  refine ⟨h1, ?_, h3, h4⟩
  have h2 := hy.2
  show X.env.scope.names.lookup y = _
  rw [B.sc]
  split at h2
  · rename_i e; exact e
  · cases h2
  · cases h2
theorem u_retAt (x : Str) (B : Bw Γ T N sc fc X) (h : T.ats.lookup x = some i) (hy : tOk N sc (fun _ => false) j y = true) (hv : vOk N sc j y = true) (hz : Zc cls d oe) (hf : ∃ vs, oe.data = .fields vs) :
    PSs (X.suite a ((a, oe) :: pn)) [.Return (some (.Attribute (.Name y p1) "at" p2)) p3] (tSuA (ga X Γ.F Γ.C) i j .retAt a cls d) := by
  obtain ⟨qn, fI, t⟩ := B.atx h
  obtain ⟨h1, h2, h3, h4⟩ := B.sn hy hv
  exact su_retAt t hz hf h1 h2 h3 h4 (base_of rfl)
theorem u_retAtEq (x : Str) {l : Nat} {z : Str} (B : Bw Γ T N sc fc X) (h : T.ats.lookup x = some i) (hy : tOk N sc (fun _ => false) j y = true) (hv : vOk N sc j y = true) (hl : vOk N sc l z = true) (hz : Zc cls d oe) (hf : ∃ vs, oe.data = .fields vs) :
    PSs (X.suite a ((a, oe) :: pn)) [.Return (some (.Compare (.Attribute (.Name y p1) "at" p2) [.Eq] [.Name z p4] pos)) p3] (tSuA (ga X Γ.F Γ.C) i j (.retAtEq l) a cls d) := by
  obtain ⟨qn, fI, t⟩ := B.atx h
  obtain ⟨h1, h2, h3, h4⟩ := B.sn hy hv
  obtain ⟨l1, l2, l3, l4⟩ := B.var hl
  exact su_retAtEq t hz hf h1 h2 h3 h4 (base_of rfl) l1 l2 l3 l4
theorem u_retAtEqC (x : Str) {z : Int} (B : Bw Γ T N sc fc X) (h : T.ats.lookup x = some i) (hy : tOk N sc (fun _ => false) j y = true) (hv : vOk N sc j y = true) (hz : Zc cls d oe) (hf : ∃ vs, oe.data = .fields vs) :
    PSs (X.suite a ((a, oe) :: pn)) [.Return (some (.Compare (.Attribute (.Name y p1) "at" p2) [.Eq] [.Constant (.int z) k p4] pos)) p3] (tSuA (ga X Γ.F Γ.C) i j (.retAtEqC z) a cls d) := by
  obtain ⟨qn, fI, t⟩ := B.atx h
  obtain ⟨h1, h2, h3, h4⟩ := B.sn hy hv
  exact su_retAtEqC t hz hf h1 h2 h3 h4 (base_of rfl)
theorem u_ifAt (x : Str) {z : Int} (B : Bw Γ T N sc fc X) (h : T.ats.lookup x = some i) (hy : tOk N sc (fun _ => false) j y = true) (hv : vOk N sc j y = true) (hz : Zc cls d oe) (hf : ∃ vs, oe.data = .fields vs) :
    PSs (X.suite a ((a, oe) :: pn)) [.If (.Compare (.Attribute (.Name y p1) "at" p2) [.Eq] [.Constant (.int z) k p4] pos) [.Continue p5] [] p6] (tSuA (ga X Γ.F Γ.C) i j (.ifAt z) a cls d) := by
  obtain ⟨qn, fI, t⟩ := B.atx h
  obtain ⟨h1, h2, h3, h4⟩ := B.sn hy hv
  exact su_ifAt t hz hf h1 h2 h3 h4 (base_of rfl)
theorem u_addAt (x : Str) {l : Nat} {z : Str} (B : Bw Γ T N sc fc X) (h : T.ats.lookup x = some i) (hy : tOk N sc (fun _ => false) j y = true) (hv : vOk N sc j y = true) (hl : vOk N sc l z = true) (ht : tOk N sc fc l z = true) (hz : Zc cls d oe) (hf : ∃ vs, oe.data = .fields vs) :
    PSs (X.suite a ((a, oe) :: pn)) [.Assign [.Name z p4] (.BinOp (.Name z p5) .Add (.Attribute (.Name y p1) "at" p2) p6) p3] (tSuA (ga X Γ.F Γ.C) i j (.addAt l) a cls d) := by
  obtain ⟨qn, fI, t⟩ := B.atx h
  obtain ⟨h1, h2, h3, h4⟩ := B.sn hy hv
  obtain ⟨l1, l2, l3, l4⟩ := B.var hl
  obtain ⟨t1, t2, t3⟩ := B.tgt ht
  exact su_addAt t hz hf B.nd' h1 h2 h3 h4 (base_of rfl) l1 t2 t3 l3 l4
end
end
/-! ### comprehensions, their blocks' contexts kept apart -/
section
variable {Γ : Ga} {T : Tb} {m : Nat → List D → R Bd} {n : Nat} {N : List Str} {sc : Scope} {fc : Str → Bool} {X : Cx} {W : WX} {e : Expr} {pos : Pos}
variable {tg elt iter : Expr} {scope : Scope} {t : Tg} {ielt ite : IE} {it : IIt}
theorem c_comp (own : List (Str × Nat)) (B : Bx Γ T m n N sc fc X W) (ok : blkC N sc scope own = true) (hown : (tgNs t).all (fun i => (own.map (·.2)).contains i) = true) (hi : II Γ m X W tg iter it)
    (hg : ∀ X2 : Cx, Bx Γ T m n N (relS sc scope) (fcOf scope) X2 W0 → GO Γ.F Γ.C X2 tg t) (he : ∀ X2 : Cx, Bx Γ T m n N (relS sc scope) (fcOf scope) X2 W0 → EI Γ m X2 W0 elt ielt) :
    EI Γ m X W (.ListComp elt [⟨tg, iter, [], 0⟩] scope pos) (.comp ielt t it (own.map (·.2)) none) :=
  e_comp own B ok hown hi (fun s H c cl fp => hg _ (B.blk s H scope c cl fp)) fun s H c cl fp => he _ (B.blk s H scope c cl fp)
theorem c_compI (own : List (Str × Nat)) (B : Bx Γ T m n N sc fc X W) (ok : blkC N sc scope own = true) (hown : (tgNs t).all (fun i => (own.map (·.2)).contains i) = true) (hi : II Γ m X W tg iter it)
    (hg : ∀ X2 : Cx, Bx Γ T m n N (relS sc scope) (fcOf scope) X2 W0 → GO Γ.F Γ.C X2 tg t) (ht : ∀ X2 : Cx, Bx Γ T m n N (relS sc scope) (fcOf scope) X2 W0 → TI' Γ m X2 W0 e ite) (he : ∀ X2 : Cx, Bx Γ T m n N (relS sc scope) (fcOf scope) X2 W0 → EI Γ m X2 W0 elt ielt) :
    EI Γ m X W (.ListComp elt [⟨tg, iter, [e], 0⟩] scope pos) (.comp ielt t it (own.map (·.2)) (some ite)) :=
  e_compI own B ok hown hi (fun s H c cl fp => hg _ (B.blk s H scope c cl fp)) (fun s H c cl fp => ht _ (B.blk s H scope c cl fp)) fun s H c cl fp => he _ (B.blk s H scope c cl fp)
end
theorem look_same : ∀ {l1 : List (Nat × Str × Nat)} {l2 : List (Nat × IDef)}, l1.map (fun p => (p.1, p.2.2)) = l2.map (fun p => (p.1, p.2.ar)) → ∀ (j : Nat) (d : IDef), l2.lookup j = some d → ∃ nm, l1.lookup j = some (nm, d.ar)
  | [], [], _, j, d, h => by simp at h
  | [], _ :: _, e, _, _, _ => by cases e
  | _ :: _, [], e, _, _, _ => by cases e
  | (i, nm, ar) :: l1, (i2, d2) :: l2, e, j, d, h => by
    simp only [List.map_cons, List.cons.injEq, Prod.mk.injEq] at e
    obtain ⟨⟨e1, e2⟩, e3⟩ := e
    subst e1
    subst e2
    by_cases q : j = i
    · subst q
      simp [List.lookup] at h
      subst h
      exact ⟨nm, by simp [List.lookup]⟩
    · have q2 : (j == i) = false := by simpa using q
      simp only [List.lookup, q2] at h
      obtain ⟨nm', h2⟩ := look_same e3 j d h
      exact ⟨nm', by simp only [List.lookup, q2]; exact h2⟩
theorem sem_bad {l1 : List (Nat × Str × Nat)} {l2 : List (Nat × IDef)} (h : l1.map (fun p => (p.1, p.2.2)) = l2.map (fun p => (p.1, p.2.ar))) : ∀ (n j : Nat) (ds : List D), (∀ nm, l1.lookup j ≠ some (nm, ds.length)) → sem (fun j => l2.lookup j) n j ds = .bad
  | 0, _, _, _ => rfl
  | n + 1, j, ds, hj => by
    show (match l2.lookup j with | some d => d.run (sem (fun j => l2.lookup j) n) ds | none => .bad) = .bad
    cases e : l2.lookup j with
    | none => rfl
    | some d =>
      show d.run (sem (fun j => l2.lookup j) n) ds = .bad
      unfold IDef.run
      rw [if_neg fun c => ?_]
      obtain ⟨nm, h2⟩ := look_same h j d e
      exact hj nm (by rw [h2, c])
/-! ### a def -/
/-- the facts of a def of the table -/
structure DefFact (Γ : Ga) (j : Nat) (nm : Str) (st : Stmt) (ps : List Str) : Prop where
  ex : ∃ fd, Fun Γ.K nm nm st (Γ.F j) fd ∧ Binds Γ.K fd ps []
  mg : Γ.mg nm = some (.ref (Γ.F j))
  kp : keepIn Γ.K (.ref (Γ.F j)) = true
theorem cal_zero {Γ : Ga} {j : Nat} {nm : Str} {st : Stmt} {ps : List Str} {defs : Nat → Option IDef} (d : DefFact Γ j nm st ps) : CalG Γ 0 j nm ps.length (sem defs 0 j) := by
  obtain ⟨fd, F, hb⟩ := d.ex
  refine ⟨fd, ps, rfl, ⟨fun vs H Q E h => ?_, fun A outer s H args us vs Q E hr he hb hv h => ?_⟩, d.mg, d.kp, hb⟩
  · obtain ⟨P, ds, _, r, hl, _⟩ := h
    rw [r.length, hl]
  · obtain ⟨P, ds, _, r, hl, h⟩ := h
    exact h.elim
theorem start_len {N : List Str} {vs : List V} (h : vs.length ≤ N.length) : (L2.start N vs).length = N.length := by
  unfold L2.start
  rw [List.length_append, List.length_map, List.length_replicate]
  omega
theorem start_get {N : List Str} {vs : List V} {i : Nat} {v : V} (h : vs[i]? = some v) : (L2.start N vs)[i]? = some (some v) := by
  unfold L2.start
  have hl : i < vs.length := (List.getElem?_eq_some_iff.mp h).1
  rw [List.getElem?_append_left (by rw [List.length_map]; exact hl), List.getElem?_map, h]
  rfl
theorem fn_succ {Γ : Ga} {T : Tb} {n j : Nat} {nm : Str} {st : Stmt} {N ps : List Str} {defs : Nat → Option IDef} {d : IDef} {fd : FuncData} (F : Fun Γ.K nm nm st (Γ.F j) fd) (wd : Wd Γ T) (S : FnScope N ps (defScope st)) (hd : defs j = some d) (har : d.ar = ps.length) (hn : d.n = N.length)
    (hcal : ∀ j nm ar, T.tab j = some (nm, ar) → CalG Γ n j nm ar (sem defs n j))
    (hbody : ∀ (X : Cx) (W : WX), Sx Γ T (sem defs n) n N (defScope st) (fun _ => true) X W → SsI Γ (sem defs n) X W (defBody st) d.body) : FnOk Γ.P Γ.w Γ.K Γ.mg Γ.base (L2.CX Γ.P Γ.w) (n + 1) (Γ.F j) fd ps (spD Γ ps.length (sem defs (n + 1) j)) := by
  refine F.okX S (fun vs H Q E h => ?_) (fun cdv A outer s H vs Q E hr h => ?_)
  · obtain ⟨P, ds, _, r, hl, _⟩ := h
    rw [r.length, hl]
  · have B : Sx Γ T (sem defs n) n N (defScope st) (fun _ => true) (cxOf (L2.CX Γ.P Γ.w) Γ.P Γ.w Γ.K Γ.mg Γ.base N nm (defScope st) (Γ.F j) cdv A outer s H E) (fun cls d _ H' => E cls d H') := {
      g := rfl
      wd := wd
      hN := rfl
      sc := rfl
      nd := S.nd
      hu := hr.units
      fn := fun _ _ => rfl
      cal := hcal
      calm := rfl
      room := hr
      tk := takes_of rfl rfl rfl rfl
      pw := passes_of rfl
      st := rfl
      fr := rfl }
    refine ⟨_, hbody _ _ B, ?_⟩
    obtain ⟨P, ds, s1, r, hl, h⟩ := h
    have hpl : ps.length ≤ N.length := by
      have e := congrArg List.length S.pre
      rw [List.length_take] at e
      omega
    have hvl : vs.length = ps.length := by rw [r.length, hl]
    refine ⟨P, H, P, ds.map (fun x => some (.val x)) ++ List.replicate (d.n - d.ar) none, ⟨Ext.refl s1, ?_, fun i dv q => ?_, fun i xs q => ?_, fun i j xs ys v q => ?_⟩, ?_⟩
    · rw [start_len (by omega), List.length_append, List.length_map, List.length_replicate]
      omega
    · by_cases hi : i < ds.length
      · rw [List.getElem?_append_left (by rw [List.length_map]; exact hi), List.getElem?_map] at q
        cases e : ds[i]? with
        | none => rw [e] at q; cases q
        | some d' =>
          rw [e] at q
          cases q
          obtain ⟨v, h1, h2⟩ := r.get e
          exact ⟨v, start_get h1, h2⟩
      · rw [List.getElem?_append_right (by rw [List.length_map]; omega), List.getElem?_replicate] at q
        split at q <;> cases q
    · exfalso
      by_cases hi : i < ds.length
      · rw [List.getElem?_append_left (by rw [List.length_map]; exact hi), List.getElem?_map] at q
        cases e : ds[i]? with
        | none => rw [e] at q; cases q
        | some d' => rw [e] at q; cases q
      · rw [List.getElem?_append_right (by rw [List.length_map]; omega), List.getElem?_replicate] at q
        split at q <;> cases q
    · exfalso
      by_cases hi : i < ds.length
      · rw [List.getElem?_append_left (by rw [List.length_map]; exact hi), List.getElem?_map] at q
        cases e : ds[i]? with
        | none => rw [e] at q; cases q
        | some d' => rw [e] at q; cases q
      · rw [List.getElem?_append_right (by rw [List.length_map]; omega), List.getElem?_replicate] at q
        split at q <;> cases q
    · have h : Wp Γ E P H (sem defs (n + 1) j ds) Q := h
      have e1 : sem defs (n + 1) j ds = d.run (sem defs n) ds := by
        show (match defs j with | some d => d.run (sem defs n) ds | none => .bad) = _
        rw [hd]
      rw [e1] at h
      unfold IDef.run at h
      rw [if_pos (by rw [hl, har])] at h
      cases e : exs (sem defs n) d.body (ds.map (fun x => some (.val x)) ++ List.replicate (d.n - d.ar) none) with
      | ok ρ f =>
        rw [e] at h
        cases f with
        | nx => exact fun P1 H1 σ S1 => h P1 H1 _ S1.ext .non
        | rt b => exact h
        | bk => exact h.elim
        | ct => exact h.elim
      | exc c k ρ =>
        rw [e] at h
        exact fun P1 H1 σ cls dd S1 x => h P1 H1 cls dd S1.ext x
      | bad => rw [e] at h; exact h.elim
theorem cal_succ {Γ : Ga} {T : Tb} {n j : Nat} {nm : Str} {st : Stmt} {N ps : List Str} {defs : Nat → Option IDef} {d : IDef} (df : DefFact Γ j nm st ps) (wd : Wd Γ T) (S : FnScope N ps (defScope st)) (hd : defs j = some d) (har : d.ar = ps.length) (hn : d.n = N.length)
    (hcal : ∀ j nm ar, T.tab j = some (nm, ar) → CalG Γ n j nm ar (sem defs n j))
    (hbody : ∀ (X : Cx) (W : WX), Sx Γ T (sem defs n) n N (defScope st) (fun _ => true) X W → SsI Γ (sem defs n) X W (defBody st) d.body) : CalG Γ (n + 1) j nm ps.length (sem defs (n + 1) j) := by
  obtain ⟨fd, F, hb⟩ := df.ex
  exact ⟨fd, ps, rfl, fn_succ F wd S hd har hn hcal hbody, df.mg, df.kp, hb⟩
end PF

end

section
set_option Elab.async false
set_option linter.all false
set_option maxRecDepth 100000
/-! PF17: the end: what the written part says, put together. -/
namespace PF
open PySem PySem.Spec PyProof.Rows L2
open PySem.W PySem.Calls
/-- a def of the text, at f -/
structure FnTxt (K : PySem.W.Frag) (nm : Str) (st : Stmt) (f : Addr) : Prop where
  a : nsIn K mainGlobals nm = some (some (.ref f))
  l : ∃ (oc : Value) (od : Option Addr) (kV doc pm : Value) (an : Option Addr) (cd ct : Value) (sl : Array (Option Value)), K.lookup f = some ⟨oc, od, .func (fnOf nm nm (defArgs st) (defBody st) (defScope st) .none kV doc pm an cd ct), sl⟩ ∧ codeIn K cd nm = true
  k : keepIn K (.ref f) = true
theorem fnTxt {K : PySem.W.Frag} {nm : Str} {st : Stmt} {f : Addr} {oc : Value} {od : Option Addr} {kV doc pm : Value} {an : Option Addr} {cd ct : Value} {sl : Array (Option Value)} (a : nsIn K mainGlobals nm = some (some (.ref f)))
    (l : K.lookup f = some ⟨oc, od, .func (fnOf nm nm (defArgs st) (defBody st) (defScope st) .none kV doc pm an cd ct), sl⟩) (c : codeIn K cd nm = true) (k : keepIn K (.ref f) = true) : FnTxt K nm st f := ⟨a, ⟨_, _, _, _, _, _, _, _, _, l, c⟩, k⟩
/-- parameters are bound as they come -/
def Bnd (nm : Str) (st : Stmt) (ps : List Str) : Prop := ∀ (kV doc pm : Value) (an : Option Addr) (cdv ct : Value) (us : List Value), us.length = ps.length → bindArgs (fnOf nm nm (defArgs st) (defBody st) (defScope st) .none kV doc pm an cdv ct) ⟨us, []⟩ = pure (ps.zip us)
theorem FnTxt.df {Γ : Ga} {h : Heap} {j : Nat} {nm : Str} {st : Stmt} {ps : List Str} (t : FnTxt Γ.K nm st (Γ.F j)) (X : Γ.K.In h) (G : h.Ns mainGlobals Γ.mg) (b : Bnd nm st ps) : DefFact Γ j nm st ps := by
  obtain ⟨oc, od, kV, doc, pm, an, cd, ct, sl, l, c⟩ := t.l
  have F := fun_mk (st := st) l c t.k
  exact ⟨⟨_, F, F.binds b⟩, mg_of X G t.a, t.k⟩
/-- an error's class with a place -/
structure AtK (K : PySem.W.Frag) (x qn : Str) (c fI : Addr) : Prop where
  a : nsIn K mainGlobals x = some (some (.ref c))
  ini : excInitIn K c eTail "Exception.__new__" = true
  over : excOver K c eTail = true
  sa : findIn K (.ref c) "__setattr__" = some (some (.builtin "object.__setattr__"))
  ga : findIn K (.ref c) "__getattribute__" = some (some (.builtin "BaseException.__getattribute__"))
  gg : findIn K (.ref c) "__getattr__" = some none
  noN : findIn K (.ref c) "at" = some none
  iC : findIn K (.ref c) "__init__" = some (some (.ref fI))
  tC : typeIn K (.ref fI) = some (.type "function")
  kC : keepIn K (.ref c) = true
  exC : subIn K (.ref c) (.type "BaseException") = some true
  tyC : typeIn K (.ref c) = some (.type "type")
  hdC : hasDictIn K c = true
  isC : isClsIn K c = true
  fn : ∃ (oc : Value) (od : Option Addr) (doc pm : Value) (an : Option Addr) (cdv ct : Value) (osl : Array (Option Value)) (p1 p2 q1 q2 q3 q4 : Pos),
    K.lookup fI = some ⟨oc, od, .func (fnOf "__init__" qn (aA p1 p2) (aB q1 q2 q3 q4) aS .none .none doc pm an cdv ct), osl⟩ ∧ codeIn K cdv qn = true
theorem atK {K : PySem.W.Frag} {x qn : Str} {c fI : Addr} {oc : Value} {od : Option Addr} {doc pm : Value} {an : Option Addr} {cdv ct : Value} {osl : Array (Option Value)} (p1 p2 q1 q2 q3 q4 : Pos) (a : nsIn K mainGlobals x = some (some (.ref c)))
    (ini : excInitIn K c eTail "Exception.__new__" = true) (over : excOver K c eTail = true) (sa : findIn K (.ref c) "__setattr__" = some (some (.builtin "object.__setattr__"))) (ga : findIn K (.ref c) "__getattribute__" = some (some (.builtin "BaseException.__getattribute__")))
    (gg : findIn K (.ref c) "__getattr__" = some none) (noN : findIn K (.ref c) "at" = some none) (iC : findIn K (.ref c) "__init__" = some (some (.ref fI))) (tC : typeIn K (.ref fI) = some (.type "function")) (kC : keepIn K (.ref c) = true)
    (exC : subIn K (.ref c) (.type "BaseException") = some true) (tyC : typeIn K (.ref c) = some (.type "type")) (hdC : hasDictIn K c = true) (isC : isClsIn K c = true)
    (l : K.lookup fI = some ⟨oc, od, .func (fnOf "__init__" qn (aA p1 p2) (aB q1 q2 q3 q4) aS .none .none doc pm an cdv ct), osl⟩) (cc : codeIn K cdv qn = true) : AtK K x qn c fI :=
  ⟨a, ini, over, sa, ga, gg, noN, iC, tC, kC, exC, tyC, hdC, isC, ⟨_, _, _, _, _, _, _, _, _, _, _, _, _, _, l, cc⟩⟩
theorem AtK.at {K : PySem.W.Frag} {mg : Str → Option Value} {h : Heap} {x qn : Str} {c fI : Addr} (t : AtK K x qn c fI) (X : K.In h) (G : h.Ns mainGlobals mg) : AtTxt K mg x qn c fI :=
  ⟨mg_of X G t.a, t.ini, t.over, t.sa, t.ga, t.gg, t.noN, t.iC, t.tC, t.kC, t.exC, t.tyC, t.hdC, t.isC, t.fn⟩
/-- .. without one -/
structure ZeK (K : PySem.W.Frag) (x : Str) (c : Addr) : Prop where
  a : nsIn K mainGlobals x = some (some (.ref c))
  q : excIn K c eTail "Exception.__new__" = true
  kC : keepIn K (.ref c) = true
  exC : subIn K (.ref c) (.type "BaseException") = some true
  tyC : typeIn K (.ref c) = some (.type "type")
  isC : isClsIn K c = true
theorem exm_of {K : PySem.W.Frag} {o c : Addr} {b : Bool} (h1 : subIn K (.ref c) (.type "BaseException") = some true) (h2 : isClsIn K c = true) (h3 : typeIn K (.ref c) = some (.type "type")) (h4 : subIn K (.ref o) (.ref c) = some b) : exmOne K (.ref o) (.ref c) = some b := by
  have e1 : (subIn K (.ref c) (.type "BaseException") == some true) = true := by rw [h1] <;> rfl
  have e2 : ((clsIn K c).isSome && typeIn K (.ref c) == some (.type "type")) = true := by
    have h2' : (clsIn K c).isSome = true := h2
    rw [h2', h3] <;> rfl
  show (if (subIn K (.ref c) (.type "BaseException") == some true) = true then (if ((clsIn K c).isSome && typeIn K (.ref c) == some (.type "type")) = true then subIn K (.ref o) (.ref c) else none) else none) = some b
  rw [if_pos e1, if_pos e2]
  exact h4
/-- a global pair of ints -/
structure PairK (K : PySem.W.Frag) (x : Str) (i j : Int) : Prop where
  ex : ∃ (a : Addr) (o : Obj) (t1 t2 : Tok) (n : Nat), nsIn K mainGlobals x = some (some (.ref a)) ∧ K.lookup a = some o ∧ o.cls = .type "tuple" ∧ o.data = .seq #[.int i t1, .int j t2] n
theorem pairK {K : PySem.W.Frag} {x : Str} {i j : Int} {a : Addr} {dd : Option Addr} {t1 t2 : Tok} {n : Nat} {sl : Array (Option Value)} (h1 : nsIn K mainGlobals x = some (some (.ref a))) (h2 : K.lookup a = some ⟨.type "tuple", dd, .seq #[.int i t1, .int j t2] n, sl⟩) : PairK K x i j :=
  ⟨⟨a, _, t1, t2, n, h1, h2, rfl, rfl⟩⟩
theorem PairK.gl {Γ : Ga} {h : Heap} {x : Str} {i j : Int} (t : PairK Γ.K x i j) (X : Γ.K.In h) (G : h.Ns mainGlobals Γ.mg) : ∃ v u, Γ.mg x = some u ∧ RelV v u ∧ ∀ H, Rep Γ H v (.tup [.int i, .int j]) := by
  obtain ⟨a, o, t1, t2, n, h1, h2, h3, h4⟩ := t.ex
  refine ⟨.ref a, .ref a, mg_of X G h1, rfl, fun H => .tup (vs := [.int i, .int j]) (.inr ⟨o, _, n, h2, h3, h4, by show 2 ≤ sizeLine; decide, .cons ⟨_, rfl⟩ (.cons ⟨_, rfl⟩ .nil)⟩) (.cons (.int _) (.cons (.int _) .nil))⟩
def AllC (P : Nat → Str → Nat → Prop) : List (Nat × Str × Nat) → Prop
  | [] => True
  | p :: r => P p.1 p.2.1 p.2.2 ∧ AllC P r
theorem AllC.get {P : Nat → Str → Nat → Prop} : ∀ {l : List (Nat × Str × Nat)}, AllC P l → ∀ j nm ar, l.lookup j = some (nm, ar) → P j nm ar
  | [], _, j, nm, ar, h => by simp at h
  | (i, nm', ar') :: r, ⟨h1, h2⟩, j, nm, ar, h => by
    by_cases q : j = i
    · subst q
      simp [List.lookup] at h
      obtain ⟨e1, e2⟩ := h
      subst e1
      subst e2
      exact h1
    · have q2 : (j == i) = false := by simpa using q
      simp only [List.lookup, q2] at h
      exact AllC.get h2 j nm ar h
/-- what the globals list says -/
def AllG (P : Str → D → Prop) : List (Str × D) → Prop
  | [] => True
  | p :: r => P p.1 p.2 ∧ AllG P r
theorem AllG.get {P : Str → D → Prop} : ∀ {l : List (Str × D)}, AllG P l → ∀ (k : Nat) x d, l[k]? = some (x, d) → P x d
  | [], _, k, x, d, h => by simp at h
  | p :: r, ⟨h, _⟩, 0, x, d, e => by
    cases e
    exact h
  | p :: r, ⟨_, h⟩, k + 1, x, d, e => AllG.get h k x d (by simpa using e)
def AllS (P : Str → Prop) : List Str → Prop
  | [] => True
  | p :: r => P p ∧ AllS P r
theorem AllS.get {P : Str → Prop} : ∀ {l : List Str}, AllS P l → ∀ x, l.contains x = true → P x
  | [], _, x, h => by simp at h
  | p :: r, ⟨h1, h2⟩, x, h => by
    rw [List.contains_cons, Bool.or_eq_true] at h
    rcases h with h | h
    · rw [beq_iff_eq] at h
      subst h
      exact h1
    · exact AllS.get h2 x h
def AllM (P : Str → Nat → Prop) : List (Str × Nat) → Prop
  | [] => True
  | p :: r => P p.1 p.2 ∧ AllM P r
theorem AllM.get {P : Str → Nat → Prop} : ∀ {l : List (Str × Nat)}, AllM P l → ∀ x c, l.lookup x = some c → P x c
  | [], _, x, c, h => by simp at h
  | (y, d) :: r, ⟨h1, h2⟩, x, c, h => by
    by_cases e : x = y
    · subst e
      simp [List.lookup] at h
      subst h
      exact h1
    · have e2 : (x == y) = false := by simpa using e
      simp [List.lookup, e2] at h
      exact AllM.get h2 x c h
def adr (l : List (Nat × Addr)) (j : Nat) : Addr := (l.lookup j).getD 0
/-- the law's promise -/
def spLaw (K : PySem.W.Frag) (most : Nat) : Sp := fun vs H Q _ => ∃ (a : Addr) (ns : List Int), vs = [.ref a] ∧ ns.length ≤ most ∧ SqL K H a (ns.map V.int) ∧ ∀ H', Q (.bl true) H'
theorem law_fn {Γ : Ga} {n j : Nat} {fd : FuncData} {ps : List Str} {g : List D → R Bd} {most : Nat} (F : FnOk Γ.P Γ.w Γ.K Γ.mg Γ.base (L2.CX Γ.P Γ.w) n (Γ.F j) fd ps (spD Γ 1 g)) (h : ∀ ns : List Int, ns.length ≤ most → g [.scr ns] = .ok (.val (.bl true))) :
    FnOk Γ.P Γ.w Γ.K Γ.mg Γ.base (L2.CX Γ.P Γ.w) n (Γ.F j) fd ps (spLaw Γ.K most) := F.imp fun vs H Q E ⟨a, ns, e, hl, hs, q⟩ => by
  subst e
  refine ⟨H, [.scr ns], Same.refl _, .cons (.scr hs) .nil, rfl, ?_⟩
  rw [h ns hl]
  intro P' H' v x r
  cases r
  exact q H'
theorem walk_law {l : PySem.W.OpenLaw} {n k : Nat} {q : Program} {loose : List Str} {XP : (Str → Option Value) → Heap → Prop} {YP : World → Heap → Prop} {d : DefRec} {K : Params → PySem.W.Frag}
    (hn : l.most = some n) (hn2 : n ≤ sizeLine) (hdf : d.params.defaults = []) (hr : Room k callerA) (hY : ∀ (w : World) (h : Heap), YP w h → (K w.params).In h)
    (F : ∀ (w : World) (mg : Str → Option Value) (fa : Addr) (h : Heap), (K w.params).In h → h.Ns mainGlobals mg → mg d.name = some (.ref fa) →
      ∃ fd : FuncData, (∀ (s : Shared) (u : Value), BindsTo s fd ⟨[u], []⟩ [(("script" : Str), u)]) ∧
        ∀ base : Heap, (K w.params).In base → base.Ns mainGlobals mg → FnOk l.prog w (K w.params) mg base (L2.CX l.prog w) k fa fd ["script"] (spLaw (K w.params) n)) :
    PySem.W.WalkO q loose XP YP l.row.toRowW d [] (fun f vs => PySem.call f vs) :=
  walk_of (sp := fun w => spLaw (K w.params) n) hn hn2 hdf hr hY F (fun w H a ns hl hO hs => ⟨a, ns, rfl, hl, hs, fun _ => rfl⟩) fun w H s e s' h => by
    obtain ⟨_, _, _, _, _, _, _, _, _, _, _, _, z⟩ := h
    exact z.elim
end PF

end

section
set_option linter.all false
set_option maxRecDepth 100000
namespace PF
open PySem L2
/-- less -/
def d0 : IDef := ⟨2, 2, [.ret (.cmp .lt (.bin .mul (.ix (.var 0) (.con (.int 0))) (.ix (.var 1) (.con (.int 1)))) (.bin .mul (.ix (.var 1) (.con (.int 0))) (.ix (.var 0) (.con (.int 1)))))]⟩
/-- is_integer -/
def d1 : IDef := ⟨1, 1, [.ret (.and (.isin (.var 0) .int) (.one (.not (.isin (.var 0) .bool))))]⟩
/-- in_range -/
def d2 : IDef := ⟨3, 3, [.ret (.and (.call 1 [.var 0]) (.and (.cmp .le (.var 1) (.var 0)) (.one (.cmp .le (.var 0) (.var 2)))))]⟩
/-- is_row -/
def d3 : IDef := ⟨1, 1, [.ret (.isin2 (.var 0) .tuple .list)]⟩
/-- is_row_of -/
def d4 : IDef := ⟨2, 2, [.ret (.and (.isin2 (.var 0) .tuple .list) (.one (.cmp .eq (.blt .len [.var 0]) (.var 1))))]⟩
/-- signed_shape -/
def d7 : IDef := ⟨1, 3, [.ite (.not (.tr (.call 4 [.var 0, .con (.int 2)]))) [.ret (.con .non)] [], .par 1 2 (.ix (.var 0) (.con (.int 0))) (.ix (.var 0) (.con (.int 1))), .ite (.or (.not (.tr (.call 1 [.var 1]))) (.or (.not (.tr (.call 1 [.var 2]))) (.or (.cmp .lt (.var 2) (.con (.int 1))) (.one (.cmp .ne (.blt .gcd [.var 1, .var 2]) (.con (.int 1))))))) [.ret (.con .non)] [], .ret (.tup [.var 1, .var 2])]⟩
/-- fraction_shape -/
def d8 : IDef := ⟨1, 2, [.set 1 (.call 7 [.var 0]), .ite (.or (.cmp .isn (.var 1) (.con .non)) (.one (.cmp .lt (.ix (.var 1) (.con (.int 0))) (.con (.int 0))))) [.ret (.con .non)] [], .ret (.var 1)]⟩
def d9e0 : IE := .call 8 [.var 3]
def d9b1 : List IS := [.ite (.cmp .isn (.var 3) (.con .non)) [.ret (.con .non)] []]
/-- fractions_shape -/
def d9 : IDef := ⟨2, 4, [.ite (.not (.tr (.call 4 [.var 0, .var 1]))) [.ret (.con .non)] [], .set 2 (.comp (d9e0) (.nm 3) (.seq (.var 0)) [3] none), .for_ (.nm 3) (.seq (.var 2)) d9b1, .ret (.blt .tuple [.var 2])]⟩
def d15b0 : List IS := [.set 3 (.call 9 [.var 2, .con (.int 2)]), .ite (.or (.cmp .isn (.var 3) (.con .non)) (.one (.tr (.call 0 [.ix (.var 3) (.con (.int 1)), .ix (.var 3) (.con (.int 0))])))) [.ret (.con .non)] [], .app 1 (.var 3)]
/-- box_shape -/
def d15 : IDef := ⟨1, 4, [.ite (.or (.not (.tr (.call 3 [.var 0]))) (.one (.cmp .gt (.blt .len [.var 0]) (.con (.int 5))))) [.ret (.con .non)] [], .set 1 (.lst []), .for_ (.nm 2) (.seq (.var 0)) d15b0, .ret (.blt .tuple [.var 1])]⟩
def d24b0 : List IS := [.ite (.not (.tr (.call 24 [.ix (.var 0) (.var 2), .ix (.var 1) (.var 2)]))) [.ret (.con (.bl false))] []]
/-- _law_same -/
def d24 : IDef := ⟨2, 3, [.ite (.or (.tr (.isin (.var 1) .tuple)) (.one (.tr (.isin (.var 0) .tuple)))) [.ite (.or (.not (.tr (.isin (.var 0) .tuple))) (.or (.not (.tr (.isin (.var 1) .tuple))) (.one (.cmp .ne (.blt .len [.var 0]) (.blt .len [.var 1]))))) [.ret (.con (.bl false))] [], .for_ (.nm 2) (.rng1 (.blt .len [.var 1])) d24b0, .ret (.con (.bl true))] [], .ite (.or (.cmp .isn (.var 0) (.con .non)) (.one (.cmp .isn (.var 1) (.con .non)))) [.ret (.and (.cmp .isn (.var 0) (.con .non)) (.one (.cmp .isn (.var 1) (.con .non))))] [], .ite (.or (.cmp .ne (.isin (.var 0) .bool) (.isin (.var 1) .bool)) (.one (.cmp .ne (.isin (.var 0) .str) (.isin (.var 1) .str)))) [.ret (.con (.bl false))] [], .ret (.and (.isin2 (.var 0) .int .str) (.one (.cmp .eq (.var 0) (.var 1))))]⟩
def d25e0 : IE := .call 25 [.var 1]
/-- _law_listed -/
def d25 : IDef := ⟨1, 2, [.ite (.tr (.isin (.var 0) .tuple)) [.ret (.comp (d25e0) (.nm 1) (.seq (.var 0)) [1] none)] [], .ret (.var 0)]⟩
/-- _law_cell -/
def d26 : IDef := ⟨2, 2, [.ite (.cmp .lt (.var 1) (.blt .len [.var 0])) [.ret (.blt .int [.ix (.var 0) (.var 1)])] [], .ret (.con (.int 0))]⟩
def d27b0 : List IS := [.ite (.cmp .eq (.var 3) (.con (.int 0))) [.brk] [], .set 5 (.bin .mod (.blt .int [.var 2]) (.var 3)), .set 2 (.var 3), .set 3 (.var 5)]
/-- _law_low -/
def d27 : IDef := ⟨2, 6, [.set 2 (.blt .abs [.var 0]), .set 3 (.var 1), .for_ (.nm 4) (.rng1 (.con (.int 9000))) d27b0, .ret (.tup [.bin .fdiv (.var 0) (.var 2), .bin .fdiv (.var 1) (.var 2)])]⟩
/-- _law_plus -/
def d28 : IDef := ⟨2, 2, [.ret (.call 27 [.bin .add (.bin .mul (.ix (.var 0) (.con (.int 0))) (.ix (.var 1) (.con (.int 1)))) (.bin .mul (.ix (.var 1) (.con (.int 0))) (.ix (.var 0) (.con (.int 1)))), .bin .mul (.ix (.var 0) (.con (.int 1))) (.ix (.var 1) (.con (.int 1)))])]⟩
/-- _law_minus -/
def d29 : IDef := ⟨2, 2, [.ret (.call 27 [.bin .sub (.bin .mul (.ix (.var 0) (.con (.int 0))) (.ix (.var 1) (.con (.int 1)))) (.bin .mul (.ix (.var 1) (.con (.int 0))) (.ix (.var 0) (.con (.int 1)))), .bin .mul (.ix (.var 0) (.con (.int 1))) (.ix (.var 1) (.con (.int 1)))])]⟩
/-- _law_times -/
def d30 : IDef := ⟨2, 2, [.ret (.call 27 [.bin .mul (.ix (.var 0) (.con (.int 0))) (.ix (.var 1) (.con (.int 0))), .bin .mul (.ix (.var 0) (.con (.int 1))) (.ix (.var 1) (.con (.int 1)))])]⟩
def d31b0 : List IS := [.ite (.cmp .ge (.var 3) (.bin .pow (.con (.int 10)) (.con (.int 18)))) [.app 4 (.bin .mod (.blt .int [.var 5]) (.bin .pow (.con (.int 10)) (.con (.int 9)))), .set 5 (.bin .fdiv (.var 5) (.bin .pow (.con (.int 10)) (.con (.int 9))))] [.set 7 (.bin .mod (.blt .int [.bin .add (.bin .add (.bin .mul (.var 3) (.con (.int 48271))) (.bin .mul (.bin .add (.var 6) (.con (.int 1))) (.con (.int 69621)))) (.var 1)]) (.con (.int 2147483647))), .app 4 (.bin .mod (.bin .mod (.blt .int [.bin .add (.bin .mul (.var 7) (.con (.int 16807))) (.bin .mul (.bin .add (.var 6) (.con (.int 3))) (.con (.int 40692)))]) (.con (.int 2147483399))) (.bin .pow (.con (.int 10)) (.con (.int 9))))]]
/-- _law_numbers -/
def d31 : IDef := ⟨3, 8, [.set 3 (.ife (.cmp .lt (.var 1) (.blt .len [.var 0])) (.ix (.var 0) (.var 1)) (.con (.int 0))), .set 4 (.lst []), .set 5 (.var 3), .for_ (.nm 6) (.rng1 (.var 2)) d31b0, .ret (.var 4)]⟩
/-- ratio -/
def d61 : IDef := ⟨2, 3, [.ite (.cmp .lt (.var 1) (.con (.int 0))) [.par 0 1 (.neg (.var 0)) (.neg (.var 1))] [], .set 2 (.blt .gcd [.var 0, .var 1]), .ret (.tup [.bin .fdiv (.var 0) (.var 2), .bin .fdiv (.var 1) (.var 2)])]⟩
/-- plus -/
def d62 : IDef := ⟨2, 2, [.ite (.and (.cmp .eq (.ix (.var 0) (.con (.int 1))) (.con (.int 1))) (.one (.cmp .eq (.ix (.var 1) (.con (.int 1))) (.con (.int 1))))) [.ret (.tup [.bin .add (.ix (.var 0) (.con (.int 0))) (.ix (.var 1) (.con (.int 0))), .con (.int 1)])] [], .ret (.call 61 [.bin .add (.bin .mul (.ix (.var 0) (.con (.int 0))) (.ix (.var 1) (.con (.int 1)))) (.bin .mul (.ix (.var 1) (.con (.int 0))) (.ix (.var 0) (.con (.int 1)))), .bin .mul (.ix (.var 0) (.con (.int 1))) (.ix (.var 1) (.con (.int 1)))])]⟩
/-- minus -/
def d63 : IDef := ⟨2, 2, [.ite (.and (.cmp .eq (.ix (.var 0) (.con (.int 1))) (.con (.int 1))) (.one (.cmp .eq (.ix (.var 1) (.con (.int 1))) (.con (.int 1))))) [.ret (.tup [.bin .sub (.ix (.var 0) (.con (.int 0))) (.ix (.var 1) (.con (.int 0))), .con (.int 1)])] [], .ret (.call 61 [.bin .sub (.bin .mul (.ix (.var 0) (.con (.int 0))) (.ix (.var 1) (.con (.int 1)))) (.bin .mul (.ix (.var 1) (.con (.int 0))) (.ix (.var 0) (.con (.int 1)))), .bin .mul (.ix (.var 0) (.con (.int 1))) (.ix (.var 1) (.con (.int 1)))])]⟩
/-- times -/
def d64 : IDef := ⟨2, 2, [.ite (.and (.cmp .eq (.ix (.var 0) (.con (.int 1))) (.con (.int 1))) (.one (.cmp .eq (.ix (.var 1) (.con (.int 1))) (.con (.int 1))))) [.ret (.tup [.bin .mul (.ix (.var 0) (.con (.int 0))) (.ix (.var 1) (.con (.int 0))), .con (.int 1)])] [], .ret (.call 61 [.bin .mul (.ix (.var 0) (.con (.int 0))) (.ix (.var 1) (.con (.int 0))), .bin .mul (.ix (.var 0) (.con (.int 1))) (.ix (.var 1) (.con (.int 1)))])]⟩
/-- _law_less -/
def d77 : IDef := ⟨2, 2, [.ret (.cmp .lt (.bin .mul (.ix (.var 0) (.con (.int 0))) (.ix (.var 1) (.con (.int 1)))) (.bin .mul (.ix (.var 1) (.con (.int 0))) (.ix (.var 0) (.con (.int 1)))))]⟩
def d99e0 : IE := .call 62 [.var 2, .var 3]
/-- row_plus -/
def d99 : IDef := ⟨2, 4, [.ret (.blt .tuple [.comp (d99e0) (.tup [.nm 2, .nm 3]) (.zip (.var 0) (.var 1)) [2, 3] none])]⟩
def d100e0 : IE := .call 63 [.var 2, .var 3]
/-- row_minus -/
def d100 : IDef := ⟨2, 4, [.ret (.blt .tuple [.comp (d100e0) (.tup [.nm 2, .nm 3]) (.zip (.var 0) (.var 1)) [2, 3] none])]⟩
def d101e0 : IE := .call 64 [.var 2, .var 1]
/-- row_times -/
def d101 : IDef := ⟨2, 3, [.ret (.blt .tuple [.comp (d101e0) (.nm 2) (.seq (.var 0)) [2] none])]⟩
/-- constant_row -/
def d142 : IDef := ⟨2, 2, [.ret (.bin .add (.tup [.var 0]) (.bin .mul (.tup [.glb "NOUGHT" (.tup [.int 0, .int 1])]) (.bin .sub (.var 1) (.con (.int 1)))))]⟩
def d156e0 : IE := .ife (.cmp .eq (.var 2) (.var 0)) (.glb "ONE" (.tup [.int 1, .int 1])) (.glb "NOUGHT" (.tup [.int 0, .int 1]))
/-- unit_row -/
def d156 : IDef := ⟨2, 3, [.ret (.blt .tuple [.comp (d156e0) (.nm 2) (.rng1 (.var 1)) [2] none])]⟩
def d158e0 : IE := .call 7 [.var 2]
def d158b1 : List IS := [.ite (.cmp .isn (.var 2) (.con .non)) [.ret (.con .non)] []]
/-- form_shape -/
def d158 : IDef := ⟨1, 3, [.ite (.or (.not (.tr (.call 3 [.var 0]))) (.one (.not (.chain .le .le (.con (.int 1)) (.blt .len [.var 0]) (.con (.int 11)))))) [.ret (.con .non)] [], .set 1 (.comp (d158e0) (.nm 2) (.seq (.var 0)) [2] none), .for_ (.nm 2) (.seq (.var 1)) d158b1, .ret (.blt .tuple [.var 1])]⟩
def d172b0 : List IS := [.set 6 (.call 156 [.bin .add (.var 3) (.con (.int 1)), .var 1]), .app 2 (.call 100 [.var 6, .call 142 [.var 4, .var 1]]), .app 2 (.call 100 [.call 142 [.var 5, .var 1], .var 6])]
/-- box_forms -/
def d172 : IDef := ⟨1, 7, [.set 1 (.bin .add (.blt .len [.var 0]) (.con (.int 1))), .set 2 (.lst []), .for_ (.tup [.nm 3, .tup [.nm 4, .nm 5]]) (.enum (.var 0)) d172b0, .ret (.blt .tuple [.var 2])]⟩
/-- box_system -/
def d173 : IDef := ⟨1, 2, [.set 1 (.call 15 [.var 0]), .ite (.cmp .isn (.var 1) (.con .non)) [.raise 0 (.con (.int 1))] [], .ret (.call 172 [.var 1])]⟩
def d174b0 : List IS := [.set 3 (.call 158 [.var 2]), .ite (.or (.cmp .isn (.var 3) (.con .non)) (.one (.cmp .ne (.blt .len [.var 3]) (.blt .len [.ix (.var 0) (.con (.int 0))])))) [.ret (.con .non)] [], .app 1 (.var 3)]
/-- system_shape -/
def d174 : IDef := ⟨1, 4, [.ite (.or (.not (.tr (.call 3 [.var 0]))) (.one (.cmp .gt (.blt .len [.var 0]) (.con (.int 200))))) [.ret (.con .non)] [], .set 1 (.lst []), .for_ (.nm 2) (.seq (.var 0)) d174b0, .ret (.blt .tuple [.var 1])]⟩
/-- need_system -/
def d175 : IDef := ⟨1, 2, [.set 1 (.call 174 [.var 0]), .ite (.cmp .isn (.var 1) (.con .non)) [.raise 0 (.con (.int 1))] [], .ite (.cmp .eq (.blt .len [.var 1]) (.con (.int 0))) [.ret (.tup [.var 1, .con (.int 0)])] [], .ret (.tup [.var 1, .bin .sub (.blt .len [.ix (.var 1) (.con (.int 0))]) (.con (.int 1))])]⟩
/-- need_form -/
def d176 : IDef := ⟨2, 3, [.set 2 (.call 158 [.var 0]), .ite (.or (.cmp .isn (.var 2) (.con .non)) (.one (.cmp .ne (.blt .len [.var 2]) (.bin .add (.var 1) (.con (.int 1)))))) [.raise 0 (.con (.int 2))] [], .ret (.var 2)]⟩
def d177b0 : List IS := [.ite (.cmp .ne (.var 5) (.glb "NOUGHT" (.tup [.int 0, .int 1]))) [.set 3 (.call 99 [.var 3, .call 101 [.var 4, .var 5]])] []]
/-- weighed_sum -/
def d177 : IDef := ⟨3, 6, [.set 3 (.call 142 [.glb "NOUGHT" (.tup [.int 0, .int 1]), .var 2]), .for_ (.tup [.nm 4, .nm 5]) (.zip (.var 0) (.var 1)) d177b0, .ret (.var 3)]⟩
def d178b0 : List IS := [.ite (.tr (.call 0 [.glb "NOUGHT" (.tup [.int 0, .int 1]), .var 1])) [.ret (.con (.bl false))] []]
/-- none_rising -/
def d178 : IDef := ⟨1, 2, [.for_ (.nm 1) (.seq (.sl (.var 0) (some (.con (.int 1))) none)) d178b0, .ret (.con (.bl true))]⟩
/-- none_shown -/
def d179 : IDef := ⟨3, 5, [.set 3 (.call 9 [.var 1, .blt .len [.var 0]]), .ite (.cmp .isn (.var 3) (.con .non)) [.ret (.con (.bl false))] [], .set 4 (.call 177 [.var 0, .var 3, .bin .add (.var 2) (.con (.int 1))]), .ret (.and (.call 178 [.var 4]) (.one (.call 0 [.ix (.var 4) (.con (.int 0)), .glb "NOUGHT" (.tup [.int 0, .int 1])])))]⟩
/-- most_shown -/
def d180 : IDef := ⟨5, 7, [.set 5 (.call 9 [.var 3, .blt .len [.var 0]]), .ite (.cmp .isn (.var 5) (.con .non)) [.ret (.con (.bl false))] [], .set 6 (.call 99 [.call 177 [.var 0, .var 5, .bin .add (.var 4) (.con (.int 1))], .var 1]), .ret (.and (.call 178 [.var 6]) (.one (.not (.call 0 [.var 2, .ix (.var 6) (.con (.int 0))]))))]⟩
/-- shows_none -/
def d181 : IDef := ⟨2, 4, [.asg (.tup [.nm 2, .nm 3]) (.call 175 [.var 0]), .ret (.call 179 [.var 2, .var 1, .var 3])]⟩
/-- shows_most -/
def d182 : IDef := ⟨4, 8, [.asg (.tup [.nm 4, .nm 5]) (.call 175 [.var 0]), .set 6 (.call 176 [.var 1, .var 5]), .set 7 (.call 7 [.var 2]), .ite (.cmp .isn (.var 7) (.con .non)) [.raise 0 (.con (.int 3))] [], .ret (.call 180 [.var 4, .var 6, .var 7, .var 3, .var 5])]⟩
/-- _law_int -/
def d183 : IDef := ⟨1, 1, [.ret (.and (.isin (.var 0) .int) (.one (.not (.isin (.var 0) .bool))))]⟩
/-- _law_signed -/
def d184 : IDef := ⟨1, 2, [.set 1 (.bin .sub (.bin .mod (.blt .int [.var 0]) (.con (.int 13))) (.con (.int 6))), .ret (.call 27 [.var 1, .bin .add (.con (.int 1)) (.bin .mod (.blt .int [.bin .fdiv (.var 0) (.con (.int 13))]) (.con (.int 2)))])]⟩
def d185e0 : IE := .call 184 [.bin .fdiv (.ix (.var 0) (.var 4)) (.ix (.lst [.con (.int 1), .con (.int 31), .con (.int 961)]) (.var 5))]
def d185b1 : List IS := [.app 3 (.blt .tuple [.comp (d185e0) (.nm 5) (.rng1 (.bin .add (.var 1) (.con (.int 1)))) [5] none])]
/-- _law_forms -/
def d185 : IDef := ⟨3, 6, [.set 3 (.lst []), .for_ (.nm 4) (.rng1 (.var 2)) d185b1, .ret (.blt .tuple [.var 3])]⟩
def d186e0 : IE := .call 28 [.ix (.var 3) (.var 5), .call 30 [.ix (.var 1) (.var 4), .ix (.ix (.var 0) (.var 4)) (.var 5)]]
def d186b1 : List IS := [.set 3 (.comp (d186e0) (.nm 5) (.rng1 (.bin .add (.var 2) (.con (.int 1)))) [5] none)]
/-- _law_weighed -/
def d186 : IDef := ⟨3, 6, [.set 3 (.bin .mul (.lst [.tup [.con (.int 0), .con (.int 1)]]) (.bin .add (.var 2) (.con (.int 1)))), .for_ (.nm 4) (.rng1 (.blt .len [.var 0])) d186b1, .ret (.var 3)]⟩
def d187b0 : List IS := [.ite (.or (.not (.tr (.isin (.var 2) .tuple))) (.or (.cmp .ne (.blt .len [.var 2]) (.con (.int 2))) (.or (.not (.tr (.call 183 [.ix (.var 2) (.con (.int 0))]))) (.one (.not (.tr (.call 183 [.ix (.var 2) (.con (.int 1))]))))))) [.ret (.con (.bl false))] [], .ite (.or (.cmp .lt (.ix (.var 2) (.con (.int 0))) (.con (.int 0))) (.or (.cmp .lt (.ix (.var 2) (.con (.int 1))) (.con (.int 1))) (.one (.cmp .ne (.call 27 [.ix (.var 2) (.con (.int 0)), .ix (.var 2) (.con (.int 1))]) (.var 2))))) [.ret (.con (.bl false))] []]
/-- _law_is_weighing -/
def d187 : IDef := ⟨2, 3, [.ite (.or (.not (.tr (.isin (.var 0) .tuple))) (.one (.cmp .ne (.blt .len [.var 0]) (.var 1)))) [.ret (.con (.bl false))] [], .for_ (.nm 2) (.seq (.var 0)) d187b0, .ret (.con (.bl true))]⟩
def d188e0 : IE := .call 28 [.ix (.var 5) (.var 6), .ix (.var 1) (.var 6)]
def d188e1 : IE := .var 7
def d188t2 : IE := .cmp .gt (.ix (.var 7) (.con (.int 0))) (.con (.int 0))
/-- _law_shows -/
def d188 : IDef := ⟨5, 8, [.ite (.not (.tr (.call 187 [.var 3, .blt .len [.var 0]]))) [.ret (.con (.bl false))] [], .set 5 (.call 186 [.var 0, .var 3, .var 4]), .ite (.cmp .isnn (.var 1) (.con .non)) [.set 5 (.comp (d188e0) (.nm 6) (.rng1 (.bin .add (.var 4) (.con (.int 1)))) [6] none)] [], .ite (.cmp .ne (.comp (d188e1) (.nm 7) (.seq (.sl (.var 5) (some (.con (.int 1))) none)) [7] (some (d188t2))) (.lst [])) [.ret (.con (.bl false))] [], .ite (.cmp .isn (.var 1) (.con .non)) [.ret (.cmp .lt (.ix (.ix (.var 5) (.con (.int 0))) (.con (.int 0))) (.con (.int 0)))] [], .ret (.not (.call 77 [.var 2, .ix (.var 5) (.con (.int 0))]))]⟩
def d189e0 : IE := .call 27 [.bin .mod (.blt .int [.ix (.var 3) (.bin .add (.con (.int 6)) (.var 15))]) (.con (.int 5)), .bin .add (.con (.int 1)) (.bin .mod (.blt .int [.bin .fdiv (.ix (.var 3) (.bin .add (.con (.int 6)) (.var 15))) (.con (.int 5))]) (.con (.int 3)))]
def d189b1 : List IS := [.ite (.not (.tr (.call 24 [.call 181 [.var 4, .var 9], .call 188 [.var 4, .con .non, .con .non, .var 9, .var 1]]))) [.ret (.con (.bl false))] [], .ite (.not (.tr (.call 24 [.call 182 [.call 25 [.var 4], .var 5, .var 6, .var 9], .call 188 [.var 4, .var 5, .var 6, .var 9, .var 1]]))) [.ret (.con (.bl false))] []]
def d189b2 : List IS := [.ite (.not (.tr (.call 24 [.call 182 [.var 4, .var 5, .var 12, .var 8], .call 188 [.var 4, .var 5, .var 12, .var 8, .var 1]]))) [.ret (.con (.bl false))] []]
def d189e3 : IE := .tup [.call 27 [.bin .mod (.blt .int [.ix (.var 3) (.bin .add (.con (.int 10)) (.var 15))]) (.con (.int 5)), .con (.int 2)], .tup [.con (.int 9), .con (.int 1)]]
def d189e4 : IE := .call 29 [.tup [.con (.int 0), .con (.int 1)], .var 17]
def d189b5 : List IS := [.set 16 (.bin .mul (.lst [.tup [.con (.int 0), .con (.int 1)]]) (.bin .add (.var 1) (.con (.int 1)))), .ixs 16 (.bin .add (.var 15) (.con (.int 1))) (.tup [.con (.int 1), .con (.int 1)]), .app 14 (.blt .tuple [.bin .add (.lst [.call 29 [.tup [.con (.int 0), .con (.int 1)], .ix (.ix (.var 13) (.var 15)) (.con (.int 0))]]) (.sl (.var 16) (some (.con (.int 1))) none)]), .app 14 (.blt .tuple [.bin .add (.lst [.ix (.ix (.var 13) (.var 15)) (.con (.int 1))]) (.comp (d189e4) (.nm 17) (.seq (.sl (.var 16) (some (.con (.int 1))) none)) [17] none)])]
/-- law -/
def d189 : IDef := ⟨1, 18, [.set 1 (.bin .mod (.call 26 [.var 0, .con (.int 0)]) (.con (.int 3))), .set 2 (.bin .add (.con (.int 1)) (.bin .mod (.call 26 [.var 0, .con (.int 1)]) (.con (.int 4)))), .set 3 (.call 31 [.var 0, .con (.int 2), .con (.int 12)]), .set 4 (.call 185 [.sl (.var 3) none (some (.con (.int 4))), .var 1, .var 2]), .set 5 (.ix (.call 185 [.sl (.var 3) (some (.con (.int 4))) (some (.con (.int 5))), .var 1, .con (.int 1)]) (.con (.int 0))), .set 6 (.call 184 [.ix (.var 3) (.con (.int 5))]), .set 7 (.blt .tuple [.comp (d189e0) (.nm 15) (.rng1 (.var 2)) [15] none]), .set 8 (.blt .tuple [.bin .mul (.lst [.tup [.con (.int 1), .con (.int 1)]]) (.var 2)]), .for_ (.nm 9) (.seq (.lst [.var 7, .var 8, .blt .tuple [.bin .mul (.lst [.tup [.con (.int 0), .con (.int 1)]]) (.var 2)], .sl (.var 7) (some (.con (.int 1))) none, .bin .add (.var 7) (.tup [.tup [.con (.int 1), .con (.int 1)]]), .con .non, .con (.int 7), .bin .add (.tup [.tup [.neg (.con (.int 1)), .con (.int 1)]]) (.sl (.var 7) (some (.con (.int 1))) none)])) d189b1, .set 10 (.call 186 [.var 4, .var 8, .var 1]), .set 10 (.call 28 [.ix (.var 10) (.con (.int 0)), .ix (.var 5) (.con (.int 0))]), .set 11 (.call 29 [.var 10, .tup [.con (.int 1), .con (.int 7)]]), .for_ (.nm 12) (.seq (.lst [.var 10, .var 11, .call 28 [.var 10, .tup [.con (.int 3), .con (.int 2)]]])) d189b2, .set 13 (.blt .tuple [.comp (d189e3) (.nm 15) (.rng1 (.var 1)) [15] none]), .set 14 (.lst []), .for_ (.nm 15) (.rng1 (.var 1)) d189b5, .ret (.call 24 [.call 173 [.call 25 [.var 13]], .blt .tuple [.var 14]])]⟩
end PF
end

section
set_option linter.all false
set_option maxRecDepth 100000
/-! M1: evaluating by simp; ratios. -/
namespace PF
open PySem L2
/-! ### evaluation -/
theorem at0 {α : Type} {x : α} {xs : List α} : atI (x :: xs) 0 = some x := by simp [atI, ixN]
theorem at1 {α : Type} {x y : α} {xs : List α} : atI (x :: y :: xs) 1 = some y := by
  unfold atI ixN
  rw [if_pos (by decide), if_pos (by simp only [List.length_cons]; omega)]
  rfl
theorem at2 {α : Type} {x y z : α} {xs : List α} : atI (x :: y :: z :: xs) 2 = some z := by
  unfold atI ixN
  rw [if_pos (by decide), if_pos (by simp only [List.length_cons]; omega)]
  rfl
theorem eqv_int {i j : Int} : eqv (.int i) (.int j) = decide (i = j) := by
  unfold eqv
  by_cases h : i = j
  · subst h; simp
  · rw [decide_eq_false h]; simpa using h
theorem grd_int {i j : Int} {r : R Bd} : PF.grd (okD (.int i) = true ∧ okD (.int j) = true) r = r := if_pos ⟨rfl, rfl⟩
theorem bq_true {b : Bool} : (b == true) = b := by cases b <;> simp
theorem bq_false {b : Bool} : (b == false) = !b := by cases b <;> simp
theorem eqv_bl {i j : Bool} : eqv (.bl i) (.bl j) = (i == j) := by simp only [eqv]
theorem grd_bl {i j : Bool} {r : R Bd} : PF.grd (okD (.bl i) = true ∧ okD (.bl j) = true) r = r := if_pos ⟨rfl, rfl⟩
theorem grd_sz {n : Nat} {r : R Bd} (h : n ≤ 1000) : PF.grd (n ≤ SZ) r = r := if_pos (by unfold SZ; omega)
/-- an int of few bits -/
def Bt (n : Nat) (i : Int) : Prop := i.natAbs < 2 ^ n
instance {n : Nat} {i : Int} : Decidable (Bt n i) := inferInstanceAs (Decidable (i.natAbs < 2 ^ n))
theorem Bt.log {n : Nat} {i : Int} (h : Bt n i) (h0 : 0 < n) : i.natAbs.log2 < n := by
  by_cases e : i.natAbs = 0
  · rw [e]; simpa using h0
  · exact (Nat.log2_lt e).mpr h
theorem mul_ev {i j : Int} (hi : Bt 5000 i) (hj : Bt 5000 j) : binD .mul (.int i) (.int j) = .ok (.val (.int (i * j))) := by
  show PF.grd _ _ = _
  have := hi.log (by decide)
  have := hj.log (by decide)
  exact if_pos (.inl (by omega))
theorem mul_small {i j : Int} (hj : Bt 64 j) : binD .mul (.int i) (.int j) = .ok (.val (.int (i * j))) := if_pos (.inr hj)
theorem fdiv_ev {i j : Int} (h : 0 < j) (hj : Bt 8990 j) : binD .fdiv (.int i) (.int j) = .ok (.val (.int (i / j))) := if_pos ⟨h, by have := hj.log (by decide); omega⟩
theorem mod_ev {i j : Int} (h : 0 < j) : binD .mod (.int i) (.int j) = .ok (.val (.int (i % j))) := if_pos h
theorem add_ev {i j : Int} : binD .add (.int i) (.int j) = .ok (.val (.int (i + j))) := rfl
theorem sub_ev {i j : Int} : binD .sub (.int i) (.int j) = .ok (.val (.int (i - j))) := rfl
theorem bind_ok {α β : Type} {a : α} {f : α → R β} : (R.ok a).bind f = f a := rfl
theorem ite_dec {α : Type} {c : Prop} [Decidable c] {x y : α} : (if decide c = true then x else y) = if c then x else y := by
  by_cases h : c
  · rw [if_pos h, if_pos (decide_eq_true h)]
  · rw [if_neg h, if_neg (by rw [decide_eq_false h]; exact Bool.false_ne_true)]
theorem it_lst {xs : List D} : itemsD (.lst xs) = .ok xs := rfl
theorem it_tup {xs : List D} : itemsD (.tup xs) = .ok xs := rfl
theorem sq_lst {xs : List D} : seqD (.lst xs) = .ok xs := rfl
theorem sq_tup {xs : List D} : seqD (.tup xs) = .ok xs := rfl
theorem tuple_lst {xs : List D} : tupleF [.lst xs] = .ok (.val (.tup xs)) := rfl
theorem tuple_tup {xs : List D} : tupleF [.tup xs] = .ok (.val (.tup xs)) := rfl
theorem len_lst {xs : List D} : lenF [.lst xs] = .ok (.val (.int xs.length)) := rfl
theorem len_tup {xs : List D} : lenF [.tup xs] = .ok (.val (.int xs.length)) := rfl
theorem len_scr {xs : List Int} : lenF [.scr xs] = .ok (.val (.int xs.length)) := rfl
theorem int_int {i : Int} : intF [.int i] = .ok (.val (.int i)) := rfl
theorem nolB_val {d : D} : nolB (.val d) = nol d := Eq.trans rfl rfl
theorem nolB_own {xs : List D} : nolB (.own xs) = nols xs := Eq.trans rfl rfl
theorem nol_non : nol .non = true := Eq.trans rfl rfl
theorem nol_bl {b : Bool} : nol (.bl b) = true := Eq.trans rfl rfl
theorem nol_int {b : Int} : nol (.int b) = true := Eq.trans rfl rfl
theorem nol_str {b : Str} : nol (.str b) = true := Eq.trans rfl rfl
theorem nol_tup {b : List D} : nol (.tup b) = nols b := by simp [nol]
theorem nol_lst {b : List D} : nol (.lst b) = false := by simp [nol]
theorem nol_fn {b : Nat} : nol (.fn b) = true := Eq.trans rfl rfl
theorem nol_scr {b : List Int} : nol (.scr b) = false := by simp [nol]
theorem nols_nil : nols [] = true := by simp [nols]
theorem nols_cons {x : D} {xs : List D} : nols (x :: xs) = (nol x && nols xs) := by simp [nols]
def afterK (M : Nat → Bool) (k : Nat) (b : Bd) (ρ : SEnv) : SEnv := if nolB b = true then ρ else unown M k ρ
theorem after_k {M : Nat → Bool} {b : Bd} {ρ : SEnv} : after M b ρ = afterK M 0 b ρ := Eq.trans rfl rfl
theorem afterK_nil {M : Nat → Bool} {k : Nat} {b : Bd} : afterK M k b [] = [] := by unfold afterK; split <;> rfl
theorem afterK_non {M : Nat → Bool} {k : Nat} {b : Bd} {r : SEnv} : afterK M k b (none :: r) = none :: afterK M (k + 1) b r := by unfold afterK; split <;> simp [unown]
theorem afterK_val {M : Nat → Bool} {k : Nat} {b : Bd} {d : D} {r : SEnv} : afterK M k b (some (.val d) :: r) = some (.val d) :: afterK M (k + 1) b r := by unfold afterK; split <;> simp [unown]
theorem afterK_own {M : Nat → Bool} {k : Nat} {b : Bd} {d : List D} {r : SEnv} : afterK M k b (some (.own d) :: r) = (if (nolB b || !(M k)) = true then some (.own d) else some (.val (.lst d))) :: afterK M (k + 1) b r := by
  unfold afterK
  cases nolB b
  · cases h : M k <;> simp [unown, h]
  · simp
def rng1F (d : D) : R (List D) := match d with
  | .int n => if near n then .ok (rngD 0 n.toNat) else .bad
  | _ => .bad
def rng2F (d e : D) : R (List D) := match d, e with
  | .int i, .int j => if near i ∧ near j then .ok (rngD i (j - i).toNat) else .bad
  | _, _ => .bad
theorem rng1F_nat {n : Nat} (h : n ≤ 1000000) : rng1F (.int (n : Int)) = .ok (rngD 0 n) := by
  unfold rng1F
  dsimp only
  rw [if_pos (by unfold near; omega), Int.toNat_natCast]
theorem rng1F_int {n : Int} (h : 0 ≤ n) (h2 : n ≤ 1000000) : rng1F (.int n) = .ok (rngD 0 n.toNat) := by
  unfold rng1F
  dsimp only
  rw [if_pos (by unfold near; omega)]
theorem rng2F_int {i j : Int} (h : -1000000 ≤ i) (h2 : i ≤ 1000000) (h3 : -1000000 ≤ j) (h4 : j ≤ 1000000) : rng2F (.int i) (.int j) = .ok (rngD i (j - i).toNat) := by
  unfold rng2F
  dsimp only
  rw [if_pos (by unfold near; omega)]
section
variable {m : Nat → List D → R Bd} {η : Env} {a b : IE}
theorem iev_seq : (IIt.seq a).ev m η = (a.ev m η).bind fun x => itemsD x.d := rfl
theorem iev_rng1 : (IIt.rng1 a).ev m η = (a.ev m η).bind fun x => rng1F x.d := rfl
theorem iev_rng2 : (IIt.rng2 a b).ev m η = (a.ev m η).bind fun x => (b.ev m η).bind fun y => rng2F x.d y.d := rfl
theorem iev_enum : (IIt.enum a).ev m η = (a.ev m η).bind fun x => (seqD x.d).bind fun xs => .ok (enumFrom 0 xs) := rfl
theorem iev_zip : (IIt.zip a b).ev m η = (a.ev m η).bind fun x => (b.ev m η).bind fun y => (seqD x.d).bind fun xs => (seqD y.d).bind fun ys => .ok (zipD xs ys) := rfl
end
/-! ### ratios -/
def rp (q : Rat) : D := .tup [.int q.num, .int q.den]
def Sz (n : Nat) (q : Rat) : Prop := Bt n q.num ∧ q.den < 2 ^ n
theorem Bt.mul {a b : Nat} {i j : Int} (h1 : Bt a i) (h2 : Bt b j) : Bt (a + b) (i * j) := by
  unfold Bt at *
  rw [Int.natAbs_mul, Nat.pow_add]
  exact Nat.mul_lt_mul'' h1 h2
theorem Bt.add {a b : Nat} {i j : Int} (h1 : Bt a i) (h2 : Bt b j) : Bt (max a b + 1) (i + j) := by
  unfold Bt at *
  have e1 := Nat.pow_le_pow_right (n := 2) (by decide) (Nat.le_max_left a b)
  have e2 := Nat.pow_le_pow_right (n := 2) (by decide) (Nat.le_max_right a b)
  have := Int.natAbs_add_le i j
  rw [Nat.pow_succ]
  omega
theorem Bt.mono {a b : Nat} {i : Int} (h : Bt a i) (l : a ≤ b) : Bt b i := Nat.lt_of_lt_of_le h (Nat.pow_le_pow_right (by decide) l)
theorem Sz.den {n : Nat} {q : Rat} (h : Sz n q) : Bt n q.den := h.2
/-- the ratio in lowest terms -/
theorem low_pos {a b : Int} (hb : 0 < b) : ((a : Rat) / (b : Rat)).num = a / (Nat.gcd a.natAbs b.natAbs : Nat) ∧ (((a : Rat) / (b : Rat)).den : Int) = b / (Nat.gcd a.natAbs b.natAbs : Nat) := by
  obtain ⟨n, rfl⟩ := Int.eq_ofNat_of_zero_le (Int.le_of_lt hb)
  have hn : n ≠ 0 := by intro e; subst e; simp at hb
  have e : ((a : Rat) / ((n : Int) : Rat)) = mkRat a n := by
    rw [Rat.mkRat_eq_div]
    rfl
  rw [e, Rat.num_mkRat, Rat.den_mkRat, if_neg hn, if_neg hn, Nat.gcd_comm]
  exact ⟨rfl, by rw [Int.natAbs_natCast, Int.natCast_ediv]⟩
theorem neg_div_neg {a b : Int} : (((-a : Int) : Rat) / ((-b : Int) : Rat)) = (a : Rat) / (b : Rat) := by
  rw [Rat.intCast_neg, Rat.intCast_neg]
  grind
theorem gcd_pos {a b : Int} (h : b ≠ 0) : 0 < (Nat.gcd a.natAbs b.natAbs : Int) := by
  have : 0 < Nat.gcd a.natAbs b.natAbs := Nat.gcd_pos_of_pos_right _ (by omega)
  omega
theorem gcd_bt {a b : Int} {n : Nat} (h : b ≠ 0) (hb : Bt n b) : Bt n (Nat.gcd a.natAbs b.natAbs : Nat) := by
  have : Nat.gcd a.natAbs b.natAbs ≤ b.natAbs := Nat.gcd_le_right _ (by omega)
  unfold Bt at *
  rw [Int.natAbs_natCast]
  omega
def sRatio (m : Nat → List D → R Bd) : Prop := ∀ a b : Int, b ≠ 0 → Bt 8990 b → m 61 [.int a, .int b] = .ok (.val (rp ((a : Rat) / (b : Rat))))
theorem ratio_run {m : Nat → List D → R Bd} {a b : Int} (hb : b ≠ 0) (hz : Bt 8990 b) : d61.run m [.int a, .int b] = .ok (.val (rp ((a : Rat) / (b : Rat)))) := by
  unfold d61
  by_cases h : b < 0
  · have g := gcd_pos (a := -a) (b := -b) (by omega)
    have gb := gcd_bt (a := -a) (b := -b) (n := 8990) (by omega) (by unfold Bt at *; omega)
    have q := low_pos (a := -a) (b := -b) (by omega)
    dsimp! [h, gcdF, fdiv_ev g gb]
    rw [← neg_div_neg (a := a) (b := b)]
    unfold rp
    rw [q.1, q.2]
  · have g := gcd_pos (a := a) (b := b) (by omega)
    have gb := gcd_bt (a := a) (b := b) (n := 8990) (by omega) hz
    have q := low_pos (a := a) (b := b) (by omega)
    dsimp! [h, gcdF, fdiv_ev g gb]
    unfold rp
    rw [q.1, q.2]
theorem ratio_of {q : Rat} {a b : Int} (hb : b ≠ 0) (h : q * b = a) : (a : Rat) / (b : Rat) = q := by
  have : (b : Rat) ≠ 0 := by
    intro e
    exact hb (by exact_mod_cast e)
  rw [← h]
  grind
theorem den_ne (q : Rat) : ((q.den : Int) : Rat) ≠ 0 := by
  intro e
  have h : (q.den : Int) = 0 := by exact_mod_cast e
  have := q.den_nz
  omega
theorem num_den (q : Rat) : (q.num : Rat) = q * ((q.den : Int) : Rat) := by
  have h := Rat.mkRat_self q
  rw [Rat.mkRat_eq_div] at h
  have k := den_ne q
  have e : ((q.den : Int) : Rat) = (q.den : Rat) := rfl
  rw [e] at k ⊢
  generalize (q.den : Rat) = x at h k
  generalize (q.num : Rat) = y at h
  subst h
  grind
theorem den_pos (q : Rat) : (0 : Int) < q.den := by have := q.den_pos; omega
theorem add_is {p q : Rat} : ((p.num * q.den + q.num * p.den : Int) : Rat) / ((p.den * q.den : Int) : Rat) = p + q := by
  refine ratio_of (by have := den_pos p; have := den_pos q; exact Int.mul_ne_zero (by omega) (by omega)) ?_
  have h1 := num_den p
  have h2 := num_den q
  rw [Rat.intCast_add, Rat.intCast_mul, Rat.intCast_mul, Rat.intCast_mul]
  grind
theorem sub_is {p q : Rat} : ((p.num * q.den - q.num * p.den : Int) : Rat) / ((p.den * q.den : Int) : Rat) = p - q := by
  refine ratio_of (by have := den_pos p; have := den_pos q; exact Int.mul_ne_zero (by omega) (by omega)) ?_
  have h1 := num_den p
  have h2 := num_den q
  rw [Rat.intCast_sub, Rat.intCast_mul, Rat.intCast_mul, Rat.intCast_mul]
  grind
theorem mul_is {p q : Rat} : ((p.num * q.num : Int) : Rat) / ((p.den * q.den : Int) : Rat) = p * q := by
  refine ratio_of (by have := den_pos p; have := den_pos q; exact Int.mul_ne_zero (by omega) (by omega)) ?_
  have h1 := num_den p
  have h2 := num_den q
  rw [Rat.intCast_mul, Rat.intCast_mul]
  grind
theorem den_one {q : Rat} (h : (q.den : Int) = 1) : q = (q.num : Rat) := by
  have := num_den q
  rw [h] at this
  grind
theorem rp_int {i : Int} : rp (i : Rat) = .tup [.int i, .int 1] := by
  unfold rp
  rw [Rat.num_intCast, Rat.den_intCast]
  rfl
/-- what a sum of few bits takes -/
theorem Sz.dd {n : Nat} {p q : Rat} (hp : Sz n p) (hq : Sz n q) : Bt (n + n) ((p.den : Int) * q.den) := hp.den.mul hq.den
theorem dd_ne (p q : Rat) : (p.den : Int) * q.den ≠ 0 := by have := den_pos p; have := den_pos q; exact Int.mul_ne_zero (by omega) (by omega)
theorem plus_run {m : Nat → List D → R Bd} (hm : sRatio m) {p q : Rat} (hp : Sz 4000 p) (hq : Sz 4000 q) : d62.run m [rp p, rp q] = .ok (.val (rp (p + q))) := by
  have e1 := mul_ev (hp.1.mono (by decide)) (hq.den.mono (by decide : 4000 ≤ 5000))
  have e2 := mul_ev (hq.1.mono (by decide)) (hp.den.mono (by decide : 4000 ≤ 5000))
  have e3 := mul_ev (hp.den.mono (by decide : 4000 ≤ 5000)) (hq.den.mono (by decide : 4000 ≤ 5000))
  have e4 := hm (p.num * q.den + q.num * p.den) (p.den * q.den) (dd_ne p q) ((hp.dd hq).mono (by decide))
  rw [add_is] at e4
  have hi : (p.den : Int) = 1 → (q.den : Int) = 1 → rp (p + q) = .tup [.int (p.num + q.num), .int 1] := fun h1 h2 => by
    rw [← rp_int, Rat.intCast_add, ← den_one h1, ← den_one h2]
  unfold d62
  by_cases h1 : (p.den : Int) = 1
  · by_cases h2 : (q.den : Int) = 1
    · rw [hi h1 h2]
      unfold rp
      dsimp! [h1, h2]
    · unfold rp at *
      dsimp! [eq_true h1, h2, e1, e2, e3, e4]
  · unfold rp at *
    dsimp! [h1, e1, e2, e3, e4]
theorem minus_run {m : Nat → List D → R Bd} (hm : sRatio m) {p q : Rat} (hp : Sz 4000 p) (hq : Sz 4000 q) : d63.run m [rp p, rp q] = .ok (.val (rp (p - q))) := by
  have e1 := mul_ev (hp.1.mono (by decide)) (hq.den.mono (by decide : 4000 ≤ 5000))
  have e2 := mul_ev (hq.1.mono (by decide)) (hp.den.mono (by decide : 4000 ≤ 5000))
  have e3 := mul_ev (hp.den.mono (by decide : 4000 ≤ 5000)) (hq.den.mono (by decide : 4000 ≤ 5000))
  have e4 := hm (p.num * q.den - q.num * p.den) (p.den * q.den) (dd_ne p q) ((hp.dd hq).mono (by decide))
  rw [sub_is] at e4
  have hi : (p.den : Int) = 1 → (q.den : Int) = 1 → rp (p - q) = .tup [.int (p.num - q.num), .int 1] := fun h1 h2 => by
    rw [← rp_int, Rat.intCast_sub, ← den_one h1, ← den_one h2]
  unfold d63
  by_cases h1 : (p.den : Int) = 1
  · by_cases h2 : (q.den : Int) = 1
    · rw [hi h1 h2]
      unfold rp
      dsimp! [h1, h2]
    · unfold rp at *
      dsimp! [eq_true h1, h2, e1, e2, e3, e4]
  · unfold rp at *
    dsimp! [h1, e1, e2, e3, e4]
theorem times_run {m : Nat → List D → R Bd} (hm : sRatio m) {p q : Rat} (hp : Sz 4000 p) (hq : Sz 4000 q) : d64.run m [rp p, rp q] = .ok (.val (rp (p * q))) := by
  have e1 := mul_ev (hp.1.mono (by decide)) (hq.1.mono (by decide : 4000 ≤ 5000))
  have e3 := mul_ev (hp.den.mono (by decide : 4000 ≤ 5000)) (hq.den.mono (by decide : 4000 ≤ 5000))
  have e4 := hm (p.num * q.num) (p.den * q.den) (dd_ne p q) ((hp.dd hq).mono (by decide))
  rw [mul_is] at e4
  have hi : (p.den : Int) = 1 → (q.den : Int) = 1 → rp (p * q) = .tup [.int (p.num * q.num), .int 1] := fun h1 h2 => by
    rw [← rp_int, Rat.intCast_mul, ← den_one h1, ← den_one h2]
  unfold d64
  by_cases h1 : (p.den : Int) = 1
  · by_cases h2 : (q.den : Int) = 1
    · rw [hi h1 h2]
      unfold rp
      dsimp! [h1, h2, e1]
    · unfold rp at *
      dsimp! [eq_true h1, h2, e1, e3, e4]
  · unfold rp at *
    dsimp! [h1, e1, e3, e4]
theorem less_run {m : Nat → List D → R Bd} {p q : Rat} (hp : Sz 4000 p) (hq : Sz 4000 q) : d0.run m [rp p, rp q] = .ok (.val (.bl (decide (p < q)))) := by
  have e1 := mul_ev (hp.1.mono (by decide)) (hq.den.mono (by decide : 4000 ≤ 5000))
  have e2 := mul_ev (hq.1.mono (by decide)) (hp.den.mono (by decide : 4000 ≤ 5000))
  have e : decide (p < q) = decide (p.num * q.den < q.num * p.den) := decide_eq_decide.mpr (Rat.lt_iff p q)
  rw [e]
  unfold d0 rp
  dsimp! [e1, e2]
/-! ### the law's own ratios: Euclid by turns -/
theorem low_turn {m : Nat → List D → R Bd} {a b t r : Option Bd} {x y : Nat} {d : D} (ha : ∃ i, a = some (.val (.int i))) (hb : ∃ i, b = some (.val (.int i))) (hr : r = none ∨ ∃ i, r = some (.val (.int i))) (hy : y ≠ 0) :
    exs m d27b0 [a, b, some (.val (.int x)), some (.val (.int y)), some (.val d), r] = .ok [a, b, some (.val (.int y)), some (.val (.int (x % y : Nat))), some (.val d), some (.val (.int (x % y : Nat)))] .nx := by
  obtain ⟨i, rfl⟩ := ha
  obtain ⟨j, rfl⟩ := hb
  have h0 : ((y : Int) = 0) = False := by simp; exact hy
  have hp : (0 : Int) < y := by omega
  have hm := mod_ev (i := x) hp
  rcases hr with rfl | ⟨l, rfl⟩ <;> (unfold d27b0; dsimp! [h0, intF, hm]; rfl)
theorem low_stop {m : Nat → List D → R Bd} {a b t r : Option Bd} {x : Nat} {d : D} (ha : ∃ i, a = some (.val (.int i))) (hb : ∃ i, b = some (.val (.int i))) (hr : r = none ∨ ∃ i, r = some (.val (.int i))) :
    exs m d27b0 [a, b, some (.val (.int x)), some (.val (.int 0)), some (.val d), r] = .ok [a, b, some (.val (.int x)), some (.val (.int 0)), some (.val d), r] .bk := by
  obtain ⟨i, rfl⟩ := ha
  obtain ⟨j, rfl⟩ := hb
  rcases hr with rfl | ⟨l, rfl⟩ <;> (unfold d27b0; dsimp! [])
theorem euclid (m : Nat → List D → R Bd) {a b : Option Bd} (ha : ∃ i, a = some (.val (.int i))) (hb : ∃ i, b = some (.val (.int i))) : ∀ (k : Nat) (items : List D) (x y : Nat) (t r : Option Bd), y < 2 ^ k → 2 * k ≤ items.length → (r = none ∨ ∃ i, r = some (.val (.int i))) →
    ∃ t' r', loopF (putS (.nm 4)) (fun ρ1 => exs m d27b0 ρ1) items [a, b, some (.val (.int x)), some (.val (.int y)), t, r] = .ok [a, b, some (.val (.int (Nat.gcd x y : Nat))), some (.val (.int 0)), t', r'] .nx
  | 0, items, x, y, t, r, hy, hl, hr => by
    have e : y = 0 := by simpa using hy
    subst e
    rw [Nat.gcd_zero_right]
    cases items with
    | nil => exact ⟨t, r, rfl⟩
    | cons d ds =>
      refine ⟨some (.val d), r, ?_⟩
      show (match exs m d27b0 [a, b, some (.val (.int x)), some (.val (.int ((0 : Nat) : Int))), some (.val d), r] with
        | .ok ρ2 .nx => _ | .ok ρ2 .ct => _ | .ok ρ2 .bk => SR.ok ρ2 .nx | .ok ρ2 (.rt b) => _ | .exc c k ρ2 => _ | .bad => _) = _
      rw [show (((0 : Nat) : Int)) = 0 from rfl, low_stop (t := t) ha hb hr]
  | k + 1, items, x, y, t, r, hy, hl, hr => by
    match items, hl with
    | d1 :: d2 :: ds, hl =>
      by_cases h0 : y = 0
      · subst h0
        rw [Nat.gcd_zero_right]
        refine ⟨some (.val d1), r, ?_⟩
        show (match exs m d27b0 [a, b, some (.val (.int x)), some (.val (.int ((0 : Nat) : Int))), some (.val d1), r] with
          | .ok ρ2 .nx => _ | .ok ρ2 .ct => _ | .ok ρ2 .bk => SR.ok ρ2 .nx | .ok ρ2 (.rt b) => _ | .exc c k ρ2 => _ | .bad => _) = _
        rw [show (((0 : Nat) : Int)) = 0 from rfl, low_stop (t := t) ha hb hr]
      · have s1 : loopF (putS (.nm 4)) (fun ρ1 => exs m d27b0 ρ1) (d1 :: d2 :: ds) [a, b, some (.val (.int x)), some (.val (.int y)), t, r] =
            loopF (putS (.nm 4)) (fun ρ1 => exs m d27b0 ρ1) (d2 :: ds) [a, b, some (.val (.int y)), some (.val (.int (x % y : Nat))), some (.val d1), some (.val (.int (x % y : Nat)))] := by
          show (match exs m d27b0 [a, b, some (.val (.int x)), some (.val (.int y)), some (.val d1), r] with
            | .ok ρ2 .nx => loopF (putS (.nm 4)) (fun ρ1 => exs m d27b0 ρ1) (d2 :: ds) ρ2 | .ok ρ2 .ct => _ | .ok ρ2 .bk => _ | .ok ρ2 (.rt b) => _ | .exc c k ρ2 => _ | .bad => _) = _
          rw [low_turn (t := t) ha hb hr h0]
        rw [s1]
        have g1 : Nat.gcd x y = Nat.gcd y (x % y) := by rw [Nat.gcd_comm x y, Nat.gcd_rec y x, Nat.gcd_comm]
        by_cases h1 : x % y = 0
        · rw [g1, h1, Nat.gcd_zero_right]
          refine ⟨some (.val d2), some (.val (.int 0)), ?_⟩
          show (match exs m d27b0 [a, b, some (.val (.int y)), some (.val (.int ((0 : Nat) : Int))), some (.val d2), some (.val (.int ((0 : Nat) : Int)))] with
            | .ok ρ2 .nx => _ | .ok ρ2 .ct => _ | .ok ρ2 .bk => SR.ok ρ2 .nx | .ok ρ2 (.rt b) => _ | .exc c k ρ2 => _ | .bad => _) = _
          rw [show (((0 : Nat) : Int)) = 0 from rfl, low_stop (t := t) ha hb (.inr ⟨_, rfl⟩)]
        · have s2 : loopF (putS (.nm 4)) (fun ρ1 => exs m d27b0 ρ1) (d2 :: ds) [a, b, some (.val (.int y)), some (.val (.int (x % y : Nat))), some (.val d1), some (.val (.int (x % y : Nat)))] =
              loopF (putS (.nm 4)) (fun ρ1 => exs m d27b0 ρ1) ds [a, b, some (.val (.int (x % y : Nat))), some (.val (.int (y % (x % y) : Nat))), some (.val d2), some (.val (.int (y % (x % y) : Nat)))] := by
            show (match exs m d27b0 [a, b, some (.val (.int y)), some (.val (.int (x % y : Nat))), some (.val d2), some (.val (.int (x % y : Nat)))] with
              | .ok ρ2 .nx => loopF (putS (.nm 4)) (fun ρ1 => exs m d27b0 ρ1) ds ρ2 | .ok ρ2 .ct => _ | .ok ρ2 .bk => _ | .ok ρ2 (.rt b) => _ | .exc c k ρ2 => _ | .bad => _) = _
            rw [low_turn (t := t) ha hb (.inr ⟨_, rfl⟩) h1]
          rw [s2]
          have g2 : Nat.gcd y (x % y) = Nat.gcd (x % y) (y % (x % y)) := by rw [Nat.gcd_comm y (x % y), Nat.gcd_rec (x % y) y, Nat.gcd_comm]
          rw [g1, g2]
          have hlt : y % (x % y) < 2 ^ k := by
            have l1 : x % y < y := Nat.mod_lt _ (by omega)
            have l2 : y % (x % y) < x % y := Nat.mod_lt _ (by omega)
            have l3 : y % (x % y) + (x % y) ≤ y := by
              have := Nat.div_add_mod y (x % y)
              have h3 : 1 ≤ y / (x % y) := Nat.div_pos (by omega) (by omega)
              have h4 : x % y * 1 ≤ x % y * (y / (x % y)) := Nat.mul_le_mul_left _ h3
              omega
            rw [Nat.pow_succ] at hy
            omega
          exact euclid m ha hb k ds _ _ _ _ hlt (by simp only [List.length_cons] at hl; omega) (.inr ⟨_, rfl⟩)
theorem rng_len (lo : Int) (n : Nat) : (rngD lo n).length = n := by unfold rngD; rw [List.length_map, List.length_range]
def sLow (m : Nat → List D → R Bd) : Prop := ∀ a b : Int, 0 < b → Bt 4400 b → m 27 [.int a, .int b] = .ok (.val (rp ((a : Rat) / (b : Rat))))
theorem low_run {m : Nat → List D → R Bd} {a b : Int} (hb : 0 < b) (hz : Bt 4400 b) : d27.run m [.int a, .int b] = .ok (.val (rp ((a : Rat) / (b : Rat)))) := by
  have g := gcd_pos (a := a) (b := b) (by omega)
  have gb := (gcd_bt (a := a) (by omega) hz).mono (by decide : 4400 ≤ 8990)
  have q := low_pos (a := a) hb
  have ea : (if a < 0 then -a else a) = (a.natAbs : Int) := by split <;> omega
  have eb : b = (b.natAbs : Int) := by omega
  obtain ⟨t', r', h⟩ := euclid m (a := some (.val (.int a))) (b := some (.val (.int b))) ⟨_, rfl⟩ ⟨_, rfl⟩ 4400 (rngD 0 9000) a.natAbs b.natAbs none none hz (by rw [rng_len]; decide) (.inl rfl)
  rw [← eb] at h
  unfold d27
  dsimp! [absF, ea, show rng1F (.int 9000) = .ok (rngD 0 9000) from rng1F_int (by decide) (by decide), h, fdiv_ev g gb]
  unfold rp
  rw [q.1, q.2]
end PF

end

section
set_option linter.all false
set_option maxRecDepth 100000
/-! M2: loops and lists; the law's own ratios; shapes. -/
namespace PF
open PySem L2
theorem compF_map {put : D → Env → R Env} {test : Env → R Bool} {elt : Env → R Bd} {η : Env} {f : D → D} : ∀ {items : List D}, (∀ x ∈ items, ∃ η1, put x η = .ok η1 ∧ test η1 = .ok true ∧ ∃ b, elt η1 = .ok b ∧ b.d = f x) → compF put test elt η items = .ok (items.map f)
  | [], _ => rfl
  | x :: r, h => by
    obtain ⟨η1, h1, h2, b, h3, h4⟩ := h x List.mem_cons_self
    unfold compF
    rw [h1]
    dsimp only
    rw [h2]
    dsimp only
    rw [h3]
    dsimp only
    rw [compF_map fun y hy => h y (List.mem_cons_of_mem _ hy), List.map_cons, h4]
theorem compF_filter {put : D → Env → R Env} {test : Env → R Bool} {elt : Env → R Bd} {η : Env} {f : D → D} {p : D → Bool} : ∀ {items : List D}, (∀ x ∈ items, ∃ η1, put x η = .ok η1 ∧ test η1 = .ok (p x) ∧ (p x = true → ∃ b, elt η1 = .ok b ∧ b.d = f x)) → compF put test elt η items = .ok ((items.filter p).map f)
  | [], _ => rfl
  | x :: r, h => by
    obtain ⟨η1, h1, h2, h3⟩ := h x List.mem_cons_self
    have ih := compF_filter (put := put) (test := test) (elt := elt) (η := η) (f := f) (p := p) (items := r) fun y hy => h y (List.mem_cons_of_mem _ hy)
    unfold compF
    rw [h1]
    dsimp only
    rw [h2]
    cases hp : p x with
    | true =>
      obtain ⟨b, h4, h5⟩ := h3 hp
      dsimp only
      rw [h4]
      dsimp only
      rw [ih, List.filter_cons_of_pos hp, List.map_cons, h5]
    | false =>
      dsimp only
      rw [ih, List.filter_cons_of_neg (by rw [hp]; exact Bool.false_ne_true)]
/-- a loop that goes through: the invariant by the items that are done -/
theorem loopF_inv {put : D → SEnv → Option SEnv} {body : SEnv → SR} {I : List D → SEnv → Prop} : ∀ {items done : List D} {ρ : SEnv}, I done ρ → (∀ d1 x r, done ++ items = d1 ++ x :: r → done.length ≤ d1.length → ∀ ρ, I d1 ρ → ∃ ρ1 ρ2, put x ρ = some ρ1 ∧ (body ρ1 = .ok ρ2 .nx ∨ body ρ1 = .ok ρ2 .ct) ∧ I (d1 ++ [x]) ρ2) →
    ∃ ρ', loopF put body items ρ = .ok ρ' .nx ∧ I (done ++ items) ρ'
  | [], done, ρ, h0, _ => ⟨ρ, rfl, by rw [List.append_nil]; exact h0⟩
  | x :: r, done, ρ, h0, h => by
    obtain ⟨ρ1, ρ2, h1, h2, h3⟩ := h done x r rfl (Nat.le_refl _) ρ h0
    obtain ⟨ρ', e, i⟩ := loopF_inv (put := put) (body := body) (items := r) (done := done ++ [x]) h3 fun d1 y s e hl => h d1 y s (by rw [← e]; simp) (by rw [List.length_append, List.length_singleton] at hl; omega)
    refine ⟨ρ', ?_, by rw [List.append_assoc] at i; exact i⟩
    unfold loopF
    rw [h1]
    dsimp only
    rcases h2 with h2 | h2 <;> (rw [h2]; exact e)
theorem loopF_all {put : D → SEnv → Option SEnv} {body : SEnv → SR} {I : SEnv → Prop} {items : List D} {ρ : SEnv} (h0 : I ρ) (h : ∀ x ∈ items, ∀ ρ, I ρ → ∃ ρ1 ρ2, put x ρ = some ρ1 ∧ (body ρ1 = .ok ρ2 .nx ∨ body ρ1 = .ok ρ2 .ct) ∧ I ρ2) : ∃ ρ', loopF put body items ρ = .ok ρ' .nx ∧ I ρ' := by
  obtain ⟨ρ', e, i⟩ := loopF_inv (put := put) (body := body) (I := fun _ => I) (items := items) (done := []) h0 fun d1 x r e _ ρ hi => h x (by rw [List.nil_append] at e; rw [e]; simp) ρ hi
  exact ⟨ρ', e, i⟩
/-- a loop that hands back at the first one of a kind -/
theorem loopF_find {put : D → SEnv → Option SEnv} {body : SEnv → SR} {I : SEnv → Prop} {p : D → Bool} {r : Bd} : ∀ {items : List D} {ρ : SEnv}, I ρ → (∀ x ∈ items, ∀ ρ, I ρ → ∃ ρ1, put x ρ = some ρ1 ∧ (p x = true → ∃ ρ2, body ρ1 = .ok ρ2 (.rt r)) ∧ (p x = false → ∃ ρ2, (body ρ1 = .ok ρ2 .nx ∨ body ρ1 = .ok ρ2 .ct) ∧ I ρ2)) →
    (items.any p = true → ∃ ρ', loopF put body items ρ = .ok ρ' (.rt r)) ∧ (items.any p = false → ∃ ρ', loopF put body items ρ = .ok ρ' .nx ∧ I ρ')
  | [], ρ, h0, _ => ⟨fun h => (by cases h), fun _ => ⟨ρ, rfl, h0⟩⟩
  | x :: xs, ρ, h0, h => by
    obtain ⟨ρ1, h1, h2, h3⟩ := h x List.mem_cons_self ρ h0
    cases hp : p x with
    | true =>
      obtain ⟨ρ2, e⟩ := h2 hp
      refine ⟨fun _ => ⟨ρ2, ?_⟩, fun q => ?_⟩
      · unfold loopF; rw [h1]; dsimp only; rw [e]
      · rw [List.any_cons, hp] at q; cases q
    | false =>
      obtain ⟨ρ2, e, hi⟩ := h3 hp
      obtain ⟨g1, g2⟩ := loopF_find (put := put) (body := body) (items := xs) hi fun y hy => h y (List.mem_cons_of_mem _ hy)
      have e2 : loopF put body (x :: xs) ρ = loopF put body xs ρ2 := by
        conv => lhs; unfold loopF
        rw [h1]
        dsimp only
        rcases e with e | e <;> rw [e]
      rw [List.any_cons, hp, Bool.false_or, e2]
      exact ⟨g1, g2⟩
/-! ### the law's own ratios -/
theorem lplus_run {m : Nat → List D → R Bd} (hm : sLow m) {p q : Rat} (hp : Sz 2000 p) (hq : Sz 2000 q) : d28.run m [rp p, rp q] = .ok (.val (rp (p + q))) := by
  have e1 := mul_ev (hp.1.mono (by decide)) (hq.den.mono (by decide : 2000 ≤ 5000))
  have e2 := mul_ev (hq.1.mono (by decide)) (hp.den.mono (by decide : 2000 ≤ 5000))
  have e3 := mul_ev (hp.den.mono (by decide : 2000 ≤ 5000)) (hq.den.mono (by decide : 2000 ≤ 5000))
  have e4 := hm (p.num * q.den + q.num * p.den) (p.den * q.den) (Int.mul_pos (den_pos p) (den_pos q)) ((hp.dd hq).mono (by decide))
  rw [add_is] at e4
  unfold d28
  unfold rp at *
  dsimp! [e1, e2, e3, e4]
theorem lminus_run {m : Nat → List D → R Bd} (hm : sLow m) {p q : Rat} (hp : Sz 2000 p) (hq : Sz 2000 q) : d29.run m [rp p, rp q] = .ok (.val (rp (p - q))) := by
  have e1 := mul_ev (hp.1.mono (by decide)) (hq.den.mono (by decide : 2000 ≤ 5000))
  have e2 := mul_ev (hq.1.mono (by decide)) (hp.den.mono (by decide : 2000 ≤ 5000))
  have e3 := mul_ev (hp.den.mono (by decide : 2000 ≤ 5000)) (hq.den.mono (by decide : 2000 ≤ 5000))
  have e4 := hm (p.num * q.den - q.num * p.den) (p.den * q.den) (Int.mul_pos (den_pos p) (den_pos q)) ((hp.dd hq).mono (by decide))
  rw [sub_is] at e4
  unfold d29
  unfold rp at *
  dsimp! [e1, e2, e3, e4]
theorem ltimes_run {m : Nat → List D → R Bd} (hm : sLow m) {p q : Rat} (hp : Sz 2000 p) (hq : Sz 2000 q) : d30.run m [rp p, rp q] = .ok (.val (rp (p * q))) := by
  have e1 := mul_ev (hp.1.mono (by decide)) (hq.1.mono (by decide : 2000 ≤ 5000))
  have e3 := mul_ev (hp.den.mono (by decide : 2000 ≤ 5000)) (hq.den.mono (by decide : 2000 ≤ 5000))
  have e4 := hm (p.num * q.num) (p.den * q.den) (Int.mul_pos (den_pos p) (den_pos q)) ((hp.dd hq).mono (by decide))
  rw [mul_is] at e4
  unfold d30
  unfold rp at *
  dsimp! [e1, e3, e4]
theorem lless_run {m : Nat → List D → R Bd} {p q : Rat} (hp : Sz 4000 p) (hq : Sz 4000 q) : d77.run m [rp p, rp q] = .ok (.val (.bl (decide (p < q)))) := less_run hp hq
/-! ### how many bits a result takes -/
theorem Rat.num_le_mk {a : Int} {b : Int} (hb : 0 < b) {k l : Nat} (h1 : Bt k a) (h2 : Bt l b) : Bt k ((a : Rat) / (b : Rat)).num ∧ ((a : Rat) / (b : Rat)).den < 2 ^ l := by
  have q := low_pos (a := a) hb
  have g := gcd_pos (a := a) (b := b) (by omega)
  constructor
  · rw [q.1]
    unfold Bt at *
    have := Int.natAbs_ediv_le_natAbs a (Nat.gcd a.natAbs b.natAbs : Nat)
    omega
  · have e := q.2
    unfold Bt at h2
    have : b / (Nat.gcd a.natAbs b.natAbs : Nat) ≤ b := Int.ediv_le_self _ (by omega)
    have h3 : b = (b.natAbs : Int) := by omega
    omega
theorem Sz.add {k l : Nat} {p q : Rat} (hp : Sz k p) (hq : Sz l q) : Sz (k + l + 1) (p + q) := by
  have e := add_is (p := p) (q := q)
  have h := Rat.num_le_mk (a := p.num * q.den + q.num * p.den) (b := p.den * q.den) (Int.mul_pos (den_pos p) (den_pos q)) (((hp.1.mul hq.den).add (hq.1.mul hp.den))) (hp.den.mul hq.den)
  rw [e] at h
  exact ⟨h.1.mono (by omega), Nat.lt_of_lt_of_le h.2 (Nat.pow_le_pow_right (by decide) (by omega))⟩
theorem Sz.sub {k l : Nat} {p q : Rat} (hp : Sz k p) (hq : Sz l q) : Sz (k + l + 1) (p - q) := by
  have e := sub_is (p := p) (q := q)
  have hn : Bt l (-q.num) := by unfold Bt; rw [Int.natAbs_neg]; exact hq.1
  have h0 : p.num * q.den - q.num * p.den = p.num * q.den + (-q.num) * p.den := by rw [Int.neg_mul]; rfl
  have h := Rat.num_le_mk (a := p.num * q.den - q.num * p.den) (b := p.den * q.den) (Int.mul_pos (den_pos p) (den_pos q)) (by rw [h0]; exact (hp.1.mul hq.den).add (hn.mul hp.den)) (hp.den.mul hq.den)
  rw [e] at h
  exact ⟨h.1.mono (by omega), Nat.lt_of_lt_of_le h.2 (Nat.pow_le_pow_right (by decide) (by omega))⟩
theorem Sz.mul {k l : Nat} {p q : Rat} (hp : Sz k p) (hq : Sz l q) : Sz (k + l) (p * q) := by
  have e := mul_is (p := p) (q := q)
  have h := Rat.num_le_mk (a := p.num * q.num) (b := p.den * q.den) (Int.mul_pos (den_pos p) (den_pos q)) (hp.1.mul hq.1) (hp.den.mul hq.den)
  rw [e] at h
  exact ⟨h.1, h.2⟩
theorem Sz.mono {k l : Nat} {p : Rat} (h : Sz k p) (hl : k ≤ l) : Sz l p := ⟨h.1.mono hl, Nat.lt_of_lt_of_le h.2 (Nat.pow_le_pow_right (by decide) hl)⟩
theorem Sz.int {k : Nat} {i : Int} (h : Bt k i) (h0 : 0 < k) : Sz k (i : Rat) := by
  refine ⟨by rw [Rat.num_intCast]; exact h, ?_⟩
  rw [Rat.den_intCast]
  exact Nat.one_lt_two_pow (by omega)
end PF

end

section
set_option linter.all false
set_option maxRecDepth 100000
/-! M3: shapes; likeness; lists of tuples; cells and numbers. -/
namespace PF
open PySem L2
/-- plain: neither a def nor the script -/
def pl : D → Bool
  | .fn _ => false
  | .scr _ => false
  | _ => true
def isInt : D → Bool
  | .int _ => true
  | _ => false
def isSeq : D → Bool
  | .tup _ => true
  | .lst _ => true
  | _ => false
def lenD : D → Nat
  | .tup xs => xs.length
  | .lst xs => xs.length
  | _ => 0
theorem isin_ev {t : Ty} {d : D} (h : pl d = true) : isinD t d = .ok (.val (.bl (tyD t d))) := by
  cases d <;> first | rfl | cases h
theorem isin2_ev {t u : Ty} {d : D} (h : pl d = true) : isin2D t u d = .ok (.val (.bl (tyD t d || tyD u d))) := by
  cases d <;> first | rfl | cases h
theorem is_integer_run {m : Nat → List D → R Bd} {d : D} (h : pl d = true) : d1.run m [d] = .ok (.val (.bl (isInt d))) := by
  unfold d1
  cases d <;> first | (cases h; done) | (dsimp! [isinD, tyD]; rfl) | (dsimp! [isinD, tyD, isInt])
theorem is_row_run {m : Nat → List D → R Bd} {d : D} (h : pl d = true) : d3.run m [d] = .ok (.val (.bl (isSeq d))) := by
  unfold d3
  cases d <;> first | (cases h; done) | (dsimp! [isin2D, tyD, isSeq]; done) | (dsimp! [isin2D, tyD, isSeq]; rfl)
theorem is_row_of_run {m : Nat → List D → R Bd} {d : D} {k : Int} (h : pl d = true) : d4.run m [d, .int k] = .ok (.val (.bl (isSeq d && decide ((lenD d : Int) = k)))) := by
  unfold d4
  cases d <;> first | (cases h; done) | (dsimp! [isin2D, tyD, isSeq, lenF, lenD, Bool.or_true, Bool.true_or, Bool.or_false, Bool.false_and]; done) | (dsimp! [isin2D, tyD, isSeq, lenF, lenD, Bool.or_true, Bool.true_or, Bool.or_false, Bool.false_and]; rfl)
def sIsInt (m : Nat → List D → R Bd) : Prop := ∀ d, pl d = true → m 1 [d] = .ok (.val (.bl (isInt d)))
def sIsRow (m : Nat → List D → R Bd) : Prop := ∀ d, pl d = true → m 3 [d] = .ok (.val (.bl (isSeq d)))
def sIsRowOf (m : Nat → List D → R Bd) : Prop := ∀ d k, pl d = true → m 4 [d, .int k] = .ok (.val (.bl (isSeq d && decide ((lenD d : Int) = k))))
theorem in_range_run {m : Nat → List D → R Bd} (h1 : sIsInt m) {d : D} {a b : Int} (h : pl d = true) : d2.run m [d, .int a, .int b] = .ok (.val (.bl (match d with | .int i => decide (a ≤ i) && decide (i ≤ b) | _ => false))) := by
  unfold d2
  cases d with
  | int i =>
    by_cases c : a ≤ i
    · dsimp! [h1 _ h, isInt, c]
    · dsimp! [h1 _ h, isInt, c]; rfl
  | _ => first | (cases h; done) | (dsimp! [h1 _ h, isInt])
/-- a ratio as a list -/
def lp (q : Rat) : D := .lst [.int q.num, .int q.den]
theorem gcd_one (q : Rat) : Nat.gcd q.num.natAbs (q.den : Int).natAbs = 1 := q.reduced
theorem signed_run {m : Nat → List D → R Bd} (h1 : sIsInt m) (h4 : sIsRowOf m) {d : D} {q : Rat} (hd : d = rp q ∨ d = lp q) : d7.run m [d] = .ok (.val (rp q)) := by
  have e1 := h1 (.int q.num) rfl
  have e2 := h1 (.int q.den) rfl
  have hp : ((q.den : Int) < 1) = False := by have := den_pos q; simp; omega
  rcases hd with rfl | rfl
  · have e := h4 (rp q) 2 rfl
    unfold d7
    unfold rp at *
    dsimp! [e, e1, e2, isSeq, lenD, isInt, gcdF, gcd_one, hp]
  · have e := h4 (lp q) 2 rfl
    unfold d7
    unfold rp lp at *
    dsimp! [e, e1, e2, isSeq, lenD, isInt, gcdF, gcd_one, hp]
def sSigned (m : Nat → List D → R Bd) : Prop := ∀ (d : D) (q : Rat), (d = rp q ∨ d = lp q) → m 7 [d] = .ok (.val (rp q))
theorem fraction_run {m : Nat → List D → R Bd} (h7 : sSigned m) {d : D} {q : Rat} (hd : d = rp q ∨ d = lp q) : d8.run m [d] = .ok (.val (if q.num < 0 then .non else rp q)) := by
  have e := h7 d q hd
  unfold d8
  unfold rp at *
  by_cases h : q.num < 0
  · dsimp! [e, h]
  · dsimp! [e, h]
def sFraction (m : Nat → List D → R Bd) : Prop := ∀ (d : D) (q : Rat), (d = rp q ∨ d = lp q) → m 8 [d] = .ok (.val (if q.num < 0 then .non else rp q))
/-- items that are ratios -/
inductive Qs : List D → List Rat → Prop
  | nil : Qs [] []
  | cons {d : D} {q : Rat} {ds : List D} {qs : List Rat} : (d = rp q ∨ d = lp q) → Qs ds qs → Qs (d :: ds) (q :: qs)
theorem Qs.len : ∀ {ds : List D} {qs : List Rat}, Qs ds qs → ds.length = qs.length
  | _, _, .nil => rfl
  | _, _, .cons _ h => by rw [List.length_cons, List.length_cons, h.len]
theorem Qs.rps : ∀ qs : List Rat, Qs (qs.map rp) qs
  | [] => .nil
  | q :: qs => .cons (.inl rfl) (Qs.rps qs)
theorem Qs.lps : ∀ qs : List Rat, Qs (qs.map lp) qs
  | [] => .nil
  | q :: qs => .cons (.inr rfl) (Qs.lps qs)
def fq (q : Rat) : D := if q.num < 0 then .non else rp q
theorem Qs.comp {m : Nat → List D → R Bd} {η : Env} {put : D → Env → R Env} {i j : Nat} {f : Rat → D} (hm : ∀ (d : D) (q : Rat), (d = rp q ∨ d = lp q) → m j [d] = .ok (.val (f q))) (hp : ∀ d, ∃ η1, put d η = .ok η1 ∧ η1[i]? = some (some d)) : ∀ {ds : List D} {qs : List Rat}, Qs ds qs →
    compF put (fun _ => .ok true) (fun η1 => (IE.call j [.var i]).ev m η1) η ds = .ok (qs.map f)
  | _, _, .nil => rfl
  | _, _, .cons (d := d) (q := q) hd h => by
    obtain ⟨η1, e1, e2⟩ := hp d
    unfold compF
    rw [e1]
    dsimp only
    have e3 : (IE.call j [.var i]).ev m η1 = .ok (.val (f q)) := by
      simp only [IE.ev, evs, e2, bind_ok, Bd.d]
      exact hm d q hd
    rw [e3]
    dsimp only
    rw [Qs.comp hm hp h]
    rfl
theorem isn_ev {d : D} : cmpD .isn d .non = .ok (.val (.bl (match d with | .non => true | _ => false))) := by cases d <;> rfl
def isNon : D → Bool
  | .non => true
  | _ => false
theorem isn_ev2 {d : D} : cmpD .isn d .non = .ok (.val (.bl (isNon d))) := by cases d <;> rfl
theorem fq_non {q : Rat} : isNon (fq q) = decide (q.num < 0) := by
  unfold fq
  split
  · rename_i h; rw [decide_eq_true h]; rfl
  · rename_i h; rw [decide_eq_false h]; rfl
theorem fractions_run {m : Nat → List D → R Bd} (h4 : sIsRowOf m) (h8 : sFraction m) {d : D} {ds : List D} {qs : List Rat} (hd : d = .tup ds ∨ d = .lst ds) (hq : Qs ds qs) (hz : ds.length ≤ 1000) {k : Int} :
    d9.run m [d, .int k] = .ok (.val (if (qs.length : Int) = k then (if qs.any (fun q => decide (q.num < 0)) = true then .non else .tup (qs.map rp)) else .non)) := by
  have hpl : pl d = true := by rcases hd with rfl | rfl <;> rfl
  have hl : lenD d = qs.length := by rcases hd with rfl | rfl <;> exact hq.len
  have hs : isSeq d = true := by rcases hd with rfl | rfl <;> rfl
  have e := h4 d k hpl
  rw [hs, hl, Bool.true_and] at e
  have it : itemsD d = .ok ds := by rcases hd with rfl | rfl <;> rfl
  unfold d9
  by_cases hk : (qs.length : Int) = k
  · have hc : compF (putT (.nm 3)) (fun _ => .ok true) (fun η1 => d9e0.ev m η1) [some d, some (.int k), none, none] ds = .ok (qs.map fq) := Qs.comp (m := m) (i := 3) (j := 8) (f := fq) (η := [some d, some (.int k), none, none]) (put := putT (.nm 3)) h8 (fun x => ⟨_, rfl, rfl⟩) hq
    have hf := loopF_find (put := putS (.nm 3)) (body := fun ρ1 => exs m d9b1 ρ1) (I := fun ρ => ∃ t, ρ = [some (.val d), some (.val (.int k)), some (.val (.lst (qs.map fq))), t]) (p := isNon) (r := .val .non) (items := qs.map fq) (ρ := [some (.val d), some (.val (.int k)), some (.val (.lst (qs.map fq))), none]) ⟨_, rfl⟩ (fun x _ ρ hi => by
      obtain ⟨t, rfl⟩ := hi
      refine ⟨[some (.val d), some (.val (.int k)), some (.val (.lst (qs.map fq))), some (.val x)], rfl, fun h => ?_, fun h => ?_⟩
      · refine ⟨[some (.val d), some (.val (.int k)), some (.val (.lst (qs.map fq))), some (.val x)], ?_⟩
        unfold d9b1
        simp only [exs, IS.ex, IE.te, IE.ev, IE.ment, mask, List.getElem?_cons_zero, List.getElem?_cons_succ, bind_ok, Bd.d, isn_ev2, h, withB, if_true, retE, ite_true]
      · refine ⟨[some (.val d), some (.val (.int k)), some (.val (.lst (qs.map fq))), some (.val x)], .inl ?_, some (.val x), rfl⟩
        unfold d9b1
        simp only [exs, IS.ex, IE.te, IE.ev, IE.ment, mask, List.getElem?_cons_zero, List.getElem?_cons_succ, bind_ok, Bd.d, isn_ev2, h, withB, Bool.false_eq_true, if_false, ite_false])
    have ha : (qs.map fq).any isNon = qs.any (fun q => decide (q.num < 0)) := by
      rw [List.any_map]
      congr 1
      funext q
      exact fq_non
    rw [ha] at hf
    rw [if_pos hk]
    have hz2 : qs.length ≤ 1000 := by rw [← hq.len]; exact hz
    have hfm : (qs.any fun q => decide (q.num < 0)) = false → qs.map fq = qs.map rp := fun h => List.map_congr_left fun q hq => by
      have := List.any_eq_false.mp h q hq
      unfold fq
      rw [if_neg (by simpa using this)]
    cases hA : qs.any (fun q => decide (q.num < 0)) with
    | true =>
      obtain ⟨ρ', h⟩ := hf.1 hA
      have hlen : (qs.map fq).length ≤ SZ := by rw [List.length_map]; unfold SZ; omega
      dsimp! [e, it, hk, hc, PF.grd, hlen, h]
    | false =>
      obtain ⟨ρ', h, t, rfl⟩ := hf.2 hA
      have hlen : (qs.map fq).length ≤ SZ := by rw [List.length_map]; unfold SZ; omega
      dsimp! [e, it, hk, hc, PF.grd, hlen, h]
      rw [hfm hA]
  · rw [if_neg hk]
    dsimp! [e, hk]
end PF

end

section
set_option linter.all false
set_option maxRecDepth 100000
/-! M4: rows of ratios. -/
namespace PF
open PySem L2
def rr (qs : List Rat) : D := .tup (qs.map rp)
def SzL (n : Nat) (qs : List Rat) : Prop := ∀ q ∈ qs, Sz n q
theorem eqv_rp {p q : Rat} : eqv (rp p) (rp q) = decide (p = q) := by
  have e : eqv (rp p) (rp q) = (decide (p.num = q.num) && decide ((p.den : Int) = q.den)) := by
    unfold rp
    simp only [eqv, eqvs, Bool.and_true]
    rfl
  rw [e, ← Bool.decide_and]
  refine decide_eq_decide.mpr ⟨fun ⟨h1, h2⟩ => Rat.ext h1 (by omega), fun h => by subst h; exact ⟨rfl, rfl⟩⟩
theorem okD_rp {q : Rat} : okD (rp q) = true := by
  unfold rp okD
  simp [wf, wfs, dep, deps]
theorem nol_rp {q : Rat} : nol (rp q) = true := by
  unfold rp
  simp [nol, nols]
theorem rp_zero : rp 0 = .tup [.int 0, .int 1] := by
  unfold rp
  rfl
theorem rp_one : rp 1 = .tup [.int 1, .int 1] := by
  unfold rp
  rfl
theorem ne_rp {p q : Rat} : cmpD .ne (rp p) (rp q) = .ok (.val (.bl (!decide (p = q)))) := by
  show PF.grd _ _ = _
  rw [PF.grd, if_pos ⟨okD_rp, okD_rp⟩, eqv_rp]
  rfl
theorem eq_rp {p q : Rat} : cmpD .eq (rp p) (rp q) = .ok (.val (.bl (decide (p = q)))) := by
  show PF.grd _ _ = _
  rw [PF.grd, if_pos ⟨okD_rp, okD_rp⟩, eqv_rp]
  rfl
def sPlus (m : Nat → List D → R Bd) : Prop := ∀ p q : Rat, Sz 4000 p → Sz 4000 q → m 62 [rp p, rp q] = .ok (.val (rp (p + q)))
def sMinus (m : Nat → List D → R Bd) : Prop := ∀ p q : Rat, Sz 4000 p → Sz 4000 q → m 63 [rp p, rp q] = .ok (.val (rp (p - q)))
def sTimes (m : Nat → List D → R Bd) : Prop := ∀ p q : Rat, Sz 4000 p → Sz 4000 q → m 64 [rp p, rp q] = .ok (.val (rp (p * q)))
def sLess (m : Nat → List D → R Bd) : Prop := ∀ p q : Rat, Sz 4000 p → Sz 4000 q → m 0 [rp p, rp q] = .ok (.val (.bl (decide (p < q))))
def sLPlus (m : Nat → List D → R Bd) : Prop := ∀ p q : Rat, Sz 2000 p → Sz 2000 q → m 28 [rp p, rp q] = .ok (.val (rp (p + q)))
def sLMinus (m : Nat → List D → R Bd) : Prop := ∀ p q : Rat, Sz 2000 p → Sz 2000 q → m 29 [rp p, rp q] = .ok (.val (rp (p - q)))
def sLTimes (m : Nat → List D → R Bd) : Prop := ∀ p q : Rat, Sz 2000 p → Sz 2000 q → m 30 [rp p, rp q] = .ok (.val (rp (p * q)))
def sLLess (m : Nat → List D → R Bd) : Prop := ∀ p q : Rat, Sz 4000 p → Sz 4000 q → m 77 [rp p, rp q] = .ok (.val (.bl (decide (p < q))))
theorem rowz {m : Nat → List D → R Bd} {j N : Nat} {f : Rat → Rat → Rat} {a b : Option D} (hm : ∀ p q : Rat, Sz N p → Sz N q → m j [rp p, rp q] = .ok (.val (rp (f p q)))) : ∀ {ps qs : List Rat}, SzL N ps → SzL N qs →
    compF (putT (.tup [.nm 2, .nm 3])) (fun _ => .ok true) (fun η1 => (IE.call j [.var 2, .var 3]).ev m η1) [a, b, none, none] (zipD (ps.map rp) (qs.map rp)) = .ok ((List.zipWith f ps qs).map rp)
  | [], qs, _, _ => by simp [zipD]; rfl
  | p :: ps, [], _, _ => by simp [zipD]; rfl
  | p :: ps, q :: qs, hp, hq => by
    have e := hm p q (hp p List.mem_cons_self) (hq q List.mem_cons_self)
    have e2 : putT (.tup [.nm 2, .nm 3]) (.tup [rp p, rp q]) [a, b, none, none] = .ok [a, b, some (rp p), some (rp q)] := rfl
    have e3 : (IE.call j [.var 2, .var 3]).ev m [a, b, some (rp p), some (rp q)] = .ok (.val (rp (f p q))) := by
      simp only [IE.ev, evs, List.getElem?_cons_zero, List.getElem?_cons_succ, bind_ok, Bd.d]
      exact e
    show compF _ _ _ _ (.tup [rp p, rp q] :: zipD (ps.map rp) (qs.map rp)) = _
    unfold compF
    rw [e2]
    dsimp only
    rw [e3]
    dsimp only
    rw [rowz hm (fun x hx => hp x (List.mem_cons_of_mem _ hx)) (fun x hx => hq x (List.mem_cons_of_mem _ hx))]
    rfl
theorem SzL.zip {N M K : Nat} {f : Rat → Rat → Rat} (hf : ∀ p q, Sz N p → Sz M q → Sz K (f p q)) : ∀ {ps qs : List Rat}, SzL N ps → SzL M qs → SzL K (List.zipWith f ps qs)
  | [], _, _, _ => by intro x hx; simp at hx
  | _ :: _, [], _, _ => by intro x hx; simp at hx
  | p :: ps, q :: qs, hp, hq => by
    intro x hx
    rw [List.zipWith_cons_cons] at hx
    rcases List.mem_cons.mp hx with rfl | hx
    · exact hf p q (hp p List.mem_cons_self) (hq q List.mem_cons_self)
    · exact SzL.zip hf (fun x hx => hp x (List.mem_cons_of_mem _ hx)) (fun x hx => hq x (List.mem_cons_of_mem _ hx)) x hx
theorem row_plus_run {m : Nat → List D → R Bd} (h : sPlus m) {ps qs : List Rat} (hp : SzL 4000 ps) (hq : SzL 4000 qs) (hz : ps.length ≤ 1000) : d99.run m [rr ps, rr qs] = .ok (.val (rr (List.zipWith (· + ·) ps qs))) := by
  have hc : compF (putT (.tup [.nm 2, .nm 3])) (fun _ => .ok true) (fun η1 => d99e0.ev m η1) [some (.tup (ps.map rp)), some (.tup (qs.map rp)), none, none] (zipD (ps.map rp) (qs.map rp)) = .ok ((List.zipWith (· + ·) ps qs).map rp) := rowz h hp hq
  have hl : ((List.zipWith (· + ·) ps qs).map rp).length ≤ 1000 := by rw [List.length_map, List.length_zipWith]; omega
  unfold d99 rr
  dsimp! [hc, grd_sz hl]
theorem row_minus_run {m : Nat → List D → R Bd} (h : sMinus m) {ps qs : List Rat} (hp : SzL 4000 ps) (hq : SzL 4000 qs) (hz : ps.length ≤ 1000) : d100.run m [rr ps, rr qs] = .ok (.val (rr (List.zipWith (· - ·) ps qs))) := by
  have hc : compF (putT (.tup [.nm 2, .nm 3])) (fun _ => .ok true) (fun η1 => d100e0.ev m η1) [some (.tup (ps.map rp)), some (.tup (qs.map rp)), none, none] (zipD (ps.map rp) (qs.map rp)) = .ok ((List.zipWith (· - ·) ps qs).map rp) := rowz h hp hq
  have hl : ((List.zipWith (· - ·) ps qs).map rp).length ≤ 1000 := by rw [List.length_map, List.length_zipWith]; omega
  unfold d100 rr
  dsimp! [hc, grd_sz hl]
theorem row_times_run {m : Nat → List D → R Bd} (h : sTimes m) {ps : List Rat} {w : Rat} (hp : SzL 4000 ps) (hw : Sz 4000 w) (hz : ps.length ≤ 1000) : d101.run m [rr ps, rp w] = .ok (.val (rr (ps.map (· * w)))) := by
  have hc : ∀ {qs : List Rat}, SzL 4000 qs → compF (putT (.nm 2)) (fun _ => .ok true) (fun η1 => d101e0.ev m η1) [some (.tup (ps.map rp)), some (rp w), none] (qs.map rp) = .ok ((qs.map (· * w)).map rp) := by
    intro qs
    induction qs with
    | nil => intro _; rfl
    | cons q qs ih =>
      intro hq
      have e := h q w (hq q List.mem_cons_self) hw
      have e2 : putT (.nm 2) (rp q) [some (.tup (ps.map rp)), some (rp w), none] = .ok [some (.tup (ps.map rp)), some (rp w), some (rp q)] := rfl
      have e3 : d101e0.ev m [some (.tup (ps.map rp)), some (rp w), some (rp q)] = .ok (.val (rp (q * w))) := by
        unfold d101e0
        simp only [IE.ev, evs, List.getElem?_cons_zero, List.getElem?_cons_succ, bind_ok, Bd.d]
        exact e
      rw [List.map_cons]
      unfold compF
      rw [e2]
      dsimp only
      rw [e3]
      dsimp only
      rw [ih fun x hx => hq x (List.mem_cons_of_mem _ hx)]
      rfl
  have hl : ((ps.map (· * w)).map rp).length ≤ 1000 := by rw [List.length_map, List.length_map]; omega
  unfold d101 rr
  dsimp! [hc hp, grd_sz hl]
theorem constant_row_run {m : Nat → List D → R Bd} {c : Rat} {k : Nat} (hk : 1 ≤ k) (hz : k ≤ 1000) : d142.run m [rp c, .int k] = .ok (.val (rr (c :: List.replicate (k - 1) 0))) := by
  have e1 : binD .mul (.tup [.tup [.int 0, .int 1]]) (.int ((k : Int) - 1)) = .ok (.val (.tup (List.replicate (k - 1) (rp 0)))) := by
    show PF.grd _ _ = _
    rw [PF.grd, if_pos ⟨by omega, by omega, by decide⟩]
    have : ((k : Int) - 1).toNat = k - 1 := by omega
    rw [this, ← rp_zero]
    have : ∀ n, repl [rp 0] n = List.replicate n (rp 0) := fun n => by
      unfold repl
      induction n with
      | zero => rfl
      | succ n ih => rw [List.replicate_succ, List.flatten_cons, ih]; rfl
    rw [this]
  have e2 : binD .add (.tup [rp c]) (.tup (List.replicate (k - 1) (rp 0))) = .ok (.val (.tup (rp c :: List.replicate (k - 1) (rp 0)))) := by
    show PF.grd _ _ = _
    rw [PF.grd, if_pos (by rw [List.length_replicate]; show 1 + (k - 1) ≤ 16777216; omega)]
    rfl
  unfold d142 rr
  dsimp! [e1, e2, List.map_replicate]
end PF

end

section
set_option linter.all false
set_option maxRecDepth 100000
/-! M5: the script's cells and numbers; likeness; lists of tuples. -/
namespace PF
open PySem L2
/-! ### cells, numbers -/
theorem atI_nat {α : Type} {xs : List α} {i : Nat} (h : i < xs.length) : atI xs (i : Int) = some xs[i] := by
  unfold atI ixN
  rw [if_pos (by omega), if_pos (by omega), Option.bind_some, Int.toNat_natCast]
  exact List.getElem?_eq_getElem h
theorem cell_run {m : Nat → List D → R Bd} {ns : List Int} {i : Nat} : d26.run m [.scr ns, .int i] = .ok (.val (.int (ns.getD i 0))) := by
  unfold d26
  by_cases h : i < ns.length
  · have h2 : (i : Int) < (ns.length : Int) := by omega
    dsimp! [h2, atI_nat h]
    rw [List.getD_eq_getElem?_getD, List.getElem?_eq_getElem h]
    rfl
  · have h2 : ¬ ((i : Int) < (ns.length : Int)) := by omega
    dsimp! [h2]
    rw [List.getD_eq_getElem?_getD, List.getElem?_eq_none (by omega)]
    rfl
def sCell (m : Nat → List D → R Bd) : Prop := ∀ (ns : List Int) (i : Nat), m 26 [.scr ns, .int i] = .ok (.val (.int (ns.getD i 0)))
theorem pow18 : binD .pow (.int 10) (.int 18) = .ok (.val (.int 1000000000000000000)) := by
  show PF.grd (0 ≤ (18 : Int) ∧ (18 : Int) ≤ 1000000 ∧ (10 : Int).natAbs < 2 ^ 64) (.ok (.val (.int (10 ^ (18 : Int).toNat)))) = _
  rw [PF.grd, if_pos (by decide +kernel)]
  rfl
theorem pow9 : binD .pow (.int 10) (.int 9) = .ok (.val (.int 1000000000)) := by
  show PF.grd (0 ≤ (9 : Int) ∧ (9 : Int) ≤ 1000000 ∧ (10 : Int).natAbs < 2 ^ 64) (.ok (.val (.int (10 ^ (9 : Int).toNat)))) = _
  rw [PF.grd, if_pos (by decide +kernel)]
  rfl
def Small (l : List Int) : Prop := ∀ x ∈ l, 0 ≤ x ∧ x < 1000000000
theorem app_own {i : Nat} {d : D} {ρ : SEnv} {xs : List D} (h : ρ[i]? = some (some (.own xs))) (hz : xs.length < SZ) : appS i d ρ = .ok (ρ.set i (some (.own (xs ++ [d])))) .nx := by
  unfold appS
  rw [h]
  exact if_pos hz
theorem num_body {m : Nat → List D → R Bd} {ns : List Int} {place many cell rest k : Int} {xs : List D} {tw : Option Bd} (ht : tw = none ∨ ∃ i, tw = some (.val (.int i))) (hz : xs.length < SZ) :
    ∃ x rest' tw', 0 ≤ x ∧ x < 1000000000 ∧ (tw' = none ∨ ∃ i, tw' = some (.val (.int i))) ∧ exs m d31b0 [some (.val (.scr ns)), some (.val (.int place)), some (.val (.int many)), some (.val (.int cell)), some (.own xs), some (.val (.int rest)), some (.val (.int k)), tw] =
      .ok [some (.val (.scr ns)), some (.val (.int place)), some (.val (.int many)), some (.val (.int cell)), some (.own (xs ++ [.int x])), some (.val (.int rest')), some (.val (.int k)), tw'] .nx := by
  have m1 : ∀ i : Int, binD .mul (.int i) (.int 48271) = .ok (.val (.int (i * 48271))) := fun i => mul_small (by decide +kernel)
  have m2 : ∀ i : Int, binD .mul (.int i) (.int 69621) = .ok (.val (.int (i * 69621))) := fun i => mul_small (by decide +kernel)
  have m3 : ∀ i : Int, binD .mul (.int i) (.int 16807) = .ok (.val (.int (i * 16807))) := fun i => mul_small (by decide +kernel)
  have m4 : ∀ i : Int, binD .mul (.int i) (.int 40692) = .ok (.val (.int (i * 40692))) := fun i => mul_small (by decide +kernel)
  have r1 : ∀ i : Int, binD .mod (.int i) (.int 2147483647) = .ok (.val (.int (i % 2147483647))) := fun i => mod_ev (by decide)
  have r2 : ∀ i : Int, binD .mod (.int i) (.int 2147483399) = .ok (.val (.int (i % 2147483399))) := fun i => mod_ev (by decide)
  have r3 : ∀ i : Int, binD .mod (.int i) (.int 1000000000) = .ok (.val (.int (i % 1000000000))) := fun i => mod_ev (by decide)
  have f1 : ∀ i : Int, binD .fdiv (.int i) (.int 1000000000) = .ok (.val (.int (i / 1000000000))) := fun i => fdiv_ev (by decide) (by decide +kernel)
  by_cases h : (1000000000000000000 : Int) ≤ cell
  · refine ⟨rest % 1000000000, rest / 1000000000, tw, by omega, by omega, ht, ?_⟩
    unfold d31b0
    rcases ht with rfl | ⟨i, rfl⟩ <;> dsimp! [pow18, pow9, h, r3, f1, isOwn, appS, hz]
  · refine ⟨((cell * 48271 + (k + 1) * 69621 + place) % 2147483647 * 16807 + (k + 3) * 40692) % 2147483399 % 1000000000, rest, some (.val (.int ((cell * 48271 + (k + 1) * 69621 + place) % 2147483647))), by omega, by omega, .inr ⟨_, rfl⟩, ?_⟩
    unfold d31b0
    rcases ht with rfl | ⟨i, rfl⟩ <;> dsimp! [pow18, pow9, h, r3, r2, r1, m1, m2, m3, m4, isOwn, appS, hz]
theorem numbers_run {m : Nat → List D → R Bd} {ns : List Int} {i many : Nat} (hz : many ≤ 1000) : ∃ l : List Int, l.length = many ∧ Small l ∧ d31.run m [.scr ns, .int i, .int many] = .ok (.own (l.map .int)) := by
  obtain ⟨cell, hc⟩ : ∃ cell : Int, (((i : Int) < (ns.length : Int)) ∧ atI ns (i : Int) = some cell) ∨ (¬ ((i : Int) < (ns.length : Int)) ∧ cell = 0) := by
    by_cases h : i < ns.length
    · exact ⟨ns[i], .inl ⟨by omega, atI_nat h⟩⟩
    · exact ⟨0, .inr ⟨by omega, rfl⟩⟩
  obtain ⟨ρ', e, hI⟩ := loopF_inv (put := putS (.nm 6)) (body := fun ρ1 => exs m d31b0 ρ1) (items := rngD 0 many) (done := [])
    (I := fun done ρ => ∃ (l : List Int) (rest : Int) (k tw : Option Bd), l.length = done.length ∧ Small l ∧ (tw = none ∨ ∃ i, tw = some (.val (.int i))) ∧ ρ = [some (.val (.scr ns)), some (.val (.int i)), some (.val (.int many)), some (.val (.int cell)), some (.own (l.map .int)), some (.val (.int rest)), k, tw])
    (ρ := [some (.val (.scr ns)), some (.val (.int i)), some (.val (.int many)), some (.val (.int cell)), some (.own []), some (.val (.int cell)), none, none])
    ⟨[], cell, none, none, rfl, fun x hx => (by cases hx), .inl rfl, rfl⟩ (fun d1 x r e _ ρ ⟨l, rest, k, tw, h1, h2, h3, h4⟩ => by
      subst h4
      have hx : x ∈ rngD 0 many := by rw [List.nil_append] at e; rw [e]; simp
      obtain ⟨z, rfl⟩ : ∃ z : Int, x = .int z := by
        unfold rngD at hx
        obtain ⟨y, _, rfl⟩ := List.mem_map.mp hx
        exact ⟨_, rfl⟩
      have hlen : d1.length < many := by
        have := congrArg List.length e
        rw [List.nil_append, rng_len, List.length_append, List.length_cons] at this
        omega
      obtain ⟨y, rest', tw', y1, y2, y3, y4⟩ := num_body (m := m) (ns := ns) (place := i) (many := many) (cell := cell) (rest := rest) (k := z) (xs := l.map .int) h3 (by rw [List.length_map]; unfold SZ; omega)
      refine ⟨_, _, rfl, .inl y4, l ++ [y], rest', some (.val (.int z)), tw', by rw [List.length_append, List.length_append, h1]; rfl, fun w hw => ?_, y3, by rw [List.map_append]; rfl⟩
      rcases List.mem_append.mp hw with hw | hw
      · exact h2 w hw
      · rw [List.mem_singleton] at hw
        subst hw
        exact ⟨y1, y2⟩)
  obtain ⟨l, rest, k, tw, h1, h2, h3, rfl⟩ := hI
  refine ⟨l, by rw [h1, List.nil_append, rng_len], h2, ?_⟩
  have hr := rng1F_nat (n := many) (by omega)
  unfold d31
  rcases hc with ⟨c1, c2⟩ | ⟨c1, rfl⟩
  · dsimp! [c1, c2, hr, e]
  · dsimp! [c1, hr, e]
end PF

end

section
set_option linter.all false
set_option maxRecDepth 100000
/-! M6: likeness, lists of tuples. -/
namespace PF
open PySem L2
mutual
  /-- plain data without lists -/
def gd : D → Bool
  | .non => true
  | .bl _ => true
  | .int _ => true
  | .str x => PyData.strOk x
  | .tup xs => gds xs
  | .lst _ => false
  | .fn _ => false
  | .scr _ => false
def gds : List D → Bool
  | [] => true
  | x :: xs => gd x && gds xs
end
theorem gds_mem : ∀ {xs : List D} {x : D}, gds xs = true → x ∈ xs → gd x = true
  | y :: ys, x, h, hx => by
    simp only [gds, Bool.and_eq_true] at h
    rcases List.mem_cons.mp hx with rfl | hx
    · exact h.1
    · exact gds_mem h.2 hx
theorem gds_all : ∀ {xs : List D}, (∀ x ∈ xs, gd x = true) → gds xs = true
  | [], _ => by simp [gds]
  | y :: ys, h => by
    simp only [gds, Bool.and_eq_true]
    exact ⟨h y List.mem_cons_self, gds_all fun x hx => h x (List.mem_cons_of_mem _ hx)⟩
theorem rng_mem {lo : Int} {n : Nat} {x : D} (h : x ∈ rngD lo n) : ∃ i : Nat, i < n ∧ x = .int (lo + i) := by
  unfold rngD at h
  obtain ⟨y, hy, rfl⟩ := List.mem_map.mp h
  exact ⟨y, List.mem_range.mp hy, rfl⟩
theorem ne_int {i j : Int} : cmpD .ne (.int i) (.int j) = .ok (.val (.bl (!decide (i = j)))) := by
  show PF.grd _ _ = _
  rw [PF.grd, if_pos ⟨rfl, rfl⟩, eqv_int]
  rfl
theorem ne_bl {i j : Bool} : cmpD .ne (.bl i) (.bl j) = .ok (.val (.bl (!(i == j)))) := by
  show PF.grd _ _ = _
  rw [PF.grd, if_pos ⟨rfl, rfl⟩]
  rfl
theorem ixt_nat {xs : List D} {i : Nat} (h : i < xs.length) : ixD (.tup xs) (.int (i : Int)) = .ok (.val xs[i]) := by
  show (match atI xs (i : Int) with | some d => R.ok (Bd.val d) | none => .bad) = _
  rw [atI_nat h]
theorem okD_bl {b : Bool} : okD (.bl b) = true := Eq.trans rfl rfl
theorem same_run {m : Nat → List D → R Bd} {x : D} (h : gd x = true) (hz : lenD x ≤ 1000) (hc : ∀ xs, x = .tup xs → ∀ y ∈ xs, m 24 [y, y] = .ok (.val (.bl true))) : d24.run m [x, x] = .ok (.val (.bl true)) := by
  cases x with
  | fn j => simp [gd] at h
  | scr j => simp [gd] at h
  | lst j => simp [gd] at h
  | non => unfold d24; dsimp! [isinD, tyD]
  | bl b =>
    unfold d24
    dsimp! [isinD, isin2D, tyD]
  | int i => unfold d24; dsimp! [isinD, isin2D, tyD]
  | str z =>
    have h1 : okD (.str z) = true := by unfold okD; simp only [wf, dep]; simpa [gd] using h
    have h2 : eqv (.str z) (.str z) = true := by simp [eqv]
    unfold d24
    dsimp! [isinD, isin2D, tyD, PF.grd, h1, h2, and_self, okD_bl]
  | tup xs =>
    have hl : xs.length ≤ 1000 := hz
    obtain ⟨ρ', e, t, rfl⟩ := loopF_all (put := putS (.nm 2)) (body := fun ρ1 => exs m d24b0 ρ1) (items := rngD 0 xs.length) (I := fun ρ => ∃ t, ρ = [some (.val (.tup xs)), some (.val (.tup xs)), t]) (ρ := [some (.val (.tup xs)), some (.val (.tup xs)), none]) ⟨_, rfl⟩ (fun x hx ρ hi => by
      obtain ⟨t, rfl⟩ := hi
      obtain ⟨i, hi, rfl⟩ := rng_mem hx
      rw [Int.zero_add]
      refine ⟨[some (.val (.tup xs)), some (.val (.tup xs)), some (.val (.int i))], [some (.val (.tup xs)), some (.val (.tup xs)), some (.val (.int i))], rfl, .inl ?_, some (.val (.int i)), rfl⟩
      have e := hc xs rfl xs[i] (List.getElem_mem hi)
      unfold d24b0
      dsimp! [atI_nat hi, e])
    have hr := rng1F_nat (n := xs.length) (by omega)
    unfold d24
    dsimp! [isinD, tyD, hr, e]
/-- what a tuple is as a list -/
def lsd : D → D
  | .tup xs => .lst (lsds xs)
  | d => d
where lsds : List D → List D
  | [] => []
  | x :: xs => lsd x :: lsds xs
theorem lsds_map : ∀ xs : List D, lsd.lsds xs = xs.map lsd
  | [] => rfl
  | x :: xs => by rw [lsd.lsds, lsds_map xs]; rfl
theorem listed_run {m : Nat → List D → R Bd} {x : D} (h : gd x = true) (hz : lenD x ≤ 1000) (hc : ∀ xs, x = .tup xs → ∀ y ∈ xs, ∃ b, m 25 [y] = .ok b ∧ b.d = lsd y) : ∃ b, d25.run m [x] = .ok b ∧ b.d = lsd x := by
  cases x with
  | fn j => simp [gd] at h
  | scr j => simp [gd] at h
  | lst j => simp [gd] at h
  | non => exact ⟨.val .non, by unfold d25; dsimp! [isinD, tyD], rfl⟩
  | bl b => exact ⟨.val (.bl b), by unfold d25; dsimp! [isinD, tyD], rfl⟩
  | int b => exact ⟨.val (.int b), by unfold d25; dsimp! [isinD, tyD], rfl⟩
  | str b => exact ⟨.val (.str b), by unfold d25; dsimp! [isinD, tyD], rfl⟩
  | tup xs =>
    have hl : xs.length ≤ 1000 := hz
    have e := compF_map (put := putT (.nm 1)) (test := fun _ => .ok true) (elt := fun η1 => d25e0.ev m η1) (η := [some (.tup xs), none]) (f := lsd) (items := xs) fun y hy => by
      obtain ⟨b, h1, h2⟩ := hc xs rfl y hy
      refine ⟨[some (.tup xs), some y], rfl, rfl, b, ?_, h2⟩
      unfold d25e0
      simp only [IE.ev, evs, List.getElem?_cons_zero, List.getElem?_cons_succ, bind_ok, Bd.d]
      exact h1
    refine ⟨.own (xs.map lsd), ?_, ?_⟩
    · unfold d25
      dsimp! [isinD, tyD, e, grd_sz (show (xs.map lsd).length ≤ 1000 by rw [List.length_map]; exact hl)]
    · show D.lst (xs.map lsd) = lsd (.tup xs)
      rw [← lsds_map]
      rfl
/-! how deep, how long -/
mutual
def fits : Nat → D → Bool
  | 0, _ => false
  | n + 1, .tup xs => decide (xs.length ≤ 1000) && fitss n xs
  | _ + 1, _ => true
def fitss : Nat → List D → Bool
  | _, [] => true
  | n, x :: xs => fits n x && fitss n xs
end
theorem fitss_mem {n : Nat} : ∀ {xs : List D} {x : D}, fitss n xs = true → x ∈ xs → fits n x = true
  | y :: ys, x, h, hx => by
    rw [fitss, Bool.and_eq_true] at h
    rcases List.mem_cons.mp hx with rfl | hx
    · exact h.1
    · exact fitss_mem h.2 hx
theorem fits_len {n : Nat} {x : D} (h : fits (n + 1) x = true) (g : gd x = true) : lenD x ≤ 1000 := by
  cases x with
  | tup xs =>
    rw [fits, Bool.and_eq_true, decide_eq_true_eq] at h
    exact h.1
  | lst xs => simp [gd] at g
  | _ => exact Nat.zero_le _
theorem same_all {defs : Nat → Option IDef} (hd : defs 24 = some d24) : ∀ (n l : Nat) (x : D), n ≤ l → gd x = true → fits n x = true → sem defs l 24 [x, x] = .ok (.val (.bl true))
  | 0, _, _, _, _, f => by simp [fits] at f
  | n + 1, 0, x, hl, g, f => by omega
  | n + 1, l + 1, x, hl, g, f => by
    show (match defs 24 with | some d => d.run (sem defs l) [x, x] | none => .bad) = _
    rw [hd]
    refine same_run g (fits_len f g) fun xs e y hy => ?_
    subst e
    rw [fits, Bool.and_eq_true] at f
    simp only [gd] at g
    exact same_all hd n l y (by omega) (gds_mem g hy) (fitss_mem f.2 hy)
theorem listed_all {defs : Nat → Option IDef} (hd : defs 25 = some d25) : ∀ (n l : Nat) (x : D), n ≤ l → gd x = true → fits n x = true → ∃ b, sem defs l 25 [x] = .ok b ∧ b.d = lsd x
  | 0, _, _, _, _, f => by simp [fits] at f
  | n + 1, 0, x, hl, g, f => by omega
  | n + 1, l + 1, x, hl, g, f => by
    show ∃ b, (match defs 25 with | some d => d.run (sem defs l) [x] | none => .bad) = .ok b ∧ _
    rw [hd]
    refine listed_run g (fits_len f g) fun xs e y hy => ?_
    subst e
    rw [fits, Bool.and_eq_true] at f
    simp only [gd] at g
    exact listed_all hd n l y (by omega) (gds_mem g hy) (fitss_mem f.2 hy)
end PF

end

section
set_option linter.all false
set_option maxRecDepth 100000
/-! M7: forms and weighings (the program's side). -/
namespace PF
open PySem L2
theorem NonLoop {m : Nat → List D → R Bd} {i : Nat} {B : List IS} (hB : B = [.ite (.cmp .isn (.var i) (.con .non)) [.ret (.con .non)] []]) {ρ : SEnv} {x : D} (hρ : (mask (fun k => (IE.cmp .isn (.var i) (.con .non)).ment k) 0 ρ)[i]? = some (some x)) :
    (isNon x = true → exs m B ρ = .ok ρ (.rt (.val .non))) ∧ (isNon x = false → exs m B ρ = .ok ρ .nx) := by
  subst hB
  constructor
  · intro h
    simp only [exs, IS.ex, IE.te, IE.ev, hρ, bind_ok, Bd.d, isn_ev2, h, withB, if_true, retE, ite_true]
  · intro h
    simp only [exs, IS.ex, IE.te, IE.ev, hρ, bind_ok, Bd.d, isn_ev2, h, withB, Bool.false_eq_true, if_false, ite_false]
theorem rp_not_non {q : Rat} : isNon (rp q) = false := rfl
/-- one row of signed ratios -/
theorem form_run {m : Nat → List D → R Bd} (h3 : sIsRow m) (h7 : sSigned m) {d : D} {ds : List D} {qs : List Rat} (hd : d = .tup ds ∨ d = .lst ds) (hq : Qs ds qs) (h1 : 1 ≤ qs.length) (h11 : qs.length ≤ 11) : d158.run m [d] = .ok (.val (rr qs)) := by
  have hpl : pl d = true := by rcases hd with rfl | rfl <;> rfl
  have hs : isSeq d = true := by rcases hd with rfl | rfl <;> rfl
  have hl : lenF [d] = .ok (.val (.int (qs.length : Nat))) := by rcases hd with rfl | rfl <;> (rw [← hq.len]; rfl)
  have e := h3 d hpl
  rw [hs] at e
  have it : itemsD d = .ok ds := by rcases hd with rfl | rfl <;> rfl
  have c1 : (1 : Int) ≤ (qs.length : Nat) := by omega
  have c2 : ((qs.length : Nat) : Int) ≤ 11 := by omega
  have hc : compF (putT (.nm 2)) (fun _ => .ok true) (fun η1 => d158e0.ev m η1) [some d, none, none] ds = .ok (qs.map rp) := Qs.comp (m := m) (i := 2) (j := 7) (f := rp) (η := [some d, none, none]) (put := putT (.nm 2)) h7 (fun x => ⟨_, rfl, rfl⟩) hq
  obtain ⟨ρ', e2, t, rfl⟩ := loopF_all (put := putS (.nm 2)) (body := fun ρ1 => exs m d158b1 ρ1) (items := qs.map rp) (I := fun ρ => ∃ t, ρ = [some (.val d), some (.val (.lst (qs.map rp))), t]) (ρ := [some (.val d), some (.val (.lst (qs.map rp))), none]) ⟨_, rfl⟩ (fun x hx ρ hi => by
    obtain ⟨t, rfl⟩ := hi
    obtain ⟨q, _, rfl⟩ := List.mem_map.mp hx
    exact ⟨[some (.val d), some (.val (.lst (qs.map rp))), some (.val (rp q))], _, rfl, .inl ((NonLoop (m := m) (i := 2) rfl (x := rp q) (by simp [mask])).2 rfl), some (.val (rp q)), rfl⟩)
  have hz : (qs.map rp).length ≤ 1000 := by rw [List.length_map]; omega
  unfold d158 rr
  dsimp! [e, hl, it, c1, c2, hc, grd_sz hz, e2]
def sForm (m : Nat → List D → R Bd) : Prop := ∀ (d : D) (ds : List D) (qs : List Rat), (d = .tup ds ∨ d = .lst ds) → Qs ds qs → 1 ≤ qs.length → qs.length ≤ 11 → m 158 [d] = .ok (.val (rr qs))
/-- several rows, as tuples or lists, all of one width -/
inductive Fs (L : Nat) : List D → List (List Rat) → Prop
  | nil : Fs L [] []
  | cons {d : D} {ds : List D} {qs : List Rat} {xs : List D} {fs : List (List Rat)} : (d = .tup ds ∨ d = .lst ds) → Qs ds qs → qs.length = L → Fs L xs fs → Fs L (d :: xs) (qs :: fs)
theorem Fs.len {L : Nat} : ∀ {xs : List D} {fs : List (List Rat)}, Fs L xs fs → xs.length = fs.length
  | _, _, .nil => rfl
  | _, _, .cons _ _ _ h => by rw [List.length_cons, List.length_cons, h.len]
theorem Fs.get {L : Nat} : ∀ {xs : List D} {fs : List (List Rat)} {i : Nat} {d : D}, Fs L xs fs → xs[i]? = some d → ∃ ds qs, (d = .tup ds ∨ d = .lst ds) ∧ Qs ds qs ∧ qs.length = L ∧ fs[i]? = some qs
  | _, _, i, d, .nil, h => by simp at h
  | _, _, 0, d, .cons h1 h2 h3 h4, e => by
    simp at e
    subst e
    exact ⟨_, _, h1, h2, h3, rfl⟩
  | _, _, i + 1, d, .cons h1 h2 h3 h4, e => by
    obtain ⟨ds, qs, g1, g2, g3, g4⟩ := Fs.get (i := i) h4 (by simpa using e)
    exact ⟨ds, qs, g1, g2, g3, by simpa using g4⟩
theorem system_body {m : Nat → List D → R Bd} (h : sForm m) {x : D} {xs : List D} {L : Nat} (hx : itemsD x = .ok xs) (hx2 : ixD x (.int 0) = .ok (.val (xs.headD .non))) (hx3 : lenF [xs.headD .non] = .ok (.val (.int L))) {out : List D} (ho : out.length < SZ) {d : D} {ds : List D} {qs : List Rat} {t f : Option Bd}
    (ht : t = some (.val d)) (hf : f = none ∨ ∃ y, f = some (.val y)) (hd : d = .tup ds ∨ d = .lst ds) (hq : Qs ds qs) (hL : qs.length = L) (h1 : 1 ≤ L) (h11 : L ≤ 11) :
    exs m d174b0 [some (.val x), some (.own out), t, f] = .ok [some (.val x), some (.own (out ++ [rr qs])), some (.val d), some (.val (rr qs))] .nx := by
  subst ht
  have e := h d ds qs hd hq (by omega) (by omega)
  have e2 : lenF [rr qs] = .ok (.val (.int L)) := by unfold rr; rw [len_tup, List.length_map, hL]
  have e3 : isNon (rr qs) = false := rfl
  have e4 : cmpD .isn (rr qs) .non = .ok (.val (.bl false)) := isn_ev2.trans (by rw [e3])
  unfold d174b0
  rcases hf with rfl | ⟨y, rfl⟩ <;>
    simp -implicitDefEqProofs only [exs, IS.ex, IE.ev, IE.te, evs, IE.ment, ments, mask, withE, withB, after_k, afterK_nil, afterK_non, afterK_val, afterK_own, List.getElem?_cons_zero, List.getElem?_cons_succ, List.set_cons_zero, List.set_cons_succ, bind_ok, Bd.d, e, e2, e4, hx2, hx3, bltD, ne_int, if_true, if_false, ite_true, ite_false, reduceIte, Bool.false_eq_true, decide_true, Bool.not_true, isOwn, appS, ho, Nat.zero_add, Nat.reduceAdd, Nat.reduceBEq, Bool.or_false, Bool.false_or, Bool.not_false, Bool.or_true]
end PF

end

section
set_option linter.all false
set_option maxRecDepth 100000
/-! M8: systems of forms. -/
namespace PF
open PySem L2
theorem system_run {m : Nat → List D → R Bd} (h3 : sIsRow m) (h : sForm m) {x : D} {xs : List D} {fs : List (List Rat)} {L : Nat} (hx : x = .tup xs ∨ x = .lst xs) (hf : Fs L xs fs) (h1 : 1 ≤ L) (h11 : L ≤ 11) (hz : fs.length ≤ 200) : d174.run m [x] = .ok (.val (.tup (fs.map rr))) := by
  have hpl : pl x = true := by rcases hx with rfl | rfl <;> rfl
  have hs : isSeq x = true := by rcases hx with rfl | rfl <;> rfl
  have hl : lenF [x] = .ok (.val (.int (fs.length : Nat))) := by rcases hx with rfl | rfl <;> (rw [← hf.len]; rfl)
  have it : itemsD x = .ok xs := by rcases hx with rfl | rfl <;> rfl
  have e := h3 x hpl
  rw [hs] at e
  have c1 : ¬ ((200 : Int) < (fs.length : Nat)) := by omega
  obtain ⟨ρ', e2, i2⟩ := loopF_inv (put := putS (.nm 2)) (body := fun ρ1 => exs m d174b0 ρ1) (items := xs) (done := [])
    (I := fun done ρ => ∃ (t f : Option Bd), (f = none ∨ ∃ y, f = some (.val y)) ∧ ρ = [some (.val x), some (.own ((fs.take done.length).map rr)), t, f]) (ρ := [some (.val x), some (.own []), none, none])
    ⟨none, none, .inl rfl, rfl⟩ (fun d1 d r ed _ ρ ⟨t, f, hf', hρ⟩ => by
      subst hρ
      rw [List.nil_append] at ed
      have hget : xs[d1.length]? = some d := by rw [ed]; simp
      obtain ⟨ds, qs, g1, g2, g3, g4⟩ := hf.get hget
      have hne : ∃ y ys, xs = y :: ys := by
        cases xs with
        | nil => simp at hget
        | cons y ys => exact ⟨y, ys, rfl⟩
      obtain ⟨y, ys, rfl⟩ := hne
      have hx2 : ixD x (.int 0) = .ok (.val ((y :: ys).headD .non)) := by
        rcases hx with rfl | rfl <;> (show (match atI (y :: ys) 0 with | some d => R.ok (Bd.val d) | none => .bad) = _; rw [at0]; rfl)
      have hx3 : lenF [(y :: ys).headD .non] = .ok (.val (.int L)) := by
        obtain ⟨ds', qs', k1, k2, k3, k4⟩ := hf.get (i := 0) (d := y) rfl
        show lenF [y] = _
        rw [← k3, ← k2.len]
        rcases k1 with rfl | rfl <;> rfl
      have hlt : d1.length < fs.length := by
        rw [← hf.len]
        exact (List.getElem?_eq_some_iff.mp hget).1
      have ho : ((fs.take d1.length).map rr).length < SZ := by rw [List.length_map, List.length_take]; unfold SZ; omega
      have b := system_body h it hx2 hx3 ho (t := some (.val d)) rfl hf' g1 g2 g3 h1 h11
      refine ⟨[some (.val x), some (.own ((fs.take d1.length).map rr)), some (.val d), f], _, rfl, .inl b, some (.val d), some (.val (rr qs)), .inr ⟨_, rfl⟩, ?_⟩
      rw [List.length_append, List.length_singleton]
      have : fs.take (d1.length + 1) = fs.take d1.length ++ [qs] := by
        rw [List.take_succ, g4]
        rfl
      rw [this, List.map_append]
      rfl)
  obtain ⟨t, f, _, rfl⟩ := i2
  rw [List.nil_append, hf.len, List.take_length] at e2
  unfold d174
  dsimp! [e, hl, it, c1, e2]
def sSystem (m : Nat → List D → R Bd) : Prop := ∀ (x : D) (xs : List D) (fs : List (List Rat)) (L : Nat), (x = .tup xs ∨ x = .lst xs) → Fs L xs fs → 1 ≤ L → L ≤ 11 → fs.length ≤ 200 → m 174 [x] = .ok (.val (.tup (fs.map rr)))
theorem need_system_run {m : Nat → List D → R Bd} (h : sSystem m) {x : D} {xs : List D} {fs : List (List Rat)} {L : Nat} (hx : x = .tup xs ∨ x = .lst xs) (hf : Fs L xs fs) (h1 : 1 ≤ L) (h11 : L ≤ 11) (hz : fs.length ≤ 200) (hne : fs ≠ []) :
    d175.run m [x] = .ok (.val (.tup [.tup (fs.map rr), .int ((L : Int) - 1)])) := by
  have e := h x xs fs L hx hf h1 h11 hz
  cases hf with
  | nil => exact absurd rfl hne
  | cons k1 k2 k3 k4 =>
    rename_i d ds qs xs fs
    have c : ¬ ((((fs.length + 1 : Nat)) : Int) = 0) := by omega
    unfold d175
    rw [List.map_cons] at e ⊢
    have e2 : lenF [rr qs] = .ok (.val (.int L)) := by unfold rr; rw [len_tup, List.length_map, k3]
    dsimp! [e, isn_ev2, isNon, List.length_map, c, e2]
def sNeedSystem (m : Nat → List D → R Bd) : Prop := ∀ (x : D) (xs : List D) (fs : List (List Rat)) (L : Nat), (x = .tup xs ∨ x = .lst xs) → Fs L xs fs → 1 ≤ L → L ≤ 11 → fs.length ≤ 200 → fs ≠ [] → m 175 [x] = .ok (.val (.tup [.tup (fs.map rr), .int ((L : Int) - 1)]))
theorem need_form_run {m : Nat → List D → R Bd} (h : sForm m) {d : D} {ds : List D} {qs : List Rat} {k : Int} (hd : d = .tup ds ∨ d = .lst ds) (hq : Qs ds qs) (h1 : 1 ≤ qs.length) (h11 : qs.length ≤ 11) (hk : (qs.length : Int) = k + 1) : d176.run m [d, .int k] = .ok (.val (rr qs)) := by
  have e := h d ds qs hd hq h1 h11
  have e2 : lenF [rr qs] = .ok (.val (.int qs.length)) := by unfold rr; rw [len_tup, List.length_map]
  have e4 : cmpD .isn (rr qs) .non = .ok (.val (.bl false)) := isn_ev2
  unfold d176
  simp -implicitDefEqProofs only [IDef.run, exs, IS.ex, IE.ev, IE.te, evs, IE.ment, ments, mask, withE, withB, after_k, afterK_nil, afterK_non, afterK_val, List.length_cons, List.length_nil, List.map_cons, List.map_nil, List.replicate, List.cons_append, List.nil_append, List.getElem?_cons_zero, List.getElem?_cons_succ, List.set_cons_zero, List.set_cons_succ, bind_ok, Bd.d, e, e2, e4, bltD, ne_int, add_ev, hk, if_true, if_false, ite_true, ite_false, reduceIte, Bool.false_eq_true, decide_true, Bool.not_true, retE, Nat.reduceAdd, Nat.reduceSub]
end PF

end

section
set_option linter.all false
set_option maxRecDepth 100000
/-! M9: weighed sums (the program's side). -/
namespace PF
open PySem L2
def sRowPlus (m : Nat → List D → R Bd) : Prop := ∀ ps qs : List Rat, SzL 4000 ps → SzL 4000 qs → ps.length ≤ 1000 → m 99 [rr ps, rr qs] = .ok (.val (rr (List.zipWith (· + ·) ps qs)))
def sRowTimes (m : Nat → List D → R Bd) : Prop := ∀ (ps : List Rat) (w : Rat), SzL 4000 ps → Sz 4000 w → ps.length ≤ 1000 → m 101 [rr ps, rp w] = .ok (.val (rr (ps.map (· * w))))
def sConst (m : Nat → List D → R Bd) : Prop := ∀ (c : Rat) (k : Nat), 1 ≤ k → k ≤ 1000 → m 142 [rp c, .int k] = .ok (.val (rr (c :: List.replicate (k - 1) 0)))
/-- one step of a weighed sum -/
def wstep (acc : List Rat) (p : List Rat × Rat) : List Rat := List.zipWith (fun a x => a + x * p.2) acc p.1
def wsum (acc : List Rat) (ps : List (List Rat × Rat)) : List Rat := ps.foldl wstep acc
theorem wstep_len {acc : List Rat} {p : List Rat × Rat} (h : p.1.length = acc.length) : (wstep acc p).length = acc.length := by unfold wstep; rw [List.length_zipWith, h, Nat.min_self]
theorem zw_zero : ∀ {acc f : List Rat}, f.length = acc.length → List.zipWith (fun a x => a + x * 0) acc f = acc
  | [], _, _ => rfl
  | a :: acc, [], h => by simp at h
  | a :: acc, x :: f, h => by
    rw [List.zipWith_cons_cons, zw_zero (by simpa using h)]
    congr 1
    grind
theorem wstep_zero {acc : List Rat} {f : List Rat} (h : f.length = acc.length) : wstep acc (f, 0) = acc := zw_zero h
theorem wstep_is {acc : List Rat} {f : List Rat} {w : Rat} : List.zipWith (· + ·) acc (f.map (· * w)) = wstep acc (f, w) := by
  unfold wstep
  rw [List.zipWith_map_right]
/-- few bits all the way -/
theorem SzL.wstep {k : Nat} {acc f : List Rat} {w : Rat} (ha : SzL k acc) (hf : SzL 20 f) (hw : Sz 20 w) : SzL (k + 41) (wstep acc (f, w)) :=
  SzL.zip (N := k) (M := 20) (K := k + 41) (fun p q hp hq => (hp.add (hq.mul hw)).mono (by omega)) ha hf
theorem zip_items {fs : List (List Rat)} {ws : List Rat} : zipD (fs.map rr) (ws.map rp) = (fs.zip ws).map fun p => .tup [rr p.1, rp p.2] := by
  induction fs generalizing ws with
  | nil => simp [zipD]
  | cons f fs ih =>
    cases ws with
    | nil => simp [zipD]
    | cons w ws => simp [zipD, ih]
theorem wsum_body {m : Nat → List D → R Bd} (h99 : sRowPlus m) (h101 : sRowTimes m) {a b c : Option Bd} (ha : ∃ d, a = some (.val d)) (hb : ∃ d, b = some (.val d)) (hc : ∃ d, c = some (.val d)) {acc f : List Rat} {w : Rat} (h1 : SzL 3900 acc) (h2 : SzL 20 f) (h3 : Sz 20 w) (h4 : f.length = acc.length) (h5 : acc.length ≤ 100) :
    exs m d177b0 [a, b, c, some (.val (rr acc)), some (.val (rr f)), some (.val (rp w))] = .ok [a, b, c, some (.val (rr (wstep acc (f, w)))), some (.val (rr f)), some (.val (rp w))] .nx := by
  obtain ⟨a, rfl⟩ := ha
  obtain ⟨b, rfl⟩ := hb
  obtain ⟨c, rfl⟩ := hc
  have e1 := h101 f w (fun q hq => (h2 q hq).mono (by decide)) (h3.mono (by decide)) (by omega)
  have hs : SzL 4000 (f.map (· * w)) := fun q hq => by
    obtain ⟨x, hx, rfl⟩ := List.mem_map.mp hq
    exact ((h2 x hx).mul h3).mono (by decide)
  have e2 := h99 acc (f.map (· * w)) (fun q hq => (h1 q hq).mono (by decide)) hs (by omega)
  rw [wstep_is] at e2
  have e3 : cmpD .ne (rp w) (.tup [.int 0, .int 1]) = .ok (.val (.bl (!decide (w = 0)))) := by rw [← rp_zero]; exact ne_rp
  unfold d177b0
  by_cases hw : w = 0
  · subst hw
    rw [wstep_zero h4]
    simp -implicitDefEqProofs only [exs, IS.ex, IE.ev, IE.te, IE.ment, mask, withB, List.getElem?_cons_zero, List.getElem?_cons_succ, bind_ok, Bd.d, e3, decide_true, Bool.not_true, Bool.false_eq_true, if_false, ite_false, reduceIte]
  · simp -implicitDefEqProofs only [exs, IS.ex, IE.ev, IE.te, evs, IE.ment, ments, mask, withE, withB, after_k, afterK_nil, afterK_non, afterK_val, List.getElem?_cons_zero, List.getElem?_cons_succ, List.set_cons_zero, List.set_cons_succ, bind_ok, Bd.d, e1, e2, e3, decide_eq_false hw, Bool.not_false, if_true, ite_true, reduceIte]
theorem weighed_run {m : Nat → List D → R Bd} (h99 : sRowPlus m) (h101 : sRowTimes m) (h142 : sConst m) {fs : List (List Rat)} {ws : List Rat} {L : Nat} (hL : 1 ≤ L) (hL2 : L ≤ 50) (hf : ∀ f ∈ fs, f.length = L ∧ SzL 20 f) (hw : SzL 20 ws) (hz : fs.length ≤ 20) :
    d177.run m [.tup (fs.map rr), rr ws, .int L] = .ok (.val (rr (wsum (List.replicate L 0) (fs.zip ws)))) := by
  have e := h142 0 L hL (by omega)
  have hrep : (0 : Rat) :: List.replicate (L - 1) 0 = List.replicate L 0 := by
    rw [← List.replicate_succ]
    congr 1
    omega
  rw [hrep, rp_zero] at e
  have hzl : (fs.zip ws).length ≤ 20 := by rw [List.length_zip]; omega
  have hm : ∀ p ∈ fs.zip ws, (p.1.length = L ∧ SzL 20 p.1) ∧ Sz 20 p.2 := fun p hp => ⟨hf p.1 (List.of_mem_zip hp).1, hw p.2 (List.of_mem_zip hp).2⟩
  obtain ⟨ρ', e2, i2⟩ := loopF_inv (put := putS (.tup [.nm 4, .nm 5])) (body := fun ρ1 => exs m d177b0 ρ1) (items := (fs.zip ws).map fun p => D.tup [rr p.1, rp p.2]) (done := [])
    (I := fun done ρ => ∃ (acc : List Rat) (t u : Option Bd), acc = wsum (List.replicate L 0) ((fs.zip ws).take done.length) ∧ acc.length = L ∧ SzL (1 + 41 * done.length) acc ∧ ρ = [some (.val (.tup (fs.map rr))), some (.val (rr ws)), some (.val (.int L)), some (.val (rr acc)), t, u])
    (ρ := [some (.val (.tup (fs.map rr))), some (.val (rr ws)), some (.val (.int L)), some (.val (rr (List.replicate L 0))), none, none])
    ⟨_, none, none, rfl, List.length_replicate, fun q hq => (by rw [List.eq_of_mem_replicate hq]; exact ⟨by decide, by decide⟩), rfl⟩ (fun d1 x r ed _ ρ ⟨acc, t, u, i1, i2, i3, hρ⟩ => by
      subst hρ
      rw [List.nil_append] at ed
      have hget : ((fs.zip ws).map fun p => D.tup [rr p.1, rp p.2])[d1.length]? = some x := by rw [ed]; simp
      rw [List.getElem?_map] at hget
      cases hp : (fs.zip ws)[d1.length]? with
      | none => rw [hp] at hget; cases hget
      | some p =>
        rw [hp] at hget
        cases hget
        obtain ⟨g1, g2⟩ := hm p (List.mem_of_getElem? hp)
        have hlt : d1.length < 20 := Nat.lt_of_lt_of_le (List.getElem?_eq_some_iff.mp hp).1 hzl
        have b := wsum_body (m := m) h99 h101 (a := some (.val (.tup (fs.map rr)))) (b := some (.val (rr ws))) (c := some (.val (.int L))) ⟨_, rfl⟩ ⟨_, rfl⟩ ⟨_, rfl⟩ (acc := acc) (f := p.1) (w := p.2) (fun q hq => (i3 q hq).mono (by omega)) g1.2 g2 (by rw [g1.1, i2]) (by omega)
        refine ⟨[some (.val (.tup (fs.map rr))), some (.val (rr ws)), some (.val (.int L)), some (.val (rr acc)), some (.val (rr p.1)), some (.val (rp p.2))], _, rfl, .inl b, wstep acc p, some (.val (rr p.1)), some (.val (rp p.2)), ?_, ?_, ?_, rfl⟩
        · rw [List.length_append, List.length_singleton, List.take_succ, hp, i1]
          unfold wsum
          rw [List.foldl_append]
          rfl
        · rw [wstep_len (by rw [g1.1, i2]), i2]
        · rw [List.length_append, List.length_singleton]
          have := SzL.wstep i3 g1.2 g2
          exact fun q hq => (this q hq).mono (by omega))
  obtain ⟨acc, t, u, i1, i3, i4, rfl⟩ := i2
  rw [List.nil_append, List.length_map, List.take_length] at i1
  subst i1
  unfold d177
  have e3 : rr ws = .tup (ws.map rp) := rfl
  simp -implicitDefEqProofs only [IDef.run, exs, IS.ex, IE.ev, evs, iev_zip, IE.ment, ments, IIt.ment, IIt.gone, mask, withE, after_k, afterK_nil, afterK_non, afterK_val, unown, List.length_cons, List.length_nil, List.map_cons, List.map_nil, List.replicate, List.cons_append, List.nil_append, List.getElem?_cons_zero, List.getElem?_cons_succ, List.set_cons_zero, List.set_cons_succ, bind_ok, Bd.d, e, e3, sq_tup, zip_items, retE, Nat.reduceAdd, Nat.reduceSub, if_true, ite_true, reduceIte] at e2 ⊢
  rw [e2]
  rfl
theorem wsum_ok : ∀ (ps : List (List Rat × Rat)) {acc : List Rat} {k L : Nat}, acc.length = L → SzL k acc → (∀ p ∈ ps, (p.1.length = L ∧ SzL 20 p.1) ∧ Sz 20 p.2) → (wsum acc ps).length = L ∧ SzL (k + 41 * ps.length) (wsum acc ps)
  | [], acc, k, L, h, hs, _ => ⟨h, hs⟩
  | p :: ps, acc, k, L, h, hs, hp => by
    obtain ⟨g1, g2⟩ := hp p List.mem_cons_self
    have r := wsum_ok ps (acc := wstep acc p) (k := k + 41) (L := L) (by rw [wstep_len (by rw [g1.1, h]), h]) (SzL.wstep hs g1.2 g2) fun q hq => hp q (List.mem_cons_of_mem _ hq)
    refine ⟨r.1, ?_⟩
    rw [List.length_cons, show k + 41 * (ps.length + 1) = k + 41 + 41 * ps.length by omega]
    exact r.2
theorem cut_tail {x : D} {xs : List D} : cutD (x :: xs) (some 1) none = xs := by
  have e1 : HT.sIx (x :: xs).length 0 (some 1) = 1 := by
    show (if (1 : Int) < 0 then ((1 : Int) + ((x :: xs).length : Int)).toNat else min (1 : Int).toNat (x :: xs).length) = 1
    rw [if_neg (by decide), List.length_cons]
    show min 1 (xs.length + 1) = 1
    omega
  have e2 : HT.sIx (x :: xs).length (x :: xs).length none = (x :: xs).length := rfl
  unfold cutD
  rw [e1, e2, List.drop_succ_cons, List.drop_zero, List.length_cons, Nat.add_sub_cancel, List.take_length]
theorem sl_tail {x : D} {xs : List D} : slD (.tup (x :: xs)) (some 1) none = .ok (.val (.tup xs)) := by
  show R.ok (Bd.val (.tup (cutD _ _ _))) = _
  rw [cut_tail]
theorem sl_tailL {x : D} {xs : List D} : slD (.lst (x :: xs)) (some 1) none = .ok (.own xs) := by
  show R.ok (Bd.own (cutD _ _ _)) = _
  rw [cut_tail]
theorem Sz.zero {n : Nat} (h : 0 < n) : Sz n 0 := by
  have := Sz.int (k := n) (i := 0) (by unfold Bt; exact Nat.two_pow_pos n) h
  exact this
/-- no factor of a holding rises -/
theorem rising_run {m : Nat → List D → R Bd} (h0 : sLess m) {q : Rat} {qs : List Rat} (hs : SzL 4000 qs) (hz : qs.length ≤ 1000) : d178.run m [rr (q :: qs)] = .ok (.val (.bl (!(qs.any fun x => decide (0 < x))))) := by
  have hb : ∀ (a : Option Bd) (x : Rat), (∃ d, a = some (.val d)) → Sz 4000 x → (decide (0 < x) = true → exs m d178b0 [a, some (.val (rp x))] = .ok [a, some (.val (rp x))] (.rt (.val (.bl false)))) ∧ (decide (0 < x) = false → exs m d178b0 [a, some (.val (rp x))] = .ok [a, some (.val (rp x))] .nx) := by
    rintro a x ⟨d, rfl⟩ hx
    have e := h0 0 x (Sz.zero (by decide)) hx
    rw [rp_zero] at e
    unfold d178b0
    constructor <;> intro hc <;> dsimp! [e, hc]
  have hf := loopF_find (put := putS (.nm 1)) (body := fun ρ1 => exs m d178b0 ρ1) (I := fun ρ => ∃ t, ρ = [some (.val (rr (q :: qs))), t]) (p := fun d => match d with | .tup [.int n, _] => decide (0 < n) | _ => false) (r := .val (.bl false)) (items := qs.map rp) (ρ := [some (.val (rr (q :: qs))), none]) ⟨_, rfl⟩ (fun x hx ρ hi => by
    obtain ⟨t, rfl⟩ := hi
    obtain ⟨y, hy, rfl⟩ := List.mem_map.mp hx
    have b := hb (some (.val (rr (q :: qs)))) y ⟨_, rfl⟩ (hs y hy)
    have hn : decide (0 < y) = decide (0 < y.num) := by
      refine decide_eq_decide.mpr ?_
      rw [Rat.lt_iff]
      simp
    refine ⟨[some (.val (rr (q :: qs))), some (.val (rp y))], rfl, fun h => ⟨_, b.1 (hn.trans h)⟩, fun h => ⟨_, .inl (b.2 (hn.trans h)), _, rfl⟩⟩)
  have ha : (qs.map rp).any (fun d => match d with | .tup [.int n, _] => decide (0 < n) | _ => false) = qs.any fun x => decide (0 < x) := by
    rw [List.any_map]
    congr 1
    funext y
    show decide (0 < y.num) = _
    refine decide_eq_decide.mpr ?_
    rw [Rat.lt_iff]
    simp
  rw [ha] at hf
  have hsl : slD (rr (q :: qs)) (some 1) none = .ok (.val (.tup (qs.map rp))) := by
    show slD (.tup (rp q :: qs.map rp)) (some 1) none = _
    exact sl_tail
  unfold d178
  cases hA : qs.any fun x => decide (0 < x) with
  | true =>
    obtain ⟨ρ', e⟩ := hf.1 hA
    dsimp! [hsl, e]
  | false =>
    obtain ⟨ρ', e, t, rfl⟩ := hf.2 hA
    dsimp! [hsl, e]
end PF

end

section
set_option linter.all false
set_option maxRecDepth 100000
/-! M10: what is shown (the program's side of k13). -/
namespace PF
open PySem L2
/-- what is tried as a weighing -/
inductive Tr : D → Option (List Rat) → Prop
  | row (ws : List Rat) : SzL 20 ws → ws.length ≤ 20 → Tr (rr ws) (some ws)
  | non : Tr .non none
  | int (i : Int) : Tr (.int i) none
def okW (n : Nat) : Option (List Rat) → Bool
  | some ws => decide (ws.length = n) && !(ws.any fun q => decide (q.num < 0))
  | none => false
def sFractions (m : Nat → List D → R Bd) : Prop := ∀ (d : D) (ds : List D) (qs : List Rat) (k : Int), (d = .tup ds ∨ d = .lst ds) → Qs ds qs → ds.length ≤ 1000 →
  m 9 [d, .int k] = .ok (.val (if (qs.length : Int) = k then (if qs.any (fun q => decide (q.num < 0)) = true then .non else .tup (qs.map rp)) else .non))
def sFractions0 (m : Nat → List D → R Bd) : Prop := ∀ (d : D) (k : Int), pl d = true → isSeq d = false → m 9 [d, .int k] = .ok (.val .non)
theorem fractions0_run {m : Nat → List D → R Bd} (h4 : sIsRowOf m) {d : D} {k : Int} (hp : pl d = true) (hs : isSeq d = false) : d9.run m [d, .int k] = .ok (.val .non) := by
  have e := h4 d k hp
  rw [hs, Bool.false_and] at e
  unfold d9
  dsimp! [e]
def orr : Option (List Rat) → D
  | some ws => rr ws
  | none => .non
theorem tried {m : Nat → List D → R Bd} (h : sFractions m) (h0 : sFractions0 m) {d : D} {o : Option (List Rat)} (t : Tr d o) (n : Nat) : m 9 [d, .int n] = .ok (.val (if okW n o = true then orr o else .non)) := by
  cases t with
  | row ws hs hl =>
    have e := h (rr ws) (ws.map rp) ws n (.inl rfl) (Qs.rps ws) (by rw [List.length_map]; omega)
    rw [e]
    have hok : okW n (some ws) = (decide (ws.length = n) && !(ws.any fun q => decide (q.num < 0))) := rfl
    by_cases c : ws.length = n
    · rw [if_pos (by omega)]
      cases hA : ws.any fun q => decide (q.num < 0)
      · rw [hA, decide_eq_true c] at hok
        rw [hok]
        rfl
      · rw [hA, decide_eq_true c] at hok
        rw [hok]
        rfl
    · rw [if_neg (by omega)]
      rw [decide_eq_false c, Bool.false_and] at hok
      rw [hok, if_neg Bool.false_ne_true]
  | non => exact h0 _ _ rfl rfl
  | int i => exact h0 _ _ rfl rfl
def sWeighed (m : Nat → List D → R Bd) : Prop := ∀ (fs : List (List Rat)) (ws : List Rat) (L : Nat), 1 ≤ L → L ≤ 50 → (∀ f ∈ fs, f.length = L ∧ SzL 20 f) → SzL 20 ws → fs.length ≤ 20 → m 177 [.tup (fs.map rr), rr ws, .int L] = .ok (.val (rr (wsum (List.replicate L 0) (fs.zip ws))))
def sRising (m : Nat → List D → R Bd) : Prop := ∀ (q : Rat) (qs : List Rat), SzL 4000 qs → qs.length ≤ 1000 → m 178 [rr (q :: qs)] = .ok (.val (.bl (!(qs.any fun x => decide (0 < x)))))
theorem wsum_row {fs : List (List Rat)} {ws : List Rat} {L : Nat} (hf : ∀ f ∈ fs, f.length = L ∧ SzL 20 f) (hw : SzL 20 ws) (hz : fs.length ≤ 20) : (wsum (List.replicate L 0) (fs.zip ws)).length = L ∧ SzL 900 (wsum (List.replicate L 0) (fs.zip ws)) := by
  have r := wsum_ok (fs.zip ws) (acc := List.replicate L 0) (k := 1) (L := L) List.length_replicate (fun q hq => by rw [List.eq_of_mem_replicate hq]; exact Sz.zero (by decide)) fun p hp => ⟨hf p.1 (List.of_mem_zip hp).1, hw p.2 (List.of_mem_zip hp).2⟩
  refine ⟨r.1, fun q hq => (r.2 q hq).mono ?_⟩
  rw [List.length_zip]
  omega
/-- none can be: by the weighing -/
def noneW (fs : List (List Rat)) (L : Nat) (o : Option (List Rat)) : Bool := okW fs.length o && (match o with
  | some ws => !((wsum (List.replicate L 0) (fs.zip ws)).tail.any fun x => decide (0 < x)) && decide ((wsum (List.replicate L 0) (fs.zip ws)).headD 0 < 0)
  | none => false)
theorem none_shown_run {m : Nat → List D → R Bd} (h0 : sLess m) (h9 : sFractions m) (h90 : sFractions0 m) (h177 : sWeighed m) (h178 : sRising m) {fs : List (List Rat)} {L : Nat} (hL : 1 ≤ L) (hL2 : L ≤ 50) (hf : ∀ f ∈ fs, f.length = L ∧ SzL 20 f) (hz : fs.length ≤ 20) {d : D} {o : Option (List Rat)} (t : Tr d o) :
    d179.run m [.tup (fs.map rr), d, .int ((L : Int) - 1)] = .ok (.val (.bl (noneW fs L o))) := by
  have e := tried h9 h90 t fs.length
  have hl : (((L : Int) - 1) + 1) = L := by omega
  unfold d179 noneW
  cases hA : okW fs.length o with
  | false =>
    rw [hA, if_neg Bool.false_ne_true] at e
    dsimp! [List.length_map, e, Bool.false_and]
  | true =>
    cases t with
    | non => simp [okW] at hA
    | int i => simp [okW] at hA
    | row ws hs hlw =>
      rw [hA, if_pos rfl, show orr (some ws) = rr ws from rfl] at e
      obtain ⟨r1, r2⟩ := wsum_row hf hs hz (L := L)
      have e2 := h177 fs ws L hL hL2 hf hs hz
      generalize hW : wsum (List.replicate L 0) (fs.zip ws) = W at r1 r2 e2 ⊢
      cases W with
      | nil => simp at r1; omega
      | cons q qs =>
        have e3 := h178 q qs (fun x hx => (r2 x (List.mem_cons_of_mem _ hx)).mono (by decide)) (by simp at r1; omega)
        have e4 := h0 q 0 ((r2 q List.mem_cons_self).mono (by decide)) (Sz.zero (by decide))
        rw [rp_zero] at e4
        have e5 : isNon (rr ws) = false := rfl
        have e6 : cmpD .isn (rr ws) .non = .ok (.val (.bl false)) := isn_ev2
        have e7 : ixD (rr (q :: qs)) (.int 0) = .ok (.val (rp q)) := by
          show (match atI (rp q :: qs.map rp) 0 with | some d => R.ok (Bd.val d) | none => .bad) = _
          rw [at0]
        cases hB : qs.any fun x => decide (0 < x) <;>
          (rw [hB] at e3; simp -implicitDefEqProofs only [IDef.run, exs, IS.ex, IE.ev, IE.te, evs, IE.ment, ments, mask, withE, withB, after_k, afterK_nil, afterK_non, afterK_val, List.length_cons, List.length_nil, List.map_cons, List.map_nil, List.length_map, List.replicate, List.cons_append, List.nil_append, List.getElem?_cons_zero, List.getElem?_cons_succ, List.set_cons_zero, List.set_cons_succ, bind_ok, Bd.d, e, e2, e3, e4, e6, e7, hl, bltD, len_tup, add_ev, if_true, if_false, ite_true, ite_false, reduceIte, Bool.false_eq_true, truD, Bool.not_true, Bool.not_false, retE, Nat.reduceAdd, Nat.reduceSub, hW, hB, List.tail_cons, List.headD_cons, Bool.true_and, Bool.false_and])
end PF

end

section
set_option linter.all false
set_option maxRecDepth 100000
/-! M11: shown (the program's side of k13), the rest. -/
namespace PF
open PySem L2
theorem ix0_rr {q : Rat} {qs : List Rat} : ixD (rr (q :: qs)) (.int 0) = .ok (.val (rp q)) := by
  show (match atI (rp q :: qs.map rp) 0 with | some d => R.ok (Bd.val d) | none => .bad) = _
  rw [at0]
theorem isn_rr {qs : List Rat} : cmpD .isn (rr qs) .non = .ok (.val (.bl false)) := isn_ev2
theorem isn_rp {q : Rat} : cmpD .isn (rp q) .non = .ok (.val (.bl false)) := isn_ev2
/-- at most that much: by the weighing -/
def mostW (fs : List (List Rat)) (L : Nat) (goal : List Rat) (most : Rat) (o : Option (List Rat)) : Bool := okW fs.length o && (match o with
  | some ws => !((List.zipWith (· + ·) (wsum (List.replicate L 0) (fs.zip ws)) goal).tail.any fun x => decide (0 < x)) && !decide (most < (List.zipWith (· + ·) (wsum (List.replicate L 0) (fs.zip ws)) goal).headD 0)
  | none => false)
theorem most_shown_run {m : Nat → List D → R Bd} (h0 : sLess m) (h9 : sFractions m) (h90 : sFractions0 m) (h99 : sRowPlus m) (h177 : sWeighed m) (h178 : sRising m) {fs : List (List Rat)} {L : Nat} (hL : 1 ≤ L) (hL2 : L ≤ 50) (hf : ∀ f ∈ fs, f.length = L ∧ SzL 20 f) (hz : fs.length ≤ 20)
    {goal : List Rat} (hg : goal.length = L) (hg2 : SzL 20 goal) {most : Rat} (hm : Sz 1000 most) {d : D} {o : Option (List Rat)} (t : Tr d o) :
    d180.run m [.tup (fs.map rr), rr goal, rp most, d, .int ((L : Int) - 1)] = .ok (.val (.bl (mostW fs L goal most o))) := by
  have e := tried h9 h90 t fs.length
  have hl : (((L : Int) - 1) + 1) = L := by omega
  unfold d180 mostW
  cases hA : okW fs.length o with
  | false =>
    rw [hA, if_neg Bool.false_ne_true] at e
    have e6 : cmpD .isn .non .non = .ok (.val (.bl true)) := isn_ev2
    simp_all! [e, e6]
  | true =>
    cases t with
    | non => simp [okW] at hA
    | int i => simp [okW] at hA
    | row ws hs hlw =>
      rw [hA, if_pos rfl, show orr (some ws) = rr ws from rfl] at e
      obtain ⟨r1, r2⟩ := wsum_row hf hs hz (L := L)
      have e2 := h177 fs ws L hL hL2 hf hs hz
      have e8 := h99 _ goal (fun q hq => (r2 q hq).mono (by decide)) (fun q hq => (hg2 q hq).mono (by decide)) (by rw [r1]; omega)
      have s1 : SzL 921 (List.zipWith (· + ·) (wsum (List.replicate L 0) (fs.zip ws)) goal) := SzL.zip (N := 900) (M := 20) (fun p q hp hq => (hp.add hq).mono (by decide)) r2 hg2
      have s2 : (List.zipWith (· + ·) (wsum (List.replicate L 0) (fs.zip ws)) goal).length = L := by rw [List.length_zipWith, r1, hg, Nat.min_self]
      generalize hV : List.zipWith (· + ·) (wsum (List.replicate L 0) (fs.zip ws)) goal = V at s1 s2 e8 ⊢
      cases V with
      | nil => simp at s2; omega
      | cons q qs =>
        have e3 := h178 q qs (fun x hx => (s1 x (List.mem_cons_of_mem _ hx)).mono (by decide)) (by simp at s2; omega)
        have e4 := h0 most q (hm.mono (by decide)) ((s1 q List.mem_cons_self).mono (by decide))
        cases hB : qs.any fun x => decide (0 < x) <;> (rw [hB] at e3; simp_all! [e, e2, e3, e4, e8, hl, hV, hB, List.tail_cons, List.headD_cons])
def sNoneShown (m : Nat → List D → R Bd) : Prop := ∀ (fs : List (List Rat)) (L : Nat) (d : D) (o : Option (List Rat)), 1 ≤ L → L ≤ 50 → (∀ f ∈ fs, f.length = L ∧ SzL 20 f) → fs.length ≤ 20 → Tr d o → m 179 [.tup (fs.map rr), d, .int ((L : Int) - 1)] = .ok (.val (.bl (noneW fs L o)))
def sMostShown (m : Nat → List D → R Bd) : Prop := ∀ (fs : List (List Rat)) (L : Nat) (goal : List Rat) (most : Rat) (d : D) (o : Option (List Rat)), 1 ≤ L → L ≤ 50 → (∀ f ∈ fs, f.length = L ∧ SzL 20 f) → fs.length ≤ 20 → goal.length = L → SzL 20 goal → Sz 1000 most → Tr d o →
  m 180 [.tup (fs.map rr), rr goal, rp most, d, .int ((L : Int) - 1)] = .ok (.val (.bl (mostW fs L goal most o)))
def sNeedForm (m : Nat → List D → R Bd) : Prop := ∀ (d : D) (ds : List D) (qs : List Rat) (k : Int), (d = .tup ds ∨ d = .lst ds) → Qs ds qs → 1 ≤ qs.length → qs.length ≤ 11 → (qs.length : Int) = k + 1 → m 176 [d, .int k] = .ok (.val (rr qs))
theorem asg2 {i j : Nat} {a b : D} {ρ : SEnv} : putS (.tup [.nm i, .nm j]) (.tup [a, b]) ρ = some ((ρ.set i (some (.val a))).set j (some (.val b))) := rfl
theorem shows_none_run {m : Nat → List D → R Bd} (h175 : sNeedSystem m) (h179 : sNoneShown m) {x : D} {xs : List D} {fs : List (List Rat)} {L : Nat} (hx : x = .tup xs ∨ x = .lst xs) (hfs : Fs L xs fs) (hL : 1 ≤ L) (hL2 : L ≤ 11) (hf : ∀ f ∈ fs, SzL 20 f) (hz : fs.length ≤ 20) (hne : fs ≠ []) {d : D} {o : Option (List Rat)} (t : Tr d o) :
    d181.run m [x, d] = .ok (.val (.bl (noneW fs L o))) := by
  have e := h175 x xs fs L hx hfs hL hL2 (by omega) hne
  have hw : ∀ f ∈ fs, f.length = L := by
    clear e hz hne hf hx
    induction hfs with
    | nil => intro f hf; cases hf
    | cons _ _ k _ ih =>
      intro f hf
      rcases List.mem_cons.mp hf with rfl | hf
      · exact k
      · exact ih f hf
  have e2 := h179 fs L d o hL (by omega) (fun f h => ⟨hw f h, hf f h⟩) hz t
  unfold d181
  simp_all! [e, asg2, e2]
theorem Fs.wid {L : Nat} : ∀ {xs : List D} {fs : List (List Rat)}, Fs L xs fs → ∀ f ∈ fs, f.length = L
  | _, _, .nil, f, hf => by cases hf
  | _, _, .cons _ _ k h, f, hf => by
    rcases List.mem_cons.mp hf with rfl | hf
    · exact k
    · exact h.wid f hf
theorem shows_most_run {m : Nat → List D → R Bd} (h7 : sSigned m) (h175 : sNeedSystem m) (h176 : sNeedForm m) (h180 : sMostShown m) {x : D} {xs : List D} {fs : List (List Rat)} {L : Nat} (hx : x = .tup xs ∨ x = .lst xs) (hfs : Fs L xs fs) (hL : 1 ≤ L) (hL2 : L ≤ 11) (hf : ∀ f ∈ fs, SzL 20 f) (hz : fs.length ≤ 20) (hne : fs ≠ [])
    {g : D} {gs : List D} {goal : List Rat} (hg : g = .tup gs ∨ g = .lst gs) (hq : Qs gs goal) (hgl : goal.length = L) (hg2 : SzL 20 goal) {b : D} {most : Rat} (hb : b = rp most ∨ b = lp most) (hm : Sz 1000 most) {d : D} {o : Option (List Rat)} (t : Tr d o) :
    d182.run m [x, g, b, d] = .ok (.val (.bl (mostW fs L goal most o))) := by
  have e := h175 x xs fs L hx hfs hL hL2 (by omega) hne
  have e1 := h176 g gs goal ((L : Int) - 1) hg hq (by omega) (by omega) (by omega)
  have e2 := h7 b most hb
  have e3 := h180 fs L goal most d o hL (by omega) (fun f h => ⟨hfs.wid f h, hf f h⟩) hz hgl hg2 hm t
  unfold d182
  simp_all! [e, asg2, e1, e2, e3]
end PF

end

section
set_option linter.all false
set_option maxRecDepth 100000
/-! M12: the law's side of k13. -/
namespace PF
open PySem L2
theorem lint_run {m : Nat → List D → R Bd} {d : D} (h : pl d = true) : d183.run m [d] = .ok (.val (.bl (isInt d))) := is_integer_run h
def sLInt (m : Nat → List D → R Bd) : Prop := ∀ d, pl d = true → m 183 [d] = .ok (.val (.bl (isInt d)))
theorem Sz.small {a b : Int} {k : Nat} (h0 : 0 < b) (h1 : Bt k a) (h2 : Bt k b) : Sz k ((a : Rat) / (b : Rat)) := Rat.num_le_mk h0 h1 h2
/-- a small signed ratio -/
theorem signedN_run {m : Nat → List D → R Bd} (h27 : sLow m) (n : Int) : ∃ q : Rat, Sz 10 q ∧ d184.run m [.int n] = .ok (.val (rp q)) := by
  have b2 : Bt 2 (1 + n / 13 % 2) := by unfold Bt; omega
  have e := h27 (n % 13 - 6) (1 + n / 13 % 2) (by omega) (b2.mono (by decide))
  refine ⟨((n % 13 - 6 : Int) : Rat) / ((1 + n / 13 % 2 : Int) : Rat), Sz.small (by omega) (by unfold Bt; omega) (by unfold Bt; omega), ?_⟩
  have r1 : binD .mod (.int n) (.int 13) = .ok (.val (.int (n % 13))) := mod_ev (by decide)
  have b3 : Bt 4 13 := by decide
  have r2 : binD .fdiv (.int n) (.int 13) = .ok (.val (.int (n / 13))) := fdiv_ev (by decide) (b3.mono (by decide))
  have r3 : binD .mod (.int (n / 13)) (.int 2) = .ok (.val (.int (n / 13 % 2))) := mod_ev (by decide)
  unfold d184
  simp_all! [r1, r2, r3, e]
def sSignedN (m : Nat → List D → R Bd) : Prop := ∀ n : Int, ∃ q : Rat, Sz 10 q ∧ m 184 [.int n] = .ok (.val (rp q))
theorem compF_rat {put : D → Env → R Env} {elt : Env → R Bd} {η : Env} {k : Nat} : ∀ {items : List D}, (∀ x ∈ items, ∃ η1, put x η = .ok η1 ∧ ∃ q, Sz k q ∧ elt η1 = .ok (.val (rp q))) → ∃ qs, qs.length = items.length ∧ SzL k qs ∧ compF put (fun _ => .ok true) elt η items = .ok (qs.map rp)
  | [], _ => ⟨[], rfl, fun _ h => (by cases h), rfl⟩
  | x :: r, h => by
    obtain ⟨η1, h1, q, h2, h3⟩ := h x List.mem_cons_self
    obtain ⟨qs, g1, g2, g3⟩ := compF_rat (put := put) (elt := elt) (η := η) (k := k) (items := r) fun y hy => h y (List.mem_cons_of_mem _ hy)
    refine ⟨q :: qs, by rw [List.length_cons, List.length_cons, g1], fun y hy => ?_, ?_⟩
    · rcases List.mem_cons.mp hy with rfl | hy
      · exact h2
      · exact g2 y hy
    · unfold compF
      rw [h1]
      dsimp only
      rw [h3]
      dsimp only
      rw [g3]
      rfl
theorem ixl_nat {xs : List D} {i : Nat} (h : i < xs.length) : ixD (.lst xs) (.int (i : Int)) = .ok (.val xs[i]) := by
  show (match atI xs (i : Int) with | some d => R.ok (Bd.val d) | none => .bad) = _
  rw [atI_nat h]
theorem nols_rr : ∀ qs : List Rat, nols (qs.map rp) = true
  | [] => nols_nil
  | q :: qs => by rw [List.map_cons, nols_cons, nol_rp, nols_rr qs]; rfl
theorem nol_rr {qs : List Rat} : nol (rr qs) = true := by unfold rr; rw [nol_tup, nols_rr]
/-- one row of the law's forms -/
theorem forms_body {m : Nat → List D → R Bd} (h184 : sSignedN m) {ns : List Int} {h k : Nat} (hh : h ≤ 2) {i : Nat} (hi : i < ns.length) {out : List D} (ho : out.length < SZ) :
    ∃ f : List Rat, f.length = h + 1 ∧ SzL 10 f ∧ exs m d185b1 [some (.val (.lst (ns.map .int))), some (.val (.int h)), some (.val (.int k)), some (.own out), some (.val (.int i)), none] = .ok [some (.val (.lst (ns.map .int))), some (.val (.int h)), some (.val (.int k)), some (.own (out ++ [rr f])), some (.val (.int i)), none] .nx := by
  obtain ⟨f, f1, f2, f3⟩ := compF_rat (put := putT (.nm 5)) (elt := fun η1 => d185e0.ev m η1) (η := [some (.lst (ns.map .int)), some (.int h), some (.int k), none, some (.int i), none]) (k := 10) (items := rngD 0 (h + 1)) fun x hx => by
    obtain ⟨c, hc, rfl⟩ := rng_mem hx
    rw [Int.zero_add]
    obtain ⟨d, hd0, hd1, hd2⟩ : ∃ d : Int, 0 < d ∧ Bt 10 d ∧ ixD (.lst [.int 1, .int 31, .int 961]) (.int c) = .ok (.val (.int d)) := by
      match c, hc with
      | 0, _ => exact ⟨1, by decide, by decide, rfl⟩
      | 1, _ => exact ⟨31, by decide, by decide, rfl⟩
      | 2, _ => exact ⟨961, by decide, by decide, rfl⟩
      | c + 3, hc => omega
    obtain ⟨q, q1, q2⟩ := h184 (ns[i] / d)
    refine ⟨[some (.lst (ns.map .int)), some (.int h), some (.int k), none, some (.int i), some (.int c)], rfl, q, q1, ?_⟩
    have e1 : ixD (.lst (ns.map .int)) (.int i) = .ok (.val (.int ns[i])) := by
      rw [ixl_nat (by rw [List.length_map]; exact hi), List.getElem_map]
    have e2 : binD .fdiv (.int ns[i]) (.int d) = .ok (.val (.int (ns[i] / d))) := fdiv_ev hd0 (hd1.mono (by decide))
    have e3 : PF.grd (3 ≤ SZ) (.ok (.own [.int 1, .int 31, .int 961])) = .ok (.own [.int 1, .int 31, .int 961]) := grd_sz (by decide)
    unfold d185e0
    simp_all! [e1, e2, e3, hd2, q2]
  rw [rng_len] at f1
  refine ⟨f, f1, f2, ?_⟩
  have hr : rng1F (.int ((h : Int) + 1)) = .ok (rngD 0 (h + 1)) := rng1F_nat (n := h + 1) (by omega)
  have hz : f.length ≤ 1000 := by omega
  have em : d185e0.ment 3 = false := by decide +kernel
  unfold d185b1
  simp_all! [hr, f3, grd_sz hz, isOwn, appS, ho, rr, em]
theorem forms_run {m : Nat → List D → R Bd} (h184 : sSignedN m) {ns : List Int} {h k : Nat} (hh : h ≤ 2) (hk : k ≤ ns.length) (hz : k ≤ 100) :
    ∃ fs : List (List Rat), fs.length = k ∧ (∀ f ∈ fs, f.length = h + 1 ∧ SzL 10 f) ∧ d185.run m [.lst (ns.map .int), .int h, .int k] = .ok (.val (.tup (fs.map rr))) := by
  obtain ⟨ρ', e, fs, t, i1, i2, rfl⟩ := loopF_inv (put := putS (.nm 4)) (body := fun ρ1 => exs m d185b1 ρ1) (items := rngD 0 k) (done := [])
    (I := fun done ρ => ∃ (fs : List (List Rat)) (t : Option Bd), fs.length = done.length ∧ (∀ f ∈ fs, f.length = h + 1 ∧ SzL 10 f) ∧ ρ = [some (.val (.lst (ns.map .int))), some (.val (.int h)), some (.val (.int k)), some (.own (fs.map rr)), t, none])
    (ρ := [some (.val (.lst (ns.map .int))), some (.val (.int h)), some (.val (.int k)), some (.own []), none, none]) ⟨[], none, rfl, fun f hf => (by cases hf), rfl⟩ (fun d1 x r ed _ ρ ⟨fs, t, i1, i2, hρ⟩ => by
      subst hρ
      rw [List.nil_append] at ed
      have hl : d1.length < k := by
        have := congrArg List.length ed
        rw [rng_len, List.length_append, List.length_cons] at this
        omega
      have hx : x ∈ rngD 0 k := by rw [ed]; simp
      obtain ⟨i, hi, rfl⟩ := rng_mem hx
      rw [Int.zero_add]
      obtain ⟨f, g1, g2, g3⟩ := forms_body (m := m) h184 (ns := ns) (h := h) (k := k) hh (i := i) (by omega) (out := fs.map rr) (by rw [List.length_map, i1]; unfold SZ; omega)
      refine ⟨[some (.val (.lst (ns.map .int))), some (.val (.int h)), some (.val (.int k)), some (.own (fs.map rr)), some (.val (.int i)), none], _, rfl, .inl g3, fs ++ [f], some (.val (.int i)), by rw [List.length_append, List.length_append, i1]; rfl, fun f' hf => ?_, by rw [List.map_append]; rfl⟩
      rcases List.mem_append.mp hf with hf | hf
      · exact i2 f' hf
      · rw [List.mem_singleton] at hf
        subst hf
        exact ⟨g1, g2⟩)
  rw [List.nil_append, rng_len] at i1
  refine ⟨fs, i1, i2, ?_⟩
  have hr : rng1F (.int (k : Int)) = .ok (rngD 0 k) := rng1F_nat (by omega)
  have h0 : PF.grd (0 ≤ SZ) (.ok (.own [])) = .ok (.own []) := grd_sz (by decide)
  unfold d185
  simp_all! [hr, h0, e]
theorem rr_len {qs : List Rat} : lenF [rr qs] = .ok (.val (.int qs.length)) := by unfold rr; rw [len_tup, List.length_map]
theorem ixr_nat {qs : List Rat} {i : Nat} (h : i < qs.length) : ixD (rr qs) (.int (i : Int)) = .ok (.val (rp qs[i])) := by
  unfold rr
  rw [ixt_nat (by rw [List.length_map]; exact h), List.getElem_map]
/-- the law's own weighed sum: one step -/
theorem lweigh_body {m : Nat → List D → R Bd} (h28 : sLPlus m) (h30 : sLTimes m) {fs : List (List Rat)} {ws acc : List Rat} {h i : Nat} (hh : h ≤ 20) (hi : i < fs.length) (hi2 : i < ws.length) (hf : fs[i].length = h + 1) (ha : acc.length = h + 1) (s1 : SzL 1900 acc) (s2 : SzL 20 fs[i]) (s3 : Sz 20 ws[i]) :
    exs m d186b1 [some (.val (.tup (fs.map rr))), some (.val (rr ws)), some (.val (.int h)), some (.own (acc.map rp)), some (.val (.int i)), none] = .ok [some (.val (.tup (fs.map rr))), some (.val (rr ws)), some (.val (.int h)), some (.own ((wstep acc (fs[i], ws[i])).map rp)), some (.val (.int i)), none] .nx := by
  have hc : compF (putT (.nm 5)) (fun _ => .ok true) (fun η1 => d186e0.ev m η1) [some (.tup (fs.map rr)), some (rr ws), some (.int h), some (.lst (acc.map rp)), some (.int i), none] (rngD 0 (h + 1)) = .ok ((rngD 0 (h + 1)).map fun d => match d with | .int c => rp (acc.getD c.toNat 0 + ws[i] * fs[i].getD c.toNat 0) | _ => .non) := compF_map fun x hx => by
    obtain ⟨c, hc, rfl⟩ := rng_mem hx
    rw [Int.zero_add]
    have c1 : c < acc.length := by omega
    have c2 : c < fs[i].length := by omega
    refine ⟨[some (.tup (fs.map rr)), some (rr ws), some (.int h), some (.lst (acc.map rp)), some (.int i), some (.int c)], rfl, rfl, .val (rp (acc[c] + ws[i] * fs[i][c])), ?_, ?_⟩
    · have e1 : ixD (.lst (acc.map rp)) (.int c) = .ok (.val (rp acc[c])) := by rw [ixl_nat (by rw [List.length_map]; exact c1), List.getElem_map]
      have e2 : ixD (rr ws) (.int i) = .ok (.val (rp ws[i])) := ixr_nat hi2
      have e3 : ixD (.tup (fs.map rr)) (.int i) = .ok (.val (rr fs[i])) := by rw [ixt_nat (by rw [List.length_map]; exact hi), List.getElem_map]
      have e4 : ixD (rr fs[i]) (.int c) = .ok (.val (rp fs[i][c])) := ixr_nat c2
      have z2 : Sz 20 fs[i][c] := s2 _ (List.getElem_mem c2)
      have e5 := h30 ws[i] fs[i][c] (s3.mono (by decide)) (z2.mono (by decide))
      have e6 := h28 acc[c] (ws[i] * fs[i][c]) ((s1 _ (List.getElem_mem c1)).mono (by decide)) ((s3.mul z2).mono (by decide))
      unfold d186e0
      simp_all! [e1, e2, e3, e4, e5, e6]
    · show _ = rp (acc.getD ((c : Int)).toNat 0 + ws[i] * fs[i].getD ((c : Int)).toNat 0)
      rw [Int.toNat_natCast, List.getD_eq_getElem?_getD, List.getD_eq_getElem?_getD, List.getElem?_eq_getElem c1, List.getElem?_eq_getElem c2]
      rfl
  have hm : ((rngD 0 (h + 1)).map fun d => match d with | .int c => rp (acc.getD c.toNat 0 + ws[i] * fs[i].getD c.toNat 0) | _ => .non) = (wstep acc (fs[i], ws[i])).map rp := by
    apply List.ext_getElem
    · rw [List.length_map, List.length_map, rng_len, wstep_len (by rw [hf, ha]), ha]
    · intro j j1 j2
      rw [List.length_map, rng_len] at j1
      have c1 : j < acc.length := by omega
      have c2 : j < fs[i].length := by omega
      rw [List.getElem_map, List.getElem_map]
      unfold rngD wstep
      rw [List.getElem_map, List.getElem_range, List.getElem_zipWith]
      show rp (acc.getD ((0 : Int) + j).toNat 0 + ws[i] * fs[i].getD ((0 : Int) + j).toNat 0) = rp (acc[j] + fs[i][j] * ws[i])
      rw [Int.zero_add, Int.toNat_natCast, List.getD_eq_getElem?_getD, List.getD_eq_getElem?_getD, List.getElem?_eq_getElem c1, List.getElem?_eq_getElem c2]
      show rp (acc[j] + ws[i] * fs[i][j]) = _
      rw [Rat.mul_comm]
  rw [hm] at hc
  have hr : rng1F (.int ((h : Int) + 1)) = .ok (rngD 0 (h + 1)) := rng1F_nat (n := h + 1) (by omega)
  have em : d186e0.ment 3 = true := by decide +kernel
  have hz : (wstep acc (fs[i], ws[i])).length ≤ 1000 := by rw [wstep_len (by rw [hf, ha]), ha]; omega
  unfold d186b1
  simp_all! [hr, hc, em, grd_sz hz, nols_rr]
end PF

end

section
set_option linter.all false
set_option maxRecDepth 100000
/-! M13: the law's side of k13, the rest. -/
namespace PF
open PySem L2
theorem repl_one {x : D} : ∀ n : Nat, repl [x] n = List.replicate n x := fun n => by
  unfold repl
  induction n with
  | zero => rfl
  | succ n ih => rw [List.replicate_succ, List.flatten_cons, ih]; rfl
theorem mul_list1 {x : D} {n : Nat} (h : n ≤ 1000) : binD .mul (.lst [x]) (.int (n : Int)) = .ok (.own (List.replicate n x)) := by
  show PF.grd _ _ = _
  rw [PF.grd, if_pos ⟨by unfold near; omega, by rw [Int.toNat_natCast]; show 1 * n ≤ SZ; unfold SZ; omega⟩, Int.toNat_natCast, repl_one]
theorem lweighed_run {m : Nat → List D → R Bd} (h28 : sLPlus m) (h30 : sLTimes m) {fs : List (List Rat)} {ws : List Rat} {h : Nat} (hh : h ≤ 20) (hf : ∀ f ∈ fs, f.length = h + 1 ∧ SzL 20 f) (hw : SzL 20 ws) (hl : ws.length = fs.length) (hz : fs.length ≤ 20) :
    d186.run m [.tup (fs.map rr), rr ws, .int h] = .ok (.own ((wsum (List.replicate (h + 1) 0) (fs.zip ws)).map rp)) := by
  obtain ⟨ρ', e, acc, t, i1, i2, i3, rfl⟩ := loopF_inv (put := putS (.nm 4)) (body := fun ρ1 => exs m d186b1 ρ1) (items := rngD 0 fs.length) (done := [])
    (I := fun done ρ => ∃ (acc : List Rat) (t : Option Bd), acc = wsum (List.replicate (h + 1) 0) ((fs.zip ws).take done.length) ∧ acc.length = h + 1 ∧ SzL (1 + 41 * done.length) acc ∧ ρ = [some (.val (.tup (fs.map rr))), some (.val (rr ws)), some (.val (.int h)), some (.own (acc.map rp)), t, none])
    (ρ := [some (.val (.tup (fs.map rr))), some (.val (rr ws)), some (.val (.int h)), some (.own ((List.replicate (h + 1) 0).map rp)), none, none])
    ⟨_, none, rfl, List.length_replicate, fun q hq => (by rw [List.eq_of_mem_replicate hq]; exact Sz.zero (by decide)), rfl⟩ (fun d1 x r ed _ ρ ⟨acc, t, i1, i2, i3, hρ⟩ => by
      subst hρ
      rw [List.nil_append] at ed
      have hlt : d1.length < fs.length := by
        have := congrArg List.length ed
        rw [rng_len, List.length_append, List.length_cons] at this
        omega
      have hx : x = .int (d1.length : Nat) := by
        have h1 : (rngD 0 fs.length)[d1.length]? = some x := by rw [ed]; simp
        unfold rngD at h1
        rw [List.getElem?_map, List.getElem?_range hlt] at h1
        have h2 : D.int ((0 : Int) + (d1.length : Nat)) = x := Option.some.inj h1
        rw [← h2, Int.zero_add]
      subst hx
      have hi2 : d1.length < ws.length := by omega
      have m1 : fs[d1.length] ∈ fs := List.getElem_mem hlt
      have m2 : ws[d1.length] ∈ ws := List.getElem_mem hi2
      have b := lweigh_body (m := m) h28 h30 (fs := fs) (ws := ws) (acc := acc) (h := h) hh hlt hi2 (hf _ m1).1 i2 (fun q hq => (i3 q hq).mono (by omega)) (hf _ m1).2 (hw _ m2)
      refine ⟨[some (.val (.tup (fs.map rr))), some (.val (rr ws)), some (.val (.int h)), some (.own (acc.map rp)), some (.val (.int (d1.length : Nat))), none], _, rfl, .inl b, wstep acc (fs[d1.length], ws[d1.length]), some (.val (.int (d1.length : Nat))), ?_, ?_, ?_, rfl⟩
      · have hp : (fs.zip ws)[d1.length]? = some (fs[d1.length], ws[d1.length]) := by
          rw [List.getElem?_eq_getElem (by rw [List.length_zip]; omega), List.getElem_zip]
        rw [List.length_append, List.length_singleton, List.take_succ, hp, i1]
        unfold wsum
        rw [List.foldl_append]
        rfl
      · rw [wstep_len (by rw [(hf _ m1).1, i2]), i2]
      · rw [List.length_append, List.length_singleton]
        have := SzL.wstep i3 (hf _ m1).2 (hw _ m2)
        exact fun q hq => (this q hq).mono (by omega))
  rw [List.nil_append, rng_len, show (fs.zip ws).take fs.length = fs.zip ws from List.take_of_length_le (by rw [List.length_zip]; omega)] at i1
  subst i1
  have hr : rng1F (.int (fs.length : Int)) = .ok (rngD 0 fs.length) := rng1F_nat (by omega)
  have h1 : PF.grd (1 ≤ SZ) (.ok (.own [D.tup [.int 0, .int 1]])) = .ok (.own [D.tup [.int 0, .int 1]]) := grd_sz (by decide)
  have h2 : PF.grd (2 ≤ SZ) (.ok (.val (D.tup [.int 0, .int 1]))) = .ok (.val (D.tup [.int 0, .int 1])) := grd_sz (by decide)
  have h3 : binD .mul (.lst [.tup [.int 0, .int 1]]) (.int ((h : Int) + 1)) = .ok (.own (List.replicate (h + 1) (.tup [.int 0, .int 1]))) := mul_list1 (n := h + 1) (by omega)
  rw [List.map_replicate, rp_zero] at e
  generalize wsum (List.replicate (h + 1) 0) (fs.zip ws) = V at e ⊢
  generalize List.replicate (h + 1) (D.tup [.int 0, .int 1]) = Z at e h3
  unfold d186
  simp_all! [h1, h2, h3, hr, e]
def sLWeighed (m : Nat → List D → R Bd) : Prop := ∀ (fs : List (List Rat)) (ws : List Rat) (h : Nat), h ≤ 20 → (∀ f ∈ fs, f.length = h + 1 ∧ SzL 20 f) → SzL 20 ws → ws.length = fs.length → fs.length ≤ 20 → m 186 [.tup (fs.map rr), rr ws, .int h] = .ok (.own ((wsum (List.replicate (h + 1) 0) (fs.zip ws)).map rp))
theorem q_self (q : Rat) : ((q.num : Rat) / ((q.den : Int) : Rat)) = q := by
  have h := Rat.mkRat_self q
  rw [Rat.mkRat_eq_div] at h
  exact h
theorem lis_body {m : Nat → List D → R Bd} (h27 : sLow m) (h183 : sLInt m) {a b : Option Bd} (ha : ∃ d, a = some (.val d)) (hb : ∃ d, b = some (.val d)) {q : Rat} (hq : Sz 20 q) :
    (decide (q.num < 0) = true → exs m d187b0 [a, b, some (.val (rp q))] = .ok [a, b, some (.val (rp q))] (.rt (.val (.bl false)))) ∧ (decide (q.num < 0) = false → exs m d187b0 [a, b, some (.val (rp q))] = .ok [a, b, some (.val (rp q))] .nx) := by
  obtain ⟨a, rfl⟩ := ha
  obtain ⟨b, rfl⟩ := hb
  have e1 := h183 (.int q.num) rfl
  have e2 := h183 (.int q.den) rfl
  have e3 := h27 q.num q.den (den_pos q) (hq.den.mono (by decide))
  rw [q_self] at e3
  have e4 : cmpD .ne (rp q) (rp q) = .ok (.val (.bl false)) := by rw [ne_rp, decide_eq_true rfl]; rfl
  have hp : ¬ ((q.den : Int) < 1) := by have := den_pos q; omega
  have i0 : ixD (rp q) (.int 0) = .ok (.val (.int q.num)) := rfl
  have i1 : ixD (rp q) (.int 1) = .ok (.val (.int q.den)) := rfl
  have e5 : isinD .tuple (rp q) = .ok (.val (.bl true)) := rfl
  have e6 : lenF [rp q] = .ok (.val (.int 2)) := rfl
  have c1 : cmpD .lt (.int q.num) (.int 0) = .ok (.val (.bl (decide (q.num < 0)))) := rfl
  have c2 : cmpD .lt (.int q.den) (.int 1) = .ok (.val (.bl false)) := by
    show R.ok (Bd.val (D.bl (decide ((q.den : Int) < 1)))) = _
    rw [decide_eq_false hp]
  have c3 : cmpD .ne (.int 2) (.int 2) = .ok (.val (.bl false)) := ne_int
  unfold d187b0
  constructor <;> intro hc <;> simp_all! [e1, e2, e3, e4, e5, e6, i0, i1, c1, c2, c3, hc, isInt]
def sLow' (m : Nat → List D → R Bd) : Prop := sLow m
theorem isw_run {m : Nat → List D → R Bd} (h27 : sLow m) (h183 : sLInt m) {d : D} {o : Option (List Rat)} (t : Tr d o) (n : Nat) : d187.run m [d, .int n] = .ok (.val (.bl (okW n o))) := by
  cases t with
  | non =>
    have e : isinD .tuple .non = .ok (.val (.bl false)) := rfl
    unfold d187 okW
    simp_all! [e]
  | int i =>
    have e : isinD .tuple (.int i) = .ok (.val (.bl false)) := rfl
    unfold d187 okW
    simp_all! [e]
  | row ws hs hl =>
    have e : isinD .tuple (rr ws) = .ok (.val (.bl true)) := rfl
    have hok : okW n (some ws) = (decide (ws.length = n) && !(ws.any fun q => decide (q.num < 0))) := rfl
    have c3 : cmpD .ne (.int (ws.length : Nat)) (.int (n : Nat)) = .ok (.val (.bl (!decide (((ws.length : Nat) : Int) = (n : Nat))))) := ne_int
    have hf := loopF_find (put := putS (.nm 2)) (body := fun ρ1 => exs m d187b0 ρ1) (I := fun ρ => ∃ t, ρ = [some (.val (rr ws)), some (.val (.int n)), t]) (p := fun d => match d with | .tup [.int n, _] => decide (n < 0) | _ => false) (r := .val (.bl false)) (items := ws.map rp) (ρ := [some (.val (rr ws)), some (.val (.int n)), none]) ⟨_, rfl⟩ (fun x hx ρ hi => by
      obtain ⟨t, rfl⟩ := hi
      obtain ⟨y, hy, rfl⟩ := List.mem_map.mp hx
      have b := lis_body (m := m) h27 h183 (a := some (.val (rr ws))) (b := some (.val (.int n))) ⟨_, rfl⟩ ⟨_, rfl⟩ (hs y hy)
      exact ⟨[some (.val (rr ws)), some (.val (.int n)), some (.val (rp y))], rfl, fun h => ⟨_, b.1 h⟩, fun h => ⟨_, .inl (b.2 h), _, rfl⟩⟩)
    have ha : (ws.map rp).any (fun d => match d with | .tup [.int n, _] => decide (n < 0) | _ => false) = ws.any fun q => decide (q.num < 0) := by
      rw [List.any_map]
      rfl
    rw [ha] at hf
    rw [hok]
    have it : itemsD (rr ws) = .ok (ws.map rp) := rfl
    unfold d187
    by_cases c : ws.length = n
    · have ci : (((ws.length : Nat) : Int) = (n : Nat)) := by omega
      rw [decide_eq_true ci] at c3
      rw [decide_eq_true c]
      cases hA : ws.any fun q => decide (q.num < 0) with
      | true =>
        obtain ⟨ρ', e2⟩ := hf.1 hA
        simp_all! [e, rr_len, c3, it, e2]
      | false =>
        obtain ⟨ρ', e2, t, rfl⟩ := hf.2 hA
        simp_all! [e, rr_len, c3, it, e2]
    · have ci : ¬ (((ws.length : Nat) : Int) = (n : Nat)) := by omega
      rw [decide_eq_false ci] at c3
      rw [decide_eq_false c]
      simp_all! [e, rr_len, c3]
def sIsW (m : Nat → List D → R Bd) : Prop := ∀ (d : D) (o : Option (List Rat)) (n : Nat), Tr d o → m 187 [d, .int n] = .ok (.val (.bl (okW n o)))
end PF

end

section
set_option linter.all false
set_option maxRecDepth 100000
/-! M14: shown, by the law's own rule. -/
namespace PF
open PySem L2
theorem wfs_rp : ∀ qs : List Rat, wfs (qs.map rp) = true
  | [] => by simp [wfs]
  | q :: qs => by
    rw [List.map_cons]
    simp only [wfs, Bool.and_eq_true]
    refine ⟨?_, wfs_rp qs⟩
    unfold rp
    simp [wf, wfs]
theorem deps_rp : ∀ qs : List Rat, deps (qs.map rp) ≤ 1
  | [] => by simp [deps]
  | q :: qs => by
    rw [List.map_cons]
    have e : dep (rp q) = 1 := by unfold rp; simp [dep, deps]
    simp only [deps, e]
    exact Nat.max_le.mpr ⟨Nat.le_refl _, deps_rp qs⟩
theorem okD_rps {qs : List Rat} : okD (.lst (qs.map rp)) = true := by
  have := deps_rp qs
  have e1 : wf (.lst (qs.map rp)) = true := by simp only [wf]; exact wfs_rp qs
  have e2 : dep (.lst (qs.map rp)) = deps (qs.map rp) + 1 := by simp only [dep]
  unfold okD
  rw [e1, e2, Bool.true_and, decide_eq_true_eq]
  omega
theorem ne_nil {qs : List Rat} : cmpD .ne (.lst (qs.map rp)) (.lst []) = .ok (.val (.bl (!qs.isEmpty))) := by
  show PF.grd _ _ = _
  rw [PF.grd, if_pos ⟨okD_rps, okD_rps (qs := [])⟩]
  cases qs with
  | nil => simp [eqv, eqvs]; rfl
  | cons q qs => simp [eqv, eqvs]; rfl
theorem comp_pos {m : Nat → List D → R Bd} {a b c d e f g : Option D} : ∀ qs : List Rat, compF (putT (.nm 7)) (fun η1 => d188t2.te m η1) (fun η1 => d188e1.ev m η1) [a, b, c, d, e, f, g, none] (qs.map rp) = .ok ((qs.filter fun x => decide (0 < x)).map rp)
  | [] => rfl
  | q :: qs => by
    have hn : decide (0 < q) = decide (0 < q.num) := by
      refine decide_eq_decide.mpr ?_
      rw [Rat.lt_iff]
      simp
    have e1 : putT (.nm 7) (rp q) [a, b, c, d, e, f, g, none] = .ok [a, b, c, d, e, f, g, some (rp q)] := rfl
    have e2 : d188t2.te m [a, b, c, d, e, f, g, some (rp q)] = .ok (decide (0 < q)) := by rw [hn]; rfl
    have e3 : d188e1.ev m [a, b, c, d, e, f, g, some (rp q)] = .ok (.val (rp q)) := rfl
    rw [List.map_cons]
    unfold compF
    rw [e1]
    dsimp only
    rw [e2]
    cases h : decide (0 < q) with
    | true =>
      dsimp only
      rw [e3]
      dsimp only
      rw [comp_pos qs, List.filter_cons, h]
      rfl
    | false =>
      dsimp only
      rw [comp_pos qs, List.filter_cons, h]
      rfl
theorem empty_any {qs : List Rat} : (!(qs.filter fun x => decide (0 < x)).isEmpty) = qs.any fun x => decide (0 < x) := by
  induction qs with
  | nil => rfl
  | cons q qs ih =>
    rw [List.any_cons]
    cases h : decide (0 < q) with
    | true => rw [List.filter_cons, h]; rfl
    | false => rw [List.filter_cons, h, Bool.false_or, ← ih]; rfl
theorem ixl0 {x : D} {xs : List D} : ixD (.lst (x :: xs)) (.int 0) = .ok (.val x) := by
  show (match atI (x :: xs) 0 with | some d => R.ok (Bd.val d) | none => .bad) = _
  rw [at0]
theorem lshows_none {m : Nat → List D → R Bd} (h186 : sLWeighed m) (h187 : sIsW m) {fs : List (List Rat)} {h : Nat} (hh : h ≤ 20) (hf : ∀ f ∈ fs, f.length = h + 1 ∧ SzL 20 f) (hz : fs.length ≤ 20) {d : D} {o : Option (List Rat)} (t : Tr d o) :
    d188.run m [.tup (fs.map rr), .non, .non, d, .int h] = .ok (.val (.bl (noneW fs (h + 1) o))) := by
  have e := h187 d o fs.length t
  unfold d188 noneW
  cases hA : okW fs.length o with
  | false =>
    rw [hA] at e
    simp_all! [e]
  | true =>
    rw [hA] at e
    cases t with
    | non => simp [okW] at hA
    | int i => simp [okW] at hA
    | row ws hs hlw =>
      have hlen : ws.length = fs.length := by
        unfold okW at hA
        rw [Bool.and_eq_true, decide_eq_true_eq] at hA
        exact hA.1
      obtain ⟨r1, r2⟩ := wsum_row hf hs hz (L := h + 1)
      have e2 := h186 fs ws h hh hf hs hlen hz
      dsimp only
      generalize wsum (List.replicate (h + 1) 0) (fs.zip ws) = W at r1 r2 e2 ⊢
      cases W with
      | nil => simp at r1
      | cons q qs =>
        have n1 : cmpD .isnn .non .non = .ok (.val (.bl false)) := rfl
        have n2 : cmpD .isn .non .non = .ok (.val (.bl true)) := rfl
        have i0 : ixD (rp q) (.int 0) = .ok (.val (.int q.num)) := rfl
        have c1 : cmpD .lt (.int q.num) (.int 0) = .ok (.val (.bl (decide (q.num < 0)))) := rfl
        have hn : decide (q < 0) = decide (q.num < 0) := by
          refine decide_eq_decide.mpr ?_
          rw [Rat.lt_iff]
          simp
        have hzq : (qs.filter fun x => decide (0 < x)).length ≤ 1000 := Nat.le_trans (List.length_filter_le _ _) (by simp at r1; omega)
        have hb := empty_any (qs := qs)
        have g0 : PF.grd (0 ≤ SZ) (.ok (.own [])) = .ok (.own []) := grd_sz (by decide)
        rw [List.map_cons] at e2
        cases hB : qs.any fun x => decide (0 < x) <;>
          (rw [hB] at hb; simp_all! [e, e2, n1, n2, sl_tailL, comp_pos, grd_sz hzq, g0, ne_nil, hb, hB, ixl0, i0, c1, hn, List.tail_cons, List.headD_cons])
theorem lshows_most {m : Nat → List D → R Bd} (h28 : sLPlus m) (h77 : sLLess m) (h186 : sLWeighed m) (h187 : sIsW m) {fs : List (List Rat)} {h : Nat} (hh : h ≤ 20) (hf : ∀ f ∈ fs, f.length = h + 1 ∧ SzL 20 f) (hz : fs.length ≤ 20) {goal : List Rat} (hg : goal.length = h + 1) (hg2 : SzL 20 goal) {most : Rat} (hm : Sz 1000 most) {d : D} {o : Option (List Rat)} (t : Tr d o) :
    d188.run m [.tup (fs.map rr), rr goal, rp most, d, .int h] = .ok (.val (.bl (mostW fs (h + 1) goal most o))) := by
  have e := h187 d o fs.length t
  unfold d188 mostW
  cases hA : okW fs.length o with
  | false =>
    rw [hA] at e
    simp_all! [e]
  | true =>
    rw [hA] at e
    cases t with
    | non => simp [okW] at hA
    | int i => simp [okW] at hA
    | row ws hs hlw =>
      have hlen : ws.length = fs.length := by
        unfold okW at hA
        rw [Bool.and_eq_true, decide_eq_true_eq] at hA
        exact hA.1
      obtain ⟨r1, r2⟩ := wsum_row hf hs hz (L := h + 1)
      have e2 := h186 fs ws h hh hf hs hlen hz
      dsimp only
      generalize wsum (List.replicate (h + 1) 0) (fs.zip ws) = W at r1 r2 e2 ⊢
      have hc : compF (putT (.nm 6)) (fun _ => .ok true) (fun η1 => d188e0.ev m η1) [some (.tup (fs.map rr)), some (rr goal), some (rp most), some (rr ws), some (.int h), some (.lst (W.map rp)), none, none] (rngD 0 (h + 1)) = .ok ((rngD 0 (h + 1)).map fun d => match d with | .int c => rp (W.getD c.toNat 0 + goal.getD c.toNat 0) | _ => .non) := compF_map fun x hx => by
        obtain ⟨c, hc, rfl⟩ := rng_mem hx
        rw [Int.zero_add]
        have c1 : c < W.length := by omega
        have c2 : c < goal.length := by omega
        refine ⟨[some (.tup (fs.map rr)), some (rr goal), some (rp most), some (rr ws), some (.int h), some (.lst (W.map rp)), some (.int c), none], rfl, rfl, .val (rp (W[c] + goal[c])), ?_, ?_⟩
        · have e1 : ixD (.lst (W.map rp)) (.int c) = .ok (.val (rp W[c])) := by rw [ixl_nat (by rw [List.length_map]; exact c1), List.getElem_map]
          have e4 : ixD (rr goal) (.int c) = .ok (.val (rp goal[c])) := ixr_nat c2
          have e6 := h28 W[c] goal[c] ((r2 _ (List.getElem_mem c1)).mono (by decide)) ((hg2 _ (List.getElem_mem c2)).mono (by decide))
          unfold d188e0
          simp_all! [e1, e4, e6]
        · show _ = rp (W.getD ((c : Int)).toNat 0 + goal.getD ((c : Int)).toNat 0)
          rw [Int.toNat_natCast, List.getD_eq_getElem?_getD, List.getD_eq_getElem?_getD, List.getElem?_eq_getElem c1, List.getElem?_eq_getElem c2]
          rfl
      have hm2 : ((rngD 0 (h + 1)).map fun d => match d with | .int c => rp (W.getD c.toNat 0 + goal.getD c.toNat 0) | _ => .non) = (List.zipWith (· + ·) W goal).map rp := by
        apply List.ext_getElem
        · rw [List.length_map, List.length_map, rng_len, List.length_zipWith, r1, hg, Nat.min_self]
        · intro j j1 j2
          rw [List.length_map, rng_len] at j1
          have c1 : j < W.length := by omega
          have c2 : j < goal.length := by omega
          rw [List.getElem_map, List.getElem_map]
          unfold rngD
          rw [List.getElem_map, List.getElem_range, List.getElem_zipWith]
          show rp (W.getD ((0 : Int) + j).toNat 0 + goal.getD ((0 : Int) + j).toNat 0) = rp (W[j] + goal[j])
          rw [Int.zero_add, Int.toNat_natCast, List.getD_eq_getElem?_getD, List.getD_eq_getElem?_getD, List.getElem?_eq_getElem c1, List.getElem?_eq_getElem c2]
          rfl
      rw [hm2] at hc
      have s1 : SzL 921 (List.zipWith (· + ·) W goal) := SzL.zip (N := 900) (M := 20) (fun p q hp hq => (hp.add hq).mono (by decide)) r2 hg2
      have s2 : (List.zipWith (· + ·) W goal).length = h + 1 := by rw [List.length_zipWith, r1, hg, Nat.min_self]
      generalize List.zipWith (· + ·) W goal = V at s1 s2 hc ⊢
      cases V with
      | nil => simp at s2
      | cons q qs =>
        have em : d188e0.ment 5 = true := by decide +kernel
        have n1 : cmpD .isnn (rr goal) .non = .ok (.val (.bl true)) := rfl
        have e4 := h77 most q (hm.mono (by decide)) ((s1 q List.mem_cons_self).mono (by decide))
        have hzq : (qs.filter fun x => decide (0 < x)).length ≤ 1000 := Nat.le_trans (List.length_filter_le _ _) (by simp at s2; omega)
        have hzv : (qs.length + 1) ≤ 1000 := by simp at s2; omega
        have hb := empty_any (qs := qs)
        have g0 : PF.grd (0 ≤ SZ) (.ok (.own [])) = .ok (.own []) := grd_sz (by decide)
        have hr : rng1F (.int ((h : Int) + 1)) = .ok (rngD 0 (h + 1)) := rng1F_nat (n := h + 1) (by omega)
        rw [List.map_cons] at hc
        cases hB : qs.any fun x => decide (0 < x) <;>
          (rw [hB] at hb; simp_all! [e, e2, n1, em, hr, hc, grd_sz hzv, sl_tailL, comp_pos, grd_sz hzq, g0, ne_nil, hb, hB, ixl0, e4, nols_rr, nols_cons, nol_rp, List.tail_cons, List.headD_cons])
end PF

end

section
set_option linter.all false
set_option maxRecDepth 100000
/-! M15: boxes. -/
namespace PF
open PySem L2
def unit (at_ width : Nat) : List Rat := (List.range width).map fun p => if p = at_ then 1 else 0
theorem eq_intE {i j : Int} : cmpD .eq (.int i) (.int j) = .ok (.val (.bl (decide (i = j)))) := by
  show PF.grd _ _ = _
  rw [PF.grd, if_pos ⟨rfl, rfl⟩, eqv_int]
  rfl
theorem unit_row_run {m : Nat → List D → R Bd} {a w : Nat} (hw : w ≤ 1000) : d156.run m [.int a, .int w] = .ok (.val (rr (unit a w))) := by
  have hc : compF (putT (.nm 2)) (fun _ => .ok true) (fun η1 => d156e0.ev m η1) [some (.int a), some (.int w), none] (rngD 0 w) = .ok ((rngD 0 w).map fun d => match d with | .int p => (if p = (a : Int) then rp 1 else rp 0) | _ => .non) := compF_map fun x hx => by
    obtain ⟨c, hc, rfl⟩ := rng_mem hx
    rw [Int.zero_add]
    refine ⟨[some (.int a), some (.int w), some (.int c)], rfl, rfl, .val (if (c : Int) = (a : Int) then rp 1 else rp 0), ?_, rfl⟩
    unfold d156e0
    rw [rp_one, rp_zero]
    by_cases h : (c : Int) = (a : Int)
    · rw [if_pos h]
      simp -implicitDefEqProofs only [IE.ev, IE.te, List.getElem?_cons_zero, List.getElem?_cons_succ, bind_ok, Bd.d, eq_intE, decide_eq_true h, if_true, ite_true, reduceIte]
    · rw [if_neg h]
      simp -implicitDefEqProofs only [IE.ev, IE.te, List.getElem?_cons_zero, List.getElem?_cons_succ, bind_ok, Bd.d, eq_intE, decide_eq_false h, if_false, ite_false, reduceIte, Bool.false_eq_true]
  have hm : ((rngD 0 w).map fun d => match d with | .int p => (if p = (a : Int) then rp 1 else rp 0) | _ => .non) = (unit a w).map rp := by
    unfold rngD unit
    rw [List.map_map, List.map_map]
    refine List.map_congr_left fun p _ => ?_
    show (if (0 : Int) + (p : Int) = (a : Int) then rp 1 else rp 0) = rp (if p = a then 1 else 0)
    by_cases h : p = a
    · rw [if_pos h, if_pos (by omega)]
    · rw [if_neg h, if_neg (by omega)]
  rw [hm] at hc
  have hr : rng1F (.int (w : Int)) = .ok (rngD 0 w) := rng1F_nat (by omega)
  have hz : (unit a w).length ≤ 1000 := by unfold unit; rw [List.length_map, List.length_range]; exact hw
  unfold d156
  simp_all! [hr, hc, grd_sz hz, rr]
def sUnit (m : Nat → List D → R Bd) : Prop := ∀ a w : Nat, w ≤ 1000 → m 156 [.int a, .int w] = .ok (.val (rr (unit a w)))
def sRowMinus (m : Nat → List D → R Bd) : Prop := ∀ ps qs : List Rat, SzL 4000 ps → SzL 4000 qs → ps.length ≤ 1000 → m 100 [rr ps, rr qs] = .ok (.val (rr (List.zipWith (· - ·) ps qs)))
/-- a pair of bounds, as tuples or as lists -/
inductive Ps : List D → List (Rat × Rat) → Prop
  | nil : Ps [] []
  | cons {d : D} {ds : List D} {a b : Rat} {xs : List D} {ps : List (Rat × Rat)} : (d = .tup ds ∨ d = .lst ds) → Qs ds [a, b] → (0 ≤ a.num ∧ 0 ≤ b.num ∧ ¬ b < a ∧ Sz 100 a ∧ Sz 100 b) → Ps xs ps → Ps (d :: xs) ((a, b) :: ps)
def bx (p : Rat × Rat) : D := rr [p.1, p.2]
theorem box_body {m : Nat → List D → R Bd} (h0 : sLess m) (h9 : sFractions m) {d x : D} {ds : List D} {a b : Rat} (hd : d = .tup ds ∨ d = .lst ds) (hq : Qs ds [a, b]) (hc : 0 ≤ a.num ∧ 0 ≤ b.num ∧ ¬ b < a ∧ Sz 100 a ∧ Sz 100 b) {out : List D} (ho : out.length < SZ) {t : Option Bd} (ht : t = none ∨ ∃ y, t = some (.val y)) :
    exs m d15b0 [some (.val x), some (.own out), some (.val d), t] = .ok [some (.val x), some (.own (out ++ [bx (a, b)])), some (.val d), some (.val (bx (a, b)))] .nx := by
  have e := h9 d ds [a, b] 2 hd hq (by rw [hq.len]; show 2 ≤ 1000; decide)
  have c1 : ([a, b].any fun q => decide (q.num < 0)) = false := by
    have e1 : decide (a.num < 0) = false := decide_eq_false (by omega)
    have e2 : decide (b.num < 0) = false := decide_eq_false (by omega)
    simp only [List.any_cons, List.any_nil, e1, e2, Bool.or_false]
  rw [c1, if_neg Bool.false_ne_true] at e
  have e : m 9 [d, .int 2] = .ok (.val (rr [a, b])) := e
  have e1 := h0 b a (hc.2.2.2.2.mono (by decide)) (hc.2.2.2.1.mono (by decide))
  rw [decide_eq_false hc.2.2.1] at e1
  have i1 : ixD (rr [a, b]) (.int 1) = .ok (.val (rp b)) := rfl
  unfold d15b0 bx
  rcases ht with rfl | ⟨y, rfl⟩ <;> simp_all! [e, e1, i1, isOwn, appS, ho]
theorem box_shape_run {m : Nat → List D → R Bd} (h0 : sLess m) (h3 : sIsRow m) (h9 : sFractions m) {x : D} {xs : List D} {ps : List (Rat × Rat)} (hx : x = .tup xs ∨ x = .lst xs) (hp : Ps xs ps) (hz : ps.length ≤ 5) : d15.run m [x] = .ok (.val (.tup (ps.map bx))) := by
  have hl2 : xs.length = ps.length := by
    clear hx hz
    induction hp with
    | nil => rfl
    | cons _ _ _ _ ih => rw [List.length_cons, List.length_cons, ih]
  have hpl : pl x = true := by rcases hx with rfl | rfl <;> rfl
  have hs : isSeq x = true := by rcases hx with rfl | rfl <;> rfl
  have hl : lenF [x] = .ok (.val (.int (ps.length : Nat))) := by rcases hx with rfl | rfl <;> (rw [← hl2]; rfl)
  have it : itemsD x = .ok xs := by rcases hx with rfl | rfl <;> rfl
  have e := h3 x hpl
  rw [hs] at e
  have c1 : cmpD .gt (.int (ps.length : Nat)) (.int 5) = .ok (.val (.bl false)) := by
    show R.ok (Bd.val (D.bl (decide ((5 : Int) < (ps.length : Nat))))) = _
    rw [decide_eq_false (by omega)]
  have key : ∀ (xs : List D) (ps : List (Rat × Rat)) (out : List D) (t u : Option Bd), Ps xs ps → out.length + ps.length ≤ 100 → (u = none ∨ ∃ y, u = some (.val y)) → ∃ t' u', loopF (putS (.nm 2)) (fun ρ1 => exs m d15b0 ρ1) xs [some (.val x), some (.own out), t, u] = .ok [some (.val x), some (.own (out ++ ps.map bx)), t', u'] .nx := by
    intro xs
    induction xs with
    | nil =>
      intro ps out t u h _ _
      cases h
      exact ⟨t, u, by rw [List.map_nil, List.append_nil]; rfl⟩
    | cons d xs ih =>
      intro ps out t u h hz hu
      cases h with
      | cons g1 g2 g3 g4 =>
        rename_i ds a b ps
        have b1 := box_body (m := m) h0 h9 (x := x) g1 g2 g3 (out := out) (by unfold SZ; omega) hu
        obtain ⟨t', u', e⟩ := ih ps (out ++ [bx (a, b)]) (some (.val d)) (some (.val (bx (a, b)))) g4 (by rw [List.length_append]; simp at hz ⊢; omega) (.inr ⟨_, rfl⟩)
        refine ⟨t', u', ?_⟩
        conv => lhs; unfold loopF
        show (match exs m d15b0 [some (.val x), some (.own out), some (.val d), u] with
          | .ok ρ2 .nx => loopF (putS (.nm 2)) (fun ρ1 => exs m d15b0 ρ1) xs ρ2 | .ok ρ2 .ct => _ | .ok ρ2 .bk => _ | .ok ρ2 (.rt b) => _ | .exc c k ρ2 => _ | .bad => _) = _
        rw [b1]
        dsimp only
        rw [e, List.map_cons, List.append_assoc]
        rfl
  obtain ⟨t', u', e2⟩ := key xs ps [] none none hp (by simp; omega) (.inl rfl)
  rw [List.nil_append] at e2
  have g0 : PF.grd (0 ≤ SZ) (.ok (.own [])) = .ok (.own []) := grd_sz (by decide)
  unfold d15
  simp_all! [e, hl, c1, it, g0, e2]
end PF

end

section
set_option linter.all false
set_option maxRecDepth 100000
/-! M16: the forms of a box. -/
namespace PF
open PySem L2
theorem Sz.one {n : Nat} (h : 0 < n) : Sz n 1 := by
  have : 1 < 2 ^ n := Nat.one_lt_two_pow (by omega)
  refine ⟨?_, this⟩
  unfold Bt
  have e : ((1 : Rat).num) = 1 := rfl
  rw [e]
  exact this
theorem szl_unit {n a w : Nat} : SzL (n + 1) (unit a w) := by
  intro q hq
  unfold unit at hq
  obtain ⟨p, _, rfl⟩ := List.mem_map.mp hq
  by_cases h : p = a
  · rw [if_pos h]; exact Sz.one (Nat.succ_pos _)
  · rw [if_neg h]; exact Sz.zero (Nat.succ_pos _)
theorem szl_const {n : Nat} {c : Rat} {k : Nat} (h : Sz (n + 1) c) : SzL (n + 1) (c :: List.replicate k 0) := by
  intro q hq
  rcases List.mem_cons.mp hq with rfl | h2
  · exact h
  · rw [(List.mem_replicate.mp h2).2]; exact Sz.zero (Nat.succ_pos _)
def bf (p w : Nat) (a b : Rat) : List D := [rr (List.zipWith (· - ·) (unit (p + 1) w) (a :: List.replicate (w - 1) 0)), rr (List.zipWith (· - ·) (b :: List.replicate (w - 1) 0) (unit (p + 1) w))]
theorem bf_body {m : Nat → List D → R Bd} (h100 : sRowMinus m) (h142 : sConst m) (h156 : sUnit m) {x : D} {w p : Nat} {a b : Rat} {out : List D} {t : Option Bd} (ho : out.length + 2 < SZ) (h1 : 1 ≤ w) (h2 : w ≤ 100) (ha : Sz 1000 a) (hb : Sz 1000 b) (ht : t = none ∨ ∃ y, t = some (.val y)) :
    exs m d172b0 [some (.val x), some (.val (.int w)), some (.own out), some (.val (.int p)), some (.val (rp a)), some (.val (rp b)), t] = .ok [some (.val x), some (.val (.int w)), some (.own (out ++ bf p w a b)), some (.val (.int p)), some (.val (rp a)), some (.val (rp b)), some (.val (rr (unit (p + 1) w)))] .nx := by
  have e1 := h156 (p + 1) w (by omega)
  have e2 := h142 a w h1 (by omega)
  have e3 := h142 b w h1 (by omega)
  have hu : (unit (p + 1) w).length = w := by unfold unit; rw [List.length_map, List.length_range]
  have e4 := h100 (unit (p + 1) w) (a :: List.replicate (w - 1) 0) szl_unit (szl_const (ha.mono (by decide))) (by omega)
  have e5 := h100 (b :: List.replicate (w - 1) 0) (unit (p + 1) w) (szl_const (hb.mono (by decide))) szl_unit (by simp; omega)
  have c1 : ((p + 1 : Nat) : Int) = (p : Int) + 1 := by omega
  rw [c1] at e1
  have o1 : out.length < SZ := by omega
  have o2 : out.length + 1 < SZ := by omega
  unfold d172b0 bf
  generalize unit (p + 1) w = U at *
  generalize List.replicate (w - 1) (0 : Rat) = Z at *
  rcases ht with rfl | ⟨y, rfl⟩ <;> simp_all! [e1, e2, e3, e4, e5, isOwn, appS, o1, o2, List.length_append, List.append_assoc]
/-- what box_forms hands back -/
def bfs : List (Nat × Rat × Rat) → Nat → List D
  | [], _ => []
  | (p, a, b) :: r, w => bf p w a b ++ bfs r w
def bxs : List (Nat × Rat × Rat) → List D
  | [] => []
  | (p, a, b) :: r => .tup [.int (p : Int), bx (a, b)] :: bxs r
theorem bf_loop {m : Nat → List D → R Bd} (h100 : sRowMinus m) (h142 : sConst m) (h156 : sUnit m) {x : D} {w : Nat} (h1 : 1 ≤ w) (h2 : w ≤ 100) : ∀ (ts : List (Nat × Rat × Rat)) (out : List D) (u v s t : Option Bd), (∀ y ∈ ts, Sz 1000 y.2.1 ∧ Sz 1000 y.2.2) → out.length + 2 * ts.length + 2 < SZ → (t = none ∨ ∃ y, t = some (.val y)) →
    ∃ u' v' s' t', loopF (putS (.tup [.nm 3, .tup [.nm 4, .nm 5]])) (fun ρ1 => exs m d172b0 ρ1) (bxs ts) [some (.val x), some (.val (.int w)), some (.own out), u, v, s, t] = .ok [some (.val x), some (.val (.int w)), some (.own (out ++ bfs ts w)), u', v', s', t'] .nx
  | [], out, u, v, s, t, _, _, _ => ⟨u, v, s, t, by unfold bfs; rw [List.append_nil]; rfl⟩
  | (p, a, b) :: r, out, u, v, s, t, hs, hl, ht => by
    have b1 := bf_body (m := m) h100 h142 h156 (x := x) (w := w) (p := p) (a := a) (b := b) (out := out) (by simp at hl; omega) h1 h2 (hs _ List.mem_cons_self).1 (hs _ List.mem_cons_self).2 ht
    obtain ⟨u', v', s', t', e⟩ := bf_loop h100 h142 h156 (x := x) h1 h2 r (out ++ bf p w a b) (some (.val (.int p))) (some (.val (rp a))) (some (.val (rp b))) (some (.val (rr (unit (p + 1) w)))) (fun y hy => hs y (List.mem_cons_of_mem _ hy)) (by rw [List.length_append]; unfold bf; simp at hl ⊢; omega) (.inr ⟨_, rfl⟩)
    refine ⟨u', v', s', t', ?_⟩
    unfold bxs
    conv => lhs; unfold loopF
    show (match exs m d172b0 [some (.val x), some (.val (.int w)), some (.own out), some (.val (.int p)), some (.val (rp a)), some (.val (rp b)), t] with
          | .ok ρ2 .nx => loopF (putS (.tup [.nm 3, .tup [.nm 4, .nm 5]])) (fun ρ1 => exs m d172b0 ρ1) (bxs r) ρ2 | .ok ρ2 .ct => _ | .ok ρ2 .bk => _ | .ok ρ2 (.rt b) => _ | .exc c k ρ2 => _ | .bad => _) = _
    rw [b1]
    dsimp only
    rw [e, List.append_assoc]
    rfl
def num : Nat → List (Rat × Rat) → List (Nat × Rat × Rat)
  | _, [] => []
  | k, (a, b) :: r => (k, a, b) :: num (k + 1) r
theorem enum_bx : ∀ (ps : List (Rat × Rat)) (k : Nat), enumFrom k (ps.map bx) = bxs (num k ps)
  | [], _ => rfl
  | (a, b) :: r, k => by
    rw [List.map_cons]
    unfold enumFrom num bxs
    rw [enum_bx r (k + 1)]
theorem num_mem {q : Rat → Prop} : ∀ {ps : List (Rat × Rat)} {k : Nat}, (∀ y ∈ ps, q y.1 ∧ q y.2) → ∀ y ∈ num k ps, q y.2.1 ∧ q y.2.2
  | [], _, _, y, hy => by simp [num] at hy
  | (a, b) :: r, k, h, y, hy => by
    unfold num at hy
    rcases List.mem_cons.mp hy with rfl | hy
    · exact h _ List.mem_cons_self
    · exact num_mem (fun z hz => h z (List.mem_cons_of_mem _ hz)) y hy
theorem num_len : ∀ (ps : List (Rat × Rat)) (k : Nat), (num k ps).length = ps.length
  | [], _ => rfl
  | (a, b) :: r, k => by unfold num; rw [List.length_cons, num_len r, List.length_cons]
theorem box_forms_run {m : Nat → List D → R Bd} (h100 : sRowMinus m) (h142 : sConst m) (h156 : sUnit m) {ps : List (Rat × Rat)} (hs : ∀ y ∈ ps, Sz 1000 y.1 ∧ Sz 1000 y.2) (hz : ps.length ≤ 20) :
    d172.run m [.tup (ps.map bx)] = .ok (.val (.tup (bfs (num 0 ps) (ps.length + 1)))) := by
  obtain ⟨u', v', s', t', e⟩ := bf_loop (m := m) h100 h142 h156 (x := .tup (ps.map bx)) (w := ps.length + 1) (by omega) (by omega) (num 0 ps) [] none none none none (num_mem hs) (by rw [num_len]; unfold SZ; simp; omega) (.inl rfl)
  rw [List.nil_append] at e
  have c1 : ((ps.length + 1 : Nat) : Int) = (ps.length : Int) + 1 := by omega
  rw [c1] at e
  have g0 : PF.grd (0 ≤ SZ) (.ok (.own [])) = .ok (.own []) := grd_sz (by decide)
  unfold d172
  simp_all! [e, g0, enum_bx, iev_enum, seqD]
def sBoxShape (m : Nat → List D → R Bd) : Prop := ∀ (x : D) (xs : List D) (ps : List (Rat × Rat)), (x = .tup xs ∨ x = .lst xs) → Ps xs ps → ps.length ≤ 5 → m 15 [x] = .ok (.val (.tup (ps.map bx)))
def sBoxForms (m : Nat → List D → R Bd) : Prop := ∀ ps : List (Rat × Rat), (∀ y ∈ ps, Sz 1000 y.1 ∧ Sz 1000 y.2) → ps.length ≤ 20 → m 172 [.tup (ps.map bx)] = .ok (.val (.tup (bfs (num 0 ps) (ps.length + 1))))
theorem Ps.sz : ∀ {xs : List D} {ps : List (Rat × Rat)}, Ps xs ps → ∀ y ∈ ps, Sz 1000 y.1 ∧ Sz 1000 y.2 := by
  intro xs ps h
  induction h with
  | nil => intro y hy; simp at hy
  | cons _ _ g _ ih =>
    intro y hy
    rcases List.mem_cons.mp hy with rfl | hy
    · exact ⟨g.2.2.2.1.mono (by decide), g.2.2.2.2.mono (by decide)⟩
    · exact ih y hy
theorem box_system_run {m : Nat → List D → R Bd} (h15 : sBoxShape m) (h172 : sBoxForms m) {x : D} {xs : List D} {ps : List (Rat × Rat)} (hx : x = .tup xs ∨ x = .lst xs) (hp : Ps xs ps) (hz : ps.length ≤ 5) :
    d173.run m [x] = .ok (.val (.tup (bfs (num 0 ps) (ps.length + 1)))) := by
  have e1 := h15 x xs ps hx hp hz
  have e2 := h172 ps hp.sz (by omega)
  have c : cmpD .isn (.tup (ps.map bx)) .non = .ok (.val (.bl false)) := isn_ev2
  unfold d173
  simp_all! [e1, e2, c]
def sBoxSystem (m : Nat → List D → R Bd) : Prop := ∀ (x : D) (xs : List D) (ps : List (Rat × Rat)), (x = .tup xs ∨ x = .lst xs) → Ps xs ps → ps.length ≤ 5 → m 173 [x] = .ok (.val (.tup (bfs (num 0 ps) (ps.length + 1))))
end PF

end

section
set_option linter.all false
set_option maxRecDepth 100000
/-! M17: what is due (the law's own forms of a box), for each width. -/
namespace PF
open PySem L2
theorem rowOf2 : binD .mul (.lst [.tup [.int 0, .int 1]]) (.int 2) = .ok (.own [rp 0, rp 0]) := by
  rw [rp_zero]
  show PF.grd _ _ = _
  rw [PF.grd, if_pos (by unfold near SZ; decide)]
  rfl
theorem rowOf3 : binD .mul (.lst [.tup [.int 0, .int 1]]) (.int 3) = .ok (.own [rp 0, rp 0, rp 0]) := by
  rw [rp_zero]
  show PF.grd _ _ = _
  rw [PF.grd, if_pos (by unfold near SZ; decide)]
  rfl
theorem addL {xs ys : List D} (h : xs.length + ys.length ≤ SZ) : binD .add (.lst xs) (.lst ys) = .ok (.own (xs ++ ys)) := by
  show PF.grd _ _ = _
  rw [PF.grd, if_pos h]
theorem ixs_own {i p : Nat} {d : D} {ρ : SEnv} {xs : List D} {j : Int} (h : ρ[i]? = some (some (.own xs))) (hp : ixN xs.length j = some p) : ixsS i (.int j) d ρ = .ok (ρ.set i (some (.own (xs.set p d)))) .nx := by
  unfold ixsS
  rw [h]
  dsimp only
  rw [hp]
def blk (tl : List Rat) (p : Rat × Rat) : List D := [rr ((0 - p.1) :: tl), rr (p.2 :: tl.map fun x => 0 - x)]
theorem due_a {m : Nat → List D → R Bd} (h29 : sLMinus m) {v0 v2 v4 v5 v6 v7 v8 v9 v10 v11 v12 : D} {l3 : List D} {ps : List D} {pr : Rat × Rat} (hb : ixD (.tup ps) (.int 0) = .ok (.val (bx pr))) (h1 : Sz 1000 pr.1) (h2 : Sz 1000 pr.2) {out : List D} (ho : out.length + 2 < SZ) {t : Option Bd} (ht : t = none ∨ ∃ y, t = some (.own y)) :
    exs m d189b5 [some (.val v0), some (.val (.int 1)), some (.val v2), some (.own l3), some (.val v4), some (.val v5), some (.val v6), some (.val v7), some (.val v8), some (.val v9), some (.val v10), some (.val v11), some (.val v12), some (.val (.tup ps)), some (.own out), some (.val (.int 0)), t, none] =
      .ok [some (.val v0), some (.val (.int 1)), some (.val v2), some (.own l3), some (.val v4), some (.val v5), some (.val v6), some (.val v7), some (.val v8), some (.val v9), some (.val v10), some (.val v11), some (.val v12), some (.val (.tup ps)), some (.own (out ++ blk [1] pr)), some (.val (.int 0)), some (.own [rp 0, rp 1]), none] .nx := by
  have e1 := h29 0 pr.1 (Sz.zero (by decide)) (h1.mono (by decide))
  have e2 := h29 0 1 (Sz.zero (by decide)) (Sz.one (by decide))
  rw [rp_zero] at e1
  rw [rp_zero, rp_one] at e2
  have i0 : ixD (bx pr) (.int 0) = .ok (.val (rp pr.1)) := rfl
  have i1 : ixD (bx pr) (.int 1) = .ok (.val (rp pr.2)) := rfl
  have o1 : out.length < SZ := by omega
  have o2 : out.length + 1 < SZ := by omega
  have g02 : ∀ b : Bd, PF.grd (2 ≤ SZ) (.ok b) = .ok b := fun b => if_pos (by unfold SZ; decide)
  have g01 : ∀ b : Bd, PF.grd (1 ≤ SZ) (.ok b) = .ok b := fun b => if_pos (by unfold SZ; decide)
  have g1 : ∀ x : D, PF.grd (1 ≤ SZ) (.ok (.own [x])) = .ok (.own [x]) := fun x => grd_sz (by decide)
  have g2 : ∀ x : D, ∀ y : D, binD .add (.lst [x]) (.lst [y]) = .ok (.own [x, y]) := fun x y => addL (by show 2 ≤ SZ; unfold SZ; decide)
  have ix : ∀ (ρ : SEnv) (d : D), ρ[16]? = some (some (.own [.tup [.int 0, .int 1], .tup [.int 0, .int 1]])) → ixsS 16 (.int 1) d ρ = .ok (ρ.set 16 (some (.own [.tup [.int 0, .int 1], d]))) .nx := fun ρ d h => ixs_own (p := 1) h rfl
  have r2 := rowOf2
  rw [rp_zero] at r2
  have pt : ∀ η : Env, η.length = 18 → putT (.nm 17) (.tup [.int 1, .int 1]) η = .ok (η.set 17 (some (.tup [.int 1, .int 1]))) := fun η _ => rfl
  unfold d189b5 blk
  rcases ht with rfl | ⟨y, rfl⟩ <;> simp_all! [g01, g02, nol_tup, nols_cons, nols_nil, nol_rp, nol_int, Bool.and_true, Bool.true_and, r2, e1, e2, hb, i0, i1, o1, o2, g1, g2, ix, sl_tailL, isOwn, appS, List.append_assoc, List.length_append, Int.reduceAdd, rp_zero, rp_one, rr, compF, d189e4, putT, asgs, setE]
theorem due_b {m : Nat → List D → R Bd} (h29 : sLMinus m) {v0 v2 v4 v5 v6 v7 v8 v9 v10 v11 v12 : D} {l3 : List D} {ps : List D} {pr : Rat × Rat} (hb : ixD (.tup ps) (.int 0) = .ok (.val (bx pr))) (h1 : Sz 1000 pr.1) (h2 : Sz 1000 pr.2) {out : List D} (ho : out.length + 2 < SZ) {t : Option Bd} (ht : t = none ∨ ∃ y, t = some (.own y)) :
    exs m d189b5 [some (.val v0), some (.val (.int 2)), some (.val v2), some (.own l3), some (.val v4), some (.val v5), some (.val v6), some (.val v7), some (.val v8), some (.val v9), some (.val v10), some (.val v11), some (.val v12), some (.val (.tup ps)), some (.own out), some (.val (.int 0)), t, none] =
      .ok [some (.val v0), some (.val (.int 2)), some (.val v2), some (.own l3), some (.val v4), some (.val v5), some (.val v6), some (.val v7), some (.val v8), some (.val v9), some (.val v10), some (.val v11), some (.val v12), some (.val (.tup ps)), some (.own (out ++ blk [1, 0] pr)), some (.val (.int 0)), some (.own [rp 0, rp 1, rp 0]), none] .nx := by
  have e1 := h29 0 pr.1 (Sz.zero (by decide)) (h1.mono (by decide))
  have e2 := h29 0 1 (Sz.zero (by decide)) (Sz.one (by decide))
  rw [rp_zero] at e1
  rw [rp_zero, rp_one] at e2
  have i0 : ixD (bx pr) (.int 0) = .ok (.val (rp pr.1)) := rfl
  have i1 : ixD (bx pr) (.int 1) = .ok (.val (rp pr.2)) := rfl
  have o1 : out.length < SZ := by omega
  have o2 : out.length + 1 < SZ := by omega
  have g02 : ∀ b : Bd, PF.grd (2 ≤ SZ) (.ok b) = .ok b := fun b => if_pos (by unfold SZ; decide)
  have g01 : ∀ b : Bd, PF.grd (1 ≤ SZ) (.ok b) = .ok b := fun b => if_pos (by unfold SZ; decide)
  have g1 : ∀ x : D, PF.grd (1 ≤ SZ) (.ok (.own [x])) = .ok (.own [x]) := fun x => grd_sz (by decide)
  have g2 : ∀ x : D, ∀ y z : D, binD .add (.lst [x]) (.lst [y, z]) = .ok (.own [x, y, z]) := fun x y z => addL (by show 3 ≤ SZ; unfold SZ; decide)
  have e3 := h29 0 0 (Sz.zero (by decide)) (Sz.zero (by decide))
  rw [rp_zero] at e3
  have g03 : PF.grd (3 ≤ SZ) (.ok (.own ([] : List D))) = .ok (.own []) := if_pos (by unfold SZ; decide)
  have ix : ∀ (ρ : SEnv) (d : D), ρ[16]? = some (some (.own [.tup [.int 0, .int 1], .tup [.int 0, .int 1], .tup [.int 0, .int 1]])) → ixsS 16 (.int 1) d ρ = .ok (ρ.set 16 (some (.own [.tup [.int 0, .int 1], d, .tup [.int 0, .int 1]]))) .nx := fun ρ d h => ixs_own (p := 1) h rfl
  have r2 := rowOf3
  rw [rp_zero] at r2
  have pt : ∀ η : Env, η.length = 18 → putT (.nm 17) (.tup [.int 1, .int 1]) η = .ok (η.set 17 (some (.tup [.int 1, .int 1]))) := fun η _ => rfl
  unfold d189b5 blk
  rcases ht with rfl | ⟨y, rfl⟩ <;> simp_all! [g01, g02, nol_tup, nols_cons, nols_nil, nol_rp, nol_int, Bool.and_true, Bool.true_and, r2, e1, e2, e3, hb, i0, i1, o1, o2, g1, g2, ix, sl_tailL, isOwn, appS, List.append_assoc, List.length_append, Int.reduceAdd, rp_zero, rp_one, rr, compF, d189e4, putT, asgs, setE]
theorem due_c {m : Nat → List D → R Bd} (h29 : sLMinus m) {v0 v2 v4 v5 v6 v7 v8 v9 v10 v11 v12 : D} {l3 : List D} {ps : List D} {pr : Rat × Rat} (hb : ixD (.tup ps) (.int 1) = .ok (.val (bx pr))) (h1 : Sz 1000 pr.1) (h2 : Sz 1000 pr.2) {out : List D} (ho : out.length + 2 < SZ) {t : Option Bd} (ht : t = none ∨ ∃ y, t = some (.own y)) :
    exs m d189b5 [some (.val v0), some (.val (.int 2)), some (.val v2), some (.own l3), some (.val v4), some (.val v5), some (.val v6), some (.val v7), some (.val v8), some (.val v9), some (.val v10), some (.val v11), some (.val v12), some (.val (.tup ps)), some (.own out), some (.val (.int 1)), t, none] =
      .ok [some (.val v0), some (.val (.int 2)), some (.val v2), some (.own l3), some (.val v4), some (.val v5), some (.val v6), some (.val v7), some (.val v8), some (.val v9), some (.val v10), some (.val v11), some (.val v12), some (.val (.tup ps)), some (.own (out ++ blk [0, 1] pr)), some (.val (.int 1)), some (.own [rp 0, rp 0, rp 1]), none] .nx := by
  have e1 := h29 0 pr.1 (Sz.zero (by decide)) (h1.mono (by decide))
  have e2 := h29 0 1 (Sz.zero (by decide)) (Sz.one (by decide))
  rw [rp_zero] at e1
  rw [rp_zero, rp_one] at e2
  have i0 : ixD (bx pr) (.int 0) = .ok (.val (rp pr.1)) := rfl
  have i1 : ixD (bx pr) (.int 1) = .ok (.val (rp pr.2)) := rfl
  have o1 : out.length < SZ := by omega
  have o2 : out.length + 1 < SZ := by omega
  have g02 : ∀ b : Bd, PF.grd (2 ≤ SZ) (.ok b) = .ok b := fun b => if_pos (by unfold SZ; decide)
  have g01 : ∀ b : Bd, PF.grd (1 ≤ SZ) (.ok b) = .ok b := fun b => if_pos (by unfold SZ; decide)
  have g1 : ∀ x : D, PF.grd (1 ≤ SZ) (.ok (.own [x])) = .ok (.own [x]) := fun x => grd_sz (by decide)
  have g2 : ∀ x : D, ∀ y z : D, binD .add (.lst [x]) (.lst [y, z]) = .ok (.own [x, y, z]) := fun x y z => addL (by show 3 ≤ SZ; unfold SZ; decide)
  have e3 := h29 0 0 (Sz.zero (by decide)) (Sz.zero (by decide))
  rw [rp_zero] at e3
  have g03 : PF.grd (3 ≤ SZ) (.ok (.own ([] : List D))) = .ok (.own []) := if_pos (by unfold SZ; decide)
  have ix : ∀ (ρ : SEnv) (d : D), ρ[16]? = some (some (.own [.tup [.int 0, .int 1], .tup [.int 0, .int 1], .tup [.int 0, .int 1]])) → ixsS 16 (.int 2) d ρ = .ok (ρ.set 16 (some (.own [.tup [.int 0, .int 1], .tup [.int 0, .int 1], d]))) .nx := fun ρ d h => ixs_own (p := 2) h rfl
  have r2 := rowOf3
  rw [rp_zero] at r2
  have pt : ∀ η : Env, η.length = 18 → putT (.nm 17) (.tup [.int 1, .int 1]) η = .ok (η.set 17 (some (.tup [.int 1, .int 1]))) := fun η _ => rfl
  unfold d189b5 blk
  rcases ht with rfl | ⟨y, rfl⟩ <;> simp_all! [g01, g02, nol_tup, nols_cons, nols_nil, nol_rp, nol_int, Bool.and_true, Bool.true_and, r2, e1, e2, e3, hb, i0, i1, o1, o2, g1, g2, ix, sl_tailL, isOwn, appS, List.append_assoc, List.length_append, Int.reduceAdd, rp_zero, rp_one, rr, compF, d189e4, putT, asgs, setE]
end PF

end

section
set_option linter.all false
set_option maxRecDepth 100000
/-! M18: the law's loops of k13. -/
namespace PF
open PySem L2
theorem Fs.tup {L : Nat} : ∀ {fs : List (List Rat)}, (∀ f ∈ fs, f.length = L) → Fs L (fs.map rr) fs
  | [], _ => .nil
  | f :: fs, h => .cons (ds := f.map rp) (.inl rfl) (Qs.rps f) (h f List.mem_cons_self) (Fs.tup fun g hg => h g (List.mem_cons_of_mem _ hg))
theorem lsd_rp {q : Rat} : lsd (rp q) = lp q := by unfold rp lp; rw [lsd, lsd.lsds, lsd.lsds, lsd.lsds]; rfl
theorem lsd_rr {qs : List Rat} : lsd (rr qs) = .lst (qs.map lp) := by
  unfold rr
  rw [lsd, lsds_map, List.map_map]
  rw [show (lsd ∘ rp) = lp from funext fun q => lsd_rp]
theorem Fs.lst {L : Nat} : ∀ {fs : List (List Rat)}, (∀ f ∈ fs, f.length = L) → Fs L ((fs.map rr).map lsd) fs
  | [], _ => .nil
  | f :: fs, h => by
    rw [List.map_cons, List.map_cons, lsd_rr]
    exact .cons (ds := f.map lp) (.inr rfl) (Qs.lps f) (h f List.mem_cons_self) (Fs.lst fun g hg => h g (List.mem_cons_of_mem _ hg))
theorem rsz (a : Rat) : a - 0 = a := by grind
theorem due_same1 {p : Rat × Rat} : bfs (num 0 [p]) 2 = blk [1] p := by
  obtain ⟨a, b⟩ := p
  simp [num, bfs, bf, blk, unit, List.range, List.range.loop, rsz]
theorem due_same2 {p q : Rat × Rat} : bfs (num 0 [p, q]) 3 = blk [1, 0] p ++ blk [0, 1] q := by
  obtain ⟨a, b⟩ := p
  obtain ⟨c, d⟩ := q
  simp [num, bfs, bf, blk, unit, List.range, List.range.loop, rsz]
structure Sh (m : Nat → List D → R Bd) (F Fl : D) (fs : List (List Rat)) (h : Nat) (goal : List Rat) : Prop where
  a : ∀ d o, Tr d o → m 181 [F, d] = .ok (.val (.bl (noneW fs (h + 1) o)))
  b : ∀ d o, Tr d o → m 188 [F, .non, .non, d, .int h] = .ok (.val (.bl (noneW fs (h + 1) o)))
  c : ∃ b, m 25 [F] = .ok b ∧ b.d = Fl
  d : ∀ x most d o, (x = F ∨ x = Fl) → Sz 1000 most → Tr d o → m 182 [x, rr goal, rp most, d] = .ok (.val (.bl (mostW fs (h + 1) goal most o)))
  e : ∀ most d o, Sz 1000 most → Tr d o → m 188 [F, rr goal, rp most, d, .int h] = .ok (.val (.bl (mostW fs (h + 1) goal most o)))
  s : ∀ b : Bool, m 24 [.bl b, .bl b] = .ok (.val (.bl true))
theorem b1_body {m : Nat → List D → R Bd} {F Fl : D} {fs : List (List Rat)} {h : Nat} {goal : List Rat} (S : Sh m F Fl fs h goal) {v0 v2 v7 v8 : D} {l3 : List D} {most : Rat} (hm : Sz 1000 most) {d : D} {o : Option (List Rat)} (t : Tr d o) :
    exs m d189b1 [some (.val v0), some (.val (.int h)), some (.val v2), some (.own l3), some (.val F), some (.val (rr goal)), some (.val (rp most)), some (.val v7), some (.val v8), some (.val d), none, none, none, none, none, none, none, none] =
      .ok [some (.val v0), some (.val (.int h)), some (.val v2), some (.own l3), some (.val F), some (.val (rr goal)), some (.val (rp most)), some (.val v7), some (.val v8), some (.val d), none, none, none, none, none, none, none, none] .nx := by
  obtain ⟨b, c1, c2⟩ := S.c
  have ea := S.a d o t
  have eb := S.b d o t
  have ed := S.d Fl most d o (.inr rfl) hm t
  have ee := S.e most d o hm t
  have ss := S.s
  clear S
  cases b with
  | own xs =>
    have c2 : D.lst xs = Fl := c2
    subst c2
    unfold d189b1
    simp_all! [ea, eb, c1, ed, ee, ss]
  | val y =>
    have c2 : y = Fl := c2
    subst c2
    unfold d189b1
    simp_all! [ea, eb, c1, ed, ee, ss]
theorem b2_body {m : Nat → List D → R Bd} {F Fl : D} {fs : List (List Rat)} {h : Nat} {goal : List Rat} (S : Sh m F Fl fs h goal) {v0 v2 v6 v7 v9 v10 v11 : D} {l3 : List D} {ws : List Rat} {most : Rat} (hm : Sz 1000 most) (t : Tr (rr ws) (some ws)) :
    exs m d189b2 [some (.val v0), some (.val (.int h)), some (.val v2), some (.own l3), some (.val F), some (.val (rr goal)), some (.val v6), some (.val v7), some (.val (rr ws)), some (.val v9), some (.val v10), some (.val v11), some (.val (rp most)), none, none, none, none, none] =
      .ok [some (.val v0), some (.val (.int h)), some (.val v2), some (.own l3), some (.val F), some (.val (rr goal)), some (.val v6), some (.val v7), some (.val (rr ws)), some (.val v9), some (.val v10), some (.val v11), some (.val (rp most)), none, none, none, none, none] .nx := by
  have ed := S.d F most (rr ws) _ (.inl rfl) hm t
  have ee := S.e most (rr ws) _ hm t
  unfold d189b2
  simp_all! [ed, ee, S.s]
end PF

end

section
set_option linter.all false
set_option maxRecDepth 100000
/-! M19: the due loop, the comprehensions of k13's law. -/
namespace PF
open PySem L2
def nine : Rat := ⟨9, 1, by decide, by decide⟩
def Bq (q : Rat) : Prop := 0 ≤ q.num ∧ 0 ≤ nine.num ∧ ¬ nine < q ∧ Sz 100 q ∧ Sz 100 nine
theorem bq_of (c : Int) (h0 : 0 ≤ c) (h1 : c < 5) : Bq ((c : Rat) / ((2 : Int) : Rat)) := by
  have b3 : Bt 3 c := by unfold Bt; omega
  have b2 : Bt 3 2 := by decide
  have hz : Sz 100 ((c : Rat) / ((2 : Int) : Rat)) := Sz.small (by decide) (b3.mono (by decide)) (b2.mono (by decide))
  have h : c = 0 ∨ c = 1 ∨ c = 2 ∨ c = 3 ∨ c = 4 := by omega
  refine ⟨?_, by decide, ?_, hz, ⟨by decide, by decide⟩⟩
  · rcases h with rfl | rfl | rfl | rfl | rfl <;> decide +kernel
  · rcases h with rfl | rfl | rfl | rfl | rfl <;> decide +kernel
theorem compF_ex {put : D → Env → R Env} {elt : Env → R Bd} {η : Env} {P : D → Prop} : ∀ {items : List D}, (∀ x ∈ items, ∃ η1, put x η = .ok η1 ∧ ∃ q, P q ∧ elt η1 = .ok (.val q)) → ∃ qs, qs.length = items.length ∧ (∀ q ∈ qs, P q) ∧ compF put (fun _ => .ok true) elt η items = .ok qs
  | [], _ => ⟨[], rfl, fun _ h => (by cases h), rfl⟩
  | x :: r, h => by
    obtain ⟨η1, h1, q, h2, h3⟩ := h x List.mem_cons_self
    obtain ⟨qs, g1, g2, g3⟩ := compF_ex (put := put) (elt := elt) (η := η) (P := P) (items := r) fun y hy => h y (List.mem_cons_of_mem _ hy)
    refine ⟨q :: qs, by rw [List.length_cons, List.length_cons, g1], fun y hy => ?_, ?_⟩
    · rcases List.mem_cons.mp hy with rfl | hy
      · exact h2
      · exact g2 y hy
    · unfold compF
      rw [h1]
      dsimp only
      rw [h3]
      dsimp only
      rw [g3]
      rfl
theorem Ps.mk : ∀ {qs : List Rat}, (∀ q ∈ qs, Bq q) → Ps ((qs.map fun q => lsd (bx (q, nine)))) (qs.map fun q => (q, nine))
  | [], _ => .nil
  | q :: qs, h => by
    rw [List.map_cons, List.map_cons]
    have e : lsd (bx (q, nine)) = .lst ([q, nine].map lp) := lsd_rr
    rw [e]
    exact .cons (.inr rfl) (Qs.lps [q, nine]) (h q List.mem_cons_self) (Ps.mk fun x hx => h x (List.mem_cons_of_mem _ hx))
def pn (q : Rat) : Rat × Rat := (q, nine)
theorem bqs_of : ∀ {ds : List D}, (∀ d ∈ ds, ∃ q, Bq q ∧ d = bx (pn q)) → ∃ qs : List Rat, (∀ q ∈ qs, Bq q) ∧ ds = qs.map fun q => bx (pn q)
  | [], _ => ⟨[], fun _ h => (by cases h), rfl⟩
  | d :: ds, h => by
    obtain ⟨q, h1, h2⟩ := h d List.mem_cons_self
    obtain ⟨qs, g1, g2⟩ := bqs_of fun x hx => h x (List.mem_cons_of_mem _ hx)
    refine ⟨q :: qs, fun x hx => ?_, by rw [h2, g2]; rfl⟩
    rcases List.mem_cons.mp hx with rfl | hx
    · exact h1
    · exact g1 x hx
theorem due_loop {m : Nat → List D → R Bd} (h29 : sLMinus m) {h : Nat} (hh : h ≤ 2) {qs : List Rat} (hl : qs.length = h) (hq : ∀ q ∈ qs, Bq q) {v0 v2 v4 v5 v6 v7 v8 v9 v10 v11 v12 : D} {l3 : List D} :
    ∃ t15 t16 : Option Bd, ((t15 = none ∧ t16 = none) ∨ ∃ a b, t15 = some (.val a) ∧ t16 = some (.own b)) ∧ loopF (putS (.nm 15)) (fun ρ1 => exs m d189b5 ρ1) (rngD 0 h) [some (.val v0), some (.val (.int h)), some (.val v2), some (.own l3), some (.val v4), some (.val v5), some (.val v6), some (.val v7), some (.val v8), some (.val v9), some (.val v10), some (.val v11), some (.val v12), some (.val (.tup (qs.map fun q => bx (pn q)))), some (.own []), none, none, none] =
      .ok [some (.val v0), some (.val (.int h)), some (.val v2), some (.own l3), some (.val v4), some (.val v5), some (.val v6), some (.val v7), some (.val v8), some (.val v9), some (.val v10), some (.val v11), some (.val v12), some (.val (.tup (qs.map fun q => bx (pn q)))), some (.own (bfs (num 0 (qs.map pn)) (h + 1))), t15, t16, none] .nx := by
  match h, qs, hl with
  | 0, [], _ => exact ⟨none, none, .inl ⟨rfl, rfl⟩, rfl⟩
  | 1, [q], _ =>
    have g := hq q List.mem_cons_self
    have b := due_a (m := m) h29 (v0 := v0) (v2 := v2) (v4 := v4) (v5 := v5) (v6 := v6) (v7 := v7) (v8 := v8) (v9 := v9) (v10 := v10) (v11 := v11) (v12 := v12) (l3 := l3) (ps := [bx (pn q)]) (pr := pn q) (out := []) (t := none) rfl (g.2.2.2.1.mono (by decide)) (g.2.2.2.2.mono (by decide)) (by unfold SZ; decide) (.inl rfl)
    refine ⟨some (.val (.int 0)), some (.own [rp 0, rp 1]), .inr ⟨_, _, rfl, rfl⟩, ?_⟩
    rw [show rngD 0 1 = [.int 0] from rfl]
    unfold loopF
    show (match exs m d189b5 [some (.val v0), some (.val (.int 1)), some (.val v2), some (.own l3), some (.val v4), some (.val v5), some (.val v6), some (.val v7), some (.val v8), some (.val v9), some (.val v10), some (.val v11), some (.val v12), some (.val (.tup [bx (pn q)])), some (.own []), some (.val (.int 0)), none, none] with
      | .ok ρ2 .nx => loopF (putS (.nm 15)) (fun ρ1 => exs m d189b5 ρ1) [] ρ2 | .ok ρ2 .ct => _ | .ok ρ2 .bk => _ | .ok ρ2 (.rt b) => _ | .exc c k ρ2 => _ | .bad => _) = _
    rw [b]
    dsimp only
    have ds : bfs (num 0 (List.map pn [q])) (1 + 1) = blk [1] (pn q) := due_same1
    rw [ds]
    rfl
  | 2, [q, r], _ =>
    have g := hq q List.mem_cons_self
    have g' := hq r (List.mem_cons_of_mem _ List.mem_cons_self)
    have b := due_b (m := m) h29 (v0 := v0) (v2 := v2) (v4 := v4) (v5 := v5) (v6 := v6) (v7 := v7) (v8 := v8) (v9 := v9) (v10 := v10) (v11 := v11) (v12 := v12) (l3 := l3) (ps := [bx (pn q), bx (pn r)]) (pr := pn q) (out := []) (t := none) rfl (g.2.2.2.1.mono (by decide)) (g.2.2.2.2.mono (by decide)) (by unfold SZ; decide) (.inl rfl)
    have b' := due_c (m := m) h29 (v0 := v0) (v2 := v2) (v4 := v4) (v5 := v5) (v6 := v6) (v7 := v7) (v8 := v8) (v9 := v9) (v10 := v10) (v11 := v11) (v12 := v12) (l3 := l3) (ps := [bx (pn q), bx (pn r)]) (pr := pn r) (out := blk [1, 0] (pn q)) (t := some (.own [rp 0, rp 1, rp 0])) rfl (g'.2.2.2.1.mono (by decide)) (g'.2.2.2.2.mono (by decide)) (by show 2 + 2 < SZ; unfold SZ; decide) (.inr ⟨_, rfl⟩)
    refine ⟨some (.val (.int 1)), some (.own [rp 0, rp 0, rp 1]), .inr ⟨_, _, rfl, rfl⟩, ?_⟩
    rw [show rngD 0 2 = [.int 0, .int 1] from rfl]
    unfold loopF
    show (match exs m d189b5 [some (.val v0), some (.val (.int 2)), some (.val v2), some (.own l3), some (.val v4), some (.val v5), some (.val v6), some (.val v7), some (.val v8), some (.val v9), some (.val v10), some (.val v11), some (.val v12), some (.val (.tup [bx (pn q), bx (pn r)])), some (.own []), some (.val (.int 0)), none, none] with
      | .ok ρ2 .nx => loopF (putS (.nm 15)) (fun ρ1 => exs m d189b5 ρ1) [.int 1] ρ2 | .ok ρ2 .ct => _ | .ok ρ2 .bk => _ | .ok ρ2 (.rt b) => _ | .exc c k ρ2 => _ | .bad => _) = _
    rw [b]
    dsimp only
    unfold loopF
    show (match exs m d189b5 [some (.val v0), some (.val (.int 2)), some (.val v2), some (.own l3), some (.val v4), some (.val v5), some (.val v6), some (.val v7), some (.val v8), some (.val v9), some (.val v10), some (.val v11), some (.val v12), some (.val (.tup [bx (pn q), bx (pn r)])), some (.own (blk [1, 0] (pn q))), some (.val (.int 1)), some (.own [rp 0, rp 1, rp 0]), none] with
      | .ok ρ2 .nx => loopF (putS (.nm 15)) (fun ρ1 => exs m d189b5 ρ1) [] ρ2 | .ok ρ2 .ct => _ | .ok ρ2 .bk => _ | .ok ρ2 (.rt b) => _ | .exc c k ρ2 => _ | .bad => _) = _
    rw [b']
    dsimp only
    have ds : bfs (num 0 (List.map pn [q, r])) (2 + 1) = blk [1, 0] (pn q) ++ blk [0, 1] (pn r) := due_same2
    rw [ds]
    rfl
  | h + 3, _, _ => omega
end PF

end

section
set_option linter.all false
set_option maxRecDepth 100000
/-! M20: the comprehensions of k13's law. -/
namespace PF
open PySem L2
theorem fdiv5 (i : Int) : binD .fdiv (.int i) (.int 5) = .ok (.val (.int (i / 5))) := by
  have b : Bt 4 5 := by decide
  exact fdiv_ev (by decide) (b.mono (by decide))
theorem ixl_plus {l : List Int} {i c : Nat} (h : i + c < l.length) : ixD (.lst (l.map .int)) (.int ((i : Int) + c)) = .ok (.val (.int l[i + c])) := by
  have e : ((i : Int) + c) = ((i + c : Nat) : Int) := by omega
  rw [e, ixl_nat (by rw [List.length_map]; exact h), List.getElem_map]
theorem w_comp {m : Nat → List D → R Bd} (h27 : sLow m) {l : List Int} (hl : l.length = 12) {n : Nat} (hn : n ≤ 4) {a b c d e f : Option D} :
    ∃ qs : List Rat, qs.length = n ∧ SzL 10 qs ∧ compF (putT (.nm 15)) (fun _ => .ok true) (fun η1 => d189e0.ev m η1) [a, b, c, some (.lst (l.map .int)), d, e, f, none, none, none, none, none, none, none, none, none, none, none] (rngD 0 n) = .ok (qs.map rp) := by
  obtain ⟨qs, h1, h2, h3⟩ := compF_rat (put := putT (.nm 15)) (elt := fun η1 => d189e0.ev m η1) (η := [a, b, c, some (.lst (l.map .int)), d, e, f, none, none, none, none, none, none, none, none, none, none, none]) (k := 10) (items := rngD 0 n) fun x hx => by
    obtain ⟨i, hi, rfl⟩ := rng_mem hx
    rw [Int.zero_add]
    have e1 : ixD (.lst (l.map .int)) (.int (6 + (i : Int))) = .ok (.val (.int l[6 + i])) := ixl_plus (i := 6) (by omega)
    generalize l[6 + i] = v at e1
    have r1 : binD .mod (.int v) (.int 5) = .ok (.val (.int (v % 5))) := mod_ev (by decide)
    have r2 := fdiv5 v
    have r3 : binD .mod (.int (v / 5)) (.int 3) = .ok (.val (.int (v / 5 % 3))) := mod_ev (by decide)
    have b2 : Bt 3 (1 + v / 5 % 3) := by unfold Bt; omega
    have b1 : Bt 3 (v % 5) := by unfold Bt; omega
    have e2 := h27 (v % 5) (1 + v / 5 % 3) (by omega) (b2.mono (by decide))
    refine ⟨[a, b, c, some (.lst (l.map .int)), d, e, f, none, none, none, none, none, none, none, none, some (.int i), none, none], rfl, _, Sz.small (by omega) (b1.mono (by decide)) (b2.mono (by decide)), ?_⟩
    unfold d189e0
    simp_all! [e1, r1, r2, r3, e2]
  rw [rng_len] at h1
  exact ⟨qs, h1, h2, h3⟩
theorem bx_comp {m : Nat → List D → R Bd} (h27 : sLow m) {l : List Int} (hl : l.length = 12) {h : Nat} (hh : h ≤ 2) {a b c d e f g i j k o p : Option D} :
    ∃ qs : List Rat, qs.length = h ∧ (∀ q ∈ qs, Bq q) ∧ compF (putT (.nm 15)) (fun _ => .ok true) (fun η1 => d189e3.ev m η1) [a, b, c, some (.lst (l.map .int)), d, e, f, g, i, j, k, o, p, none, none, none, none, none] (rngD 0 h) = .ok (qs.map fun q => bx (pn q)) := by
  obtain ⟨ds, h1, h2, h3⟩ := compF_ex (put := putT (.nm 15)) (elt := fun η1 => d189e3.ev m η1) (η := [a, b, c, some (.lst (l.map .int)), d, e, f, g, i, j, k, o, p, none, none, none, none, none]) (P := fun d => ∃ q, Bq q ∧ d = bx (pn q)) (items := rngD 0 h) fun x hx => by
    obtain ⟨n, hi, rfl⟩ := rng_mem hx
    rw [Int.zero_add]
    have e1 : ixD (.lst (l.map .int)) (.int (10 + (n : Int))) = .ok (.val (.int l[10 + n])) := ixl_plus (i := 10) (by omega)
    generalize l[10 + n] = v at e1
    have r1 : binD .mod (.int v) (.int 5) = .ok (.val (.int (v % 5))) := mod_ev (by decide)
    have b2 : Bt 3 2 := by decide
    have e2 := h27 (v % 5) 2 (by omega) (b2.mono (by decide))
    refine ⟨[a, b, c, some (.lst (l.map .int)), d, e, f, g, i, j, k, o, p, none, none, some (.int n), none, none], rfl, _, ⟨_, bq_of (v % 5) (by omega) (by omega), rfl⟩, ?_⟩
    have g02 : ∀ b : Bd, PF.grd (2 ≤ SZ) (.ok b) = .ok b := fun b => if_pos (by unfold SZ; decide)
    unfold d189e3
    simp_all! [e1, r1, e2, g02]
    rfl
  rw [rng_len] at h1
  obtain ⟨qs, g1, rfl⟩ := bqs_of h2
  rw [List.length_map] at h1
  exact ⟨qs, h1, g1, h3⟩
theorem sl4 {l : List Int} (hl : l.length = 12) : slD (.lst (l.map .int)) none (some 4) = .ok (.own ((l.take 4).map .int)) := by
  show R.ok (Bd.own (cutD _ _ _)) = _
  match l, hl with
  | [a, b, c, d, e, f, g, h, i, j, k, m], _ => rfl
theorem sl45 {l : List Int} (hl : l.length = 12) : slD (.lst (l.map .int)) (some 4) (some 5) = .ok (.own (((l.drop 4).take 1).map .int)) := by
  show R.ok (Bd.own (cutD _ _ _)) = _
  match l, hl with
  | [a, b, c, d, e, f, g, h, i, j, k, m], _ => rfl
def sev : Rat := ⟨1, 7, by decide, by decide⟩
def thr : Rat := ⟨3, 2, by decide, by decide⟩
def mone : Rat := ⟨-1, 1, by decide, by decide⟩
end PF

end

section
set_option linter.all false
set_option maxRecDepth 100000
/-! M21: the law of k13, statement by statement (printed by gen21.py). -/
namespace PF
open PySem L2
theorem exs_nx {m : Nat → List D → R Bd} {s : IS} {ss : List IS} {ρ ρ1 : SEnv} (h : IS.ex m s ρ = .ok ρ1 .nx) : exs m (s :: ss) ρ = exs m ss ρ1 := by
  rw [exs, h]
theorem exs_rt {m : Nat → List D → R Bd} {s : IS} {ss : List IS} {ρ ρ1 : SEnv} {b : Bd} (h : IS.ex m s ρ = .ok ρ1 (.rt b)) : exs m (s :: ss) ρ = .ok ρ1 (.rt b) := by
  rw [exs, h]
theorem g01 (b : Bd) : PF.grd (1 ≤ SZ) (.ok b) = .ok b := if_pos (by unfold SZ; decide)
theorem g02 (b : Bd) : PF.grd (2 ≤ SZ) (.ok b) = .ok b := if_pos (by unfold SZ; decide)
theorem g08 (b : Bd) : PF.grd (8 ≤ SZ) (.ok b) = .ok b := if_pos (by unfold SZ; decide)
theorem g00 (b : Bd) : PF.grd (0 ≤ SZ) (.ok b) = .ok b := if_pos (by unfold SZ; decide)
theorem nolsF : ∀ fs : List (List Rat), nols (fs.map rr) = true
  | [] => nols_nil
  | f :: fs => by rw [List.map_cons, nols_cons, nol_rr, nolsF fs]; rfl
theorem mulL {d : D} {n : Nat} (h : n ≤ 100) : binD .mul (.lst [d]) (.int (n : Int)) = .ok (.own (List.replicate n d)) := by
  show PF.grd _ _ = _
  rw [PF.grd, if_pos ⟨by unfold near; omega, by unfold SZ; simp; omega⟩, Int.toNat_natCast, repl_one]
theorem addT {xs ys : List D} (h : xs.length + ys.length ≤ 1000) : binD .add (.tup xs) (.tup ys) = .ok (.val (.tup (xs ++ ys))) := by
  show PF.grd _ _ = _
  rw [PF.grd, if_pos (Nat.le_trans h (by unfold SZ; decide))]
variable {m : Nat → List D → R Bd} {ns : List Int} {l : List Int} {h n : Nat} {fs : List (List Rat)} {goal qs : List Rat} {most q0 : Rat}
theorem st0 {a : Int} (e : m 26 [.scr ns, .int 0] = .ok (.val (.int a))) (e2 : a % 3 = (h : Int)) :
    IS.ex m (.set 1 (.bin .mod (.call 26 [.var 0, .con (.int 0)]) (.con (.int 3)))) [some (.val (.scr ns)), none, none, none, none, none, none, none, none, none, none, none, none, none, none, none, none, none] =
      .ok [some (.val (.scr ns)), some (.val (.int (h : Int))), none, none, none, none, none, none, none, none, none, none, none, none, none, none, none, none] .nx := by
  have r : binD .mod (.int a) (.int 3) = .ok (.val (.int (a % 3))) := mod_ev (by decide)
  rw [e2] at r
  simp_all! [e, r]
theorem st1 {a : Int} (e : m 26 [.scr ns, .int 1] = .ok (.val (.int a))) (e2 : 1 + a % 4 = (n : Int)) :
    IS.ex m (.set 2 (.bin .add (.con (.int 1)) (.bin .mod (.call 26 [.var 0, .con (.int 1)]) (.con (.int 4))))) [some (.val (.scr ns)), some (.val (.int (h : Int))), none, none, none, none, none, none, none, none, none, none, none, none, none, none, none, none] =
      .ok [some (.val (.scr ns)), some (.val (.int (h : Int))), some (.val (.int (n : Int))), none, none, none, none, none, none, none, none, none, none, none, none, none, none, none] .nx := by
  have r : binD .mod (.int a) (.int 4) = .ok (.val (.int (a % 4))) := mod_ev (by decide)
  simp_all! [e, r, e2]
theorem st2 (e : m 31 [.scr ns, .int 2, .int 12] = .ok (.own (l.map .int))) :
    IS.ex m (.set 3 (.call 31 [.var 0, .con (.int 2), .con (.int 12)])) [some (.val (.scr ns)), some (.val (.int (h : Int))), some (.val (.int (n : Int))), none, none, none, none, none, none, none, none, none, none, none, none, none, none, none] =
      .ok [some (.val (.scr ns)), some (.val (.int (h : Int))), some (.val (.int (n : Int))), some (.own (l.map .int)), none, none, none, none, none, none, none, none, none, none, none, none, none, none] .nx := by
  simp_all! [e]
theorem st3 (hl : l.length = 12) (e : m 185 [.lst ((l.take 4).map .int), .int (h : Int), .int (n : Int)] = .ok (.val (.tup (fs.map rr)))) :
    IS.ex m (.set 4 (.call 185 [.sl (.var 3) none (some (.con (.int 4))), .var 1, .var 2])) [some (.val (.scr ns)), some (.val (.int (h : Int))), some (.val (.int (n : Int))), some (.own (l.map .int)), none, none, none, none, none, none, none, none, none, none, none, none, none, none] =
      .ok [some (.val (.scr ns)), some (.val (.int (h : Int))), some (.val (.int (n : Int))), some (.own (l.map .int)), some (.val (.tup (fs.map rr))), none, none, none, none, none, none, none, none, none, none, none, none, none] .nx := by
  have e1 := sl4 hl
  simp_all! [e, e1, nol_tup, nolsF]
theorem st4 (hl : l.length = 12) (e : m 185 [.lst (((l.drop 4).take 1).map .int), .int (h : Int), .int 1] = .ok (.val (.tup ([goal].map rr)))) :
    IS.ex m (.set 5 (.ix (.call 185 [.sl (.var 3) (some (.con (.int 4))) (some (.con (.int 5))), .var 1, .con (.int 1)]) (.con (.int 0)))) [some (.val (.scr ns)), some (.val (.int (h : Int))), some (.val (.int (n : Int))), some (.own (l.map .int)), some (.val (.tup (fs.map rr))), none, none, none, none, none, none, none, none, none, none, none, none, none] =
      .ok [some (.val (.scr ns)), some (.val (.int (h : Int))), some (.val (.int (n : Int))), some (.own (l.map .int)), some (.val (.tup (fs.map rr))), some (.val (rr goal)), none, none, none, none, none, none, none, none, none, none, none, none] .nx := by
  have e1 := sl45 hl
  have e2 : ixD (.tup [rr goal]) (.int 0) = .ok (.val (rr goal)) := rfl
  rw [List.map_cons, List.map_nil] at e
  simp_all! [e, e1, e2, nol_rr]
theorem st5 {a : Int} (e1 : ixD (.lst (l.map .int)) (.int 5) = .ok (.val (.int a))) (e : m 184 [.int a] = .ok (.val (rp most))) :
    IS.ex m (.set 6 (.call 184 [.ix (.var 3) (.con (.int 5))])) [some (.val (.scr ns)), some (.val (.int (h : Int))), some (.val (.int (n : Int))), some (.own (l.map .int)), some (.val (.tup (fs.map rr))), some (.val (rr goal)), none, none, none, none, none, none, none, none, none, none, none, none] =
      .ok [some (.val (.scr ns)), some (.val (.int (h : Int))), some (.val (.int (n : Int))), some (.own (l.map .int)), some (.val (.tup (fs.map rr))), some (.val (rr goal)), some (.val (rp most)), none, none, none, none, none, none, none, none, none, none, none] .nx := by
  simp_all! [e, e1, nol_rp]
theorem st6 (h27 : sLow m) (hn : n ≤ 4) (hq : qs.length = n) (e : compF (putT (.nm 15)) (fun _ => .ok true) (fun η1 => d189e0.ev m η1) [some (.scr ns), some (.int (h : Int)), some (.int (n : Int)), some (.lst (l.map .int)), some (.tup (fs.map rr)), some (rr goal), some (rp most), none, none, none, none, none, none, none, none, none, none, none] (rngD 0 n) = .ok (qs.map rp)) :
    IS.ex m (.set 7 (.blt .tuple [.comp (d189e0) (.nm 15) (.rng1 (.var 2)) [15] none])) [some (.val (.scr ns)), some (.val (.int (h : Int))), some (.val (.int (n : Int))), some (.own (l.map .int)), some (.val (.tup (fs.map rr))), some (.val (rr goal)), some (.val (rp most)), none, none, none, none, none, none, none, none, none, none, none] =
      .ok [some (.val (.scr ns)), some (.val (.int (h : Int))), some (.val (.int (n : Int))), some (.own (l.map .int)), some (.val (.tup (fs.map rr))), some (.val (rr goal)), some (.val (rp most)), some (.val (rr qs)), none, none, none, none, none, none, none, none, none, none] .nx := by
  have hr : rng1F (.int (n : Int)) = .ok (rngD 0 n) := rng1F_nat (by omega)
  have em : d189e0.ment 3 = true := by decide +kernel
  have hz : qs.length ≤ 1000 := by omega
  generalize rr goal = G at *
  simp_all! [hr, e, em, grd_sz hz, nols_rr, nol_tup, rr]
theorem st7 (hn : n ≤ 4) :
    IS.ex m (.set 8 (.blt .tuple [.bin .mul (.lst [.tup [.con (.int 1), .con (.int 1)]]) (.var 2)])) [some (.val (.scr ns)), some (.val (.int (h : Int))), some (.val (.int (n : Int))), some (.own (l.map .int)), some (.val (.tup (fs.map rr))), some (.val (rr goal)), some (.val (rp most)), some (.val (rr qs)), none, none, none, none, none, none, none, none, none, none] =
      .ok [some (.val (.scr ns)), some (.val (.int (h : Int))), some (.val (.int (n : Int))), some (.own (l.map .int)), some (.val (.tup (fs.map rr))), some (.val (rr goal)), some (.val (rp most)), some (.val (rr qs)), some (.val (rr (List.replicate n 1))), none, none, none, none, none, none, none, none, none] .nx := by
  have e := mulL (d := .tup [.int 1, .int 1]) (n := n) (by omega)
  simp_all! [g01, g02, e, rr, List.map_replicate, rp_one]
theorem it8 (hn : n ≤ 4) (hq : qs.length ≤ 4) (hq0 : qs ≠ []) : (IIt.ev m (.seq (.lst [.var 7, .var 8, .blt .tuple [.bin .mul (.lst [.tup [.con (.int 0), .con (.int 1)]]) (.var 2)], .sl (.var 7) (some (.con (.int 1))) none, .bin .add (.var 7) (.tup [.tup [.con (.int 1), .con (.int 1)]]), .con .non, .con (.int 7), .bin .add (.tup [.tup [.neg (.con (.int 1)), .con (.int 1)]]) (.sl (.var 7) (some (.con (.int 1))) none)])) (mask (IIt.ment (.seq (.lst [.var 7, .var 8, .blt .tuple [.bin .mul (.lst [.tup [.con (.int 0), .con (.int 1)]]) (.var 2)], .sl (.var 7) (some (.con (.int 1))) none, .bin .add (.var 7) (.tup [.tup [.con (.int 1), .con (.int 1)]]), .con .non, .con (.int 7), .bin .add (.tup [.tup [.neg (.con (.int 1)), .con (.int 1)]]) (.sl (.var 7) (some (.con (.int 1))) none)]))) 0 [some (.val (.scr ns)), some (.val (.int (h : Int))), some (.val (.int (n : Int))), some (.own (l.map .int)), some (.val (.tup (fs.map rr))), some (.val (rr goal)), some (.val (rp most)), some (.val (rr qs)), some (.val (rr (List.replicate n 1))), none, none, none, none, none, none, none, none, none])) = .ok [rr qs, rr (List.replicate n 1), rr (List.replicate n 0), rr qs.tail, rr (qs ++ [1]), .non, .int 7, rr (mone :: qs.tail)] := by
  obtain ⟨q, qs, rfl⟩ := List.exists_cons_of_ne_nil hq0
  have e1 := mulL (d := .tup [.int 0, .int 1]) (n := n) (by omega)
  have e2 : slD (rr (q :: qs)) (some 1) none = .ok (.val (.tup (qs.map rp))) := sl_tail
  have e3 : binD .add (rr (q :: qs)) (.tup [.tup [.int 1, .int 1]]) = .ok (.val (.tup ((q :: qs).map rp ++ [.tup [.int 1, .int 1]]))) := addT (by simp at hq ⊢; omega)
  have e4 : binD .add (.tup [.tup [.int (-1), .int 1]]) (.tup (qs.map rp)) = .ok (.val (.tup ([.tup [.int (-1), .int 1]] ++ qs.map rp))) := addT (by simp at hq ⊢; omega)
  have em : rp mone = .tup [.int (-1), .int 1] := rfl
  have en : negD (.int 1) = .ok (.val (.int (-1))) := rfl
  generalize hR : rr (q :: qs) = R0 at *
  simp_all! [g01, g02, g08, e1, e2, e3, e4, en, List.map_append, List.map_replicate, List.tail_cons]
  subst hR
  simp only [rr, List.map_append, List.map_cons, List.map_nil, List.map_replicate, rp_one, rp_zero, em, List.tail_cons, List.cons_append, List.nil_append]
theorem st8 {F Fl : D} (hF : F = .tup (fs.map rr)) (S : Sh m F Fl fs h goal) (hm : Sz 1000 most) (hn : n ≤ 4) (hq : qs.length = n) (hq0 : qs ≠ []) (hs : SzL 10 qs) :
    ∃ t9 : D, IS.ex m (.for_ (.nm 9) (.seq (.lst [.var 7, .var 8, .blt .tuple [.bin .mul (.lst [.tup [.con (.int 0), .con (.int 1)]]) (.var 2)], .sl (.var 7) (some (.con (.int 1))) none, .bin .add (.var 7) (.tup [.tup [.con (.int 1), .con (.int 1)]]), .con .non, .con (.int 7), .bin .add (.tup [.tup [.neg (.con (.int 1)), .con (.int 1)]]) (.sl (.var 7) (some (.con (.int 1))) none)])) d189b1) [some (.val (.scr ns)), some (.val (.int (h : Int))), some (.val (.int (n : Int))), some (.own (l.map .int)), some (.val (.tup (fs.map rr))), some (.val (rr goal)), some (.val (rp most)), some (.val (rr qs)), some (.val (rr (List.replicate n 1))), none, none, none, none, none, none, none, none, none] = .ok [some (.val (.scr ns)), some (.val (.int (h : Int))), some (.val (.int (n : Int))), some (.own (l.map .int)), some (.val (.tup (fs.map rr))), some (.val (rr goal)), some (.val (rp most)), some (.val (rr qs)), some (.val (rr (List.replicate n 1))), some (.val t9), none, none, none, none, none, none, none, none] .nx := by
  subst hF
  have hs2 : SzL 20 qs := fun q hq => (hs q hq).mono (by decide)
  have hs3 : SzL 20 qs.tail := fun q hq => hs2 q (List.mem_of_mem_tail hq)
  have one : Sz 20 1 := Sz.one (by decide)
  have zer : Sz 20 0 := Sz.zero (by decide)
  have mon : Sz 20 mone := ⟨by decide, by decide⟩
  have it := it8 (m := m) (ns := ns) (l := l) (h := h) (n := n) (fs := fs) (goal := goal) (qs := qs) (most := most) hn (by omega) hq0
  have htr : ∀ x ∈ [rr qs, rr (List.replicate n 1), rr (List.replicate n 0), rr qs.tail, rr (qs ++ [1]), .non, .int 7, rr (mone :: qs.tail)], ∃ o, Tr x o := by
    intro x hx
    simp only [List.mem_cons, List.not_mem_nil, or_false] at hx
    rcases hx with rfl | rfl | rfl | rfl | rfl | rfl | rfl | rfl
    · exact ⟨_, .row _ hs2 (by omega)⟩
    · exact ⟨_, .row _ (fun q hq => by rw [(List.mem_replicate.mp hq).2]; exact one) (by simp; omega)⟩
    · exact ⟨_, .row _ (fun q hq => by rw [(List.mem_replicate.mp hq).2]; exact zer) (by simp; omega)⟩
    · exact ⟨_, .row _ hs3 (by simp; omega)⟩
    · refine ⟨_, .row _ (fun q hq => ?_) (by simp; omega)⟩
      rcases List.mem_append.mp hq with hq | hq
      · exact hs2 q hq
      · rw [List.mem_singleton.mp hq]; exact one
    · exact ⟨_, .non⟩
    · exact ⟨_, .int 7⟩
    · refine ⟨_, .row _ (fun q hq => ?_) (by simp; omega)⟩
      rcases List.mem_cons.mp hq with rfl | hq
      · exact mon
      · exact hs3 q hq
  have hne : [rr qs, rr (List.replicate n 1), rr (List.replicate n 0), rr qs.tail, rr (qs ++ [1]), .non, .int 7, rr (mone :: qs.tail)] ≠ [] := List.cons_ne_nil _ _
  generalize [rr qs, rr (List.replicate n 1), rr (List.replicate n 0), rr qs.tail, rr (qs ++ [1]), .non, .int 7, rr (mone :: qs.tail)] = items at it htr hne
  obtain ⟨ρ', e, t, ht, rfl⟩ := loopF_inv (put := putS (.nm 9)) (body := fun ρ1 => exs m d189b1 ρ1) (items := items) (done := []) (I := fun done ρ => ∃ t : Option Bd, (done = [] ∨ ∃ y, t = some (.val y)) ∧ ρ = [some (.val (.scr ns)), some (.val (.int (h : Int))), some (.val (.int (n : Int))), some (.own (l.map .int)), some (.val (.tup (fs.map rr))), some (.val (rr goal)), some (.val (rp most)), some (.val (rr qs)), some (.val (rr (List.replicate n 1))), t, none, none, none, none, none, none, none, none]) (ρ := [some (.val (.scr ns)), some (.val (.int (h : Int))), some (.val (.int (n : Int))), some (.own (l.map .int)), some (.val (.tup (fs.map rr))), some (.val (rr goal)), some (.val (rp most)), some (.val (rr qs)), some (.val (rr (List.replicate n 1))), none, none, none, none, none, none, none, none, none]) ⟨none, .inl rfl, rfl⟩ (fun d1 x r ed _ ρ ⟨t, _, hρ⟩ => by
    subst hρ
    rw [List.nil_append] at ed
    obtain ⟨o, ho⟩ := htr x (by rw [ed]; simp)
    have b := b1_body S (v0 := .scr ns) (v2 := .int n) (v7 := rr qs) (v8 := rr (List.replicate n 1)) (l3 := l.map .int) hm ho
    exact ⟨_, _, rfl, .inl b, some (.val x), .inr ⟨_, rfl⟩, rfl⟩)
  rcases ht with h0 | ⟨y, rfl⟩
  · exact absurd h0 hne
  · refine ⟨y, ?_⟩
    conv => lhs; unfold IS.ex
    rw [it]
    dsimp only
    exact e
variable {t9 : D} {W0 : Rat} {W : List Rat} {g0 : Rat} {gs bqs : List Rat}
theorem st9 (e : m 186 [.tup (fs.map rr), rr (List.replicate n 1), .int (h : Int)] = .ok (.own ((W0 :: W).map rp))) :
    IS.ex m (.set 10 (.call 186 [.var 4, .var 8, .var 1])) [some (.val (.scr ns)), some (.val (.int (h : Int))), some (.val (.int (n : Int))), some (.own (l.map .int)), some (.val (.tup (fs.map rr))), some (.val (rr goal)), some (.val (rp most)), some (.val (rr qs)), some (.val (rr (List.replicate n 1))), some (.val t9), none, none, none, none, none, none, none, none] =
      .ok [some (.val (.scr ns)), some (.val (.int (h : Int))), some (.val (.int (n : Int))), some (.own (l.map .int)), some (.val (.tup (fs.map rr))), some (.val (rr goal)), some (.val (rp most)), some (.val (rr qs)), some (.val (rr (List.replicate n 1))), some (.val t9), some (.own ((W0 :: W).map rp)), none, none, none, none, none, none, none] .nx := by
  simp_all! [e]
theorem st10 (hg : goal = g0 :: gs) (e : m 28 [rp W0, rp g0] = .ok (.val (rp q0))) :
    IS.ex m (.set 10 (.call 28 [.ix (.var 10) (.con (.int 0)), .ix (.var 5) (.con (.int 0))])) [some (.val (.scr ns)), some (.val (.int (h : Int))), some (.val (.int (n : Int))), some (.own (l.map .int)), some (.val (.tup (fs.map rr))), some (.val (rr goal)), some (.val (rp most)), some (.val (rr qs)), some (.val (rr (List.replicate n 1))), some (.val t9), some (.own ((W0 :: W).map rp)), none, none, none, none, none, none, none] =
      .ok [some (.val (.scr ns)), some (.val (.int (h : Int))), some (.val (.int (n : Int))), some (.own (l.map .int)), some (.val (.tup (fs.map rr))), some (.val (rr goal)), some (.val (rp most)), some (.val (rr qs)), some (.val (rr (List.replicate n 1))), some (.val t9), some (.val (rp q0)), none, none, none, none, none, none, none] .nx := by
  have i0 : ixD (rr goal) (.int 0) = .ok (.val (rp g0)) := by rw [hg]; exact ix0_rr
  generalize rr goal = G at *
  simp_all! [e, i0, ixl0, nol_rp]
theorem st11 (e : m 29 [rp q0, rp sev] = .ok (.val (rp (q0 - sev)))) :
    IS.ex m (.set 11 (.call 29 [.var 10, .tup [.con (.int 1), .con (.int 7)]])) [some (.val (.scr ns)), some (.val (.int (h : Int))), some (.val (.int (n : Int))), some (.own (l.map .int)), some (.val (.tup (fs.map rr))), some (.val (rr goal)), some (.val (rp most)), some (.val (rr qs)), some (.val (rr (List.replicate n 1))), some (.val t9), some (.val (rp q0)), none, none, none, none, none, none, none] =
      .ok [some (.val (.scr ns)), some (.val (.int (h : Int))), some (.val (.int (n : Int))), some (.own (l.map .int)), some (.val (.tup (fs.map rr))), some (.val (rr goal)), some (.val (rp most)), some (.val (rr qs)), some (.val (rr (List.replicate n 1))), some (.val t9), some (.val (rp q0)), some (.val (rp (q0 - sev))), none, none, none, none, none, none] .nx := by
  have es : rp sev = .tup [.int 1, .int 7] := rfl
  rw [es] at e
  simp_all! [g02, e]
theorem st12 {F Fl : D} (hF : F = .tup (fs.map rr)) (S : Sh m F Fl fs h goal) (hn : n ≤ 4) (e : m 28 [rp q0, rp thr] = .ok (.val (rp (q0 + thr)))) (h1 : Sz 1000 q0) (h2 : Sz 1000 (q0 - sev)) (h3 : Sz 1000 (q0 + thr)) :
    ∃ t12 : D, IS.ex m (.for_ (.nm 12) (.seq (.lst [.var 10, .var 11, .call 28 [.var 10, .tup [.con (.int 3), .con (.int 2)]]])) d189b2) [some (.val (.scr ns)), some (.val (.int (h : Int))), some (.val (.int (n : Int))), some (.own (l.map .int)), some (.val (.tup (fs.map rr))), some (.val (rr goal)), some (.val (rp most)), some (.val (rr qs)), some (.val (rr (List.replicate n 1))), some (.val t9), some (.val (rp q0)), some (.val (rp (q0 - sev))), none, none, none, none, none, none] = .ok [some (.val (.scr ns)), some (.val (.int (h : Int))), some (.val (.int (n : Int))), some (.own (l.map .int)), some (.val (.tup (fs.map rr))), some (.val (rr goal)), some (.val (rp most)), some (.val (rr qs)), some (.val (rr (List.replicate n 1))), some (.val t9), some (.val (rp q0)), some (.val (rp (q0 - sev))), some (.val t12), none, none, none, none, none] .nx := by
  subst hF
  have es : rp thr = .tup [.int 3, .int 2] := rfl
  rw [es] at e
  have tr : Tr (rr (List.replicate n 1)) (some (List.replicate n 1)) := .row _ (fun q hq => by rw [(List.mem_replicate.mp hq).2]; exact Sz.one (by decide)) (by simp; omega)
  have b := fun (x : Rat) (hx : Sz 1000 x) => b2_body S (v0 := .scr ns) (v2 := .int n) (v6 := rp most) (v7 := rr qs) (v9 := t9) (v10 := rp q0) (v11 := rp (q0 - sev)) (l3 := l.map .int) hx tr
  refine ⟨rp (q0 + thr), ?_⟩
  have g03 : ∀ b : Bd, PF.grd (3 ≤ SZ) (.ok b) = .ok b := fun b => if_pos (by unfold SZ; decide)
  have it : IIt.ev m (.seq (.lst [.var 10, .var 11, .call 28 [.var 10, .tup [.con (.int 3), .con (.int 2)]]])) (mask (IIt.ment (.seq (.lst [.var 10, .var 11, .call 28 [.var 10, .tup [.con (.int 3), .con (.int 2)]]]))) 0 [some (.val (.scr ns)), some (.val (.int (h : Int))), some (.val (.int (n : Int))), some (.own (l.map .int)), some (.val (.tup (fs.map rr))), some (.val (rr goal)), some (.val (rp most)), some (.val (rr qs)), some (.val (rr (List.replicate n 1))), some (.val t9), some (.val (rp q0)), some (.val (rp (q0 - sev))), none, none, none, none, none, none]) = .ok [rp q0, rp (q0 - sev), rp (q0 + thr)] := by
    simp_all! [g02, g03, e]
  conv => lhs; unfold IS.ex
  rw [it]
  dsimp only
  have u : ∀ ρ, loopF (putS (.nm 12)) (fun ρ1 => exs m d189b2 ρ1) [] ρ = .ok ρ .nx := fun _ => rfl
  have lc : ∀ (x : D) (r : List D) (ρ ρ1 ρ2 : SEnv), putS (.nm 12) x ρ = some ρ1 → exs m d189b2 ρ1 = .ok ρ2 .nx → loopF (putS (.nm 12)) (fun ρ1 => exs m d189b2 ρ1) (x :: r) ρ = loopF (putS (.nm 12)) (fun ρ1 => exs m d189b2 ρ1) r ρ2 := by
    intro x r ρ ρ1 ρ2 k1 k2
    conv => lhs; unfold loopF
    rw [k1]
    dsimp only
    rw [k2]
  have l1 := lc (rp q0) [rp (q0 - sev), rp (q0 + thr)] [some (.val (.scr ns)), some (.val (.int (h : Int))), some (.val (.int (n : Int))), some (.own (l.map .int)), some (.val (.tup (fs.map rr))), some (.val (rr goal)), some (.val (rp most)), some (.val (rr qs)), some (.val (rr (List.replicate n 1))), some (.val t9), some (.val (rp q0)), some (.val (rp (q0 - sev))), none, none, none, none, none, none] _ _ rfl (b q0 h1)
  have l2 := lc (rp (q0 - sev)) [rp (q0 + thr)] [some (.val (.scr ns)), some (.val (.int (h : Int))), some (.val (.int (n : Int))), some (.own (l.map .int)), some (.val (.tup (fs.map rr))), some (.val (rr goal)), some (.val (rp most)), some (.val (rr qs)), some (.val (rr (List.replicate n 1))), some (.val t9), some (.val (rp q0)), some (.val (rp (q0 - sev))), some (.val (rp q0)), none, none, none, none, none] _ _ rfl (b _ h2)
  have l3 := lc (rp (q0 + thr)) [] [some (.val (.scr ns)), some (.val (.int (h : Int))), some (.val (.int (n : Int))), some (.own (l.map .int)), some (.val (.tup (fs.map rr))), some (.val (rr goal)), some (.val (rp most)), some (.val (rr qs)), some (.val (rr (List.replicate n 1))), some (.val t9), some (.val (rp q0)), some (.val (rp (q0 - sev))), some (.val (rp (q0 - sev))), none, none, none, none, none] _ _ rfl (b _ h3)
  exact l1.trans (l2.trans (l3.trans (u _)))
variable {t12 : D}
theorem st13 (hh : h ≤ 2) (hb : bqs.length = h) (e : compF (putT (.nm 15)) (fun _ => .ok true) (fun η1 => d189e3.ev m η1) [some (.scr ns), some (.int (h : Int)), some (.int (n : Int)), some (.lst (l.map .int)), some (.tup (fs.map rr)), some (rr goal), some (rp most), some (rr qs), some (rr (List.replicate n 1)), some t9, some (rp q0), some (rp (q0 - sev)), some t12, none, none, none, none, none] (rngD 0 h) = .ok (bqs.map fun q => bx (pn q))) :
    IS.ex m (.set 13 (.blt .tuple [.comp (d189e3) (.nm 15) (.rng1 (.var 1)) [15] none])) [some (.val (.scr ns)), some (.val (.int (h : Int))), some (.val (.int (n : Int))), some (.own (l.map .int)), some (.val (.tup (fs.map rr))), some (.val (rr goal)), some (.val (rp most)), some (.val (rr qs)), some (.val (rr (List.replicate n 1))), some (.val t9), some (.val (rp q0)), some (.val (rp (q0 - sev))), some (.val t12), none, none, none, none, none] =
      .ok [some (.val (.scr ns)), some (.val (.int (h : Int))), some (.val (.int (n : Int))), some (.own (l.map .int)), some (.val (.tup (fs.map rr))), some (.val (rr goal)), some (.val (rp most)), some (.val (rr qs)), some (.val (rr (List.replicate n 1))), some (.val t9), some (.val (rp q0)), some (.val (rp (q0 - sev))), some (.val t12), some (.val (.tup (bqs.map fun q => bx (pn q)))), none, none, none, none] .nx := by
  have hr : rng1F (.int (h : Int)) = .ok (rngD 0 h) := rng1F_nat (by omega)
  have em : d189e3.ment 3 = true := by decide +kernel
  have hz : (bqs.map fun q => bx (pn q)).length ≤ 1000 := by rw [List.length_map]; omega
  have nb : nols (bqs.map fun q => bx (pn q)) = true := by
    clear e hz hb
    induction bqs with
    | nil => exact nols_nil
    | cons q r ih => rw [List.map_cons, nols_cons, ih]; unfold bx; rw [nol_rr]; rfl
  generalize (bqs.map fun q => bx (pn q)) = B at *
  simp_all! [hr, e, em, grd_sz hz, nol_tup, nb]
theorem st14  :
    IS.ex m (.set 14 (.lst [])) [some (.val (.scr ns)), some (.val (.int (h : Int))), some (.val (.int (n : Int))), some (.own (l.map .int)), some (.val (.tup (fs.map rr))), some (.val (rr goal)), some (.val (rp most)), some (.val (rr qs)), some (.val (rr (List.replicate n 1))), some (.val t9), some (.val (rp q0)), some (.val (rp (q0 - sev))), some (.val t12), some (.val (.tup (bqs.map fun q => bx (pn q)))), none, none, none, none] =
      .ok [some (.val (.scr ns)), some (.val (.int (h : Int))), some (.val (.int (n : Int))), some (.own (l.map .int)), some (.val (.tup (fs.map rr))), some (.val (rr goal)), some (.val (rp most)), some (.val (rr qs)), some (.val (rr (List.replicate n 1))), some (.val t9), some (.val (rp q0)), some (.val (rp (q0 - sev))), some (.val t12), some (.val (.tup (bqs.map fun q => bx (pn q)))), some (.own []), none, none, none] .nx := by
  simp_all! [g00]
theorem st15 (h29 : sLMinus m) (hh : h ≤ 2) (hb : bqs.length = h) (hq : ∀ q ∈ bqs, Bq q) :
    ∃ t15 t16 : Option Bd, ((t15 = none ∧ t16 = none) ∨ ∃ a b, t15 = some (.val a) ∧ t16 = some (.own b)) ∧ IS.ex m (.for_ (.nm 15) (.rng1 (.var 1)) d189b5) [some (.val (.scr ns)), some (.val (.int (h : Int))), some (.val (.int (n : Int))), some (.own (l.map .int)), some (.val (.tup (fs.map rr))), some (.val (rr goal)), some (.val (rp most)), some (.val (rr qs)), some (.val (rr (List.replicate n 1))), some (.val t9), some (.val (rp q0)), some (.val (rp (q0 - sev))), some (.val t12), some (.val (.tup (bqs.map fun q => bx (pn q)))), some (.own []), none, none, none] = .ok [some (.val (.scr ns)), some (.val (.int (h : Int))), some (.val (.int (n : Int))), some (.own (l.map .int)), some (.val (.tup (fs.map rr))), some (.val (rr goal)), some (.val (rp most)), some (.val (rr qs)), some (.val (rr (List.replicate n 1))), some (.val t9), some (.val (rp q0)), some (.val (rp (q0 - sev))), some (.val t12), some (.val (.tup (bqs.map fun q => bx (pn q)))), some (.own (bfs (num 0 (bqs.map pn)) (h + 1))), t15, t16, none] .nx := by
  obtain ⟨t15, t16, k, e⟩ := due_loop (m := m) h29 hh hb hq (v0 := .scr ns) (v2 := .int n) (v4 := .tup (fs.map rr)) (v5 := rr goal) (v6 := rp most) (v7 := rr qs) (v8 := rr (List.replicate n 1)) (v9 := t9) (v10 := rp q0) (v11 := rp (q0 - sev)) (v12 := t12) (l3 := l.map .int)
  refine ⟨t15, t16, k, ?_⟩
  have hr : rng1F (.int (h : Int)) = .ok (rngD 0 h) := rng1F_nat (by omega)
  have it : IIt.ev m (.rng1 (.var 1)) (mask (IIt.ment (.rng1 (.var 1))) 0 [some (.val (.scr ns)), some (.val (.int (h : Int))), some (.val (.int (n : Int))), some (.own (l.map .int)), some (.val (.tup (fs.map rr))), some (.val (rr goal)), some (.val (rp most)), some (.val (rr qs)), some (.val (rr (List.replicate n 1))), some (.val t9), some (.val (rp q0)), some (.val (rp (q0 - sev))), some (.val t12), some (.val (.tup (bqs.map fun q => bx (pn q)))), some (.own []), none, none, none]) = .ok (rngD 0 h) := by simp_all! [hr]
  conv => lhs; unfold IS.ex
  rw [it]
  dsimp only
  exact e
theorem st16 {t15 t16 : Option Bd} (k : (t15 = none ∧ t16 = none) ∨ ∃ a b, t15 = some (.val a) ∧ t16 = some (.own b)) {bb : Bd} (e1 : m 25 [.tup (bqs.map fun q => bx (pn q))] = .ok bb) {B : D} (e0 : bb.d = B) {Z : List D} (e2 : m 173 [B] = .ok (.val (.tup Z))) (hZ : bfs (num 0 (bqs.map pn)) (h + 1) = Z) (e3 : m 24 [.tup Z, .tup Z] = .ok (.val (.bl true))) :
    ∃ ρ, IS.ex m (.ret (.call 24 [.call 173 [.call 25 [.var 13]], .blt .tuple [.var 14]])) [some (.val (.scr ns)), some (.val (.int (h : Int))), some (.val (.int (n : Int))), some (.own (l.map .int)), some (.val (.tup (fs.map rr))), some (.val (rr goal)), some (.val (rp most)), some (.val (rr qs)), some (.val (rr (List.replicate n 1))), some (.val t9), some (.val (rp q0)), some (.val (rp (q0 - sev))), some (.val t12), some (.val (.tup (bqs.map fun q => bx (pn q)))), some (.own (bfs (num 0 (bqs.map pn)) (h + 1))), t15, t16, none] = .ok ρ (.rt (.val (.bl true))) := by
  rw [hZ]
  generalize (bqs.map fun q => bx (pn q)) = X at *
  clear hZ
  cases bb with
  | own xs =>
    have e0 : D.lst xs = B := e0
    subst e0
    rcases k with ⟨rfl, rfl⟩ | ⟨a, b, rfl, rfl⟩ <;> (simp_all! [e1, e2, e3]; exact ⟨_, rfl⟩)
  | val y =>
    have e0 : y = B := e0
    subst e0
    rcases k with ⟨rfl, rfl⟩ | ⟨a, b, rfl, rfl⟩ <;> (simp_all! [e1, e2, e3]; exact ⟨_, rfl⟩)
end PF

end

section
set_option linter.all false
set_option maxRecDepth 100000
/-! M22: the law of k13 answers true, from its callees' specs. -/
namespace PF
open PySem L2
theorem gds_of : ∀ {xs : List D}, (∀ x ∈ xs, gd x = true) → gds xs = true
  | [], _ => by simp [gds]
  | x :: xs, h => by simp only [gds, Bool.and_eq_true]; exact ⟨h x List.mem_cons_self, gds_of fun y hy => h y (List.mem_cons_of_mem _ hy)⟩
theorem fitss_of {n : Nat} : ∀ {xs : List D}, (∀ x ∈ xs, fits n x = true) → fitss n xs = true
  | [], _ => by simp [fitss]
  | x :: xs, h => by simp only [fitss, Bool.and_eq_true]; exact ⟨h x List.mem_cons_self, fitss_of fun y hy => h y (List.mem_cons_of_mem _ hy)⟩
theorem gd_rp {q : Rat} : gd (rp q) = true := by unfold rp; simp [gd, gds]
theorem gd_rr {qs : List Rat} : gd (rr qs) = true := by
  unfold rr; rw [gd]
  exact gds_of fun x hx => by obtain ⟨q, _, rfl⟩ := List.mem_map.mp hx; exact gd_rp
theorem fits_rp {n : Nat} {q : Rat} : fits (n + 2) (rp q) = true := by unfold rp; simp [fits, fitss]
theorem fits_rr {n : Nat} {qs : List Rat} (h : qs.length ≤ 1000) : fits (n + 3) (rr qs) = true := by
  unfold rr; rw [fits, Bool.and_eq_true, decide_eq_true_eq, List.length_map]
  exact ⟨h, fitss_of fun x hx => by obtain ⟨q, _, rfl⟩ := List.mem_map.mp hx; exact fits_rp⟩
theorem tup_ok {n : Nat} {xs : List D} (hl : xs.length ≤ 1000) (h : ∀ x ∈ xs, ∃ qs : List Rat, x = rr qs ∧ qs.length ≤ 1000) : gd (.tup xs) = true ∧ fits (n + 4) (.tup xs) = true := by
  constructor
  · rw [gd]; exact gds_of fun x hx => by obtain ⟨qs, rfl, _⟩ := h x hx; exact gd_rr
  · rw [fits, Bool.and_eq_true, decide_eq_true_eq]
    exact ⟨hl, fitss_of fun x hx => by obtain ⟨qs, rfl, k⟩ := h x hx; exact fits_rr k⟩
theorem unit_len {a w : Nat} : (unit a w).length = w := by unfold unit; rw [List.length_map, List.length_range]
theorem bfs_rows {w : Nat} : ∀ {ts : List (Nat × Rat × Rat)}, ∀ d ∈ bfs ts w, ∃ qs : List Rat, d = rr qs ∧ qs.length ≤ w
  | [], d, hd => by simp [bfs] at hd
  | (p, a, b) :: r, d, hd => by
    unfold bfs bf at hd
    rcases List.mem_append.mp hd with hd | hd
    · simp only [List.mem_cons, List.not_mem_nil, or_false] at hd
      rcases hd with rfl | rfl
      · exact ⟨_, rfl, by rw [List.length_zipWith, unit_len]; omega⟩
      · exact ⟨_, rfl, by rw [List.length_zipWith, unit_len]; omega⟩
    · exact bfs_rows d hd
theorem bfs_len {w : Nat} : ∀ {ts : List (Nat × Rat × Rat)}, (bfs ts w).length = 2 * ts.length
  | [] => rfl
  | (p, a, b) :: r => by unfold bfs bf; rw [List.length_append, bfs_len]; simp; omega
end PF

end

section
set_option linter.all false
set_option maxRecDepth 100000
/-! M23: the law of k13 answers true, from its callees' specs. -/
namespace PF
open PySem L2
theorem law13_run {m : Nat → List D → R Bd} (hcell : sCell m) (hnum : ∀ ns : List Int, ∃ l : List Int, l.length = 12 ∧ m 31 [.scr ns, .int 2, .int 12] = .ok (.own (l.map .int)))
    (hforms : ∀ (ns : List Int) (h k : Nat), h ≤ 2 → k ≤ ns.length → k ≤ 100 → ∃ fs : List (List Rat), fs.length = k ∧ (∀ f ∈ fs, f.length = h + 1 ∧ SzL 10 f) ∧ m 185 [.lst (ns.map .int), .int h, .int k] = .ok (.val (.tup (fs.map rr))))
    (h184 : sSignedN m) (h27 : sLow m) (h28 : sLPlus m) (h29 : sLMinus m) (h186 : sLWeighed m)
    (hS : ∀ (fs : List (List Rat)) (h : Nat) (goal : List Rat), h ≤ 2 → (∀ f ∈ fs, f.length = h + 1 ∧ SzL 20 f) → fs.length ≤ 20 → fs ≠ [] → goal.length = h + 1 → SzL 20 goal → Sh m (.tup (fs.map rr)) (lsd (.tup (fs.map rr))) fs h goal)
    (h173 : sBoxSystem m) (h25 : ∀ x, gd x = true → fits 9 x = true → ∃ b, m 25 [x] = .ok b ∧ b.d = lsd x) (h24 : ∀ x, gd x = true → fits 9 x = true → m 24 [x, x] = .ok (.val (.bl true))) (ns : List Int) :
    d189.run m [.scr ns] = .ok (.val (.bl true)) := by
  obtain ⟨h, hh, eh⟩ : ∃ h : Nat, h ≤ 2 ∧ ns.getD 0 0 % 3 = (h : Int) := ⟨(ns.getD 0 0 % 3).toNat, by omega, by omega⟩
  obtain ⟨n, hn1, hn, en⟩ : ∃ n : Nat, 1 ≤ n ∧ n ≤ 4 ∧ 1 + ns.getD 1 0 % 4 = (n : Int) := ⟨(1 + ns.getD 1 0 % 4).toNat, by omega, by omega, by omega⟩
  have c0 : m 26 [.scr ns, .int 0] = _ := hcell ns 0
  have c1 : m 26 [.scr ns, .int 1] = _ := hcell ns 1
  obtain ⟨l, hl, e31⟩ := hnum ns
  obtain ⟨fs, f1, f2, f3⟩ := hforms (l.take 4) h n hh (by rw [List.length_take]; omega) (by omega)
  obtain ⟨gf, g1, g2, g3⟩ := hforms ((l.drop 4).take 1) h 1 hh (by rw [List.length_take, List.length_drop]; omega) (by omega)
  obtain ⟨goal, rfl⟩ : ∃ goal, gf = [goal] := by
    match gf, g1 with
    | [goal], _ => exact ⟨goal, rfl⟩
  obtain ⟨k1, k2⟩ := g2 goal List.mem_cons_self
  obtain ⟨g0, gs, hgs⟩ : ∃ g0 gs, goal = g0 :: gs := by
    cases goal with
    | nil => simp at k1
    | cons a b => exact ⟨a, b, rfl⟩
  have i5 : ixD (.lst (l.map .int)) (.int 5) = .ok (.val (.int l[5])) := by
    have e := ixl_nat (xs := l.map .int) (i := 5) (by rw [List.length_map]; omega)
    rw [List.getElem_map] at e
    exact e
  obtain ⟨most, m1, m2⟩ := h184 l[5]
  have hm : Sz 1000 most := m1.mono (by decide)
  have f2' : ∀ f ∈ fs, f.length = h + 1 ∧ SzL 20 f := fun f hf => ⟨(f2 f hf).1, fun q hq => ((f2 f hf).2 q hq).mono (by decide)⟩
  have k2' : SzL 20 goal := fun q hq => (k2 q hq).mono (by decide)
  have S := hS fs h goal hh f2' (by omega) (by intro e; subst e; simp at f1; omega) k1 k2'
  obtain ⟨qs, q1, q2, q3⟩ := w_comp (m := m) h27 hl hn (a := some (.scr ns)) (b := some (.int (h : Int))) (c := some (.int (n : Int))) (d := some (.tup (fs.map rr))) (e := some (rr goal)) (f := some (rp most))
  have ones : SzL 20 (List.replicate n (1 : Rat)) := fun q hq => by rw [(List.mem_replicate.mp hq).2]; exact Sz.one (by decide)
  have e186 := h186 fs (List.replicate n 1) h (by omega) f2' ones (by rw [List.length_replicate]; omega) (by omega)
  obtain ⟨r1, r2⟩ := wsum_row f2' ones (by omega)
  generalize wsum (List.replicate (h + 1) 0) (fs.zip (List.replicate n 1)) = WW at e186 r1 r2
  obtain ⟨W0, W, rfl⟩ : ∃ W0 W, WW = W0 :: W := by
    cases WW with
    | nil => simp at r1
    | cons a b => exact ⟨a, b, rfl⟩
  have s1 : Sz 900 W0 := r2 W0 List.mem_cons_self
  have s2 : Sz 10 g0 := k2 g0 (by rw [hgs]; exact List.mem_cons_self)
  have s3 : Sz 911 (W0 + g0) := s1.add s2
  have z7 : Sz 10 sev := ⟨by decide, by decide⟩
  have z3 : Sz 10 thr := ⟨by decide, by decide⟩
  have e28 := h28 W0 g0 (s1.mono (by decide)) (s2.mono (by decide))
  have e29 := h29 (W0 + g0) sev (s3.mono (by decide)) (z7.mono (by decide))
  have e28' := h28 (W0 + g0) thr (s3.mono (by decide)) (z3.mono (by decide))
  have s4 : Sz 1000 (W0 + g0 - sev) := (s3.sub z7).mono (by decide)
  have s5 : Sz 1000 (W0 + g0 + thr) := (s3.add z3).mono (by decide)
  obtain ⟨t9, x8⟩ := st8 (m := m) (ns := ns) (l := l) rfl S hm hn q1 (by intro e; subst e; simp at q1; omega) q2
  obtain ⟨t12, x12⟩ := st12 (m := m) (ns := ns) (l := l) (qs := qs) (most := most) (t9 := t9) rfl S hn e28' (s3.mono (by decide)) s4 s5
  obtain ⟨bqs, b1, b2, b3⟩ := bx_comp (m := m) h27 hl hh (a := some (.scr ns)) (b := some (.int (h : Int))) (c := some (.int (n : Int))) (d := some (.tup (fs.map rr))) (e := some (rr goal)) (f := some (rp most)) (g := some (rr qs)) (i := some (rr (List.replicate n 1))) (j := some t9) (k := some (rp (W0 + g0))) (o := some (rp (W0 + g0 - sev))) (p := some t12)
  obtain ⟨t15, t16, kk, x15⟩ := st15 (m := m) (ns := ns) (l := l) (fs := fs) (goal := goal) (qs := qs) (most := most) (n := n) (q0 := W0 + g0) (t9 := t9) (t12 := t12) h29 hh b1 b2
  have hX := tup_ok (n := 5) (xs := bqs.map fun q => bx (pn q)) (by rw [List.length_map]; omega) fun x hx => by
    obtain ⟨q, _, rfl⟩ := List.mem_map.mp hx
    exact ⟨_, rfl, by show 2 ≤ 1000; decide⟩
  obtain ⟨bb, e25, ebb⟩ := h25 _ hX.1 hX.2
  have eB : lsd (.tup (bqs.map fun q => bx (pn q))) = .lst (bqs.map fun q => lsd (bx (q, nine))) := by
    rw [lsd, lsds_map, List.map_map]; rfl
  have e173 := h173 (.lst (bqs.map fun q => lsd (bx (q, nine)))) _ _ (.inr rfl) (Ps.mk b2) (by rw [List.length_map]; omega)
  rw [List.length_map, b1] at e173
  have hZ := tup_ok (n := 5) (xs := bfs (num 0 (bqs.map pn)) (h + 1)) (by rw [bfs_len, num_len, List.length_map]; omega) fun x hx => by
    obtain ⟨q, e, k⟩ := bfs_rows x hx
    exact ⟨q, e, by omega⟩
  obtain ⟨ρ, x16⟩ := st16 (m := m) (ns := ns) (l := l) (fs := fs) (goal := goal) (qs := qs) (most := most) (n := n) (q0 := W0 + g0) (t9 := t9) (t12 := t12) (h := h) kk e25 (ebb.trans eB) e173 rfl (h24 _ hZ.1 hZ.2)
  have body : exs m d189.body [some (.val (.scr ns)), none, none, none, none, none, none, none, none, none, none, none, none, none, none, none, none, none] = .ok ρ (.rt (.val (.bl true))) := by
    unfold d189
    refine (exs_nx (st0 c0 eh)).trans ?_
    refine (exs_nx (st1 c1 en)).trans ?_
    refine (exs_nx (st2 e31)).trans ?_
    refine (exs_nx (st3 hl f3)).trans ?_
    refine (exs_nx (st4 hl g3)).trans ?_
    refine (exs_nx (st5 i5 m2)).trans ?_
    refine (exs_nx (st6 h27 hn q1 q3)).trans ?_
    refine (exs_nx (st7 hn)).trans ?_
    refine (exs_nx x8).trans ?_
    refine (exs_nx (st9 e186)).trans ?_
    refine (exs_nx (st10 hgs e28)).trans ?_
    refine (exs_nx (st11 e29)).trans ?_
    refine (exs_nx x12).trans ?_
    refine (exs_nx (st13 hh b1 b3)).trans ?_
    refine (exs_nx st14).trans ?_
    refine (exs_nx x15).trans ?_
    exact exs_rt x16
  unfold IDef.run
  rw [if_pos (show [D.scr ns].length = d189.ar from rfl)]
  show (match exs m d189.body ([some (.val (.scr ns)), none, none, none, none, none, none, none, none, none, none, none, none, none, none, none, none, none] : SEnv) with | .ok _ .nx => R.ok (Bd.val .non) | .ok _ (.rt b) => .ok b | .exc c k _ => .exc c k | _ => .bad) = R.ok (Bd.val (D.bl true))
  rw [body]
end PF

end

section
set_option linter.all false
set_option maxRecDepth 100000
/-! M24: the levels of k13 joined. -/
namespace PF
open PySem L2
theorem at_ {defs : Nat → Option IDef} {j : Nat} {d : IDef} (h : defs j = some d) (n : Nat) (X : List D) : sem defs (n + 1) j X = d.run (sem defs n) X := by
  show (match defs j with | some d => d.run (sem defs n) X | none => .bad) = _
  rw [h]
structure K13 (defs : Nat → Option IDef) : Prop where
  e0 : defs 0 = some d0
  e1 : defs 1 = some d1
  e3 : defs 3 = some d3
  e4 : defs 4 = some d4
  e7 : defs 7 = some d7
  e8 : defs 8 = some d8
  e9 : defs 9 = some d9
  e15 : defs 15 = some d15
  e24 : defs 24 = some d24
  e25 : defs 25 = some d25
  e26 : defs 26 = some d26
  e27 : defs 27 = some d27
  e28 : defs 28 = some d28
  e29 : defs 29 = some d29
  e30 : defs 30 = some d30
  e31 : defs 31 = some d31
  e61 : defs 61 = some d61
  e62 : defs 62 = some d62
  e63 : defs 63 = some d63
  e64 : defs 64 = some d64
  e77 : defs 77 = some d77
  e99 : defs 99 = some d99
  e100 : defs 100 = some d100
  e101 : defs 101 = some d101
  e142 : defs 142 = some d142
  e156 : defs 156 = some d156
  e158 : defs 158 = some d158
  e172 : defs 172 = some d172
  e173 : defs 173 = some d173
  e174 : defs 174 = some d174
  e175 : defs 175 = some d175
  e176 : defs 176 = some d176
  e177 : defs 177 = some d177
  e178 : defs 178 = some d178
  e179 : defs 179 = some d179
  e180 : defs 180 = some d180
  e181 : defs 181 = some d181
  e182 : defs 182 = some d182
  e183 : defs 183 = some d183
  e184 : defs 184 = some d184
  e185 : defs 185 = some d185
  e186 : defs 186 = some d186
  e187 : defs 187 = some d187
  e188 : defs 188 = some d188
  e189 : defs 189 = some d189
variable {defs : Nat → Option IDef}
theorem vLow (H : K13 defs) (n : Nat) : sLow (sem defs (n + 1)) := fun a b hb hz => (at_ H.e27 n _).trans (low_run hb hz)
theorem vRatio (H : K13 defs) (n : Nat) : sRatio (sem defs (n + 1)) := fun a b hb hz => (at_ H.e61 n _).trans (ratio_run hb hz)
theorem vLess (H : K13 defs) (n : Nat) : sLess (sem defs (n + 1)) := fun p q hp hq => (at_ H.e0 n _).trans (less_run hp hq)
theorem vLLess (H : K13 defs) (n : Nat) : sLLess (sem defs (n + 1)) := fun p q hp hq => (at_ H.e77 n _).trans (lless_run hp hq)
theorem vIsInt (H : K13 defs) (n : Nat) : sIsInt (sem defs (n + 1)) := fun d h => (at_ H.e1 n _).trans (is_integer_run h)
theorem vIsRow (H : K13 defs) (n : Nat) : sIsRow (sem defs (n + 1)) := fun d h => (at_ H.e3 n _).trans (is_row_run h)
theorem vIsRowOf (H : K13 defs) (n : Nat) : sIsRowOf (sem defs (n + 1)) := fun d k h => (at_ H.e4 n _).trans (is_row_of_run h)
theorem vConst (H : K13 defs) (n : Nat) : sConst (sem defs (n + 1)) := fun c k h1 h2 => (at_ H.e142 n _).trans (constant_row_run h1 h2)
theorem vCell (H : K13 defs) (n : Nat) : sCell (sem defs (n + 1)) := fun ns i => (at_ H.e26 n _).trans cell_run
theorem vUnit (H : K13 defs) (n : Nat) : sUnit (sem defs (n + 1)) := fun a w hw => (at_ H.e156 n _).trans (unit_row_run hw)
theorem vLInt (H : K13 defs) (n : Nat) : sLInt (sem defs (n + 1)) := fun d h => (at_ H.e183 n _).trans (lint_run h)
theorem vPlus (H : K13 defs) (n : Nat) : sPlus (sem defs (n + 2)) := fun p q hp hq => (at_ H.e62 (n + 1) _).trans (plus_run (vRatio H n) hp hq)
theorem vMinus (H : K13 defs) (n : Nat) : sMinus (sem defs (n + 2)) := fun p q hp hq => (at_ H.e63 (n + 1) _).trans (minus_run (vRatio H n) hp hq)
theorem vTimes (H : K13 defs) (n : Nat) : sTimes (sem defs (n + 2)) := fun p q hp hq => (at_ H.e64 (n + 1) _).trans (times_run (vRatio H n) hp hq)
theorem vLPlus (H : K13 defs) (n : Nat) : sLPlus (sem defs (n + 2)) := fun p q hp hq => (at_ H.e28 (n + 1) _).trans (lplus_run (vLow H n) hp hq)
theorem vLMinus (H : K13 defs) (n : Nat) : sLMinus (sem defs (n + 2)) := fun p q hp hq => (at_ H.e29 (n + 1) _).trans (lminus_run (vLow H n) hp hq)
theorem vLTimes (H : K13 defs) (n : Nat) : sLTimes (sem defs (n + 2)) := fun p q hp hq => (at_ H.e30 (n + 1) _).trans (ltimes_run (vLow H n) hp hq)
theorem vSignedN (H : K13 defs) (n : Nat) : sSignedN (sem defs (n + 2)) := fun i => by
  obtain ⟨q, h1, h2⟩ := signedN_run (vLow H n) i
  exact ⟨q, h1, (at_ H.e184 (n + 1) _).trans h2⟩
theorem vIsW (H : K13 defs) (n : Nat) : sIsW (sem defs (n + 2)) := fun d o k t => (at_ H.e187 (n + 1) _).trans (isw_run (vLow H n) (vLInt H n) t k)
theorem vSigned (H : K13 defs) (n : Nat) : sSigned (sem defs (n + 2)) := fun d q hd => (at_ H.e7 (n + 1) _).trans (signed_run (vIsInt H n) (vIsRowOf H n) hd)
theorem vFraction (H : K13 defs) (n : Nat) : sFraction (sem defs (n + 3)) := fun d q hd => (at_ H.e8 (n + 2) _).trans (fraction_run (vSigned H n) hd)
theorem vFractions (H : K13 defs) (n : Nat) : sFractions (sem defs (n + 4)) := fun d ds qs k hd hq hz => (at_ H.e9 (n + 3) _).trans (fractions_run (vIsRowOf H (n + 2)) (vFraction H n) hd hq hz)
theorem vFractions0 (H : K13 defs) (n : Nat) : sFractions0 (sem defs (n + 2)) := fun d k hp hs => (at_ H.e9 (n + 1) _).trans (fractions0_run (vIsRowOf H n) hp hs)
theorem vRowPlus (H : K13 defs) (n : Nat) : sRowPlus (sem defs (n + 3)) := fun ps qs hp hq hz => (at_ H.e99 (n + 2) _).trans (row_plus_run (vPlus H n) hp hq hz)
theorem vRowMinus (H : K13 defs) (n : Nat) : sRowMinus (sem defs (n + 3)) := fun ps qs hp hq hz => (at_ H.e100 (n + 2) _).trans (row_minus_run (vMinus H n) hp hq hz)
theorem vRowTimes (H : K13 defs) (n : Nat) : sRowTimes (sem defs (n + 3)) := fun ps w hp hw hz => (at_ H.e101 (n + 2) _).trans (row_times_run (vTimes H n) hp hw hz)
theorem vWeighed (H : K13 defs) (n : Nat) : sWeighed (sem defs (n + 4)) := fun fs ws L hL hL2 hf hw hz => (at_ H.e177 (n + 3) _).trans (weighed_run (vRowPlus H n) (vRowTimes H n) (vConst H (n + 2)) hL hL2 hf hw hz)
theorem vRising (H : K13 defs) (n : Nat) : sRising (sem defs (n + 2)) := fun q qs hs hz => (at_ H.e178 (n + 1) _).trans (rising_run (vLess H n) hs hz)
theorem vNoneShown (H : K13 defs) (n : Nat) : sNoneShown (sem defs (n + 5)) := fun fs L d o hL hL2 hf hz t => (at_ H.e179 (n + 4) _).trans (none_shown_run (vLess H (n + 3)) (vFractions H n) (vFractions0 H (n + 2)) (vWeighed H n) (vRising H (n + 2)) hL hL2 hf hz t)
theorem vMostShown (H : K13 defs) (n : Nat) : sMostShown (sem defs (n + 5)) := fun fs L goal most d o hL hL2 hf hz hg hg2 hm t => (at_ H.e180 (n + 4) _).trans (most_shown_run (vLess H (n + 3)) (vFractions H n) (vFractions0 H (n + 2)) (vRowPlus H (n + 1)) (vWeighed H n) (vRising H (n + 2)) hL hL2 hf hz hg hg2 hm t)
theorem vForm (H : K13 defs) (n : Nat) : sForm (sem defs (n + 3)) := fun d ds qs hd hq h1 h11 => (at_ H.e158 (n + 2) _).trans (form_run (vIsRow H (n + 1)) (vSigned H n) hd hq h1 h11)
theorem vSystem (H : K13 defs) (n : Nat) : sSystem (sem defs (n + 4)) := fun x xs fs L hx hf h1 h11 hz => (at_ H.e174 (n + 3) _).trans (system_run (vIsRow H (n + 2)) (vForm H n) hx hf h1 h11 hz)
theorem vNeedSystem (H : K13 defs) (n : Nat) : sNeedSystem (sem defs (n + 5)) := fun x xs fs L hx hf h1 h11 hz hne => (at_ H.e175 (n + 4) _).trans (need_system_run (vSystem H n) hx hf h1 h11 hz hne)
theorem vNeedForm (H : K13 defs) (n : Nat) : sNeedForm (sem defs (n + 4)) := fun d ds qs k hd hq h1 h11 hk => (at_ H.e176 (n + 3) _).trans (need_form_run (vForm H n) hd hq h1 h11 hk)
theorem vLWeighed (H : K13 defs) (n : Nat) : sLWeighed (sem defs (n + 3)) := fun fs ws h hh hf hw hl hz => (at_ H.e186 (n + 2) _).trans (lweighed_run (vLPlus H n) (vLTimes H n) hh hf hw hl hz)
theorem vBoxShape (H : K13 defs) (n : Nat) : sBoxShape (sem defs (n + 5)) := fun x xs ps hx hp hz => (at_ H.e15 (n + 4) _).trans (box_shape_run (vLess H (n + 3)) (vIsRow H (n + 3)) (vFractions H n) hx hp hz)
theorem vBoxForms (H : K13 defs) (n : Nat) : sBoxForms (sem defs (n + 4)) := fun ps hs hz => (at_ H.e172 (n + 3) _).trans (box_forms_run (vRowMinus H n) (vConst H (n + 2)) (vUnit H (n + 2)) hs hz)
theorem vBoxSystem (H : K13 defs) (n : Nat) : sBoxSystem (sem defs (n + 6)) := fun x xs ps hx hp hz => (at_ H.e173 (n + 5) _).trans (box_system_run (vBoxShape H n) (vBoxForms H (n + 1)) hx hp hz)
end PF

end

section
set_option linter.all false
set_option maxRecDepth 100000
/-! M25: k13's law at level 30. -/
namespace PF
open PySem L2
variable {defs : Nat → Option IDef}
theorem vSh (H : K13 defs) {fs : List (List Rat)} {h : Nat} {goal : List Rat} (hh : h ≤ 2) (hf : ∀ f ∈ fs, f.length = h + 1 ∧ SzL 20 f) (hz : fs.length ≤ 20) (hne : fs ≠ []) (hg : goal.length = h + 1) (hg2 : SzL 20 goal) :
    Sh (sem defs 29) (.tup (fs.map rr)) (lsd (.tup (fs.map rr))) fs h goal := by
  have hw : ∀ f ∈ fs, f.length = h + 1 := fun f k => (hf f k).1
  have hs : ∀ f ∈ fs, SzL 20 f := fun f k => (hf f k).2
  have hl : lsd (.tup (fs.map rr)) = .lst ((fs.map rr).map lsd) := by rw [lsd, lsds_map]
  have ok := tup_ok (n := 5) (xs := fs.map rr) (by rw [List.length_map]; omega) fun x hx => by
    obtain ⟨f, k, rfl⟩ := List.mem_map.mp hx
    exact ⟨f, rfl, by have := hw f k; omega⟩
  refine ⟨?_, ?_, ?_, ?_, ?_, ?_⟩
  · intro d o t
    exact (at_ H.e181 28 _).trans (shows_none_run (vNeedSystem H 23) (vNoneShown H 23) (.inl rfl) (Fs.tup hw) (by omega) (by omega) hs hz hne t)
  · intro d o t
    exact (at_ H.e188 28 _).trans (lshows_none (vLWeighed H 25) (vIsW H 26) (by omega) hf hz t)
  · exact listed_all H.e25 9 29 _ (by decide) ok.1 ok.2
  · intro x most d o hx hm t
    rw [hl] at hx
    rcases hx with rfl | rfl
    · exact (at_ H.e182 28 _).trans (shows_most_run (vSigned H 26) (vNeedSystem H 23) (vNeedForm H 24) (vMostShown H 23) (.inl rfl) (Fs.tup hw) (by omega) (by omega) hs hz hne (g := rr goal) (gs := goal.map rp) (.inl rfl) (Qs.rps goal) hg hg2 (.inl rfl) hm t)
    · exact (at_ H.e182 28 _).trans (shows_most_run (vSigned H 26) (vNeedSystem H 23) (vNeedForm H 24) (vMostShown H 23) (.inr rfl) (Fs.lst hw) (by omega) (by omega) hs hz hne (g := rr goal) (gs := goal.map rp) (.inl rfl) (Qs.rps goal) hg hg2 (.inl rfl) hm t)
  · intro most d o hm t
    exact (at_ H.e188 28 _).trans (lshows_most (vLPlus H 26) (vLLess H 27) (vLWeighed H 25) (vIsW H 26) (by omega) hf hz hg hg2 hm t)
  · intro b
    exact same_all H.e24 1 29 (.bl b) (by decide) rfl rfl
theorem k13_math (H : K13 defs) (ns : List Int) : sem defs 30 189 [.scr ns] = .ok (.val (.bl true)) := by
  refine (at_ H.e189 29 _).trans (law13_run (vCell H 28) (fun ns => ?_) (fun ns h k hh hk hz => ?_) (vSignedN H 27) (vLow H 28) (vLPlus H 27) (vLMinus H 27) (vLWeighed H 26) (fun fs h goal hh hf hz hne hg hg2 => vSh H hh hf hz hne hg hg2) (vBoxSystem H 23) (fun x h1 h2 => listed_all H.e25 9 29 x (by decide) h1 h2) (fun x h1 h2 => same_all H.e24 9 29 x (by decide) h1 h2) ns)
  · obtain ⟨l, h1, _, h3⟩ := numbers_run (m := sem defs 28) (ns := ns) (i := 2) (many := 12) (by decide)
    exact ⟨l, h1, (at_ H.e31 28 _).trans h3⟩
  · obtain ⟨fs, h1, h2, h3⟩ := forms_run (m := sem defs 28) (vSignedN H 26) (ns := ns) hh hk hz
    exact ⟨fs, h1, h2, (at_ H.e185 28 _).trans h3⟩
end PF

end

section
set_option Elab.async false
set_option linter.all false
set_option maxRecDepth 100000
namespace PF
namespace k13
open PySem PySem.Spec PyProof.Rows L2
def top (i : Nat) : Stmt := PySem.Challenge.pw_allthatisowed_k13_weighings_shown_or_not.main.body.getD i (.Pass ⟨0, 0, 0, 0⟩)
def N61 : List Str := ["above", "below", "shared"]
def N62 : List Str := ["one", "other"]
def N63 : List Str := ["one", "other"]
def N64 : List Str := ["one", "other"]
def N0 : List Str := ["one", "other"]
def N99 : List Str := ["row", "other", "one", "two"]
def N100 : List Str := ["row", "other", "one", "two"]
def N101 : List Str := ["row", "factor", "one"]
def N142 : List Str := ["constant", "width"]
def N156 : List Str := ["at", "width", "place"]
def N1 : List Str := ["value"]
def N3 : List Str := ["value"]
def N4 : List Str := ["value", "many"]
def N7 : List Str := ["value", "above", "below"]
def N8 : List Str := ["value", "out"]
def N9 : List Str := ["value", "many", "out", "one"]
def N15 : List Str := ["value", "out", "pair", "sides"]
def N158 : List Str := ["value", "out", "one"]
def N172 : List Str := ["box", "width", "out", "at", "least", "most", "unit"]
def N173 : List Str := ["box", "kept"]
def N174 : List Str := ["value", "out", "one", "form"]
def N175 : List Str := ["value", "system"]
def N176 : List Str := ["value", "many", "form"]
def N177 : List Str := ["system", "weighing", "width", "out", "form", "weight"]
def N178 : List Str := ["form", "factor"]
def N179 : List Str := ["system", "weighing", "many", "kept", "out"]
def N180 : List Str := ["system", "form", "most", "weighing", "many", "kept", "out"]
def N181 : List Str := ["system", "weighing", "kept", "many"]
def N182 : List Str := ["system", "form", "most", "weighing", "kept", "many", "told", "bound"]
def N183 : List Str := ["value"]
def N24 : List Str := ["one", "other", "k"]
def N25 : List Str := ["value", "part"]
def N26 : List Str := ["script", "place"]
def N27 : List Str := ["above", "below", "one", "other", "turn", "rest"]
def N28 : List Str := ["one", "other"]
def N29 : List Str := ["one", "other"]
def N30 : List Str := ["one", "other"]
def N77 : List Str := ["one", "other"]
def N31 : List Str := ["script", "place", "many", "cell", "numbers", "rest", "k", "twice"]
def N184 : List Str := ["number", "above"]
def N185 : List Str := ["numbers", "holdings", "many", "forms", "k", "c"]
def N186 : List Str := ["forms", "weights", "holdings", "total", "k", "c"]
def N187 : List Str := ["value", "many", "one"]
def N188 : List Str := ["forms", "goal", "most", "weights", "holdings", "total", "c", "one"]
def N189 : List Str := ["script", "holdings", "many", "numbers", "forms", "goal", "most", "weights", "ones", "tried", "exact", "less_v", "bound", "box", "due", "k", "row", "cell"]
def dl : List (Nat × IDef) := [(61, d61), (62, d62), (63, d63), (64, d64), (0, d0), (99, d99), (100, d100), (101, d101), (142, d142), (156, d156), (1, d1), (3, d3), (4, d4), (7, d7), (8, d8), (9, d9), (15, d15), (158, d158), (172, d172), (173, d173), (174, d174), (175, d175), (176, d176), (177, d177), (178, d178), (179, d179), (180, d180), (181, d181), (182, d182), (183, d183), (24, d24), (25, d25), (26, d26), (27, d27), (28, d28), (29, d29), (30, d30), (77, d77), (31, d31), (184, d184), (185, d185), (186, d186), (187, d187), (188, d188), (189, d189)]
def ds (j : Nat) : Option IDef := dl.lookup j
def tl : List (Nat × Str × Nat) := [(61, ("ratio" : Str), 2), (62, ("plus" : Str), 2), (63, ("minus" : Str), 2), (64, ("times" : Str), 2), (0, ("less" : Str), 2), (99, ("row_plus" : Str), 2), (100, ("row_minus" : Str), 2), (101, ("row_times" : Str), 2), (142, ("constant_row" : Str), 2), (156, ("unit_row" : Str), 2), (1, ("is_integer" : Str), 1), (3, ("is_row" : Str), 1), (4, ("is_row_of" : Str), 2), (7, ("signed_shape" : Str), 1), (8, ("fraction_shape" : Str), 1), (9, ("fractions_shape" : Str), 2), (15, ("box_shape" : Str), 1), (158, ("form_shape" : Str), 1), (172, ("box_forms" : Str), 1), (173, ("box_system" : Str), 1), (174, ("system_shape" : Str), 1), (175, ("need_system" : Str), 1), (176, ("need_form" : Str), 2), (177, ("weighed_sum" : Str), 3), (178, ("none_rising" : Str), 1), (179, ("none_shown" : Str), 3), (180, ("most_shown" : Str), 5), (181, ("shows_none" : Str), 2), (182, ("shows_most" : Str), 4), (183, ("_law_int" : Str), 1), (24, ("_law_same" : Str), 2), (25, ("_law_listed" : Str), 1), (26, ("_law_cell" : Str), 2), (27, ("_law_low" : Str), 2), (28, ("_law_plus" : Str), 2), (29, ("_law_minus" : Str), 2), (30, ("_law_times" : Str), 2), (77, ("_law_less" : Str), 2), (31, ("_law_numbers" : Str), 3), (184, ("_law_signed" : Str), 1), (185, ("_law_forms" : Str), 3), (186, ("_law_weighed" : Str), 3), (187, ("_law_is_weighing" : Str), 2), (188, ("_law_shows" : Str), 5), (189, ("law" : Str), 1)]
def T : Tb := ⟨fun j => tl.lookup j, [(("NOUGHT" : Str), (.tup [.int 0, .int 1] : D)), (("ONE" : Str), (.tup [.int 1, .int 1] : D))], [("len" : Str), ("abs" : Str), ("int" : Str), ("tuple" : Str), ("list" : Str), ("all" : Str), ("any" : Str), ("sum" : Str), ("max" : Str), ("min" : Str), ("sorted" : Str), ("str" : Str), ("range" : Str), ("enumerate" : Str), ("zip" : Str), ("isinstance" : Str), ("bool" : Str), ("set" : Str), ("reversed" : Str)], [("BadValue", 0)], [], [0], true⟩
theorem b61 {Γ : Ga} {n : Nat} {X : Cx} {W : WX} (B : Sx Γ T (sem ds n) n N61 (defScope (top 7)) (fun _ => true) X W) : SsI Γ (sem ds n) X W (defBody (top 7)) d61.body :=
  s_cons (s_ite (t_cmp .lt B.toBx.toBw rfl (e_var B.toBx.toBw (by decide +kernel)) (e_int B.toBx.toBw)) (s_cons (s_par B.toBx (by decide +kernel) (by decide +kernel) (by decide) (e_neg B.toBx.toBw (e_var B.toBx.toBw (by decide +kernel))) (e_neg B.toBx.toBw (e_var B.toBx.toBw (by decide +kernel))) (by kernel_rfl)) (s_nil)) (s_nil)) (s_cons (s_set B.toBx.toBw (by decide +kernel) (e_gcd B.toBx.toBw rfl (by decide +kernel) (a_cons (e_var B.toBx.toBw (by decide +kernel)) (a_cons (e_var B.toBx.toBw (by decide +kernel)) (a_nil))))) (s_cons (s_ret (e_tup B.toBx.toBw (a_cons (e_fdiv B.toBx.toBw (e_var B.toBx.toBw (by decide +kernel)) (e_var B.toBx.toBw (by decide +kernel))) (a_cons (e_fdiv B.toBx.toBw (e_var B.toBx.toBw (by decide +kernel)) (e_var B.toBx.toBw (by decide +kernel))) (a_nil)))) nofun) (s_nil)))
theorem b62 {Γ : Ga} {n : Nat} {X : Cx} {W : WX} (B : Sx Γ T (sem ds n) n N62 (defScope (top 8)) (fun _ => true) X W) : SsI Γ (sem ds n) X W (defBody (top 8)) d62.body :=
  s_cons (s_ite (t_and (t_cmp .eq B.toBx.toBw rfl (e_ix B.toBx.toBw rfl (e_var B.toBx.toBw (by decide +kernel)) (e_int B.toBx.toBw)) (e_int B.toBx.toBw)) (t_one (t_cmp .eq B.toBx.toBw rfl (e_ix B.toBx.toBw rfl (e_var B.toBx.toBw (by decide +kernel)) (e_int B.toBx.toBw)) (e_int B.toBx.toBw)))) (s_cons (s_ret (e_tup B.toBx.toBw (a_cons (e_add B.toBx.toBw (e_ix B.toBx.toBw rfl (e_var B.toBx.toBw (by decide +kernel)) (e_int B.toBx.toBw)) (e_ix B.toBx.toBw rfl (e_var B.toBx.toBw (by decide +kernel)) (e_int B.toBx.toBw))) (a_cons (e_int B.toBx.toBw) (a_nil)))) nofun) (s_nil)) (s_nil)) (s_cons (s_ret (e_call B.toBx (j := 61) (by kernel_rfl) (by decide +kernel) rfl rfl (a_cons (e_add B.toBx.toBw (e_mul B.toBx.toBw (e_ix B.toBx.toBw rfl (e_var B.toBx.toBw (by decide +kernel)) (e_int B.toBx.toBw)) (e_ix B.toBx.toBw rfl (e_var B.toBx.toBw (by decide +kernel)) (e_int B.toBx.toBw))) (e_mul B.toBx.toBw (e_ix B.toBx.toBw rfl (e_var B.toBx.toBw (by decide +kernel)) (e_int B.toBx.toBw)) (e_ix B.toBx.toBw rfl (e_var B.toBx.toBw (by decide +kernel)) (e_int B.toBx.toBw)))) (a_cons (e_mul B.toBx.toBw (e_ix B.toBx.toBw rfl (e_var B.toBx.toBw (by decide +kernel)) (e_int B.toBx.toBw)) (e_ix B.toBx.toBw rfl (e_var B.toBx.toBw (by decide +kernel)) (e_int B.toBx.toBw))) (a_nil)))) nofun) (s_nil))
theorem b63 {Γ : Ga} {n : Nat} {X : Cx} {W : WX} (B : Sx Γ T (sem ds n) n N63 (defScope (top 9)) (fun _ => true) X W) : SsI Γ (sem ds n) X W (defBody (top 9)) d63.body :=
  s_cons (s_ite (t_and (t_cmp .eq B.toBx.toBw rfl (e_ix B.toBx.toBw rfl (e_var B.toBx.toBw (by decide +kernel)) (e_int B.toBx.toBw)) (e_int B.toBx.toBw)) (t_one (t_cmp .eq B.toBx.toBw rfl (e_ix B.toBx.toBw rfl (e_var B.toBx.toBw (by decide +kernel)) (e_int B.toBx.toBw)) (e_int B.toBx.toBw)))) (s_cons (s_ret (e_tup B.toBx.toBw (a_cons (e_sub B.toBx.toBw (e_ix B.toBx.toBw rfl (e_var B.toBx.toBw (by decide +kernel)) (e_int B.toBx.toBw)) (e_ix B.toBx.toBw rfl (e_var B.toBx.toBw (by decide +kernel)) (e_int B.toBx.toBw))) (a_cons (e_int B.toBx.toBw) (a_nil)))) nofun) (s_nil)) (s_nil)) (s_cons (s_ret (e_call B.toBx (j := 61) (by kernel_rfl) (by decide +kernel) rfl rfl (a_cons (e_sub B.toBx.toBw (e_mul B.toBx.toBw (e_ix B.toBx.toBw rfl (e_var B.toBx.toBw (by decide +kernel)) (e_int B.toBx.toBw)) (e_ix B.toBx.toBw rfl (e_var B.toBx.toBw (by decide +kernel)) (e_int B.toBx.toBw))) (e_mul B.toBx.toBw (e_ix B.toBx.toBw rfl (e_var B.toBx.toBw (by decide +kernel)) (e_int B.toBx.toBw)) (e_ix B.toBx.toBw rfl (e_var B.toBx.toBw (by decide +kernel)) (e_int B.toBx.toBw)))) (a_cons (e_mul B.toBx.toBw (e_ix B.toBx.toBw rfl (e_var B.toBx.toBw (by decide +kernel)) (e_int B.toBx.toBw)) (e_ix B.toBx.toBw rfl (e_var B.toBx.toBw (by decide +kernel)) (e_int B.toBx.toBw))) (a_nil)))) nofun) (s_nil))
theorem b64 {Γ : Ga} {n : Nat} {X : Cx} {W : WX} (B : Sx Γ T (sem ds n) n N64 (defScope (top 10)) (fun _ => true) X W) : SsI Γ (sem ds n) X W (defBody (top 10)) d64.body :=
  s_cons (s_ite (t_and (t_cmp .eq B.toBx.toBw rfl (e_ix B.toBx.toBw rfl (e_var B.toBx.toBw (by decide +kernel)) (e_int B.toBx.toBw)) (e_int B.toBx.toBw)) (t_one (t_cmp .eq B.toBx.toBw rfl (e_ix B.toBx.toBw rfl (e_var B.toBx.toBw (by decide +kernel)) (e_int B.toBx.toBw)) (e_int B.toBx.toBw)))) (s_cons (s_ret (e_tup B.toBx.toBw (a_cons (e_mul B.toBx.toBw (e_ix B.toBx.toBw rfl (e_var B.toBx.toBw (by decide +kernel)) (e_int B.toBx.toBw)) (e_ix B.toBx.toBw rfl (e_var B.toBx.toBw (by decide +kernel)) (e_int B.toBx.toBw))) (a_cons (e_int B.toBx.toBw) (a_nil)))) nofun) (s_nil)) (s_nil)) (s_cons (s_ret (e_call B.toBx (j := 61) (by kernel_rfl) (by decide +kernel) rfl rfl (a_cons (e_mul B.toBx.toBw (e_ix B.toBx.toBw rfl (e_var B.toBx.toBw (by decide +kernel)) (e_int B.toBx.toBw)) (e_ix B.toBx.toBw rfl (e_var B.toBx.toBw (by decide +kernel)) (e_int B.toBx.toBw))) (a_cons (e_mul B.toBx.toBw (e_ix B.toBx.toBw rfl (e_var B.toBx.toBw (by decide +kernel)) (e_int B.toBx.toBw)) (e_ix B.toBx.toBw rfl (e_var B.toBx.toBw (by decide +kernel)) (e_int B.toBx.toBw))) (a_nil)))) nofun) (s_nil))
theorem b0 {Γ : Ga} {n : Nat} {X : Cx} {W : WX} (B : Sx Γ T (sem ds n) n N0 (defScope (top 11)) (fun _ => true) X W) : SsI Γ (sem ds n) X W (defBody (top 11)) d0.body :=
  s_cons (s_ret (e_cmp .lt B.toBx.toBw rfl (e_mul B.toBx.toBw (e_ix B.toBx.toBw rfl (e_var B.toBx.toBw (by decide +kernel)) (e_int B.toBx.toBw)) (e_ix B.toBx.toBw rfl (e_var B.toBx.toBw (by decide +kernel)) (e_int B.toBx.toBw))) (e_mul B.toBx.toBw (e_ix B.toBx.toBw rfl (e_var B.toBx.toBw (by decide +kernel)) (e_int B.toBx.toBw)) (e_ix B.toBx.toBw rfl (e_var B.toBx.toBw (by decide +kernel)) (e_int B.toBx.toBw)))) nofun) (s_nil)
theorem b99 {Γ : Ga} {n : Nat} {X : Cx} {W : WX} (B : Sx Γ T (sem ds n) n N99 (defScope (top 12)) (fun _ => true) X W) : SsI Γ (sem ds n) X W (defBody (top 12)) d99.body :=
  s_cons (s_ret (e_tuple B.toBx.toBw (by decide +kernel) (by decide +kernel) (a_cons (c_comp [("one", 2), ("two", 3)] B.toBx (by decide +kernel) (by decide +kernel) (i_zip B.toBx.toBw (by decide +kernel) (by decide +kernel) (e_var B.toBx.toBw (by decide +kernel)) (e_var B.toBx.toBw (by decide +kernel))) (fun _ B1 => g_tup B1 (gos_cons (g_nm B1.toBw (by decide +kernel)) (gos_cons (g_nm B1.toBw (by decide +kernel)) (gos_nil)))) (fun _ B1 => e_call B1 (j := 62) (by kernel_rfl) (by decide +kernel) rfl rfl (a_cons (e_var B1.toBw (by decide +kernel)) (a_cons (e_var B1.toBw (by decide +kernel)) (a_nil))))) (a_nil))) nofun) (s_nil)
theorem b100 {Γ : Ga} {n : Nat} {X : Cx} {W : WX} (B : Sx Γ T (sem ds n) n N100 (defScope (top 13)) (fun _ => true) X W) : SsI Γ (sem ds n) X W (defBody (top 13)) d100.body :=
  s_cons (s_ret (e_tuple B.toBx.toBw (by decide +kernel) (by decide +kernel) (a_cons (c_comp [("one", 2), ("two", 3)] B.toBx (by decide +kernel) (by decide +kernel) (i_zip B.toBx.toBw (by decide +kernel) (by decide +kernel) (e_var B.toBx.toBw (by decide +kernel)) (e_var B.toBx.toBw (by decide +kernel))) (fun _ B1 => g_tup B1 (gos_cons (g_nm B1.toBw (by decide +kernel)) (gos_cons (g_nm B1.toBw (by decide +kernel)) (gos_nil)))) (fun _ B1 => e_call B1 (j := 63) (by kernel_rfl) (by decide +kernel) rfl rfl (a_cons (e_var B1.toBw (by decide +kernel)) (a_cons (e_var B1.toBw (by decide +kernel)) (a_nil))))) (a_nil))) nofun) (s_nil)
theorem b101 {Γ : Ga} {n : Nat} {X : Cx} {W : WX} (B : Sx Γ T (sem ds n) n N101 (defScope (top 14)) (fun _ => true) X W) : SsI Γ (sem ds n) X W (defBody (top 14)) d101.body :=
  s_cons (s_ret (e_tuple B.toBx.toBw (by decide +kernel) (by decide +kernel) (a_cons (c_comp [("one", 2)] B.toBx (by decide +kernel) (by decide +kernel) (i_seq rfl (e_var B.toBx.toBw (by decide +kernel))) (fun _ B1 => g_nm B1.toBw (by decide +kernel)) (fun _ B1 => e_call B1 (j := 64) (by kernel_rfl) (by decide +kernel) rfl rfl (a_cons (e_var B1.toBw (by decide +kernel)) (a_cons (e_var B1.toBw (by decide +kernel)) (a_nil))))) (a_nil))) nofun) (s_nil)
theorem b142 {Γ : Ga} {n : Nat} {X : Cx} {W : WX} (B : Sx Γ T (sem ds n) n N142 (defScope (top 15)) (fun _ => true) X W) : SsI Γ (sem ds n) X W (defBody (top 15)) d142.body :=
  s_cons (s_ret (e_add B.toBx.toBw (e_tup B.toBx.toBw (a_cons (e_var B.toBx.toBw (by decide +kernel)) (a_nil))) (e_mul B.toBx.toBw (e_tup B.toBx.toBw (a_cons (e_glb B.toBx.toBw 0 rfl (by decide +kernel)) (a_nil))) (e_sub B.toBx.toBw (e_var B.toBx.toBw (by decide +kernel)) (e_int B.toBx.toBw)))) nofun) (s_nil)
theorem b156 {Γ : Ga} {n : Nat} {X : Cx} {W : WX} (B : Sx Γ T (sem ds n) n N156 (defScope (top 16)) (fun _ => true) X W) : SsI Γ (sem ds n) X W (defBody (top 16)) d156.body :=
  s_cons (s_ret (e_tuple B.toBx.toBw (by decide +kernel) (by decide +kernel) (a_cons (c_comp [("place", 2)] B.toBx (by decide +kernel) (by decide +kernel) (i_rng1 B.toBx.toBw (by decide +kernel) (by decide +kernel) (e_var B.toBx.toBw (by decide +kernel))) (fun _ B1 => g_nm B1.toBw (by decide +kernel)) (fun _ B1 => e_ife B1.toBw (t_cmp .eq B1.toBw rfl (e_var B1.toBw (by decide +kernel)) (e_var B1.toBw (by decide +kernel))) (e_glb B1.toBw 1 rfl (by decide +kernel)) (e_glb B1.toBw 0 rfl (by decide +kernel)))) (a_nil))) nofun) (s_nil)
theorem b1 {Γ : Ga} {n : Nat} {X : Cx} {W : WX} (B : Sx Γ T (sem ds n) n N1 (defScope (top 18)) (fun _ => true) X W) : SsI Γ (sem ds n) X W (defBody (top 18)) d1.body :=
  s_cons (s_ret (e_and B.toBx.toBw (e_isin .int B.toBx.toBw (by decide +kernel) (by decide +kernel) (by decide +kernel) (by decide +kernel) (e_var B.toBx.toBw (by decide +kernel))) (e_one B.toBx.toBw (e_not B.toBx.toBw (e_isin .bool B.toBx.toBw (by decide +kernel) (by decide +kernel) (by decide +kernel) (by decide +kernel) (e_var B.toBx.toBw (by decide +kernel)))))) nofun) (s_nil)
theorem b3 {Γ : Ga} {n : Nat} {X : Cx} {W : WX} (B : Sx Γ T (sem ds n) n N3 (defScope (top 19)) (fun _ => true) X W) : SsI Γ (sem ds n) X W (defBody (top 19)) d3.body :=
  s_cons (s_ret (e_isin2 .tuple .list B.toBx.toBw (by decide +kernel) (by decide +kernel) (by decide +kernel) (by decide +kernel) (by decide +kernel) (by decide +kernel) (e_var B.toBx.toBw (by decide +kernel))) nofun) (s_nil)
theorem b4 {Γ : Ga} {n : Nat} {X : Cx} {W : WX} (B : Sx Γ T (sem ds n) n N4 (defScope (top 20)) (fun _ => true) X W) : SsI Γ (sem ds n) X W (defBody (top 20)) d4.body :=
  s_cons (s_ret (e_and B.toBx.toBw (e_isin2 .tuple .list B.toBx.toBw (by decide +kernel) (by decide +kernel) (by decide +kernel) (by decide +kernel) (by decide +kernel) (by decide +kernel) (e_var B.toBx.toBw (by decide +kernel))) (e_one B.toBx.toBw (e_cmp .eq B.toBx.toBw rfl (e_len B.toBx.toBw (by decide +kernel) (by decide +kernel) (a_cons (e_var B.toBx.toBw (by decide +kernel)) (a_nil))) (e_var B.toBx.toBw (by decide +kernel))))) nofun) (s_nil)
theorem b7 {Γ : Ga} {n : Nat} {X : Cx} {W : WX} (B : Sx Γ T (sem ds n) n N7 (defScope (top 21)) (fun _ => true) X W) : SsI Γ (sem ds n) X W (defBody (top 21)) d7.body :=
  s_cons (s_ite (t_not (t_tr rfl (e_call B.toBx (j := 4) (by kernel_rfl) (by decide +kernel) rfl rfl (a_cons (e_var B.toBx.toBw (by decide +kernel)) (a_cons (e_int B.toBx.toBw) (a_nil)))))) (s_cons (s_ret (e_non B.toBx.toBw) nofun) (s_nil)) (s_nil)) (s_cons (s_par B.toBx (by decide +kernel) (by decide +kernel) (by decide) (e_ix B.toBx.toBw rfl (e_var B.toBx.toBw (by decide +kernel)) (e_int B.toBx.toBw)) (e_ix B.toBx.toBw rfl (e_var B.toBx.toBw (by decide +kernel)) (e_int B.toBx.toBw)) (by kernel_rfl)) (s_cons (s_ite (t_or (t_not (t_tr rfl (e_call B.toBx (j := 1) (by kernel_rfl) (by decide +kernel) rfl rfl (a_cons (e_var B.toBx.toBw (by decide +kernel)) (a_nil))))) (t_or (t_not (t_tr rfl (e_call B.toBx (j := 1) (by kernel_rfl) (by decide +kernel) rfl rfl (a_cons (e_var B.toBx.toBw (by decide +kernel)) (a_nil))))) (t_or (t_cmp .lt B.toBx.toBw rfl (e_var B.toBx.toBw (by decide +kernel)) (e_int B.toBx.toBw)) (t_one (t_cmp .ne B.toBx.toBw rfl (e_gcd B.toBx.toBw rfl (by decide +kernel) (a_cons (e_var B.toBx.toBw (by decide +kernel)) (a_cons (e_var B.toBx.toBw (by decide +kernel)) (a_nil)))) (e_int B.toBx.toBw)))))) (s_cons (s_ret (e_non B.toBx.toBw) nofun) (s_nil)) (s_nil)) (s_cons (s_ret (e_tup B.toBx.toBw (a_cons (e_var B.toBx.toBw (by decide +kernel)) (a_cons (e_var B.toBx.toBw (by decide +kernel)) (a_nil)))) nofun) (s_nil))))
theorem b8 {Γ : Ga} {n : Nat} {X : Cx} {W : WX} (B : Sx Γ T (sem ds n) n N8 (defScope (top 22)) (fun _ => true) X W) : SsI Γ (sem ds n) X W (defBody (top 22)) d8.body :=
  s_cons (s_set B.toBx.toBw (by decide +kernel) (e_call B.toBx (j := 7) (by kernel_rfl) (by decide +kernel) rfl rfl (a_cons (e_var B.toBx.toBw (by decide +kernel)) (a_nil)))) (s_cons (s_ite (t_or (t_cmp .isn B.toBx.toBw rfl (e_var B.toBx.toBw (by decide +kernel)) (e_non B.toBx.toBw)) (t_one (t_cmp .lt B.toBx.toBw rfl (e_ix B.toBx.toBw rfl (e_var B.toBx.toBw (by decide +kernel)) (e_int B.toBx.toBw)) (e_int B.toBx.toBw)))) (s_cons (s_ret (e_non B.toBx.toBw) nofun) (s_nil)) (s_nil)) (s_cons (s_retV B.toBx.toBw (by decide +kernel)) (s_nil)))
theorem b9 {Γ : Ga} {n : Nat} {X : Cx} {W : WX} (B : Sx Γ T (sem ds n) n N9 (defScope (top 23)) (fun _ => true) X W) : SsI Γ (sem ds n) X W (defBody (top 23)) d9.body :=
  s_cons (s_ite (t_not (t_tr rfl (e_call B.toBx (j := 4) (by kernel_rfl) (by decide +kernel) rfl rfl (a_cons (e_var B.toBx.toBw (by decide +kernel)) (a_cons (e_var B.toBx.toBw (by decide +kernel)) (a_nil)))))) (s_cons (s_ret (e_non B.toBx.toBw) nofun) (s_nil)) (s_nil)) (s_cons (s_set B.toBx.toBw (by decide +kernel) (c_comp [("one", 3)] B.toBx (by decide +kernel) (by decide +kernel) (i_seq rfl (e_var B.toBx.toBw (by decide +kernel))) (fun _ B1 => g_nm B1.toBw (by decide +kernel)) (fun _ B1 => e_call B1 (j := 8) (by kernel_rfl) (by decide +kernel) rfl rfl (a_cons (e_var B1.toBw (by decide +kernel)) (a_nil))))) (s_cons (s_for B (i_seq rfl (e_var B.toBx.toBw (by decide +kernel))) (g_nm B.toBx.toBw (by decide +kernel)) (s_cons (s_ite (t_cmp .isn B.toBx.toBw rfl (e_var B.toBx.toBw (by decide +kernel)) (e_non B.toBx.toBw)) (s_cons (s_ret (e_non B.toBx.toBw) nofun) (s_nil)) (s_nil)) (s_nil)) (by funext; rfl)) (s_cons (s_ret (e_tuple B.toBx.toBw (by decide +kernel) (by decide +kernel) (a_cons (e_var B.toBx.toBw (by decide +kernel)) (a_nil))) nofun) (s_nil))))
theorem b15 {Γ : Ga} {n : Nat} {X : Cx} {W : WX} (B : Sx Γ T (sem ds n) n N15 (defScope (top 25)) (fun _ => true) X W) : SsI Γ (sem ds n) X W (defBody (top 25)) d15.body :=
  s_cons (s_ite (t_or (t_not (t_tr rfl (e_call B.toBx (j := 3) (by kernel_rfl) (by decide +kernel) rfl rfl (a_cons (e_var B.toBx.toBw (by decide +kernel)) (a_nil))))) (t_one (t_cmp .gt B.toBx.toBw rfl (e_len B.toBx.toBw (by decide +kernel) (by decide +kernel) (a_cons (e_var B.toBx.toBw (by decide +kernel)) (a_nil))) (e_int B.toBx.toBw)))) (s_cons (s_ret (e_non B.toBx.toBw) nofun) (s_nil)) (s_nil)) (s_cons (s_set B.toBx.toBw (by decide +kernel) (e_lst B.toBx.toBw (a_nil))) (s_cons (s_for B (i_seq rfl (e_var B.toBx.toBw (by decide +kernel))) (g_nm B.toBx.toBw (by decide +kernel)) (s_cons (s_set B.toBx.toBw (by decide +kernel) (e_call B.toBx (j := 9) (by kernel_rfl) (by decide +kernel) rfl rfl (a_cons (e_var B.toBx.toBw (by decide +kernel)) (a_cons (e_int B.toBx.toBw) (a_nil))))) (s_cons (s_ite (t_or (t_cmp .isn B.toBx.toBw rfl (e_var B.toBx.toBw (by decide +kernel)) (e_non B.toBx.toBw)) (t_one (t_tr rfl (e_call B.toBx (j := 0) (by kernel_rfl) (by decide +kernel) rfl rfl (a_cons (e_ix B.toBx.toBw rfl (e_var B.toBx.toBw (by decide +kernel)) (e_int B.toBx.toBw)) (a_cons (e_ix B.toBx.toBw rfl (e_var B.toBx.toBw (by decide +kernel)) (e_int B.toBx.toBw)) (a_nil))))))) (s_cons (s_ret (e_non B.toBx.toBw) nofun) (s_nil)) (s_nil)) (s_cons (s_app B.toBx.toBw (by decide +kernel) rfl (e_var B.toBx.toBw (by decide +kernel))) (s_nil)))) (by funext; rfl)) (s_cons (s_ret (e_tuple B.toBx.toBw (by decide +kernel) (by decide +kernel) (a_cons (e_var B.toBx.toBw (by decide +kernel)) (a_nil))) nofun) (s_nil))))
theorem b158 {Γ : Ga} {n : Nat} {X : Cx} {W : WX} (B : Sx Γ T (sem ds n) n N158 (defScope (top 27)) (fun _ => true) X W) : SsI Γ (sem ds n) X W (defBody (top 27)) d158.body :=
  s_cons (s_ite (t_or (t_not (t_tr rfl (e_call B.toBx (j := 3) (by kernel_rfl) (by decide +kernel) rfl rfl (a_cons (e_var B.toBx.toBw (by decide +kernel)) (a_nil))))) (t_one (t_not (t_chain .le .le B.toBx.toBw rfl (e_int B.toBx.toBw) (e_len B.toBx.toBw (by decide +kernel) (by decide +kernel) (a_cons (e_var B.toBx.toBw (by decide +kernel)) (a_nil))) (e_int B.toBx.toBw))))) (s_cons (s_ret (e_non B.toBx.toBw) nofun) (s_nil)) (s_nil)) (s_cons (s_set B.toBx.toBw (by decide +kernel) (c_comp [("one", 2)] B.toBx (by decide +kernel) (by decide +kernel) (i_seq rfl (e_var B.toBx.toBw (by decide +kernel))) (fun _ B1 => g_nm B1.toBw (by decide +kernel)) (fun _ B1 => e_call B1 (j := 7) (by kernel_rfl) (by decide +kernel) rfl rfl (a_cons (e_var B1.toBw (by decide +kernel)) (a_nil))))) (s_cons (s_for B (i_seq rfl (e_var B.toBx.toBw (by decide +kernel))) (g_nm B.toBx.toBw (by decide +kernel)) (s_cons (s_ite (t_cmp .isn B.toBx.toBw rfl (e_var B.toBx.toBw (by decide +kernel)) (e_non B.toBx.toBw)) (s_cons (s_ret (e_non B.toBx.toBw) nofun) (s_nil)) (s_nil)) (s_nil)) (by funext; rfl)) (s_cons (s_ret (e_tuple B.toBx.toBw (by decide +kernel) (by decide +kernel) (a_cons (e_var B.toBx.toBw (by decide +kernel)) (a_nil))) nofun) (s_nil))))
theorem b172 {Γ : Ga} {n : Nat} {X : Cx} {W : WX} (B : Sx Γ T (sem ds n) n N172 (defScope (top 29)) (fun _ => true) X W) : SsI Γ (sem ds n) X W (defBody (top 29)) d172.body :=
  s_cons (s_set B.toBx.toBw (by decide +kernel) (e_add B.toBx.toBw (e_len B.toBx.toBw (by decide +kernel) (by decide +kernel) (a_cons (e_var B.toBx.toBw (by decide +kernel)) (a_nil))) (e_int B.toBx.toBw))) (s_cons (s_set B.toBx.toBw (by decide +kernel) (e_lst B.toBx.toBw (a_nil))) (s_cons (s_for B (i_enum B.toBx.toBw (by decide +kernel) (by decide +kernel) (e_var B.toBx.toBw (by decide +kernel))) (g_tup B.toBx (gos_cons (g_nm B.toBx.toBw (by decide +kernel)) (gos_cons (g_tup B.toBx (gos_cons (g_nm B.toBx.toBw (by decide +kernel)) (gos_cons (g_nm B.toBx.toBw (by decide +kernel)) (gos_nil)))) (gos_nil)))) (s_cons (s_set B.toBx.toBw (by decide +kernel) (e_call B.toBx (j := 156) (by kernel_rfl) (by decide +kernel) rfl rfl (a_cons (e_add B.toBx.toBw (e_var B.toBx.toBw (by decide +kernel)) (e_int B.toBx.toBw)) (a_cons (e_var B.toBx.toBw (by decide +kernel)) (a_nil))))) (s_cons (s_app B.toBx.toBw (by decide +kernel) rfl (e_call B.toBx (j := 100) (by kernel_rfl) (by decide +kernel) rfl rfl (a_cons (e_var B.toBx.toBw (by decide +kernel)) (a_cons (e_call B.toBx (j := 142) (by kernel_rfl) (by decide +kernel) rfl rfl (a_cons (e_var B.toBx.toBw (by decide +kernel)) (a_cons (e_var B.toBx.toBw (by decide +kernel)) (a_nil)))) (a_nil))))) (s_cons (s_app B.toBx.toBw (by decide +kernel) rfl (e_call B.toBx (j := 100) (by kernel_rfl) (by decide +kernel) rfl rfl (a_cons (e_call B.toBx (j := 142) (by kernel_rfl) (by decide +kernel) rfl rfl (a_cons (e_var B.toBx.toBw (by decide +kernel)) (a_cons (e_var B.toBx.toBw (by decide +kernel)) (a_nil)))) (a_cons (e_var B.toBx.toBw (by decide +kernel)) (a_nil))))) (s_nil)))) (by funext; rfl)) (s_cons (s_ret (e_tuple B.toBx.toBw (by decide +kernel) (by decide +kernel) (a_cons (e_var B.toBx.toBw (by decide +kernel)) (a_nil))) nofun) (s_nil))))
theorem b173 {Γ : Ga} {n : Nat} {X : Cx} {W : WX} (B : Sx Γ T (sem ds n) n N173 (defScope (top 30)) (fun _ => true) X W) : SsI Γ (sem ds n) X W (defBody (top 30)) d173.body :=
  s_cons (s_set B.toBx.toBw (by decide +kernel) (e_call B.toBx (j := 15) (by kernel_rfl) (by decide +kernel) rfl rfl (a_cons (e_var B.toBx.toBw (by decide +kernel)) (a_nil)))) (s_cons (s_ite (t_cmp .isn B.toBx.toBw rfl (e_var B.toBx.toBw (by decide +kernel)) (e_non B.toBx.toBw)) (s_cons (s_raise B.toBx (i := 0) (by decide +kernel) (by decide +kernel) (e_int B.toBx.toBw)) (s_nil)) (s_nil)) (s_cons (s_ret (e_call B.toBx (j := 172) (by kernel_rfl) (by decide +kernel) rfl rfl (a_cons (e_var B.toBx.toBw (by decide +kernel)) (a_nil))) nofun) (s_nil)))
theorem b174 {Γ : Ga} {n : Nat} {X : Cx} {W : WX} (B : Sx Γ T (sem ds n) n N174 (defScope (top 31)) (fun _ => true) X W) : SsI Γ (sem ds n) X W (defBody (top 31)) d174.body :=
  s_cons (s_ite (t_or (t_not (t_tr rfl (e_call B.toBx (j := 3) (by kernel_rfl) (by decide +kernel) rfl rfl (a_cons (e_var B.toBx.toBw (by decide +kernel)) (a_nil))))) (t_one (t_cmp .gt B.toBx.toBw rfl (e_len B.toBx.toBw (by decide +kernel) (by decide +kernel) (a_cons (e_var B.toBx.toBw (by decide +kernel)) (a_nil))) (e_int B.toBx.toBw)))) (s_cons (s_ret (e_non B.toBx.toBw) nofun) (s_nil)) (s_nil)) (s_cons (s_set B.toBx.toBw (by decide +kernel) (e_lst B.toBx.toBw (a_nil))) (s_cons (s_for B (i_seq rfl (e_var B.toBx.toBw (by decide +kernel))) (g_nm B.toBx.toBw (by decide +kernel)) (s_cons (s_set B.toBx.toBw (by decide +kernel) (e_call B.toBx (j := 158) (by kernel_rfl) (by decide +kernel) rfl rfl (a_cons (e_var B.toBx.toBw (by decide +kernel)) (a_nil)))) (s_cons (s_ite (t_or (t_cmp .isn B.toBx.toBw rfl (e_var B.toBx.toBw (by decide +kernel)) (e_non B.toBx.toBw)) (t_one (t_cmp .ne B.toBx.toBw rfl (e_len B.toBx.toBw (by decide +kernel) (by decide +kernel) (a_cons (e_var B.toBx.toBw (by decide +kernel)) (a_nil))) (e_len B.toBx.toBw (by decide +kernel) (by decide +kernel) (a_cons (e_ix B.toBx.toBw rfl (e_var B.toBx.toBw (by decide +kernel)) (e_int B.toBx.toBw)) (a_nil)))))) (s_cons (s_ret (e_non B.toBx.toBw) nofun) (s_nil)) (s_nil)) (s_cons (s_app B.toBx.toBw (by decide +kernel) rfl (e_var B.toBx.toBw (by decide +kernel))) (s_nil)))) (by funext; rfl)) (s_cons (s_ret (e_tuple B.toBx.toBw (by decide +kernel) (by decide +kernel) (a_cons (e_var B.toBx.toBw (by decide +kernel)) (a_nil))) nofun) (s_nil))))
theorem b175 {Γ : Ga} {n : Nat} {X : Cx} {W : WX} (B : Sx Γ T (sem ds n) n N175 (defScope (top 32)) (fun _ => true) X W) : SsI Γ (sem ds n) X W (defBody (top 32)) d175.body :=
  s_cons (s_set B.toBx.toBw (by decide +kernel) (e_call B.toBx (j := 174) (by kernel_rfl) (by decide +kernel) rfl rfl (a_cons (e_var B.toBx.toBw (by decide +kernel)) (a_nil)))) (s_cons (s_ite (t_cmp .isn B.toBx.toBw rfl (e_var B.toBx.toBw (by decide +kernel)) (e_non B.toBx.toBw)) (s_cons (s_raise B.toBx (i := 0) (by decide +kernel) (by decide +kernel) (e_int B.toBx.toBw)) (s_nil)) (s_nil)) (s_cons (s_ite (t_cmp .eq B.toBx.toBw rfl (e_len B.toBx.toBw (by decide +kernel) (by decide +kernel) (a_cons (e_var B.toBx.toBw (by decide +kernel)) (a_nil))) (e_int B.toBx.toBw)) (s_cons (s_ret (e_tup B.toBx.toBw (a_cons (e_var B.toBx.toBw (by decide +kernel)) (a_cons (e_int B.toBx.toBw) (a_nil)))) nofun) (s_nil)) (s_nil)) (s_cons (s_ret (e_tup B.toBx.toBw (a_cons (e_var B.toBx.toBw (by decide +kernel)) (a_cons (e_sub B.toBx.toBw (e_len B.toBx.toBw (by decide +kernel) (by decide +kernel) (a_cons (e_ix B.toBx.toBw rfl (e_var B.toBx.toBw (by decide +kernel)) (e_int B.toBx.toBw)) (a_nil))) (e_int B.toBx.toBw)) (a_nil)))) nofun) (s_nil))))
theorem b176 {Γ : Ga} {n : Nat} {X : Cx} {W : WX} (B : Sx Γ T (sem ds n) n N176 (defScope (top 33)) (fun _ => true) X W) : SsI Γ (sem ds n) X W (defBody (top 33)) d176.body :=
  s_cons (s_set B.toBx.toBw (by decide +kernel) (e_call B.toBx (j := 158) (by kernel_rfl) (by decide +kernel) rfl rfl (a_cons (e_var B.toBx.toBw (by decide +kernel)) (a_nil)))) (s_cons (s_ite (t_or (t_cmp .isn B.toBx.toBw rfl (e_var B.toBx.toBw (by decide +kernel)) (e_non B.toBx.toBw)) (t_one (t_cmp .ne B.toBx.toBw rfl (e_len B.toBx.toBw (by decide +kernel) (by decide +kernel) (a_cons (e_var B.toBx.toBw (by decide +kernel)) (a_nil))) (e_add B.toBx.toBw (e_var B.toBx.toBw (by decide +kernel)) (e_int B.toBx.toBw))))) (s_cons (s_raise B.toBx (i := 0) (by decide +kernel) (by decide +kernel) (e_int B.toBx.toBw)) (s_nil)) (s_nil)) (s_cons (s_retV B.toBx.toBw (by decide +kernel)) (s_nil)))
theorem b177 {Γ : Ga} {n : Nat} {X : Cx} {W : WX} (B : Sx Γ T (sem ds n) n N177 (defScope (top 34)) (fun _ => true) X W) : SsI Γ (sem ds n) X W (defBody (top 34)) d177.body :=
  s_cons (s_set B.toBx.toBw (by decide +kernel) (e_call B.toBx (j := 142) (by kernel_rfl) (by decide +kernel) rfl rfl (a_cons (e_glb B.toBx.toBw 0 rfl (by decide +kernel)) (a_cons (e_var B.toBx.toBw (by decide +kernel)) (a_nil))))) (s_cons (s_for B (i_zip B.toBx.toBw (by decide +kernel) (by decide +kernel) (e_var B.toBx.toBw (by decide +kernel)) (e_var B.toBx.toBw (by decide +kernel))) (g_tup B.toBx (gos_cons (g_nm B.toBx.toBw (by decide +kernel)) (gos_cons (g_nm B.toBx.toBw (by decide +kernel)) (gos_nil)))) (s_cons (s_ite (t_cmp .ne B.toBx.toBw rfl (e_var B.toBx.toBw (by decide +kernel)) (e_glb B.toBx.toBw 0 rfl (by decide +kernel))) (s_cons (s_set B.toBx.toBw (by decide +kernel) (e_call B.toBx (j := 99) (by kernel_rfl) (by decide +kernel) rfl rfl (a_cons (e_var B.toBx.toBw (by decide +kernel)) (a_cons (e_call B.toBx (j := 101) (by kernel_rfl) (by decide +kernel) rfl rfl (a_cons (e_var B.toBx.toBw (by decide +kernel)) (a_cons (e_var B.toBx.toBw (by decide +kernel)) (a_nil)))) (a_nil))))) (s_nil)) (s_nil)) (s_nil)) (by funext; rfl)) (s_cons (s_retV B.toBx.toBw (by decide +kernel)) (s_nil)))
theorem b178 {Γ : Ga} {n : Nat} {X : Cx} {W : WX} (B : Sx Γ T (sem ds n) n N178 (defScope (top 35)) (fun _ => true) X W) : SsI Γ (sem ds n) X W (defBody (top 35)) d178.body :=
  s_cons (s_for B (i_seq rfl (e_sl B.toBx.toBw (e_var B.toBx.toBw (by decide +kernel)) (q_some (e_int B.toBx.toBw)) q_none)) (g_nm B.toBx.toBw (by decide +kernel)) (s_cons (s_ite (t_tr rfl (e_call B.toBx (j := 0) (by kernel_rfl) (by decide +kernel) rfl rfl (a_cons (e_glb B.toBx.toBw 0 rfl (by decide +kernel)) (a_cons (e_var B.toBx.toBw (by decide +kernel)) (a_nil))))) (s_cons (s_ret (e_bl B.toBx.toBw) nofun) (s_nil)) (s_nil)) (s_nil)) (by funext; rfl)) (s_cons (s_ret (e_bl B.toBx.toBw) nofun) (s_nil))
theorem b179 {Γ : Ga} {n : Nat} {X : Cx} {W : WX} (B : Sx Γ T (sem ds n) n N179 (defScope (top 36)) (fun _ => true) X W) : SsI Γ (sem ds n) X W (defBody (top 36)) d179.body :=
  s_cons (s_set B.toBx.toBw (by decide +kernel) (e_call B.toBx (j := 9) (by kernel_rfl) (by decide +kernel) rfl rfl (a_cons (e_var B.toBx.toBw (by decide +kernel)) (a_cons (e_len B.toBx.toBw (by decide +kernel) (by decide +kernel) (a_cons (e_var B.toBx.toBw (by decide +kernel)) (a_nil))) (a_nil))))) (s_cons (s_ite (t_cmp .isn B.toBx.toBw rfl (e_var B.toBx.toBw (by decide +kernel)) (e_non B.toBx.toBw)) (s_cons (s_ret (e_bl B.toBx.toBw) nofun) (s_nil)) (s_nil)) (s_cons (s_set B.toBx.toBw (by decide +kernel) (e_call B.toBx (j := 177) (by kernel_rfl) (by decide +kernel) rfl rfl (a_cons (e_var B.toBx.toBw (by decide +kernel)) (a_cons (e_var B.toBx.toBw (by decide +kernel)) (a_cons (e_add B.toBx.toBw (e_var B.toBx.toBw (by decide +kernel)) (e_int B.toBx.toBw)) (a_nil)))))) (s_cons (s_ret (e_and B.toBx.toBw (e_call B.toBx (j := 178) (by kernel_rfl) (by decide +kernel) rfl rfl (a_cons (e_var B.toBx.toBw (by decide +kernel)) (a_nil))) (e_one B.toBx.toBw (e_call B.toBx (j := 0) (by kernel_rfl) (by decide +kernel) rfl rfl (a_cons (e_ix B.toBx.toBw rfl (e_var B.toBx.toBw (by decide +kernel)) (e_int B.toBx.toBw)) (a_cons (e_glb B.toBx.toBw 0 rfl (by decide +kernel)) (a_nil)))))) nofun) (s_nil))))
theorem b180 {Γ : Ga} {n : Nat} {X : Cx} {W : WX} (B : Sx Γ T (sem ds n) n N180 (defScope (top 37)) (fun _ => true) X W) : SsI Γ (sem ds n) X W (defBody (top 37)) d180.body :=
  s_cons (s_set B.toBx.toBw (by decide +kernel) (e_call B.toBx (j := 9) (by kernel_rfl) (by decide +kernel) rfl rfl (a_cons (e_var B.toBx.toBw (by decide +kernel)) (a_cons (e_len B.toBx.toBw (by decide +kernel) (by decide +kernel) (a_cons (e_var B.toBx.toBw (by decide +kernel)) (a_nil))) (a_nil))))) (s_cons (s_ite (t_cmp .isn B.toBx.toBw rfl (e_var B.toBx.toBw (by decide +kernel)) (e_non B.toBx.toBw)) (s_cons (s_ret (e_bl B.toBx.toBw) nofun) (s_nil)) (s_nil)) (s_cons (s_set B.toBx.toBw (by decide +kernel) (e_call B.toBx (j := 99) (by kernel_rfl) (by decide +kernel) rfl rfl (a_cons (e_call B.toBx (j := 177) (by kernel_rfl) (by decide +kernel) rfl rfl (a_cons (e_var B.toBx.toBw (by decide +kernel)) (a_cons (e_var B.toBx.toBw (by decide +kernel)) (a_cons (e_add B.toBx.toBw (e_var B.toBx.toBw (by decide +kernel)) (e_int B.toBx.toBw)) (a_nil))))) (a_cons (e_var B.toBx.toBw (by decide +kernel)) (a_nil))))) (s_cons (s_ret (e_and B.toBx.toBw (e_call B.toBx (j := 178) (by kernel_rfl) (by decide +kernel) rfl rfl (a_cons (e_var B.toBx.toBw (by decide +kernel)) (a_nil))) (e_one B.toBx.toBw (e_not B.toBx.toBw (e_call B.toBx (j := 0) (by kernel_rfl) (by decide +kernel) rfl rfl (a_cons (e_var B.toBx.toBw (by decide +kernel)) (a_cons (e_ix B.toBx.toBw rfl (e_var B.toBx.toBw (by decide +kernel)) (e_int B.toBx.toBw)) (a_nil))))))) nofun) (s_nil))))
theorem b181 {Γ : Ga} {n : Nat} {X : Cx} {W : WX} (B : Sx Γ T (sem ds n) n N181 (defScope (top 38)) (fun _ => true) X W) : SsI Γ (sem ds n) X W (defBody (top 38)) d181.body :=
  s_cons (s_asg B.toBx.toBw (e_call B.toBx (j := 175) (by kernel_rfl) (by decide +kernel) rfl rfl (a_cons (e_var B.toBx.toBw (by decide +kernel)) (a_nil))) (g_tup B.toBx (gos_cons (g_nm B.toBx.toBw (by decide +kernel)) (gos_cons (g_nm B.toBx.toBw (by decide +kernel)) (gos_nil)))) (fun _ => rfl) (by kernel_rfl) (fun _ => rfl)) (s_cons (s_ret (e_call B.toBx (j := 179) (by kernel_rfl) (by decide +kernel) rfl rfl (a_cons (e_var B.toBx.toBw (by decide +kernel)) (a_cons (e_var B.toBx.toBw (by decide +kernel)) (a_cons (e_var B.toBx.toBw (by decide +kernel)) (a_nil))))) nofun) (s_nil))
theorem b182 {Γ : Ga} {n : Nat} {X : Cx} {W : WX} (B : Sx Γ T (sem ds n) n N182 (defScope (top 39)) (fun _ => true) X W) : SsI Γ (sem ds n) X W (defBody (top 39)) d182.body :=
  s_cons (s_asg B.toBx.toBw (e_call B.toBx (j := 175) (by kernel_rfl) (by decide +kernel) rfl rfl (a_cons (e_var B.toBx.toBw (by decide +kernel)) (a_nil))) (g_tup B.toBx (gos_cons (g_nm B.toBx.toBw (by decide +kernel)) (gos_cons (g_nm B.toBx.toBw (by decide +kernel)) (gos_nil)))) (fun _ => rfl) (by kernel_rfl) (fun _ => rfl)) (s_cons (s_set B.toBx.toBw (by decide +kernel) (e_call B.toBx (j := 176) (by kernel_rfl) (by decide +kernel) rfl rfl (a_cons (e_var B.toBx.toBw (by decide +kernel)) (a_cons (e_var B.toBx.toBw (by decide +kernel)) (a_nil))))) (s_cons (s_set B.toBx.toBw (by decide +kernel) (e_call B.toBx (j := 7) (by kernel_rfl) (by decide +kernel) rfl rfl (a_cons (e_var B.toBx.toBw (by decide +kernel)) (a_nil)))) (s_cons (s_ite (t_cmp .isn B.toBx.toBw rfl (e_var B.toBx.toBw (by decide +kernel)) (e_non B.toBx.toBw)) (s_cons (s_raise B.toBx (i := 0) (by decide +kernel) (by decide +kernel) (e_int B.toBx.toBw)) (s_nil)) (s_nil)) (s_cons (s_ret (e_call B.toBx (j := 180) (by kernel_rfl) (by decide +kernel) rfl rfl (a_cons (e_var B.toBx.toBw (by decide +kernel)) (a_cons (e_var B.toBx.toBw (by decide +kernel)) (a_cons (e_var B.toBx.toBw (by decide +kernel)) (a_cons (e_var B.toBx.toBw (by decide +kernel)) (a_cons (e_var B.toBx.toBw (by decide +kernel)) (a_nil))))))) nofun) (s_nil)))))
theorem b183 {Γ : Ga} {n : Nat} {X : Cx} {W : WX} (B : Sx Γ T (sem ds n) n N183 (defScope (top 41)) (fun _ => true) X W) : SsI Γ (sem ds n) X W (defBody (top 41)) d183.body :=
  s_cons (s_ret (e_and B.toBx.toBw (e_isin .int B.toBx.toBw (by decide +kernel) (by decide +kernel) (by decide +kernel) (by decide +kernel) (e_var B.toBx.toBw (by decide +kernel))) (e_one B.toBx.toBw (e_not B.toBx.toBw (e_isin .bool B.toBx.toBw (by decide +kernel) (by decide +kernel) (by decide +kernel) (by decide +kernel) (e_var B.toBx.toBw (by decide +kernel)))))) nofun) (s_nil)
theorem b24 {Γ : Ga} {n : Nat} {X : Cx} {W : WX} (B : Sx Γ T (sem ds n) n N24 (defScope (top 42)) (fun _ => true) X W) : SsI Γ (sem ds n) X W (defBody (top 42)) d24.body :=
  s_cons (s_ite (t_or (t_tr rfl (e_isin .tuple B.toBx.toBw (by decide +kernel) (by decide +kernel) (by decide +kernel) (by decide +kernel) (e_var B.toBx.toBw (by decide +kernel)))) (t_one (t_tr rfl (e_isin .tuple B.toBx.toBw (by decide +kernel) (by decide +kernel) (by decide +kernel) (by decide +kernel) (e_var B.toBx.toBw (by decide +kernel)))))) (s_cons (s_ite (t_or (t_not (t_tr rfl (e_isin .tuple B.toBx.toBw (by decide +kernel) (by decide +kernel) (by decide +kernel) (by decide +kernel) (e_var B.toBx.toBw (by decide +kernel))))) (t_or (t_not (t_tr rfl (e_isin .tuple B.toBx.toBw (by decide +kernel) (by decide +kernel) (by decide +kernel) (by decide +kernel) (e_var B.toBx.toBw (by decide +kernel))))) (t_one (t_cmp .ne B.toBx.toBw rfl (e_len B.toBx.toBw (by decide +kernel) (by decide +kernel) (a_cons (e_var B.toBx.toBw (by decide +kernel)) (a_nil))) (e_len B.toBx.toBw (by decide +kernel) (by decide +kernel) (a_cons (e_var B.toBx.toBw (by decide +kernel)) (a_nil))))))) (s_cons (s_ret (e_bl B.toBx.toBw) nofun) (s_nil)) (s_nil)) (s_cons (s_forR B (r_rng1 B.toBx.toBw (by decide +kernel) (by decide +kernel) (e_len B.toBx.toBw (by decide +kernel) (by decide +kernel) (a_cons (e_var B.toBx.toBw (by decide +kernel)) (a_nil)))) (g_nm B.toBx.toBw (by decide +kernel)) (s_cons (s_ite (t_not (t_tr rfl (e_call B.toBx (j := 24) (by kernel_rfl) (by decide +kernel) rfl rfl (a_cons (e_ix B.toBx.toBw rfl (e_var B.toBx.toBw (by decide +kernel)) (e_var B.toBx.toBw (by decide +kernel))) (a_cons (e_ix B.toBx.toBw rfl (e_var B.toBx.toBw (by decide +kernel)) (e_var B.toBx.toBw (by decide +kernel))) (a_nil)))))) (s_cons (s_ret (e_bl B.toBx.toBw) nofun) (s_nil)) (s_nil)) (s_nil)) (by funext; rfl)) (s_cons (s_ret (e_bl B.toBx.toBw) nofun) (s_nil)))) (s_nil)) (s_cons (s_ite (t_or (t_cmp .isn B.toBx.toBw rfl (e_var B.toBx.toBw (by decide +kernel)) (e_non B.toBx.toBw)) (t_one (t_cmp .isn B.toBx.toBw rfl (e_var B.toBx.toBw (by decide +kernel)) (e_non B.toBx.toBw)))) (s_cons (s_ret (e_and B.toBx.toBw (e_cmp .isn B.toBx.toBw rfl (e_var B.toBx.toBw (by decide +kernel)) (e_non B.toBx.toBw)) (e_one B.toBx.toBw (e_cmp .isn B.toBx.toBw rfl (e_var B.toBx.toBw (by decide +kernel)) (e_non B.toBx.toBw)))) nofun) (s_nil)) (s_nil)) (s_cons (s_ite (t_or (t_cmp .ne B.toBx.toBw rfl (e_isin .bool B.toBx.toBw (by decide +kernel) (by decide +kernel) (by decide +kernel) (by decide +kernel) (e_var B.toBx.toBw (by decide +kernel))) (e_isin .bool B.toBx.toBw (by decide +kernel) (by decide +kernel) (by decide +kernel) (by decide +kernel) (e_var B.toBx.toBw (by decide +kernel)))) (t_one (t_cmp .ne B.toBx.toBw rfl (e_isin .str B.toBx.toBw (by decide +kernel) (by decide +kernel) (by decide +kernel) (by decide +kernel) (e_var B.toBx.toBw (by decide +kernel))) (e_isin .str B.toBx.toBw (by decide +kernel) (by decide +kernel) (by decide +kernel) (by decide +kernel) (e_var B.toBx.toBw (by decide +kernel)))))) (s_cons (s_ret (e_bl B.toBx.toBw) nofun) (s_nil)) (s_nil)) (s_cons (s_ret (e_and B.toBx.toBw (e_isin2 .int .str B.toBx.toBw (by decide +kernel) (by decide +kernel) (by decide +kernel) (by decide +kernel) (by decide +kernel) (by decide +kernel) (e_var B.toBx.toBw (by decide +kernel))) (e_one B.toBx.toBw (e_cmp .eq B.toBx.toBw rfl (e_var B.toBx.toBw (by decide +kernel)) (e_var B.toBx.toBw (by decide +kernel))))) nofun) (s_nil))))
theorem b25 {Γ : Ga} {n : Nat} {X : Cx} {W : WX} (B : Sx Γ T (sem ds n) n N25 (defScope (top 43)) (fun _ => true) X W) : SsI Γ (sem ds n) X W (defBody (top 43)) d25.body :=
  s_cons (s_ite (t_tr rfl (e_isin .tuple B.toBx.toBw (by decide +kernel) (by decide +kernel) (by decide +kernel) (by decide +kernel) (e_var B.toBx.toBw (by decide +kernel)))) (s_cons (s_ret (c_comp [("part", 1)] B.toBx (by decide +kernel) (by decide +kernel) (i_seq rfl (e_var B.toBx.toBw (by decide +kernel))) (fun _ B1 => g_nm B1.toBw (by decide +kernel)) (fun _ B1 => e_call B1 (j := 25) (by kernel_rfl) (by decide +kernel) rfl rfl (a_cons (e_var B1.toBw (by decide +kernel)) (a_nil)))) nofun) (s_nil)) (s_nil)) (s_cons (s_retV B.toBx.toBw (by decide +kernel)) (s_nil))
theorem b26 {Γ : Ga} {n : Nat} {X : Cx} {W : WX} (B : Sx Γ T (sem ds n) n N26 (defScope (top 44)) (fun _ => true) X W) : SsI Γ (sem ds n) X W (defBody (top 44)) d26.body :=
  s_cons (s_ite (t_cmp .lt B.toBx.toBw rfl (e_var B.toBx.toBw (by decide +kernel)) (e_len B.toBx.toBw (by decide +kernel) (by decide +kernel) (a_cons (e_var B.toBx.toBw (by decide +kernel)) (a_nil)))) (s_cons (s_ret (e_bint B.toBx.toBw (by decide +kernel) (by decide +kernel) (a_cons (e_ix B.toBx.toBw rfl (e_var B.toBx.toBw (by decide +kernel)) (e_var B.toBx.toBw (by decide +kernel))) (a_nil))) nofun) (s_nil)) (s_nil)) (s_cons (s_ret (e_int B.toBx.toBw) nofun) (s_nil))
theorem b27 {Γ : Ga} {n : Nat} {X : Cx} {W : WX} (B : Sx Γ T (sem ds n) n N27 (defScope (top 45)) (fun _ => true) X W) : SsI Γ (sem ds n) X W (defBody (top 45)) d27.body :=
  s_cons (s_set B.toBx.toBw (by decide +kernel) (e_abs B.toBx.toBw (by decide +kernel) (by decide +kernel) (a_cons (e_var B.toBx.toBw (by decide +kernel)) (a_nil)))) (s_cons (s_set B.toBx.toBw (by decide +kernel) (e_var B.toBx.toBw (by decide +kernel))) (s_cons (s_forR B (r_rng1 B.toBx.toBw (by decide +kernel) (by decide +kernel) (e_int B.toBx.toBw)) (g_nm B.toBx.toBw (by decide +kernel)) (s_cons (s_ite (t_cmp .eq B.toBx.toBw rfl (e_var B.toBx.toBw (by decide +kernel)) (e_int B.toBx.toBw)) (s_cons (s_brk) (s_nil)) (s_nil)) (s_cons (s_set B.toBx.toBw (by decide +kernel) (e_mod B.toBx.toBw (e_bint B.toBx.toBw (by decide +kernel) (by decide +kernel) (a_cons (e_var B.toBx.toBw (by decide +kernel)) (a_nil))) (e_var B.toBx.toBw (by decide +kernel)))) (s_cons (s_set B.toBx.toBw (by decide +kernel) (e_var B.toBx.toBw (by decide +kernel))) (s_cons (s_set B.toBx.toBw (by decide +kernel) (e_var B.toBx.toBw (by decide +kernel))) (s_nil))))) (by funext; rfl)) (s_cons (s_ret (e_tup B.toBx.toBw (a_cons (e_fdiv B.toBx.toBw (e_var B.toBx.toBw (by decide +kernel)) (e_var B.toBx.toBw (by decide +kernel))) (a_cons (e_fdiv B.toBx.toBw (e_var B.toBx.toBw (by decide +kernel)) (e_var B.toBx.toBw (by decide +kernel))) (a_nil)))) nofun) (s_nil))))
theorem b28 {Γ : Ga} {n : Nat} {X : Cx} {W : WX} (B : Sx Γ T (sem ds n) n N28 (defScope (top 46)) (fun _ => true) X W) : SsI Γ (sem ds n) X W (defBody (top 46)) d28.body :=
  s_cons (s_ret (e_call B.toBx (j := 27) (by kernel_rfl) (by decide +kernel) rfl rfl (a_cons (e_add B.toBx.toBw (e_mul B.toBx.toBw (e_ix B.toBx.toBw rfl (e_var B.toBx.toBw (by decide +kernel)) (e_int B.toBx.toBw)) (e_ix B.toBx.toBw rfl (e_var B.toBx.toBw (by decide +kernel)) (e_int B.toBx.toBw))) (e_mul B.toBx.toBw (e_ix B.toBx.toBw rfl (e_var B.toBx.toBw (by decide +kernel)) (e_int B.toBx.toBw)) (e_ix B.toBx.toBw rfl (e_var B.toBx.toBw (by decide +kernel)) (e_int B.toBx.toBw)))) (a_cons (e_mul B.toBx.toBw (e_ix B.toBx.toBw rfl (e_var B.toBx.toBw (by decide +kernel)) (e_int B.toBx.toBw)) (e_ix B.toBx.toBw rfl (e_var B.toBx.toBw (by decide +kernel)) (e_int B.toBx.toBw))) (a_nil)))) nofun) (s_nil)
theorem b29 {Γ : Ga} {n : Nat} {X : Cx} {W : WX} (B : Sx Γ T (sem ds n) n N29 (defScope (top 47)) (fun _ => true) X W) : SsI Γ (sem ds n) X W (defBody (top 47)) d29.body :=
  s_cons (s_ret (e_call B.toBx (j := 27) (by kernel_rfl) (by decide +kernel) rfl rfl (a_cons (e_sub B.toBx.toBw (e_mul B.toBx.toBw (e_ix B.toBx.toBw rfl (e_var B.toBx.toBw (by decide +kernel)) (e_int B.toBx.toBw)) (e_ix B.toBx.toBw rfl (e_var B.toBx.toBw (by decide +kernel)) (e_int B.toBx.toBw))) (e_mul B.toBx.toBw (e_ix B.toBx.toBw rfl (e_var B.toBx.toBw (by decide +kernel)) (e_int B.toBx.toBw)) (e_ix B.toBx.toBw rfl (e_var B.toBx.toBw (by decide +kernel)) (e_int B.toBx.toBw)))) (a_cons (e_mul B.toBx.toBw (e_ix B.toBx.toBw rfl (e_var B.toBx.toBw (by decide +kernel)) (e_int B.toBx.toBw)) (e_ix B.toBx.toBw rfl (e_var B.toBx.toBw (by decide +kernel)) (e_int B.toBx.toBw))) (a_nil)))) nofun) (s_nil)
theorem b30 {Γ : Ga} {n : Nat} {X : Cx} {W : WX} (B : Sx Γ T (sem ds n) n N30 (defScope (top 48)) (fun _ => true) X W) : SsI Γ (sem ds n) X W (defBody (top 48)) d30.body :=
  s_cons (s_ret (e_call B.toBx (j := 27) (by kernel_rfl) (by decide +kernel) rfl rfl (a_cons (e_mul B.toBx.toBw (e_ix B.toBx.toBw rfl (e_var B.toBx.toBw (by decide +kernel)) (e_int B.toBx.toBw)) (e_ix B.toBx.toBw rfl (e_var B.toBx.toBw (by decide +kernel)) (e_int B.toBx.toBw))) (a_cons (e_mul B.toBx.toBw (e_ix B.toBx.toBw rfl (e_var B.toBx.toBw (by decide +kernel)) (e_int B.toBx.toBw)) (e_ix B.toBx.toBw rfl (e_var B.toBx.toBw (by decide +kernel)) (e_int B.toBx.toBw))) (a_nil)))) nofun) (s_nil)
theorem b77 {Γ : Ga} {n : Nat} {X : Cx} {W : WX} (B : Sx Γ T (sem ds n) n N77 (defScope (top 49)) (fun _ => true) X W) : SsI Γ (sem ds n) X W (defBody (top 49)) d77.body :=
  s_cons (s_ret (e_cmp .lt B.toBx.toBw rfl (e_mul B.toBx.toBw (e_ix B.toBx.toBw rfl (e_var B.toBx.toBw (by decide +kernel)) (e_int B.toBx.toBw)) (e_ix B.toBx.toBw rfl (e_var B.toBx.toBw (by decide +kernel)) (e_int B.toBx.toBw))) (e_mul B.toBx.toBw (e_ix B.toBx.toBw rfl (e_var B.toBx.toBw (by decide +kernel)) (e_int B.toBx.toBw)) (e_ix B.toBx.toBw rfl (e_var B.toBx.toBw (by decide +kernel)) (e_int B.toBx.toBw)))) nofun) (s_nil)
theorem b31 {Γ : Ga} {n : Nat} {X : Cx} {W : WX} (B : Sx Γ T (sem ds n) n N31 (defScope (top 50)) (fun _ => true) X W) : SsI Γ (sem ds n) X W (defBody (top 50)) d31.body :=
  s_cons (s_set B.toBx.toBw (by decide +kernel) (e_ife B.toBx.toBw (t_cmp .lt B.toBx.toBw rfl (e_var B.toBx.toBw (by decide +kernel)) (e_len B.toBx.toBw (by decide +kernel) (by decide +kernel) (a_cons (e_var B.toBx.toBw (by decide +kernel)) (a_nil)))) (e_ix B.toBx.toBw rfl (e_var B.toBx.toBw (by decide +kernel)) (e_var B.toBx.toBw (by decide +kernel))) (e_int B.toBx.toBw))) (s_cons (s_set B.toBx.toBw (by decide +kernel) (e_lst B.toBx.toBw (a_nil))) (s_cons (s_set B.toBx.toBw (by decide +kernel) (e_var B.toBx.toBw (by decide +kernel))) (s_cons (s_forR B (r_rng1 B.toBx.toBw (by decide +kernel) (by decide +kernel) (e_var B.toBx.toBw (by decide +kernel))) (g_nm B.toBx.toBw (by decide +kernel)) (s_cons (s_ite (t_cmp .ge B.toBx.toBw rfl (e_var B.toBx.toBw (by decide +kernel)) (e_pow B.toBx.toBw (e_int B.toBx.toBw) (e_int B.toBx.toBw))) (s_cons (s_app B.toBx.toBw (by decide +kernel) rfl (e_mod B.toBx.toBw (e_bint B.toBx.toBw (by decide +kernel) (by decide +kernel) (a_cons (e_var B.toBx.toBw (by decide +kernel)) (a_nil))) (e_pow B.toBx.toBw (e_int B.toBx.toBw) (e_int B.toBx.toBw)))) (s_cons (s_set B.toBx.toBw (by decide +kernel) (e_fdiv B.toBx.toBw (e_var B.toBx.toBw (by decide +kernel)) (e_pow B.toBx.toBw (e_int B.toBx.toBw) (e_int B.toBx.toBw)))) (s_nil))) (s_cons (s_set B.toBx.toBw (by decide +kernel) (e_mod B.toBx.toBw (e_bint B.toBx.toBw (by decide +kernel) (by decide +kernel) (a_cons (e_add B.toBx.toBw (e_add B.toBx.toBw (e_mul B.toBx.toBw (e_var B.toBx.toBw (by decide +kernel)) (e_int B.toBx.toBw)) (e_mul B.toBx.toBw (e_add B.toBx.toBw (e_var B.toBx.toBw (by decide +kernel)) (e_int B.toBx.toBw)) (e_int B.toBx.toBw))) (e_var B.toBx.toBw (by decide +kernel))) (a_nil))) (e_int B.toBx.toBw))) (s_cons (s_app B.toBx.toBw (by decide +kernel) rfl (e_mod B.toBx.toBw (e_mod B.toBx.toBw (e_bint B.toBx.toBw (by decide +kernel) (by decide +kernel) (a_cons (e_add B.toBx.toBw (e_mul B.toBx.toBw (e_var B.toBx.toBw (by decide +kernel)) (e_int B.toBx.toBw)) (e_mul B.toBx.toBw (e_add B.toBx.toBw (e_var B.toBx.toBw (by decide +kernel)) (e_int B.toBx.toBw)) (e_int B.toBx.toBw))) (a_nil))) (e_int B.toBx.toBw)) (e_pow B.toBx.toBw (e_int B.toBx.toBw) (e_int B.toBx.toBw)))) (s_nil)))) (s_nil)) (by funext; rfl)) (s_cons (s_retV B.toBx.toBw (by decide +kernel)) (s_nil)))))
theorem b184 {Γ : Ga} {n : Nat} {X : Cx} {W : WX} (B : Sx Γ T (sem ds n) n N184 (defScope (top 51)) (fun _ => true) X W) : SsI Γ (sem ds n) X W (defBody (top 51)) d184.body :=
  s_cons (s_set B.toBx.toBw (by decide +kernel) (e_sub B.toBx.toBw (e_mod B.toBx.toBw (e_bint B.toBx.toBw (by decide +kernel) (by decide +kernel) (a_cons (e_var B.toBx.toBw (by decide +kernel)) (a_nil))) (e_int B.toBx.toBw)) (e_int B.toBx.toBw))) (s_cons (s_ret (e_call B.toBx (j := 27) (by kernel_rfl) (by decide +kernel) rfl rfl (a_cons (e_var B.toBx.toBw (by decide +kernel)) (a_cons (e_add B.toBx.toBw (e_int B.toBx.toBw) (e_mod B.toBx.toBw (e_bint B.toBx.toBw (by decide +kernel) (by decide +kernel) (a_cons (e_fdiv B.toBx.toBw (e_var B.toBx.toBw (by decide +kernel)) (e_int B.toBx.toBw)) (a_nil))) (e_int B.toBx.toBw))) (a_nil)))) nofun) (s_nil))
theorem b185 {Γ : Ga} {n : Nat} {X : Cx} {W : WX} (B : Sx Γ T (sem ds n) n N185 (defScope (top 52)) (fun _ => true) X W) : SsI Γ (sem ds n) X W (defBody (top 52)) d185.body :=
  s_cons (s_set B.toBx.toBw (by decide +kernel) (e_lst B.toBx.toBw (a_nil))) (s_cons (s_forR B (r_rng1 B.toBx.toBw (by decide +kernel) (by decide +kernel) (e_var B.toBx.toBw (by decide +kernel))) (g_nm B.toBx.toBw (by decide +kernel)) (s_cons (s_app B.toBx.toBw (by decide +kernel) rfl (e_tuple B.toBx.toBw (by decide +kernel) (by decide +kernel) (a_cons (c_comp [("c", 5)] B.toBx (by decide +kernel) (by decide +kernel) (i_rng1 B.toBx.toBw (by decide +kernel) (by decide +kernel) (e_add B.toBx.toBw (e_var B.toBx.toBw (by decide +kernel)) (e_int B.toBx.toBw))) (fun _ B1 => g_nm B1.toBw (by decide +kernel)) (fun _ B1 => e_call B1 (j := 184) (by kernel_rfl) (by decide +kernel) rfl rfl (a_cons (e_fdiv B1.toBw (e_ix B1.toBw rfl (e_var B1.toBw (by decide +kernel)) (e_var B1.toBw (by decide +kernel))) (e_ix B1.toBw rfl (e_lst B1.toBw (a_cons (e_int B1.toBw) (a_cons (e_int B1.toBw) (a_cons (e_int B1.toBw) (a_nil))))) (e_var B1.toBw (by decide +kernel)))) (a_nil)))) (a_nil)))) (s_nil)) (by funext; rfl)) (s_cons (s_ret (e_tuple B.toBx.toBw (by decide +kernel) (by decide +kernel) (a_cons (e_var B.toBx.toBw (by decide +kernel)) (a_nil))) nofun) (s_nil)))
theorem b186 {Γ : Ga} {n : Nat} {X : Cx} {W : WX} (B : Sx Γ T (sem ds n) n N186 (defScope (top 53)) (fun _ => true) X W) : SsI Γ (sem ds n) X W (defBody (top 53)) d186.body :=
  s_cons (s_set B.toBx.toBw (by decide +kernel) (e_mul B.toBx.toBw (e_lst B.toBx.toBw (a_cons (e_tup B.toBx.toBw (a_cons (e_int B.toBx.toBw) (a_cons (e_int B.toBx.toBw) (a_nil)))) (a_nil))) (e_add B.toBx.toBw (e_var B.toBx.toBw (by decide +kernel)) (e_int B.toBx.toBw)))) (s_cons (s_forR B (r_rng1 B.toBx.toBw (by decide +kernel) (by decide +kernel) (e_len B.toBx.toBw (by decide +kernel) (by decide +kernel) (a_cons (e_var B.toBx.toBw (by decide +kernel)) (a_nil)))) (g_nm B.toBx.toBw (by decide +kernel)) (s_cons (s_set B.toBx.toBw (by decide +kernel) (c_comp [("c", 5)] B.toBx (by decide +kernel) (by decide +kernel) (i_rng1 B.toBx.toBw (by decide +kernel) (by decide +kernel) (e_add B.toBx.toBw (e_var B.toBx.toBw (by decide +kernel)) (e_int B.toBx.toBw))) (fun _ B1 => g_nm B1.toBw (by decide +kernel)) (fun _ B1 => e_call B1 (j := 28) (by kernel_rfl) (by decide +kernel) rfl rfl (a_cons (e_ix B1.toBw rfl (e_var B1.toBw (by decide +kernel)) (e_var B1.toBw (by decide +kernel))) (a_cons (e_call B1 (j := 30) (by kernel_rfl) (by decide +kernel) rfl rfl (a_cons (e_ix B1.toBw rfl (e_var B1.toBw (by decide +kernel)) (e_var B1.toBw (by decide +kernel))) (a_cons (e_ix B1.toBw rfl (e_ix B1.toBw rfl (e_var B1.toBw (by decide +kernel)) (e_var B1.toBw (by decide +kernel))) (e_var B1.toBw (by decide +kernel))) (a_nil)))) (a_nil)))))) (s_nil)) (by funext; rfl)) (s_cons (s_retV B.toBx.toBw (by decide +kernel)) (s_nil)))
theorem b187 {Γ : Ga} {n : Nat} {X : Cx} {W : WX} (B : Sx Γ T (sem ds n) n N187 (defScope (top 54)) (fun _ => true) X W) : SsI Γ (sem ds n) X W (defBody (top 54)) d187.body :=
  s_cons (s_ite (t_or (t_not (t_tr rfl (e_isin .tuple B.toBx.toBw (by decide +kernel) (by decide +kernel) (by decide +kernel) (by decide +kernel) (e_var B.toBx.toBw (by decide +kernel))))) (t_one (t_cmp .ne B.toBx.toBw rfl (e_len B.toBx.toBw (by decide +kernel) (by decide +kernel) (a_cons (e_var B.toBx.toBw (by decide +kernel)) (a_nil))) (e_var B.toBx.toBw (by decide +kernel))))) (s_cons (s_ret (e_bl B.toBx.toBw) nofun) (s_nil)) (s_nil)) (s_cons (s_for B (i_seq rfl (e_var B.toBx.toBw (by decide +kernel))) (g_nm B.toBx.toBw (by decide +kernel)) (s_cons (s_ite (t_or (t_not (t_tr rfl (e_isin .tuple B.toBx.toBw (by decide +kernel) (by decide +kernel) (by decide +kernel) (by decide +kernel) (e_var B.toBx.toBw (by decide +kernel))))) (t_or (t_cmp .ne B.toBx.toBw rfl (e_len B.toBx.toBw (by decide +kernel) (by decide +kernel) (a_cons (e_var B.toBx.toBw (by decide +kernel)) (a_nil))) (e_int B.toBx.toBw)) (t_or (t_not (t_tr rfl (e_call B.toBx (j := 183) (by kernel_rfl) (by decide +kernel) rfl rfl (a_cons (e_ix B.toBx.toBw rfl (e_var B.toBx.toBw (by decide +kernel)) (e_int B.toBx.toBw)) (a_nil))))) (t_one (t_not (t_tr rfl (e_call B.toBx (j := 183) (by kernel_rfl) (by decide +kernel) rfl rfl (a_cons (e_ix B.toBx.toBw rfl (e_var B.toBx.toBw (by decide +kernel)) (e_int B.toBx.toBw)) (a_nil))))))))) (s_cons (s_ret (e_bl B.toBx.toBw) nofun) (s_nil)) (s_nil)) (s_cons (s_ite (t_or (t_cmp .lt B.toBx.toBw rfl (e_ix B.toBx.toBw rfl (e_var B.toBx.toBw (by decide +kernel)) (e_int B.toBx.toBw)) (e_int B.toBx.toBw)) (t_or (t_cmp .lt B.toBx.toBw rfl (e_ix B.toBx.toBw rfl (e_var B.toBx.toBw (by decide +kernel)) (e_int B.toBx.toBw)) (e_int B.toBx.toBw)) (t_one (t_cmp .ne B.toBx.toBw rfl (e_call B.toBx (j := 27) (by kernel_rfl) (by decide +kernel) rfl rfl (a_cons (e_ix B.toBx.toBw rfl (e_var B.toBx.toBw (by decide +kernel)) (e_int B.toBx.toBw)) (a_cons (e_ix B.toBx.toBw rfl (e_var B.toBx.toBw (by decide +kernel)) (e_int B.toBx.toBw)) (a_nil)))) (e_var B.toBx.toBw (by decide +kernel)))))) (s_cons (s_ret (e_bl B.toBx.toBw) nofun) (s_nil)) (s_nil)) (s_nil))) (by funext; rfl)) (s_cons (s_ret (e_bl B.toBx.toBw) nofun) (s_nil)))
theorem b188 {Γ : Ga} {n : Nat} {X : Cx} {W : WX} (B : Sx Γ T (sem ds n) n N188 (defScope (top 55)) (fun _ => true) X W) : SsI Γ (sem ds n) X W (defBody (top 55)) d188.body :=
  s_cons (s_ite (t_not (t_tr rfl (e_call B.toBx (j := 187) (by kernel_rfl) (by decide +kernel) rfl rfl (a_cons (e_var B.toBx.toBw (by decide +kernel)) (a_cons (e_len B.toBx.toBw (by decide +kernel) (by decide +kernel) (a_cons (e_var B.toBx.toBw (by decide +kernel)) (a_nil))) (a_nil)))))) (s_cons (s_ret (e_bl B.toBx.toBw) nofun) (s_nil)) (s_nil)) (s_cons (s_set B.toBx.toBw (by decide +kernel) (e_call B.toBx (j := 186) (by kernel_rfl) (by decide +kernel) rfl rfl (a_cons (e_var B.toBx.toBw (by decide +kernel)) (a_cons (e_var B.toBx.toBw (by decide +kernel)) (a_cons (e_var B.toBx.toBw (by decide +kernel)) (a_nil)))))) (s_cons (s_ite (t_cmp .isnn B.toBx.toBw rfl (e_var B.toBx.toBw (by decide +kernel)) (e_non B.toBx.toBw)) (s_cons (s_set B.toBx.toBw (by decide +kernel) (c_comp [("c", 6)] B.toBx (by decide +kernel) (by decide +kernel) (i_rng1 B.toBx.toBw (by decide +kernel) (by decide +kernel) (e_add B.toBx.toBw (e_var B.toBx.toBw (by decide +kernel)) (e_int B.toBx.toBw))) (fun _ B1 => g_nm B1.toBw (by decide +kernel)) (fun _ B1 => e_call B1 (j := 28) (by kernel_rfl) (by decide +kernel) rfl rfl (a_cons (e_ix B1.toBw rfl (e_var B1.toBw (by decide +kernel)) (e_var B1.toBw (by decide +kernel))) (a_cons (e_ix B1.toBw rfl (e_var B1.toBw (by decide +kernel)) (e_var B1.toBw (by decide +kernel))) (a_nil)))))) (s_nil)) (s_nil)) (s_cons (s_ite (t_cmp .ne B.toBx.toBw rfl (c_compI [("one", 7)] B.toBx (by decide +kernel) (by decide +kernel) (i_seq rfl (e_sl B.toBx.toBw (e_var B.toBx.toBw (by decide +kernel)) (q_some (e_int B.toBx.toBw)) q_none)) (fun _ B2 => g_nm B2.toBw (by decide +kernel)) (fun _ B2 => t_cmp .gt B2.toBw rfl (e_ix B2.toBw rfl (e_var B2.toBw (by decide +kernel)) (e_int B2.toBw)) (e_int B2.toBw)) (fun _ B2 => e_var B2.toBw (by decide +kernel))) (e_lst B.toBx.toBw (a_nil))) (s_cons (s_ret (e_bl B.toBx.toBw) nofun) (s_nil)) (s_nil)) (s_cons (s_ite (t_cmp .isn B.toBx.toBw rfl (e_var B.toBx.toBw (by decide +kernel)) (e_non B.toBx.toBw)) (s_cons (s_ret (e_cmp .lt B.toBx.toBw rfl (e_ix B.toBx.toBw rfl (e_ix B.toBx.toBw rfl (e_var B.toBx.toBw (by decide +kernel)) (e_int B.toBx.toBw)) (e_int B.toBx.toBw)) (e_int B.toBx.toBw)) nofun) (s_nil)) (s_nil)) (s_cons (s_ret (e_not B.toBx.toBw (e_call B.toBx (j := 77) (by kernel_rfl) (by decide +kernel) rfl rfl (a_cons (e_var B.toBx.toBw (by decide +kernel)) (a_cons (e_ix B.toBx.toBw rfl (e_var B.toBx.toBw (by decide +kernel)) (e_int B.toBx.toBw)) (a_nil))))) nofun) (s_nil))))))
theorem b189 {Γ : Ga} {n : Nat} {X : Cx} {W : WX} (B : Sx Γ T (sem ds n) n N189 (defScope (top 56)) (fun _ => true) X W) : SsI Γ (sem ds n) X W (defBody (top 56)) d189.body :=
  s_cons (s_set B.toBx.toBw (by decide +kernel) (e_mod B.toBx.toBw (e_call B.toBx (j := 26) (by kernel_rfl) (by decide +kernel) rfl rfl (a_cons (e_var B.toBx.toBw (by decide +kernel)) (a_cons (e_int B.toBx.toBw) (a_nil)))) (e_int B.toBx.toBw))) (s_cons (s_set B.toBx.toBw (by decide +kernel) (e_add B.toBx.toBw (e_int B.toBx.toBw) (e_mod B.toBx.toBw (e_call B.toBx (j := 26) (by kernel_rfl) (by decide +kernel) rfl rfl (a_cons (e_var B.toBx.toBw (by decide +kernel)) (a_cons (e_int B.toBx.toBw) (a_nil)))) (e_int B.toBx.toBw)))) (s_cons (s_set B.toBx.toBw (by decide +kernel) (e_call B.toBx (j := 31) (by kernel_rfl) (by decide +kernel) rfl rfl (a_cons (e_var B.toBx.toBw (by decide +kernel)) (a_cons (e_int B.toBx.toBw) (a_cons (e_int B.toBx.toBw) (a_nil)))))) (s_cons (s_set B.toBx.toBw (by decide +kernel) (e_call B.toBx (j := 185) (by kernel_rfl) (by decide +kernel) rfl rfl (a_cons (e_sl B.toBx.toBw (e_var B.toBx.toBw (by decide +kernel)) q_none (q_some (e_int B.toBx.toBw))) (a_cons (e_var B.toBx.toBw (by decide +kernel)) (a_cons (e_var B.toBx.toBw (by decide +kernel)) (a_nil)))))) (s_cons (s_set B.toBx.toBw (by decide +kernel) (e_ix B.toBx.toBw rfl (e_call B.toBx (j := 185) (by kernel_rfl) (by decide +kernel) rfl rfl (a_cons (e_sl B.toBx.toBw (e_var B.toBx.toBw (by decide +kernel)) (q_some (e_int B.toBx.toBw)) (q_some (e_int B.toBx.toBw))) (a_cons (e_var B.toBx.toBw (by decide +kernel)) (a_cons (e_int B.toBx.toBw) (a_nil))))) (e_int B.toBx.toBw))) (s_cons (s_set B.toBx.toBw (by decide +kernel) (e_call B.toBx (j := 184) (by kernel_rfl) (by decide +kernel) rfl rfl (a_cons (e_ix B.toBx.toBw rfl (e_var B.toBx.toBw (by decide +kernel)) (e_int B.toBx.toBw)) (a_nil)))) (s_cons (s_set B.toBx.toBw (by decide +kernel) (e_tuple B.toBx.toBw (by decide +kernel) (by decide +kernel) (a_cons (c_comp [("k", 15)] B.toBx (by decide +kernel) (by decide +kernel) (i_rng1 B.toBx.toBw (by decide +kernel) (by decide +kernel) (e_var B.toBx.toBw (by decide +kernel))) (fun _ B1 => g_nm B1.toBw (by decide +kernel)) (fun _ B1 => e_call B1 (j := 27) (by kernel_rfl) (by decide +kernel) rfl rfl (a_cons (e_mod B1.toBw (e_bint B1.toBw (by decide +kernel) (by decide +kernel) (a_cons (e_ix B1.toBw rfl (e_var B1.toBw (by decide +kernel)) (e_add B1.toBw (e_int B1.toBw) (e_var B1.toBw (by decide +kernel)))) (a_nil))) (e_int B1.toBw)) (a_cons (e_add B1.toBw (e_int B1.toBw) (e_mod B1.toBw (e_bint B1.toBw (by decide +kernel) (by decide +kernel) (a_cons (e_fdiv B1.toBw (e_ix B1.toBw rfl (e_var B1.toBw (by decide +kernel)) (e_add B1.toBw (e_int B1.toBw) (e_var B1.toBw (by decide +kernel)))) (e_int B1.toBw)) (a_nil))) (e_int B1.toBw))) (a_nil))))) (a_nil)))) (s_cons (s_set B.toBx.toBw (by decide +kernel) (e_tuple B.toBx.toBw (by decide +kernel) (by decide +kernel) (a_cons (e_mul B.toBx.toBw (e_lst B.toBx.toBw (a_cons (e_tup B.toBx.toBw (a_cons (e_int B.toBx.toBw) (a_cons (e_int B.toBx.toBw) (a_nil)))) (a_nil))) (e_var B.toBx.toBw (by decide +kernel))) (a_nil)))) (s_cons (s_for B (i_seq rfl (e_lst B.toBx.toBw (a_cons (e_var B.toBx.toBw (by decide +kernel)) (a_cons (e_var B.toBx.toBw (by decide +kernel)) (a_cons (e_tuple B.toBx.toBw (by decide +kernel) (by decide +kernel) (a_cons (e_mul B.toBx.toBw (e_lst B.toBx.toBw (a_cons (e_tup B.toBx.toBw (a_cons (e_int B.toBx.toBw) (a_cons (e_int B.toBx.toBw) (a_nil)))) (a_nil))) (e_var B.toBx.toBw (by decide +kernel))) (a_nil))) (a_cons (e_sl B.toBx.toBw (e_var B.toBx.toBw (by decide +kernel)) (q_some (e_int B.toBx.toBw)) q_none) (a_cons (e_add B.toBx.toBw (e_var B.toBx.toBw (by decide +kernel)) (e_tup B.toBx.toBw (a_cons (e_tup B.toBx.toBw (a_cons (e_int B.toBx.toBw) (a_cons (e_int B.toBx.toBw) (a_nil)))) (a_nil)))) (a_cons (e_non B.toBx.toBw) (a_cons (e_int B.toBx.toBw) (a_cons (e_add B.toBx.toBw (e_tup B.toBx.toBw (a_cons (e_tup B.toBx.toBw (a_cons (e_neg B.toBx.toBw (e_int B.toBx.toBw)) (a_cons (e_int B.toBx.toBw) (a_nil)))) (a_nil))) (e_sl B.toBx.toBw (e_var B.toBx.toBw (by decide +kernel)) (q_some (e_int B.toBx.toBw)) q_none)) (a_nil))))))))))) (g_nm B.toBx.toBw (by decide +kernel)) (s_cons (s_ite (t_not (t_tr rfl (e_call B.toBx (j := 24) (by kernel_rfl) (by decide +kernel) rfl rfl (a_cons (e_call B.toBx (j := 181) (by kernel_rfl) (by decide +kernel) rfl rfl (a_cons (e_var B.toBx.toBw (by decide +kernel)) (a_cons (e_var B.toBx.toBw (by decide +kernel)) (a_nil)))) (a_cons (e_call B.toBx (j := 188) (by kernel_rfl) (by decide +kernel) rfl rfl (a_cons (e_var B.toBx.toBw (by decide +kernel)) (a_cons (e_non B.toBx.toBw) (a_cons (e_non B.toBx.toBw) (a_cons (e_var B.toBx.toBw (by decide +kernel)) (a_cons (e_var B.toBx.toBw (by decide +kernel)) (a_nil))))))) (a_nil)))))) (s_cons (s_ret (e_bl B.toBx.toBw) nofun) (s_nil)) (s_nil)) (s_cons (s_ite (t_not (t_tr rfl (e_call B.toBx (j := 24) (by kernel_rfl) (by decide +kernel) rfl rfl (a_cons (e_call B.toBx (j := 182) (by kernel_rfl) (by decide +kernel) rfl rfl (a_cons (e_call B.toBx (j := 25) (by kernel_rfl) (by decide +kernel) rfl rfl (a_cons (e_var B.toBx.toBw (by decide +kernel)) (a_nil))) (a_cons (e_var B.toBx.toBw (by decide +kernel)) (a_cons (e_var B.toBx.toBw (by decide +kernel)) (a_cons (e_var B.toBx.toBw (by decide +kernel)) (a_nil)))))) (a_cons (e_call B.toBx (j := 188) (by kernel_rfl) (by decide +kernel) rfl rfl (a_cons (e_var B.toBx.toBw (by decide +kernel)) (a_cons (e_var B.toBx.toBw (by decide +kernel)) (a_cons (e_var B.toBx.toBw (by decide +kernel)) (a_cons (e_var B.toBx.toBw (by decide +kernel)) (a_cons (e_var B.toBx.toBw (by decide +kernel)) (a_nil))))))) (a_nil)))))) (s_cons (s_ret (e_bl B.toBx.toBw) nofun) (s_nil)) (s_nil)) (s_nil))) (by funext; rfl)) (s_cons (s_set B.toBx.toBw (by decide +kernel) (e_call B.toBx (j := 186) (by kernel_rfl) (by decide +kernel) rfl rfl (a_cons (e_var B.toBx.toBw (by decide +kernel)) (a_cons (e_var B.toBx.toBw (by decide +kernel)) (a_cons (e_var B.toBx.toBw (by decide +kernel)) (a_nil)))))) (s_cons (s_set B.toBx.toBw (by decide +kernel) (e_call B.toBx (j := 28) (by kernel_rfl) (by decide +kernel) rfl rfl (a_cons (e_ix B.toBx.toBw rfl (e_var B.toBx.toBw (by decide +kernel)) (e_int B.toBx.toBw)) (a_cons (e_ix B.toBx.toBw rfl (e_var B.toBx.toBw (by decide +kernel)) (e_int B.toBx.toBw)) (a_nil))))) (s_cons (s_set B.toBx.toBw (by decide +kernel) (e_call B.toBx (j := 29) (by kernel_rfl) (by decide +kernel) rfl rfl (a_cons (e_var B.toBx.toBw (by decide +kernel)) (a_cons (e_tup B.toBx.toBw (a_cons (e_int B.toBx.toBw) (a_cons (e_int B.toBx.toBw) (a_nil)))) (a_nil))))) (s_cons (s_for B (i_seq rfl (e_lst B.toBx.toBw (a_cons (e_var B.toBx.toBw (by decide +kernel)) (a_cons (e_var B.toBx.toBw (by decide +kernel)) (a_cons (e_call B.toBx (j := 28) (by kernel_rfl) (by decide +kernel) rfl rfl (a_cons (e_var B.toBx.toBw (by decide +kernel)) (a_cons (e_tup B.toBx.toBw (a_cons (e_int B.toBx.toBw) (a_cons (e_int B.toBx.toBw) (a_nil)))) (a_nil)))) (a_nil)))))) (g_nm B.toBx.toBw (by decide +kernel)) (s_cons (s_ite (t_not (t_tr rfl (e_call B.toBx (j := 24) (by kernel_rfl) (by decide +kernel) rfl rfl (a_cons (e_call B.toBx (j := 182) (by kernel_rfl) (by decide +kernel) rfl rfl (a_cons (e_var B.toBx.toBw (by decide +kernel)) (a_cons (e_var B.toBx.toBw (by decide +kernel)) (a_cons (e_var B.toBx.toBw (by decide +kernel)) (a_cons (e_var B.toBx.toBw (by decide +kernel)) (a_nil)))))) (a_cons (e_call B.toBx (j := 188) (by kernel_rfl) (by decide +kernel) rfl rfl (a_cons (e_var B.toBx.toBw (by decide +kernel)) (a_cons (e_var B.toBx.toBw (by decide +kernel)) (a_cons (e_var B.toBx.toBw (by decide +kernel)) (a_cons (e_var B.toBx.toBw (by decide +kernel)) (a_cons (e_var B.toBx.toBw (by decide +kernel)) (a_nil))))))) (a_nil)))))) (s_cons (s_ret (e_bl B.toBx.toBw) nofun) (s_nil)) (s_nil)) (s_nil)) (by funext; rfl)) (s_cons (s_set B.toBx.toBw (by decide +kernel) (e_tuple B.toBx.toBw (by decide +kernel) (by decide +kernel) (a_cons (c_comp [("k", 15)] B.toBx (by decide +kernel) (by decide +kernel) (i_rng1 B.toBx.toBw (by decide +kernel) (by decide +kernel) (e_var B.toBx.toBw (by decide +kernel))) (fun _ B2 => g_nm B2.toBw (by decide +kernel)) (fun _ B2 => e_tup B2.toBw (a_cons (e_call B2 (j := 27) (by kernel_rfl) (by decide +kernel) rfl rfl (a_cons (e_mod B2.toBw (e_bint B2.toBw (by decide +kernel) (by decide +kernel) (a_cons (e_ix B2.toBw rfl (e_var B2.toBw (by decide +kernel)) (e_add B2.toBw (e_int B2.toBw) (e_var B2.toBw (by decide +kernel)))) (a_nil))) (e_int B2.toBw)) (a_cons (e_int B2.toBw) (a_nil)))) (a_cons (e_tup B2.toBw (a_cons (e_int B2.toBw) (a_cons (e_int B2.toBw) (a_nil)))) (a_nil))))) (a_nil)))) (s_cons (s_set B.toBx.toBw (by decide +kernel) (e_lst B.toBx.toBw (a_nil))) (s_cons (s_forR B (r_rng1 B.toBx.toBw (by decide +kernel) (by decide +kernel) (e_var B.toBx.toBw (by decide +kernel))) (g_nm B.toBx.toBw (by decide +kernel)) (s_cons (s_set B.toBx.toBw (by decide +kernel) (e_mul B.toBx.toBw (e_lst B.toBx.toBw (a_cons (e_tup B.toBx.toBw (a_cons (e_int B.toBx.toBw) (a_cons (e_int B.toBx.toBw) (a_nil)))) (a_nil))) (e_add B.toBx.toBw (e_var B.toBx.toBw (by decide +kernel)) (e_int B.toBx.toBw)))) (s_cons (s_ixs B.toBx.toBw (by decide +kernel) (e_tup B.toBx.toBw (a_cons (e_int B.toBx.toBw) (a_cons (e_int B.toBx.toBw) (a_nil)))) (e_add B.toBx.toBw (e_var B.toBx.toBw (by decide +kernel)) (e_int B.toBx.toBw)) (fun _ => rfl) (fun _ => rfl) (fun _ _ => rfl)) (s_cons (s_app B.toBx.toBw (by decide +kernel) rfl (e_tuple B.toBx.toBw (by decide +kernel) (by decide +kernel) (a_cons (e_add B.toBx.toBw (e_lst B.toBx.toBw (a_cons (e_call B.toBx (j := 29) (by kernel_rfl) (by decide +kernel) rfl rfl (a_cons (e_tup B.toBx.toBw (a_cons (e_int B.toBx.toBw) (a_cons (e_int B.toBx.toBw) (a_nil)))) (a_cons (e_ix B.toBx.toBw rfl (e_ix B.toBx.toBw rfl (e_var B.toBx.toBw (by decide +kernel)) (e_var B.toBx.toBw (by decide +kernel))) (e_int B.toBx.toBw)) (a_nil)))) (a_nil))) (e_sl B.toBx.toBw (e_var B.toBx.toBw (by decide +kernel)) (q_some (e_int B.toBx.toBw)) q_none)) (a_nil)))) (s_cons (s_app B.toBx.toBw (by decide +kernel) rfl (e_tuple B.toBx.toBw (by decide +kernel) (by decide +kernel) (a_cons (e_add B.toBx.toBw (e_lst B.toBx.toBw (a_cons (e_ix B.toBx.toBw rfl (e_ix B.toBx.toBw rfl (e_var B.toBx.toBw (by decide +kernel)) (e_var B.toBx.toBw (by decide +kernel))) (e_int B.toBx.toBw)) (a_nil))) (c_comp [("cell", 17)] B.toBx (by decide +kernel) (by decide +kernel) (i_seq rfl (e_sl B.toBx.toBw (e_var B.toBx.toBw (by decide +kernel)) (q_some (e_int B.toBx.toBw)) q_none)) (fun _ B3 => g_nm B3.toBw (by decide +kernel)) (fun _ B3 => e_call B3 (j := 29) (by kernel_rfl) (by decide +kernel) rfl rfl (a_cons (e_tup B3.toBw (a_cons (e_int B3.toBw) (a_cons (e_int B3.toBw) (a_nil)))) (a_cons (e_var B3.toBw (by decide +kernel)) (a_nil)))))) (a_nil)))) (s_nil))))) (by funext; rfl)) (s_cons (s_ret (e_call B.toBx (j := 24) (by kernel_rfl) (by decide +kernel) rfl rfl (a_cons (e_call B.toBx (j := 173) (by kernel_rfl) (by decide +kernel) rfl rfl (a_cons (e_call B.toBx (j := 25) (by kernel_rfl) (by decide +kernel) rfl rfl (a_cons (e_var B.toBx.toBw (by decide +kernel)) (a_nil))) (a_nil))) (a_cons (e_tuple B.toBx.toBw (by decide +kernel) (by decide +kernel) (a_cons (e_var B.toBx.toBw (by decide +kernel)) (a_nil))) (a_nil)))) nofun) (s_nil)))))))))))))))))
theorem sc61 : FnScope N61 ["above", "below"] (defScope (top 7)) := ⟨by decide +kernel, by decide +kernel, by decide +kernel, by decide +kernel, by decide +kernel, by decide +kernel, by decide +kernel⟩
theorem bd61 : Bnd "ratio" (top 7) ["above", "below"] := fun _ _ _ _ _ _ us hl => match us, hl with | [_, _], _ => rfl
theorem sc62 : FnScope N62 ["one", "other"] (defScope (top 8)) := ⟨by decide +kernel, by decide +kernel, by decide +kernel, by decide +kernel, by decide +kernel, by decide +kernel, by decide +kernel⟩
theorem bd62 : Bnd "plus" (top 8) ["one", "other"] := fun _ _ _ _ _ _ us hl => match us, hl with | [_, _], _ => rfl
theorem sc63 : FnScope N63 ["one", "other"] (defScope (top 9)) := ⟨by decide +kernel, by decide +kernel, by decide +kernel, by decide +kernel, by decide +kernel, by decide +kernel, by decide +kernel⟩
theorem bd63 : Bnd "minus" (top 9) ["one", "other"] := fun _ _ _ _ _ _ us hl => match us, hl with | [_, _], _ => rfl
theorem sc64 : FnScope N64 ["one", "other"] (defScope (top 10)) := ⟨by decide +kernel, by decide +kernel, by decide +kernel, by decide +kernel, by decide +kernel, by decide +kernel, by decide +kernel⟩
theorem bd64 : Bnd "times" (top 10) ["one", "other"] := fun _ _ _ _ _ _ us hl => match us, hl with | [_, _], _ => rfl
theorem sc0 : FnScope N0 ["one", "other"] (defScope (top 11)) := ⟨by decide +kernel, by decide +kernel, by decide +kernel, by decide +kernel, by decide +kernel, by decide +kernel, by decide +kernel⟩
theorem bd0 : Bnd "less" (top 11) ["one", "other"] := fun _ _ _ _ _ _ us hl => match us, hl with | [_, _], _ => rfl
theorem sc99 : FnScope N99 ["row", "other"] (defScope (top 12)) := ⟨by decide +kernel, by decide +kernel, by decide +kernel, by decide +kernel, by decide +kernel, by decide +kernel, by decide +kernel⟩
theorem bd99 : Bnd "row_plus" (top 12) ["row", "other"] := fun _ _ _ _ _ _ us hl => match us, hl with | [_, _], _ => rfl
theorem sc100 : FnScope N100 ["row", "other"] (defScope (top 13)) := ⟨by decide +kernel, by decide +kernel, by decide +kernel, by decide +kernel, by decide +kernel, by decide +kernel, by decide +kernel⟩
theorem bd100 : Bnd "row_minus" (top 13) ["row", "other"] := fun _ _ _ _ _ _ us hl => match us, hl with | [_, _], _ => rfl
theorem sc101 : FnScope N101 ["row", "factor"] (defScope (top 14)) := ⟨by decide +kernel, by decide +kernel, by decide +kernel, by decide +kernel, by decide +kernel, by decide +kernel, by decide +kernel⟩
theorem bd101 : Bnd "row_times" (top 14) ["row", "factor"] := fun _ _ _ _ _ _ us hl => match us, hl with | [_, _], _ => rfl
theorem sc142 : FnScope N142 ["constant", "width"] (defScope (top 15)) := ⟨by decide +kernel, by decide +kernel, by decide +kernel, by decide +kernel, by decide +kernel, by decide +kernel, by decide +kernel⟩
theorem bd142 : Bnd "constant_row" (top 15) ["constant", "width"] := fun _ _ _ _ _ _ us hl => match us, hl with | [_, _], _ => rfl
theorem sc156 : FnScope N156 ["at", "width"] (defScope (top 16)) := ⟨by decide +kernel, by decide +kernel, by decide +kernel, by decide +kernel, by decide +kernel, by decide +kernel, by decide +kernel⟩
theorem bd156 : Bnd "unit_row" (top 16) ["at", "width"] := fun _ _ _ _ _ _ us hl => match us, hl with | [_, _], _ => rfl
theorem sc1 : FnScope N1 ["value"] (defScope (top 18)) := ⟨by decide +kernel, by decide +kernel, by decide +kernel, by decide +kernel, by decide +kernel, by decide +kernel, by decide +kernel⟩
theorem bd1 : Bnd "is_integer" (top 18) ["value"] := fun _ _ _ _ _ _ us hl => match us, hl with | [_], _ => rfl
theorem sc3 : FnScope N3 ["value"] (defScope (top 19)) := ⟨by decide +kernel, by decide +kernel, by decide +kernel, by decide +kernel, by decide +kernel, by decide +kernel, by decide +kernel⟩
theorem bd3 : Bnd "is_row" (top 19) ["value"] := fun _ _ _ _ _ _ us hl => match us, hl with | [_], _ => rfl
theorem sc4 : FnScope N4 ["value", "many"] (defScope (top 20)) := ⟨by decide +kernel, by decide +kernel, by decide +kernel, by decide +kernel, by decide +kernel, by decide +kernel, by decide +kernel⟩
theorem bd4 : Bnd "is_row_of" (top 20) ["value", "many"] := fun _ _ _ _ _ _ us hl => match us, hl with | [_, _], _ => rfl
theorem sc7 : FnScope N7 ["value"] (defScope (top 21)) := ⟨by decide +kernel, by decide +kernel, by decide +kernel, by decide +kernel, by decide +kernel, by decide +kernel, by decide +kernel⟩
theorem bd7 : Bnd "signed_shape" (top 21) ["value"] := fun _ _ _ _ _ _ us hl => match us, hl with | [_], _ => rfl
theorem sc8 : FnScope N8 ["value"] (defScope (top 22)) := ⟨by decide +kernel, by decide +kernel, by decide +kernel, by decide +kernel, by decide +kernel, by decide +kernel, by decide +kernel⟩
theorem bd8 : Bnd "fraction_shape" (top 22) ["value"] := fun _ _ _ _ _ _ us hl => match us, hl with | [_], _ => rfl
theorem sc9 : FnScope N9 ["value", "many"] (defScope (top 23)) := ⟨by decide +kernel, by decide +kernel, by decide +kernel, by decide +kernel, by decide +kernel, by decide +kernel, by decide +kernel⟩
theorem bd9 : Bnd "fractions_shape" (top 23) ["value", "many"] := fun _ _ _ _ _ _ us hl => match us, hl with | [_, _], _ => rfl
theorem sc15 : FnScope N15 ["value"] (defScope (top 25)) := ⟨by decide +kernel, by decide +kernel, by decide +kernel, by decide +kernel, by decide +kernel, by decide +kernel, by decide +kernel⟩
theorem bd15 : Bnd "box_shape" (top 25) ["value"] := fun _ _ _ _ _ _ us hl => match us, hl with | [_], _ => rfl
theorem sc158 : FnScope N158 ["value"] (defScope (top 27)) := ⟨by decide +kernel, by decide +kernel, by decide +kernel, by decide +kernel, by decide +kernel, by decide +kernel, by decide +kernel⟩
theorem bd158 : Bnd "form_shape" (top 27) ["value"] := fun _ _ _ _ _ _ us hl => match us, hl with | [_], _ => rfl
theorem sc172 : FnScope N172 ["box"] (defScope (top 29)) := ⟨by decide +kernel, by decide +kernel, by decide +kernel, by decide +kernel, by decide +kernel, by decide +kernel, by decide +kernel⟩
theorem bd172 : Bnd "box_forms" (top 29) ["box"] := fun _ _ _ _ _ _ us hl => match us, hl with | [_], _ => rfl
theorem sc173 : FnScope N173 ["box"] (defScope (top 30)) := ⟨by decide +kernel, by decide +kernel, by decide +kernel, by decide +kernel, by decide +kernel, by decide +kernel, by decide +kernel⟩
theorem bd173 : Bnd "box_system" (top 30) ["box"] := fun _ _ _ _ _ _ us hl => match us, hl with | [_], _ => rfl
theorem sc174 : FnScope N174 ["value"] (defScope (top 31)) := ⟨by decide +kernel, by decide +kernel, by decide +kernel, by decide +kernel, by decide +kernel, by decide +kernel, by decide +kernel⟩
theorem bd174 : Bnd "system_shape" (top 31) ["value"] := fun _ _ _ _ _ _ us hl => match us, hl with | [_], _ => rfl
theorem sc175 : FnScope N175 ["value"] (defScope (top 32)) := ⟨by decide +kernel, by decide +kernel, by decide +kernel, by decide +kernel, by decide +kernel, by decide +kernel, by decide +kernel⟩
theorem bd175 : Bnd "need_system" (top 32) ["value"] := fun _ _ _ _ _ _ us hl => match us, hl with | [_], _ => rfl
theorem sc176 : FnScope N176 ["value", "many"] (defScope (top 33)) := ⟨by decide +kernel, by decide +kernel, by decide +kernel, by decide +kernel, by decide +kernel, by decide +kernel, by decide +kernel⟩
theorem bd176 : Bnd "need_form" (top 33) ["value", "many"] := fun _ _ _ _ _ _ us hl => match us, hl with | [_, _], _ => rfl
theorem sc177 : FnScope N177 ["system", "weighing", "width"] (defScope (top 34)) := ⟨by decide +kernel, by decide +kernel, by decide +kernel, by decide +kernel, by decide +kernel, by decide +kernel, by decide +kernel⟩
theorem bd177 : Bnd "weighed_sum" (top 34) ["system", "weighing", "width"] := fun _ _ _ _ _ _ us hl => match us, hl with | [_, _, _], _ => rfl
theorem sc178 : FnScope N178 ["form"] (defScope (top 35)) := ⟨by decide +kernel, by decide +kernel, by decide +kernel, by decide +kernel, by decide +kernel, by decide +kernel, by decide +kernel⟩
theorem bd178 : Bnd "none_rising" (top 35) ["form"] := fun _ _ _ _ _ _ us hl => match us, hl with | [_], _ => rfl
theorem sc179 : FnScope N179 ["system", "weighing", "many"] (defScope (top 36)) := ⟨by decide +kernel, by decide +kernel, by decide +kernel, by decide +kernel, by decide +kernel, by decide +kernel, by decide +kernel⟩
theorem bd179 : Bnd "none_shown" (top 36) ["system", "weighing", "many"] := fun _ _ _ _ _ _ us hl => match us, hl with | [_, _, _], _ => rfl
theorem sc180 : FnScope N180 ["system", "form", "most", "weighing", "many"] (defScope (top 37)) := ⟨by decide +kernel, by decide +kernel, by decide +kernel, by decide +kernel, by decide +kernel, by decide +kernel, by decide +kernel⟩
theorem bd180 : Bnd "most_shown" (top 37) ["system", "form", "most", "weighing", "many"] := fun _ _ _ _ _ _ us hl => match us, hl with | [_, _, _, _, _], _ => rfl
theorem sc181 : FnScope N181 ["system", "weighing"] (defScope (top 38)) := ⟨by decide +kernel, by decide +kernel, by decide +kernel, by decide +kernel, by decide +kernel, by decide +kernel, by decide +kernel⟩
theorem bd181 : Bnd "shows_none" (top 38) ["system", "weighing"] := fun _ _ _ _ _ _ us hl => match us, hl with | [_, _], _ => rfl
theorem sc182 : FnScope N182 ["system", "form", "most", "weighing"] (defScope (top 39)) := ⟨by decide +kernel, by decide +kernel, by decide +kernel, by decide +kernel, by decide +kernel, by decide +kernel, by decide +kernel⟩
theorem bd182 : Bnd "shows_most" (top 39) ["system", "form", "most", "weighing"] := fun _ _ _ _ _ _ us hl => match us, hl with | [_, _, _, _], _ => rfl
theorem sc183 : FnScope N183 ["value"] (defScope (top 41)) := ⟨by decide +kernel, by decide +kernel, by decide +kernel, by decide +kernel, by decide +kernel, by decide +kernel, by decide +kernel⟩
theorem bd183 : Bnd "_law_int" (top 41) ["value"] := fun _ _ _ _ _ _ us hl => match us, hl with | [_], _ => rfl
theorem sc24 : FnScope N24 ["one", "other"] (defScope (top 42)) := ⟨by decide +kernel, by decide +kernel, by decide +kernel, by decide +kernel, by decide +kernel, by decide +kernel, by decide +kernel⟩
theorem bd24 : Bnd "_law_same" (top 42) ["one", "other"] := fun _ _ _ _ _ _ us hl => match us, hl with | [_, _], _ => rfl
theorem sc25 : FnScope N25 ["value"] (defScope (top 43)) := ⟨by decide +kernel, by decide +kernel, by decide +kernel, by decide +kernel, by decide +kernel, by decide +kernel, by decide +kernel⟩
theorem bd25 : Bnd "_law_listed" (top 43) ["value"] := fun _ _ _ _ _ _ us hl => match us, hl with | [_], _ => rfl
theorem sc26 : FnScope N26 ["script", "place"] (defScope (top 44)) := ⟨by decide +kernel, by decide +kernel, by decide +kernel, by decide +kernel, by decide +kernel, by decide +kernel, by decide +kernel⟩
theorem bd26 : Bnd "_law_cell" (top 44) ["script", "place"] := fun _ _ _ _ _ _ us hl => match us, hl with | [_, _], _ => rfl
theorem sc27 : FnScope N27 ["above", "below"] (defScope (top 45)) := ⟨by decide +kernel, by decide +kernel, by decide +kernel, by decide +kernel, by decide +kernel, by decide +kernel, by decide +kernel⟩
theorem bd27 : Bnd "_law_low" (top 45) ["above", "below"] := fun _ _ _ _ _ _ us hl => match us, hl with | [_, _], _ => rfl
theorem sc28 : FnScope N28 ["one", "other"] (defScope (top 46)) := ⟨by decide +kernel, by decide +kernel, by decide +kernel, by decide +kernel, by decide +kernel, by decide +kernel, by decide +kernel⟩
theorem bd28 : Bnd "_law_plus" (top 46) ["one", "other"] := fun _ _ _ _ _ _ us hl => match us, hl with | [_, _], _ => rfl
theorem sc29 : FnScope N29 ["one", "other"] (defScope (top 47)) := ⟨by decide +kernel, by decide +kernel, by decide +kernel, by decide +kernel, by decide +kernel, by decide +kernel, by decide +kernel⟩
theorem bd29 : Bnd "_law_minus" (top 47) ["one", "other"] := fun _ _ _ _ _ _ us hl => match us, hl with | [_, _], _ => rfl
theorem sc30 : FnScope N30 ["one", "other"] (defScope (top 48)) := ⟨by decide +kernel, by decide +kernel, by decide +kernel, by decide +kernel, by decide +kernel, by decide +kernel, by decide +kernel⟩
theorem bd30 : Bnd "_law_times" (top 48) ["one", "other"] := fun _ _ _ _ _ _ us hl => match us, hl with | [_, _], _ => rfl
theorem sc77 : FnScope N77 ["one", "other"] (defScope (top 49)) := ⟨by decide +kernel, by decide +kernel, by decide +kernel, by decide +kernel, by decide +kernel, by decide +kernel, by decide +kernel⟩
theorem bd77 : Bnd "_law_less" (top 49) ["one", "other"] := fun _ _ _ _ _ _ us hl => match us, hl with | [_, _], _ => rfl
theorem sc31 : FnScope N31 ["script", "place", "many"] (defScope (top 50)) := ⟨by decide +kernel, by decide +kernel, by decide +kernel, by decide +kernel, by decide +kernel, by decide +kernel, by decide +kernel⟩
theorem bd31 : Bnd "_law_numbers" (top 50) ["script", "place", "many"] := fun _ _ _ _ _ _ us hl => match us, hl with | [_, _, _], _ => rfl
theorem sc184 : FnScope N184 ["number"] (defScope (top 51)) := ⟨by decide +kernel, by decide +kernel, by decide +kernel, by decide +kernel, by decide +kernel, by decide +kernel, by decide +kernel⟩
theorem bd184 : Bnd "_law_signed" (top 51) ["number"] := fun _ _ _ _ _ _ us hl => match us, hl with | [_], _ => rfl
theorem sc185 : FnScope N185 ["numbers", "holdings", "many"] (defScope (top 52)) := ⟨by decide +kernel, by decide +kernel, by decide +kernel, by decide +kernel, by decide +kernel, by decide +kernel, by decide +kernel⟩
theorem bd185 : Bnd "_law_forms" (top 52) ["numbers", "holdings", "many"] := fun _ _ _ _ _ _ us hl => match us, hl with | [_, _, _], _ => rfl
theorem sc186 : FnScope N186 ["forms", "weights", "holdings"] (defScope (top 53)) := ⟨by decide +kernel, by decide +kernel, by decide +kernel, by decide +kernel, by decide +kernel, by decide +kernel, by decide +kernel⟩
theorem bd186 : Bnd "_law_weighed" (top 53) ["forms", "weights", "holdings"] := fun _ _ _ _ _ _ us hl => match us, hl with | [_, _, _], _ => rfl
theorem sc187 : FnScope N187 ["value", "many"] (defScope (top 54)) := ⟨by decide +kernel, by decide +kernel, by decide +kernel, by decide +kernel, by decide +kernel, by decide +kernel, by decide +kernel⟩
theorem bd187 : Bnd "_law_is_weighing" (top 54) ["value", "many"] := fun _ _ _ _ _ _ us hl => match us, hl with | [_, _], _ => rfl
theorem sc188 : FnScope N188 ["forms", "goal", "most", "weights", "holdings"] (defScope (top 55)) := ⟨by decide +kernel, by decide +kernel, by decide +kernel, by decide +kernel, by decide +kernel, by decide +kernel, by decide +kernel⟩
theorem bd188 : Bnd "_law_shows" (top 55) ["forms", "goal", "most", "weights", "holdings"] := fun _ _ _ _ _ _ us hl => match us, hl with | [_, _, _, _, _], _ => rfl
theorem sc189 : FnScope N189 ["script"] (defScope (top 56)) := ⟨by decide +kernel, by decide +kernel, by decide +kernel, by decide +kernel, by decide +kernel, by decide +kernel, by decide +kernel⟩
theorem bd189 : Bnd "law" (top 56) ["script"] := fun _ _ _ _ _ _ us hl => match us, hl with | [_], _ => rfl
open PySem.W in
theorem all_mk {w : World} {K : Frag} {h : Heap} {mg : Str → Option Value} {fa : Addr} (X : K.In h) (Gm : h.Ns mainGlobals mg) (hfa : mg "law" = some (.ref fa)) {f61 f62 f63 f64 f0 f99 f100 f101 f142 f156 f1 f3 f4 f7 f8 f9 f15 f158 f172 f173 f174 f175 f176 f177 f178 f179 f180 f181 f182 f183 f24 f25 f26 f27 f28 f29 f30 f77 f31 f184 f185 f186 f187 f188 f189 c0 i0 : Addr}
    (t61 : FnTxt K "ratio" (top 7) f61)
    (t62 : FnTxt K "plus" (top 8) f62)
    (t63 : FnTxt K "minus" (top 9) f63)
    (t64 : FnTxt K "times" (top 10) f64)
    (t0 : FnTxt K "less" (top 11) f0)
    (t99 : FnTxt K "row_plus" (top 12) f99)
    (t100 : FnTxt K "row_minus" (top 13) f100)
    (t101 : FnTxt K "row_times" (top 14) f101)
    (t142 : FnTxt K "constant_row" (top 15) f142)
    (t156 : FnTxt K "unit_row" (top 16) f156)
    (t1 : FnTxt K "is_integer" (top 18) f1)
    (t3 : FnTxt K "is_row" (top 19) f3)
    (t4 : FnTxt K "is_row_of" (top 20) f4)
    (t7 : FnTxt K "signed_shape" (top 21) f7)
    (t8 : FnTxt K "fraction_shape" (top 22) f8)
    (t9 : FnTxt K "fractions_shape" (top 23) f9)
    (t15 : FnTxt K "box_shape" (top 25) f15)
    (t158 : FnTxt K "form_shape" (top 27) f158)
    (t172 : FnTxt K "box_forms" (top 29) f172)
    (t173 : FnTxt K "box_system" (top 30) f173)
    (t174 : FnTxt K "system_shape" (top 31) f174)
    (t175 : FnTxt K "need_system" (top 32) f175)
    (t176 : FnTxt K "need_form" (top 33) f176)
    (t177 : FnTxt K "weighed_sum" (top 34) f177)
    (t178 : FnTxt K "none_rising" (top 35) f178)
    (t179 : FnTxt K "none_shown" (top 36) f179)
    (t180 : FnTxt K "most_shown" (top 37) f180)
    (t181 : FnTxt K "shows_none" (top 38) f181)
    (t182 : FnTxt K "shows_most" (top 39) f182)
    (t183 : FnTxt K "_law_int" (top 41) f183)
    (t24 : FnTxt K "_law_same" (top 42) f24)
    (t25 : FnTxt K "_law_listed" (top 43) f25)
    (t26 : FnTxt K "_law_cell" (top 44) f26)
    (t27 : FnTxt K "_law_low" (top 45) f27)
    (t28 : FnTxt K "_law_plus" (top 46) f28)
    (t29 : FnTxt K "_law_minus" (top 47) f29)
    (t30 : FnTxt K "_law_times" (top 48) f30)
    (t77 : FnTxt K "_law_less" (top 49) f77)
    (t31 : FnTxt K "_law_numbers" (top 50) f31)
    (t184 : FnTxt K "_law_signed" (top 51) f184)
    (t185 : FnTxt K "_law_forms" (top 52) f185)
    (t186 : FnTxt K "_law_weighed" (top 53) f186)
    (t187 : FnTxt K "_law_is_weighing" (top 54) f187)
    (t188 : FnTxt K "_law_shows" (top 55) f188)
    (t189 : FnTxt K "law" (top 56) f189)
    (a0 : AtK K "BadValue" "BadValue.__init__" c0 i0)
    (g0 : PairK K "NOUGHT" 0 1)
    (g1 : PairK K "ONE" 1 1)
    (gc : nsIn K mainGlobals "gcd" = some (some (.builtin "math.gcd")))
    (n0 : nsIn K mainGlobals "len" = some none)
    (n1 : nsIn K mainGlobals "abs" = some none)
    (n2 : nsIn K mainGlobals "int" = some none)
    (n3 : nsIn K mainGlobals "tuple" = some none)
    (n4 : nsIn K mainGlobals "list" = some none)
    (n5 : nsIn K mainGlobals "all" = some none)
    (n6 : nsIn K mainGlobals "any" = some none)
    (n7 : nsIn K mainGlobals "sum" = some none)
    (n8 : nsIn K mainGlobals "max" = some none)
    (n9 : nsIn K mainGlobals "min" = some none)
    (n10 : nsIn K mainGlobals "sorted" = some none)
    (n11 : nsIn K mainGlobals "str" = some none)
    (n12 : nsIn K mainGlobals "range" = some none)
    (n13 : nsIn K mainGlobals "enumerate" = some none)
    (n14 : nsIn K mainGlobals "zip" = some none)
    (n15 : nsIn K mainGlobals "isinstance" = some none)
    (n16 : nsIn K mainGlobals "bool" = some none)
    (n17 : nsIn K mainGlobals "set" = some none)
    (n18 : nsIn K mainGlobals "reversed" = some none)
    (e00 : subIn K (.ref c0) (.ref c0) = some true)
    (math : ∀ ns : List Int, ns.length ≤ 63 → sem ds 30 189 [.scr ns] = .ok (.val (.bl true))) :
    ∃ fd : FuncData, (∀ (s : Shared) (u : Value), BindsTo s fd ⟨[u], []⟩ [("script", u)]) ∧ ∀ base : Heap, K.In base → base.Ns mainGlobals mg → FnOk PySem.Challenge.pw_allthatisowed_k13_weighings_shown_or_not w K mg base (L2.CX PySem.Challenge.pw_allthatisowed_k13_weighings_shown_or_not w) 30 fa fd ["script"] (spLaw K 63) := by
  have e := hfa.symm.trans (mg_of X Gm t189.a)
  cases e
  obtain ⟨oc, od, kV, doc, pm, an, cd, ct, sl, l, c⟩ := t189.l
  have FL := fun_mk (st := top 56) l c t189.k
  refine ⟨fnOf "law" "law" (defArgs (top 56)) (defBody (top 56)) (defScope (top 56)) .none kV doc pm an cd ct, fun s u => .of_eq (bd189 kV doc pm an cd ct [u] rfl), fun base KB GB => ?_⟩
  let Γ : Ga := ⟨PySem.Challenge.pw_allthatisowed_k13_weighings_shown_or_not, w, K, mg, base, adr [(61, f61), (62, f62), (63, f63), (64, f64), (0, f0), (99, f99), (100, f100), (101, f101), (142, f142), (156, f156), (1, f1), (3, f3), (4, f4), (7, f7), (8, f8), (9, f9), (15, f15), (158, f158), (172, f172), (173, f173), (174, f174), (175, f175), (176, f176), (177, f177), (178, f178), (179, f179), (180, f180), (181, f181), (182, f182), (183, f183), (24, f24), (25, f25), (26, f26), (27, f27), (28, f28), (29, f29), (30, f30), (77, f77), (31, f31), (184, f184), (185, f185), (186, f186), (187, f187), (188, f188), (189, fa)], adr [(0, c0)]⟩
  have wd : Wd Γ T := ⟨AllG.get (l := T.gl) (P := fun x d => ∃ v u, Γ.mg x = some u ∧ RelV v u ∧ ∀ H, Rep Γ H v d) ⟨g0.gl (Γ := Γ) X Gm, g1.gl (Γ := Γ) X Gm, trivial⟩, AllS.get (l := T.bn) (P := fun x => Γ.mg x = none) ⟨mg_none_of X Gm n0, mg_none_of X Gm n1, mg_none_of X Gm n2, mg_none_of X Gm n3, mg_none_of X Gm n4, mg_none_of X Gm n5, mg_none_of X Gm n6, mg_none_of X Gm n7, mg_none_of X Gm n8, mg_none_of X Gm n9, mg_none_of X Gm n10, mg_none_of X Gm n11, mg_none_of X Gm n12, mg_none_of X Gm n13, mg_none_of X Gm n14, mg_none_of X Gm n15, mg_none_of X Gm n16, mg_none_of X Gm n17, mg_none_of X Gm n18, trivial⟩,
    AllM.get (l := T.ats) (P := fun x c => ∃ qn fI, AtTxt Γ.K Γ.mg x qn (Γ.C c) fI) ⟨⟨_, _, a0.at X Gm⟩, trivial⟩,
    AllM.get (l := T.zs) (P := fun x c => Γ.mg x = some (.ref (Γ.C c)) ∧ excIn Γ.K (Γ.C c) eTail "Exception.__new__" = true ∧ keepIn Γ.K (.ref (Γ.C c)) = true ∧ subIn Γ.K (.ref (Γ.C c)) (.type "BaseException") = some true ∧ typeIn Γ.K (.ref (Γ.C c)) = some (.type "type")) trivial,
    fun c o h1 h2 => by
      have hc : c ∈ ([0] : List Nat) := List.contains_iff_mem.mp h1
      have ho : o ∈ ([0] : List Nat) := List.contains_iff_mem.mp h2
      simp only [List.mem_cons, List.not_mem_nil, or_false] at hc ho
      rcases hc with rfl <;> rcases ho with rfl
      · exact exm_of a0.exC a0.isC a0.tyC e00
    , fun _ => mg_of X Gm gc⟩
  have q61 : DefFact Γ 61 "ratio" (top 7) ["above", "below"] := FnTxt.df (Γ := Γ) t61 X Gm bd61
  have q62 : DefFact Γ 62 "plus" (top 8) ["one", "other"] := FnTxt.df (Γ := Γ) t62 X Gm bd62
  have q63 : DefFact Γ 63 "minus" (top 9) ["one", "other"] := FnTxt.df (Γ := Γ) t63 X Gm bd63
  have q64 : DefFact Γ 64 "times" (top 10) ["one", "other"] := FnTxt.df (Γ := Γ) t64 X Gm bd64
  have q0 : DefFact Γ 0 "less" (top 11) ["one", "other"] := FnTxt.df (Γ := Γ) t0 X Gm bd0
  have q99 : DefFact Γ 99 "row_plus" (top 12) ["row", "other"] := FnTxt.df (Γ := Γ) t99 X Gm bd99
  have q100 : DefFact Γ 100 "row_minus" (top 13) ["row", "other"] := FnTxt.df (Γ := Γ) t100 X Gm bd100
  have q101 : DefFact Γ 101 "row_times" (top 14) ["row", "factor"] := FnTxt.df (Γ := Γ) t101 X Gm bd101
  have q142 : DefFact Γ 142 "constant_row" (top 15) ["constant", "width"] := FnTxt.df (Γ := Γ) t142 X Gm bd142
  have q156 : DefFact Γ 156 "unit_row" (top 16) ["at", "width"] := FnTxt.df (Γ := Γ) t156 X Gm bd156
  have q1 : DefFact Γ 1 "is_integer" (top 18) ["value"] := FnTxt.df (Γ := Γ) t1 X Gm bd1
  have q3 : DefFact Γ 3 "is_row" (top 19) ["value"] := FnTxt.df (Γ := Γ) t3 X Gm bd3
  have q4 : DefFact Γ 4 "is_row_of" (top 20) ["value", "many"] := FnTxt.df (Γ := Γ) t4 X Gm bd4
  have q7 : DefFact Γ 7 "signed_shape" (top 21) ["value"] := FnTxt.df (Γ := Γ) t7 X Gm bd7
  have q8 : DefFact Γ 8 "fraction_shape" (top 22) ["value"] := FnTxt.df (Γ := Γ) t8 X Gm bd8
  have q9 : DefFact Γ 9 "fractions_shape" (top 23) ["value", "many"] := FnTxt.df (Γ := Γ) t9 X Gm bd9
  have q15 : DefFact Γ 15 "box_shape" (top 25) ["value"] := FnTxt.df (Γ := Γ) t15 X Gm bd15
  have q158 : DefFact Γ 158 "form_shape" (top 27) ["value"] := FnTxt.df (Γ := Γ) t158 X Gm bd158
  have q172 : DefFact Γ 172 "box_forms" (top 29) ["box"] := FnTxt.df (Γ := Γ) t172 X Gm bd172
  have q173 : DefFact Γ 173 "box_system" (top 30) ["box"] := FnTxt.df (Γ := Γ) t173 X Gm bd173
  have q174 : DefFact Γ 174 "system_shape" (top 31) ["value"] := FnTxt.df (Γ := Γ) t174 X Gm bd174
  have q175 : DefFact Γ 175 "need_system" (top 32) ["value"] := FnTxt.df (Γ := Γ) t175 X Gm bd175
  have q176 : DefFact Γ 176 "need_form" (top 33) ["value", "many"] := FnTxt.df (Γ := Γ) t176 X Gm bd176
  have q177 : DefFact Γ 177 "weighed_sum" (top 34) ["system", "weighing", "width"] := FnTxt.df (Γ := Γ) t177 X Gm bd177
  have q178 : DefFact Γ 178 "none_rising" (top 35) ["form"] := FnTxt.df (Γ := Γ) t178 X Gm bd178
  have q179 : DefFact Γ 179 "none_shown" (top 36) ["system", "weighing", "many"] := FnTxt.df (Γ := Γ) t179 X Gm bd179
  have q180 : DefFact Γ 180 "most_shown" (top 37) ["system", "form", "most", "weighing", "many"] := FnTxt.df (Γ := Γ) t180 X Gm bd180
  have q181 : DefFact Γ 181 "shows_none" (top 38) ["system", "weighing"] := FnTxt.df (Γ := Γ) t181 X Gm bd181
  have q182 : DefFact Γ 182 "shows_most" (top 39) ["system", "form", "most", "weighing"] := FnTxt.df (Γ := Γ) t182 X Gm bd182
  have q183 : DefFact Γ 183 "_law_int" (top 41) ["value"] := FnTxt.df (Γ := Γ) t183 X Gm bd183
  have q24 : DefFact Γ 24 "_law_same" (top 42) ["one", "other"] := FnTxt.df (Γ := Γ) t24 X Gm bd24
  have q25 : DefFact Γ 25 "_law_listed" (top 43) ["value"] := FnTxt.df (Γ := Γ) t25 X Gm bd25
  have q26 : DefFact Γ 26 "_law_cell" (top 44) ["script", "place"] := FnTxt.df (Γ := Γ) t26 X Gm bd26
  have q27 : DefFact Γ 27 "_law_low" (top 45) ["above", "below"] := FnTxt.df (Γ := Γ) t27 X Gm bd27
  have q28 : DefFact Γ 28 "_law_plus" (top 46) ["one", "other"] := FnTxt.df (Γ := Γ) t28 X Gm bd28
  have q29 : DefFact Γ 29 "_law_minus" (top 47) ["one", "other"] := FnTxt.df (Γ := Γ) t29 X Gm bd29
  have q30 : DefFact Γ 30 "_law_times" (top 48) ["one", "other"] := FnTxt.df (Γ := Γ) t30 X Gm bd30
  have q77 : DefFact Γ 77 "_law_less" (top 49) ["one", "other"] := FnTxt.df (Γ := Γ) t77 X Gm bd77
  have q31 : DefFact Γ 31 "_law_numbers" (top 50) ["script", "place", "many"] := FnTxt.df (Γ := Γ) t31 X Gm bd31
  have q184 : DefFact Γ 184 "_law_signed" (top 51) ["number"] := FnTxt.df (Γ := Γ) t184 X Gm bd184
  have q185 : DefFact Γ 185 "_law_forms" (top 52) ["numbers", "holdings", "many"] := FnTxt.df (Γ := Γ) t185 X Gm bd185
  have q186 : DefFact Γ 186 "_law_weighed" (top 53) ["forms", "weights", "holdings"] := FnTxt.df (Γ := Γ) t186 X Gm bd186
  have q187 : DefFact Γ 187 "_law_is_weighing" (top 54) ["value", "many"] := FnTxt.df (Γ := Γ) t187 X Gm bd187
  have q188 : DefFact Γ 188 "_law_shows" (top 55) ["forms", "goal", "most", "weights", "holdings"] := FnTxt.df (Γ := Γ) t188 X Gm bd188
  have q189 : DefFact Γ 189 "law" (top 56) ["script"] := FnTxt.df (Γ := Γ) t189 X Gm bd189
  have cal : ∀ n j nm ar, T.tab j = some (nm, ar) → CalG Γ n j nm ar (sem ds n j) := fun n => by
    induction n with
    | zero => exact AllC.get (l := tl) (P := fun j nm ar => CalG Γ 0 j nm ar (sem ds 0 j)) ⟨cal_zero q61, cal_zero q62, cal_zero q63, cal_zero q64, cal_zero q0, cal_zero q99, cal_zero q100, cal_zero q101, cal_zero q142, cal_zero q156, cal_zero q1, cal_zero q3, cal_zero q4, cal_zero q7, cal_zero q8, cal_zero q9, cal_zero q15, cal_zero q158, cal_zero q172, cal_zero q173, cal_zero q174, cal_zero q175, cal_zero q176, cal_zero q177, cal_zero q178, cal_zero q179, cal_zero q180, cal_zero q181, cal_zero q182, cal_zero q183, cal_zero q24, cal_zero q25, cal_zero q26, cal_zero q27, cal_zero q28, cal_zero q29, cal_zero q30, cal_zero q77, cal_zero q31, cal_zero q184, cal_zero q185, cal_zero q186, cal_zero q187, cal_zero q188, cal_zero q189, trivial⟩
    | succ n ih => exact AllC.get (l := tl) (P := fun j nm ar => CalG Γ (n + 1) j nm ar (sem ds (n + 1) j)) ⟨cal_succ (d := d61) q61 wd sc61 (by kernel_rfl) rfl rfl ih (fun _ _ B => b61 B), cal_succ (d := d62) q62 wd sc62 (by kernel_rfl) rfl rfl ih (fun _ _ B => b62 B), cal_succ (d := d63) q63 wd sc63 (by kernel_rfl) rfl rfl ih (fun _ _ B => b63 B), cal_succ (d := d64) q64 wd sc64 (by kernel_rfl) rfl rfl ih (fun _ _ B => b64 B), cal_succ (d := d0) q0 wd sc0 (by kernel_rfl) rfl rfl ih (fun _ _ B => b0 B), cal_succ (d := d99) q99 wd sc99 (by kernel_rfl) rfl rfl ih (fun _ _ B => b99 B), cal_succ (d := d100) q100 wd sc100 (by kernel_rfl) rfl rfl ih (fun _ _ B => b100 B), cal_succ (d := d101) q101 wd sc101 (by kernel_rfl) rfl rfl ih (fun _ _ B => b101 B), cal_succ (d := d142) q142 wd sc142 (by kernel_rfl) rfl rfl ih (fun _ _ B => b142 B), cal_succ (d := d156) q156 wd sc156 (by kernel_rfl) rfl rfl ih (fun _ _ B => b156 B), cal_succ (d := d1) q1 wd sc1 (by kernel_rfl) rfl rfl ih (fun _ _ B => b1 B), cal_succ (d := d3) q3 wd sc3 (by kernel_rfl) rfl rfl ih (fun _ _ B => b3 B), cal_succ (d := d4) q4 wd sc4 (by kernel_rfl) rfl rfl ih (fun _ _ B => b4 B), cal_succ (d := d7) q7 wd sc7 (by kernel_rfl) rfl rfl ih (fun _ _ B => b7 B), cal_succ (d := d8) q8 wd sc8 (by kernel_rfl) rfl rfl ih (fun _ _ B => b8 B), cal_succ (d := d9) q9 wd sc9 (by kernel_rfl) rfl rfl ih (fun _ _ B => b9 B), cal_succ (d := d15) q15 wd sc15 (by kernel_rfl) rfl rfl ih (fun _ _ B => b15 B), cal_succ (d := d158) q158 wd sc158 (by kernel_rfl) rfl rfl ih (fun _ _ B => b158 B), cal_succ (d := d172) q172 wd sc172 (by kernel_rfl) rfl rfl ih (fun _ _ B => b172 B), cal_succ (d := d173) q173 wd sc173 (by kernel_rfl) rfl rfl ih (fun _ _ B => b173 B), cal_succ (d := d174) q174 wd sc174 (by kernel_rfl) rfl rfl ih (fun _ _ B => b174 B), cal_succ (d := d175) q175 wd sc175 (by kernel_rfl) rfl rfl ih (fun _ _ B => b175 B), cal_succ (d := d176) q176 wd sc176 (by kernel_rfl) rfl rfl ih (fun _ _ B => b176 B), cal_succ (d := d177) q177 wd sc177 (by kernel_rfl) rfl rfl ih (fun _ _ B => b177 B), cal_succ (d := d178) q178 wd sc178 (by kernel_rfl) rfl rfl ih (fun _ _ B => b178 B), cal_succ (d := d179) q179 wd sc179 (by kernel_rfl) rfl rfl ih (fun _ _ B => b179 B), cal_succ (d := d180) q180 wd sc180 (by kernel_rfl) rfl rfl ih (fun _ _ B => b180 B), cal_succ (d := d181) q181 wd sc181 (by kernel_rfl) rfl rfl ih (fun _ _ B => b181 B), cal_succ (d := d182) q182 wd sc182 (by kernel_rfl) rfl rfl ih (fun _ _ B => b182 B), cal_succ (d := d183) q183 wd sc183 (by kernel_rfl) rfl rfl ih (fun _ _ B => b183 B), cal_succ (d := d24) q24 wd sc24 (by kernel_rfl) rfl rfl ih (fun _ _ B => b24 B), cal_succ (d := d25) q25 wd sc25 (by kernel_rfl) rfl rfl ih (fun _ _ B => b25 B), cal_succ (d := d26) q26 wd sc26 (by kernel_rfl) rfl rfl ih (fun _ _ B => b26 B), cal_succ (d := d27) q27 wd sc27 (by kernel_rfl) rfl rfl ih (fun _ _ B => b27 B), cal_succ (d := d28) q28 wd sc28 (by kernel_rfl) rfl rfl ih (fun _ _ B => b28 B), cal_succ (d := d29) q29 wd sc29 (by kernel_rfl) rfl rfl ih (fun _ _ B => b29 B), cal_succ (d := d30) q30 wd sc30 (by kernel_rfl) rfl rfl ih (fun _ _ B => b30 B), cal_succ (d := d77) q77 wd sc77 (by kernel_rfl) rfl rfl ih (fun _ _ B => b77 B), cal_succ (d := d31) q31 wd sc31 (by kernel_rfl) rfl rfl ih (fun _ _ B => b31 B), cal_succ (d := d184) q184 wd sc184 (by kernel_rfl) rfl rfl ih (fun _ _ B => b184 B), cal_succ (d := d185) q185 wd sc185 (by kernel_rfl) rfl rfl ih (fun _ _ B => b185 B), cal_succ (d := d186) q186 wd sc186 (by kernel_rfl) rfl rfl ih (fun _ _ B => b186 B), cal_succ (d := d187) q187 wd sc187 (by kernel_rfl) rfl rfl ih (fun _ _ B => b187 B), cal_succ (d := d188) q188 wd sc188 (by kernel_rfl) rfl rfl ih (fun _ _ B => b188 B), cal_succ (d := d189) q189 wd sc189 (by kernel_rfl) rfl rfl ih (fun _ _ B => b189 B), trivial⟩
  exact law_fn (Γ := Γ) (j := 189) (g := sem ds 30 189) (fn_succ (Γ := Γ) (j := 189) (d := d189) FL wd sc189 (by kernel_rfl) rfl rfl (cal 29) (fun _ _ B => b189 B)) math
end k13
end PF

end

section
set_option linter.all false
/-! M26: k13's IDefs are those of Defs. -/
theorem PF.k13.has : PF.K13 PF.k13.ds := by
  constructor <;> rfl
theorem PF.k13.math : ∀ ns : List Int, ns.length ≤ 63 → PF.sem PF.k13.ds 30 189 [.scr ns] = .ok (.val (.bl true)) := fun ns _ => PF.k13_math PF.k13.has ns

end

section
set_option Elab.async false
set_option linter.all false
set_option maxRecDepth 100000
set_option maxHeartbeats 2000000
open PySem PySem.W PyProof.Rows
set_option maxRecDepth 100000 in
set_option maxHeartbeats 0 in
theorem PySem.Challenge.cw_allthatisowed_k13_weighings_shown_or_not_holds : PySem.Challenge.rw_allthatisowed_k13_weighings_shown_or_not.Holds := by
  w_on; o_law; k_head; (case hw => w_witness2)
  k_fill
  refine PF.walk_law (l := PySem.Challenge.rw_allthatisowed_k13_weighings_shown_or_not) (n := 63) (k := 30) rfl (by decide) rfl ⟨rfl, by decide, by decide⟩ (fun w h Y => PySem.W.kIn_of Y) ?F
  case F =>
    intro w mg fa h KX G hmg
    refine' PF.k13.all_mk KX G hmg ?zz_t61 ?zz_t62 ?zz_t63 ?zz_t64 ?zz_t0 ?zz_t99 ?zz_t100 ?zz_t101 ?zz_t142 ?zz_t156 ?zz_t1 ?zz_t3 ?zz_t4 ?zz_t7 ?zz_t8 ?zz_t9 ?zz_t15 ?zz_t158 ?zz_t172 ?zz_t173 ?zz_t174 ?zz_t175 ?zz_t176 ?zz_t177 ?zz_t178 ?zz_t179 ?zz_t180 ?zz_t181 ?zz_t182 ?zz_t183 ?zz_t24 ?zz_t25 ?zz_t26 ?zz_t27 ?zz_t28 ?zz_t29 ?zz_t30 ?zz_t77 ?zz_t31 ?zz_t184 ?zz_t185 ?zz_t186 ?zz_t187 ?zz_t188 ?zz_t189 ?zz_a0 ?zz_g0 ?zz_g1 ?zz_gc ?zz_n0 ?zz_n1 ?zz_n2 ?zz_n3 ?zz_n4 ?zz_n5 ?zz_n6 ?zz_n7 ?zz_n8 ?zz_n9 ?zz_n10 ?zz_n11 ?zz_n12 ?zz_n13 ?zz_n14 ?zz_n15 ?zz_n16 ?zz_n17 ?zz_n18 ?zz_e00 PF.k13.math
    (case zz_t61 => refine' PF.fnTxt ?zq1_0 ?zq1_1 ?zq1_2 ?zq1_3; (case zq1_0 => k_is); (case zq1_1 => k_is); (case zq1_2 => k_is); (case zq1_3 => k_is))
    (case zz_t62 => refine' PF.fnTxt ?zq2_0 ?zq2_1 ?zq2_2 ?zq2_3; (case zq2_0 => k_is); (case zq2_1 => k_is); (case zq2_2 => k_is); (case zq2_3 => k_is))
    (case zz_t63 => refine' PF.fnTxt ?zq3_0 ?zq3_1 ?zq3_2 ?zq3_3; (case zq3_0 => k_is); (case zq3_1 => k_is); (case zq3_2 => k_is); (case zq3_3 => k_is))
    (case zz_t64 => refine' PF.fnTxt ?zq4_0 ?zq4_1 ?zq4_2 ?zq4_3; (case zq4_0 => k_is); (case zq4_1 => k_is); (case zq4_2 => k_is); (case zq4_3 => k_is))
    (case zz_t0 => refine' PF.fnTxt ?zq5_0 ?zq5_1 ?zq5_2 ?zq5_3; (case zq5_0 => k_is); (case zq5_1 => k_is); (case zq5_2 => k_is); (case zq5_3 => k_is))
    (case zz_t99 => refine' PF.fnTxt ?zq6_0 ?zq6_1 ?zq6_2 ?zq6_3; (case zq6_0 => k_is); (case zq6_1 => k_is); (case zq6_2 => k_is); (case zq6_3 => k_is))
    (case zz_t100 => refine' PF.fnTxt ?zq7_0 ?zq7_1 ?zq7_2 ?zq7_3; (case zq7_0 => k_is); (case zq7_1 => k_is); (case zq7_2 => k_is); (case zq7_3 => k_is))
    (case zz_t101 => refine' PF.fnTxt ?zq8_0 ?zq8_1 ?zq8_2 ?zq8_3; (case zq8_0 => k_is); (case zq8_1 => k_is); (case zq8_2 => k_is); (case zq8_3 => k_is))
    (case zz_t142 => refine' PF.fnTxt ?zq9_0 ?zq9_1 ?zq9_2 ?zq9_3; (case zq9_0 => k_is); (case zq9_1 => k_is); (case zq9_2 => k_is); (case zq9_3 => k_is))
    (case zz_t156 => refine' PF.fnTxt ?zq10_0 ?zq10_1 ?zq10_2 ?zq10_3; (case zq10_0 => k_is); (case zq10_1 => k_is); (case zq10_2 => k_is); (case zq10_3 => k_is))
    (case zz_t1 => refine' PF.fnTxt ?zq11_0 ?zq11_1 ?zq11_2 ?zq11_3; (case zq11_0 => k_is); (case zq11_1 => k_is); (case zq11_2 => k_is); (case zq11_3 => k_is))
    (case zz_t3 => refine' PF.fnTxt ?zq12_0 ?zq12_1 ?zq12_2 ?zq12_3; (case zq12_0 => k_is); (case zq12_1 => k_is); (case zq12_2 => k_is); (case zq12_3 => k_is))
    (case zz_t4 => refine' PF.fnTxt ?zq13_0 ?zq13_1 ?zq13_2 ?zq13_3; (case zq13_0 => k_is); (case zq13_1 => k_is); (case zq13_2 => k_is); (case zq13_3 => k_is))
    (case zz_t7 => refine' PF.fnTxt ?zq14_0 ?zq14_1 ?zq14_2 ?zq14_3; (case zq14_0 => k_is); (case zq14_1 => k_is); (case zq14_2 => k_is); (case zq14_3 => k_is))
    (case zz_t8 => refine' PF.fnTxt ?zq15_0 ?zq15_1 ?zq15_2 ?zq15_3; (case zq15_0 => k_is); (case zq15_1 => k_is); (case zq15_2 => k_is); (case zq15_3 => k_is))
    (case zz_t9 => refine' PF.fnTxt ?zq16_0 ?zq16_1 ?zq16_2 ?zq16_3; (case zq16_0 => k_is); (case zq16_1 => k_is); (case zq16_2 => k_is); (case zq16_3 => k_is))
    (case zz_t15 => refine' PF.fnTxt ?zq17_0 ?zq17_1 ?zq17_2 ?zq17_3; (case zq17_0 => k_is); (case zq17_1 => k_is); (case zq17_2 => k_is); (case zq17_3 => k_is))
    (case zz_t158 => refine' PF.fnTxt ?zq18_0 ?zq18_1 ?zq18_2 ?zq18_3; (case zq18_0 => k_is); (case zq18_1 => k_is); (case zq18_2 => k_is); (case zq18_3 => k_is))
    (case zz_t172 => refine' PF.fnTxt ?zq19_0 ?zq19_1 ?zq19_2 ?zq19_3; (case zq19_0 => k_is); (case zq19_1 => k_is); (case zq19_2 => k_is); (case zq19_3 => k_is))
    (case zz_t173 => refine' PF.fnTxt ?zq20_0 ?zq20_1 ?zq20_2 ?zq20_3; (case zq20_0 => k_is); (case zq20_1 => k_is); (case zq20_2 => k_is); (case zq20_3 => k_is))
    (case zz_t174 => refine' PF.fnTxt ?zq21_0 ?zq21_1 ?zq21_2 ?zq21_3; (case zq21_0 => k_is); (case zq21_1 => k_is); (case zq21_2 => k_is); (case zq21_3 => k_is))
    (case zz_t175 => refine' PF.fnTxt ?zq22_0 ?zq22_1 ?zq22_2 ?zq22_3; (case zq22_0 => k_is); (case zq22_1 => k_is); (case zq22_2 => k_is); (case zq22_3 => k_is))
    (case zz_t176 => refine' PF.fnTxt ?zq23_0 ?zq23_1 ?zq23_2 ?zq23_3; (case zq23_0 => k_is); (case zq23_1 => k_is); (case zq23_2 => k_is); (case zq23_3 => k_is))
    (case zz_t177 => refine' PF.fnTxt ?zq24_0 ?zq24_1 ?zq24_2 ?zq24_3; (case zq24_0 => k_is); (case zq24_1 => k_is); (case zq24_2 => k_is); (case zq24_3 => k_is))
    (case zz_t178 => refine' PF.fnTxt ?zq25_0 ?zq25_1 ?zq25_2 ?zq25_3; (case zq25_0 => k_is); (case zq25_1 => k_is); (case zq25_2 => k_is); (case zq25_3 => k_is))
    (case zz_t179 => refine' PF.fnTxt ?zq26_0 ?zq26_1 ?zq26_2 ?zq26_3; (case zq26_0 => k_is); (case zq26_1 => k_is); (case zq26_2 => k_is); (case zq26_3 => k_is))
    (case zz_t180 => refine' PF.fnTxt ?zq27_0 ?zq27_1 ?zq27_2 ?zq27_3; (case zq27_0 => k_is); (case zq27_1 => k_is); (case zq27_2 => k_is); (case zq27_3 => k_is))
    (case zz_t181 => refine' PF.fnTxt ?zq28_0 ?zq28_1 ?zq28_2 ?zq28_3; (case zq28_0 => k_is); (case zq28_1 => k_is); (case zq28_2 => k_is); (case zq28_3 => k_is))
    (case zz_t182 => refine' PF.fnTxt ?zq29_0 ?zq29_1 ?zq29_2 ?zq29_3; (case zq29_0 => k_is); (case zq29_1 => k_is); (case zq29_2 => k_is); (case zq29_3 => k_is))
    (case zz_t183 => refine' PF.fnTxt ?zq30_0 ?zq30_1 ?zq30_2 ?zq30_3; (case zq30_0 => k_is); (case zq30_1 => k_is); (case zq30_2 => k_is); (case zq30_3 => k_is))
    (case zz_t24 => refine' PF.fnTxt ?zq31_0 ?zq31_1 ?zq31_2 ?zq31_3; (case zq31_0 => k_is); (case zq31_1 => k_is); (case zq31_2 => k_is); (case zq31_3 => k_is))
    (case zz_t25 => refine' PF.fnTxt ?zq32_0 ?zq32_1 ?zq32_2 ?zq32_3; (case zq32_0 => k_is); (case zq32_1 => k_is); (case zq32_2 => k_is); (case zq32_3 => k_is))
    (case zz_t26 => refine' PF.fnTxt ?zq33_0 ?zq33_1 ?zq33_2 ?zq33_3; (case zq33_0 => k_is); (case zq33_1 => k_is); (case zq33_2 => k_is); (case zq33_3 => k_is))
    (case zz_t27 => refine' PF.fnTxt ?zq34_0 ?zq34_1 ?zq34_2 ?zq34_3; (case zq34_0 => k_is); (case zq34_1 => k_is); (case zq34_2 => k_is); (case zq34_3 => k_is))
    (case zz_t28 => refine' PF.fnTxt ?zq35_0 ?zq35_1 ?zq35_2 ?zq35_3; (case zq35_0 => k_is); (case zq35_1 => k_is); (case zq35_2 => k_is); (case zq35_3 => k_is))
    (case zz_t29 => refine' PF.fnTxt ?zq36_0 ?zq36_1 ?zq36_2 ?zq36_3; (case zq36_0 => k_is); (case zq36_1 => k_is); (case zq36_2 => k_is); (case zq36_3 => k_is))
    (case zz_t30 => refine' PF.fnTxt ?zq37_0 ?zq37_1 ?zq37_2 ?zq37_3; (case zq37_0 => k_is); (case zq37_1 => k_is); (case zq37_2 => k_is); (case zq37_3 => k_is))
    (case zz_t77 => refine' PF.fnTxt ?zq38_0 ?zq38_1 ?zq38_2 ?zq38_3; (case zq38_0 => k_is); (case zq38_1 => k_is); (case zq38_2 => k_is); (case zq38_3 => k_is))
    (case zz_t31 => refine' PF.fnTxt ?zq39_0 ?zq39_1 ?zq39_2 ?zq39_3; (case zq39_0 => k_is); (case zq39_1 => k_is); (case zq39_2 => k_is); (case zq39_3 => k_is))
    (case zz_t184 => refine' PF.fnTxt ?zq40_0 ?zq40_1 ?zq40_2 ?zq40_3; (case zq40_0 => k_is); (case zq40_1 => k_is); (case zq40_2 => k_is); (case zq40_3 => k_is))
    (case zz_t185 => refine' PF.fnTxt ?zq41_0 ?zq41_1 ?zq41_2 ?zq41_3; (case zq41_0 => k_is); (case zq41_1 => k_is); (case zq41_2 => k_is); (case zq41_3 => k_is))
    (case zz_t186 => refine' PF.fnTxt ?zq42_0 ?zq42_1 ?zq42_2 ?zq42_3; (case zq42_0 => k_is); (case zq42_1 => k_is); (case zq42_2 => k_is); (case zq42_3 => k_is))
    (case zz_t187 => refine' PF.fnTxt ?zq43_0 ?zq43_1 ?zq43_2 ?zq43_3; (case zq43_0 => k_is); (case zq43_1 => k_is); (case zq43_2 => k_is); (case zq43_3 => k_is))
    (case zz_t188 => refine' PF.fnTxt ?zq44_0 ?zq44_1 ?zq44_2 ?zq44_3; (case zq44_0 => k_is); (case zq44_1 => k_is); (case zq44_2 => k_is); (case zq44_3 => k_is))
    (case zz_t189 => refine' PF.fnTxt ?zq45_0 ?zq45_1 ?zq45_2 ?zq45_3; (case zq45_0 => k_is); (case zq45_1 => k_is); (case zq45_2 => k_is); (case zq45_3 => k_is))
    (case zz_a0 => refine' PF.atK ⟨7,17,7,21⟩ ⟨7,23,7,25⟩ ⟨8,8,8,12⟩ ⟨8,8,8,15⟩ ⟨8,18,8,20⟩ ⟨8,8,8,20⟩ ?zq46_0 ?zq46_1 ?zq46_2 ?zq46_3 ?zq46_4 ?zq46_5 ?zq46_6 ?zq46_7 ?zq46_8 ?zq46_9 ?zq46_10 ?zq46_11 ?zq46_12 ?zq46_13 ?zq46_14 ?zq46_15; (case zq46_0 => k_is); (case zq46_1 => first | rfl | k_is); (case zq46_2 => first | rfl | k_is); (case zq46_3 => k_is); (case zq46_4 => k_is); (case zq46_5 => k_is); (case zq46_6 => k_is); (case zq46_7 => k_is); (case zq46_8 => k_is); (case zq46_9 => k_is); (case zq46_10 => k_is); (case zq46_11 => k_is); (case zq46_12 => k_is); (case zq46_13 => k_is); (case zq46_14 => k_is); (case zq46_15 => k_is))
    (case zz_g0 => refine' PF.pairK ?zq47_0 ?zq47_1; (case zq47_0 => k_is); (case zq47_1 => k_is))
    (case zz_g1 => refine' PF.pairK ?zq48_0 ?zq48_1; (case zq48_0 => k_is); (case zq48_1 => k_is))
    (case zz_gc => k_is)
    (case zz_n0 => k_is)
    (case zz_n1 => k_is)
    (case zz_n2 => k_is)
    (case zz_n3 => k_is)
    (case zz_n4 => k_is)
    (case zz_n5 => k_is)
    (case zz_n6 => k_is)
    (case zz_n7 => k_is)
    (case zz_n8 => k_is)
    (case zz_n9 => k_is)
    (case zz_n10 => k_is)
    (case zz_n11 => k_is)
    (case zz_n12 => k_is)
    (case zz_n13 => k_is)
    (case zz_n14 => k_is)
    (case zz_n15 => k_is)
    (case zz_n16 => k_is)
    (case zz_n17 => k_is)
    (case zz_n18 => k_is)
    (case zz_e00 => first | rfl | k_is)

end
