import PyProof.Rows.All
import Wide.All
import OpenK.AllK
import Wide.FinOn
import HandS.ForMost
import HandS.DeepEq
import KE.KEqNest
import PyProof.NeKinds
import HandS.More
import PyProof.ReprRoads
import PyProof.ReprLen
import HandS.TupSets
import KE.SortData
import HandS.IsInst
import HandS.TupAny
import HandS.StrMore
import HandS.DictComp
import HandS.Wide
import HandS.Codes
import PySem.Challenge.RW_quiltward_k68_whole_merges_as_trees
set_option Elab.async false
set_option maxRecDepth 100000
set_option maxHeartbeats 4000000
set_option linter.all false
-- QwMath
/-! The plain law: trees over the names a .. e, their merge, no Python. -/
namespace Qw
open PySem

inductive Nm where | a | b | c | d | e
  deriving DecidableEq
inductive Lf where | one | two | x | y | nw
  deriving DecidableEq
/-- no: nothing there; lf: a value; nd: a tree, by its five names -/
inductive T where
  | no | lf (v : Lf) | nd (a b c d e : T)
  deriving DecidableEq
abbrev Way := List Nm
def names : List Nm := [.a, .b, .c, .d, .e]
theorem mem_names (n : Nm) : n ∈ names := by cases n <;> decide
theorem names_nodup : names.Nodup := by decide
def T.kid : T → Nm → T
  | .nd a _ _ _ _, .a => a
  | .nd _ b _ _ _, .b => b
  | .nd _ _ c _ _, .c => c
  | .nd _ _ _ d _, .d => d
  | .nd _ _ _ _ e, .e => e
  | _, _ => .no
def T.mk (f : Nm → T) : T := .nd (f .a) (f .b) (f .c) (f .d) (f .e)
theorem kid_mk (f : Nm → T) (n : Nm) : (T.mk f).kid n = f n := by cases n <;> rfl
theorem mk_ext {f g : Nm → T} (h : ∀ n, f n = g n) : T.mk f = T.mk g := by
  unfold T.mk
  rw [h .a, h .b, h .c, h .d, h .e]
def T.isNd : T → Bool
  | .nd _ _ _ _ _ => true
  | _ => false
theorem mk_kid {t : T} (h : t.isNd = true) : T.mk t.kid = t := by
  cases t <;> first | rfl | cases h
theorem isNd_mk (f : Nm → T) : (T.mk f).isNd = true := rfl
theorem kid_not {t : T} (h : t.isNd = false) (n : Nm) : t.kid n = .no := by
  cases t <;> first | rfl | cases h
theorem nd_ext {t u : T} (ht : t.isNd = true) (hu : u.isNd = true) (h : ∀ n, t.kid n = u.kid n) : t = u := by
  rw [← mk_kid ht, ← mk_kid hu]
  exact mk_ext h
def T.emp : T := T.mk fun _ => .no
/-- how many trees stand one in another -/
def T.dep : T → Nat
  | .no => 0
  | .lf _ => 0
  | .nd a b c d e => max a.dep (max b.dep (max c.dep (max d.dep e.dep))) + 1
theorem dep_kid {t : T} (n : Nm) : (t.kid n).dep ≤ t.dep := by
  cases t with
  | no => exact Nat.zero_le _
  | lf v => exact Nat.zero_le _
  | nd a b c d e => cases n <;> (simp only [T.kid, T.dep]; omega)
theorem dep_kid_lt {t : T} (h : t.isNd = true) (n : Nm) : (t.kid n).dep < t.dep := by
  cases t with
  | no => cases h
  | lf v => cases h
  | nd a b c d e => cases n <;> (simp only [T.kid, T.dep]; omega)
theorem dep_pos {t : T} (h : t.isNd = true) : 0 < t.dep := by
  cases t with
  | no => cases h
  | lf v => cases h
  | nd a b c d e => simp only [T.dep]; omega
theorem dep_mk {f : Nm → T} {k : Nat} (h : ∀ n, (f n).dep ≤ k) : (T.mk f).dep ≤ k + 1 := by
  have ha := h .a
  have hb := h .b
  have hc := h .c
  have hd := h .d
  have he := h .e
  simp only [T.mk, T.dep]
  omega

/-! ### the merge -/
/-- a part's merge, and the ways of its clashes; the first argument is the one change, then the base, the other change -/
def mrgp : T → T → T → Way → T × List Way
  | .no, b, t, w => if T.no = t ∨ t = b then (.no, []) else if T.no = b then (t, []) else (.no, [w])
  | .lf v, b, t, w => if T.lf v = t ∨ t = b then (.lf v, []) else if T.lf v = b then (t, []) else (.no, [w])
  | .nd oa ob oc od oe, b, t, w => if T.nd oa ob oc od oe = t ∨ t = b then (.nd oa ob oc od oe, []) else if T.nd oa ob oc od oe = b then (t, []) else
    if t.isNd = true then
      (.nd (mrgp oa (b.kid .a) (t.kid .a) (w ++ [.a])).1 (mrgp ob (b.kid .b) (t.kid .b) (w ++ [.b])).1 (mrgp oc (b.kid .c) (t.kid .c) (w ++ [.c])).1
        (mrgp od (b.kid .d) (t.kid .d) (w ++ [.d])).1 (mrgp oe (b.kid .e) (t.kid .e) (w ++ [.e])).1,
       (mrgp oa (b.kid .a) (t.kid .a) (w ++ [.a])).2 ++ ((mrgp ob (b.kid .b) (t.kid .b) (w ++ [.b])).2 ++ ((mrgp oc (b.kid .c) (t.kid .c) (w ++ [.c])).2 ++
        ((mrgp od (b.kid .d) (t.kid .d) (w ++ [.d])).2 ++ (mrgp oe (b.kid .e) (t.kid .e) (w ++ [.e])).2))))
    else (.no, [w])
/-- name by name -/
def mrgk (o b t : T) (w : Way) (n : Nm) : T × List Way := mrgp (o.kid n) (b.kid n) (t.kid n) (w ++ [n])
def mrgd (o b t : T) (w : Way) : T × List Way := (T.mk fun n => (mrgk o b t w n).1, names.flatMap fun n => (mrgk o b t w n).2)
theorem mrgd_fst (o b t : T) (w : Way) : (mrgd o b t w).1 = T.mk fun n => (mrgk o b t w n).1 := rfl
theorem mrgd_snd (o b t : T) (w : Way) : (mrgd o b t w).2 = names.flatMap fun n => (mrgk o b t w n).2 := rfl
theorem mk_of {t : T} {f : Nm → T} (h : t.isNd = true) (e : ∀ n, f n = t.kid n) : T.mk f = t := by
  rw [← mk_kid h]
  exact mk_ext e
theorem mrgp_eq (o b t : T) (w : Way) : mrgp o b t w = if o = t ∨ t = b then (o, []) else if o = b then (t, []) else if o.isNd = true ∧ t.isNd = true then mrgd o b t w else (.no, [w]) := by
  cases o with
  | no => simp [mrgp, show T.no.isNd = false from rfl]
  | lf v => simp [mrgp, show (T.lf v).isNd = false from rfl]
  | nd oa ob oc od oe =>
    have e : mrgd (.nd oa ob oc od oe) b t w = (.nd (mrgp oa (b.kid .a) (t.kid .a) (w ++ [.a])).1 (mrgp ob (b.kid .b) (t.kid .b) (w ++ [.b])).1 (mrgp oc (b.kid .c) (t.kid .c) (w ++ [.c])).1
        (mrgp od (b.kid .d) (t.kid .d) (w ++ [.d])).1 (mrgp oe (b.kid .e) (t.kid .e) (w ++ [.e])).1,
       (mrgp oa (b.kid .a) (t.kid .a) (w ++ [.a])).2 ++ ((mrgp ob (b.kid .b) (t.kid .b) (w ++ [.b])).2 ++ ((mrgp oc (b.kid .c) (t.kid .c) (w ++ [.c])).2 ++
        ((mrgp od (b.kid .d) (t.kid .d) (w ++ [.d])).2 ++ ((mrgp oe (b.kid .e) (t.kid .e) (w ++ [.e])).2 ++ []))))) := rfl
    rw [e, List.append_nil, mrgp]
    have h1 : (T.nd oa ob oc od oe).isNd = true := rfl
    simp only [h1, true_and]
theorem mrgp_no (b : T) (w : Way) : mrgp .no b .no w = (.no, []) := by rw [mrgp_eq]; simp
theorem mrgp_same (o b : T) (w : Way) : mrgp o b o w = (o, []) := by rw [mrgp_eq, if_pos (.inl rfl)]
theorem mrgp_base (o b : T) (w : Way) : mrgp o b b w = (o, []) := by rw [mrgp_eq, if_pos (.inr rfl)]
theorem mrgp_base' (b t : T) (w : Way) : mrgp b b t w = (t, []) := by
  rw [mrgp_eq]
  by_cases h : b = t ∨ t = b
  · rw [if_pos h]
    rcases h with h | h <;> rw [h]
  · rw [if_neg h, if_pos rfl]
theorem flat_nil {w : Way} {o b t : T} (h : ∀ n, (mrgk o b t w n).2 = []) : (mrgd o b t w).2 = [] := by
  simp only [mrgd, names, List.flatMap_cons, List.flatMap_nil, h, List.append_nil]
theorem mrgd_base {o b : T} (ho : o.isNd = true) (w : Way) : mrgd o b b w = (o, []) :=
  Prod.ext (by rw [mrgd_fst]; exact mk_of ho fun n => by rw [mrgk, mrgp_base]) (flat_nil fun _ => by rw [mrgk, mrgp_base])
theorem mrgd_base' {b t : T} (ht : t.isNd = true) (w : Way) : mrgd b b t w = (t, []) :=
  Prod.ext (by rw [mrgd_fst]; exact mk_of ht fun n => by rw [mrgk, mrgp_base']) (flat_nil fun _ => by rw [mrgk, mrgp_base'])
theorem mrgd_same {o b : T} (ho : o.isNd = true) (w : Way) : mrgd o b o w = (o, []) :=
  Prod.ext (by rw [mrgd_fst]; exact mk_of ho fun n => by rw [mrgk, mrgp_same]) (flat_nil fun _ => by rw [mrgk, mrgp_same])
theorem mrgd_cong {o b t o' b' t' : T} {w w' : Way} (e : ∀ n, mrgk o b t w n = mrgk o' b' t' w' n) : mrgd o b t w = mrgd o' b' t' w' := by
  refine Prod.ext ?_ ?_
  · rw [mrgd_fst, mrgd_fst]
    exact mk_ext fun n => by rw [e n]
  · rw [mrgd_snd, mrgd_snd]
    simp only [e]
/-- the order of the changes does not matter -/
theorem mrgp_comm : ∀ (k : Nat) (o b t : T) (w : Way), o.dep ≤ k → mrgp o b t w = mrgp t b o w := by
  intro k
  induction k with
  | zero =>
    intro o b t w hk
    have ho : o.isNd = false := by
      cases q : o.isNd with
      | false => rfl
      | true => have := dep_pos q; omega
    rw [mrgp_eq, mrgp_eq t]
    simp only [ho, Bool.false_eq_true, false_and, and_false, if_false]
    by_cases h1 : o = t
    · subst h1; simp
    by_cases h2 : t = b
    · subst h2; simp [h1, Ne.symm h1]
    by_cases h3 : o = b
    · subst h3; simp [h1, Ne.symm h1]
    simp [h1, h2, h3, Ne.symm h1]
  | succ k ih =>
    intro o b t w hk
    rw [mrgp_eq, mrgp_eq t]
    by_cases h1 : o = t
    · subst h1; simp
    by_cases h2 : t = b
    · subst h2; simp [h1, Ne.symm h1]
    by_cases h3 : o = b
    · subst h3; simp [h1, Ne.symm h1]
    simp only [h1, h2, h3, Ne.symm h1, or_self, if_false]
    by_cases h4 : o.isNd = true ∧ t.isNd = true
    · rw [if_pos h4, if_pos h4.symm]
      exact mrgd_cong fun n => ih _ _ _ _ (by have := dep_kid_lt h4.1 n; omega)
    · rw [if_neg h4, if_neg fun q => h4 q.symm]
theorem mrgd_comm (o b t : T) (w : Way) : mrgd o b t w = mrgd t b o w := mrgd_cong fun n => mrgp_comm _ _ _ _ _ (Nat.le_refl _)
/-- changes of different names at the top -/
theorem mrgd_far {o b t : T} (h : ∀ n, o.kid n = b.kid n ∨ t.kid n = b.kid n) (w : Way) : (mrgd o b t w).2 = [] := by
  refine flat_nil fun n => ?_
  rw [mrgk]
  rcases h n with e | e
  · rw [e, mrgp_base']
  · rw [e, mrgp_base]
/-- depths -/
theorem mrgp_dep : ∀ (k : Nat) (o b t : T) (w : Way), o.dep ≤ k → t.dep ≤ k → (mrgp o b t w).1.dep ≤ k := by
  intro k
  induction k with
  | zero =>
    intro o b t w ho ht
    rw [mrgp_eq]
    have hn : o.isNd = false := by
      cases q : o.isNd with
      | false => rfl
      | true => have := dep_pos q; omega
    simp only [hn, Bool.false_eq_true, false_and, if_false]
    split
    · exact ho
    · split
      · exact ht
      · exact Nat.zero_le _
  | succ k ih =>
    intro o b t w ho ht
    rw [mrgp_eq]
    split
    · exact ho
    split
    · exact ht
    split
    · rename_i h
      rw [mrgd_fst]
      exact dep_mk fun n => ih (o.kid n) _ (t.kid n) _ (by have := dep_kid_lt h.1 n; omega) (by have := dep_kid_lt h.2 n; omega)
    · exact Nat.zero_le _
theorem mrgd_dep {k : Nat} {o b t : T} (w : Way) (ho : o.dep ≤ k + 1) (ht : t.dep ≤ k + 1) (h1 : o.isNd = true) (h2 : t.isNd = true) : (mrgd o b t w).1.dep ≤ k + 1 := by
  rw [mrgd_fst]
  exact dep_mk fun n => mrgp_dep k (o.kid n) _ (t.kid n) _ (by have := dep_kid_lt h1 n; omega) (by have := dep_kid_lt h2 n; omega)
/-- how many clashes there are at most -/
theorem mrgp_len : ∀ (k : Nat) (o b t : T) (w : Way), o.dep ≤ k → (mrgp o b t w).2.length ≤ 5 ^ k := by
  intro k
  induction k with
  | zero =>
    intro o b t w ho
    rw [mrgp_eq]
    have hn : o.isNd = false := by
      cases q : o.isNd with
      | false => rfl
      | true => have := dep_pos q; omega
    simp only [hn, Bool.false_eq_true, false_and, if_false]
    split
    · exact Nat.zero_le _
    · split
      · exact Nat.zero_le _
      · exact Nat.le_refl _
  | succ k ih =>
    intro o b t w ho
    rw [mrgp_eq]
    have p1 : 1 ≤ 5 ^ k := Nat.pow_pos (by decide)
    rw [Nat.pow_succ]
    split
    · exact Nat.zero_le _
    split
    · exact Nat.zero_le _
    split
    · rename_i h
      have e : ∀ n, (mrgk o b t w n).2.length ≤ 5 ^ k := fun n => ih _ _ _ _ (by have := dep_kid_lt h.1 n; omega)
      have e1 := e .a
      have e2 := e .b
      have e3 := e .c
      have e4 := e .d
      have e5 := e .e
      simp only [mrgd, names, List.flatMap_cons, List.flatMap_nil, List.length_append, List.length_nil]
      omega
    · show 1 ≤ _
      omega
theorem mrgk_len {k : Nat} {o : T} (b t : T) (w : Way) (n : Nm) (ho : o.dep ≤ k) : (mrgk o b t w n).2.length ≤ 5 ^ k :=
  mrgp_len k _ _ _ _ (Nat.le_trans (dep_kid n) ho)

/-! ### ways -/
def T.at : T → Way → T
  | t, [] => t
  | t, n :: w => (t.kid n).at w
theorem at_no : ∀ w : Way, T.no.at w = .no
  | [] => rfl
  | n :: w => by show (T.no.kid n).at w = _; exact at_no w
/-- what stands at a way: a tree, or a value or nothing -/
inductive Sh where | tree | val (t : T)
  deriving DecidableEq
def T.sh : T → Sh
  | .nd _ _ _ _ _ => .tree
  | t => .val t
theorem sh_nd {t : T} (h : t.isNd = true) : t.sh = .tree := by cases t <;> first | rfl | cases h
theorem sh_val {t : T} (h : t.isNd = false) : t.sh = .val t := by cases t <;> first | rfl | cases h
/-- where no clash is, a merge has the shape of the one change or of the other -/
theorem mrgp_sh : ∀ (k : Nat) (o b t : T) (w p : Way), o.dep ≤ k → (mrgp o b t w).2 = [] → ((mrgp o b t w).1.at p).sh = (o.at p).sh ∨ ((mrgp o b t w).1.at p).sh = (t.at p).sh := by
  intro k
  induction k with
  | zero =>
    intro o b t w p ho
    rw [mrgp_eq]
    have hn : o.isNd = false := by
      cases q : o.isNd with
      | false => rfl
      | true => have := dep_pos q; omega
    simp only [hn, Bool.false_eq_true, false_and, if_false]
    split
    · exact fun _ => .inl rfl
    · split
      · exact fun _ => .inr rfl
      · intro h; cases h
  | succ k ih =>
    intro o b t w p ho
    rw [mrgp_eq]
    split
    · exact fun _ => .inl rfl
    split
    · exact fun _ => .inr rfl
    split
    · rename_i h
      intro hc
      cases p with
      | nil => exact .inl (by show (mrgd o b t w).1.sh = o.sh; rw [sh_nd h.1]; rfl)
      | cons n p =>
        have e : ((mrgd o b t w).1.at (n :: p)) = (mrgk o b t w n).1.at p := by
          show ((mrgd o b t w).1.kid n).at p = _
          rw [mrgd_fst, kid_mk]
        rw [e]
        refine ih _ _ _ _ p (by have := dep_kid_lt h.1 n; omega) ?_
        have q := List.flatMap_eq_nil_iff.mp (show names.flatMap (fun n => (mrgk o b t w n).2) = [] from hc) n (mem_names n)
        exact q
    · intro h; cases h
theorem mrgd_sh {o b t : T} {w : Way} (h1 : o.isNd = true) (hc : (mrgd o b t w).2 = []) (p : Way) : ((mrgd o b t w).1.at p).sh = (o.at p).sh ∨ ((mrgd o b t w).1.at p).sh = (t.at p).sh := by
  cases p with
  | nil => exact .inl (by show (mrgd o b t w).1.sh = o.sh; rw [sh_nd h1]; rfl)
  | cons n p =>
    have e : ((mrgd o b t w).1.at (n :: p)) = (mrgk o b t w n).1.at p := by
      show ((mrgd o b t w).1.kid n).at p = _
      rw [mrgd_fst, kid_mk]
    rw [e]
    refine mrgp_sh _ _ _ _ _ p (Nat.le_refl _) ?_
    exact List.flatMap_eq_nil_iff.mp (show names.flatMap (fun n => (mrgk o b t w n).2) = [] from hc) n (mem_names n)
end Qw

-- QwHeap
/-! Trees in the abstract heap. -/
namespace Qw
open PySem L2

def Nm.s : Nm → Str
  | .a => "a" | .b => "b" | .c => "c" | .d => "d" | .e => "e"
def Lf.s : Lf → Str
  | .one => "1" | .two => "2" | .x => "x" | .y => "y" | .nw => "new"
def Nm.k (n : Nm) : Key := .inr n.s
theorem Nm.s_inj {n m : Nm} (h : n.s = m.s) : n = m := by
  revert h
  cases n <;> cases m <;> first | (intro _; rfl) | (intro h; exact absurd h (by decide +kernel))
theorem Lf.s_inj {n m : Lf} (h : n.s = m.s) : n = m := by
  revert h
  cases n <;> cases m <;> first | (intro _; rfl) | (intro h; exact absurd h (by decide +kernel))
theorem Nm.k_inj {n m : Nm} (h : n.k = m.k) : n = m := Nm.s_inj (Sum.inr.inj h)
theorem kV_k (n : Nm) : kV n.k = .str n.s := rfl

/-- an address left out -/
def unp (H : Hp) (p : Addr) : Hp := fun b => if b = p then none else H b
theorem unp_same (H : Hp) (p : Addr) : Same (unp H p) H := fun b o e => by
  unfold unp at e
  split at e
  · cases e
  · exact e
theorem unp_upd (H : Hp) (p : Addr) (o : HO) : Same (unp H p) (upd H p o) := fun b u e => by
  unfold unp at e
  split at e
  · cases e
  · rename_i h
    rw [upd_ne h]
    exact e
theorem unp_mono {H H' : Hp} {p : Addr} (h : ∀ b o, b ≠ p → H b = some o → H' b = some o) : Same (unp H p) (unp H' p) := fun b u e => by
  unfold unp at e ⊢
  split at e
  · cases e
  · rename_i q
    rw [if_neg q]
    exact h b u q e
theorem unp_new {H : Hp} {p : Addr} (h : H p = none) : Same H (unp H p) := fun b o e => by
  unfold unp
  rw [if_neg (ne_of_none e h)]
  exact e
theorem unp_at (H : Hp) (p : Addr) : unp H p p = none := if_pos rfl
theorem unp_ne {H : Hp} {p b : Addr} (h : b ≠ p) : unp H p b = H b := if_neg h
theorem same_new {H : Hp} {p : Addr} (h : H p = none) (o : HO) : Same H (upd H p o) := fun b u q => by rw [upd_ne (ne_of_none q h)]; exact q

def KeysOk (kvs : List (Key × V)) : Prop := (kvs.map (·.1)).Nodup ∧ ∀ k ∈ kvs.map (·.1), ∃ n : Nm, k = n.k
/-- what a dict has at a name -/
def EntV (t : T) (R : V → Prop) (o : Option V) : Prop := (t = .no ∧ o = none) ∨ (t ≠ .no ∧ ∃ v, o = some v ∧ R v)
/-- the value is the tree (or text) t -/
def TV (H : Hp) : T → V → Prop
  | .no, _ => False
  | .lf l, v => v = .str l.s
  | .nd a b c d e, v => ∃ p kvs, v = .ref p ∧ H p = some (.dK kvs) ∧ KeysOk kvs ∧ EntV a (TV H a) (valV kvs Nm.a.k) ∧ EntV b (TV H b) (valV kvs Nm.b.k) ∧
      EntV c (TV H c) (valV kvs Nm.c.k) ∧ EntV d (TV H d) (valV kvs Nm.d.k) ∧ EntV e (TV H e) (valV kvs Nm.e.k)
/-- a dict's pairs, by name -/
def Kv (H : Hp) (kvs : List (Key × V)) (f : Nm → T) : Prop := KeysOk kvs ∧ ∀ n, EntV (f n) (TV H (f n)) (valV kvs n.k)
theorem TV_nd {H : Hp} {t : T} {v : V} (h : t.isNd = true) : TV H t v ↔ ∃ p kvs, v = .ref p ∧ H p = some (.dK kvs) ∧ Kv H kvs t.kid := by
  cases t with
  | no => cases h
  | lf l => cases h
  | nd a b c d e =>
    constructor
    · rintro ⟨p, kvs, h1, h2, h3, ha, hb, hc, hd, he⟩
      refine ⟨p, kvs, h1, h2, h3, fun n => ?_⟩
      cases n
      · exact ha
      · exact hb
      · exact hc
      · exact hd
      · exact he
    · rintro ⟨p, kvs, h1, h2, h3, hn⟩
      exact ⟨p, kvs, h1, h2, h3, hn .a, hn .b, hn .c, hn .d, hn .e⟩
theorem TV_no {H : Hp} {v : V} (h : TV H .no v) : False := h
theorem TV.ne_no {H : Hp} {t : T} {v : V} (h : TV H t v) : t ≠ .no := fun e => by rw [e] at h; exact h
theorem TV_lf {H : Hp} {l : Lf} {v : V} : TV H (.lf l) v ↔ v = .str l.s := Iff.rfl
/-- a tree is a text or a dict -/
theorem TV.cases {H : Hp} {t : T} {v : V} (h : TV H t v) : (∃ l, t = .lf l ∧ v = .str l.s) ∨ (t.isNd = true ∧ ∃ p kvs, v = .ref p ∧ H p = some (.dK kvs) ∧ Kv H kvs t.kid) := by
  cases t with
  | no => exact (TV_no h).elim
  | lf l => exact .inl ⟨l, rfl, h⟩
  | nd a b c d e => exact .inr ⟨rfl, (TV_nd rfl).mp h⟩
theorem EntV.imp {t : T} {R R' : V → Prop} {o : Option V} (h : EntV t R o) (f : t ≠ .no → ∀ v, R v → R' v) : EntV t R' o := by
  rcases h with h | ⟨h1, v, h2, h3⟩
  · exact .inl h
  · exact .inr ⟨h1, v, h2, f h1 v h3⟩
theorem TV.mono {H H' : Hp} (g : Same H H') : ∀ {t : T} {v : V}, TV H t v → TV H' t v
  | .no, _, h => h
  | .lf _, _, h => h
  | .nd a b c d e, _, ⟨p, kvs, h1, h2, h3, ha, hb, hc, hd, he⟩ =>
    ⟨p, kvs, h1, g _ _ h2, h3, ha.imp fun _ _ => TV.mono g (t := a), hb.imp fun _ _ => TV.mono g (t := b), hc.imp fun _ _ => TV.mono g (t := c), hd.imp fun _ _ => TV.mono g (t := d), he.imp fun _ _ => TV.mono g (t := e)⟩
theorem Kv.mono {H H' : Hp} (g : Same H H') {kvs : List (Key × V)} {f : Nm → T} (h : Kv H kvs f) : Kv H' kvs f := ⟨h.1, fun n => (h.2 n).imp fun _ _ q => q.mono g⟩
theorem Kv.cong {H : Hp} {kvs : List (Key × V)} {f g : Nm → T} (h : Kv H kvs f) (e : ∀ n, f n = g n) : Kv H kvs g := ⟨h.1, fun n => by rw [← e n]; exact h.2 n⟩
/-- two readings of one value are one -/
theorem TV.uniq {H : Hp} : ∀ {t u : T} {v : V}, TV H t v → TV H u v → t = u
  | .no, _, _, h, _ => h.elim
  | .lf l, .no, _, _, h => h.elim
  | .lf l, .lf m, _, h, h' => by
    have e : V.str l.s = .str m.s := h.symm.trans h'
    rw [Lf.s_inj (V.str.inj e)]
  | .lf l, .nd _ _ _ _ _, _, h, ⟨p, _, h', _⟩ => by
    have e : V.str l.s = .ref p := h.symm.trans h'
    cases e
  | .nd _ _ _ _ _, .no, _, _, h => h.elim
  | .nd _ _ _ _ _, .lf m, _, ⟨p, _, h, _⟩, h' => by
    have e : V.str m.s = .ref p := h'.symm.trans h
    cases e
  | .nd a b c d e, .nd a' b' c' d' e', _, ⟨p, kvs, h1, h2, _, ha, hb, hc, hd, he⟩, ⟨p', kvs', h1', h2', _, ha', hb', hc', hd', he'⟩ => by
    subst h1
    cases h1'
    rw [h2] at h2'
    cases h2'
    have one : ∀ {x x' : T} {o : Option V}, (∀ v, TV H x v → TV H x' v → x = x') → EntV x (TV H x) o → EntV x' (TV H x') o → x = x' := by
      intro x x' o ih q q'
      rcases q with ⟨e1, e2⟩ | ⟨_, v, e2, r⟩ <;> rcases q' with ⟨e1', e2'⟩ | ⟨_, v', e2', r'⟩
      · rw [e1, e1']
      · rw [e2] at e2'; cases e2'
      · rw [e2] at e2'; cases e2'
      · rw [e2] at e2'; cases e2'
        exact ih v r r'
    rw [one (fun v => TV.uniq (t := a)) ha ha', one (fun v => TV.uniq (t := b)) hb hb', one (fun v => TV.uniq (t := c)) hc hc', one (fun v => TV.uniq (t := d)) hd hd', one (fun v => TV.uniq (t := e)) he he']
theorem TV.off {H : Hp} {r : T} {p : Addr} (hr : TV H r (.ref p)) : ∀ {t : T} {v : V}, t.dep < r.dep → TV H t v → TV (unp H p) t v
  | .no, _, _, h => h
  | .lf _, _, _, h => h
  | .nd a b c d e, v, hd, hh => by
    have hk : ∀ n, ((T.nd a b c d e).kid n).dep < r.dep := fun n => Nat.lt_of_le_of_lt (dep_kid n) hd
    obtain ⟨q, kvs, h1, h2, h3, ha, hb, hc, hd', he⟩ := id hh
    have hq : q ≠ p := by
      rintro rfl
      rw [h1] at hh
      have := TV.uniq hr hh
      rw [this] at hd
      exact absurd hd (Nat.lt_irrefl _)
    exact ⟨q, kvs, h1, by rw [unp_ne hq]; exact h2, h3, ha.imp fun _ _ => TV.off hr (hk .a), hb.imp fun _ _ => TV.off hr (hk .b), hc.imp fun _ _ => TV.off hr (hk .c), hd'.imp fun _ _ => TV.off hr (hk .d), he.imp fun _ _ => TV.off hr (hk .e)⟩
/-- the entries of a tree's dict do not lean on that dict -/
theorem TV.open {H : Hp} {t : T} {v : V} (h : TV H t v) (hn : t.isNd = true) : ∃ p kvs, v = .ref p ∧ H p = some (.dK kvs) ∧ Kv (unp H p) kvs t.kid := by
  obtain ⟨p, kvs, rfl, h2, h3⟩ := (TV_nd hn).mp h
  exact ⟨p, kvs, rfl, h2, h3.1, fun n => (h3.2 n).imp fun _ _ q => TV.off h (dep_kid_lt hn n) q⟩

/-! ### a dict's keys -/
theorem Kv.keys {H : Hp} {kvs : List (Key × V)} {f : Nm → T} (h : Kv H kvs f) : ∃ ks : List Nm, ks.Nodup ∧ kvs.map (·.1) = ks.map Nm.k ∧ ∀ n, n ∈ ks ↔ f n ≠ .no := by
  have ex : ∀ l : List Key, (∀ k ∈ l, ∃ n : Nm, k = n.k) → ∃ ks : List Nm, l = ks.map Nm.k := by
    intro l
    induction l with
    | nil => exact fun _ => ⟨[], rfl⟩
    | cons k r ih =>
      intro hl
      obtain ⟨n, e⟩ := hl k List.mem_cons_self
      obtain ⟨ks, e'⟩ := ih fun x hx => hl x (List.mem_cons_of_mem _ hx)
      exact ⟨n :: ks, by rw [e, e']; rfl⟩
  obtain ⟨ks, e⟩ := ex _ h.1.2
  refine ⟨ks, ?_, e, fun n => ?_⟩
  · have nd := h.1.1
    rw [e] at nd
    exact List.Pairwise.of_map Nm.k (fun _ _ hne e' => hne (congrArg Nm.k e')) nd
  · have m : n ∈ ks ↔ n.k ∈ kvs.map (·.1) := by
      rw [e, List.mem_map]
      exact ⟨fun hn => ⟨n, hn, rfl⟩, fun ⟨x, hx, ex⟩ => by rw [← Nm.k_inj ex]; exact hx⟩
    rw [m]
    rcases h.2 n with ⟨e1, e2⟩ | ⟨e1, v, e2, _⟩
    · exact ⟨fun hk => absurd hk (valV_not e2), fun hk => absurd e1 hk⟩
    · exact ⟨fun _ => e1, fun _ => valV_in e2⟩
theorem nms_len {ks : List Nm} (h : ks.Nodup) : ks.length ≤ 5 := by
  have : ∀ (l m : List Nm), l.Nodup → (∀ x ∈ l, x ∈ m) → l.length ≤ m.length := by
    intro l
    induction l with
    | nil => intro m _ _; exact Nat.zero_le _
    | cons x r ih =>
      intro m hn hs
      obtain ⟨h1, h2⟩ := List.nodup_cons.mp hn
      have hx := hs x List.mem_cons_self
      have e := ih (m.erase x) h2 fun y hy => (List.mem_erase_of_ne (fun e : y = x => h1 (by rw [← e]; exact hy))).mpr (hs y (List.mem_cons_of_mem _ hy))
      rw [List.length_erase_of_mem hx] at e
      have := List.length_pos_of_mem hx
      simp only [List.length_cons]
      omega
  exact this ks names h fun x _ => mem_names x
theorem Kv.len {H : Hp} {kvs : List (Key × V)} {f : Nm → T} (h : Kv H kvs f) : kvs.length ≤ 5 := by
  obtain ⟨ks, h1, h2, _⟩ := h.keys
  have e := congrArg List.length h2
  rw [List.length_map, List.length_map] at e
  rw [e]
  exact nms_len h1
theorem Kv.len_lt {H : Hp} {kvs : List (Key × V)} {f : Nm → T} (h : Kv H kvs f) : kvs.length < sizeLine := small1000 (Nat.le_trans h.len (by decide))
theorem Kv.nil (H : Hp) : Kv H [] fun _ => .no := ⟨⟨List.nodup_nil, fun _ h => nomatch h⟩, fun _ => .inl ⟨rfl, rfl⟩⟩
theorem Kv.get {H : Hp} {kvs : List (Key × V)} {f : Nm → T} (h : Kv H kvs f) {n : Nm} (hn : f n ≠ .no) : ∃ v, valV kvs n.k = some v ∧ TV H (f n) v := by
  rcases h.2 n with ⟨e, _⟩ | ⟨_, v, e, r⟩
  · exact absurd e hn
  · exact ⟨v, e, r⟩
theorem Kv.none {H : Hp} {kvs : List (Key × V)} {f : Nm → T} (h : Kv H kvs f) {n : Nm} (hn : f n = .no) : valV kvs n.k = Option.none := by
  rcases h.2 n with ⟨_, e⟩ | ⟨e, _⟩
  · exact e
  · exact absurd hn e
theorem putK_keys {κ : Type} [DecidableEq κ] (kvs : List (κ × V)) (k : κ) (v : V) : (putK kvs k v).map (·.1) = if k ∈ kvs.map (·.1) then kvs.map (·.1) else kvs.map (·.1) ++ [k] := by
  unfold putK
  by_cases h : k ∈ kvs.map (·.1)
  · have e : (kvs.any fun kv => decide (kv.1 = k)) = true := by
      obtain ⟨p, hp, e⟩ := List.mem_map.mp h
      exact List.any_eq_true.mpr ⟨p, hp, decide_eq_true e⟩
    simp only [e, if_true, h, List.map_map]
    refine List.map_congr_left fun p _ => ?_
    simp only [Function.comp]
    split <;> simp_all
  · have e : (kvs.any fun kv => decide (kv.1 = k)) = false := by
      refine Bool.eq_false_iff.mpr fun q => h ?_
      obtain ⟨p, hp, e⟩ := List.any_eq_true.mp q
      exact List.mem_map.mpr ⟨p, hp, of_decide_eq_true e⟩
    simp only [e, h, if_false, List.map_append, List.map_cons, List.map_nil, Bool.false_eq_true]
theorem KeysOk.put {kvs : List (Key × V)} (h : KeysOk kvs) (n : Nm) (v : V) : KeysOk (putK kvs n.k v) := by
  unfold KeysOk
  rw [putK_keys]
  split
  · exact h
  · rename_i hk
    refine ⟨nd_snoc h.1 hk, fun k hm => ?_⟩
    rcases List.mem_append.mp hm with q | q
    · exact h.2 k q
    · exact ⟨n, List.mem_singleton.mp q⟩
theorem Kv.put {H : Hp} {kvs : List (Key × V)} {f : Nm → T} (h : Kv H kvs f) (n : Nm) {t : T} {v : V} (hv : TV H t v) : Kv H (putK kvs n.k v) fun m => if m = n then t else f m := by
  refine ⟨h.1.put n v, fun m => ?_⟩
  dsimp only
  rw [valV_put]
  by_cases e : m = n
  · subst e
    rw [if_pos rfl, if_pos rfl]
    exact .inr ⟨hv.ne_no, v, rfl, hv⟩
  · rw [if_neg e, if_neg fun q => e (Nm.k_inj q)]
    exact h.2 m
theorem valV_drop {kvs : List (Key × V)} (k j : Key) : valV (dropK kvs k) j = if j = k then none else valV kvs j := by
  induction kvs with
  | nil => rw [show dropK ([] : List (Key × V)) k = [] from rfl, valV_nil]; split <;> rfl
  | cons p r ih =>
    by_cases e : p.1 = k
    · rw [dropK_pos e, ih]
      by_cases h : j = k
      · rw [if_pos h, if_pos h]
      · rw [if_neg h, if_neg h, valV_neg (fun q => h (q.symm.trans e))]
    · rw [dropK_neg e]
      by_cases h : p.1 = j
      · rw [valV_pos h, if_neg (fun q => e (h.trans q)), valV_pos h]
      · rw [valV_neg h, ih, valV_neg h]
theorem Kv.drop {H : Hp} {kvs : List (Key × V)} {f : Nm → T} (h : Kv H kvs f) (n : Nm) : Kv H (dropK kvs n.k) fun m => if m = n then .no else f m := by
  refine ⟨⟨nd_dropK h.1.1, fun k hk => ?_⟩, fun m => ?_⟩
  · obtain ⟨p, hp, e⟩ := List.mem_map.mp hk
    exact h.1.2 k (List.mem_map.mpr ⟨p, dropK_mem hp, e⟩)
  · dsimp only
    rw [valV_drop]
    by_cases e : m = n
    · subst e
      rw [if_pos rfl, if_pos rfl]
      exact .inl ⟨rfl, rfl⟩
    · rw [if_neg e, if_neg fun q => e (Nm.k_inj q)]
      exact h.2 m
/-- a dict of such pairs is the tree -/
theorem Kv.tv {H : Hp} {p : Addr} {kvs : List (Key × V)} {f : Nm → T} (h : Kv H kvs f) (e : H p = some (.dK kvs)) : TV H (T.mk f) (.ref p) :=
  (TV_nd rfl).mpr ⟨p, kvs, rfl, e, h.cong fun n => (kid_mk f n).symm⟩
theorem Kv.tv_of {H : Hp} {p : Addr} {kvs : List (Key × V)} {t : T} (h : Kv H kvs t.kid) (e : H p = some (.dK kvs)) (hn : t.isNd = true) : TV H t (.ref p) :=
  (TV_nd hn).mpr ⟨p, kvs, rfl, e, h⟩

/-! ### names in order -/
/-- a list of different names, sorted -/
def asc (ks : List Nm) : List Nm := names.filter fun n => decide (n ∈ ks)
theorem mem_asc {ks : List Nm} {n : Nm} : n ∈ asc ks ↔ n ∈ ks := by
  unfold asc
  rw [List.mem_filter]
  simp [mem_names]
theorem asc_nodup (ks : List Nm) : (asc ks).Nodup := List.Pairwise.filter _ names_nodup
def Nm.i : Nm → Nat
  | .a => 0 | .b => 1 | .c => 2 | .d => 3 | .e => 4
theorem Nm.i_inj {n m : Nm} (h : n.i = m.i) : n = m := by
  cases n <;> cases m <;> first | rfl | cases h
theorem lt_names (n m : Nm) : PySem.Spec.ltCps n.s.cps.toList m.s.cps.toList = decide (n.i < m.i) := by
  cases n <;> cases m <;> decide +kernel
def dec (x : Str) : Nm := if x = Nm.a.s then .a else if x = Nm.b.s then .b else if x = Nm.c.s then .c else if x = Nm.d.s then .d else .e
theorem dec_s (n : Nm) : dec n.s = n := by cases n <;> decide +kernel
theorem rising_names : ∀ (r : List Nm) (n : Nm), PyProof.Rows.risingS n.s (r.map Nm.s) = true → (n :: r).Pairwise fun a b => a.i ≤ b.i
  | [], n, _ => List.pairwise_singleton _ _
  | m :: r, n, h => by
    have h' : ((!PySem.Spec.ltCps m.s.cps.toList n.s.cps.toList) && PyProof.Rows.risingS m.s (r.map Nm.s)) = true := h
    rw [lt_names] at h'
    obtain ⟨h1, h2⟩ := Bool.and_eq_true_iff.mp h'
    have ih := rising_names r m h2
    have hle : n.i ≤ m.i := by
      have q := of_decide_eq_false (by simpa using h1 : decide (m.i < n.i) = false)
      omega
    refine List.pairwise_cons.mpr ⟨fun x hx => ?_, ih⟩
    rcases List.mem_cons.mp hx with e | hx
    · rw [e]; exact hle
    · exact Nat.le_trans hle ((List.pairwise_cons.mp ih).1 x hx)
theorem names_rising : names.Pairwise fun a b => a.i ≤ b.i := by decide
theorem asc_rising (ks : List Nm) : (asc ks).Pairwise fun a b => a.i ≤ b.i := List.Pairwise.filter _ names_rising
theorem asc_perm {ks : List Nm} (h : ks.Nodup) : (asc ks).Perm ks := by
  refine (List.perm_ext_iff_of_nodup (asc_nodup ks) h).mpr fun n => mem_asc
/-- sorted texts of different names -/
theorem sorted_names {ys : List Str} {ks : List Nm} (hn : ks.Nodup) (hp : ys.Perm (ks.map Nm.s)) (hs : PyProof.Rows.sortedS ys = true) : ys = (asc ks).map Nm.s := by
  have hd : ∀ x ∈ ys, (dec x).s = x := fun x hx => by
    obtain ⟨n, _, e⟩ := List.mem_map.mp (hp.mem_iff.mp hx)
    rw [← e, dec_s]
  have e1 : ys = (ys.map dec).map Nm.s := by
    rw [List.map_map]
    conv => lhs; rw [← List.map_id ys]
    exact List.map_congr_left fun x hx => (hd x hx).symm
  have p1 : (ys.map dec).Perm ks := by
    have q := hp.map dec
    rw [List.map_map] at q
    have e : ks.map (dec ∘ Nm.s) = ks := by
      conv => rhs; rw [← List.map_id ks]
      exact List.map_congr_left fun n _ => dec_s n
    rw [e] at q
    exact q
  have r1 : (ys.map dec).Pairwise fun a b => a.i ≤ b.i := by
    rw [e1] at hs
    cases q : ys.map dec with
    | nil => exact List.Pairwise.nil
    | cons n r =>
      rw [q] at hs
      exact rising_names r n hs
  have : ys.map dec = asc ks := List.Perm.eq_of_pairwise (fun x y _ _ h1 h2 => Nm.i_inj (Nat.le_antisymm h1 h2)) r1 (asc_rising ks) (p1.trans (asc_perm hn).symm)
  rw [e1, this]
theorem asc_len (ks : List Nm) : (asc ks).length ≤ 5 := nms_len (asc_nodup ks)
end Qw

-- QwEq0
namespace Qw
open PySem PySem.Spec PyProof.Rows L2
section
variable {prog : Program} {w : World} {A : Around} {E : Value → Shared → Prop} {s : Shared}
/-- a dict's own == with what is no dict -/
theorem dict_declines {a : Addr} {v : Value} {U : String} {Q : Value → Shared → Prop} (ha : s.TypeIs (.ref a) "dict") (hv : s.TypeIs v U) (hs : isSubtype (.type U) (.type "dict") = pure false) (h : Q .notImplemented s) :
    wpAny (model prog w) A (call (.builtin "dict.__eq__") [.ref a, v]) Q E s := by
  refine wpAny_call_entry PySem.F.slot_dict_eq ha PySem.F.entry_dict_eq ?_ (PySem.F.args_dict_eq_2 _ _)
  show wpAny _ _ (Builtin.Dict.dictSlotArgs "__eq__" ⟨[.ref a, v], []⟩ >>= _) _ _ s
  refine wpAny_bind ?_
  unfold Builtin.Dict.dictSlotArgs
  refine wpAny_bind (wpAny_notOrdered_dict ha ?_)
  show wpAny _ _ (pure (Value.ref a, v)) _ _ s
  refine wpAny_pure ?_
  refine wpAny_bind (wpAny_isInstance (T := U) hv hs ?_)
  simp only [Bool.not_false, if_true]
  refine wpAny_bind (wpAny_rule ?_)
  exact wpAny_pure ⟨_, rfl, h⟩
end
open AutoSeq1 (wpAny_loadPart')
open MeetsSeq MeetsSeq2 MeetsSeq3 SeqRoads2
theorem str_declines_dict (b : Str) (u : Tok) (l : Addr) (c : Value) (es : Array DictEntry) (n : Nat) (dd : Option Addr) (sl : Array (Option Value)) :
    Meets (Builtin.«str.__eq__» ⟨[.str b u, .ref l], []⟩) (fun _ R s => s.heap.get? l = some ⟨c, dd, .dict es n, sl⟩ ∧ R (.ok (.ret .notImplemented)) s) :=
  .of_wp fun prog w A R s h => by
    obtain ⟨hp, g, d, tk, os⟩ := s
    obtain ⟨hl, h⟩ := h
    wp_walk using wpAny_loadPart' hl, wpAny_load hl
    exact ⟨_, rfl, h⟩
section
variable {A : Around} {s : Shared}
/-- a plain dict's object -/
def DictAt (h : Heap) (a : Addr) : Prop := ∃ dd es n sl, h.get? a = some ⟨.type "dict", dd, .dict es n, sl⟩
theorem DictAt.ty {a : Addr} (h : DictAt s.heap a) : s.TypeIs (.ref a) "dict" := let ⟨_, _, _, _, e⟩ := h; ⟨_, e, rfl⟩
theorem rc_dict_str {a : Addr} (b : Str) (u : Tok) (h : DictAt s.heap a) (hu : A.units < cLine) : SeqAt.RcAt A s (.ref a) (.str b u) false := fun prog w E Q q => by
  obtain ⟨dd, es, n, sl, e⟩ := id h
  exact SeqAt.rc_eq_decline_or (k := false) h.ty (typeIs_str s b u) (by decide) F.sub_str_dict F.slot_dict_eq F.slot_str_eq_refl
    (fun _ hq => dict_declines h.ty (typeIs_str s b u) F.sub_str_dict hq)
    (fun _ hq => call_meets F.slot_str_eq_refl (typeIs_str s b u) F.entry_str_eq (F.args_str_eq_2 _ _) (str_declines_dict b u a _ es n dd sl) ⟨e, hq⟩)
    (fun _ hq => wpAny_of_eq (rfl : isSame (.ref a) (.str b u) = pure false) hq) (.inr hu) q
theorem rc_str_dict {a : Addr} (b : Str) (u : Tok) (h : DictAt s.heap a) (hu : A.units < cLine) : SeqAt.RcAt A s (.str b u) (.ref a) false := fun prog w E Q q => by
  obtain ⟨dd, es, n, sl, e⟩ := id h
  exact SeqAt.rc_eq_decline_or (k := false) (typeIs_str s b u) h.ty (by decide) F.sub_dict_str F.slot_str_eq F.slot_dict_eq_refl
    (fun _ hq => call_meets F.slot_str_eq (typeIs_str s b u) F.entry_str_eq (F.args_str_eq_2 _ _) (str_declines_dict b u a _ es n dd sl) ⟨e, hq⟩)
    (fun _ hq => dict_declines h.ty (typeIs_str s b u) F.sub_str_dict hq)
    (fun _ hq => wpAny_of_eq (rfl : isSame (.str b u) (.ref a) = pure false) hq) (.inr hu) q
theorem rc_dict_none {a : Addr} (h : DictAt s.heap a) (hu : A.units < cLine) : SeqAt.RcAt A s (.ref a) .none false := fun prog w E Q q =>
  SeqAt.rc_eq_decline_or (k := false) h.ty rfl (by decide) F.sub_NoneType_dict F.slot_dict_eq F.slot_NoneType_eq_refl
    (fun _ hq => dict_declines h.ty rfl F.sub_NoneType_dict hq)
    (fun _ hq => call_gives F.slot_NoneType_eq_refl rfl F.entry_NoneType_eq (F.args_NoneType_eq_2 _ _) (SeqAt.NoneType___eq___none_ref_0 a) hq)
    (fun _ hq => wpAny_of_eq (rfl : isSame (.ref a) .none = pure false) hq) (.inr hu) q
theorem rc_none_dict {a : Addr} (h : DictAt s.heap a) (hu : A.units < cLine) : SeqAt.RcAt A s .none (.ref a) false := fun prog w E Q q =>
  SeqAt.rc_eq_decline_or (k := false) rfl h.ty (by decide) F.sub_dict_NoneType F.slot_NoneType_eq F.slot_dict_eq_refl
    (fun _ hq => call_gives F.slot_NoneType_eq rfl F.entry_NoneType_eq (F.args_NoneType_eq_2 _ _) (SeqAt.NoneType___eq___none_ref_0 a) hq)
    (fun _ hq => dict_declines h.ty rfl F.sub_NoneType_dict hq)
    (fun _ hq => wpAny_of_eq (rfl : isSame .none (.ref a) = pure false) hq) (.inr hu) q
theorem eq_dict_str {a : Addr} (b : Str) (u : Tok) (h : DictAt s.heap a) (hu : A.units < cLine) : SeqAt.EqAt A s (.ref a) (.str b u) false := fun prog w E Q q => by
  unfold eqBool
  refine wpAny_holding ?_
  refine wpAny_ite_split (fun hab => absurd (eq_of_beq hab) nofun) fun _ => ?_
  exact wpAny_bind (rc_dict_str b u h hu prog w E _ (wpAny_truthy_bool q))
theorem eq_str_dict {a : Addr} (b : Str) (u : Tok) (h : DictAt s.heap a) (hu : A.units < cLine) : SeqAt.EqAt A s (.str b u) (.ref a) false := fun prog w E Q q => by
  unfold eqBool
  refine wpAny_holding ?_
  refine wpAny_ite_split (fun hab => absurd (eq_of_beq hab) nofun) fun _ => ?_
  exact wpAny_bind (rc_str_dict b u h hu prog w E _ (wpAny_truthy_bool q))
theorem eq_dict_none {a : Addr} (h : DictAt s.heap a) (hu : A.units < cLine) : SeqAt.EqAt A s (.ref a) .none false := fun prog w E Q q => by
  unfold eqBool
  refine wpAny_holding ?_
  refine wpAny_ite_split (fun hab => absurd (eq_of_beq hab) nofun) fun _ => ?_
  exact wpAny_bind (rc_dict_none h hu prog w E _ (wpAny_truthy_bool q))
theorem eq_none_dict {a : Addr} (h : DictAt s.heap a) (hu : A.units < cLine) : SeqAt.EqAt A s .none (.ref a) false := fun prog w E Q q => by
  unfold eqBool
  refine wpAny_holding ?_
  refine wpAny_ite_split (fun hab => absurd (eq_of_beq hab) nofun) fun _ => ?_
  exact wpAny_bind (rc_none_dict h hu prog w E _ (wpAny_truthy_bool q))
end
end Qw

-- QwEq
namespace Qw
open PySem PySem.Spec PyProof.Rows L2
open PySem.W (EqTree)
def decK : Key → Nm
  | .inl _ => .e
  | .inr x => dec x
theorem decK_k (n : Nm) : decK n.k = n := dec_s n
theorem paired_mem {α β : Type} {F : α → β → Prop} : ∀ {xs : List α} {ys : List β} {y : β}, Paired F xs ys → y ∈ ys → ∃ x ∈ xs, F x y
  | _, _, _, .nil, h => nomatch h
  | _, _, _, .cons r t, h => by
    rcases List.mem_cons.mp h with e | h
    · exact ⟨_, List.mem_cons_self, by rw [e]; exact r⟩
    · obtain ⟨x, hx, fx⟩ := paired_mem t h
      exact ⟨x, List.mem_cons_of_mem _ hx, fx⟩
/-- the answer of two dicts' comparison, by names -/
theorem eq_ans {t u : T} (ht : t.isNd = true) (hu : u.isNd = true) {kn ln : List Nm} (nk : kn.Nodup) (nl : ln.Nodup) (hk : ∀ n, n ∈ kn ↔ t.kid n ≠ .no) (hl : ∀ n, n ∈ ln ↔ u.kid n ≠ .no) :
    (kn.length == ln.length && kn.all fun n => decide (n ∈ ln) && decide (t.kid n = u.kid n)) = decide (t = u) := by
  by_cases e : t = u
  · subst e
    have p : kn.Perm ln := (List.perm_ext_iff_of_nodup nk nl).mpr fun n => (hk n).trans (hl n).symm
    rw [decide_eq_true rfl, p.length_eq]
    simp only [beq_self_eq_true, Bool.true_and, decide_true, Bool.and_true]
    exact List.all_eq_true.mpr fun n hn => decide_eq_true (p.mem_iff.mp hn)
  · rw [decide_eq_false e]
    refine Bool.eq_false_iff.mpr fun h => e ?_
    obtain ⟨h1, h2⟩ := Bool.and_eq_true_iff.mp h
    have h1 : kn.length = ln.length := by simpa using h1
    have h3 : ∀ n ∈ kn, n ∈ ln ∧ t.kid n = u.kid n := fun n hn => by
      have q := List.all_eq_true.mp h2 n hn
      obtain ⟨q1, q2⟩ := Bool.and_eq_true_iff.mp q
      exact ⟨of_decide_eq_true q1, of_decide_eq_true q2⟩
    have back : ∀ n ∈ ln, n ∈ kn := by
      intro n hn
      refine Classical.byContradiction fun hc => ?_
      have sub : ∀ (l m : List Nm), l.Nodup → (∀ x ∈ l, x ∈ m) → l.length ≤ m.length := by
        intro l
        induction l with
        | nil => intro m _ _; exact Nat.zero_le _
        | cons x r ih =>
          intro m hn hs
          obtain ⟨h1, h2⟩ := List.nodup_cons.mp hn
          have e := ih (m.erase x) h2 fun y hy => (List.mem_erase_of_ne (fun e : y = x => h1 (by rw [← e]; exact hy))).mpr (hs y (List.mem_cons_of_mem _ hy))
          have hx := hs x List.mem_cons_self
          rw [List.length_erase_of_mem hx] at e
          have := List.length_pos_of_mem hx
          simp only [List.length_cons]
          omega
      have q := sub (n :: kn) ln (List.nodup_cons.mpr ⟨hc, nk⟩) fun x hx => by
        rcases List.mem_cons.mp hx with e | hx
        · rw [e]; exact hn
        · exact (h3 x hx).1
      simp only [List.length_cons] at q
      omega
    refine nd_ext ht hu fun n => ?_
    by_cases hn : n ∈ kn
    · exact (h3 n hn).2
    · have e1 : t.kid n = .no := Classical.byContradiction fun q => hn ((hk n).mpr q)
      have e2 : u.kid n = .no := Classical.byContradiction fun q => hn (back n ((hl n).mpr q))
      rw [e1, e2]
section
variable {X : Cx} {pins : List (Addr × Obj)} {σ : L2.St} {H : Hp} {s : Shared}
theorem dictAt_of (I : Inv X pins σ H s) {p : Addr} {kvs : List (Key × V)} (h : H p = some (.dK kvs)) : DictAt s.heap p := by
  obtain ⟨_, _, vs, _, o, es, n, ho, hc, hd, _⟩ := (show ObjOk X.prog X.w H s.heap p (.dK kvs) from I.hok p _ h)
  obtain ⟨cls, dd, data, sl⟩ := o
  have hc' : cls = .type "dict" := hc.1
  simp only at hd
  subst hc' hd
  exact ⟨dd, es, n, sl, ho⟩
/-- the entries of two trees' dicts, and the answer that they give -/
theorem trees_ents (I : Inv X pins σ H s) {n : Nat} {t u : T} {p q : Addr} {ks ls : List (Key × V)} (nt : t.isNd = true) (nu : u.isNd = true) (hp : H p = some (.dK ks)) (ik : Kv H ks t.kid) (hq : H q = some (.dK ls)) (il : Kv H ls u.kid)
    (ih : ∀ m (x y : V) (v w : Value), TV H (t.kid m) x → TV H (u.kid m) y → RelV x v → RelV y w → EqTree X.prog X.w s n v w (decide (t.kid m = u.kid m))) :
    ∃ va vb, (p == sysModules) = false ∧ (q == sysModules) = false ∧ s.heap.DictOf (mixKind X.prog X.w) p va ∧ s.heap.DictOf (mixKind X.prog X.w) q vb ∧
      (∀ k v y, (k, v) ∈ va → valueAt vb k = some y → EqTree X.prog X.w s n v y ((fun k => decide (t.kid (decK k) = u.kid (decK k))) k)) ∧
      decide (t = u) = (va.length == vb.length && va.all fun p => (valueAt vb p.1).isSome && (fun k => decide (t.kid (decK k) = u.kid (decK k))) p.1) := by
  obtain ⟨_, ya, va, ra, da⟩ := (show ObjOk X.prog X.w H s.heap p (.dK ks) from I.hok p _ hp)
  obtain ⟨_, yb, vb, rb, db⟩ := (show ObjOk X.prog X.w H s.heap q (.dK ls) from I.hok q _ hq)
  refine ⟨va, vb, ya, yb, da, db, fun k v y hm hv => ?_, ?_⟩
  · obtain ⟨⟨k', x⟩, hx, e1, rx⟩ := paired_mem ra hm
    have e1 : k' = k := e1
    subst e1
    obtain ⟨m, em⟩ := ik.1.2 k' (List.mem_map.mpr ⟨_, hx, rfl⟩)
    subst em
    have vx : valV ks m.k = some x := val_nodup ik.1.1 _ hx
    dsimp only
    rw [decK_k]
    obtain ⟨h1, x', e2, tx⟩ : t.kid m ≠ .no ∧ ∃ v, valV ks m.k = some v ∧ TV H (t.kid m) v := by
      rcases ik.2 m with ⟨_, e⟩ | q
      · rw [vx] at e; cases e
      · exact q
    rw [vx] at e2; cases e2
    have ro := rb.val m.k
    rw [hv] at ro
    obtain ⟨z, ez, rz⟩ : ∃ z, valV ls m.k = some z ∧ RelV z y := by
      cases hz : valV ls m.k with
      | none => rw [hz] at ro; exact ro.elim
      | some z => rw [hz] at ro; exact ⟨z, rfl, ro⟩
    obtain ⟨h2, z', e3, tz⟩ : u.kid m ≠ .no ∧ ∃ v, valV ls m.k = some v ∧ TV H (u.kid m) v := by
      rcases il.2 m with ⟨_, e⟩ | q
      · rw [ez] at e; cases e
      · exact q
    rw [ez] at e3; cases e3
    exact ih m _ _ _ _ tx tz rx rz
  · obtain ⟨kn, nk, ek, mk⟩ := ik.keys
    obtain ⟨ln, nl, el, ml⟩ := il.keys
    have ea : va.map (·.1) = kn.map Nm.k := by rw [← ra.keys]; exact ek
    have eb : vb.map (·.1) = ln.map Nm.k := by rw [← rb.keys]; exact el
    have la : va.length = kn.length := by have := congrArg List.length ea; simpa using this
    have lb : vb.length = ln.length := by have := congrArg List.length eb; simpa using this
    have hin : ∀ m : Nm, (valueAt vb m.k).isSome = decide (m ∈ ln) := fun m => by
      rw [← RelO.isSome_eq (rb.val m.k)]
      rcases il.2 m with ⟨e1, e2⟩ | ⟨e1, z, e2, _⟩
      · rw [e2, decide_eq_false fun z => (ml m).mp z e1]; rfl
      · rw [e2, decide_eq_true ((ml m).mpr e1)]; rfl
    rw [← eq_ans nt nu nk nl mk ml, la, lb]
    congr 1
    have e1 : (va.all fun p => (valueAt vb p.1).isSome && (fun k => decide (t.kid (decK k) = u.kid (decK k))) p.1) = (va.map (·.1)).all fun k => (valueAt vb k).isSome && decide (t.kid (decK k) = u.kid (decK k)) := by
      rw [List.all_map]; rfl
    rw [e1, ea, List.all_map]
    congr 1
    funext m
    simp only [Function.comp]
    rw [hin m, decK_k]
/-- two trees compared -/
theorem trees_eq (I : Inv X pins σ H s) : ∀ (n : Nat) (t u : T) (x y : V) (v w : Value), t.dep < n → TV H t x → TV H u y → RelV x v → RelV y w → EqTree X.prog X.w s n v w (decide (t = u)) := by
  intro n
  induction n with
  | zero => intro t u x y v w h; omega
  | succ n ih =>
    intro t u x y v w hd ht hu rx ry
    rcases ht.cases with ⟨l, rfl, rfl⟩ | ⟨nt, p, ks, rfl, hp, ik⟩ <;> rcases hu.cases with ⟨m, rfl, rfl⟩ | ⟨nu, q, ls, rfl, hq, il⟩
    · obtain ⟨tk, rfl⟩ := rx
      obtain ⟨tk', rfl⟩ := ry
      have e : decide (T.lf l = T.lf m) = (l.s == m.s) := by cases l <;> cases m <;> decide +kernel
      rw [e]
      exact .leaf fun A _ => SeqAt.EqAt.str_str _ _ _ _
    · obtain ⟨tk, rfl⟩ := rx
      obtain rfl : w = Value.ref q := ry
      have e : decide (T.lf l = u) = false := decide_eq_false fun z => by rw [← z] at nu; cases nu
      rw [e]
      exact .leaf fun A hA => eq_str_dict _ _ (dictAt_of I hq) (by omega)
    · obtain ⟨tk, rfl⟩ := ry
      obtain rfl : v = Value.ref p := rx
      have e : decide (t = T.lf m) = false := decide_eq_false fun z => by rw [z] at nt; cases nt
      rw [e]
      exact .leaf fun A hA => eq_dict_str _ _ (dictAt_of I hp) (by omega)
    · obtain rfl : v = Value.ref p := rx
      obtain rfl : w = Value.ref q := ry
      by_cases hpq : p = q
      · subst hpq
        rw [decide_eq_true (TV.uniq ht hu)]
        exact .same
      · obtain ⟨va, vb, ya, yb, da, db, ents, ans⟩ := trees_ents I nt nu hp ik hq il fun m x y v w tx tz rx rz => ih _ _ _ _ _ _ (by have := dep_kid_lt nt m; omega) tx tz rx rz
        rw [ans]
        exact .dicts hpq ya yb da db ents
/-- a part: what get gives, the filler nv where nothing stands -/
def TVn (nv : V) (H : Hp) (t : T) (x : V) : Prop := (t = .no ∧ x = nv) ∨ TV H t x
theorem TVn.mono {nv : V} {H H' : Hp} (g : Same H H') {t : T} {x : V} (h : TVn nv H t x) : TVn nv H' t x := h.elim .inl fun q => .inr (q.mono g)
theorem TVn.no {nv : V} {H : Hp} {x : V} (h : TVn nv H .no x) : x = nv := h.elim (·.2) fun q => q.elim
theorem TVn.tv {nv : V} {H : Hp} {t : T} {x : V} (h : TVn nv H t x) (hn : t ≠ .no) : TV H t x := h.elim (fun q => absurd q.1 hn) id
/-- the filler: None, or a text that is no value -/
def Nv (nv : V) : Prop := nv = .non ∨ nv = .str "absent"
theorem absent_ne (l : Lf) : ((l.s : Str) == ("absent" : Str)) = false := by cases l <;> decide +kernel
theorem absent_ne' (l : Lf) : (("absent" : Str) == (l.s : Str)) = false := by cases l <;> decide +kernel
theorem parts_eq (I : Inv X pins σ H s) {nv : V} (hn : Nv nv) (n : Nat) {t u : T} {x y : V} {v w : Value} (hd : t.dep < n) (ht : TVn nv H t x) (hu : TVn nv H u y) (rx : RelV x v) (ry : RelV y w) : EqTree X.prog X.w s n v w (decide (t = u)) := by
  rcases ht with ⟨rfl, rfl⟩ | ht <;> rcases hu with ⟨rfl, rfl⟩ | hu
  · rw [decide_eq_true rfl]
    rcases hn with rfl | rfl
    · cases rx; cases ry
      exact .same
    · obtain ⟨_, rfl⟩ := rx
      obtain ⟨_, rfl⟩ := ry
      have e : true = (("absent" : Str) == ("absent" : Str)) := by decide +kernel
      rw [e]
      exact .leaf fun A _ => SeqAt.EqAt.str_str _ _ _ _
  · rw [decide_eq_false fun e => hu.ne_no e.symm]
    rcases hu.cases with ⟨m, rfl, rfl⟩ | ⟨nu, q, ls, rfl, hq, il⟩
    · obtain ⟨_, rfl⟩ := ry
      rcases hn with rfl | rfl
      · cases rx
        exact .leaf fun A _ => SeqAt.EqAt.none_str _ _
      · obtain ⟨_, rfl⟩ := rx
        rw [← absent_ne' m]
        exact .leaf fun A _ => SeqAt.EqAt.str_str _ _ _ _
    · obtain rfl : w = Value.ref q := ry
      rcases hn with rfl | rfl
      · cases rx
        exact .leaf fun A hA => eq_none_dict (dictAt_of I hq) (by omega)
      · obtain ⟨_, rfl⟩ := rx
        exact .leaf fun A hA => eq_str_dict _ _ (dictAt_of I hq) (by omega)
  · rw [decide_eq_false ht.ne_no]
    rcases ht.cases with ⟨m, rfl, rfl⟩ | ⟨nu, q, ls, rfl, hq, il⟩
    · obtain ⟨_, rfl⟩ := rx
      rcases hn with rfl | rfl
      · cases ry
        exact .leaf fun A _ => SeqAt.EqAt.str_none _ _
      · obtain ⟨_, rfl⟩ := ry
        rw [← absent_ne m]
        exact .leaf fun A _ => SeqAt.EqAt.str_str _ _ _ _
    · obtain rfl : v = Value.ref q := rx
      rcases hn with rfl | rfl
      · cases ry
        exact .leaf fun A hA => eq_dict_none (dictAt_of I hq) (by omega)
      · obtain ⟨_, rfl⟩ := ry
        exact .leaf fun A hA => eq_dict_str _ _ (dictAt_of I hq) (by omega)
  · exact trees_eq I n t u x y v w hd ht hu rx ry
/-- == of two parts -/
def rEqT : R2 := fun x y H Q => ∃ nv t u, Nv nv ∧ TVn nv H t x ∧ TVn nv H u y ∧ t.dep < 40 ∧ Q (.bl (decide (t = u))) H
theorem op_eqT (hu : X.A.units + 64 < cLine) : OpR X (compareOp .Eq) rEqT := by
  intro pins s σ H x y v w Q I rx ry h
  obtain ⟨nv, t, u, hn, ht, hw, hd, q⟩ := h
  have fin : ∀ b, b = decide (t = u) → EP X pins σ Q (.bool b) s := fun b e => by
    subst e
    exact ⟨.bl _, H, I, rfl, q⟩
  have up : X.A.units < cLine := by omega
  rcases ht with ⟨rfl, rfl⟩ | ht <;> rcases hw with ⟨rfl, rfl⟩ | hw
  · rcases hn with rfl | rfl
    · cases rx; cases ry
      exact SeqAt.RcAt.none_none _ _ _ _ (fin _ (by decide))
    · obtain ⟨_, rfl⟩ := rx
      obtain ⟨_, rfl⟩ := ry
      exact SeqAt.RcAt.str_str _ _ _ _ _ _ _ _ (fin _ (by decide +kernel))
  · have e : false = decide (T.no = u) := (decide_eq_false fun e => hw.ne_no e.symm).symm
    rcases hw.cases with ⟨m, rfl, rfl⟩ | ⟨nu, q, ls, rfl, hq, il⟩
    · obtain ⟨_, rfl⟩ := ry
      rcases hn with rfl | rfl
      · cases rx
        exact SeqAt.RcAt.none_str _ _ _ _ _ _ (fin _ e)
      · obtain ⟨_, rfl⟩ := rx
        exact SeqAt.RcAt.str_str _ _ _ _ _ _ _ _ (fin _ ((absent_ne' m).trans e))
    · obtain rfl : w = Value.ref q := ry
      rcases hn with rfl | rfl
      · cases rx
        exact rc_none_dict (dictAt_of I hq) up _ _ _ _ (fin _ e)
      · obtain ⟨_, rfl⟩ := rx
        exact rc_str_dict _ _ (dictAt_of I hq) up _ _ _ _ (fin _ e)
  · have e : false = decide (t = T.no) := (decide_eq_false ht.ne_no).symm
    rcases ht.cases with ⟨m, rfl, rfl⟩ | ⟨nu, q, ls, rfl, hq, il⟩
    · obtain ⟨_, rfl⟩ := rx
      rcases hn with rfl | rfl
      · cases ry
        exact SeqAt.RcAt.str_none _ _ _ _ _ _ (fin _ e)
      · obtain ⟨_, rfl⟩ := ry
        exact SeqAt.RcAt.str_str _ _ _ _ _ _ _ _ (fin _ ((absent_ne m).trans e))
    · obtain rfl : v = Value.ref q := rx
      rcases hn with rfl | rfl
      · cases ry
        exact rc_dict_none (dictAt_of I hq) up _ _ _ _ (fin _ e)
      · obtain ⟨_, rfl⟩ := ry
        exact rc_dict_str _ _ (dictAt_of I hq) up _ _ _ _ (fin _ e)
  · rcases ht.cases with ⟨l, rfl, rfl⟩ | ⟨nt, p, ks, rfl, hp, ik⟩ <;> rcases hw.cases with ⟨m, rfl, rfl⟩ | ⟨nu, q, ls, rfl, hq, il⟩
    · obtain ⟨tk, rfl⟩ := rx
      obtain ⟨tk', rfl⟩ := ry
      exact SeqAt.RcAt.str_str _ _ _ _ _ _ _ _ (fin _ (by cases l <;> cases m <;> decide +kernel))
    · obtain ⟨tk, rfl⟩ := rx
      obtain rfl : w = Value.ref q := ry
      exact rc_str_dict _ _ (dictAt_of I hq) up _ _ _ _ (fin _ (decide_eq_false fun z => by rw [← z] at nu; cases nu).symm)
    · obtain ⟨tk, rfl⟩ := ry
      obtain rfl : v = Value.ref p := rx
      exact rc_dict_str _ _ (dictAt_of I hp) up _ _ _ _ (fin _ (decide_eq_false fun z => by rw [z] at nt; cases nt).symm)
    · obtain rfl : v = Value.ref p := rx
      obtain rfl : w = Value.ref q := ry
      obtain ⟨va, vb, ya, yb, da, db, ents, ans⟩ := trees_ents (n := 40) I nt nu hp ik hq il fun m x y v w tx tz rx rz => trees_eq I 40 _ _ _ _ _ _ (by have := dep_kid_lt nt m; omega) tx tz rx rz
      exact PySem.W.eq_dictsT ya yb da db ents (by omega) (fin _ ans.symm)
/-- the same data: flat things, trees, lists and tuples of such -/
def Sm (H : Hp) : Nat → V → V → Prop
  | 0, x, y => x = y ∧ flatB x = true
  | n + 1, x, y => (x = y ∧ flatB x = true) ∨ (∃ t, t.dep < 20 ∧ TV H t x ∧ TV H t y) ∨
      ∃ a b xs ys, x = .ref a ∧ y = .ref b ∧ ((H a = some (.lst xs) ∧ H b = some (.lst ys)) ∨ (H a = some (.tup xs) ∧ H b = some (.tup ys))) ∧ Paired (Sm H n) xs ys
theorem Sm.mono {H H' : Hp} (g : Same H H') : ∀ {n : Nat} {x y : V}, Sm H n x y → Sm H' n x y
  | 0, _, _, h => h
  | n + 1, x, y, h => by
    rcases h with h | ⟨t, h1, h2, h3⟩ | ⟨a, b, xs, ys, h1, h2, h3, h4⟩
    · exact .inl h
    · exact .inr (.inl ⟨t, h1, h2.mono g, h3.mono g⟩)
    · exact .inr (.inr ⟨a, b, xs, ys, h1, h2, h3.imp (fun q => ⟨g _ _ q.1, g _ _ q.2⟩) fun q => ⟨g _ _ q.1, g _ _ q.2⟩, L2.Paired.mapP h4 fun _ _ q => Sm.mono g q⟩)
theorem paired_at {F : V → V → Prop} : ∀ {xs ys : List V} {us ws : List Value}, Paired F xs ys → Vals xs us → Vals ys ws → ∀ j (h1 : j < us.length) (h2 : j < ws.length), ∃ x y, F x y ∧ RelV x us[j] ∧ RelV y ws[j]
  | _, _, _, _, .nil, .nil, _, j, h, _ => absurd h (Nat.not_lt_zero j)
  | _, _, _, _, .cons r _, .cons a _, .cons b _, 0, _, _ => ⟨_, _, r, a, b⟩
  | _, _, _, _, .cons _ t, .cons _ a, .cons _ b, j + 1, h1, h2 => paired_at t a b j (Nat.lt_of_succ_lt_succ h1) (Nat.lt_of_succ_lt_succ h2)
theorem all_true (n : Nat) : ((List.range n).all fun _ => true) = true := List.all_eq_true.mpr fun _ _ => rfl
theorem same_eq (I : Inv X pins σ H s) : ∀ (n : Nat) (x y : V) (v w : Value), Sm H n x y → RelV x v → RelV y w → EqTree X.prog X.w s (n + 20) v w true
  | 0, x, y, v, w, h, rx, ry => by
    obtain ⟨rfl, f⟩ := h
    exact .leaf fun A _ => eqAt_same rx ry f
  | n + 1, x, y, v, w, h, rx, ry => by
    rcases h with ⟨rfl, f⟩ | ⟨t, hd, h1, h2⟩ | ⟨a, b, xs, ys, rfl, rfl, h3, h4⟩
    · exact .leaf fun A _ => eqAt_same rx ry f
    · have q := trees_eq I (n + 1 + 20) t t x y v w (by omega) h1 h2 rx ry
      rw [decide_eq_true rfl] at q
      exact q
    · obtain rfl : v = Value.ref a := rx
      obtain rfl : w = Value.ref b := ry
      by_cases hab : a = b
      · subst hab
        exact .same
      rw [show n + 1 + 20 = n + 20 + 1 by omega]
      have len := Paired.length h4
      rcases h3 with ⟨ha, hb⟩ | ⟨ha, hb⟩
      · obtain ⟨us, r1, p1, _⟩ := I.list (.of ha)
        obtain ⟨ws, r2, p2, _⟩ := I.list (.of hb)
        have hsz : us.toArray.size = ws.toArray.size := by rw [List.size_toArray, List.size_toArray, ← r1.length, ← r2.length, len]
        have q := EqTree.lists (prog := X.prog) (w := X.w) (n := n + 20) (e := fun _ => true) hab p1.isList p2.isList hsz fun j h1 h2 => by
          obtain ⟨x, y, f, rx, ry⟩ := paired_at h4 r1 r2 j (by simpa using h1) (by simpa using h2)
          have z := same_eq I n x y _ _ f rx ry
          simpa using z
        rw [all_true] at q
        exact q
      · obtain ⟨us, r1, p1, _⟩ := I.tuple (.of ha)
        obtain ⟨ws, r2, p2, _⟩ := I.tuple (.of hb)
        have hsz : us.toArray.size = ws.toArray.size := by rw [List.size_toArray, List.size_toArray, ← r1.length, ← r2.length, len]
        have q := EqTree.tuples (prog := X.prog) (w := X.w) (n := n + 20) (e := fun _ => true) hab (show s.heap.IsTuple a us.toArray from p1) (show s.heap.IsTuple b ws.toArray from p2) fun j h1 h2 => by
          obtain ⟨x, y, f, rx, ry⟩ := paired_at h4 r1 r2 j (by simpa using h1) (by simpa using h2)
          have z := same_eq I n x y _ _ f rx ry
          simpa using z
        rw [all_true, hsz] at q
        simpa using q
end
end Qw

-- QwNe
namespace Qw
open PySem PySem.Spec PyProof.Rows L2
open PySem.W (EqTree)
open PySem.SeqAt (EqIn)
open AutoSeq1 (wpAny_loadPart')
open MeetsSeq MeetsSeq2 MeetsSeq3 SeqRoads2
section
variable {prog : Program} {w : World}
/-- two pairs of equal items are not unequal -/
theorem pair_neIn (l b : Addr) (x0 x1 y0 y1 : Value) (n n2 : Nat) (dd dd2 : Option Addr) (sl sl2 : Array (Option Value)) :
    MeetsIn prog w (Builtin.«tuple.__ne__» ⟨[.ref l, .ref b], []⟩)
      (fun A R s => s.heap.get? l = some ⟨.type "tuple", dd, .seq #[x0, x1] n, sl⟩ ∧ s.heap.get? b = some ⟨.type "tuple", dd2, .seq #[y0, y1] n2, sl2⟩ ∧
        EqIn prog w A.in1 s x0 y0 true ∧ EqIn prog w A.in1 s x1 y1 true ∧ R (.ok (.ret (.bool false))) s) :=
  .of_wp fun A R s h => by
    obtain ⟨hp, g, d, tk, os⟩ := s
    obtain ⟨hl, hb, e0, e1, h⟩ := h
    have f2 := AutoSeq1.sub_tuple_tuple
    wp_walk using wpAny_loadPart' hl, wpAny_loadPart' hb, wpAny_forIn_list _ (fun rest q s' => q.1 = none ∧ s' = ⟨hp, g, d, tk, os⟩ ∧ (rest = [(x0, y0), (x1, y1)] ∨ rest = [(x1, y1)] ∨ rest = [])) _
    case turn =>
      rintro ⟨y, x⟩ rest q s' ⟨hq, rfl, hr⟩
      rcases hr with hr | hr | hr
      · obtain ⟨e1', e2'⟩ := List.cons.inj hr
        cases e1'
        refine wpAny_bind (e0 _ _ ?_)
        wp_walk
        exact ⟨rfl, rfl, .inr (.inl e2')⟩
      · obtain ⟨e1', e2'⟩ := List.cons.inj hr
        cases e1'
        refine wpAny_bind (e1 _ _ ?_)
        wp_walk
        exact ⟨rfl, rfl, .inr (.inr e2')⟩
      · cases hr
    case fin =>
      rintro ⟨q1, q2⟩ s' ⟨hq, rfl, _⟩
      simp only at hq
      subst hq
      wp_walk
      exact ⟨_, rfl, h⟩
    case h => exact ⟨rfl, rfl, .inl rfl⟩
theorem rc_ne_pair {A : Around} {s : Shared} {E : Value → Shared → Prop} {l b : Addr} {x0 x1 y0 y1 : Value} {Q : Value → Shared → Prop} (hl : s.heap.IsTuple l #[x0, x1]) (hb : s.heap.IsTuple b #[y0, y1]) (hu : A.units < cLine)
    (e0 : EqIn prog w A.in1 s x0 y0 true) (e1 : EqIn prog w A.in1 s x1 y1 true) (h : Q (.bool false) s) : wpAny (model prog w) A (richCompare .NotEq (.ref l) (.ref b)) Q E s := by
  obtain ⟨⟨c1, d1, a1, s1⟩, ho, hc, n, hd⟩ := id hl
  obtain ⟨⟨c2, d2, a2, s2⟩, ho2, hc2, n2, hd2⟩ := id hb
  simp only at hc hd hc2 hd2
  subst hc hd hc2 hd2
  exact wpAny_richCompare_same_room (T := "tuple") (op := .NotEq) ⟨_, ho, rfl⟩ ⟨_, ho2, rfl⟩ F.slot_tuple_ne (call_meetsIn F.slot_tuple_ne ⟨_, ho, rfl⟩ F.entry_tuple_ne (F.args_tuple_ne_2 _ _) (pair_neIn l b x0 x1 y0 y1 n n2 d1 d2 s1 s2)
    ⟨ho, ho2, e0, e1, nofun, h⟩) hu
end
section
variable {X : Cx}
/-- != of two pairs with the same data -/
def rNeP : R2 := fun x y H Q => ∃ a b x0 x1 y0 y1, x = .ref a ∧ y = .ref b ∧ H a = some (.tup [x0, x1]) ∧ H b = some (.tup [y0, y1]) ∧ Sm H 4 x0 y0 ∧ Sm H 4 x1 y1 ∧ Q (.bl false) H
theorem op_neP (hu : X.A.units + 64 < cLine) : OpR X (compareOp .NotEq) rNeP := by
  intro pins s σ H x y v w Q I rx ry h
  obtain ⟨a, b, x0, x1, y0, y1, rfl, rfl, ha, hb, h0, h1, q⟩ := h
  obtain rfl : v = Value.ref a := rx
  obtain rfl : w = Value.ref b := ry
  obtain ⟨us, r1, p1, _⟩ := I.tuple (.of ha)
  obtain ⟨ws, r2, p2, _⟩ := I.tuple (.of hb)
  cases r1 with
  | cons a1 t1 =>
  cases t1 with
  | cons a2 t2 =>
  cases t2
  cases r2 with
  | cons b1 t1 =>
  cases t1 with
  | cons b2 t2 =>
  cases t2
  exact rc_ne_pair (show s.heap.IsTuple a _ from p1) (show s.heap.IsTuple b _ from p2) (by omega) ((same_eq I 4 _ _ _ _ h0 a1 b1).at X.A.in1 (by show X.A.units + 1 + _ < cLine; omega)) ((same_eq I 4 _ _ _ _ h1 a2 b2).at X.A.in1 (by show X.A.units + 1 + _ < cLine; omega))
    ⟨.bl false, H, I, rfl, q⟩
end
end Qw

-- QwStar
namespace Qw
open PySem PySem.Spec PyProof.Rows L2
section
variable {prog : Program} {w : World} {K : Type} [DecidableEq K] {knd : KeyKind prog w K} {A : Around} {E : Value → Shared → Prop} {s : Shared}
/-- an entry put, its hash known -/
theorem put_at {d : Addr} {kvs : List (K × Value)} {k : K} {key v : Value} {Q : Unit → Shared → Prop} (hkey : knd.is k key = true) (hm : s.heap.DictOf knd d kvs)
    (hQ : ∀ h', h'.DictOf knd d (stored kvs k v) → Heap.SameBut d s.heap h' → Q () { s with heap := h' }) (hsz : kvs.length ≤ sizeLine) :
    wpAny (model prog w) A (dictPut d (knd.hash k) key v) Q E s := by
  obtain ⟨ob, ents, epo, hob, hcl, hdt, hkk, hpp, hnn⟩ := hm
  have hle : ents.size ≤ sizeLine := by
    have es1 := hpp.length
    rw [Array.length_toList] at es1
    omega
  unfold dictPut
  refine wpAny_bind (wpAny_dictFind_of hkey hob hdt hkk ?_)
  have same : (ents.findIdx? fun e => knd.is k e.key) = kvs.findIdx? fun kv => decide (kv.1 = k) := by
    rw [← hpp.findIdx k]
    obtain ⟨l⟩ := ents
    simp
  cases hi : ents.findIdx? fun e => knd.is k e.key with
  | some i =>
    have any : (kvs.any fun kv => decide (kv.1 = k)) = true := any_of_findIdx_some (same ▸ hi)
    refine wpAny_updateDict hob hdt (hQ _ ⟨_, _, epo, Heap.get?_update_self _ hob (Obj.isFreed_of_dict (Obj.data_mapDict hdt _)), hcl.mapDict _, Obj.data_mapDict hdt _, hkk.modify _ _, ?_, ?_⟩ (Heap.SameBut.update ..))
    · rw [stored, if_pos any]
      have hl : (ents.toList.findIdx? fun e => knd.is k e.key) = some i := by
        rw [← hi]
        obtain ⟨l⟩ := ents
        simp
      have q := hpp.modify hnn hl v
      obtain ⟨l⟩ := ents
      simpa using q
    · rw [stored, if_pos any, keys_map_store]
      exact hnn
  | none =>
    have out : k ∉ kvs.map (·.1) := not_mem_of_findIdx_none (same ▸ hi)
    have any : ¬ (kvs.any fun kv => decide (kv.1 = k)) = true := fun q => by
      obtain ⟨kv, h1, h2⟩ := List.any_eq_true.mp q
      exact out (List.mem_map.mpr ⟨kv, h1, of_decide_eq_true h2⟩)
    refine wpAny_updateDictKeys (hz := hle) hob hdt (hQ _ ⟨_, _, epo + 1, Heap.get?_update_self _ hob (Obj.isFreed_of_dict (Obj.data_mapDictKeys hdt _)), hcl.mapDictKeys _, Obj.data_mapDictKeys hdt _, hkk.push hkey _, ?_, ?_⟩ (Heap.SameBut.update ..))
    · rw [stored, if_neg any]
      have q := hpp.append hkey (knd.hash k) v
      obtain ⟨l⟩ := ents
      simpa using q
    · rw [stored, if_neg any, List.map_append]
      exact nd_snoc hnn out
end
section
variable {prog : Program} {w : World} {A : Around} {E : Value → Shared → Prop} {s : Shared}
/-- **m into the dict at d, keys ints and texts -/
theorem merge_at {d o : Addr} {kvs more : List (Key × Value)} {Q : Unit → Shared → Prop} (hdo : d ≠ o) (hoS : (o == sysModules) = false) (hd : s.heap.DictOf (mixKind prog w) d kvs) (ho : s.heap.DictOf (mixKind prog w) o more)
    (hsz : kvs.length + more.length ≤ sizeLine) (hQ : ∀ h', h'.DictOf (mixKind prog w) d (merged kvs more) → Heap.SameBut d s.heap h' → Q () { s with heap := h' }) :
    wpAny (model prog w) A (mergeMapping d (.ref o) false) Q E s := by
  obtain ⟨od, dents, depo, hod, hdcl, hddt, hdkk, hdpp, hdnn⟩ := id hd
  obtain ⟨oo, ents, epo, hoo, hcl, hdt, hkk, hpp, hnn⟩ := id ho
  have hlen : more.length = ents.size := by
    have es1 := hpp.length
    rw [Array.length_toList] at es1
    exact es1.symm
  unfold mergeMapping
  refine wpAny_bind (wpAny_isInstance ho.typeIs isSubtype_dict_dict ?_)
  simp only [if_true]
  refine wpAny_bind (wpAny_specialOf ho.typeIs F.slot_dict_iter.lookup ?_)
  refine wpAny_bind (wpAny_pure ?_)
  simp only [beq_self_eq_true]
  rw [if_neg (show ¬ (o == sysModules) = true by rw [hoS]; exact Bool.false_ne_true)]
  refine wpAny_bind (wpAny_dictEntries hod hddt ?_)
  split
  refine wpAny_bind (wpAny_dictEntries hoo hdt ?_)
  refine wpAny_bind ?_
  rw [← Array.forIn_toList]
  refine wpAny_forIn_list _ (fun rest _ s' => s' = s ∧ ∀ e ∈ rest, e ∈ ents) _ ?_ ?_ _ _ ⟨rfl, fun e hent => by simpa using hent⟩
  · rintro e rest b s' ⟨rfl, hm⟩
    obtain ⟨k, hk, _⟩ := hkk e (hm e List.mem_cons_self)
    rcases keyIs_shape hk with ⟨i, t, _, ek⟩ | ⟨i, t, _, ek⟩
    · rw [ek]
      exact wpAny_pure ⟨rfl, fun e hent => hm e (List.mem_cons_of_mem _ hent)⟩
    · rw [ek]
      exact wpAny_pure ⟨rfl, fun e hent => hm e (List.mem_cons_of_mem _ hent)⟩
  rintro b s' ⟨same, _⟩
  obtain rfl := same.symm
  all_goals
    refine wpAny_bind (wpAny_dictEntries hoo hdt ?_)
    refine wpAny_bind (wpAny_dictEpoch hoo hdt ?_)
    refine wpAny_bind (wpAny_forIn_list _
      (fun rest _ s' => ∃ h' i, s' = { s with heap := h' } ∧ rest = List.range' i (ents.size - i) ∧ i ≤ ents.size ∧ h'.DictOf (mixKind prog w) d (merged kvs (more.take i)) ∧ h'.get? o = some oo ∧ Heap.SameBut d s.heap h')
      _ ?_ ?_ _ _ ⟨s.heap, 0, rfl, by rw [List.range_eq_range']; simp, Nat.zero_le _, by simpa [merged] using hd, hoo, Heap.SameBut.refl _ _⟩)
    · rintro x rest b s' ⟨h', i, rfl, hrest, hi, hdB, hooB, hs'⟩
      have hless : i < ents.size := by
        rcases Nat.lt_or_ge i ents.size with h | h
        · exact h
        · rw [Nat.sub_eq_zero_of_le h] at hrest
          cases hrest
      have eN : ents.size - i = (ents.size - (i + 1)) + 1 := by omega
      rw [eN, List.range'_succ] at hrest
      obtain ⟨rfl, hrest⟩ := List.cons.inj hrest
      refine wpAny_bind (wpAny_dictEntries hooB hdt ?_)
      rw [Array.getElem?_eq_getElem hless]
      have hlm : x < more.length := by rw [hlen]; exact hless
      obtain ⟨k, v, hkv⟩ : ∃ k v, more[x]? = some (k, v) := ⟨_, _, List.getElem?_eq_getElem hlm⟩
      obtain ⟨hkey, hval⟩ := hpp.get? (e := ents[x]) (by rw [Array.getElem?_toList]; exact Array.getElem?_eq_getElem hless) hkv
      obtain ⟨k', hk', hh⟩ := hkk ents[x] (Array.getElem_mem hless)
      have ekk : k' = k := (mixKind prog w).inj _ _ _ hk' hkey
      rw [ekk] at hh
      dsimp only
      rw [hh, hval]
      refine wpAny_bind (wpAny_holding (put_at hkey hdB (fun h2 hd2 hs2 => ?_) ?_))
      · have hoo2 : h2.get? o = some oo := (hs2.2 o hdo.symm).trans hooB
        refine wpAny_bind (wpAny_dictEpoch hoo2 hdt ?_)
        rw [if_neg (by simp)]
        refine wpAny_pure ⟨h2, x + 1, rfl, hrest, hless, ?_, hoo2, ?_⟩
        · rw [merged_take_succ kvs more x (k, v) hkv]
          exact hd2
        · exact hs'.trans hs2
      · have q := merged_length_le kvs (more.take x)
        rw [List.length_take] at q
        omega
    · rintro b s' ⟨h', i, rfl, hrest, hi, hdB, hooB, hs'⟩
      have hin : i = ents.size := by
        rcases Nat.lt_or_ge i ents.size with h | h
        · have eN : ents.size - i = (ents.size - (i + 1)) + 1 := by omega
          rw [eN, List.range'_succ] at hrest
          cases hrest
        · exact Nat.le_antisymm hi h
      refine wpAny_pure (hQ h' ?_ hs')
      rw [hin, ← hlen, List.take_length] at hdB
      exact hdB
end
section
variable {X : Cx} {a b : Expr} {ta tb : TE} {pos : Pos}
/-- {**a, **b} of two dicts with keys ints and texts -/
def tStar2 (ta tb : TE) : TE := fun σ H Q => ∀ D, H D = none → ta σ (upd H D (.dK [])) fun x H1 => ∃ p ks, x = .ref p ∧ p ≠ D ∧ Rd H1 p (.dK ks) ∧ ks.length ≤ 500 ∧ H1 D = some (.dK []) ∧
  tb σ (upd H1 D (.dK (mergeK [] ks))) fun y H2 => ∃ q ls, y = .ref q ∧ q ≠ D ∧ Rd H2 q (.dK ls) ∧ H2 D = some (.dK (mergeK [] ks)) ∧ ls.length ≤ 500 ∧ Q (.ref D) (upd H2 D (.dK (mergeK (mergeK [] ks) ls)))
theorem merge_inv {pins : List (Addr × Obj)} {σ : L2.St} {H : Hp} {s : Shared} {E : Value → Shared → Prop} {D p : Addr} {kvs ks : List (Key × V)} {R : Unit → Shared → Prop} (I : Inv X pins σ H s) (hD : H D = some (.dK kvs)) (hp : Rd H p (.dK ks)) (hne : p ≠ D) (hz : kvs.length + ks.length ≤ 1000)
    (h : ∀ s', Inv X pins σ (upd H D (.dK (mergeK kvs ks))) s' → R () s') : wpAny (model X.prog X.w) X.A (mergeMapping D (.ref p) false) R E s := by
  obtain ⟨_, hd, vs, rv, dd⟩ := dk_of I.hok hD
  obtain ⟨_, hd2, us, ru, du⟩ := dk_rd I.hok hp
  refine merge_at (Ne.symm hne) hd2 dd du (by rw [← rv.length, ← ru.length]; exact Nat.le_trans hz (Nat.le_of_lt (small1000 (Nat.le_refl _)))) fun h' dd' hs => h _ ?_
  have hent : ∃ q, h'.get? D = some q := let ⟨q, _, _, hq, _⟩ := dd'; ⟨q, hq⟩
  have hl : (mergeK kvs ks).length ≤ sizeLine := Nat.le_trans (length_mergeK ks kvs) (Nat.le_of_lt (small1000 hz))
  exact d_write I (by rw [hD]; exact True.intro) hs hent (dk_new hl hd (ru.merge rv) dd')
theorem pe_star2 (ha : PE X a ta) (hb : PE X b tb) : PE X (.Dict [none, none] [a, b] pos) (tStar2 ta tb) := by
  refine ⟨fun pins s σ H Q I h => ?_⟩
  rw [arm_eval_Dict]
  refine wpAny_bind (wpAny_standAt ?_)
  show wpAny _ _ (dictDisplay [(none, do let x ← eval a X.env; standAt pos; pure x), (none, do let x ← eval b X.env; standAt pos; pure x)]) _ _ _
  unfold dictDisplay
  simp only [List.forIn_cons, List.forIn_nil]
  refine wpAny_bind ?_
  refine wpAny_bind ?_
  refine wpAny_bind (wpAny_pure ?_)
  refine wpAny_bind (wpAny_alloc ?_)
  have hfree : H s.heap.objs.size = none := I.hok.fresh (Nat.le_refl _)
  have I0 : Inv X pins σ (upd H s.heap.objs.size (.dK [])) { s with heap := s.heap.push { cls := .type "dict", data := .dict #[] } } :=
    I.laid (t' := s.toks) (fun b o e => Heap.get?_push_of_some _ e) (Nat.le_refl _) (dk_empty s.heap I.big)
  refine wpAny_bind (wpAny_holding (wpAny_bind (thn (ha.run pins _ σ _ _ I0 (h _ hfree)) fun v s1 ⟨x, H1, I1, r1, q1⟩ => wpAny_bind (wpAny_standAt (wpAny_pure ?_)))))
  obtain ⟨p, ks, rfl, hp, rd, hk, hD, q1⟩ := q1
  obtain rfl : v = Value.ref p := r1
  refine wpAny_bind (wpAny_onRaise (wpAny_tryCatch (wpAny_onRaise (wpAny_holding (merge_inv I1 hD rd hp (by simp only [List.length_nil]; omega) fun s2 I2 => ?_)))))
  refine wpAny_pure ?_
  refine wpAny_bind ?_
  refine wpAny_bind (wpAny_pure ?_)
  refine wpAny_bind (wpAny_pure ?_)
  refine wpAny_bind (wpAny_holding (wpAny_bind (thn (hb.run pins s2 σ _ _ I2 q1) fun u s3 ⟨y, H3, I3, r3, q3⟩ => wpAny_bind (wpAny_standAt (wpAny_pure ?_)))))
  obtain ⟨q, ls, rfl, hq, rd2, hD2, hl, q3⟩ := q3
  obtain rfl : u = Value.ref q := r3
  have hm := length_mergeK ks []
  simp only [List.length_nil, Nat.zero_add] at hm
  refine wpAny_bind (wpAny_onRaise (wpAny_tryCatch (wpAny_onRaise (wpAny_holding (merge_inv I3 hD2 rd2 hq (by omega) fun s4 I4 => ?_)))))
  refine wpAny_pure (wpAny_pure ?_)
  refine wpAny_bind (wpAny_pure ?_)
  exact wpAny_pure ⟨.ref _, _, I4, rfl, q3⟩
end
end Qw

-- QwRepr
namespace Qw
open PySem PySem.Spec PyProof.Rows L2
def Short (z : Str) : Prop := z.cps.size ≤ 8 ∧ (z.cps.toList.all fun c => decide (c < 16 ^ 8)) = true
theorem short_n (n : Nm) : Short n.s := by cases n <;> exact ⟨by decide +kernel, by decide +kernel⟩
theorem short_l (l : Lf) : Short l.s := by cases l <;> exact ⟨by decide +kernel, by decide +kernel⟩
/-- v reads as the data d: texts, dicts of such -/
def Rp (H : Hp) : Nat → V → PyData → Prop
  | 0, v, d => ∃ z, v = .str z ∧ d = .str z ∧ Short z
  | n + 1, v, d => (∃ z, v = .str z ∧ d = .str z ∧ Short z) ∨ ∃ p kvs ds, v = .ref p ∧ H p = some (.dK kvs) ∧ d = .dict ds ∧ kvs.length ≤ 5 ∧
      Paired (fun (kv : Key × V) (q : PyData × PyData) => (∃ x, kv.1 = .inr x ∧ q.1 = .str x ∧ Short x) ∧ Rp H n kv.2 q.2) kvs ds
theorem Rp.mono {H H' : Hp} (g : Same H H') : ∀ {n : Nat} {v : V} {d : PyData}, Rp H n v d → Rp H' n v d
  | 0, _, _, h => h
  | n + 1, _, _, h => by
    rcases h with h | ⟨p, kvs, ds, h1, h2, h3, h4, h5⟩
    · exact .inl h
    · exact .inr ⟨p, kvs, ds, h1, g _ _ h2, h3, h4, L2.Paired.mapP h5 fun _ _ q => ⟨q.1, Rp.mono g q.2⟩⟩
theorem paired_of {α β : Type} {F : α → β → Prop} : ∀ {xs : List α}, (∀ x ∈ xs, ∃ y, F x y) → ∃ ys, Paired F xs ys
  | [], _ => ⟨[], .nil⟩
  | x :: r, h => by
    obtain ⟨y, hy⟩ := h x List.mem_cons_self
    obtain ⟨ys, hr⟩ := paired_of (xs := r) fun z hz => h z (List.mem_cons_of_mem _ hz)
    exact ⟨y :: ys, .cons hy hr⟩
/-- a tree reads -/
theorem TV.rp {H : Hp} : ∀ (n : Nat) {t : T} {v : V}, t.dep ≤ n → TV H t v → ∃ d, Rp H n v d
  | 0, t, v, hd, h => by
    rcases h.cases with ⟨l, rfl, rfl⟩ | ⟨hn, _⟩
    · exact ⟨_, l.s, rfl, rfl, short_l l⟩
    · have := dep_pos hn
      omega
  | n + 1, t, v, hd, h => by
    rcases h.cases with ⟨l, rfl, rfl⟩ | ⟨hn, p, kvs, rfl, hp, k⟩
    · exact ⟨_, .inl ⟨l.s, rfl, rfl, short_l l⟩⟩
    · have all : ∀ kv ∈ kvs, ∃ q : PyData × PyData, (∃ x, kv.1 = .inr x ∧ q.1 = .str x ∧ Short x) ∧ Rp H n kv.2 q.2 := fun kv hkv => by
        obtain ⟨m, em⟩ := k.1.2 kv.1 (List.mem_map.mpr ⟨kv, hkv, rfl⟩)
        have e1 : valV kvs m.k = some kv.2 := by rw [← em]; exact val_nodup k.1.1 _ hkv
        rcases k.2 m with ⟨_, e⟩ | ⟨_, x, e, tx⟩
        · rw [e1] at e; cases e
        · rw [e1] at e; cases e
          obtain ⟨d, hr⟩ := TV.rp n (by have := dep_kid_lt hn m; omega) tx
          exact ⟨(.str m.s, d), ⟨m.s, em, rfl, short_n m⟩, hr⟩
      obtain ⟨ds, hds⟩ := paired_of all
      exact ⟨_, .inr ⟨p, kvs, ds, rfl, hp, rfl, k.len, hds⟩⟩
/-- how heavy such data are -/
def wt : Nat → Nat
  | 0 => 8
  | n + 1 => 5 * (wt n + 10)
structure Nice (n : Nat) (d : PyData) : Prop where
  sh : d.showable = true
  lv : d.leavesShort 13 = true
  wt : d.weight ≤ wt n
  dp : d.depth ≤ n
theorem wt_le : ∀ n, 8 ≤ wt n
  | 0 => Nat.le_refl _
  | n + 1 => by
    have := wt_le n
    simp only [wt]
    omega
theorem nice_str {n : Nat} {z : Str} (h : Short z) : Nice n (.str z) := by
  refine ⟨by simp only [PyData.showable], ?_, ?_, Nat.zero_le _⟩
  · simp only [PyData.leavesShort]; exact h.2
  · simp only [PyData.weight]
    exact Nat.le_trans h.1 (wt_le n)
theorem nice_kv {n : Nat} {F : Key × V → PyData × PyData → Prop} (hF : ∀ kv q, F kv q → (∃ x, q.1 = .str x ∧ Short x) ∧ Nice n q.2) : ∀ {kvs : List (Key × V)} {ds : List (PyData × PyData)}, Paired F kvs ds →
    PyData.showableKv ds = true ∧ PyData.leavesShortKv 13 ds = true ∧ PyData.weightKv ds ≤ kvs.length * (wt n + 10) ∧ PyData.depthKv ds ≤ n
  | _, _, .nil => ⟨rfl, rfl, Nat.zero_le _, Nat.zero_le _⟩
  | _, _, .cons (b := q) h t => by
    obtain ⟨⟨x, e1, e2⟩, e3⟩ := hF _ _ h
    obtain ⟨h1, h2, h3, h4⟩ := nice_kv hF t
    obtain ⟨k, d⟩ := q
    simp only at e1 e3
    subst e1
    have nk := nice_str (n := n) e2
    refine ⟨?_, ?_, ?_, ?_⟩
    · simp only [PyData.showableKv, nk.sh, e3.sh, h1, Bool.and_self]
    · simp only [PyData.leavesShortKv, nk.lv, e3.lv, h2, Bool.and_self]
    · have w1 : (PyData.str x).weight ≤ 8 := by simp only [PyData.weight]; exact e2.1
      have w2 := e3.wt
      simp only [PyData.weightKv, List.length_cons]
      rw [Nat.add_mul, Nat.one_mul]
      omega
    · have d1 : (PyData.str x).depth = 0 := by simp only [PyData.depth]
      have d2 := e3.dp
      simp only [PyData.depthKv]
      omega
theorem Rp.nice {H : Hp} : ∀ {n : Nat} {v : V} {d : PyData}, Rp H n v d → Nice n d
  | 0, _, _, ⟨z, _, e, h⟩ => by rw [e]; exact nice_str h
  | n + 1, _, _, h => by
    rcases h with ⟨z, _, e, h⟩ | ⟨p, kvs, ds, _, _, rfl, h4, h5⟩
    · rw [e]; exact nice_str h
    · obtain ⟨h1, h2, h3, h6⟩ := nice_kv (n := n) (fun kv q h => ⟨let ⟨x, _, e, s⟩ := h.1; ⟨x, e, s⟩, Rp.nice h.2⟩) h5
      refine ⟨by simp only [PyData.showable]; exact h1, by simp only [PyData.leavesShort]; exact h2, ?_, ?_⟩
      · simp only [PyData.weight, wt]
        exact Nat.le_trans h3 (Nat.mul_le_mul_right _ h4)
      · simp only [PyData.depth]
        omega
theorem nice_all {n : Nat} {F : V → PyData → Prop} (hF : ∀ v d, F v d → Nice n d) : ∀ {vs : List V} {ds : List PyData}, Paired F vs ds →
    PyData.showableAll ds = true ∧ PyData.leavesShortAll 13 ds = true ∧ PyData.weightAll ds ≤ vs.length * (wt n + 10) ∧ PyData.depthAll ds ≤ n
  | _, _, .nil => ⟨rfl, rfl, Nat.zero_le _, Nat.zero_le _⟩
  | _, _, .cons (b := d) h t => by
    have e := hF _ _ h
    obtain ⟨h1, h2, h3, h4⟩ := nice_all hF t
    refine ⟨?_, ?_, ?_, ?_⟩
    · simp only [PyData.showableAll, e.sh, h1, Bool.and_self]
    · simp only [PyData.leavesShortAll, e.lv, h2, Bool.and_self]
    · have w2 := e.wt
      simp only [PyData.weightAll, List.length_cons]
      rw [Nat.add_mul, Nat.one_mul]
      omega
    · have d2 := e.dp
      simp only [PyData.depthAll]
      omega
section
variable {X : Cx} {pins : List (Addr × Obj)} {σ : L2.St} {H : Hp} {s : Shared}
theorem reads_all {h : Heap} {F : V → PyData → Prop} (ih : ∀ v u d, F v d → RelV v u → ∃ as, Reads h u d as ∧ sysModules ∉ as) : ∀ {vs : List V} {us : List Value} {ds : List PyData}, Paired F vs ds → Vals vs us → ∃ as, ReadsAll h us ds as ∧ sysModules ∉ as
  | _, _, _, .nil, .nil => ⟨[], .nil, by simp⟩
  | _, _, _, .cons f t, .cons r rr => by
    obtain ⟨as, h1, h2⟩ := ih _ _ _ f r
    obtain ⟨bs, h3, h4⟩ := reads_all ih t rr
    exact ⟨as ++ bs, .cons h1 h3, fun q => (List.mem_append.mp q).elim h2 h4⟩
theorem reads_kv {h : Heap} {n : Nat} (ih : ∀ v u d, Rp H n v d → RelV v u → ∃ as, Reads h u d as ∧ sysModules ∉ as) : ∀ {kvs : List (Key × V)} {vs : List (Key × Value)} {ds : List (PyData × PyData)} {es : List DictEntry},
    Paired (fun (kv : Key × V) (q : PyData × PyData) => (∃ x, kv.1 = .inr x ∧ q.1 = .str x ∧ Short x) ∧ Rp H n kv.2 q.2) kvs ds → KV kvs vs → (∀ (i : Nat) (e : DictEntry) (k : Key) (v : Value), es[i]? = some e → vs[i]? = some (k, v) → keyIs k e.key = true ∧ e.val = v) → es.length = vs.length →
    ∃ as bs, ReadsAll h (es.map (·.key)) (ds.map (·.1)) as ∧ ReadsAll h (es.map (·.val)) (ds.map (·.2)) bs ∧ sysModules ∉ as ∧ sysModules ∉ bs
  | _, _, _, [], .nil, .nil, _, _ => ⟨[], [], .nil, .nil, by simp, by simp⟩
  | _, _, _, _ :: _, .nil, .nil, _, hl => by simp at hl
  | _, _, _, [], .cons _ _, .cons _ _, _, hl => by simp at hl
  | _, _, _, e :: es, .cons f t, .cons (b := (k, v)) r rr, he, hl => by
    obtain ⟨as, bs, h1, h2, h3, h4⟩ := reads_kv ih t rr (fun i e' k' v' a b => he (i + 1) e' k' v' (by simpa using a) (by simpa using b)) (by simpa using hl)
    obtain ⟨hk, hv⟩ := he 0 e k v rfl rfl
    obtain ⟨⟨x, e1, e2, _⟩, f2⟩ := f
    obtain ⟨r1, r2⟩ := r
    have r1 : _ = k := r1
    rw [e1] at r1
    subst r1
    obtain ⟨tk, ek⟩ := Value.isStrOf_shape (x := x) (v := e.key) hk
    obtain ⟨cs, h5, h6⟩ := ih _ _ _ f2 r2
    refine ⟨[] ++ as, cs ++ bs, ?_, ?_, by simpa using h3, fun q => (List.mem_append.mp q).elim h6 h4⟩
    · simp only [List.map_cons, e2, ek]
      exact .cons (.str _ _) h1
    · simp only [List.map_cons, hv]
      exact .cons h5 h2
theorem Rp.reads (I : Inv X pins σ H s) : ∀ {n : Nat} {v : V} {u : Value} {d : PyData}, Rp H n v d → RelV v u → ∃ as, Reads s.heap u d as ∧ sysModules ∉ as
  | 0, _, _, _, ⟨z, e1, e2, _⟩, r => by
    subst e1 e2
    obtain ⟨t, rfl⟩ := r
    exact ⟨[], .str _ _, by simp⟩
  | n + 1, _, _, _, h, r => by
    rcases h with ⟨z, e1, e2, _⟩ | ⟨p, kvs, ds, rfl, hp, rfl, _, h5⟩
    · subst e1 e2
      obtain ⟨t, rfl⟩ := r
      exact ⟨[], .str _ _, by simp⟩
    · cases r
      obtain ⟨_, hd, vs, rel, o, es, ep, ho, hc, hdt, hkk, hpp, hnn⟩ := (show ObjOk X.prog X.w H s.heap p (.dK kvs) from I.hok p _ hp)
      obtain ⟨as, bs, h1, h2, h3, h4⟩ := reads_kv (H := H) (n := n) (fun v u d q r => Rp.reads I q r) h5 rel (es := es.toList) (fun i e k v a b => by
        obtain ⟨q1, q2⟩ := hpp.get? a b
        exact ⟨q1, q2⟩) hpp.length
      refine ⟨p :: as ++ bs, .dict ho hc.1 hdt h1 h2, fun q => ?_⟩
      rcases List.mem_append.mp q with q | q
      · rcases List.mem_cons.mp q with q | q
        · rw [← q] at hd
          exact absurd hd (by simp)
        · exact h3 q
      · exact h4 q
end
section
variable {X : Cx} {es : List Expr} {t : TA} {p pos lpos : Pos}
/-- repr([e, ..]) where nothing is being shown -/
def tReprL (t : TA) : TE := fun σ H Q => t σ H fun vs H1 => ∃ ds, Paired (Rp H1 5) vs ds ∧ vs.length ≤ 5 ∧ ∀ q, H1 q = none → Q (.str (PyData.shown (.list ds))) (upd H1 q (.lst vs))
theorem pe_reprL (hG : X.A.guards = some []) (hu : X.A.units + 64 < cLine) (hg : Gl X "repr") (hm : X.mg "repr" = none) (ha : PA X es t) (he : starEach [Expr.List es lpos] X.env = (false, eval (.List es lpos) X.env) :: starEach [] X.env := by rfl)
    (hpl : (backTo pos (starEach [] X.env)).any (·.1) = false := by rfl) : PE X (.Call (.Name "repr" p) [.List es lpos] [] pos) (tReprL t) := by
  refine ⟨fun pins s σ H Q I h => ?_⟩
  refine wpAny_Call_Name_kw (ld_blt I hg hm (u := .builtin "repr") (by decide +kernel) ?_)
  refine PyProof.Rows.callWith_builtin1 ?_ he hpl
  rw [he]
  refine Calls.spliced_cons (wpAny_List_spliced (thn (ha.run lpos pins s σ H _ I h) fun us s1 ⟨xs, H1, I1, r, ds, hp, hl, q⟩ => ⟨by rw [← r.length]; exact Nat.le_trans hl (by decide), ?_⟩))
  refine Calls.spliced_nil ?_
  have hf : H1 s1.heap.objs.size = none := I1.hok.fresh (Nat.le_refl _)
  have I2 : Inv X pins σ (upd H1 s1.heap.objs.size (.lst xs)) { s1 with heap := s1.heap.push { cls := .type "list", data := .seq us.toArray } } :=
    I1.laid (t' := s1.toks) (fun b u e => Heap.get?_push_of_some _ e) (Nat.le_refl _) ⟨Nat.le_trans hl (by decide), us, 0, r, Heap.get?_push_size _ rfl⟩
  obtain ⟨as, h1, h2⟩ := reads_all (h := (s1.heap.push { cls := .type "list", data := .seq us.toArray })) (F := Rp (upd H1 s1.heap.objs.size (.lst xs)) 5) (fun v u d q r => Rp.reads I2 q r) (L2.Paired.mapP hp fun _ _ q => q.mono (same_new hf _)) r
  have rd : Reads (s1.heap.push { cls := .type "list", data := .seq us.toArray }) (.ref s1.heap.objs.size) (.list ds) (s1.heap.objs.size :: as) := .list (Heap.get?_push_size _ rfl) rfl rfl (by simpa using h1)
  obtain ⟨n1, n2, n3, n4⟩ := nice_all (n := 5) (fun v d q => Rp.nice q) hp
  have big := I1.big
  refine repr_of_reads' rd (by simp only [PyData.showable]; exact n1) (fun _ hm => ?_) hG (by simp only [PyData.depth]; omega) (fun _ _ e => e) (fun h' u tk hk => ⟨.str _, _, I2.kept hk, ⟨_, rfl⟩, q _ hf⟩) (PyData.shown_fits (B := 13) (by decide) (by decide) (by simp only [PyData.leavesShort]; exact n2) ?_)
  · rcases List.mem_cons.mp hm with e | e
    · exact absurd e (Nat.ne_of_lt big)
    · exact h2 e
  · simp only [PyData.weight]
    have w : wt 5 + 10 ≤ 200000 := by decide
    have := Nat.mul_le_mul hl w
    omega
end
end Qw

-- QwSet0
/-! Set tables of up to 1,000 places, as far as a set of tuples of texts needs them: each search ends, each new layout has room. -/
namespace Qw
open PySem PySem.Spec PyProof.Rows L2
def seen (m : Nat) : Nat → Nat → Nat → Nat
  | 0, _, acc => acc
  | f + 1, i, acc => seen m f ((i * 5 + 1) % (m + 1)) (acc ||| (1 <<< i))
theorem seen511 : seen 511 512 0 0 = 2 ^ 512 - 1 := by decide +kernel
theorem seen2047 : seen 2047 2048 0 0 = 2 ^ 2048 - 1 := by decide +kernel
theorem per511 : lcgI 511 0 512 = 0 := by decide +kernel
theorem per2047 : lcgI 2047 0 2048 = 0 := by decide +kernel
theorem lcgI_shift (m i : Nat) : ∀ k, lcgI m ((i * 5 + 1) % (m + 1)) k = lcgI m i (k + 1)
  | 0 => rfl
  | k + 1 => by
    show (lcgI m ((i * 5 + 1) % (m + 1)) k * 5 + 1) % (m + 1) = (lcgI m i (k + 1) * 5 + 1) % (m + 1)
    rw [lcgI_shift m i k]
theorem lcgI_twice (m i a : Nat) : ∀ k, lcgI m (lcgI m i a) k = lcgI m i (a + k)
  | 0 => rfl
  | k + 1 => by
    show (lcgI m (lcgI m i a) k * 5 + 1) % (m + 1) = (lcgI m i (a + k) * 5 + 1) % (m + 1)
    rw [lcgI_twice m i a k]
theorem seen_spec (m j : Nat) : ∀ (f i acc : Nat), (seen m f i acc).testBit j = true → acc.testBit j = true ∨ ∃ k, k < f ∧ lcgI m i k = j
  | 0, _, _, h => .inl h
  | f + 1, i, acc, h => by
    rcases seen_spec m j f _ _ h with h | ⟨k, hk, e⟩
    · rw [Nat.testBit_or, Bool.or_eq_true] at h
      rcases h with h | h
      · exact .inl h
      · refine .inr ⟨0, Nat.succ_pos _, ?_⟩
        rw [Nat.testBit_shiftLeft, Bool.and_eq_true] at h
        obtain ⟨h1, h2⟩ := h
        have h1 : i ≤ j := of_decide_eq_true h1
        have h3 : j - i = 0 := by
          refine Classical.byContradiction fun hnew => ?_
          have : Nat.testBit 1 (j - i) = false := by
            obtain ⟨z, hz⟩ : ∃ z, j - i = z + 1 := ⟨j - i - 1, by omega⟩
            rw [hz, Nat.testBit_succ]
            simp
          rw [this] at h2
          cases h2
        show i = j
        omega
    · exact .inr ⟨k + 1, Nat.succ_lt_succ hk, by rw [← lcgI_shift]; exact e⟩
/-- every place is met from every hash -/
structure Cov (m : Nat) : Prop where
  odd : m % 2 = 1
  le : m ≤ 2047
  meets : ∀ (h : Int) {j : Nat}, j ≤ m → ∃ n, n ≤ m + 12 ∧ runI m (SetTable.bits h) n = j
theorem Cov.of_small {m : Nat} (h : MaskOk m) : Cov m := ⟨mask_odd h, by rcases h with e | e | e <;> omega, fun hh _ hj => run_meets h hh hj⟩
theorem Cov.of_seen {m n : Nat} (hm : m + 1 = n) (hodd : m % 2 = 1) (hle : m ≤ 2047) (hs : seen m n 0 0 = 2 ^ n - 1) (hp : lcgI m 0 n = 0) : Cov m := by
  subst hm
  have all : ∀ j, j ≤ m → ∃ k, k ≤ m ∧ lcgI m 0 k = j := fun j hj => by
    have h : (seen m (m + 1) 0 0).testBit j = true := by
      rw [hs, Nat.testBit_two_pow_sub_one]
      exact decide_eq_true (Nat.lt_succ_of_le hj)
    rcases seen_spec m j (m + 1) 0 0 h with h | ⟨k, hk, e⟩
    · rw [Nat.zero_testBit] at h; cases h
    · exact ⟨k, Nat.le_of_lt_succ hk, e⟩
  have per : ∀ k, lcgI m 0 (m + 1 + k) = lcgI m 0 k := fun k => by rw [← lcgI_twice, hp]
  refine ⟨hodd, hle, fun h j hj => ?_⟩
  obtain ⟨a, ha, ea⟩ := all _ (runI_le m (SetTable.bits h) 12)
  obtain ⟨b, hb, eb⟩ := all j hj
  have : ∃ k, k ≤ m ∧ lcgI m (runI m (SetTable.bits h) 12) k = j := by
    rw [← ea]
    rcases Nat.lt_or_ge b a with lo | lo
    · refine ⟨m + 1 + b - a, by omega, ?_⟩
      rw [lcgI_twice, show a + (m + 1 + b - a) = m + 1 + b by omega, per, eb]
    · exact ⟨b - a, by omega, by rw [lcgI_twice, show a + (b - a) = b by omega, eb]⟩
  obtain ⟨k, hk, e⟩ := this
  refine ⟨12 + k, by omega, ?_⟩
  rw [runI_tail (bits_lt h), e]
theorem cov7 : Cov 7 := .of_small (.inl rfl)
theorem cov31 : Cov 31 := .of_small (.inr (.inl rfl))
theorem cov127 : Cov 127 := .of_small (.inr (.inr rfl))
theorem cov511 : Cov 511 := .of_seen rfl (by decide) (by decide) seen511 per511
theorem cov2047 : Cov 2047 := .of_seen rfl (by decide) (by decide) seen2047 per2047
/-- the masks that come -/
def Msk (m : Nat) : Prop := m = 7 ∨ m = 31 ∨ m = 127 ∨ m = 511 ∨ m = 2047
theorem Msk.cov {m : Nat} (h : Msk m) : Cov m := by
  rcases h with e | e | e | e | e <;> subst e
  · exact cov7
  · exact cov31
  · exact cov127
  · exact cov511
  · exact cov2047
theorem sz20 : SetTable.sizeAbove 20 = 32 := by decide +kernel
theorem sz76 : SetTable.sizeAbove 76 = 128 := by decide +kernel
theorem sz308 : SetTable.sizeAbove 308 = 512 := by decide +kernel
theorem sz1228 : SetTable.sizeAbove 1228 = 2048 := by decide +kernel
/-- a full table's successor -/
theorem next_mask {m n : Nat} (h : Msk m) (h1 : n * 5 < m * 3) (h2 : m * 3 ≤ (n + 1) * 5) (h3 : n ≤ 1000) :
    SetTable.sizeAbove (SetTable.grown (n + 1)) ≤ 2048 ∧ Msk (SetTable.sizeAbove (SetTable.grown (n + 1)) - 1) ∧ (n + 1) * 5 < (SetTable.sizeAbove (SetTable.grown (n + 1)) - 1) * 3 ∧ n + 1 ≤ SetTable.sizeAbove (SetTable.grown (n + 1)) - 1 := by
  have hg : SetTable.grown (n + 1) = (n + 1) * 4 := by
    unfold SetTable.grown
    rw [if_neg (by omega)]
  rw [hg]
  rcases h with e | e | e | e | e <;> subst e
  · obtain rfl : n = 4 := by omega
    rw [show (4 + 1) * 4 = 20 from rfl, sz20]
    exact ⟨by decide, .inr (.inl rfl), by decide, by decide⟩
  · obtain rfl : n = 18 := by omega
    rw [show (18 + 1) * 4 = 76 from rfl, sz76]
    exact ⟨by decide, .inr (.inr (.inl rfl)), by decide, by decide⟩
  · obtain rfl : n = 76 := by omega
    rw [show (76 + 1) * 4 = 308 from rfl, sz308]
    exact ⟨by decide, .inr (.inr (.inr (.inl rfl))), by decide, by decide⟩
  · obtain rfl : n = 306 := by omega
    rw [show (306 + 1) * 4 = 1228 from rfl, sz1228]
    exact ⟨by decide, .inr (.inr (.inr (.inr rfl))), by decide, by decide⟩
  · omega

/-- a table of n places -/
structure Tb (t : SetTable) (n : Nat) : Prop where
  ris : Ris t.place.toList
  dm : t.dummies = #[]
  sz : t.place.size = n
  msk : Msk t.mask
  room : n * 5 < t.mask * 3
theorem Tb.fits {t : SetTable} {n : Nat} (T : Tb t n) : t.fits n = true := by
  have h1 := T.sz
  have h2 := T.room
  unfold SetTable.fits
  unfold SetTable.fill
  rw [T.dm, Bool.and_eq_true, beq_iff_eq, decide_eq_true_eq]
  show t.place.size = n ∧ t.place.size + 0 ≤ t.mask
  omega
theorem Tb.gw {t : SetTable} {n : Nat} (T : Tb t n) : ¬ t.gaveWay = true := by
  unfold SetTable.gaveWay
  rw [T.msk.cov.odd]
  decide
/-- the first empty place on the way -/
theorem Tb.first {t : SetTable} {n : Nat} (T : Tb t n) (h : Int) : ∃ kst, kst < 10 * SetTable.turns t.mask ∧ way t.mask h kst ∉ t.place.toList ∧ ∀ k, k < kst → way t.mask h k ∈ t.place.toList := by
  have hcnt : t.place.toList.length < t.mask + 1 := by
    have h1 := T.sz
    have h2 := T.room
    rw [Array.length_toList]
    omega
  obtain ⟨j, hj, hnew⟩ := st_missing t.place.toList (t.mask + 1) hcnt
  obtain ⟨r, hrel, er⟩ := T.msk.cov.meets h (Nat.le_of_lt_succ hj)
  obtain ⟨k, hk, ek⟩ := run_nth t.mask (SetTable.bits h) r
  have hway : way t.mask h k = j := by
    show (nth t.mask (runAt t.mask (SetTable.bits h % (t.mask + 1)) (SetTable.bits h)) k).j = j
    rw [ek]
    exact er
  obtain ⟨kst, h1, h2, h3⟩ := st_least (p := fun k => way t.mask h k ∉ t.place.toList) k (by show way t.mask h k ∉ _; rw [hway]; exact hnew)
  refine ⟨kst, ?_, h2, fun k' hk' => Classical.byContradiction fun c => h3 k' hk' c⟩
  unfold SetTable.turns
  omega
/-- one put in -/
theorem Tb.put {t : SetTable} {n j : Nat} (T : Tb t n) (hj : j ∉ t.place.toList) : (t.put j).2 ≤ n ∧ Ris (t.put j).1.place.toList ∧ (t.put j).1.dummies = #[] ∧ (t.put j).1.place.size = n + 1 ∧ (t.put j).1.mask = t.mask ∧ (t.put j).1.led = t.led ∧ (t.put j).1.plain = t.plain := by
  obtain ⟨cut1, _, _⟩ := below_cut T.ris j
  have hnp : t.place[SetTable.below t.place j]? ≠ some j := fun e => hj (List.mem_of_getElem? (by rw [Array.getElem?_toList]; exact e))
  have hl : SetTable.below t.place j ≤ t.place.toList.length := by rw [Array.length_toList]; exact cut1
  refine ⟨by rw [← T.sz]; exact cut1, ris_insert T.ris hnp, put_dm T.dm j, ?_, rfl, rfl, rfl⟩
  rw [← Array.length_toList, put_place, len_ins _ hl, Array.length_toList, T.sz]

/-! ### the new layout -/
theorem way_in (m : Nat) (h : Int) (k : Nat) : way m h k ≤ m := by
  have hlow : SetTable.bits h % (m + 1) ≤ m := Nat.le_of_lt_succ (Nat.mod_lt _ (Nat.succ_pos _))
  have hrel := runEnd_bd hlow
  have q := nth_in (m := m) k (runAt m (SetTable.bits h % (m + 1)) (SetTable.bits h)) (by show SetTable.bits h % (m + 1) + (SetTable.runEnd m (SetTable.bits h % (m + 1)) - SetTable.bits h % (m + 1)) ≤ m; omega)
  exact Nat.le_trans (Nat.le_add_right _ _) q
theorem free_at {m : Nat} (c : Cov m) (seat : Array (Option Nat)) (h : Int) {j : Nat} (hj : j ≤ m) (hf : oAt seat j = none) :
    ∃ p, SetTable.layClean.free m seat (SetTable.turns m) (SetTable.bits h % (m + 1)) (SetTable.bits h) = some p ∧ p ≤ m ∧ oAt seat p = none := by
  obtain ⟨n, hnew, e⟩ := c.meets h hj
  have hway : way m h (off m (SetTable.bits h % (m + 1)) (SetTable.bits h) n) = j := by
    refine Eq.trans (b := (nth m (runAt m (SetTable.bits h % (m + 1)) (SetTable.bits h)) (off m (SetTable.bits h % (m + 1)) (SetTable.bits h) n)).j) rfl ?_
    rw [nth_off, itL_run]
    exact e
  obtain ⟨kst, kin1, k2, kless⟩ := st_least (p := fun k => oAt seat (way m h k) = none) (off m (SetTable.bits h % (m + 1)) (SetTable.bits h) n) (by
    show oAt seat (way m h _) = none
    rw [hway]
    exact hf)
  have k2 : oAt seat (way m h kst) = none := k2
  refine ⟨way m h kst, ?_, way_in m h kst, k2⟩
  refine free_spec m seat (SetTable.turns m) n _ _ kst (by unfold SetTable.turns; omega) kin1 (fun k hk => ?_) ?_
  · show (oAt seat (way m h k)).isNone = false
    cases z : oAt seat (way m h k) with
    | none => exact absurd z (kless k hk)
    | some _ => rfl
  · show (oAt seat (way m h kst)).isNone = true
    rw [k2]
    rfl
structure Ow (m n : Nat) (seat : Array (Option Nat)) : Prop where
  sz : seat.size = m + 1
  all : ∀ k, k < n → ∃ j, j ≤ m ∧ oAt seat j = some k
  ps : ∃ ps : List Nat, ps.length = n ∧ ∀ j, j ≤ m → oAt seat j ≠ none → j ∈ ps
theorem Ow.step {m n : Nat} (c : Cov m) {seat : Array (Option Nat)} (W : Ow m n seat) (hl : n ≤ m) (h : Int) :
    ∃ j, SetTable.layClean.free m seat (SetTable.turns m) (SetTable.bits h % (m + 1)) (SetTable.bits h) = some j ∧ Ow m (n + 1) (seat.setIfInBounds j (some n)) := by
  obtain ⟨ps, hps, hin⟩ := W.ps
  obtain ⟨jfree, jlow, jout⟩ := st_missing ps (m + 1) (by omega)
  have hj0 : oAt seat jfree = none := Classical.byContradiction fun z => jout (hin jfree (Nat.le_of_lt_succ jlow) z)
  obtain ⟨p, e1, hpm, e2⟩ := free_at c seat h (Nat.le_of_lt_succ jlow) hj0
  have hp : p < seat.size := by rw [W.sz]; exact Nat.lt_succ_of_le hpm
  have hself := oAt_set_self (some n) hp
  refine ⟨p, e1, ⟨by rw [Array.size_setIfInBounds]; exact W.sz, fun k hk => ?_, ⟨p :: ps, by rw [List.length_cons, hps], fun j hj e => ?_⟩⟩⟩
  · by_cases d : k < n
    · obtain ⟨j, hj, e⟩ := W.all k d
      refine ⟨j, hj, ?_⟩
      rw [oAt_set_ne _ fun z => by rw [z, e2] at e; cases e]
      exact e
    · obtain rfl : k = n := by omega
      exact ⟨p, hpm, hself⟩
  · by_cases d : j = p
    · rw [d]
      exact List.mem_cons_self
    · rw [oAt_set_ne _ d] at e
      exact .tail _ (hin j hj e)
theorem Ow.fold {m : Nat} (c : Cov m) : ∀ (rest : List Int) (n : Nat) (seat : Array (Option Nat)), Ow m n seat → n + rest.length ≤ m → ∃ seat', rest.foldl (stepF m) (some (seat, n)) = some (seat', n + rest.length) ∧ Ow m (n + rest.length) seat'
  | [], n, seat, W, _ => ⟨seat, rfl, W⟩
  | h :: rest, n, seat, W, hl => by
    rw [List.length_cons] at hl
    obtain ⟨j, e, W'⟩ := W.step c (by omega) h
    obtain ⟨seat', f, W2⟩ := Ow.fold c rest (n + 1) _ W' (by omega)
    refine ⟨seat', ?_, ?_⟩
    · rw [List.foldl_cons, stepF_some e, f, List.length_cons, show n + 1 + rest.length = n + (rest.length + 1) by omega]
    · rw [List.length_cons, show n + (rest.length + 1) = n + 1 + rest.length by omega]
      exact W2
theorem lay_at {m : Nat} (c : Cov m) {hs : Array Int} (hnew : hs.size ≤ m) : ∃ seat, SetTable.layClean m hs = some seat ∧ Ow m hs.size seat := by
  have w0 : Ow m 0 (Array.replicate (m + 1) none) := ⟨by simp, fun k hk => absurd hk (Nat.not_lt_zero _), [], rfl, fun j hj e => absurd (oAt_init hj) e⟩
  obtain ⟨seat, f, W⟩ := Ow.fold c hs.toList 0 _ w0 (by rw [Array.length_toList]; omega)
  rw [Nat.zero_add, Array.length_toList] at f W
  refine ⟨seat, ?_, W⟩
  rw [layClean_eq, f]
  rfl
/-- a table laid anew: the order is one of all -/
theorem relaid_at (t : SetTable) {hs : Array Int} {wanted M : Nat} (hway : SetTable.sizeAbove wanted - 1 = M) (c : Cov M) (hnew : hs.size ≤ M) :
    ∃ t' order, t.relaid hs wanted = some (t', order) ∧ order.toList.Perm (List.range hs.size) ∧ Ris t'.place.toList ∧ t'.dummies = #[] ∧ t'.place.size = hs.size ∧ t'.mask = M ∧ t'.led = t.led ∧ t'.plain = t.plain := by
  obtain ⟨seat, e, W⟩ := lay_at c hnew
  have hrel : t.relaid hs wanted = some (tabOf t M seat, ((liveOf M seat).map (·.2)).toArray) := by
    rw [relaid_eq, hway, e]
    rfl
  have ris := ris_live (fun j => seat.getD j none) (List.range (M + 1)) List.pairwise_lt_range
  have risA : Ris ((liveOf M seat).map (·.1)) := ris.1
  have ndup : ((liveOf M seat).map (·.1)).Nodup := List.Pairwise.imp (fun h => Nat.ne_of_lt h) risA
  have has : ∀ k, k < hs.size → k ∈ (liveOf M seat).map (·.2) := fun k hk => by
    obtain ⟨j, bnd1, bnd2⟩ := W.all k hk
    exact List.mem_map.mpr ⟨(j, k), (mem_live W.sz).2 ⟨bnd1, bnd2⟩, rfl⟩
  have hcnt : (liveOf M seat).length = hs.size := by
    obtain ⟨ps, p1, p2⟩ := W.ps
    have a := nat_nodup_len ((liveOf M seat).map (·.1)) ps ndup fun x hx => by
      obtain ⟨⟨y, k⟩, hq, ey⟩ := List.mem_map.mp hx
      have ey : y = x := ey
      subst ey
      obtain ⟨bnd1, bnd2⟩ := (mem_live W.sz).1 hq
      exact p2 y bnd1 (by rw [bnd2]; exact nofun)
    have b := nat_nodup_len (List.range hs.size) ((liveOf M seat).map (·.2)) List.nodup_range fun k hk => has k (List.mem_range.mp hk)
    rw [List.length_map, p1] at a
    simp only [List.length_map, List.length_range] at b
    omega
  refine ⟨tabOf t M seat, ((liveOf M seat).map (·.2)).toArray, hrel, perm_range hs.size _ ?_ has, risA, rfl, ?_, rfl, rfl, rfl⟩
  · show ((liveOf M seat).map (·.2)).length = hs.size
    rw [List.length_map, hcnt]
  · show ((liveOf M seat).map (·.1)).toArray.size = hs.size
    rw [List.size_toArray, List.length_map, hcnt]
end Qw

-- QwSet1
/-! A set of tuples of texts: found, added, laid anew. -/
namespace Qw
open PySem PySem.Spec PyProof.Rows L2
abbrev IsW (P : Program) (w : World) (h : Heap) (k : List Str) (a : Addr) : Prop := IsTupleKey (strKind P w) h k a
/-- the set at a has some of the tuples at As -/
structure Sx (P : Program) (w : World) (h : Heap) (As : List Addr) (a : Addr) (es : Array (Int × Value)) (ep : Nat) (t : SetTable) : Prop where
  ob : ∃ x, h.get? a = some x ∧ x.ExactSet ∧ x.data = .set es ep t
  tb : Tb t es.size
  rows : ∀ e ∈ es.toList, ∃ b ∈ As, e.2 = Value.ref b
  led : (w.params.followText "set-order" = true) ∨ (t.led = true)
def Tups (P : Program) (w : World) (h : Heap) (As : List Addr) : Prop := ∀ b ∈ As, ∃ k, IsW P w h k b
section
variable {P : Program} {w : World} {A : Around} {E : Value → Shared → Prop} {s : Shared}
theorem items_str {k : List Str} {vs : List Value} (h : ItemsAre (strKind P w) k vs) : ∀ v ∈ vs, ∃ x t, v = Value.str x t := by
  induction h with
  | nil => exact fun v hvs => nomatch hvs
  | @cons kfirst v' ks vs h1 _ ih =>
    intro v hvs
    rcases List.mem_cons.mp hvs with e | hvs
    · obtain ⟨t, e2⟩ := Value.isStrOf_shape h1
      exact ⟨kfirst, t, e.trans e2⟩
    · exact ih v hvs
theorem cls_str (n : Nat) (x : Str) (t : Tok) : ofAClassStatement n (.str x t) = pure false := by cases n <;> rfl
theorem hash_str (n : Nat) (x : Str) (t : Tok) : hashByValue n (.str x t) = pure false := by cases n <;> rfl
theorem cls_tup {k : List Str} {b : Addr} {Q : Bool → Shared → Prop} (hk : IsW P w s.heap k b) (h : Q false s) : wpAny (model P w) A (ofAClassStatement 8 (.ref b)) Q E s := by
  have htyp := hk.typeIs
  obtain ⟨ob, its, n, hob, _, hdt, hi⟩ := hk
  unfold ofAClassStatement
  refine wpAny_bind (wpAny_typeOf htyp ?_)
  dsimp only
  rw [show (("tuple" : String) == "tuple") = true by decide]
  simp only [if_true]
  refine wpAny_bind (wpAny_pure ?_)
  simp only [Bool.not_true, Bool.false_eq_true, if_false]
  refine wpAny_bind (wpAny_seqItems hob hdt ?_)
  dsimp only
  refine wpAny_bind ?_
  rw [← Array.forIn_toList]
  refine wpAny_forIn_list _ (fun rest r s' => r.1 = none ∧ s' = s ∧ ∀ v ∈ rest, ∃ x t, v = Value.str x t) _ ?_ ?_ _ _ ⟨rfl, rfl, items_str hi⟩
  · rintro v rest r s' ⟨hres, rfl, hevery⟩
    obtain ⟨x, t, rfl⟩ := hevery v List.mem_cons_self
    rw [cls_str]
    refine wpAny_bind (wpAny_pure ?_)
    simp only [Bool.false_eq_true, if_false]
    exact wpAny_pure ⟨rfl, rfl, fun u z => hevery u (List.mem_cons_of_mem _ z)⟩
  · rintro ⟨r1, r2⟩ s' ⟨hres, rfl, _⟩
    simp only at hres
    subst hres
    exact wpAny_pure h
theorem hash_tup {k : List Str} {b : Addr} {Q : Bool → Shared → Prop} (hk : IsW P w s.heap k b) (h : ∀ c, Q c s) : wpAny (model P w) A (hashByValue 8 (.ref b)) Q E s := by
  have htyp := hk.typeIs
  obtain ⟨ob, its, n, hob, _, hdt, hi⟩ := hk
  unfold hashByValue
  refine wpAny_bind (wpAny_specialOf htyp F.slot_tuple_hash.lookup ?_)
  show wpAny _ A (seqItems? (.ref b) >>= _) _ _ _
  refine wpAny_bind (wpAny_seqItems hob hdt ?_)
  refine wpAny_bind ?_
  show wpAny _ _ (forIn its _ _) _ _ s
  rw [← Array.forIn_toList]
  refine wpAny_forIn_list _ (fun rest r s' => s' = s ∧ ∀ v ∈ rest, ∃ x t, v = Value.str x t) _ ?_ ?_ _ _ ⟨rfl, items_str hi⟩
  · rintro v rest r s' ⟨rfl, hevery⟩
    obtain ⟨x, t, rfl⟩ := hevery v List.mem_cons_self
    rw [hash_str]
    refine wpAny_bind (wpAny_pure ?_)
    simp only [Bool.not_false, if_true]
    refine wpAny_pure ?_
    dsimp only
    exact wpAny_pure (h _)
  · rintro ⟨r1, r2⟩ s' ⟨rfl, _⟩
    cases r1 with
    | none => exact wpAny_pure (h _)
    | some c => exact wpAny_pure (h _)

theorem unseen {k : List Str} {b : Addr} {Q : Bool → Shared → Prop} (hk : IsW P w s.heap k b) {ys : List Value} (hy : ∀ y ∈ ys, ∃ k' c, y = Value.ref c ∧ IsW P w s.heap k' c) (h : Q false s) :
    wpAny (model P w) A (searchCouldBeSeen (Value.ref b) ys) Q E s := by
  unfold searchCouldBeSeen
  refine wpAny_bind (wpAny_forIn_list _ (fun rest r s' => r.1 = none ∧ s' = s ∧ ∀ y ∈ rest, ∃ k' c, y = Value.ref c ∧ IsW P w s.heap k' c) _ ?_ ?_ _ _ ⟨rfl, rfl, hy⟩)
  · rintro v rest r s' ⟨hres, rfl, hevery⟩
    obtain ⟨k', c, rfl, hcs⟩ := hevery v List.mem_cons_self
    have more : ∀ y ∈ rest, ∃ k' c, y = Value.ref c ∧ IsW P w s'.heap k' c := fun u z => hevery u (List.mem_cons_of_mem _ z)
    dsimp only
    by_cases hvs : (b == c || (carriedByValue (Value.ref b) && carriedByValue (Value.ref c))) = true
    · exact wp_if_pos hvs (wpAny_pure ⟨rfl, rfl, more⟩)
    · refine wp_if_neg hvs (wpAny_bind (wpAny_eqIsQuiet_tuple hk ?_))
      simp only [Bool.not_true, Bool.false_eq_true, if_false]
      refine wpAny_bind (wpAny_eqIsQuiet_tuple hcs ?_)
      simp only [Bool.not_true, Bool.false_eq_true, if_false]
      refine wpAny_bind (cls_tup hk ?_)
      simp only [Bool.false_eq_true, if_false]
      refine wpAny_bind (cls_tup hcs ?_)
      simp only [Bool.false_eq_true, if_false]
      exact wpAny_pure ⟨rfl, rfl, more⟩
  · rintro ⟨r1, r2⟩ s' ⟨hres, rfl, _⟩
    simp only at hres
    subst hres
    exact wpAny_pure h

variable {As : List Addr} {a : Addr} {es : Array (Int × Value)} {ep : Nat} {t : SetTable}
/-- the c-th probe of a hash -/
abbrev prb (m : Nat) (h : Int) (c : Nat) : SetTable.Probe := nth m (runAt m (SetTable.bits h % (m + 1)) (SetTable.bits h)) c
theorem nth_dummy (m : Nat) : ∀ (n : Nat) (p : SetTable.Probe), p.dummy = none → (nth m p n).dummy = none
  | 0, p, h => h
  | n + 1, p, h => nth_dummy m n (adv m p) (by unfold adv; split <;> exact h)
theorem search_any (R : Sx P w s.heap As a es ep t) (T : Tups P w s.heap As) {x : Addr} {k : List Str} (hx : IsW P w s.heap k x) (hu : A.units < cLine) (h : Int) {K : Nat} (hKf : K < 10 * SetTable.turns t.mask)
    (hK : way t.mask h K ∉ t.place.toList) (hKb : ∀ c, c < K → way t.mask h c ∈ t.place.toList) {Q : SetFound → Shared → Prop}
    (hin : Q (.there none) s) (hout : Q (.free (way t.mask h K) false) s) :
    ∀ (f c : Nat) (stand : Option SetTable.Probe), stand.getD (t.probeStart h) = prb t.mask h c → c ≤ K → K - c < f → wpAny (model P w) A (setSearchFrom a (.ref x) h true f stand) Q E s
  | 0, c, stand, _, _, hf => absurd hf (Nat.not_lt_zero _)
  | f + 1, c, stand, hst, hcs, hf => by
    obtain ⟨ob, hob, hex, hdt⟩ := R.ob
    have sh : ∀ q, nth t.mask (prb t.mask h c) q = prb t.mask h (c + q) := fun q => (nth_add t.mask c _ q).symm
    have shj : ∀ q, (nth t.mask (prb t.mask h c) q).j = way t.mask h (c + q) := fun q => congrArg SetTable.Probe.j (sh q)
    have spec := go_spec t R.tb.ris R.tb.dm (fun i => (es[i]?.map (·.1)).getD 0) h (10 * SetTable.turns t.mask) (K - c) (prb t.mask h c) (nth_dummy t.mask c _ rfl) (by omega)
      (fun q hq => by rw [shj]; exact hKb (c + q) (by omega)) (by rw [shj, show c + (K - c) = K by omega]; exact hK)
    rw [setSearchFrom_succ]
    refine wpAny_bind (wpAny_setState_of hob hdt R.tb.fits ?_)
    dsimp only
    refine wp_if_neg R.tb.gw ?_
    try refine wpAny_bind (wpAny_pure ?_)
    rcases spec with ⟨q, i, hq, hi, _, _, hpr⟩ | ⟨_, hpr⟩
    · have met : t.probe (fun i => (es[i]?.map (·.1)).getD 0) h (stand.getD (t.probeStart h)) = some (.candidate (way t.mask h (c + q)) i (prb t.mask h (c + (q + 1)))) := by
        rw [hst, ← shj, ← sh]
        exact hpr
      rw [met]
      dsimp only
      rw [shj] at hi
      have hil : i < es.size := by
        have h1 := (List.getElem?_eq_some_iff.mp hi).1
        rw [Array.length_toList, R.tb.sz] at h1
        exact h1
      obtain ⟨b, hb, eb⟩ := R.rows es[i] (by simp)
      obtain ⟨kb, hkb⟩ := T b hb
      have ent : es[i]? = some (es[i].1, Value.ref b) := by rw [← eb]; exact Array.getElem?_eq_getElem hil
      have rest : wpAny (model P w) A (searchRest a (.ref x) h true f es t (way t.mask h (c + q)) i (prb t.mask h (c + (q + 1)))) Q E s := by
        unfold searchRest
        rw [ent]
        dsimp only
        refine wpAny_bind (wpAny_holding (wpAny_eqBool_tuple hu hkb hx ?_))
        refine wpAny_bind (wpAny_setState_of hob hdt R.tb.fits ?_)
        dsimp only
        by_cases hkeys : kb = k
        · exact wp_if_pos (by simp [hkeys]) (wpAny_pure hin)
        · refine wp_if_neg (by simp [hkeys]) ?_
          try refine wpAny_bind (wpAny_pure ?_)
          rw [sameMem]
          dsimp only
          have hsl : t.slot (way t.mask h (c + q)) = .live i := slot_live R.tb.ris hi
          simp only [if_true, hsl, ent]
          refine wpAny_bind (wpAny_isSame_ref_self (wpAny_bind (wpAny_pure ?_)))
          simp only [if_true]
          refine wp_if_neg (by simp [hkeys]) ?_
          exact search_any R T hx hu h hKf hK hKb hin hout f (c + (q + 1)) _ rfl (by omega) (by omega)
      by_cases hlong : t.led = true
      · refine wp_if_neg (by simp [hlong]) ?_
        try refine wpAny_bind (wpAny_pure ?_)
        exact rest
      · refine wp_if_pos (by simp [hlong]) (wpAny_bind (unseen hx (fun y hy => ?_) ?_))
        · obtain ⟨e, hent, eent⟩ := List.mem_map.mp hy
          have he1 : e ∈ es ∧ e.1 = h := by simpa using hent
          obtain ⟨b2, hb2, eb2⟩ := R.rows e (by simpa using he1.1)
          obtain ⟨k2, hk2⟩ := T b2 hb2
          exact ⟨k2, b2, by rw [← eent, eb2], hk2⟩
        · refine wp_if_neg (by decide) ?_
          try refine wpAny_bind (wpAny_pure ?_)
          exact rest
    · have met : t.probe (fun i => (es[i]?.map (·.1)).getD 0) h (stand.getD (t.probeStart h)) = some (.empty (way t.mask h K) none) := by
        have e2 : way t.mask h K = (nth t.mask (prb t.mask h c) (K - c)).j := by rw [shj, show c + (K - c) = K by omega]
        rw [hst, e2]
        exact hpr
      rw [met]
      exact wpAny_pure hout
theorem search_one (R : Sx P w s.heap As a es ep t) (T : Tups P w s.heap As) {x : Addr} {k : List Str} (hx : IsW P w s.heap k x) (hu : A.units < cLine) (h : Int) {Q : SetFound → Shared → Prop}
    (hin : Q (.there none) s) (hout : ∀ j, j ∉ t.place.toList → Q (.free j false) s) : wpAny (model P w) A (setSearch a (.ref x) h true) Q E s := by
  obtain ⟨K, hKf, hK, hKb⟩ := R.tb.first h
  have hle := R.tb.msk.cov.le
  refine search_any R T hx hu h hKf hK hKb hin (hout _ hK) 100000 0 none rfl (Nat.zero_le _) ?_
  unfold SetTable.turns at hKf
  omega
/-- the entries in another order -/
theorem order_at (es : Array (Int × Value)) (order : Array Nat) (hp : order.toList.Perm (List.range es.size)) : (order.filterMap (es[·]?)).size = es.size ∧ ∀ e ∈ (order.filterMap (es[·]?)).toList, e ∈ es.toList := by
  have e0 : (order.filterMap (es[·]?)).toList = order.toList.filterMap fun i => es[i]? := by simp
  have key : ∀ l : List Nat, (∀ i ∈ l, i < es.size) → (l.filterMap fun i => es[i]?).length = l.length := by
    intro l
    induction l with
    | nil => exact fun _ => rfl
    | cons i l ih =>
      intro hlong
      rw [List.filterMap_cons_some (Array.getElem?_eq_getElem (hlong i List.mem_cons_self)), List.length_cons, List.length_cons, ih fun j hj => hlong j (List.mem_cons_of_mem _ hj)]
  refine ⟨?_, fun e hent => ?_⟩
  · rw [← Array.length_toList, e0, key _ fun i hi => List.mem_range.mp (hp.mem_iff.mp hi), hp.length_eq, List.length_range]
  · rw [e0] at hent
    obtain ⟨i, _, hi⟩ := List.mem_filterMap.mp hent
    exact Array.mem_toList_iff.mpr (Array.mem_of_getElem? hi)
theorem relay_any {o : Obj} (hobj : s.heap.get? a = some o) (hex : o.ExactSet) (hdat : o.data = .set es ep t) (hri : Ris t.place.toList) (hsz : t.place.size = es.size) (hdum : t.dummies = #[]) (hfl : es.size ≤ t.mask) (hrw : ∀ e ∈ es.toList, ∃ b ∈ As, e.2 = Value.ref b)
    (ld : w.params.followText "set-order" = true ∨ t.led = true) {wanted M : Nat} (hw : SetTable.sizeAbove wanted - 1 = M) (hM : Msk M) (hw2 : SetTable.sizeAbove wanted ≤ 2048) (hn : es.size * 5 < M * 3) (hn2 : es.size ≤ M) {Q : Unit → Shared → Prop}
    (hQ : ∀ h' es' ep' t', Heap.SameBut a s.heap h' → Sx P w h' As a es' ep' t' → es'.size = es.size → Q () { s with heap := h' }) : wpAny (model P w) A (setRelay a wanted) Q E s := by
  have hfit : t.fits es.size = true := by
    unfold SetTable.fits
    unfold SetTable.fill
    rw [hdum, Bool.and_eq_true, beq_iff_eq, decide_eq_true_eq]
    exact ⟨hsz, by show t.place.size + 0 ≤ t.mask; omega⟩
  obtain ⟨t', order, e, hp, r1, r2, r3, r4, r5, r6⟩ := relaid_at t (hs := es.map (·.1)) (wanted := wanted) hw hM.cov (by rw [Array.size_map]; exact hn2)
  rw [Array.size_map] at hp r3
  obtain ⟨q1, q2⟩ := order_at es order hp
  rw [setRelay_eq]
  refine wpAny_bind (wpAny_setState_of hobj hdat hfit ?_)
  dsimp only
  refine wp_if_neg (by simp only [sizeLine_eq]; omega) ?_
  try refine wpAny_bind (wpAny_pure ?_)
  rw [e]
  dsimp only
  refine wpAny_bind (wp_if_neg (by rw [q1]; simp) ?_)
  try refine wpAny_bind (wpAny_pure ?_)
  refine wpAny_pure ?_
  dsimp only
  have hM2 : M ≤ 2047 := hM.cov.le
  refine wpAny_storeSet_of hobj hdat (hQ _ (order.filterMap (es[·]?)) (ep + 1) t' (Heap.SameBut.update ..) ?_ q1) (by rw [q1, sizeLine_eq]; omega)
  exact ⟨⟨_, store_at hobj hdat, ⟨hex.1, hex.2.1, hex.2.2⟩, rfl⟩, ⟨r1, r2, by rw [r3, q1], by rw [r4]; exact hM, by rw [r4, q1]; exact hn⟩, fun e hent => hrw e (q2 e hent), by rw [r5]; exact ld⟩
end
end Qw

-- QwSet2
namespace Qw
open PySem PySem.Spec PyProof.Rows L2
section
variable {P : Program} {w : World} {A : Around} {E : Value → Shared → Prop} {s : Shared} {As : List Addr} {a : Addr} {es : Array (Int × Value)} {ep : Nat} {t : SetTable}
theorem add_any (R : Sx P w s.heap As a es ep t) (T : Tups P w s.heap As) {x : Addr} (hxa : x ∈ As) {k : List Str} (hx : IsW P w s.heap k x) (hu : A.units < cLine) (hfew : es.size ≤ 1000) (h : Int) {Q : Bool → Shared → Prop}
    (hQ : ∀ b h' es' ep' t', Heap.SameBut a s.heap h' → Sx P w h' As a es' ep' t' → es'.size ≤ es.size + 1 → Q b { s with heap := h' }) : wpAny (model P w) A (setAddHashed a (.ref x) h) Q E s := by
  obtain ⟨ob, hob, hex, hdt⟩ := R.ob
  have room := R.tb.room
  unfold setAddHashed
  refine wpAny_holding ?_
  rw [show (100000 : Nat) = 99999 + 1 by decide, setAddHashedIn_succ]
  refine wpAny_bind (wpAny_setState_of hob hdt R.tb.fits ?_)
  dsimp only
  refine wp_if_neg (by simp [Value.scannable, byScan]) ?_
  try refine wpAny_bind (wpAny_pure ?_)
  refine wpAny_bind (search_one R T hx hu h ?_ fun j hj => ?_)
  · exact wpAny_pure (hQ false s.heap es ep t (Heap.SameBut.refl a s.heap) R (Nat.le_succ _))
  · dsimp only
    refine wpAny_bind (wpAny_setState_of hob hdt R.tb.fits ?_)
    dsimp only
    obtain ⟨p1, p2, p3, p4, p5, p6, p7⟩ := R.tb.put hj
    generalize hpt : t.put j = pt at p1 p2 p3 p4 p5 p6 p7 ⊢
    obtain ⟨t1, pl⟩ := pt
    dsimp only at p1 p2 p3 p4 p5 p6 p7 ⊢
    -- the marks of the new table do not matter
    have go : ∀ t2 : SetTable, Ris t2.place.toList → t2.dummies = #[] → t2.place.size = es.size + 1 → t2.mask = t.mask → t2.led = t.led →
        wpAny (model P w) A (do
          storeSet a (SetTable.insertAt es pl (h, Value.ref x)) t2
          if (!false && t2.tooFull) = true then do
              setRelay a (SetTable.grown (es.size + 1))
              pure true
            else pure true) Q E s := by
      intro t2 c1 c2 c3 c4 c5
      have hin := SetTable.toList_insertAt es pl (h, Value.ref x)
      have hes : (SetTable.insertAt es pl (h, Value.ref x)).size = es.size + 1 := by
        rw [← Array.length_toList, hin, len_ins _ (by rw [Array.length_toList]; exact p1), Array.length_toList]
      have hrw : ∀ e ∈ (SetTable.insertAt es pl (h, Value.ref x)).toList, ∃ b ∈ As, e.2 = Value.ref b := fun e he => by
        rw [hin] at he
        rcases mem_ins.1 he with z | z
        · exact ⟨x, hxa, by rw [z]⟩
        · exact R.rows e z
      generalize SetTable.insertAt es pl (h, Value.ref x) = es1 at hin hes hrw ⊢
      refine wpAny_bind (wpAny_storeSet_of hob hdt ?_ (by rw [hes, sizeLine_eq]; omega))
      have sb : Heap.SameBut a s.heap (s.heap.update a (Obj.putSet es1 t2)) := Heap.SameBut.update ..
      have ho1 := store_at (es' := es1) (t' := t2) hob hdt
      generalize s.heap.update a (Obj.putSet es1 t2) = h1 at sb ho1 ⊢
      have ld1 : w.params.followText "set-order" = true ∨ t2.led = true := by rw [c5]; exact R.led
      have fil : t2.fill = es.size + 1 := by
        unfold SetTable.fill
        rw [c2, c3]
        rfl
      by_cases hf : t2.tooFull = true
      · refine wp_if_pos (by simp [hf]) ?_
        have full : t.mask * 3 ≤ (es.size + 1) * 5 := by
          have q := hf
          unfold SetTable.tooFull at q
          rw [decide_eq_true_eq, fil, c4] at q
          exact q
        obtain ⟨n1, n2, n3, n4⟩ := next_mask R.tb.msk room full hfew
        have hm7 : 7 ≤ t.mask := by rcases R.tb.msk with e | e | e | e | e <;> omega
        refine wpAny_bind (relay_any (s := { s with heap := h1 }) (As := As) ho1 ⟨hex.1, hex.2.1, hex.2.2⟩ rfl c1 (by rw [c3, hes]) c2 (by rw [hes, c4]; omega) hrw ld1 rfl n2 n1 (by rw [hes]; exact n3) (by rw [hes]; exact n4) fun h2 es2 ep2 t3 sb2 R2 hz => ?_)
        exact wpAny_pure (hQ true h2 es2 ep2 t3 (sb.trans sb2) R2 (by rw [hz, hes]; exact Nat.le_refl _))
      · refine wp_if_neg (by simp [hf]) ?_
        refine wpAny_pure (hQ true h1 es1 (ep + 1) t2 sb ⟨⟨_, ho1, ⟨hex.1, hex.2.1, hex.2.2⟩, rfl⟩, ⟨c1, c2, by rw [c3, hes], by rw [c4]; exact R.tb.msk, ?_⟩, hrw, ld1⟩ (by rw [hes]; exact Nat.le_refl _))
        have q := hf
        unfold SetTable.tooFull at q
        rw [decide_eq_true_eq, fil] at q
        rw [hes]
        omega
    by_cases hp : t1.plain = true
    · refine wp_if_pos hp (wpAny_bind (hash_tup hx fun c => ?_))
      cases c with
      | true =>
        simp only [if_true]
        exact go t1 p2 p3 p4 p5 p6
      | false =>
        simp only [Bool.false_eq_true, if_false]
        exact go { t1 with plain := false } p2 p3 p4 p5 p6
    · refine wp_if_neg hp (wpAny_bind (wpAny_pure ?_))
      simp only [if_true]
      exact go t1 p2 p3 p4 p5 p6

theorem IsW.keep {h h' : Heap} {k : List Str} {b : Addr} (x : IsW P w h k b) (hk : ∀ c o, h.get? c = some o → h'.get? c = some o) : IsW P w h' k b := by
  obtain ⟨ob, its, n, hob, r⟩ := x
  exact ⟨ob, its, n, hk b ob hob, r⟩
theorem Tups.keep {h h' : Heap} (T : Tups P w h As) (hk : ∀ c o, h.get? c = some o → h'.get? c = some o) : Tups P w h' As := fun b hb => let ⟨k, x⟩ := T b hb; ⟨k, x.keep hk⟩
theorem Sx.keep {h h' : Heap} (R : Sx P w h As a es ep t) (ha : ∀ o, h.get? a = some o → h'.get? a = some o) : Sx P w h' As a es ep t :=
  ⟨let ⟨ob, hob, r⟩ := R.ob; ⟨ob, ha ob hob, r⟩, R.tb, R.rows, R.led⟩
/-- the object of a new set -/
abbrev newSetObj (w : World) : Obj := { cls := .type "set", dict := none, data := .set #[] 0 (.fresh 0 0 (!w.params.followText "set-order")) }
theorem sx_new {h : Heap} (ho : h.get? a = some (newSetObj w)) : Sx P w h As a #[] 0 (.fresh 0 0 (!w.params.followText "set-order")) := by
  refine ⟨⟨_, ho, ⟨rfl, rfl, rfl⟩, rfl⟩, ⟨List.Pairwise.nil, rfl, rfl, .inl rfl, by show 0 * 5 < 7 * 3; decide⟩, (fun e he => nomatch he), ?_⟩
  change _ ∨ (!w.params.followText "set-order") = true
  cases w.params.followText "set-order"
  · exact .inr rfl
  · exact .inl rfl
/-- what the walk over the items leaves -/
structure Done (P : Program) (w : World) (As : List Addr) (S : Addr) (n : Nat) (h0 : Heap) (s' : Shared) : Prop where
  set : ∃ es ep t, Sx P w s'.heap As S es ep t ∧ es.size ≤ n
  kept : ∀ b o, h0.get? b = some o → s'.heap.get? b = some o
theorem upd_all {itr S : Addr} {fp wr : List Addr} {G : Array GenState → Array GenState → Prop} {n : Nat} {Pv : Nat → Value → Prop} {St : Nat → Shared → Prop} {R : Result → Shared → Prop} (W : WalksS P w A.in1 itr fp wr G n Pv St) (hSf : S ∉ fp)
    (hval : ∀ i v, Pv i v → ∃ b ∈ As, v = Value.ref b) (h0 : Heap) (T : Tups P w h0 As) (hS0 : h0.get? S = none) (hw0 : ∀ b ∈ wr, h0.get? b = none) (hu : A.in1.units < cLine) (hn : n ≤ 1000) :
    ∀ (k i : Nat) (s : Shared), n - i = k → i ≤ n → St i s → Done P w As S i h0 s → (∀ s', Moved (S :: wr) G s s' → Done P w As S n h0 s' → R (.ok (.ret .none)) s') → codeAny (model P w) A (.builtin "set.update.loop" ⟨[.ref S, .ref itr], []⟩) R s := by
  have hSw : S ∉ wr := fun q => hSf (W.sub _ q)
  have kp : ∀ {s s' : Shared}, Moved wr G s s' → (∀ b o, h0.get? b = some o → s.heap.get? b = some o) → ∀ b o, h0.get? b = some o → s'.heap.get? b = some o := fun hm q b o e =>
    hm.heap b o (fun z => by rw [hw0 b z] at e; cases e) (q b o e)
  have more : ∀ b ∈ wr, b ∈ S :: wr := fun b z => List.mem_cons_of_mem _ z
  intro k
  induction k with
  | zero =>
    intro i s hk hi hst D hR
    obtain rfl : i = n := by omega
    refine codeAny_builtin F.entry_set_update_loop ?_
    rw [Around.under_plainId F.plain_set_update_loop _]
    show wpAny _ A.in1 (pyNext (.ref itr) >>= _) _ _ s
    refine wpAny_bind (W.done s _ _ hst fun s' hm => wpAny_pure (hR s' (hm.mono more) ⟨?_, kp hm D.kept⟩))
    obtain ⟨es, ep, t, R0, z⟩ := D.set
    exact ⟨es, ep, t, R0.keep fun o e => hm.heap S o hSw e, z⟩
  | succ k ih =>
    intro i s hk hi hst D hR
    refine codeAny_builtin F.entry_set_update_loop ?_
    rw [Around.under_plainId F.plain_set_update_loop _]
    show wpAny _ A.in1 (pyNext (.ref itr) >>= _) _ _ s
    refine wpAny_bind (W.item i s _ _ (by omega) hst fun v s' hP hst' hm => ?_)
    obtain ⟨b, hb, rfl⟩ := hval i v hP
    have kp' := kp hm D.kept
    obtain ⟨es, ep, t, R0, z⟩ := D.set
    have R1 : Sx P w s'.heap As S es ep t := R0.keep fun o e => hm.heap S o hSw e
    have T1 := T.keep kp'
    obtain ⟨kb, hkb⟩ := T1 b hb
    show wpAny _ A.in1 (holding [Value.ref b] (setAdd S (.ref b)) >>= _) _ _ s'
    refine wpAny_bind (wpAny_holding ?_)
    unfold setAdd
    refine wpAny_holding (wpAny_bind (wpAny_pyHash_tuple hu hkb ?_))
    refine add_any (s := { s' with toks := s'.toks + (kb.length + 1) }) R1 T1 hb hkb hu (by omega) _ fun c h' es' ep' t' sb R2 hz => ?_
    have kp2 : ∀ b o, h0.get? b = some o → h'.get? b = some o := fun b o e => (sb.2 b fun q => by rw [q, hS0] at e; cases e).trans (kp' b o e)
    refine wpAny_pure ⟨plainId_quiet F.plain_set_update_loop _, ih (i + 1) _ (by omega) (by omega) (W.frame _ s' _ _ hst' (Nat.le_add_right _ _) fun b hb o e => ?_) ⟨⟨es', ep', t', R2, by omega⟩, kp2⟩ fun s2 hm2 D2 => ?_⟩
    · rw [sb.2 b fun q : b = S => hSf (by rw [← q]; exact hb)]
      exact e
    · refine hR s2 (Moved.trans W.gtrans ((hm.mono more).then_heap (Nat.le_add_right _ _) fun b o hb e => ?_) hm2) D2
      rw [sb.2 b fun q : b = S => hb (by rw [q]; exact List.mem_cons_self)]
      exact e
end
end Qw

-- QwSet3
namespace Qw
open PySem PySem.Spec PyProof.Rows L2
section
variable {P : Program} {w : World} {A : Around} {E : Value → Shared → Prop} {s : Shared} {As : List Addr}
theorem none_above {h : Heap} {b : Addr} (hbnd : h.objs.size ≤ b) : h.get? b = none := by
  cases q : h.get? b with
  | none => rfl
  | some o => exact absurd (Nat.lt_of_lt_of_le (Heap.lt_size q) hbnd) (Nat.lt_irrefl _)
/-- set(xs), xs a list of tuples of texts -/
theorem set_of_list {l : Addr} {items : Array Value} {Q : Value → Shared → Prop} (hh : A.handled = none) (hl : s.heap.IsList l items) (hit : ∀ (i : Nat) (v : Value), items[i]? = some v → ∃ b ∈ As, v = Value.ref b) (T : Tups P w s.heap As) (hn : items.size ≤ 1000) (hu : A.units + 3 < cLine)
    (h : ∀ h' tk, Done P w As s.heap.objs.size items.size s.heap { s with heap := h', toks := tk } → Q (.ref s.heap.objs.size) { s with heap := h', toks := tk }) : wpAny (model P w) A (call (.type "set") [.ref l]) Q E s := by
  obtain ⟨c, tl, hline⟩ := F.called_set.mro
  have f1 := F.called_set.made
  have f2 := F.called_set.sub
  have f3 := F.called_set.notType
  have f4 := F.called_set.canCreate
  have f5 := F.typeCall_set_1 (.ref l)
  refine wpAny_call (codeAny_of_tree ?_)
  show wpAny _ _ (callAny (.type "set") _) _ _ _
  refine wpAny_pure ⟨Code.quiet_builtin _ (by decide +kernel), codeAny_builtin F.entry_type_call ?_⟩
  rw [Around.under_plain (weight_type_call_type "set" [.ref l] []) rfl]
  repeat (any_goals (first | assumption | wp_step))
  refine codeAny_mono (code_set_led1 (.ref l) (E := E) (Q₁ := fun obj s₁ => obj = .ref s.heap.objs.size ∧ s₁ = { s with heap := s.heap.push (newSetObj w) }) ⟨rfl, rfl⟩) fun r s1 hr => ?_
  cases r with
  | error e => exact hr
  | ok fl =>
    cases fl with
    | next => exact hr.elim
    | brk => exact hr.elim
    | cont => exact hr.elim
    | ret obj =>
      obtain ⟨rfl, rfl⟩ := hr
      have hS : (s.heap.push (newSetObj w)).get? s.heap.objs.size = some (newSetObj w) := Heap.get?_push_size _ rfl
      have hT : Shared.TypeIs { s with heap := s.heap.push (newSetObj w) } (.ref s.heap.objs.size) "set" := ⟨_, hS, rfl⟩
      have g1 := F.called_set.init.lookup
      have g2 := F.called_set.init.bind (.ref s.heap.objs.size)
      repeat (any_goals (first | assumption | wp_step))
      refine codeAny_mono (codeAny_call_builtin (R := wants (fun r s2 => r = .none ∧ ∃ h' tk, s2 = { s with heap := h', toks := tk } ∧ Done P w As s.heap.objs.size items.size s.heap s2) E) F.called_set.init.plain F.entry_set_init (check_set_init_1 hT ?_)) fun r2 s2 hr2 => ?_
      · obtain ⟨⟨lc, ld, lx, lslots⟩, hol, hcl, nl, hdl⟩ := hl
        simp only at hcl hdl
        subst hcl
        subst hdl
        have hless : l < s.heap.objs.size := Heap.lt_size hol
        have hol1 : (s.heap.push (newSetObj w)).get? l = some { cls := .type "list", dict := ld, data := .seq items nl, slots := lslots } := Heap.get?_push_of_some _ hol
        have hl1 : (s.heap.push (newSetObj w)).IsList l items := ⟨_, hol1, rfl, nl, rfl⟩
        have k1 := F.sub_list_set
        have k2 := F.sub_list_frozenset
        have k3 : (Value.type "list" == Value.type "dict") = false := by decide
        unfold Builtin.«set.__init__» noKeywords Builtin.Frozenset.updateFrom
        generalize hPI : pyIter = PI
        wp_walk
        subst hPI
        refine wpAny_pyIter_list hl1 (wpAny_bind (wpAny_runValue ?_))
        have hhan3 : A.in1.in1.in1.handled = none := by simp [hh]
        have hneI : l ≠ (s.heap.push (newSetObj w)).objs.size := by
          rw [Heap.size_push]
          exact Nat.ne_of_lt (Nat.lt_succ_of_lt hless)
        have hSf : s.heap.objs.size ∉ [(s.heap.push (newSetObj w)).objs.size, l] := by
          rw [Heap.size_push]
          simp only [List.mem_cons, List.not_mem_nil, or_false, not_or]
          exact ⟨Nat.ne_of_lt (Nat.lt_succ_self _), Nat.ne_of_gt hless⟩
        refine upd_all (As := As) ((Walks.list hhan3 _ l hneI items).toS) (S := s.heap.objs.size) hSf hit s.heap T (none_above (Nat.le_refl _)) (fun b hbnd => none_above (by
            rw [List.mem_singleton.mp hbnd, Heap.size_push]
            exact Nat.le_succ _)) hu hn (items.size - 0) 0 _ (by omega) (Nat.zero_le _) ⟨⟨_, Heap.get?_push_size _ rfl, rfl, rfl⟩, hl1.push _⟩ ⟨?_, fun b o e => Heap.get?_push_of_some _ (Heap.get?_push_of_some _ e)⟩ ?_
        · have hget : ((s.heap.push (newSetObj w)).push { cls := .type "list_iterator", data := .fields #[.ref l, .int 0 0] }).get? s.heap.objs.size = some (newSetObj w) := Heap.get?_push_of_some _ hS
          exact ⟨#[], 0, _, sx_new hget, Nat.le_refl _⟩
        · intro s' hm D
          obtain ⟨h', g', d', tkB, osB⟩ := s'
          obtain rfl : g' = s.gens := hm.gens
          obtain rfl : d' = s.drawn := hm.drawn
          obtain rfl : osB = s.os := hm.os
          show wpAny _ _ _ _ _ _
          refine wpAny_pure ?_
          show wpAny _ _ (ret Value.none) _ _ _
          exact wpAny_pure ⟨rfl, h', tkB, rfl, D⟩
      · cases r2 with
        | error e => exact hr2
        | ok fl2 =>
          cases fl2 with
          | ret r =>
            obtain ⟨rfl, h', tk, rfl, D⟩ := hr2
            repeat (any_goals (first | assumption | wp_step))
            exact h _ _ D
          | next => exact hr2.elim
          | brk => exact hr2.elim
          | cont => exact hr2.elim
end
end Qw

-- QwSet4
namespace Qw
open PySem PySem.Spec PyProof.Rows L2
open PySem.W (EachIs alike alikeAll AllAlike Sortable)
theorem alike_strs : ∀ xs ys : List Str, alikeAll (xs.map .str) (ys.map .str) = true
  | [], _ => by simp [alikeAll]
  | _ :: _, [] => by simp [alikeAll]
  | x :: xs, y :: ys => by
    show alikeAll (.str x :: xs.map .str) (.str y :: ys.map .str) = true
    rw [alikeAll, alike_strs xs ys]
    simp [alike]
theorem depth_strs : ∀ xs : List Str, PyData.depthAll (xs.map .str) = 0
  | [] => by simp [PyData.depthAll]
  | x :: xs => by
    show PyData.depthAll (.str x :: xs.map .str) = 0
    rw [PyData.depthAll, depth_strs xs]
    simp [PyData.depth]
/-- a tuple's texts as data -/
abbrev encW (b : Addr × Str × List Str) : PyData := .tuple ((b.2.1 :: b.2.2).map .str)
section
variable {P : Program} {w : World} {A : Around} {E : Value → Shared → Prop} {s : Shared} {As : List Addr}
theorem reads_strs {h : Heap} {k : List Str} {vs : List Value} (hi : ItemsAre (strKind P w) k vs) : ∃ as, ReadsAll h vs (k.map .str) as ∧ as = [] := by
  induction hi with
  | nil => exact ⟨[], .nil, rfl⟩
  | @cons k0 v ks vs h1 _ ih =>
    obtain ⟨as, r, rfl⟩ := ih
    obtain ⟨t, rfl⟩ := Value.isStrOf_shape h1
    exact ⟨[] ++ [], .cons (.str _ _) r, rfl⟩
theorem reads_tup {h : Heap} {k : List Str} {b : Addr} (x : IsW P w h k b) : Reads h (.ref b) (.tuple (k.map .str)) [] := by
  obtain ⟨ob, its, n, hob, hc, hdt, hi⟩ := x
  obtain ⟨as, r, rfl⟩ := reads_strs (h := h) hi
  exact .tuple hob hc hdt r
/-- tuples with a text at least -/
def Tups1 (P : Program) (w : World) (h : Heap) (As : List Addr) : Prop := ∀ b ∈ As, ∃ x r, IsW P w h (x :: r) b
theorem sorted_of_set {a : Addr} {es : Array (Int × Value)} {ep : Nat} {t : SetTable} {Q : Value → Shared → Prop} (R : Sx P w s.heap As a es ep t) (T : Tups1 P w s.heap As) (hh : A.handled = none) (hz : es.size ≤ 1000) (hu : A.units + 64 < cLine)
    (hQ : ∀ s' p (out : List Value) (c : Nat), (∀ b o, s.heap.get? b = some o → s'.heap.get? b = some o) → s'.gens = s.gens → s'.os = s.os → s.heap.objs.size ≤ p → s'.heap.get? p = some (seqObj "list" out.toArray c) →
      (∀ v ∈ out, ∃ b ∈ As, v = Value.ref b) → out.length ≤ 1000 → Q (.ref p) s') : wpAny (model P w) A (call (.builtin "sorted") [.ref a]) Q E s := by
  obtain ⟨ob, hob, hex, hdt⟩ := R.ob
  refine Calls.call_function_entry kind_sorted plain_sorted entry_sorted (args_sorted1 _) ?_
  unfold Builtin.«sorted»
  refine wpAny_bind (m := checkCount "sorted" 1 1 _) (wpAny_pure ?_)
  refine wpAny_bind (collect_set (A := A.in1) hh ⟨ob, hob, hex.1, hdt⟩ R.tb.fits (by unfold scanBound; omega) R.tb.ris R.led fun s1 vs k1 hz1 g1 o1 pm => ?_)
  have hvs : ∀ v ∈ vs, ∃ b ∈ As, v = Value.ref b := fun v hv => by
    obtain ⟨e, he, ee⟩ := List.mem_map.mp (pm.mem_iff.mp hv)
    obtain ⟨b, hb, eb⟩ := R.rows e he
    exact ⟨b, hb, ee.symm.trans eb⟩
  have hvl : vs.length ≤ 1000 := by rw [pm.length_eq, List.length_map, Array.length_toList]; exact hz
  refine wpAny_bind (wpAny_newList ?_ (by rw [sizeLine_eq]; omega))
  have hlaid : (s1.heap.push (seqObj "list" vs.toArray 0)).get? s1.heap.objs.size = some (seqObj "list" vs.toArray 0) := Heap.get?_push_size _ rfl
  have hk : ∀ b o, s.heap.get? b = some o → (s1.heap.push (seqObj "list" vs.toArray 0)).get? b = some o := fun b o e => Heap.get?_push_of_some _ (k1 b o e)
  obtain ⟨bs, hbs⟩ : ∃ bs : List (Addr × Str × List Str), EachIs (fun v b => v = Value.ref b.1 ∧ b.1 ∈ As ∧ IsW P w (s1.heap.push (seqObj "list" vs.toArray 0)) (b.2.1 :: b.2.2) b.1) vs bs := by
    clear hlaid hvl pm
    generalize s1.heap.push (seqObj "list" vs.toArray 0) = hp at hk
    induction vs with
    | nil => exact ⟨[], .nil⟩
    | cons v r ih =>
      obtain ⟨bs, hb⟩ := ih fun u z => hvs u (List.mem_cons_of_mem _ z)
      obtain ⟨b, hb1, e⟩ := hvs v List.mem_cons_self
      obtain ⟨x, k, hx⟩ := T b hb1
      exact ⟨(b, x, k) :: bs, .cons ⟨e, hb1, hx.keep hk⟩ hb⟩
  have hbl : bs.length ≤ 1000 := by rw [← hbs.length]; exact hvl
  have er : EachIs (fun v b => ∃ as, Reads (s1.heap.push (seqObj "list" vs.toArray 0)) v (encW b) as ∧ s1.heap.objs.size ∉ as) vs bs := hbs.mono fun v b ⟨e, _, x⟩ => ⟨[], by rw [e]; exact reads_tup x, by simp⟩
  refine wpAny_bind (wpAny_holding (PySem.W.list_sort_data (s := { s1 with heap := s1.heap.push (seqObj "list" vs.toArray 0) }) (enc := encW) hlaid hbs er (.of fun b b' => by
      show alike (.tuple _) (.tuple _) = true
      simp only [alike]
      exact alike_strs _ _) (.tuples fun b => ⟨_, _, rfl⟩) (by rw [sizeLine_eq]; omega) (fun b _ => ?_) fun out hobj eo => ?_))
  · show A.in1.units + 1 + PyData.depth (.tuple _) < cLine
    simp only [PyData.depth, depth_strs]
    show A.units + 1 + 1 + (0 + 1) < cLine
    omega
  · obtain ⟨c, hc⟩ := sortedHeap_at (vs := vs) (out := out.toArray) hlaid
    refine wpAny_pure ⟨_, rfl, hQ _ s1.heap.objs.size out c (fun b u e => ?_) g1 o1 hz1 hc (fun v hv => ?_) (by rw [hobj]; exact hbl)⟩
    · have q := k1 b u e
      have hless := Heap.lt_size q
      show (sortedHeap (s1.heap.push (seqObj "list" vs.toArray 0)) s1.heap.objs.size vs out.toArray).get? b = some u
      rw [sortedHeap_old (Nat.ne_of_lt hless) (by rw [size_push']; exact Nat.lt_succ_of_lt hless)]
      exact Heap.get?_push_of_some _ q
    · obtain ⟨b, _, e, hb, _⟩ := eo.left v hv
      exact ⟨b.1, hb, e⟩
end
section
variable {X : Cx} {e : Expr} {te : TE} {p p2 pos2 pos : Pos}
/-- sorted(set(xs)), xs a list of at most 1000 tuples of texts, none empty: a list of some of them -/
def tSortSet (K : PySem.W.Frag) (te : TE) : TE := fun σ H Q => te σ H fun x H1 => ∃ (l : Addr) (As : List Addr), x = V.ref l ∧ SqL K H1 l (As.map V.ref) ∧ As.length ≤ 1000 ∧ (∀ b ∈ As, ∃ (x : Str) (r : List Str), SqT K H1 b ((x :: r).map V.str)) ∧
  ∀ (Bs : List Addr) q, (∀ b ∈ Bs, b ∈ As) → Bs.length ≤ 1000 → H1 q = none → Q (.ref q) (upd H1 q (.lst (Bs.map V.ref)))
theorem items_vals {P : Program} {w : World} : ∀ {k : List Str} {us : List Value}, Vals (k.map V.str) us → ItemsAre (strKind P w) k us
  | [], _, .nil => .nil
  | x :: k, _, .cons r t => by
    obtain ⟨tk, rfl⟩ := r
    exact .cons (strKind_is P w x tk) (items_vals t)
theorem isW_of {pins : List (Addr × Obj)} {σ : L2.St} {H : Hp} {s : Shared} {b : Addr} {k : List Str} (I : Inv X pins σ H s) (h : SqT X.K H b (k.map V.str)) : IsW X.prog X.w s.heap k b := by
  obtain ⟨its, r, ⟨o, hobj, hc, n, hd⟩, _⟩ := I.tuple h
  exact ⟨o, its.toArray, n, hobj, hc, hd, by simpa using items_vals r⟩
theorem vals_refs : ∀ {As : List Addr} {us : List Value}, Vals (As.map V.ref) us → us = As.map Value.ref
  | [], _, .nil => rfl
  | a :: As, _, .cons r t => by
    cases r
    rw [vals_refs t]
    rfl
theorem pe_sortSet (hc : X.calm = true) (hu : X.A.units + 80 < cLine) (hg : Gl X "sorted") (hm : X.mg "sorted" = none) (hg2 : Gl X "set") (hm2 : X.mg "set" = none) (he : PE X e te) (hs : starEach [e] X.env = (false, eval e X.env) :: starEach [] X.env := by rfl)
    (hpl : (backTo pos2 (starEach [] X.env)).any (·.1) = false := by rfl) (hs2 : starEach [Expr.Call (.Name "set" p2) [e] [] pos2] X.env = (false, eval (.Call (.Name "set" p2) [e] [] pos2) X.env) :: starEach [] X.env := by rfl)
    (hpl2 : (backTo pos (starEach [] X.env)).any (·.1) = false := by rfl) : PE X (.Call (.Name "sorted" p) [.Call (.Name "set" p2) [e] [] pos2] [] pos) (tSortSet X.K te) := by
  refine ⟨fun pins s σ H Q I h => ?_⟩
  refine wpAny_Call_Name_kw (ld_blt I hg hm (u := .builtin "sorted") (by decide +kernel) ?_)
  refine PyProof.Rows.callWith_builtin1 ?_ hs2 hpl2
  rw [hs2]
  refine Calls.spliced_cons (wpAny_Call_Name_kw (ld_blt I hg2 hm2 (u := .type "set") (by decide +kernel) ?_))
  refine PyProof.Rows.callWith_type1 ?_ hs hpl
  rw [hs]
  refine Calls.spliced_cons (thn (he.run pins s σ H _ I h) fun u s1 ⟨x, H1, I1, r1, q1⟩ => Calls.spliced_nil ?_)
  obtain ⟨l, As, rfl, hl, hn, ht, q⟩ := q1
  obtain rfl : u = Value.ref l := r1
  obtain ⟨its, rv, pl, _⟩ := I1.list hl
  have eits : its = As.map Value.ref := vals_refs rv
  have T1 : Tups1 X.prog X.w s1.heap As := fun b hb => let ⟨x, r, z⟩ := ht b hb; ⟨x, r, isW_of I1 z⟩
  refine set_of_list (As := As) (P := X.prog) (w := X.w) (I1.ok.hd hc) pl.isList (fun i v hv => ?_) (fun b hb => let ⟨x, r, z⟩ := T1 b hb; ⟨_, z⟩) (by rw [List.size_toArray, eits, List.length_map]; exact hn) (by omega) fun h' tk D => ?_
  · have hv' : its[i]? = some v := by simpa using hv
    rw [eits, List.getElem?_map] at hv'
    cases z : As[i]? with
    | none => rw [z] at hv'; cases hv'
    | some b =>
      rw [z] at hv'
      exact ⟨b, List.mem_of_getElem? z, (Option.some.inj hv').symm⟩
  refine Calls.spliced_nil ?_
  obtain ⟨⟨es, ep, t, R, hz⟩, kept⟩ := D
  have hz2 : es.size ≤ 1000 := by
    have e2 : its.toArray.size = As.length := by rw [List.size_toArray, eits, List.length_map]
    rw [e2] at hz
    exact Nat.le_trans hz hn
  have I2 : Inv X pins σ H1 { s1 with heap := h', toks := tk } := I1.kept kept
  refine sorted_of_set (s := { s1 with heap := h', toks := tk }) R (fun b hb => let ⟨x, r, z⟩ := T1 b hb; ⟨x, r, z.keep kept⟩) (I1.ok.hd hc) hz2 (by omega) fun s' p out c k g o hp hget hout hol => ?_
  obtain ⟨Bs, eB, hB⟩ : ∃ Bs : List Addr, out = Bs.map Value.ref ∧ ∀ b ∈ Bs, b ∈ As := by
    clear hget hol
    induction out with
    | nil => exact ⟨[], rfl, fun _ h => nomatch h⟩
    | cons v r ih =>
      obtain ⟨Bs, e1, h1⟩ := ih fun u z => hout u (List.mem_cons_of_mem _ z)
      obtain ⟨b, hb, e⟩ := hout v List.mem_cons_self
      refine ⟨b :: Bs, by rw [e1, e]; rfl, fun c hc => ?_⟩
      rcases List.mem_cons.mp hc with z | z
      · rw [z]; exact hb
      · exact h1 c z
  subst eB
  have hf : H1 p = none := I2.hok.fresh hp
  have hlB : Bs.length ≤ 1000 := by rw [List.length_map] at hol; exact hol
  have hv : ∀ Bs : List Addr, Vals (Bs.map V.ref) (Bs.map Value.ref) := fun Bs => by
    induction Bs with
    | nil => exact .nil
    | cons b r ih => exact .cons rfl ih
  have J : Inv X pins σ (upd H1 p (.lst (Bs.map V.ref))) { ({ s1 with heap := h', toks := tk } : Shared) with heap := s'.heap, gens := s'.gens, drawn := s'.drawn, toks := s'.toks } :=
    I2.call (s := { s1 with heap := h', toks := tk }) (ch := []) (Un.laid k hp hf) (I2.hok.laid k hp ⟨by rw [List.length_map, sizeLine_eq]; omega, _, c, hv Bs, hget⟩) (by rw [g]; exact I1.bare) (fun _ z => nomatch z)
  have es' : s' = { s1 with heap := s'.heap, gens := s'.gens, drawn := s'.drawn, toks := s'.toks } := by
    cases s'
    cases s1
    cases o
    rfl
  rw [es']
  exact ⟨.ref p, _, J, rfl, q Bs p hB hlB hf⟩
end
end Qw

-- QwRules
/-! Further rules. -/
namespace Qw
open PySem PySem.Spec PyProof.Rows L2
def rep (z : Str) (n : Nat) : Str := ⟨(List.replicate n z.cps).foldl (· ++ ·) #[]⟩
theorem rep_acc (a : Array Nat) : ∀ (n : Nat) (acc : Array Nat), ((List.replicate n a).foldl (· ++ ·) acc).size = acc.size + n * a.size
  | 0, acc => by simp
  | n + 1, acc => by
    rw [List.replicate_succ, List.foldl_cons, rep_acc a n, Array.size_append, Nat.add_mul]
    omega
theorem rep_len (z : Str) (n : Nat) : (rep z n).length = n * z.length := by
  show ((List.replicate n z.cps).foldl (· ++ ·) #[]).size = _
  rw [rep_acc]
  simp [Str.length]
section
variable {X : Cx}
/-- a short text times a small int -/
def rMulS : R2 := fun x y H Q => ∃ (z : Str) (n : Nat), x = .str z ∧ y = .int (n : Int) ∧ n ≤ 100 ∧ 0 < z.length ∧ z.length ≤ 100 ∧ Q (.str (rep z n)) H
theorem op_mulS : OpR X (binaryOp .Mult) rMulS := by
  intro pins s σ H x y v u Q I rx ry h
  obtain ⟨z, n, rfl, rfl, hn, h0, hz, q⟩ := h
  obtain ⟨t, rfl⟩ := rx
  obtain ⟨t', rfl⟩ := ry
  have hzl : (z.length == 0) = false := by
    rw [beq_eq_false_iff_ne]
    omega
  refine PySem.P.mul_str ?_ (fun h1 _ => ?_) (fun h1 _ => ?_) ?_
  · rw [decide_eq_false (by omega), decide_eq_false (by omega)]; rfl
  · have e : (2 : Int) ^ 63 - 1 = 9223372036854775807 := by decide
    rw [e]
    have h2 : (9223372036854775807 : Int) / 100 ≤ 9223372036854775807 / (n : Int) := by
      refine Int.le_ediv_of_mul_le (by omega) ?_
      have := Int.mul_le_mul_of_nonneg_left (show (n : Int) ≤ 100 by omega) (show (0 : Int) ≤ 9223372036854775807 / 100 by decide)
      refine Int.le_trans this (by decide)
    have h3 : (9223372036854775807 : Int) / 100 = 92233720368547758 := by decide
    omega
  · rw [Int.toNat_natCast]
    have h2 : z.length * n ≤ 100 * 100 := Nat.mul_le_mul hz hn
    unfold Builtin.Str.tooLong
    rw [decide_eq_false]
    rw [sizeLine_eq]
    omega
  · rw [Int.toNat_natCast]
    by_cases c : (n : Int) < 1
    · rw [if_pos c]
      obtain rfl : n = 0 := by omega
      exact ⟨by decide, .str _, H, I.tok _, ⟨_, rfl⟩, q⟩
    · rw [if_neg c]
      by_cases c1 : n = 1
      · subst c1
        rw [if_pos (by simp)]
        have e : rep z 1 = z := by
          obtain ⟨cps⟩ := z
          show (⟨#[] ++ cps⟩ : Str) = ⟨cps⟩
          rw [Array.empty_append]
        rw [e] at q
        exact ⟨.str z, H, I, ⟨_, rfl⟩, q⟩
      · have hn1 : ((n : Int) == 1) = false := by
          rw [beq_eq_false_iff_ne]
          omega
        rw [hn1, hzl, if_neg (by decide)]
        refine ⟨?_, .str _, H, I.tok _, ⟨_, rfl⟩, q⟩
        show (rep z n).length ≤ sizeLine
        have h2 : n * z.length ≤ 100 * 100 := Nat.mul_le_mul hn hz
        rw [rep_len, sizeLine_eq]
        omega
/-- part not in ("clash", "absent") -/
def rNotP (K : PySem.W.Frag) : R2 := fun x y H Q => ∃ p, y = .ref p ∧ SqT K H p [.str "clash", .str "absent"] ∧ (((x = .str "clash" ∨ x = .str "absent") ∧ Q (.bl false) H) ∨ ((∃ t, TV H t x) ∧ Q (.bl true) H))
theorem clash_ne (l : Lf) : (("clash" : Str) == (l.s : Str)) = false := by cases l <;> decide +kernel
theorem op_notP (hu : X.A.units + 64 < cLine) : OpR X (compareOp .NotIn) (rNotP X.K) := by
  intro pins s σ H x y v u Q I rx ry h
  obtain ⟨p, rfl, hp, h⟩ := h
  obtain rfl : u = Value.ref p := ry
  obtain ⟨its, r, pl, _⟩ := I.tuple hp
  cases r with
  | cons r1 r =>
  cases r with
  | cons r2 r =>
  cases r
  obtain ⟨t1, rfl⟩ := r1
  obtain ⟨t2, rfl⟩ := r2
  have fin : ∀ b c, Q (.bl b) H → c = b → EP X pins σ Q (.bool c) s := fun b c q e => by
    subst e
    exact ⟨.bl _, H, I, rfl, q⟩
  rcases h with ⟨h, q⟩ | ⟨⟨t, ht⟩, q⟩
  · rcases h with rfl | rfl
    · obtain ⟨tk, rfl⟩ := rx
      refine SeqAt.notIn_tupleAt (fun y => match y with | .str z _ => z == "clash" | _ => false) pl (fun y hy => ?_) (fin _ _ q ?_)
      · rcases List.mem_cons.mp (Array.mem_toList_iff.mpr hy) with e | hy
        · subst e; exact SeqAt.EqAt.str_str _ _ _ _
        · obtain rfl := List.mem_singleton.mp hy
          exact SeqAt.EqAt.str_str _ _ _ _
      · simp
    · obtain ⟨tk, rfl⟩ := rx
      refine SeqAt.notIn_tupleAt (fun y => match y with | .str z _ => z == "absent" | _ => false) pl (fun y hy => ?_) (fin _ _ q ?_)
      · rcases List.mem_cons.mp (Array.mem_toList_iff.mpr hy) with e | hy
        · subst e; exact SeqAt.EqAt.str_str _ _ _ _
        · obtain rfl := List.mem_singleton.mp hy
          exact SeqAt.EqAt.str_str _ _ _ _
      · simp
  · refine SeqAt.notIn_tupleAt (fun _ => false) pl (fun y hy => ?_) (fin _ _ q (by simp))
    have hy' : ∃ z tk, y = Value.str z tk ∧ ∀ l : Lf, (z == (l.s : Str)) = false := by
      rcases List.mem_cons.mp (Array.mem_toList_iff.mpr hy) with e | hy
      · exact ⟨_, _, e, clash_ne⟩
      · exact ⟨_, _, List.mem_singleton.mp hy, absent_ne'⟩
    obtain ⟨z, tk, rfl, hz⟩ := hy'
    rcases ht.cases with ⟨l, rfl, rfl⟩ | ⟨_, a, kvs, rfl, ha, _⟩
    · obtain ⟨_, rfl⟩ := rx
      rw [← hz l]
      exact SeqAt.EqAt.str_str _ _ _ _
    · obtain rfl : v = Value.ref a := rx
      exact eq_str_dict _ _ (dictAt_of I ha) (by show X.A.units + 1 < cLine; omega)
end

/-! ### walks over a dict's keys -/
/-- for k in d, d locked -/
theorem for_keys {d : Addr} {o : Obj} {kvs : List (Key × V)} {g : TG} {tb : TS} {D : Ends} {σ : L2.St} {H : Hp} (Pv : Nat → L2.St → Hp → Prop) (h0 : Pv 0 σ H) (hl : ∀ i σ H, Pv i σ H → H d = some (.frz o (.dK kvs)))
    (hs : ∀ (i : Nat) (k : Key) (v : V) σ H, kvs[i]? = some (k, v) → Pv i σ H → g (kV k) σ H fun σ2 H2 => tb { D with nx := Pv (i + 1), ct := Pv (i + 1), bk := D.nx } σ2 H2) (hd : ∀ σ H, Pv kvs.length σ H → D.nx σ H) :
    ∃ Wk : Nat → Nat → L2.St → Hp → Prop, (∃ m, Wk 0 m σ H) ∧ ∀ i m σ H, Wk i m σ H →
      ((Itk d o kvs).stop i H ∧ D.nx σ H) ∨ ((Itk d o kvs).go i H ∧ ∃ N : L2.St → Hp → Prop, (∀ σ' H', N σ' H' → ∃ m', m' < m ∧ Wk (i + 1) m' σ' H') ∧ ∀ x H', (Itk d o kvs).yld i H x H' → g x σ H' fun σ2 H2 => tb { D with nx := N, ct := N, bk := D.nx } σ2 H2) := by
  refine ⟨fun i m σ H => m = kvs.length - i ∧ i ≤ kvs.length ∧ Pv i σ H, ⟨kvs.length, by simp, Nat.zero_le _, h0⟩, ?_⟩
  rintro i m σ H ⟨rfl, hi, p⟩
  have q := hl i σ H p
  by_cases hlt : i < kvs.length
  · refine .inr ⟨⟨q, hlt⟩, Pv (i + 1), fun σ' H' p' => ⟨kvs.length - (i + 1), by omega, rfl, hlt, p'⟩, fun x H' y => ?_⟩
    obtain ⟨e, k, v, ek, ex⟩ := y
    subst e ex
    exact hs i k v σ _ ek p
  · obtain rfl : i = kvs.length := by omega
    exact .inl ⟨⟨q, Nat.le_refl _⟩, hd σ H p⟩
/-- .. of tuple keys -/
theorem for_keysT {d : Addr} {o : Obj} {kvs : List (List Key × V)} {g : TG} {tb : TS} {D : Ends} {σ : L2.St} {H : Hp} (Pv : Nat → L2.St → Hp → Prop) (h0 : Pv 0 σ H) (hl : ∀ i σ H, Pv i σ H → H d = some (.frz o (.dT kvs)))
    (hs : ∀ (i : Nat) (k : List Key) (v : V) (q : Addr) σ H, kvs[i]? = some (k, v) → H q = some (.tup (k.map kV)) → Pv i σ H → g (.ref q) σ H fun σ2 H2 => tb { D with nx := Pv (i + 1), ct := Pv (i + 1), bk := D.nx } σ2 H2) (hd : ∀ σ H, Pv kvs.length σ H → D.nx σ H) :
    ∃ Wk : Nat → Nat → L2.St → Hp → Prop, (∃ m, Wk 0 m σ H) ∧ ∀ i m σ H, Wk i m σ H →
      ((Itkt d o kvs).stop i H ∧ D.nx σ H) ∨ ((Itkt d o kvs).go i H ∧ ∃ N : L2.St → Hp → Prop, (∀ σ' H', N σ' H' → ∃ m', m' < m ∧ Wk (i + 1) m' σ' H') ∧ ∀ x H', (Itkt d o kvs).yld i H x H' → g x σ H' fun σ2 H2 => tb { D with nx := N, ct := N, bk := D.nx } σ2 H2) := by
  refine ⟨fun i m σ H => m = kvs.length - i ∧ i ≤ kvs.length ∧ Pv i σ H, ⟨kvs.length, by simp, Nat.zero_le _, h0⟩, ?_⟩
  rintro i m σ H ⟨rfl, hi, p⟩
  have q := hl i σ H p
  by_cases hlt : i < kvs.length
  · refine .inr ⟨⟨q, hlt⟩, Pv (i + 1), fun σ' H' p' => ⟨kvs.length - (i + 1), by omega, rfl, hlt, p'⟩, fun x H' y => ?_⟩
    obtain ⟨e, k, v, b, ek, ex, hb⟩ := y
    subst e ex
    exact hs i k v b σ _ ek hb p
  · obtain rfl : i = kvs.length := by omega
    exact .inl ⟨⟨q, Nat.le_refl _⟩, hd σ H p⟩
/-- [e for k in d if ..], d locked -/
theorem lc_keys {d : Addr} {o : Obj} {kvs : List (Key × V)} {g : TG} {tt : TT} {te : TE} {vs : List Nat} {σ : L2.St} {H1 : Hp} {D : Addr} {Qd : Hp → Prop} (Pv : Nat → Hp → Prop) (h0 : Pv 0 (upd H1 D (.lst []))) (hl : ∀ i H, Pv i H → H d = some (.frz o (.dK kvs)))
    (hs : ∀ (i : Nat) (k : Key) (v : V) H, kvs[i]? = some (k, v) → Pv i H → g (kV k) (wipe σ vs) H fun σ2 H2 => wipe σ2 vs = wipe σ vs ∧ tt σ2 H2 fun b H3 =>
      if b = true then te σ2 H3 fun y H4 => ∃ acc, H4 D = some (.lst acc) ∧ acc.length < sizeLine ∧ Pv (i + 1) (upd H4 D (.lst (acc ++ [y]))) else Pv (i + 1) H3) (hd : ∀ H, Pv kvs.length H → Qd H) :
    ∃ Wk : Nat → Nat → Hp → Prop, (∃ m, Wk 0 m (upd H1 D (.lst []))) ∧ ∀ i m H, Wk i m H →
      ((Itk d o kvs).stop i H ∧ Qd H) ∨ ((Itk d o kvs).go i H ∧ ∃ Nz : Hp → Prop, (∀ H', Nz H' → ∃ m', m' < m ∧ Wk (i + 1) m' H') ∧ ∀ x H', (Itk d o kvs).yld i H x H' → g x (wipe σ vs) H' fun σ2 H2 => wipe σ2 vs = wipe σ vs ∧ tt σ2 H2 fun b H3 =>
        if b = true then te σ2 H3 fun y H4 => ∃ acc, H4 D = some (.lst acc) ∧ acc.length < sizeLine ∧ Nz (upd H4 D (.lst (acc ++ [y]))) else Nz H3) := by
  refine ⟨fun i m H => m = kvs.length - i ∧ i ≤ kvs.length ∧ Pv i H, ⟨kvs.length, by simp, Nat.zero_le _, h0⟩, ?_⟩
  rintro i m H ⟨rfl, hi, p⟩
  have q := hl i H p
  by_cases hlt : i < kvs.length
  · refine .inr ⟨⟨q, hlt⟩, Pv (i + 1), fun H' p' => ⟨kvs.length - (i + 1), by omega, rfl, hlt, p'⟩, fun x H' y => ?_⟩
    obtain ⟨e, k, v, ek, ex⟩ := y
    subst e ex
    exact hs i k v _ ek p
  · obtain rfl : i = kvs.length := by omega
    exact .inl ⟨⟨q, Nat.le_refl _⟩, hd H p⟩
theorem lc_keysT {d : Addr} {o : Obj} {kvs : List (List Key × V)} {g : TG} {tt : TT} {te : TE} {vs : List Nat} {σ : L2.St} {H1 : Hp} {D : Addr} {Qd : Hp → Prop} (Pv : Nat → Hp → Prop) (h0 : Pv 0 (upd H1 D (.lst []))) (hl : ∀ i H, Pv i H → H d = some (.frz o (.dT kvs)))
    (hs : ∀ (i : Nat) (k : List Key) (v : V) (q : Addr) H, kvs[i]? = some (k, v) → H q = some (.tup (k.map kV)) → Pv i H → g (.ref q) (wipe σ vs) H fun σ2 H2 => wipe σ2 vs = wipe σ vs ∧ tt σ2 H2 fun b H3 =>
      if b = true then te σ2 H3 fun y H4 => ∃ acc, H4 D = some (.lst acc) ∧ acc.length < sizeLine ∧ Pv (i + 1) (upd H4 D (.lst (acc ++ [y]))) else Pv (i + 1) H3) (hd : ∀ H, Pv kvs.length H → Qd H) :
    ∃ Wk : Nat → Nat → Hp → Prop, (∃ m, Wk 0 m (upd H1 D (.lst []))) ∧ ∀ i m H, Wk i m H →
      ((Itkt d o kvs).stop i H ∧ Qd H) ∨ ((Itkt d o kvs).go i H ∧ ∃ Nz : Hp → Prop, (∀ H', Nz H' → ∃ m', m' < m ∧ Wk (i + 1) m' H') ∧ ∀ x H', (Itkt d o kvs).yld i H x H' → g x (wipe σ vs) H' fun σ2 H2 => wipe σ2 vs = wipe σ vs ∧ tt σ2 H2 fun b H3 =>
        if b = true then te σ2 H3 fun y H4 => ∃ acc, H4 D = some (.lst acc) ∧ acc.length < sizeLine ∧ Nz (upd H4 D (.lst (acc ++ [y]))) else Nz H3) := by
  refine ⟨fun i m H => m = kvs.length - i ∧ i ≤ kvs.length ∧ Pv i H, ⟨kvs.length, by simp, Nat.zero_le _, h0⟩, ?_⟩
  rintro i m H ⟨rfl, hi, p⟩
  have q := hl i H p
  by_cases hlt : i < kvs.length
  · refine .inr ⟨⟨q, hlt⟩, Pv (i + 1), fun H' p' => ⟨kvs.length - (i + 1), by omega, rfl, hlt, p'⟩, fun x H' y => ?_⟩
    obtain ⟨e, k, v, b, ek, ex, hb⟩ := y
    subst e ex
    exact hs i k v b _ ek hb p
  · obtain rfl : i = kvs.length := by omega
    exact .inl ⟨⟨q, Nat.le_refl _⟩, hd H p⟩
end Qw

-- QwText
/-! The text by places, what its defs promise. -/
namespace Qw
open PySem PySem.Spec PyProof.Rows L2

def topS (i : Nat) : Stmt := PySem.Challenge.pw_quiltward_k68_whole_merges_as_trees.main.body.getD i (.Pass ⟨0, 0, 0, 0⟩)
def letters : Str := "abcdefghijklmnopqrstuvwxyz0123456789"
/-- the module's names -/
structure Tx (mg : Str → Option Value) : Prop where
  LETTERS : ∃ u, mg "LETTERS" = some u ∧ RelV (.str letters) u
  LONGEST_NAME : ∃ u, mg "LONGEST_NAME" = some u ∧ RelV (.int 8) u
  DEEPEST : ∃ u, mg "DEEPEST" = some u ∧ RelV (.int 8) u
  len : mg "len" = none
  all : mg "all" = none
  enumerate : mg "enumerate" = none
  sorted : mg "sorted" = none
  isinstance : mg "isinstance" = none
  list : mg "list" = none
  dict : mg "dict" = none
  repr : mg "repr" = none
  set : mg "set" = none
  range : mg "range" = none
  abs : mg "abs" = none
  int : mg "int" = none
theorem bt_len : bootBuiltins "len" = some (.builtin "len") := by decide +kernel
theorem bt_all : bootBuiltins "all" = some (.builtin "all") := by decide +kernel
theorem bt_sorted : bootBuiltins "sorted" = some (.builtin "sorted") := by decide +kernel
theorem bt_isinstance : bootBuiltins "isinstance" = some (.builtin "isinstance") := by decide +kernel
theorem bt_abs : bootBuiltins "abs" = some (.builtin "abs") := by decide +kernel
theorem bt_list : bootBuiltins "list" = some (.type "list") := by decide +kernel
theorem bt_dict : bootBuiltins "dict" = some (.type "dict") := by decide +kernel
theorem bt_int : bootBuiltins "int" = some (.type "int") := by decide +kernel
theorem small {n : Nat} (h : n ≤ 1000) : n ≤ sizeLine := Nat.le_of_lt (small1000 h)
section
variable {X : Cx} {e : Expr} {te : TE} {p p2 pos : Pos}
theorem pe_globE {x : Str} {v : V} (hg : Gl X x) (hm : ∃ u, X.mg x = some u ∧ RelV v u) (hd : (x == ("__debug__" : Str)) = false := by decide) : PE X (.Name x pos) (tC v) := by
  obtain ⟨u, h1, h2⟩ := hm
  exact pe_glob hg h1 h2 hd
end
/-- isinstance(x, dict), x a part of a tree -/
def rIsd : List V → Hp → VK → Prop := fun xs H Q => ∃ x, xs = [x, .ty "dict"] ∧ ∃ nv t, Nv nv ∧ TVn nv H t x ∧ Q (.bl t.isNd) H
theorem call_isd {X : Cx} : CallR X (.builtin "isinstance") rIsd := by
  intro pins s σ H xs us Q I r h
  obtain ⟨x, rfl, nv, t, hn, ht, q⟩ := h
  have key : ∃ ty : String, TyX X.K H x (.type ty) ∧ kitB ty "dict" = some t.isNd := by
    rcases ht with ⟨rfl, rfl⟩ | ht
    · rcases hn with rfl | rfl
      · exact ⟨_, .base .non, by decide +kernel⟩
      · exact ⟨_, .base (.str _), by decide +kernel⟩
    · rcases ht.cases with ⟨l, rfl, rfl⟩ | ⟨nt, p, kvs, rfl, hp, _⟩
      · exact ⟨_, .base (.str _), by show kitB "str" "dict" = some false; decide +kernel⟩
      · exact ⟨_, .base (.dK hp), by rw [nt]; decide +kernel⟩
  obtain ⟨ty, h1, h2⟩ := key
  exact call_isi pins s σ H _ us Q I r ⟨x, _, _, _, _, rfl, .ty "dict", h1, kit_ty h2, q⟩

theorem yes_of {σ : L2.St} {H : Hp} {Q : Bool → Hp → Prop} (h : Q true H) : tYes σ H Q := h

def rLenK (K : PySem.W.Frag) : List V → Hp → VK → Prop := fun xs H Q => ∃ p ys, xs = [V.ref p] ∧ (SqL K H p ys ∨ SqT K H p ys) ∧ Q (.int ys.length) H

/-! ### heaps that grow -/
/-- the dicts are as they were -/
def SameD (H H' : Hp) : Prop := ∀ b kvs, H b = some (.dK kvs) → H' b = some (.dK kvs)
theorem Same.d {H H' : Hp} (g : Same H H') : SameD H H' := fun b kvs e => g b _ e
theorem EntV.impS {t : T} {R R' : V → Prop} {o : Option V} (h : EntV t R o) (f : ∀ v, R v → R' v) : EntV t R' o := h.imp fun _ => f
theorem TV.monoD {H H' : Hp} (g : SameD H H') : ∀ {t : T} {v : V}, TV H t v → TV H' t v
  | .no, _, h => h
  | .lf _, _, h => h
  | .nd a b c d e, _, ⟨p, kvs, h1, h2, h3, ha, hb, hc, hd, he⟩ =>
    ⟨p, kvs, h1, g _ _ h2, h3, ha.impS fun _ => TV.monoD g (t := a), hb.impS fun _ => TV.monoD g (t := b), hc.impS fun _ => TV.monoD g (t := c), hd.impS fun _ => TV.monoD g (t := d), he.impS fun _ => TV.monoD g (t := e)⟩
theorem Kv.monoD {H H' : Hp} (g : SameD H H') {kvs : List (Key × V)} {f : Nm → T} (h : Kv H kvs f) : Kv H' kvs f := ⟨h.1, fun n => (h.2 n).impS fun _ q => q.monoD g⟩
theorem TVn.monoD {nv : V} {H H' : Hp} (g : SameD H H') {t : T} {x : V} (h : TVn nv H t x) : TVn nv H' t x := h.elim .inl fun q => .inr (q.monoD g)
/-- what is new in H', over a view B of what was -/
def ov (B H H' : Hp) : Hp := fun b => match H b with | none => H' b | some _ => B b
def nil : Hp := fun _ => none
theorem ov_new {B H H' : Hp} {b : Addr} (h : H b = none) : ov B H H' b = H' b := by unfold ov; rw [h]
theorem ov_old {B H H' : Hp} {b : Addr} {o : HO} (h : H b = some o) : ov B H H' b = B b := by unfold ov; rw [h]
theorem ov_same {B H H' : Hp} (hB : Same B H) (g : Same H H') : Same (ov B H H') H' := fun b o e => by
  cases q : H b with
  | none => rw [ov_new q] at e; exact e
  | some u => rw [ov_old q] at e; exact g _ _ (hB _ _ e)
theorem nil_same (H : Hp) : Same nil H := fun _ _ h => nomatch h
theorem ov_in {B H : Hp} (hB : Same B H) (H' : Hp) : Same B (ov B H H') := fun b o e => by rw [ov_old (hB _ _ e)]; exact e
/-- a dict of the def's own, and what a call makes besides -/
theorem ov_step {B H0 H H' : Hp} {D : Addr} (hB : Same B H0) (hD : H0 D = none) (hDs : ∃ o, H D = some o) (g0 : ∀ b o, H0 b = some o → ∃ o', H b = some o') (g : ∀ b o, H0 b = none → H b = some o → H' b = some o) :
    Same (ov (unp (ov B H0 H) D) H H') (unp (ov B H0 H') D) := fun b o e => by
  have key : ∀ b, b ≠ D → H0 b = none → ov B H0 H b = some o → ov B H0 H' b = some o := fun b _ h0 e => by
    rw [ov_new h0] at e ⊢
    exact g _ _ h0 e
  cases q : H b with
  | none =>
    rw [ov_new q] at e
    have h0 : H0 b = none := by
      cases q0 : H0 b with
      | none => rfl
      | some u => obtain ⟨o', e'⟩ := g0 _ _ q0; rw [q] at e'; cases e'
    obtain ⟨oD, eD⟩ := hDs
    have hne : b ≠ D := fun z => by rw [z] at q; rw [q] at eD; cases eD
    rw [unp_ne hne, ov_new h0]
    exact e
  | some u =>
    rw [ov_old q] at e
    by_cases hne : b = D
    · subst hne; rw [unp_at] at e; cases e
    rw [unp_ne hne] at e ⊢
    cases q0 : H0 b with
    | none => exact key b hne q0 e
    | some u0 => rw [ov_old q0] at e ⊢; exact e
theorem ov_keep {B H0 H H' : Hp} {D : Addr} (g : ∀ b o, b ≠ D → H0 b = none → H b = some o → H' b = some o) : Same (unp (ov B H0 H) D) (unp (ov B H0 H') D) := fun b o e => by
  by_cases hne : b = D
  · subst hne; rw [unp_at] at e; cases e
  rw [unp_ne hne] at e ⊢
  cases q0 : H0 b with
  | none => rw [ov_new q0] at e ⊢; exact g _ _ hne q0 e
  | some u0 => rw [ov_old q0] at e ⊢; exact e
theorem ov_unp {B H H' : Hp} {D : Addr} : Same (unp (ov B H H') D) (ov B H H') := unp_same _ _

/-! ### the law's state -/
/-- the two lists of the law's state -/
def St2 (H : Hp) (S C : Addr) : Prop := ∃ (m : Int) (ns : List Int), H S = some (.lst [.ref C, .int m]) ∧ H C = some (.lst (ns.map V.int)) ∧ ns.length ≤ 63 ∧ 0 ≤ m ∧ m < 2147483648
def Off (S C : Addr) (H H' : Hp) : Prop := ∀ b o, b ≠ S → b ≠ C → H b = some o → H' b = some o
theorem Off.refl (S C : Addr) (H : Hp) : Off S C H H := fun _ _ _ _ h => h
theorem Off.trans {S C : Addr} {H H1 H2 : Hp} (a : Off S C H H1) (b : Off S C H1 H2) : Off S C H H2 := fun c o h1 h2 e => b c o h1 h2 (a c o h1 h2 e)
theorem Same.off {H H' : Hp} (g : Same H H') (S C : Addr) : Off S C H H' := fun b o _ _ e => g b o e
theorem St2.mono {H H' : Hp} {S C : Addr} (h : St2 H S C) (g : Same H H') : St2 H' S C := by
  obtain ⟨m, ns, h1, h2, h3⟩ := h
  exact ⟨m, ns, g _ _ h1, g _ _ h2, h3⟩
theorem St2.s {H : Hp} {S C : Addr} (h : St2 H S C) : ∃ l, H S = some (.lst l) := let ⟨_, _, h1, _⟩ := h; ⟨_, h1⟩
theorem St2.c {H : Hp} {S C : Addr} (h : St2 H S C) : ∃ l, H C = some (.lst l) := let ⟨_, _, _, h1, _⟩ := h; ⟨_, h1⟩
theorem St2.ne {H : Hp} {S C : Addr} (h : St2 H S C) : S ≠ C := by
  obtain ⟨m, ns, h1, h2, h3⟩ := h
  rintro rfl
  rw [h1] at h2
  cases ns with
  | nil => simp at h2
  | cons n r => simp at h2
theorem St2.nS {H : Hp} {S C b : Addr} {o : HO} (h : St2 H S C) (e : H b = some o) (ho : ∀ l, o ≠ .lst l) : b ≠ S ∧ b ≠ C := by
  obtain ⟨l, h1⟩ := h.s
  obtain ⟨l', h2⟩ := h.c
  refine ⟨?_, ?_⟩
  · rintro rfl; rw [h1] at e; exact ho l (Option.some.inj e).symm
  · rintro rfl; rw [h2] at e; exact ho l' (Option.some.inj e).symm
theorem St2.new {H : Hp} {S C b : Addr} (h : St2 H S C) (e : H b = none) : b ≠ S ∧ b ≠ C := by
  obtain ⟨l, h1⟩ := h.s
  obtain ⟨l', h2⟩ := h.c
  exact ⟨(ne_of_none h1 e).symm, (ne_of_none h2 e).symm⟩
theorem Off.at {S C b : Addr} {H H' : Hp} {o : HO} (g : Off S C H H') (h : St2 H S C) (e : H b = some o) (ho : ∀ l, o ≠ .lst l) : H' b = some o := g b o (h.nS e ho).1 (h.nS e ho).2 e
theorem Off.d {S C : Addr} {H H' : Hp} (g : Off S C H H') (h : St2 H S C) : SameD H H' := fun b kvs e => g.at h e fun l z => nomatch z
theorem Off.some {S C : Addr} {H H' : Hp} (g : Off S C H H') (h' : St2 H' S C) {b : Addr} {o : HO} (e : H b = some o) : ∃ o', H' b = some o' := by
  by_cases h1 : b = S
  · rw [h1]; exact let ⟨l, q⟩ := h'.s; ⟨_, q⟩
  by_cases h2 : b = C
  · rw [h2]; exact let ⟨l, q⟩ := h'.c; ⟨_, q⟩
  exact ⟨_, g b o h1 h2 e⟩

/-! ### lines -/
/-- a line: how deep, the name, the value if any -/
structure Ln where
  d : Nat
  n : Nm
  v : Option Lf
def Ln.s (l : Ln) : Str := match l.v with
  | none => rep "  " l.d ++ l.n.s
  | some v => rep "  " l.d ++ l.n.s ++ " = " ++ v.s
/-- the lines of a part under its name -/
def T.lin : T → Nat → Nm → List Ln
  | .no, _, _ => []
  | .lf v, d, n => [⟨d, n, some v⟩]
  | .nd a b c d' e, d, n => ⟨d, n, none⟩ :: (a.lin (d + 1) .a ++ (b.lin (d + 1) .b ++ (c.lin (d + 1) .c ++ (d'.lin (d + 1) .d ++ e.lin (d + 1) .e))))
def lins (t : T) (d : Nat) : List Ln := names.flatMap fun n => (t.kid n).lin d n
theorem lin_nd {t : T} (h : t.isNd = true) (d : Nat) (n : Nm) : t.lin d n = ⟨d, n, none⟩ :: lins t (d + 1) := by
  cases t with
  | no => cases h
  | lf v => cases h
  | nd a b c d' e => simp only [T.lin, lins, names, List.flatMap_cons, List.flatMap_nil, T.kid, List.append_nil]
theorem lin_len : ∀ (k : Nat) (t : T) (d : Nat) (n : Nm), t.dep ≤ k → (t.lin d n).length ≤ 6 ^ k := by
  intro k
  induction k with
  | zero =>
    intro t d n h
    cases t with
    | no => exact Nat.zero_le _
    | lf v => exact Nat.le_refl _
    | nd a b c d' e => simp only [T.dep] at h; omega
  | succ k ih =>
    intro t d n h
    have p1 : 1 ≤ 6 ^ k := Nat.pow_pos (by decide)
    rw [Nat.pow_succ]
    cases t with
    | no => exact Nat.zero_le _
    | lf v => show 1 ≤ _; omega
    | nd a b c d' e =>
      simp only [T.dep] at h
      have e1 := ih a (d + 1) .a (by omega)
      have e2 := ih b (d + 1) .b (by omega)
      have e3 := ih c (d + 1) .c (by omega)
      have e4 := ih d' (d + 1) .d (by omega)
      have e5 := ih e (d + 1) .e (by omega)
      simp only [T.lin, List.length_cons, List.length_append]
      omega
theorem lins_len {k : Nat} {t : T} (h : t.dep ≤ k + 1) (hn : t.isNd = true) (d : Nat) : (lins t d).length ≤ 5 * 6 ^ k := by
  have e : ∀ n, ((t.kid n).lin d n).length ≤ 6 ^ k := fun n => lin_len k _ d n (by have := dep_kid_lt hn n; omega)
  have e1 := e .a
  have e2 := e .b
  have e3 := e .c
  have e4 := e .d
  have e5 := e .e
  simp only [lins, names, List.flatMap_cons, List.flatMap_nil, List.length_append, List.length_nil]
  omega

/-! ### clashes and answers -/
def Way.s (w : Way) : List V := w.map fun n => V.str n.s
def ClV (H : Hp) (ws : List Way) (vs : List V) : Prop := Paired (fun w v => ∃ p, v = .ref p ∧ H p = some (.tup (Way.s w))) ws vs
theorem ClV.mono {H H' : Hp} (g : Same H H') {ws : List Way} {vs : List V} (h : ClV H ws vs) : ClV H' ws vs := L2.Paired.mapP h fun _ _ ⟨p, e, q⟩ => ⟨p, e, g _ _ q⟩
theorem ClV.app {H : Hp} : ∀ {ws ws' : List Way} {vs vs' : List V}, ClV H ws vs → ClV H ws' vs' → ClV H (ws ++ ws') (vs ++ vs')
  | _, _, _, _, .nil, h => h
  | _, _, _, _, .cons r t, h => .cons r (ClV.app t h)
theorem ClV.len {H : Hp} {ws : List Way} {vs : List V} (h : ClV H ws vs) : vs.length = ws.length := (Paired.length h).symm
theorem SqT.mono {K : PySem.W.Frag} {H H' : Hp} {a : Addr} {xs : List V} (g : Same H H') (h : SqT K H a xs) : SqT K H' a xs := by
  rcases h with (h | ⟨o, h⟩) | h
  · exact .inl (.inl (g _ _ h))
  · exact .inl (.inr ⟨o, g _ _ h⟩)
  · exact .inr h
/-- what merged_trees answers -/
def Told (H : Hp) (m : T × List Way) (r : Addr) : Prop :=
  (m.2 = [] ∧ ∃ x, H r = some (.tup [.str "tree", x]) ∧ TV H m.1 x) ∨ (m.2 ≠ [] ∧ ∃ q vs, H r = some (.tup [.str "clash", .ref q]) ∧ H q = some (.lst vs) ∧ ClV H m.2 vs)
theorem Told.mono {H H' : Hp} (g : Same H H') {m : T × List Way} {r : Addr} (h : Told H m r) : Told H' m r := by
  rcases h with ⟨h, x, h1, h2⟩ | ⟨h, q, vs, h1, h2, h3⟩
  · exact .inl ⟨h, x, g _ _ h1, h2.mono g⟩
  · exact .inr ⟨h, q, vs, g _ _ h1, g _ _ h2, h3.mono g⟩

/-! ### what the defs promise -/
def spIsName : Sp := fun vs H Q _ => ∃ n : Nm, vs = [.str n.s] ∧ ∀ H', Same H H' → Q (.bl true) H'
def valOf : Option Lf → V
  | none => .non
  | some v => .str v.s
def spLine : Sp := fun vs H Q _ => ∃ l : Ln, vs = [.str l.s] ∧ l.d ≤ 3 ∧ ∀ p H', Same H H' → H' p = some (.tup [.int l.d, .str l.n.s, valOf l.v]) → Q (.ref p) H'
def spTreeOf : Sp := fun vs H Q _ => ∃ p t, vs = [.ref p] ∧ H p = some (.lst ((lins t 0).map fun l => V.str l.s)) ∧ t.isNd = true ∧ t.dep ≤ 3 ∧ ∀ r H', Same H H' → TV H' t (.ref r) → Q (.ref r) H'
def spLines (n : Nat) : Sp := fun vs H Q _ => ∃ (t : T) (v : V) (d : Nat), vs = [v, .int d] ∧ t.isNd = true ∧ TV H t v ∧ t.dep ≤ n ∧ n ≤ 3 ∧ d + t.dep ≤ 3 ∧ ∀ p H', Same H H' → H p = none → H' p = some (.lst ((lins t d).map fun l => V.str l.s)) → Q (.ref p) H'
def spCopied (n : Nat) : Sp := fun vs H Q _ => ∃ (t : T) (v : V), vs = [v] ∧ TV H t v ∧ t.dep < n ∧ ∀ v' H', Same H H' → TV (ov nil H H') t v' → Q v' H'
/-- copied: nothing stays nothing -/
def spCopiedN (n : Nat) : Sp := fun vs H Q _ => ∃ (t : T) (v : V), vs = [v] ∧ TVn .non H t v ∧ t.dep < n ∧ ∀ v' H', Same H H' → TVn .non (ov nil H H') t v' → Q v' H'
def spPart (K : PySem.W.Frag) (n : Nat) : Sp := fun vs H Q _ => ∃ (b o t : T) (vb vo vt : V) (wp : Addr) (w : Way), vs = [vb, vo, vt, .ref wp] ∧ TVn .non H b vb ∧ TVn .non H o vo ∧ TVn .non H t vt ∧ H wp = some (.tup (Way.s w)) ∧ o.dep < n ∧ b.dep < n ∧ t.dep < n ∧ n ≤ 4 ∧ w.length + n ≤ 11 ∧
  ∀ p q x us H', Same H H' → H' p = some (.tup [x, .ref q]) → TVn .non (ov nil H H') (mrgp o b t w).1 x → H' q = some (.lst us) → ClV H' (mrgp o b t w).2 us → Q (.ref p) H'
def spMerged (K : PySem.W.Frag) (n : Nat) : Sp := fun vs H Q _ => ∃ (b o t : T) (vb vo vt : V) (wp : Addr) (w : Way), vs = [vb, vo, vt, .ref wp] ∧ TV H b vb ∧ TV H o vo ∧ TV H t vt ∧ b.isNd = true ∧ o.isNd = true ∧ t.isNd = true ∧ SqT K H wp (Way.s w) ∧ o.dep ≤ n ∧ b.dep ≤ n ∧ t.dep ≤ n ∧ n ≤ 4 ∧ w.length + n ≤ 10 ∧
  ∀ p q r us H', Same H H' → H' p = some (.tup [.ref r, .ref q]) → TV (ov nil H H') (mrgd o b t w).1 (.ref r) → H' q = some (.lst us) → ClV H' (mrgd o b t w).2 us → Q (.ref p) H'
def spTrees : Sp := fun vs H Q _ => ∃ (b o t : T) (vb vo vt : V), vs = [vb, vo, vt] ∧ TV H b vb ∧ TV H o vo ∧ TV H t vt ∧ b.isNd = true ∧ o.isNd = true ∧ t.isNd = true ∧ o.dep ≤ 3 ∧ b.dep ≤ 3 ∧ t.dep ≤ 3 ∧
  ∀ r H', Same H H' → Told H' (mrgd o b t []) r → Q (.ref r) H'
/-- what merged_lines answers -/
def ToldL (H : Hp) (m : T × List Way) (r : Addr) : Prop :=
  (m.2 = [] ∧ ∃ q, H r = some (.tup [.str "lines", .ref q]) ∧ H q = some (.lst ((lins m.1 0).map fun l => V.str l.s))) ∨ (m.2 ≠ [] ∧ ∃ q vs, H r = some (.tup [.str "clash", .ref q]) ∧ H q = some (.lst vs) ∧ ClV H m.2 vs)
def spMLines : Sp := fun vs H Q _ => ∃ (b o t : T) (pb po pt : Addr), vs = [.ref pb, .ref po, .ref pt] ∧ H pb = some (.lst ((lins b 0).map fun l => V.str l.s)) ∧ H po = some (.lst ((lins o 0).map fun l => V.str l.s)) ∧ H pt = some (.lst ((lins t 0).map fun l => V.str l.s)) ∧
  b.isNd = true ∧ o.isNd = true ∧ t.isNd = true ∧ o.dep ≤ 3 ∧ b.dep ≤ 3 ∧ t.dep ≤ 3 ∧ ∀ r H', Same H H' → ToldL H' (mrgd o b t []) r → Q (.ref r) H'
def spState (K : PySem.W.Frag) : Sp := fun vs H Q _ => ∃ (a : Addr) (ns : List Int), vs = [.ref a] ∧ SqL K H a (ns.map V.int) ∧ ns.length ≤ 63 ∧ ∀ S C H', Same H H' → St2 H' S C → Q (.ref S) H'
def spDraw : Sp := fun vs H Q _ => ∃ (S C : Addr) (many : Int), vs = [.ref S, .int many] ∧ 1 ≤ many ∧ many ≤ 6 ∧ St2 H S C ∧ ∀ (r : Int) H', 0 ≤ r → r < many → St2 H' S C → Off S C H H' → Q (.int r) H'
def spTree (n : Nat) : Sp := fun vs H Q _ => ∃ (S C : Addr) (d : Nat), vs = [.ref S, .int d] ∧ d < n ∧ d ≤ 2 ∧ St2 H S C ∧ ∀ r t H', St2 H' S C → Off S C H H' → t.isNd = true → t.dep ≤ d + 1 → TV (ov nil H H') t (.ref r) → Q (.ref r) H'
def spTurned (n : Nat) : Sp := fun vs H Q _ => ∃ (S C : Addr) (v : V) (t : T) (d : Nat), vs = [.ref S, v, .int d] ∧ d < n ∧ d ≤ 2 ∧ St2 H S C ∧ TV H t v ∧ t.isNd = true ∧ t.dep ≤ d + 1 ∧ ∀ r t' H', St2 H' S C → Off S C H H' → t'.isNd = true → t'.dep ≤ d + 1 → TV (ov nil H H') t' (.ref r) → Q (.ref r) H'
def spApart : Sp := fun vs H Q _ => ∃ (S C : Addr) (v : V) (t : T), vs = [.ref S, v] ∧ St2 H S C ∧ TV H t v ∧ t.isNd = true ∧ t.dep ≤ 3 ∧ ∀ p a b o t' H', St2 H' S C → Off S C H H' → H' p = some (.tup [.ref a, .ref b]) → TV H' o (.ref a) → TV H' t' (.ref b) → o.isNd = true → t'.isNd = true → o.dep ≤ 3 → t'.dep ≤ 3 →
  (∀ n, o.kid n = t.kid n ∨ t'.kid n = t.kid n) → Q (.ref p) H'
def cnt : Nat → Nat
  | 0 => 0
  | n + 1 => 5 * (1 + cnt n)
def kS (s : Str) : Key := .inr s
def spWays (K : PySem.W.Frag) (n : Nat) : Sp := fun vs H Q _ => ∃ (p wp : Addr) (kvs : List (Key × V)) (ws : List Str) (P : Str → Prop), vs = [.ref p, .ref wp] ∧ H p = some (.dK kvs) ∧ kvs.length ≤ 5 ∧ (∀ kv ∈ kvs, ∃ s t, kv.1 = kS s ∧ P s ∧ TV (unp H p) t kv.2 ∧ t.dep < n) ∧ n ≤ 4 ∧ 0 < n ∧ ws.length + n ≤ 10 ∧ SqT K H wp (ws.map V.str) ∧
  ∀ q kvs' H', Same H H' → H q = none → H' q = some (.dT kvs') → (∀ k ∈ kvs'.map (·.1), ∃ (s : Str) (r : List Nm), P s ∧ k = (ws ++ s :: r.map Nm.s).map kS) → kvs'.length ≤ cnt n → Q (.ref q) H'
def spAt (K : PySem.W.Frag) : Sp := fun vs H Q _ => ∃ (v : V) (t : T) (p : Addr) (w : Way), vs = [v, .ref p] ∧ TV H t v ∧ SqT K H p (Way.s w) ∧ ∀ x, TVn (.str "absent") H (t.at w) x → Q x H
def Sh.d : Sh → PyData
  | .tree => .str "tree"
  | .val (.lf l) => .tuple [.str "value", .str l.s]
  | .val _ => .tuple [.str "value", .str "absent"]
def spShape (K : PySem.W.Frag) : Sp := fun vs H Q _ => ∃ (v : V) (t : T) (p : Addr) (w : Way), vs = [v, .ref p] ∧ TV H t v ∧ SqT K H p (Way.s w) ∧ ∀ x H', Same H H' → Dp K H' x (t.at w).sh.d → Q x H'
def spDiff (K : PySem.W.Frag) : Sp := fun vs H Q _ => ∃ (v u : V) (t o : T) (l : Addr) (As : List Addr), vs = [v, u, .ref l] ∧ TV H t v ∧ TV H o u ∧ SqL K H l (As.map V.ref) ∧ As.length ≤ 1000 ∧ (∀ b ∈ As, ∃ w, SqT K H b (Way.s w)) ∧
  ∀ (q : Addr) (Bs : List Addr) H', Same H H' → H' q = some (.lst (Bs.map V.ref)) → (∀ b ∈ Bs, ∃ w, SqT K H b (Way.s w) ∧ (t.at w).sh ≠ (o.at w).sh) → Q (.ref q) H'
/-- the answer of _law_due -/
def spDue (K : PySem.W.Frag) (n : Nat) : Sp := fun vs H Q _ => ∃ (B : Hp) (b o t : T) (vb vo vt : V) (wp : Addr) (w : Way), vs = [vb, vo, vt, .ref wp] ∧ Same B H ∧ TV B b vb ∧ TV B o vo ∧ TV B t vt ∧ b.isNd = true ∧ o.isNd = true ∧ t.isNd = true ∧ SqT K H wp (Way.s w) ∧ o.dep ≤ n ∧ b.dep ≤ n ∧ t.dep ≤ n ∧ n ≤ 4 ∧ w.length + n ≤ 10 ∧
  ∀ p q r us H', Same H H' → H' p = some (.tup [.ref r, .ref q]) → TV (ov B H H') (mrgd o b t w).1 (.ref r) → H' q = some (.lst us) → ClV H' (mrgd o b t w).2 us → Q (.ref p) H'
def spLaw (K : PySem.W.Frag) : Sp := fun vs H Q _ => ∃ (a : Addr) (ns : List Int), vs = [.ref a] ∧ SqL K H a (ns.map V.int) ∧ ns.length ≤ 63 ∧ ∀ H', Q (.bl true) H'

/-! ### walks that build a dict -/
/-- {k: e for k in d}, d locked -/
theorem dc_keys {d : Addr} {o : Obj} {kvs : List (Key × V)} {g : TG} {tt : TT} {tk tv : TE} {vs : List Nat} {σ : L2.St} {H1 : Hp} {D : Addr} {Qd : Hp → Prop} (Pv : Nat → Hp → Prop) (h0 : Pv 0 (upd H1 D (.dK []))) (hl : ∀ i H, Pv i H → H d = some (.frz o (.dK kvs)))
    (hs : ∀ (i : Nat) (k : Key) (v : V) H, kvs[i]? = some (k, v) → Pv i H → g (kV k) (wipe σ vs) H fun σ2 H2 => wipe σ2 vs = wipe σ vs ∧ tt σ2 H2 fun b H3 =>
      if b = true then tk σ2 H3 fun y H4 => tv σ2 H4 fun z H5 => ∃ kvs k, y = kV k ∧ H5 D = some (.dK kvs) ∧ kvs.length < sizeLine ∧ Pv (i + 1) (upd H5 D (.dK (putK kvs k z))) else Pv (i + 1) H3) (hd : ∀ H, Pv kvs.length H → Qd H) :
    ∃ Wk : Nat → Nat → Hp → Prop, (∃ m, Wk 0 m (upd H1 D (.dK []))) ∧ ∀ i m H, Wk i m H →
      ((Itk d o kvs).stop i H ∧ Qd H) ∨ ((Itk d o kvs).go i H ∧ ∃ Nz : Hp → Prop, (∀ H', Nz H' → ∃ m', m' < m ∧ Wk (i + 1) m' H') ∧ ∀ x H', (Itk d o kvs).yld i H x H' → g x (wipe σ vs) H' fun σ2 H2 => wipe σ2 vs = wipe σ vs ∧ tt σ2 H2 fun b H3 =>
        if b = true then tk σ2 H3 fun y H4 => tv σ2 H4 fun z H5 => ∃ kvs k, y = kV k ∧ H5 D = some (.dK kvs) ∧ kvs.length < sizeLine ∧ Nz (upd H5 D (.dK (putK kvs k z))) else Nz H3) := by
  refine ⟨fun i m H => m = kvs.length - i ∧ i ≤ kvs.length ∧ Pv i H, ⟨kvs.length, by simp, Nat.zero_le _, h0⟩, ?_⟩
  rintro i m H ⟨rfl, hi, p⟩
  have q := hl i H p
  by_cases hlt : i < kvs.length
  · refine .inr ⟨⟨q, hlt⟩, Pv (i + 1), fun H' p' => ⟨kvs.length - (i + 1), by omega, rfl, hlt, p'⟩, fun x H' y => ?_⟩
    obtain ⟨e, k, v, ek, ex⟩ := y
    subst e ex
    exact hs i k v _ ek p
  · obtain rfl : i = kvs.length := by omega
    exact .inl ⟨⟨q, Nat.le_refl _⟩, hd H p⟩
end Qw

-- QwBuild
/-! Dicts that a def builds. -/
namespace Qw
open PySem PySem.Spec PyProof.Rows L2
theorem ov_cong {B H H1 H2 : Hp} (h : ∀ b, H b = none → H1 b = H2 b) : ov B H H1 = ov B H H2 := by
  funext b
  cases q : H b with
  | none => rw [ov_new q, ov_new q, h b q]
  | some o => rw [ov_old q, ov_old q]
theorem ov_nil {B H H' : Hp} : Same (ov nil H H') (ov B H H') := fun b o e => by
  cases q : H b with
  | none => rw [ov_new q] at e ⊢; exact e
  | some u => rw [ov_old q] at e; cases e
theorem kv_stay {B H H1 H2 : Hp} {D : Addr} {ks : List (Key × V)} {f : Nm → T} (h : Kv (unp (ov B H H1) D) ks f) (g : ∀ b o, b ≠ D → H b = none → H1 b = some o → H2 b = some o) : Kv (unp (ov B H H2) D) ks f := h.mono (ov_keep g)
/-- a part made by a call, put under its name -/
theorem kv_add {B H H1 H2 : Hp} {D : Addr} {ks : List (Key × V)} {f : Nm → T} {t : T} {v : V} (h : Kv (unp (ov B H H1) D) ks f) (hB : Same B H) (hD : H D = none) (hDs : ∃ o, H1 D = some o) (g0 : ∀ b o, H b = some o → ∃ o', H1 b = some o')
    (g : ∀ b o, H b = none → H1 b = some o → H2 b = some o) (n : Nm) (hv : TV (ov (unp (ov B H H1) D) H1 H2) t v) (u : HO) : Kv (unp (ov B H (upd H2 D u)) D) (putK ks n.k v) (fun m => if m = n then t else f m) := by
  have s1 : Same (unp (ov B H H2) D) (unp (ov B H (upd H2 D u)) D) := ov_keep fun b o hb _ e => by rw [upd_ne hb]; exact e
  refine Kv.put ((kv_stay h fun b o _ h0 e => g b o h0 e).mono s1) n ((hv.mono (ov_step hB hD hDs g0 g)).mono s1)
theorem kv_fin {B H H1 : Hp} {D : Addr} {ks : List (Key × V)} {f : Nm → T} (h : Kv (unp (ov B H H1) D) ks f) (hD : H D = none) (e : H1 D = some (.dK ks)) : TV (ov B H H1) (T.mk f) (.ref D) :=
  Kv.tv (h.mono ov_unp) (by rw [ov_new hD]; exact e)
theorem kv_start (B H H1 : Hp) (D : Addr) : Kv (unp (ov B H H1) D) [] fun _ => .no := Kv.nil _
theorem ov_mono {B H H1 H2 : Hp} (g : Same H1 H2) : Same (ov B H H1) (ov B H H2) := fun b o e => by
  cases q : H b with
  | none => rw [ov_new q] at e ⊢; exact g _ _ e
  | some u => rw [ov_old q] at e ⊢; exact e
theorem ov_shift {H H1 H2 : Hp} (g : Same H H1) : Same (ov nil H1 H2) (ov nil H H2) := fun b o e => by
  cases q : H1 b with
  | none => rw [ov_new q] at e; rw [ov_new (g.free q)]; exact e
  | some u => rw [ov_old q] at e; cases e
theorem mrgd_emp {b : T} (o t : T) (w : Way) (h : b.isNd = false) : mrgd o T.emp t w = mrgd o b t w := mrgd_cong fun n => by
  rw [mrgk, mrgk, kid_not h, T.emp, kid_mk]
theorem emp_tv {H : Hp} {D : Addr} (h : H D = some (.dK [])) : TV H T.emp (.ref D) := Kv.tv (Kv.nil H) h
theorem keys_of {kvs : List (Key × V)} (h : KeysOk kvs) : ∃ ks : List Nm, ks.Nodup ∧ kvs.map (·.1) = ks.map Nm.k ∧ ∀ n : Nm, n ∈ ks ↔ n.k ∈ kvs.map (·.1) := by
  have ex : ∀ l : List Key, (∀ k ∈ l, ∃ n : Nm, k = n.k) → ∃ ks : List Nm, l = ks.map Nm.k := by
    intro l
    induction l with
    | nil => exact fun _ => ⟨[], rfl⟩
    | cons k r ih =>
      intro hl
      obtain ⟨n, e⟩ := hl k List.mem_cons_self
      obtain ⟨ks, e'⟩ := ih fun x hx => hl x (List.mem_cons_of_mem _ hx)
      exact ⟨n :: ks, by rw [e, e']; rfl⟩
  obtain ⟨ks, e⟩ := ex _ h.2
  refine ⟨ks, ?_, e, fun n => ?_⟩
  · have nd := h.1
    rw [e] at nd
    exact List.Pairwise.of_map Nm.k (fun _ _ hne e' => hne (congrArg Nm.k e')) nd
  · rw [e, List.mem_map]
    exact ⟨fun hn => ⟨n, hn, rfl⟩, fun ⟨x, hx, ex⟩ => by rw [← Nm.k_inj ex]; exact hx⟩
theorem mergeK_keys : ∀ (ms kvs : List (Key × V)), KeysOk kvs → (∀ k ∈ ms.map (·.1), ∃ n : Nm, k = n.k) → KeysOk (mergeK kvs ms) ∧ ∀ k, k ∈ (mergeK kvs ms).map (·.1) ↔ k ∈ kvs.map (·.1) ∨ k ∈ ms.map (·.1)
  | [], kvs, h, _ => ⟨h, fun k => by show k ∈ kvs.map (·.1) ↔ _; simp⟩
  | (k1, v1) :: ms, kvs, h, hm => by
    obtain ⟨n, rfl⟩ := hm k1 List.mem_cons_self
    have e : mergeK kvs ((n.k, v1) :: ms) = mergeK (putK kvs n.k v1) ms := rfl
    obtain ⟨a, b⟩ := mergeK_keys ms (putK kvs n.k v1) (h.put n v1) fun k hk => hm k (List.mem_cons_of_mem _ hk)
    rw [e]
    refine ⟨a, fun k => ?_⟩
    rw [b, putK_keys, List.map_cons, List.mem_cons]
    split
    · rename_i hin
      constructor
      · rintro (h | h)
        · exact .inl h
        · exact .inr (.inr h)
      · rintro (h | h | h)
        · exact .inl h
        · rw [h]; exact .inl hin
        · exact .inr h
    · rw [List.mem_append, List.mem_singleton]
      constructor
      · rintro ((h | h) | h)
        · exact .inl h
        · exact .inr (.inl h)
        · exact .inr (.inr h)
      · rintro (h | h | h)
        · exact .inl (.inl h)
        · exact .inl (.inr h)
        · exact .inr h
theorem kv_mem {H : Hp} {kvs : List (Key × V)} {f : Nm → T} (h : Kv H kvs f) (n : Nm) : n.k ∈ kvs.map (·.1) ↔ f n ≠ .no := by
  rcases h.2 n with ⟨e1, e2⟩ | ⟨e1, v, e2, _⟩
  · exact ⟨fun hk => absurd hk (valV_not e2), fun hk => absurd e1 hk⟩
  · exact ⟨fun _ => e1, fun _ => valV_in e2⟩
/-- d.get(name) -/
theorem kv_getD {H : Hp} {kvs : List (Key × V)} {f : Nm → T} (h : Kv H kvs f) (n : Nm) (nv : V) : TVn nv H (f n) ((valV kvs n.k).getD nv) := by
  rcases h.2 n with ⟨e1, e2⟩ | ⟨e1, v, e2, hv⟩
  · rw [e2]; exact .inl ⟨e1, rfl⟩
  · rw [e2]; exact .inr hv
theorem way_cat {K : PySem.W.Frag} {H : Hp} {wp p1 : Addr} {w : Way} {n : Nm} {QQ : VK} (hw : SqT K H wp (Way.s w)) (hp : H p1 = some (.tup [.str n.s])) (hl : w.length ≤ 100) (go : ∀ (wp' : Addr) (H3 : Hp), Same H H3 → H3 wp' = some (.tup (Way.s (w ++ [n]))) → QQ (.ref wp') H3) :
    rCatA K (.ref wp) (.ref p1) H QQ := by
  refine ⟨wp, p1, _, _, rfl, rfl, hw, .of hp, ?_, fun e => ?_, fun _ e => (nomatch e), fun _ _ p hn => ?_⟩
  · show (w.map _).length + 1 ≤ _
    rw [List.length_map]
    exact small (by omega)
  · cases w with
    | nil => exact go p1 H (Same.refl _) hp
    | cons x r => cases e
  · refine go p _ (same_new hn _) ?_
    rw [upd_same]
    show some (HO.tup (Way.s w ++ [V.str n.s])) = _
    unfold Way.s
    rw [List.map_append]
    rfl
theorem way_catS {K : PySem.W.Frag} {H : Hp} {wp p1 : Addr} {w : List Str} {n : Str} {QQ : VK} (hw : SqT K H wp (w.map V.str)) (hp : H p1 = some (.tup [.str n])) (hl : w.length ≤ 100) (go : ∀ (wp' : Addr) (H3 : Hp), Same H H3 → H3 wp' = some (.tup ((w ++ [n]).map V.str)) → QQ (.ref wp') H3) :
    rCatA K (.ref wp) (.ref p1) H QQ := by
  refine ⟨wp, p1, _, _, rfl, rfl, hw, .of hp, ?_, fun e => ?_, fun _ e => (nomatch e), fun _ _ p hn => ?_⟩
  · show (w.map _).length + 1 ≤ _
    rw [List.length_map]
    exact small (by omega)
  · cases w with
    | nil => exact go p1 H (Same.refl _) hp
    | cons x r => cases e
  · refine go p _ (same_new hn _) ?_
    rw [upd_same, List.map_append]
    rfl
theorem sqt_unp {K : PySem.W.Frag} {H : Hp} {p wp : Addr} {xs : List V} {kvs : List (Key × V)} (hp : H p = some (.dK kvs)) (h : SqT K H wp xs) : SqT K (unp H p) wp xs := by
  rcases h with (h | ⟨o, h⟩) | h
  · exact .inl (.inl (by rw [unp_ne (fun z => by rw [z, hp] at h; cases h)]; exact h))
  · exact .inl (.inr ⟨o, by rw [unp_ne (fun z => by rw [z, hp] at h; cases h)]; exact h⟩)
  · exact .inr h
theorem valV_mem {κ : Type} [DecidableEq κ] {kvs : List (κ × V)} {k : κ} {v : V} (h : valV kvs k = some v) : (k, v) ∈ kvs := by
  induction kvs with
  | nil => rw [valV_nil] at h; cases h
  | cons p r ih =>
    by_cases e : p.1 = k
    · rw [valV_pos e] at h
      cases h
      rw [← e]
      exact List.mem_cons_self
    · rw [valV_neg e] at h
      exact List.mem_cons_of_mem _ (ih h)
theorem valV_has {κ : Type} [DecidableEq κ] {kvs : List (κ × V)} {k : κ} (h : k ∈ kvs.map (·.1)) : ∃ v, valV kvs k = some v := by
  induction kvs with
  | nil => cases h
  | cons p r ih =>
    by_cases e : p.1 = k
    · exact ⟨_, valV_pos e⟩
    · rw [List.map_cons] at h
      rcases List.mem_cons.mp h with z | z
      · exact absurd z.symm e
      · obtain ⟨v, hv⟩ := ih z
        exact ⟨v, by rw [valV_neg e]; exact hv⟩
theorem valV_one {κ : Type} [DecidableEq κ] {kvs : List (κ × V)} {k : κ} {v : V} (hn : (kvs.map (·.1)).Nodup) (h : (k, v) ∈ kvs) : valV kvs k = some v := by
  induction kvs with
  | nil => cases h
  | cons p r ih =>
    rw [List.map_cons, List.nodup_cons] at hn
    rcases List.mem_cons.mp h with z | z
    · rw [← z]
      exact valV_pos rfl
    · have : p.1 ≠ k := fun e => hn.1 (e ▸ List.mem_map.mpr ⟨_, z, rfl⟩)
      rw [valV_neg this]
      exact ih hn.2 z
theorem putK_len {κ : Type} [DecidableEq κ] (kvs : List (κ × V)) (k : κ) (v : V) : (putK kvs k v).length = if k ∈ kvs.map (·.1) then kvs.length else kvs.length + 1 := by
  have e := congrArg List.length (putK_keys kvs k v)
  rw [List.length_map] at e
  rw [e]
  split
  · rw [List.length_map]
  · rw [List.length_append, List.length_map, List.length_singleton]
theorem putK_mem {κ : Type} [DecidableEq κ] {kvs : List (κ × V)} {k j : κ} {v : V} (h : j ∈ (putK kvs k v).map (·.1)) : j = k ∨ j ∈ kvs.map (·.1) := by
  rw [putK_keys] at h
  split at h
  · exact .inr h
  · rcases List.mem_append.mp h with z | z
    · exact .inr z
    · exact .inl (List.mem_singleton.mp z)
theorem putK_le {κ : Type} [DecidableEq κ] (kvs : List (κ × V)) (k : κ) (v : V) : (putK kvs k v).length ≤ kvs.length + 1 := by
  rw [putK_len]
  split <;> omega
theorem putK_self {κ : Type} [DecidableEq κ] (kvs : List (κ × V)) (k : κ) (v : V) : k ∈ (putK kvs k v).map (·.1) := by
  rw [putK_keys]
  split
  · assumption
  · exact List.mem_append_right _ (List.mem_singleton.mpr rfl)
theorem kv_keys_at {κ : Type} {kvs : List (κ × V)} {i : Nat} {k : κ} {v : V} (e : kvs[i]? = some (k, v)) : k ∈ kvs.map (·.1) := List.mem_map.mpr ⟨_, List.mem_of_getElem? e, rfl⟩
/-- the names of a walk -/
theorem key_at {kvs : List (Key × V)} {ks : List Nm} (h : kvs.map (·.1) = ks.map Nm.k) {i : Nat} {k : Key} {v : V} (e : kvs[i]? = some (k, v)) : ∃ n, ks[i]? = some n ∧ k = n.k := by
  have q : (kvs.map (·.1))[i]? = some k := by rw [List.getElem?_map, e]; rfl
  rw [h, List.getElem?_map] at q
  cases z : ks[i]? with
  | none => rw [z] at q; cases q
  | some n => rw [z] at q; exact ⟨n, rfl, (Option.some.inj q).symm⟩
theorem take_mem {ks : List Nm} (hn : ks.Nodup) {i : Nat} {n : Nm} (e : ks[i]? = some n) : n ∉ ks.take i ∧ ∀ m, m ∈ ks.take (i + 1) ↔ m = n ∨ m ∈ ks.take i := by
  obtain ⟨hi, e'⟩ := List.getElem?_eq_some_iff.mp e
  have s : ks.take (i + 1) = ks.take i ++ [n] := by rw [List.take_add_one, e]; rfl
  have nd : (ks.take (i + 1)).Nodup := hn.sublist (List.take_sublist _ _)
  refine ⟨?_, fun m => ?_⟩
  · rw [s] at nd
    intro hm
    exact (List.nodup_append.mp nd).2.2 n hm n (List.mem_singleton.mpr rfl) rfl
  · rw [s, List.mem_append, List.mem_singleton]
    exact Or.comm
/-! ### .. while the law's state moves -/
theorem st_upd {H : Hp} {S C D : Addr} {o : HO} (h : St2 H S C) (hS : D ≠ S) (hC : D ≠ C) : St2 (upd H D o) S C := by
  obtain ⟨m, ns, h1, h2, h3⟩ := h
  exact ⟨m, ns, by rw [upd_ne hS.symm]; exact h1, by rw [upd_ne hC.symm]; exact h2, h3⟩
theorem bld_step {H H1 H2 : Hp} {D S C : Addr} {ks : List (Key × V)} {f : Nm → T} (st0 : St2 H S C) (st1 : St2 H1 S C) (e1 : H1 D = some (.dK ks)) (hk : Kv (unp (ov nil H H1) D) ks f) (of : Off S C H1 H2) : H2 D = some (.dK ks) ∧ Kv (unp (ov nil H H2) D) ks f :=
  ⟨of.at st1 e1 (fun _ z => nomatch z), kv_stay hk fun b o _ h0 e => of b o (st0.new h0).1 (st0.new h0).2 e⟩
theorem bld_put {H H1 H2 : Hp} {D S C : Addr} {ks : List (Key × V)} {f : Nm → T} {t : T} {v : V} (st0 : St2 H S C) (st1 : St2 H1 S C) (st2 : St2 H2 S C) (hD : H D = none) (of1 : Off S C H H1) (e1 : H1 D = some (.dK ks)) (hk : Kv (unp (ov nil H H1) D) ks f) (of : Off S C H1 H2) (n : Nm)
    (hv : TV (ov nil H1 H2) t v) : Off S C H (upd H2 D (.dK (putK ks n.k v))) ∧ St2 (upd H2 D (.dK (putK ks n.k v))) S C ∧ upd H2 D (.dK (putK ks n.k v)) D = some (.dK (putK ks n.k v)) ∧ Kv (unp (ov nil H (upd H2 D (.dK (putK ks n.k v)))) D) (putK ks n.k v) (fun m => if m = n then t else f m) := by
  have hDs := st0.new hD
  refine ⟨fun b o h1 h2 e => ?_, st_upd st2 hDs.1 hDs.2, upd_same, ?_⟩
  · rw [upd_ne (ne_of_none e hD)]
    exact of b o h1 h2 (of1 b o h1 h2 e)
  · exact kv_add hk (nil_same _) hD ⟨_, e1⟩ (fun b o e => of1.some st1 e) (fun b o h0 e => of b o (st0.new h0).1 (st0.new h0).2 e) n (hv.mono ov_nil) _
theorem int_pred {d : Nat} (h : 0 < d) : V.int ((d : Int) - 1) = .int ((d - 1 : Nat) : Int) := congrArg V.int (by omega)
theorem upd_id {H : Hp} {D : Addr} {o : HO} (e : H D = some o) : upd H D o = H := by
  funext b
  by_cases h : b = D
  · rw [h, upd_same, e]
  · rw [upd_ne h]
theorem upd_upd {H : Hp} {D : Addr} {o o' : HO} : upd (upd H D o) D o' = upd H D o' := by
  funext b
  by_cases h : b = D
  · rw [h, upd_same, upd_same]
  · rw [upd_ne h, upd_ne h, upd_ne h]
theorem via_st {st b : TS} {D : Ends} {σ : L2.St} {H : Hp} {R : L2.St → Hp → Prop} (h1 : ∀ σ' H', R σ' H' → b D σ' H') (h2 : ∀ N : L2.St → Hp → Prop, (∀ σ' H', R σ' H' → N σ' H') → st { D with nx := N } σ H) : tSeq st b D σ H := h2 _ h1
theorem via_st2 {v v' : V} {i i' : Nat} {st b : TS} {D : Ends} {σ : L2.St} {H : Hp} {R : L2.St → Hp → Prop} (h1 : ∀ σ' H', R σ' H' → b D σ' H') (h2 : ∀ N : L2.St → Hp → Prop, (∀ σ' H', R σ' H' → N σ' H') → st { D with nx := N } ((σ.set i (some v)).set i' (some v')) H) :
    tSeq (tAsg (tC v) (gName i)) (tSeq (tAsg (tC v') (gName i')) (tSeq st b)) D σ H := h2 _ h1
theorem via_Q {tE : TE} {σ : L2.St} {H : Hp} {Q : VK} {R : VK} (h1 : ∀ v H', R v H' → Q v H') (h2 : ∀ Q' : VK, (∀ v H', R v H' → Q' v H') → tE σ H Q') : tE σ H Q := h2 Q h1
theorem via_set {te : TE} {g : TG} {b : TS} {D : Ends} {σ : L2.St} {H : Hp} {R : VK} (h1 : ∀ v H', R v H' → g v σ H' fun σ' H'' => b D σ' H'') (h2 : ∀ Q' : VK, (∀ v H', R v H' → Q' v H') → te σ H Q') : tSeq (tAsg te g) b D σ H := h2 _ h1
/-- [..][draw] -/
theorem draw_pick {K : PySem.W.Frag} {H4 : Hp} {S C : Addr} {m : Int} {xs : List V} {P : V → Prop} {E : XK} (pick : ∀ r : Int, 0 ≤ r → r < m → ∃ v, P v ∧ atI xs r = some v) (m1 : 1 ≤ m) (m6 : m ≤ 6) (st4 : St2 H4 S C) {QQ : VK} (z : ∀ v H5, P v → St2 H5 S C → Off S C H4 H5 → QQ v H5)
    (l2 : Addr) (hl2 : H4 l2 = none) : spDraw [.ref S, .int m] (upd H4 l2 (.lst xs)) (fun y H5 => rIxL K (.ref l2) y H5 QQ) E := by
  have sl2 := same_new hl2 (.lst xs)
  have hl2s := st4.new hl2
  refine ⟨S, C, m, rfl, m1, m6, st4.mono sl2, fun r2 H5 r20 r21 st5 of5 => ?_⟩
  obtain ⟨v, hv, hlf⟩ := pick r2 r20 r21
  exact ⟨l2, _, r2, v, rfl, rfl, SqL.of (of5 _ _ hl2s.1 hl2s.2 upd_same), hlf, z v H5 hv st5 ((Same.off sl2 S C).trans of5)⟩
theorem pick_name {r : Int} (h0 : 0 ≤ r) (h4 : r < 4) : ∃ v, (∃ n : Nm, v = .str n.s) ∧ atI [V.str (Str.ofString "a"), V.str (Str.ofString "b"), V.str (Str.ofString "c"), V.str (Str.ofString "d")] r = some v := by
  rcases (by omega : r = 0 ∨ r = 1 ∨ r = 2 ∨ r = 3) with rfl | rfl | rfl | rfl
  · exact ⟨_, ⟨.a, rfl⟩, rfl⟩
  · exact ⟨_, ⟨.b, rfl⟩, rfl⟩
  · exact ⟨_, ⟨.c, rfl⟩, rfl⟩
  · exact ⟨_, ⟨.d, rfl⟩, rfl⟩
theorem pick_x {r : Int} (h0 : 0 ≤ r) (h4 : r < 3) : ∃ v, (∃ n : Lf, v = .str n.s) ∧ atI [V.str (Str.ofString "1"), V.str (Str.ofString "2"), V.str (Str.ofString "x")] r = some v := by
  rcases (by omega : r = 0 ∨ r = 1 ∨ r = 2) with rfl | rfl | rfl
  · exact ⟨_, ⟨.one, rfl⟩, rfl⟩
  · exact ⟨_, ⟨.two, rfl⟩, rfl⟩
  · exact ⟨_, ⟨.x, rfl⟩, rfl⟩
theorem pick_y {r : Int} (h0 : 0 ≤ r) (h4 : r < 3) : ∃ v, (∃ n : Lf, v = .str n.s) ∧ atI [V.str (Str.ofString "1"), V.str (Str.ofString "2"), V.str (Str.ofString "y")] r = some v := by
  rcases (by omega : r = 0 ∨ r = 1 ∨ r = 2) with rfl | rfl | rfl
  · exact ⟨_, ⟨.one, rfl⟩, rfl⟩
  · exact ⟨_, ⟨.two, rfl⟩, rfl⟩
  · exact ⟨_, ⟨.y, rfl⟩, rfl⟩
end Qw

-- QwD07
namespace Qw
open PySem PySem.Spec PyProof.Rows L2
open C8 (Cal pe_c)

/-- [e for c in z], z a text -/
theorem lc_str {z : Str} {g : TG} {tt : TT} {te : TE} {vs : List Nat} {σ : L2.St} {H1 : Hp} {D : Addr} {Qd : Hp → Prop} (Pv : Nat → Hp → Prop) (h0 : Pv 0 (upd H1 D (.lst [])))
    (hs : ∀ (i : Nat) (c : Nat) H, z.cps[i]? = some c → Pv i H → g (.str ⟨#[c]⟩) (wipe σ vs) H fun σ2 H2 => wipe σ2 vs = wipe σ vs ∧ tt σ2 H2 fun b H3 =>
      if b = true then te σ2 H3 fun y H4 => ∃ acc, H4 D = some (.lst acc) ∧ acc.length < sizeLine ∧ Pv (i + 1) (upd H4 D (.lst (acc ++ [y]))) else Pv (i + 1) H3) (hd : ∀ H, Pv z.cps.size H → Qd H) :
    ∃ Wk : Nat → Nat → Hp → Prop, (∃ m, Wk 0 m (upd H1 D (.lst []))) ∧ ∀ i m H, Wk i m H →
      ((Its z).stop i H ∧ Qd H) ∨ ((Its z).go i H ∧ ∃ Nz : Hp → Prop, (∀ H', Nz H' → ∃ m', m' < m ∧ Wk (i + 1) m' H') ∧ ∀ x H', (Its z).yld i H x H' → g x (wipe σ vs) H' fun σ2 H2 => wipe σ2 vs = wipe σ vs ∧ tt σ2 H2 fun b H3 =>
        if b = true then te σ2 H3 fun y H4 => ∃ acc, H4 D = some (.lst acc) ∧ acc.length < sizeLine ∧ Nz (upd H4 D (.lst (acc ++ [y]))) else Nz H3) := by
  refine ⟨fun i m H => m = z.cps.size - i ∧ i ≤ z.cps.size ∧ Pv i H, ⟨z.cps.size, by simp, Nat.zero_le _, h0⟩, ?_⟩
  rintro i m H ⟨rfl, hi, p⟩
  by_cases hlt : i < z.cps.size
  · refine .inr ⟨hlt, Pv (i + 1), fun H' p' => ⟨z.cps.size - (i + 1), by omega, rfl, hlt, p'⟩, fun x H' y => ?_⟩
    obtain ⟨e, c, ek, ex⟩ := y
    subst e ex
    exact hs i c _ ek p
  · obtain rfl : i = z.cps.size := by omega
    exact .inl ⟨Nat.le_refl _, hd H p⟩
def Nm.cp : Nm → Nat
  | .a => 97 | .b => 98 | .c => 99 | .d => 100 | .e => 101
theorem Nm.s_c (n : Nm) : n.s.cps = #[n.cp] := by cases n <;> decide +kernel
theorem Nm.len (n : Nm) : n.s.length = 1 := by cases n <;> decide +kernel
theorem Nm.in_letters (n : Nm) : decide (n.cp ∈ letters.cps.toList) = true := by cases n <;> decide +kernel
-- [(0, 'word'), (1, 'sign')]
def N_is_name : List Str := ["word", "sign"]
theorem sc_is_name : FnScope N_is_name ["word"] (defScope (topS 7)) := ⟨rfl, rfl, rfl, by decide +kernel, rfl, by decide +kernel, by decide +kernel⟩
section
variable {P : Program} {w : World} {K : PySem.W.Frag} {mg : Str → Option Value} {base : Heap} {f : Addr} {fd : FuncData}
theorem ok_is_name (F : Fun K "_is_name" "_is_name" (topS 7) f fd) (T : Tx mg)  : FnOk P w K mg base CX0 1 f fd ["word"] spIsName := by
  refine F.ok sc_is_name (fun vs H Q E h => ?_) (fun cdv A outer s H vs Q E hr h => ?_)
  · obtain ⟨n, rfl, _⟩ := h
    rfl
  have nd := sc_is_name.nd
  have hu := hu_of hr
  have hu64 := hr.units
  obtain ⟨n, rfl, q⟩ := h
  refine ⟨_, (pss_one (ps_ret (pe_and (pe_chain op_le op_le pe_int (pe_callB call_len_str rfl T.len bt_len (pa_cons (pv 0) pa_nil)) (pe_globE rfl T.LONGEST_NAME)) (pe_one (pe_callB (cr_all rfl) rfl T.all bt_all (pa_cons (pe_lc (own := [("sign", 1)]) (g := gName 1) (tt := tYes) rfl nd (pi_str (pv 0)) (blkOk_by (own := [("sign", 1)]) (N := N_is_name) (sc := defScope (topS 7)) (by decide +kernel)) (fun _ _ _ _ _ => pg_name (i := 1) nd rfl (Or.inl rfl)) (fun _ _ _ _ _ => pts_nil) (fun _ _ _ _ _ => (pe_cmpR op_in_sign (pv 1) (pe_globE rfl T.LETTERS) (by rfl)))) pa_nil)))))), ?_⟩
  refine ⟨_, rfl, n.s, rfl, (by rw [Nm.len]; decide), ?_⟩
  refine ⟨_, _, rfl, rfl, _, rfl, ?_⟩
  have e1 : decide ((1 : Int) ≤ ((n.s.length : Nat) : Int)) = true := by rw [Nm.len]; decide
  have e2 : decide (((n.s.length : Nat) : Int) ≤ 8) = true := by rw [Nm.len]; decide
  rw [e1]
  refine iteT ?_
  refine ⟨_, _, rfl, rfl, true, congrArg V.bl e2, ?_⟩
  refine iteT ?_
  refine ⟨_, rfl, _, rfl, fun D hD => ?_⟩
  have hz : n.s.cps.size = 1 := by rw [Nm.s_c]; rfl
  refine lc_str (fun i H' => Same H H' ∧ ((i = 0 ∧ H' D = some (.lst [])) ∨ (i = 1 ∧ H' D = some (.lst [.bl true])))) ⟨same_new hD _, .inl ⟨rfl, upd_same⟩⟩ ?_ ?_
  · intro i c H1 hi ⟨g, h⟩
    have hi' : i = 0 := by
      rw [Nm.s_c] at hi
      cases i with
      | zero => rfl
      | succ i => simp at hi
    subst hi'
    obtain rfl : n.cp = c := by
      rw [Nm.s_c] at hi
      simpa using hi
    rcases h with ⟨_, h⟩ | ⟨h, _⟩
    · refine ⟨rfl, yes_of ?_⟩
      refine iteT ?_
      refine ⟨_, rfl, _, _, rfl, rfl, ?_⟩
      refine ⟨_, h, by decide, ?_, .inr ⟨rfl, ?_⟩⟩
      · intro b o e
        rw [upd_ne (ne_of_none e hD)]
        exact g b o e
      · rw [upd_same, Nm.in_letters]
        rfl
    · cases h
  · rintro H1 ⟨g, h⟩
    rw [hz] at h
    rcases h with ⟨h, _⟩ | ⟨_, h⟩
    · cases h
    · exact ⟨D, [true], rfl, SqL.of h, q _ g⟩
end
end Qw

-- QwD08
namespace Qw
open PySem PySem.Spec PyProof.Rows L2
open C8 (Cal pe_c)

/-! ### the lines' texts -/
def lfs : List (Option Lf) := [none, some .one, some .two, some .x, some .y, some .nw]
def allLn : List Ln := [0, 1, 2, 3].flatMap fun d => names.flatMap fun n => lfs.map fun v => ⟨d, n, v⟩
theorem mem_lfs (v : Option Lf) : v ∈ lfs := by
  cases v with
  | none => exact .head _
  | some l => cases l <;> simp [lfs]
theorem mem_all (l : Ln) (h : l.d ≤ 3) : l ∈ allLn := by
  obtain ⟨d, n, v⟩ := l
  refine List.mem_flatMap.mpr ⟨d, ?_, List.mem_flatMap.mpr ⟨n, mem_names n, List.mem_map.mpr ⟨v, mem_lfs v, rfl⟩⟩⟩
  have h' : d ≤ 3 := h
  rcases (by omega : d = 0 ∨ d = 1 ∨ d = 2 ∨ d = 3) with rfl | rfl | rfl | rfl <;> decide
def cutOk (l : Ln) : Bool := (PySem.Txt.startswith l.s "  " == decide (0 < l.d)) && (l.d == 0 || decide (cutS l.s (some 2) none = Ln.s ⟨l.d - 1, l.n, l.v⟩)) && decide (l.s.length ≤ 100)
theorem cut_all : (allLn.all cutOk) = true := by decide +kernel
theorem ln_ok (l : Ln) (h : l.d ≤ 3) : cutOk l = true := List.all_eq_true.mp cut_all l (mem_all l h)
theorem ln_sw (l : Ln) (h : l.d ≤ 3) : PySem.Txt.startswith l.s "  " = decide (0 < l.d) := by
  have q := ln_ok l h
  unfold cutOk at q
  exact eq_of_beq (Bool.and_eq_true_iff.mp (Bool.and_eq_true_iff.mp q).1).1
theorem ln_cut (l : Ln) (h : l.d ≤ 3) (h0 : 0 < l.d) : cutS l.s (some 2) none = Ln.s ⟨l.d - 1, l.n, l.v⟩ := by
  have q := ln_ok l h
  unfold cutOk at q
  have q2 := (Bool.and_eq_true_iff.mp (Bool.and_eq_true_iff.mp q).1).2
  rcases Bool.or_eq_true_iff.mp q2 with z | z
  · have := eq_of_beq z; omega
  · exact of_decide_eq_true z
theorem ln_len (l : Ln) (h : l.d ≤ 3) : l.s.length ≤ 100 := by
  have q := ln_ok l h
  unfold cutOk at q
  exact of_decide_eq_true (Bool.and_eq_true_iff.mp q).2
def eqs : Option Lf → Str
  | none => ""
  | some _ => " = "
def vals : Option Lf → Str
  | none => ""
  | some v => v.s
theorem ln_part (n : Nm) (v : Option Lf) : PySem.Txt.partition (Ln.s ⟨0, n, v⟩) " = " = (n.s, eqs v, vals v) := by
  cases n <;> cases v <;> (try rename_i l; cases l) <;> decide +kernel
theorem strip_l (l : Lf) : PySem.Txt.stripChars l.s " " = l.s := by cases l <;> decide +kernel
-- [(0, 'text'), (1, 'depth'), (2, 'name'), (3, 'equals'), (4, 'value')]
def N_line : List Str := ["text", "depth", "name", "equals", "value"]
theorem sc_line : FnScope N_line ["text"] (defScope (topS 8)) := ⟨rfl, rfl, rfl, by decide +kernel, rfl, by decide +kernel, by decide +kernel⟩
section
variable {P : Program} {w : World} {K : PySem.W.Frag} {mg : Str → Option Value} {base : Heap} {f : Addr} {fd : FuncData}
theorem ok_line (F : Fun K "_line" "_line" (topS 8) f fd) (T : Tx mg) (c_is_name : Cal P w K mg base 1 "_is_name" spIsName []) : FnOk P w K mg base CX0 2 f fd ["text"] spLine := by
  refine F.ok sc_line (fun vs H Q E h => ?_) (fun cdv A outer s H vs Q E hr h => ?_)
  · obtain ⟨l, rfl, _⟩ := h
    rfl
  have nd := sc_line.nd
  have hu := hu_of hr
  have hu64 := hr.units
  obtain ⟨l, rfl, hd, q⟩ := h
  refine ⟨_, (pss_cons (ps_set (i := 1) nd rfl (Or.inl rfl) pe_int)
    (pss_cons (ps_while PassesOwn.never (pt_val (pe_m1 PySem.F.slot_str_startswith PySem.F.type_str_startswith mt_startswith (pv 0) pe_str))
      (pss_cons (ps_aug (i := 1) nd rfl (Or.inl rfl) pe_int ip_add)
      (pss_one (ps_set (i := 0) nd rfl (Or.inl rfl) (pe_slice sl_str (pv 0) (po_some pe_int) po_none)))))
    (pss_cons (ps_asg (pe_partition (pv 0) pe_str) (pg_tup rfl (pgs_cons (pg_name (i := 2) nd rfl (Or.inl rfl)) (pgs_cons (pg_name (i := 3) nd rfl (Or.inl rfl)) (pgs_cons (pg_name (i := 4) nd rfl (Or.inl rfl)) pgs_nil)))))
    (pss_cons (ps_if (PW.pt (pw_or (pt_not (pt_val (pe_c c_is_name hr (by omega) rfl (pa_cons (pv 2) pa_nil)))) (pw_or (pt_cmpR op_gt (pv 1) (pe_globE rfl T.DEEPEST) (nomark _)) (pw_or1 (PW.pt (pw_and (pt_cmpR op_ne (pv 3) pe_str (nomark _)) (pw_and1 (PW.pt (pw_or (pt_cmpR op_eq (pv 4) pe_str (nomark _)) (pw_or1 (pt_cmpR op_ne (pe_m1 PySem.F.slot_str_strip PySem.F.type_str_strip mt_stripChars (pv 4) pe_str) (pv 4) (nomark _))))))))))))
      (pss_one (ps_ret pe_non))
      pss_nil)
    (pss_one (ps_ret (pe_tup (pa_cons (pv 1) (pa_cons (pv 2) (pa_cons (pe_ifExp (pt_cmpR op_ne (pv 3) pe_str (nomark _)) (pv 4) pe_non) pa_nil)))))))))), ?_⟩
  refine ⟨fun m σ H' => H' = H ∧ m ≤ l.d ∧ σ = [some (.str (Ln.s ⟨m, l.n, l.v⟩)), some (.int ((l.d : Int) - m)), none, none, none], ⟨l.d, rfl, Nat.le_refl _, by show [_, _, _, _, _] = _; rw [Int.sub_self]⟩, ?_⟩
  rintro m σ H1 ⟨rfl, hm, rfl⟩
  refine ⟨_, rfl, ⟨_, rfl⟩, _, _, rfl, rfl, _, rfl, ?_⟩
  have h3 : Ln.d ⟨m, l.n, l.v⟩ ≤ 3 := by show m ≤ 3; omega
  have e1 := ln_sw ⟨m, l.n, l.v⟩ h3
  have e2 := ln_len ⟨m, l.n, l.v⟩ h3
  by_cases c : 0 < m
  · rw [show PySem.Txt.startswith (Ln.s ⟨m, l.n, l.v⟩) (Str.ofString "  ") = true from e1.trans (decide_eq_true c)]
    refine iteT ?_
    refine ⟨fun σ H' => H' = H1 ∧ σ = [some (.str (Ln.s ⟨m - 1, l.n, l.v⟩)), some (.int ((l.d : Int) - m + 1)), none, none, none], ?_, ?_⟩
    · rintro σ' H' ⟨rfl, rfl⟩
      refine ⟨m - 1, by omega, rfl, by omega, ?_⟩
      rw [show (l.d : Int) - m + 1 = (l.d : Int) - ((m - 1 : Nat) : Int) by omega]
    · refine ⟨_, rfl, _, _, rfl, rfl, ?_⟩
      refine ⟨_, rfl, _, rfl, _, rfl, small (by omega), ?_⟩
      refine ⟨rfl, ?_⟩
      rw [ln_cut ⟨m, l.n, l.v⟩ h3 c]
      rfl
  · rw [show PySem.Txt.startswith (Ln.s ⟨m, l.n, l.v⟩) (Str.ofString "  ") = false from e1.trans (decide_eq_false c)]
    refine iteF ?_
    obtain rfl : m = 0 := by omega
    refine ⟨_, rfl, ⟨_, rfl⟩, _, _, rfl, rfl, rfl, small (by omega), fun p hp => ?_⟩
    rw [show (Str.ofString " = ") = (" = " : Str) from rfl, ln_part]
    refine ⟨p, _, rfl, SqT.of upd_same, rfl, ?_⟩
    refine ⟨_, _, rfl, _, _, rfl, _, _, rfl, rfl, ?_⟩
    have g1 : Same H1 (upd H1 p (.tup [.str l.n.s, .str (eqs l.v), .str (vals l.v)])) := same_new hp _
    refine ⟨_, rfl, l.n, rfl, fun H2 g2 => ?_⟩
    refine ⟨_, rfl, ?_⟩
    refine iteF ?_
    refine ⟨_, rfl, _, _, rfl, rfl, _, rfl, ?_⟩
    have e3 : decide ((8 : Int) < (l.d : Int) - ((0 : Nat) : Int)) = false := decide_eq_false (by omega)
    rw [e3]
    refine iteF ?_
    cases hv : l.v with
    | none =>
      refine ⟨_, rfl, rfl, _, rfl, ?_⟩
      rw [show (!decide (V.str (eqs none) = V.str (Str.ofString ""))) = false from rfl]
      refine iteF ?_
      refine iteF ?_
      refine ⟨_, rfl, _, rfl, ?_⟩
      refine ⟨_, rfl, rfl, _, rfl, ?_⟩
      rw [show (!decide (V.str (eqs none) = V.str (Str.ofString ""))) = false from rfl]
      refine iteF ?_
      refine ⟨(by show 3 ≤ sizeLine; decide), fun r hr2 => ?_⟩
      refine q r _ ((g1.trans g2).trans (same_new hr2 _)) ?_
      rw [upd_same, hv, Int.natCast_zero, Int.sub_zero]
      rfl
    | some v =>
      refine ⟨_, rfl, rfl, _, rfl, ?_⟩
      rw [show (!decide (V.str (eqs (some v)) = V.str (Str.ofString ""))) = true from rfl]
      refine iteT ?_
      refine ⟨_, rfl, rfl, _, rfl, ?_⟩
      rw [show decide (V.str (vals (some v)) = V.str (Str.ofString "")) = false from by cases v <;> rfl]
      refine iteF ?_
      refine ⟨_, rfl, ⟨_, rfl⟩, _, _, rfl, rfl, (by show v.s.length ≤ sizeLine; cases v <;> decide), _, rfl, rfl, _, rfl, ?_⟩
      rw [show PySem.Txt.stripChars (vals (some v)) (Str.ofString " ") = v.s from strip_l v]
      rw [show (!decide (V.str v.s = V.str (vals (some v)))) = false from by rw [show decide (V.str v.s = V.str (vals (some v))) = true from decide_eq_true rfl]; rfl]
      refine iteF ?_
      refine ⟨_, rfl, _, rfl, ?_⟩
      refine ⟨_, rfl, rfl, _, rfl, ?_⟩
      rw [show (!decide (V.str (eqs (some v)) = V.str (Str.ofString ""))) = true from rfl]
      refine iteT ?_
      refine ⟨_, rfl, ?_⟩
      refine ⟨(by show 3 ≤ sizeLine; decide), fun r hr2 => ?_⟩
      refine q r _ ((g1.trans g2).trans (same_new hr2 _)) ?_
      rw [upd_same, hv, Int.natCast_zero, Int.sub_zero]
      rfl
end
end Qw

-- QwD10
namespace Qw
open PySem PySem.Spec PyProof.Rows L2
open C8 (Cal pe_c)

theorem flat_asc {α : Type} {ks : List Nm} {g : Nm → List α} (h : ∀ n, n ∉ ks → g n = []) : (asc ks).flatMap g = names.flatMap g := by
  have key : ∀ l : List Nm, (l.filter fun n => decide (n ∈ ks)).flatMap g = l.flatMap g := by
    intro l
    induction l with
    | nil => rfl
    | cons n r ih =>
      by_cases hn : n ∈ ks
      · simp only [List.filter_cons, hn, decide_true, if_true, List.flatMap_cons, ih]
      · simp only [List.filter_cons, hn, decide_false, Bool.false_eq_true, if_false, List.flatMap_cons, ih, h n hn, List.nil_append]
  exact key names
theorem flat_take {α β : Type} {l : List α} {g : α → List β} (i : Nat) : ((l.take i).flatMap g).length ≤ (l.flatMap g).length := by
  conv => rhs; rw [← List.take_append_drop i l, List.flatMap_append, List.length_append]
  exact Nat.le_add_right _ _
theorem flat_next {α β : Type} {l : List α} {g : α → List β} {i : Nat} {x : α} (e : l[i]? = some x) : (l.take (i + 1)).flatMap g = (l.take i).flatMap g ++ g x := by
  rw [List.take_add_one, e, List.flatMap_append]
  simp
theorem name_at {ks : List Nm} {i : Nat} {x : V} (e : (ks.map fun n => V.str n.s)[i]? = some x) : ∃ n, ks[i]? = some n ∧ x = .str n.s := by
  rw [List.getElem?_map] at e
  cases z : ks[i]? with
  | none => rw [z] at e; cases e
  | some n => rw [z] at e; exact ⟨n, rfl, (Option.some.inj e).symm⟩
theorem s_len (n : Nm) : n.s.length = 1 := by cases n <;> decide
theorem sp_len : Str.length (Str.ofString "  ") = 2 := by decide
theorem eq_len : Str.length (Str.ofString " = ") = 3 := by decide
theorem l_len (n : Lf) : n.s.length ≤ 3 := by cases n <;> decide
theorem str_len_app (a b : Str) : (a ++ b).length = a.length + b.length := by
  show (a.cps ++ b.cps).size = _
  rw [Array.size_append]
  rfl
theorem set_two {a b c d x : Option V} : [a, b, c, d].set 2 x = [a, b, x, d] := rfl
-- [(0, 'tree'), (1, 'depth'), (2, 'lines'), (3, 'name')]
def Nlines_of_tree : List Str := ["tree", "depth", "lines", "name"]
theorem sclines_of_tree : FnScope Nlines_of_tree ["tree", "depth"] (defScope (topS 10)) := ⟨rfl, rfl, rfl, by decide +kernel, rfl, by decide +kernel, by decide +kernel⟩
section
variable {P : Program} {w : World} {K : PySem.W.Frag} {mg : Str → Option Value} {base : Heap} {f : Addr} {fd : FuncData}
theorem oklines_of_tree {j k : Nat} (F : Fun K "lines_of_tree" "lines_of_tree" (topS 10) f fd) (T : Tx mg) (clines_of_tree : Cal P w K mg base j "lines_of_tree" (spLines k) []) : FnOk P w K mg base CX0 (j + 1) f fd ["tree", "depth"] (spLines (k + 1)) := by
  refine F.ok sclines_of_tree (fun vs H Q E h => ?_) (fun cdv A outer s H vs Q E hr h => ?_)
  · obtain ⟨t, v, d, rfl, _⟩ := h
    rfl
  have nd := sclines_of_tree.nd
  have hu := hu_of hr
  have hu64 := hr.units
  obtain ⟨t, v, d, rfl, nt, ht, hd, hk3, hdd, q⟩ := h
  refine ⟨_, (pss_cons (ps_set (i := 2) nd rfl (Or.inl rfl) (pe_lst pa_nil))
    (pss_cons (ps_for PassesOwn.never rfl (pi_list (pe_callB (call_sortedD rfl) rfl T.sorted bt_sorted (pa_cons (pv 0) pa_nil))) (pg_name (i := 3) nd rfl (Or.inl rfl))
      (pss_one (ps_if (pt_val (pe_callB call_isd rfl T.isinstance bt_isinstance (pa_cons (pe_dget hu (pv 0) (pv 3) (fun _ _ => rfl)) (pa_cons (pe_bltn (v := .ty "dict") rfl T.dict bt_dict rfl) pa_nil))))
        (pss_cons (ps_expr (pe_bm PySem.F.plainAttrs_list PySem.F.slot_list_append PySem.F.type_list_append mt_append (pv 2) (pa_cons (pe_op op_add_str (pe_op op_mulS pe_str (pv 1)) (pv 3)) pa_nil)))
        (pss_one (ps_set (i := 2) nd rfl (Or.inl rfl) (pe_op op_cat (pv 2) (pe_c clines_of_tree hr (by omega) rfl (pa_cons (pe_dget hu (pv 0) (pv 3) (fun _ _ => rfl)) (pa_cons (pe_op op_add (pv 1) pe_int) pa_nil)))))))
        (pss_one (ps_expr (pe_bm PySem.F.plainAttrs_list PySem.F.slot_list_append PySem.F.type_list_append mt_append (pv 2) (pa_cons (pe_op op_add_str (pe_op op_add_str (pe_op op_add_str (pe_op op_mulS pe_str (pv 1)) (pv 3)) pe_str) (pe_dget hu (pv 0) (pv 3) (fun _ _ => rfl))) pa_nil)))))))
    (pss_one (ps_ret (pv 2))))), ?_⟩
  obtain ⟨p, kvs, rfl, hp, hk⟩ := ht.open nt
  obtain ⟨ks, kn, ke, km⟩ := hk.keys
  have kH := hk.mono (unp_same H p)
  refine ⟨(by show 0 ≤ sizeLine; decide), fun L0 hL0 => ?_⟩
  have hpL : p ≠ L0 := ne_of_none hp hL0
  refine ⟨_, rfl, p, kvs, ks.map Nm.s, rfl, .inl (by rw [upd_ne hpL]; exact hp), (by rw [ke, List.map_map]; rfl), ?_, ?_⟩
  · rw [List.length_map]
    exact Nat.lt_of_le_of_lt (nms_len kn) (by decide)
  intro ys S hperm hsort hS
  obtain rfl := sorted_names kn hperm hsort
  have hS0 : H S = none := by
    by_cases z : S = L0
    · rw [z]; exact hL0
    · rw [upd_ne z] at hS; exact hS
  have hSL : S ≠ L0 := fun z => by rw [z, upd_same] at hS; cases hS
  have em : ((asc ks).map Nm.s).map V.str = (asc ks).map fun n => V.str n.s := by rw [List.map_map]; rfl
  rw [em]
  let g : Nm → List Ln := fun n => (t.kid n).lin d n
  have tot : (asc ks).flatMap g = lins t d := flat_asc fun n hn => by
    have : t.kid n = .no := by
      cases z : t.kid n with
      | no => rfl
      | lf l => exact absurd ((km n).mpr (by rw [z]; intro z'; cases z')) hn
      | nd a b c d e => exact absurd ((km n).mpr (by rw [z]; intro z'; cases z')) hn
    show (t.kid n).lin d n = []
    rw [this]
    rfl
  have lim : (lins t d).length ≤ 180 := lins_len (k := 2) (by omega) nt d
  refine ⟨S, rfl, ⟨_, SqL.of upd_same⟩, ?_⟩
  refine for_list (xs := (asc ks).map fun n => V.str n.s) (fun i σ H1 => ∃ L x, σ = [some (.ref p), some (.int d), some (.ref L), x] ∧ Same H H1 ∧ H L = none ∧ L ≠ S ∧ H1 S = some (.lst ((asc ks).map fun n => V.str n.s)) ∧
    H1 L = some (.lst (((asc ks).take i).flatMap g |>.map fun l => V.str l.s))) ?_ ?_ ?_ ?_
  · refine ⟨L0, _, rfl, (same_new hL0 _).trans (same_new hS _), hL0, hSL.symm, upd_same, ?_⟩
    rw [upd_ne hSL.symm, upd_same]
    rfl
  · rintro i σ H1 _ ⟨L, x, rfl, s1, _, _, eS, _⟩
    exact SqL.of eS
  · rintro i x σ H1 hx ⟨L, x0, rfl, s1, hL, hLS, eS, eL⟩
    obtain ⟨n, hin, rfl⟩ := name_at hx
    have hno : t.kid n ≠ .no := (km n).mp (mem_asc.mp (List.mem_of_getElem? hin))
    obtain ⟨v2, ev, tv⟩ := kH.get hno
    have gd : ∀ {H2 : Hp}, Same H H2 → DGet H2 p (.str n.s) (some v2) := fun g2 => .inl ⟨kvs, n.k, .inl (g2 _ _ hp), rfl, ev.symm⟩
    have gnx : ((asc ks).take (i + 1)).flatMap g = ((asc ks).take i).flatMap g ++ g n := flat_next hin
    have lim1 : (((asc ks).take (i + 1)).flatMap g).length ≤ 180 := Nat.le_trans (flat_take _) (by rw [tot]; exact lim)
    have lim0 : (((asc ks).take i).flatMap g).length ≤ 180 := Nat.le_trans (flat_take _) (by rw [tot]; exact lim)
    have rl : (rep (Str.ofString "  ") d).length = d * 2 := by rw [rep_len, sp_len]
    have hnL : ∀ b o, H b = some o → b ≠ L := fun b o e => ne_of_none e hL
    refine ⟨_, rfl, _, rfl, p, v2, rfl, gd s1, _, rfl, .non, t.kid n, .inl rfl, .inr (tv.mono s1), _, rfl, ?_⟩
    refine ite2 (fun c => ?_) (fun c => ?_)
    · -- a dict
      refine ⟨_, rfl, .inl ⟨rfl, _, SqL.of eL⟩, ?_⟩
      refine ⟨_, rfl, _, _, rfl, rfl, (by omega), (by rw [sp_len]; decide), (by rw [sp_len]; decide), ?_⟩
      refine ⟨_, rfl, _, _, rfl, rfl, small (by rw [rl, s_len]; omega), ?_⟩
      refine ⟨L, _, _, rfl, rfl, eL, (by rw [List.length_map]; exact small1000 (by omega)), ?_⟩
      have s2 : Same H (upd H1 L (.lst ((((asc ks).take i).flatMap g |>.map fun l => V.str l.s) ++ [V.str (rep (Str.ofString "  ") d ++ n.s)]))) := fun b o e => by rw [upd_ne (hnL b o e)]; exact s1 b o e
      refine ⟨_, rfl, _, rfl, _, rfl, p, v2, rfl, gd s2, _, rfl, _, _, rfl, rfl, ?_⟩
      have nk : (t.kid n).isNd = true := c
      have dk := dep_kid_lt nt n
      refine ⟨t.kid n, v2, d + 1, rfl, nk, tv.mono s2, (by omega), (by omega), (by omega), fun r H3 s3 _ e3 => ?_⟩
      refine ⟨L, r, _, _, rfl, rfl, s3 _ _ upd_same, e3, ?_, fun q' hq' => ?_⟩
      · have lk := lins_len (k := 2) (t := t.kid n) (by omega) nk (d + 1)
        simp only [List.length_append, List.length_map, List.length_singleton]
        exact small (by omega)
      · refine ⟨q', _, rfl, (s2.trans s3).trans (same_new hq' _), ?_, ?_, ?_, ?_⟩
        · exact (s2.trans s3).free hq'
        · intro z
          have := s3 S _ (by rw [upd_ne hLS.symm]; exact eS)
          rw [← z, hq'] at this
          cases this
        · have := s3 S _ (by rw [upd_ne hLS.symm]; exact eS)
          rw [upd_ne (ne_of_none this hq')]
          exact this
        · rw [upd_same, gnx, List.map_append]
          show _ = some (HO.lst (_ ++ List.map _ ((t.kid n).lin d n)))
          rw [lin_nd nk, List.map_cons, List.append_assoc]
          rfl
    · -- a text
      obtain ⟨l, hl, rfl⟩ : ∃ l, t.kid n = .lf l ∧ v2 = .str l.s := by
        rcases tv.cases with ⟨l, h1, h2⟩ | ⟨nk, _⟩
        · exact ⟨l, h1, h2⟩
        · exact absurd nk c
      refine ⟨_, rfl, .inl ⟨rfl, _, SqL.of eL⟩, ?_⟩
      refine ⟨_, rfl, _, _, rfl, rfl, (by omega), (by rw [sp_len]; decide), (by rw [sp_len]; decide), ?_⟩
      refine ⟨_, rfl, _, _, rfl, rfl, small (by rw [rl, s_len]; omega), ?_⟩
      refine ⟨_, _, rfl, rfl, small (by rw [str_len_app, rl, s_len, eq_len]; omega), ?_⟩
      refine ⟨_, rfl, _, rfl, p, _, rfl, gd s1, ?_⟩
      have ll := l_len l
      refine ⟨_, _, rfl, rfl, small (by rw [str_len_app, str_len_app, rl, s_len, eq_len]; omega), ?_⟩
      refine ⟨L, _, _, rfl, rfl, eL, (by rw [List.length_map]; exact small1000 (by omega)), ?_⟩
      refine ⟨L, _, rfl, fun b o e => by rw [upd_ne (hnL b o e)]; exact s1 b o e, hL, hLS, by rw [upd_ne hLS.symm]; exact eS, ?_⟩
      rw [upd_same, gnx, List.map_append]
      show _ = some (HO.lst (_ ++ List.map _ ((t.kid n).lin d n)))
      rw [hl]
      rfl
  · rintro σ H1 ⟨L, x, rfl, s1, hL, _, eS, eL⟩
    refine ⟨_, rfl, q L H1 s1 hL ?_⟩
    rw [List.length_map, List.take_length, tot] at eL
    exact eL
end
end Qw

-- QwD11
namespace Qw
open PySem PySem.Spec PyProof.Rows L2
open C8 (Cal pe_c)

-- [(0, 'part'), (1, 'name')]
def N_copied : List Str := ["part", "name"]
theorem sc_copied : FnScope N_copied ["part"] (defScope (topS 11)) := ⟨rfl, rfl, rfl, by decide +kernel, rfl, by decide +kernel, by decide +kernel⟩
section
variable {P : Program} {w : World} {K : PySem.W.Frag} {mg : Str → Option Value} {base : Heap} {f : Addr} {fd : FuncData}
theorem ok_copied {j k : Nat} (F : Fun K "_copied" "_copied" (topS 11) f fd) (T : Tx mg) (c_copied : Cal P w K mg base j "_copied" (spCopiedN k) []) : FnOk P w K mg base CX0 (j + 1) f fd ["part"] (spCopiedN (k + 1)) := by
  refine F.ok sc_copied (fun vs H Q E h => ?_) (fun cdv A outer s H vs Q E hr h => ?_)
  · obtain ⟨t, v, rfl, _⟩ := h
    rfl
  have nd := sc_copied.nd
  have hu := hu_of hr
  have hu64 := hr.units
  obtain ⟨t, v, rfl, ht, hd, q⟩ := h
  refine ⟨_, (pss_cons (ps_if (pt_not (pt_val (pe_callB call_isd rfl T.isinstance bt_isinstance (pa_cons (pv 0) (pa_cons (pe_bltn (v := .ty "dict") rfl T.dict bt_dict rfl) pa_nil)))))
      (pss_one (ps_ret (pv 0)))
      pss_nil)
    (pss_one (ps_ret (pe_lock (pe_dc (own := [("name", 1)]) (g := gName 1) (tt := tYes) rfl nd (pi_keys (pv 0)) (blkOk_by (own := [("name", 1)]) (N := N_copied) (sc := defScope (topS 11)) (by decide +kernel)) (fun _ _ _ _ _ => pg_name (i := 1) nd rfl (Or.inl rfl)) (fun _ _ _ _ _ => pts_nil) (fun _ _ _ _ _ => (pv 1)) (fun _ _ _ _ _ => (pe_c c_copied hr (by omega) rfl (pa_cons (pe_dget hu (pv 0) (pv 1) (fun _ _ => rfl)) pa_nil)))))))), ?_⟩
  refine ⟨_, rfl, _, rfl, _, t, .inl rfl, ht, _, rfl, ?_⟩
  refine ite2 (fun c => ?_) (fun c => ?_)
  · -- no dict: the part itself
    refine ⟨_, rfl, q v H (Same.refl H) ?_⟩
    rcases ht with h | h
    · exact .inl h
    · rcases h.cases with ⟨l, rfl, rfl⟩ | ⟨nt, _⟩
      · exact .inr rfl
      · rw [nt] at c; cases c
  have nt : t.isNd = true := by
    cases z : t.isNd with
    | true => rfl
    | false => rw [z] at c; exact absurd rfl c
  obtain ⟨p, kvs, rfl, hp, hk⟩ := (ht.tv fun z => by rw [z] at nt; cases nt).open nt
  obtain ⟨ks, kn, ke, km⟩ := hk.keys
  have hp0 : ∀ b, H b = none → b ≠ p := fun b hb => (ne_of_none hp hb).symm
  refine ⟨p, _, hp, trivial, fun od => ?_⟩
  have hlen : kvs.length = ks.length := by
    have := congrArg List.length ke
    simpa using this
  refine ⟨_, rfl, p, od, rfl, .inl ⟨kvs, upd_same, fun D hD => ?_⟩⟩
  have hDp : D ≠ p := fun z => by rw [z, upd_same] at hD; cases hD
  have hD0 : H D = none := by rw [upd_ne hDp] at hD; exact hD
  refine dc_keys (fun i H1 => H1 p = some (.frz od (.dK kvs)) ∧ Same (unp H p) H1 ∧ ∃ ks', H1 D = some (.dK ks') ∧ Kv (unp (ov nil H H1) D) ks' fun m => if m ∈ ks.take i then t.kid m else .no) ?_ (fun i H1 h => h.1) ?_ ?_
  · refine ⟨?_, ?_, [], upd_same, (kv_start _ _ _ _).cong fun n => by simp⟩
    · rw [upd_ne hDp.symm, upd_same]
    · intro b o e
      have hb : b ≠ p := fun z => by rw [z, unp_at] at e; cases e
      rw [unp_ne hb] at e
      rw [upd_ne (ne_of_none e hD0), upd_ne hb]
      exact e
  · rintro i k1 v1 H1 hi ⟨l1, s1, ks', e1, kv1⟩
    obtain ⟨n, hin, rfl⟩ := key_at ke hi
    obtain ⟨hnew, hmem⟩ := take_mem kn hin
    have hno : t.kid n ≠ .no := (km n).mp (List.mem_of_getElem? hin)
    obtain ⟨v2, ev, tv⟩ := hk.get hno
    refine ⟨rfl, yes_of ?_⟩
    refine iteT ?_
    refine ⟨_, rfl, _, rfl, _, rfl, p, v2, rfl, .inl ⟨kvs, n.k, .inr ⟨_, l1⟩, rfl, ev.symm⟩, ?_⟩
    refine ⟨t.kid n, v2, rfl, .inr (tv.mono s1), by have := dep_kid_lt nt n; omega, fun v3 H2 g2 tv3 => ?_⟩
    refine ⟨ks', n.k, rfl, g2 _ _ e1, kv1.len_lt, ?_, ?_, _, upd_same, ?_⟩
    · rw [upd_ne hDp.symm]; exact g2 _ _ l1
    · intro b o e
      have hb : b ≠ D := fun z => by
        rw [z] at e
        have := unp_same _ _ _ _ e
        rw [hD0] at this
        cases this
      rw [upd_ne hb]
      exact g2 _ _ (s1 _ _ e)
    · have dom : ∀ b o, H b = some o → ∃ o', H1 b = some o' := fun b o e => by
        by_cases hb : b = p
        · rw [hb]; exact ⟨_, l1⟩
        · exact ⟨_, s1 b o (by rw [unp_ne hb]; exact e)⟩
      refine (kv_add kv1 (nil_same _) hD0 ⟨_, e1⟩ dom (fun b o _ e => g2 b o e) n ((tv3.tv hno).mono ov_nil) _).cong fun m => ?_
      by_cases hm : m = n
      · subst hm
        rw [if_pos rfl, if_pos ((hmem m).mpr (.inl rfl))]
      · rw [if_neg hm]
        by_cases hm2 : m ∈ ks.take i
        · rw [if_pos hm2, if_pos ((hmem m).mpr (.inr hm2))]
        · rw [if_neg hm2, if_neg fun z => ((hmem m).mp z).elim hm hm2]
  · rintro H1 ⟨l1, s1, ks', e1, kv1⟩
    refine ⟨l1, q (.ref D) _ ?_ (.inr ?_)⟩
    · intro b o e
      by_cases hb : b = p
      · rw [hb] at e ⊢; rw [hp] at e; rw [upd_same]; exact e
      · rw [upd_ne hb]; exact s1 b o (by rw [unp_ne hb]; exact e)
    · rw [ov_cong (H2 := H1) fun b hb => upd_ne (hp0 b hb)]
      have kf := kv_fin kv1 hD0 e1
      have e : Qw.T.mk (fun m => if m ∈ ks.take kvs.length then t.kid m else .no) = t := by
        refine mk_of nt fun n => ?_
        rw [hlen, List.take_length]
        split
        · rfl
        · rename_i h
          cases z : t.kid n with
          | no => rfl
          | lf l => exact absurd ((km n).mpr (by rw [z]; intro z'; cases z')) h
          | nd a b c d e => exact absurd ((km n).mpr (by rw [z]; intro z'; cases z')) h
      rw [e] at kf
      exact kf
end
end Qw

-- QwD12
namespace Qw
open PySem PySem.Spec PyProof.Rows L2
open C8 (Cal pe_c)

-- [(0, 'base'), (1, 'one'), (2, 'other'), (3, 'way')]
def N_merged_part : List Str := ["base", "one", "other", "way"]
theorem sc_merged_part : FnScope N_merged_part ["base", "one", "other", "way"] (defScope (topS 12)) := ⟨rfl, rfl, rfl, by decide +kernel, rfl, by decide +kernel, by decide +kernel⟩
section
variable {P : Program} {w : World} {K : PySem.W.Frag} {mg : Str → Option Value} {base : Heap} {f : Addr} {fd : FuncData}
theorem ok_merged_part {j k : Nat} (F : Fun K "_merged_part" "_merged_part" (topS 12) f fd) (T : Tx mg) (hj : 4 ≤ j) (c_copied : Cal P w K mg base 4 "_copied" (spCopiedN 4) []) (c_merged : Cal P w K mg base j "_merged" (spMerged K k) []) : FnOk P w K mg base CX0 (j + 1) f fd ["base", "one", "other", "way"] (spPart K (k + 1)) := by
  refine F.ok sc_merged_part (fun vs H Q E h => ?_) (fun cdv A outer s H vs Q E hr h => ?_)
  · obtain ⟨b, o, t, vb, vo, vt, wp, w', rfl, _⟩ := h
    rfl
  have nd := sc_merged_part.nd
  have hu := hu_of hr
  have hu64 := hr.units
  obtain ⟨b, o, t, vb, vo, vt, wp, w', rfl, hb, ho, ht, hw, do', db, dt, h4, hwl, q⟩ := h
  refine ⟨_, (pss_cons (ps_if (PW.pt (pw_or (pt_cmpR (op_eqT hu64) (pv 1) (pv 2) (nomark _)) (pw_or1 (pt_cmpR (op_eqT hu64) (pv 2) (pv 0) (nomark _)))))
      (pss_one (ps_ret (pe_tup (pa_cons (pe_c c_copied hr (by omega) rfl (pa_cons (pv 1) pa_nil)) (pa_cons (pe_lst pa_nil) pa_nil)))))
      pss_nil)
    (pss_cons (ps_if (pt_cmpR (op_eqT hu64) (pv 1) (pv 0) (nomark _))
      (pss_one (ps_ret (pe_tup (pa_cons (pe_c c_copied hr (by omega) rfl (pa_cons (pv 2) pa_nil)) (pa_cons (pe_lst pa_nil) pa_nil)))))
      pss_nil)
    (pss_cons (ps_if (PW.pt (pw_and (pt_val (pe_callB call_isd rfl T.isinstance bt_isinstance (pa_cons (pv 1) (pa_cons (pe_bltn (v := .ty "dict") rfl T.dict bt_dict rfl) pa_nil)))) (pw_and1 (pt_val (pe_callB call_isd rfl T.isinstance bt_isinstance (pa_cons (pv 2) (pa_cons (pe_bltn (v := .ty "dict") rfl T.dict bt_dict rfl) pa_nil)))))))
      (pss_one (ps_ret (pe_c c_merged hr (by omega) rfl (pa_cons (pe_ifExp (pt_val (pe_callB call_isd rfl T.isinstance bt_isinstance (pa_cons (pv 0) (pa_cons (pe_bltn (v := .ty "dict") rfl T.dict bt_dict rfl) pa_nil)))) (pv 0) pe_dnewK) (pa_cons (pv 1) (pa_cons (pv 2) (pa_cons (pv 3) pa_nil)))))))
      pss_nil)
    (pss_one (ps_ret (pe_tup (pa_cons pe_non (pa_cons (pe_lst (pa_cons (pv 3) pa_nil)) pa_nil)))))))), ?_⟩
  rw [mrgp_eq] at q
  have nn : Nv V.non := .inl rfl
  have fin : ∀ (u : Qw.T) (x : V) (H1 : Hp) (qq : Addr), TVn .non (ov nil H H1) u x → Same H H1 → H1 qq = none → (∀ p q x us H', Same H H' → H' p = some (.tup [x, .ref q]) → TVn .non (ov nil H H') u x → H' q = some (.lst us) → ClV H' [] us → Q (.ref p) H') →
      ∀ p, upd H1 qq (.lst []) p = none → Q (.ref p) (upd (upd H1 qq (.lst [])) p (.tup [x, .ref qq])) := fun u x H1 qq hx g1 hq q p hp => by
    have g2 := (same_new hq (.lst [])).trans (same_new hp (.tup [x, .ref qq]))
    refine q p qq x [] _ (g1.trans g2) upd_same (hx.mono (ov_mono g2)) ?_ .nil
    rw [upd_ne (ne_of_none upd_same hp), upd_same]
  have one : o = t ∨ t = b → ∃ v' , v' = vo ∧ ∃ H', H' = H ∧ spCopiedN 4 [vo] H (fun x H1 => (0 : Nat) ≤ sizeLine ∧ ∀ qq, H1 qq = none → 2 ≤ sizeLine ∧ ∀ p, upd H1 qq (.lst []) p = none → Q (.ref p) (upd (upd H1 qq (.lst [])) p (.tup [x, .ref qq]))) C8.E0 := fun c => by
    rw [if_pos c] at q
    exact ⟨_, rfl, _, rfl, o, vo, rfl, ho, by omega, fun v' H1 s1 tv => ⟨by decide, fun qq hq => ⟨by decide, fin o v' H1 qq tv s1 hq q⟩⟩⟩
  refine ⟨_, rfl, _, rfl, .non, o, t, nn, ho, ht, by omega, _, rfl, ?_⟩
  refine ite2 (fun c1 => ?_) (fun c1 => ?_)
  · refine iteT ?_
    obtain ⟨_, rfl, _, rfl, r⟩ := one (.inl (of_decide_eq_true c1))
    exact ⟨_, rfl, r⟩
  refine ⟨_, rfl, _, rfl, .non, t, b, nn, ht, hb, by omega, _, rfl, ?_⟩
  refine ite2 (fun c2 => ?_) (fun c2 => ?_)
  · obtain ⟨_, rfl, _, rfl, r⟩ := one (.inr (of_decide_eq_true c2))
    exact ⟨_, rfl, r⟩
  have n1 : ¬ (o = t ∨ t = b) := fun z => z.elim (fun e => c1 (decide_eq_true e)) fun e => c2 (decide_eq_true e)
  rw [if_neg n1] at q
  refine ⟨_, rfl, _, rfl, .non, o, b, nn, ho, hb, by omega, _, rfl, ?_⟩
  refine ite2 (fun c3 => ?_) (fun c3 => ?_)
  · rw [if_pos (of_decide_eq_true c3)] at q
    exact ⟨_, rfl, t, vt, rfl, ht, by omega, fun v' H1 s1 tv => ⟨by decide, fun qq hq => ⟨(by show 2 ≤ sizeLine; decide), fin t v' H1 qq tv s1 hq q⟩⟩⟩
  rw [if_neg fun z => c3 (decide_eq_true z)] at q
  have clash : ¬ (o.isNd = true ∧ t.isNd = true) → (1 : Nat) ≤ sizeLine ∧ ∀ qq, H qq = none → 2 ≤ sizeLine ∧ ∀ p, upd H qq (.lst [.ref wp]) p = none → Q (.ref p) (upd (upd H qq (.lst [.ref wp])) p (.tup [.non, .ref qq])) := fun c => by
    rw [if_neg c] at q
    refine ⟨by decide, fun qq hq => ⟨by decide, fun p hp => ?_⟩⟩
    have g2 := (same_new hq (.lst [.ref wp])).trans (same_new hp (.tup [.non, .ref qq]))
    refine q p qq .non [.ref wp] _ g2 upd_same (.inl ⟨rfl, rfl⟩) ?_ (.cons ⟨wp, rfl, g2 _ _ hw⟩ .nil)
    rw [upd_ne (ne_of_none upd_same hp), upd_same]
  refine ⟨_, rfl, _, rfl, .non, o, nn, ho, _, rfl, ?_⟩
  refine ite2 (fun c4 => ?_) (fun c4 => ?_)
  · refine ⟨_, rfl, _, rfl, .non, t, nn, ht, _, rfl, ?_⟩
    refine ite2 (fun c5 => ?_) (fun c5 => ?_)
    · rw [if_pos ⟨c4, c5⟩] at q
      have d1 := dep_pos c4
      have tvo := ho.tv fun z => by rw [z] at c4; cases c4
      have tvt := ht.tv fun z => by rw [z] at c5; cases c5
      refine ⟨_, rfl, _, rfl, .non, b, nn, hb, _, rfl, ?_⟩
      refine ite2 (fun c6 => ?_) (fun c6 => ?_)
      · have tvb := hb.tv fun z => by rw [z] at c6; cases c6
        refine ⟨_, rfl, _, rfl, _, rfl, _, rfl, b, o, t, vb, vo, vt, wp, w', rfl, tvb, tvo, tvt, c6, c4, c5, .of hw, by omega, by omega, by omega, by omega, by omega, fun p qq r us H' s1 e1 tr e2 cl => ?_⟩
        exact q p qq _ us H' s1 e1 (.inr tr) e2 cl
      · have c6' : b.isNd = false := by simpa using c6
        intro D hD
        have g1 := same_new hD (.dK [])
        refine ⟨_, rfl, _, rfl, _, rfl, Qw.T.emp, o, t, .ref D, vo, vt, wp, w', rfl, emp_tv upd_same, tvo.mono g1, tvt.mono g1, rfl, c4, c5, .of (g1 _ _ hw), by omega, (by show 1 ≤ k; omega), by omega, by omega, by omega, fun p qq r us H' s1 e1 tr e2 cl => ?_⟩
        rw [mrgd_emp o t w' c6'] at tr cl
        exact q p qq _ us H' (g1.trans s1) e1 (.inr (tr.mono (ov_shift g1))) e2 cl
    · refine ⟨_, rfl, clash fun z => c5 z.2⟩
  · refine ⟨_, rfl, clash fun z => c4 z.1⟩
end
end Qw

-- QwD13
namespace Qw
open PySem PySem.Spec PyProof.Rows L2
open C8 (Cal pe_c)

-- [(0, 'base'), (1, 'one'), (2, 'other'), (3, 'way'), (4, 'found'), (5, 'clashes'), (6, 'name'), (7, 'part'), (8, 'more')]
def N_merged : List Str := ["base", "one", "other", "way", "found", "clashes", "name", "part", "more"]
theorem sc_merged : FnScope N_merged ["base", "one", "other", "way"] (defScope (topS 13)) := ⟨rfl, rfl, rfl, by decide +kernel, rfl, by decide +kernel, by decide +kernel⟩
section
variable {P : Program} {w : World} {K : PySem.W.Frag} {mg : Str → Option Value} {base : Heap} {f : Addr} {fd : FuncData}
theorem ok_merged {j k : Nat} (F : Fun K "_merged" "_merged" (topS 13) f fd) (T : Tx mg) (c_merged_part : Cal P w K mg base j "_merged_part" (spPart K k) []) : FnOk P w K mg base CX0 (j + 1) f fd ["base", "one", "other", "way"] (spMerged K k) := by
  refine F.ok sc_merged (fun vs H Q E h => ?_) (fun cdv A outer s H vs Q E hr h => ?_)
  · obtain ⟨b, o, t, vb, vo, vt, wp, w', rfl, _⟩ := h
    rfl
  have nd := sc_merged.nd
  have hu := hu_of hr
  have hu64 := hr.units
  obtain ⟨b, o, t, vb, vo, vt, wp, w', rfl, hb, ho, ht, nb, no, nt, hw, do', db, dt, h4, hwl, q⟩ := h
  refine ⟨_, (pss_cons (ps_set (i := 4) nd rfl (Or.inl rfl) pe_dnewK)
    (pss_cons (ps_set (i := 5) nd rfl (Or.inl rfl) (pe_lst pa_nil))
    (pss_cons (ps_for PassesOwn.never rfl (pi_list (pe_callB cr_sortedS rfl T.sorted bt_sorted (pa_cons (pe_callTy (call_listD rfl) rfl T.list bt_list (pa_cons (pe_star2 (pv 1) (pv 2)) pa_nil)) pa_nil))) (pg_name (i := 6) nd rfl (Or.inl rfl))
      (pss_cons (ps_asg (pe_c c_merged_part hr (by omega) rfl (pa_cons (pe_dget1 hu (pv 0) (pv 6) ⟨rfl, rfl, rfl, rfl⟩) (pa_cons (pe_dget1 hu (pv 1) (pv 6) ⟨rfl, rfl, rfl, rfl⟩) (pa_cons (pe_dget1 hu (pv 2) (pv 6) ⟨rfl, rfl, rfl, rfl⟩) (pa_cons (pe_op op_catA (pv 3) (pe_tup (pa_cons (pv 6) pa_nil))) pa_nil))))) (pg_tup rfl (pgs_cons (pg_name (i := 7) nd rfl (Or.inl rfl)) (pgs_cons (pg_name (i := 8) nd rfl (Or.inl rfl)) pgs_nil))))
      (pss_cons (ps_set (i := 5) nd rfl (Or.inl rfl) (pe_op op_cat (pv 5) (pv 8)))
      (pss_one (ps_if (pt_cmpR op_notN (pv 7) pe_non (nomark _))
        (pss_one (ps_dput hu (pv 4) (pv 6) (pv 7) rfl))
        pss_nil)))))
    (pss_one (ps_ret (pe_tup (pa_cons (pv 4) (pa_cons (pv 5) pa_nil)))))))), ?_⟩
  obtain ⟨pb, kb, rfl, ebh, Kb⟩ := (TV_nd nb).mp hb
  obtain ⟨po, ko, rfl, eoh, Ko⟩ := (TV_nd no).mp ho
  obtain ⟨pt', kt, rfl, eth, Kt⟩ := (TV_nd nt).mp ht
  intro F0 hF
  refine ⟨by decide, fun C0 hC => ?_⟩
  have g1 := (same_new hF (.dK [])).trans (same_new hC (.lst []))
  have hF0C : C0 ≠ F0 := fun z => by rw [z, upd_same] at hC; cases hC
  have hC0 : H C0 = none := (same_new hF (.dK [])).free hC
  have eF : upd (upd H F0 (.dK [])) C0 (.lst []) F0 = some (.dK []) := by rw [upd_ne hF0C.symm, upd_same]
  have eC : upd (upd H F0 (.dK [])) C0 (.lst []) C0 = some (.lst []) := upd_same
  generalize upd (upd H F0 (.dK [])) C0 (.lst []) = H2 at g1 eF eC
  intro D hD
  have gD := same_new hD (.dK [])
  have nD : ∀ {a : Addr} {u : HO}, H a = some u → a ≠ D := fun e => ne_of_none (g1 _ _ e) hD
  refine ⟨_, rfl, po, ko, rfl, nD eoh, .inl (gD _ _ (g1 _ _ eoh)), by have := Ko.len; omega, upd_same, ?_⟩
  refine ⟨_, rfl, pt', kt, rfl, nD eth, .inl (by rw [upd_ne (nD eth), upd_ne (nD eth)]; exact g1 _ _ eth), upd_same, by have := Kt.len; omega, ?_⟩
  obtain ⟨ok1, mem1⟩ := mergeK_keys ko [] (Kv.nil H).1 Ko.1.2
  obtain ⟨ok2, mem2⟩ := mergeK_keys kt _ ok1 Kt.1.2
  obtain ⟨us, un, ue, um⟩ := keys_of ok2
  have umem : ∀ n, n ∈ us ↔ o.kid n ≠ .no ∨ t.kid n ≠ .no := fun n => by
    rw [um, mem2, mem1, kv_mem Ko, kv_mem Kt]
    simp
  have eDD : upd (upd (upd H2 D (.dK [])) D (.dK (mergeK [] ko))) D (.dK (mergeK (mergeK [] ko) kt)) D = some (.dK (mergeK (mergeK [] ko) kt)) := upd_same
  have g3 : Same H2 (upd (upd (upd H2 D (.dK [])) D (.dK (mergeK [] ko))) D (.dK (mergeK (mergeK [] ko) kt))) := fun b' u e => by
    have hb' := ne_of_none e hD
    rw [upd_ne hb', upd_ne hb', upd_ne hb']
    exact e
  generalize upd (upd (upd H2 D (.dK [])) D (.dK (mergeK [] ko))) D (.dK (mergeK (mergeK [] ko) kt)) = H3 at g3 eDD
  refine ⟨D, _, rfl, .inl eDD, fun L hL => ?_⟩
  have g4 := same_new hL (.lst ((mergeK (mergeK [] ko) kt).map fun kv => kV kv.1))
  have eLL : ((mergeK (mergeK [] ko) kt).map fun kv => kV kv.1) = (us.map Nm.s).map V.str := by
    have e1 : ((mergeK (mergeK [] ko) kt).map fun kv => kV kv.1) = ((mergeK (mergeK [] ko) kt).map (·.1)).map kV := by rw [List.map_map]; rfl
    rw [e1, ue, List.map_map, List.map_map]
    rfl
  rw [eLL] at g4 ⊢
  refine ⟨L, us.map Nm.s, rfl, .of upd_same, ?_, fun ys S hperm hsort hS => ?_⟩
  · rw [List.length_map]
    exact Nat.lt_of_le_of_lt (nms_len un) (by decide)
  obtain rfl := sorted_names un hperm hsort
  have em : ((asc us).map Nm.s).map V.str = (asc us).map fun n => V.str n.s := by rw [List.map_map]; rfl
  rw [em]
  have g5 := same_new hS (.lst ((asc us).map fun n => V.str n.s))
  have gA : Same H (upd (upd H3 L (.lst ((us.map Nm.s).map V.str))) S (.lst ((asc us).map fun n => V.str n.s))) := g1.trans (g3.trans (g4.trans g5))
  have eF' := g5 _ _ (g4 _ _ (g3 _ _ eF))
  have eC' := g5 _ _ (g4 _ _ (g3 _ _ eC))
  have eS' : upd (upd H3 L (.lst ((us.map Nm.s).map V.str))) S (.lst ((asc us).map fun n => V.str n.s)) S = some (.lst ((asc us).map fun n => V.str n.s)) := upd_same
  have hSC : C0 ≠ S := ne_of_none (g4 _ _ (g3 _ _ eC)) hS
  generalize upd (upd H3 L (.lst ((us.map Nm.s).map V.str))) S (.lst ((asc us).map fun n => V.str n.s)) = H5 at gA eF' eC' eS'
  have g : ∀ n, (mrgk o b t w' n).2.length ≤ 625 := fun n => mrgk_len (k := 4) b t w' n (by omega)
  have tot : (asc us).flatMap (fun n => (mrgk o b t w' n).2) = (mrgd o b t w').2 := flat_asc fun n hn => by
    have z1 : o.kid n = .no := Classical.byContradiction fun z => hn ((umem n).mpr (.inl z))
    have z2 : t.kid n = .no := Classical.byContradiction fun z => hn ((umem n).mpr (.inr z))
    rw [mrgk, z1, z2, mrgp_no]
  have lim : ((mrgd o b t w').2).length ≤ 3125 := by
    have e1 := g .a
    have e2 := g .b
    have e3 := g .c
    have e4 := g .d
    have e5 := g .e
    simp only [mrgd_snd, names, List.flatMap_cons, List.flatMap_nil, List.length_append, List.length_nil]
    omega
  refine ⟨S, rfl, ⟨_, SqL.of eS'⟩, ?_⟩
  refine for_list (xs := (asc us).map fun n => V.str n.s) (fun i σ H1 => ∃ C x1 x2 x3 fk vs, σ = [some (.ref pb), some (.ref po), some (.ref pt'), some (.ref wp), some (.ref F0), some (.ref C), x1, x2, x3] ∧ Same H H1 ∧ H1 S = some (.lst ((asc us).map fun n => V.str n.s)) ∧
    H1 F0 = some (.dK fk) ∧ Kv (unp (ov nil H H1) F0) fk (fun m => if m ∈ (asc us).take i then (mrgk o b t w' m).1 else .no) ∧ H1 C = some (.lst vs) ∧ ClV H1 (((asc us).take i).flatMap fun n => (mrgk o b t w' n).2) vs) ?_ ?_ ?_ ?_
  · exact ⟨C0, _, _, _, [], [], rfl, gA, eS', eF', (kv_start _ _ _ _).cong fun n => by simp, eC', .nil⟩
  · rintro i σ H1 _ ⟨C, x1, x2, x3, fk, vs, rfl, s1, eS, _⟩
    exact SqL.of eS
  · rintro i x σ H1 hx ⟨C, x1, x2, x3, fk, vs, rfl, s1, eS, eF, KF, eC, cl⟩
    obtain ⟨n, hin, rfl⟩ := name_at hx
    obtain ⟨hnew, hmem⟩ := take_mem (asc_nodup us) hin
    have gnx : ((asc us).take (i + 1)).flatMap (fun n => (mrgk o b t w' n).2) = ((asc us).take i).flatMap (fun n => (mrgk o b t w' n).2) ++ (mrgk o b t w' n).2 := flat_next hin
    have lim1 : (((asc us).take (i + 1)).flatMap fun n => (mrgk o b t w' n).2).length ≤ 3125 := Nat.le_trans (flat_take _) (by rw [tot]; exact lim)
    have gdo : ∀ {p : Addr} {kvs : List (Key × V)}, H p = some (.dK kvs) → DGet H1 p (.str n.s) (valV kvs n.k) := fun e => .inl ⟨_, n.k, .inl (s1 _ _ e), rfl, rfl⟩
    have isd : ∀ {p : Addr} {kvs : List (Key × V)}, H p = some (.dK kvs) → IsD H1 p := fun e => .inl ⟨_, .inl (s1 _ _ e)⟩
    refine ⟨_, rfl, pb, rfl, isd ebh, _, rfl, _, gdo ebh, ?_⟩
    refine ⟨_, rfl, po, rfl, isd eoh, _, rfl, _, gdo eoh, ?_⟩
    refine ⟨_, rfl, pt', rfl, isd eth, _, rfl, _, gdo eth, ?_⟩
    refine ⟨_, rfl, _, rfl, (by show 1 ≤ sizeLine; decide), fun p1 hp1 => ?_⟩
    have g6 := same_new hp1 (.tup [.str n.s])
    refine way_cat (w := w') (Qw.SqT.mono g6 (Qw.SqT.mono s1 hw)) upd_same (by omega) fun wp' H4 g7 ew => ?_
    have s4 : Same H H4 := s1.trans (g6.trans g7)
    have kdo := dep_kid_lt no n
    have kdb := dep_kid_lt nb n
    have kdt := dep_kid_lt nt n
    refine ⟨b.kid n, o.kid n, t.kid n, _, _, _, wp', w' ++ [n], rfl, (kv_getD (Kb.mono s4) n .non), (kv_getD (Ko.mono s4) n .non), (kv_getD (Kt.mono s4) n .non), ew, by omega, by omega, by omega, h4, (by rw [List.length_append, List.length_singleton]; omega), fun p qq x us' H6 g8 e1 tv e2 cl2 => ?_⟩
    have s6 : Same H1 H6 := (g6.trans g7).trans g8
    refine ⟨p, _, rfl, SqT.of e1, rfl, ?_⟩
    refine ⟨_, _, rfl, _, _, rfl, rfl, ?_⟩
    have lv := cl.len
    have lu := cl2.len
    rw [gnx, List.length_append] at lim1
    refine ⟨_, rfl, _, rfl, C, qq, vs, us', rfl, rfl, s6 _ _ eC, e2, (by rw [lv, lu, sizeLine_eq]; show _ + (mrgk o b t w' n).2.length ≤ _; omega), fun C' hC' => ?_⟩
    have g9 := same_new hC' (.lst (vs ++ us'))
    have s7 : Same H1 (upd H6 C' (.lst (vs ++ us'))) := s6.trans g9
    have clN : ClV (upd H6 C' (.lst (vs ++ us'))) (((asc us).take (i + 1)).flatMap fun n => (mrgk o b t w' n).2) (vs ++ us') := by
      rw [gnx]
      exact (cl.mono s7).app (cl2.mono g9)
    have eCN : upd H6 C' (.lst (vs ++ us')) C' = some (.lst (vs ++ us')) := upd_same
    have tvN : TVn .non (ov nil H4 (upd H6 C' (.lst (vs ++ us')))) (mrgk o b t w' n).1 x := tv.mono (ov_mono g9)
    generalize upd H6 C' (.lst (vs ++ us')) = H7 at s7 clN eCN tvN g9
    have sA : Same H H7 := s1.trans s7
    have eF7 := s7 _ _ eF
    have hCF : C' ≠ F0 := fun z => by rw [z, eF7] at eCN; cases eCN
    refine ⟨_, rfl, rfl, _, rfl, ?_⟩
    refine ite2 (fun c => ?_) (fun c => ?_)
    · -- there
      have xno : x ≠ .non := fun z => by rw [z] at c; exact absurd c (by decide)
      have tno : (mrgk o b t w' n).1 ≠ .no := fun z => xno (by rw [z] at tvN; exact tvN.no)
      refine ⟨_, rfl, _, rfl, _, rfl, F0, _, rfl, DPut.k (k := n.k) eF7 KF.len_lt, ?_⟩
      have hF7 : ∀ b' u, H b' = some u → b' ≠ F0 := fun b' u e => ne_of_none e hF
      refine ⟨C', _, _, _, _, vs ++ us', rfl, fun b' u e => by rw [upd_ne (hF7 b' u e)]; exact sA b' u e, ?_, upd_same, ?_, ?_, ?_⟩
      · have hSF : S ≠ F0 := fun z => by rw [z, eF] at eS; cases eS
        rw [upd_ne hSF]; exact s7 _ _ eS
      · have tv2 : TV (unp (ov nil H H7) F0) (mrgk o b t w' n).1 x := (tvN.tv tno).mono fun b' u e => by
          cases z : H4 b' with
          | some u' => rw [ov_old z] at e; cases e
          | none =>
            rw [ov_new z] at e
            have hb' : b' ≠ F0 := fun y => by
              have := (g6.trans g7) _ _ eF
              rw [← y, z] at this
              cases this
            rw [unp_ne hb', ov_new (s4.free z)]
            exact e
        have kv2 := kv_stay KF (H2 := upd H7 F0 (.dK (putK fk n.k x))) fun b' u hb' h0 e => by rw [upd_ne hb']; exact s7 _ _ e
        refine (Kv.put kv2 n (tv2.mono (ov_keep fun b' u hb' _ e => by rw [upd_ne hb']; exact e))).cong fun m => ?_
        by_cases hm : m = n
        · subst hm
          rw [if_pos rfl, if_pos ((hmem m).mpr (.inl rfl))]
        · rw [if_neg hm]
          by_cases hm2 : m ∈ (asc us).take i
          · rw [if_pos hm2, if_pos ((hmem m).mpr (.inr hm2))]
          · rw [if_neg hm2, if_neg fun z => ((hmem m).mp z).elim hm hm2]
      · rw [upd_ne hCF]; exact eCN
      · refine L2.Paired.mapP clN fun w2 v2 ⟨p2, h1, h2⟩ => ⟨p2, h1, ?_⟩
        have : p2 ≠ F0 := fun z => by rw [z, eF7] at h2; cases h2
        rw [upd_ne this]; exact h2
    · -- not there
      have xno : x = .non := by
        refine Classical.byContradiction fun z => c ?_
        rw [decide_eq_false z]; rfl
      have tno : (mrgk o b t w' n).1 = .no := by
        rcases tvN with ⟨z, _⟩ | z
        · exact z
        · rw [xno] at z
          rcases z.cases with ⟨l, _, e⟩ | ⟨_, a, kv, e, _⟩ <;> cases e
      refine ⟨C', _, _, _, fk, _, rfl, sA, s7 _ _ eS, eF7, (kv_stay KF fun b' u _ _ e => s7 _ _ e).cong fun m => ?_, eCN, clN⟩
      by_cases hm : m = n
      · subst hm
        rw [if_neg hnew, if_pos ((hmem m).mpr (.inl rfl)), tno]
      · by_cases hm2 : m ∈ (asc us).take i
        · rw [if_pos hm2, if_pos ((hmem m).mpr (.inr hm2))]
        · rw [if_neg hm2, if_neg fun z => ((hmem m).mp z).elim hm hm2]
  · rintro σ H1 ⟨C, x1, x2, x3, fk, vs, rfl, s1, eS, eF, KF, eC, cl⟩
    rw [List.length_map, List.take_length] at KF cl
    rw [tot] at cl
    refine ⟨_, rfl, _, rfl, (by show 2 ≤ sizeLine; decide), fun p hp => ?_⟩
    have gz := same_new hp (.tup [.ref F0, .ref C])
    refine q p C F0 vs _ (s1.trans gz) upd_same ?_ (gz _ _ eC) (cl.mono gz)
    have kf := (kv_fin KF hF eF).mono (ov_mono gz)
    have e : Qw.T.mk (fun m => if m ∈ asc us then (mrgk o b t w' m).1 else .no) = (mrgd o b t w').1 := by
      rw [mrgd_fst]
      refine mk_ext fun n => ?_
      split
      · rfl
      · rename_i h
        have z1 : o.kid n = .no := Classical.byContradiction fun z => h (mem_asc.mpr ((umem n).mpr (.inl z)))
        have z2 : t.kid n = .no := Classical.byContradiction fun z => h (mem_asc.mpr ((umem n).mpr (.inr z)))
        rw [mrgk, z1, z2, mrgp_no]
    rw [e] at kf
    exact kf
end
end Qw

-- QwD14
namespace Qw
open PySem PySem.Spec PyProof.Rows L2
open C8 (Cal pe_c)

-- [(0, 'base'), (1, 'one'), (2, 'other'), (3, 'found'), (4, 'clashes')]
def Nmerged_trees : List Str := ["base", "one", "other", "found", "clashes"]
theorem scmerged_trees : FnScope Nmerged_trees ["base", "one", "other"] (defScope (topS 14)) := ⟨rfl, rfl, rfl, by decide +kernel, rfl, by decide +kernel, by decide +kernel⟩
section
variable {P : Program} {w : World} {K : PySem.W.Frag} {mg : Str → Option Value} {base : Heap} {f : Addr} {fd : FuncData}
theorem okmerged_trees {j : Nat} (F : Fun K "merged_trees" "merged_trees" (topS 14) f fd) (T : Tx mg) (c_merged : Cal P w K mg base j "_merged" (spMerged K 3) []) : FnOk P w K mg base CX0 (j + 1) f fd ["base", "one", "other"] spTrees := by
  refine F.ok scmerged_trees (fun vs H Q E h => ?_) (fun cdv A outer s H vs Q E hr h => ?_)
  · obtain ⟨b, o, t, vb, vo, vt, rfl, _⟩ := h
    rfl
  have nd := scmerged_trees.nd
  have hu := hu_of hr
  have hu64 := hr.units
  obtain ⟨b, o, t, vb, vo, vt, rfl, hb, ho, ht, nb, no, nt, do', db, dt, q⟩ := h
  refine ⟨_, (pss_cons (ps_asg (pe_c c_merged hr (by omega) rfl (pa_cons (pv 0) (pa_cons (pv 1) (pa_cons (pv 2) (pa_cons (pe_tup pa_nil) pa_nil))))) (pg_tup rfl (pgs_cons (pg_name (i := 3) nd rfl (Or.inl rfl)) (pgs_cons (pg_name (i := 4) nd rfl (Or.inl rfl)) pgs_nil))))
    (pss_one (ps_ret (pe_ifExp (pt_cmpR op_gt (pe_callB call_len_seq rfl T.len bt_len (pa_cons (pv 4) pa_nil)) pe_int (nomark _)) (pe_tup (pa_cons pe_str (pa_cons (pv 4) pa_nil))) (pe_tup (pa_cons pe_str (pa_cons (pv 3) pa_nil))))))), ?_⟩
  refine ⟨_, rfl, _, rfl, _, rfl, (by show 0 ≤ sizeLine; decide), fun w0 hw0 => ?_⟩
  have g1 := same_new hw0 (.tup [])
  refine ⟨b, o, t, vb, vo, vt, w0, [], rfl, hb.mono g1, ho.mono g1, ht.mono g1, nb, no, nt, .of upd_same, do', db, dt, by decide, by decide, fun p qq r us H' s1 e1 tr e2 cl => ?_⟩
  refine ⟨p, _, rfl, SqT.of e1, rfl, ?_⟩
  refine ⟨_, _, rfl, _, _, rfl, rfl, ?_⟩
  refine ⟨_, rfl, qq, us, rfl, .inl (SqL.of e2), _, _, rfl, rfl, _, rfl, ?_⟩
  have lu := cl.len
  have sH := g1.trans s1
  refine ite2 (fun c => ?_) (fun c => ?_)
  · have c' : (mrgd o b t []).2 ≠ [] := fun z => by
      rw [z] at lu
      have h2 : ((0 : Int) < ((us.length : Nat) : Int)) := of_decide_eq_true c
      simp only [List.length_nil] at lu
      omega
    refine ⟨_, rfl, (by show 2 ≤ sizeLine; decide), fun x hx => ?_⟩
    have g2 := same_new hx (.tup [.str (Str.ofString "clash"), .ref qq])
    exact q x _ (sH.trans g2) (.inr ⟨c', qq, us, upd_same, g2 _ _ e2, cl.mono g2⟩)
  · have c' : (mrgd o b t []).2 = [] := by
      cases z : (mrgd o b t []).2 with
      | nil => rfl
      | cons y r =>
        rw [z] at lu
        refine absurd ?_ c
        refine decide_eq_true ?_
        simp only [List.length_cons] at lu
        show (0 : Int) < ((us.length : Nat) : Int)
        omega
    refine ⟨_, rfl, (by show 2 ≤ sizeLine; decide), fun x hx => ?_⟩
    have g2 := same_new hx (.tup [.str (Str.ofString "tree"), .ref r])
    exact q x _ (sH.trans g2) (.inl ⟨c', .ref r, upd_same, (tr.mono (ov_same (nil_same _) s1)).mono g2⟩)
end
end Qw

-- QwD15
namespace Qw
open PySem PySem.Spec PyProof.Rows L2
open C8 (Cal pe_c)

-- [(0, 'base'), (1, 'one'), (2, 'other'), (3, 'kind'), (4, 'found')]
def Nmerged_lines : List Str := ["base", "one", "other", "kind", "found"]
theorem scmerged_lines : FnScope Nmerged_lines ["base", "one", "other"] (defScope (topS 15)) := ⟨rfl, rfl, rfl, by decide +kernel, rfl, by decide +kernel, by decide +kernel⟩
section
variable {P : Program} {w : World} {K : PySem.W.Frag} {mg : Str → Option Value} {base : Heap} {f : Addr} {fd : FuncData}
theorem okmerged_lines {j : Nat} (F : Fun K "merged_lines" "merged_lines" (topS 15) f fd) (T : Tx mg) (clines_of_tree : Cal P w K mg base j "lines_of_tree" (spLines 3) []) (cmerged_trees : Cal P w K mg base j "merged_trees" spTrees []) (ctree_of : Cal P w K mg base j "tree_of" spTreeOf []) : FnOk P w K mg base CX0 (j + 1) f fd ["base", "one", "other"] spMLines := by
  refine F.ok scmerged_lines (fun vs H Q E h => ?_) (fun cdv A outer s H vs Q E hr h => ?_)
  · obtain ⟨b, o, t, pb, po, pt', rfl, _⟩ := h
    rfl
  have nd := scmerged_lines.nd
  have hu := hu_of hr
  have hu64 := hr.units
  obtain ⟨b, o, t, pb, po, pt', rfl, eb, eo, et, nb, no, nt, do', db, dt, q⟩ := h
  refine ⟨_, (pss_cons (ps_asg (pe_c cmerged_trees hr (by omega) rfl (pa_cons (pe_c ctree_of hr (by omega) rfl (pa_cons (pv 0) pa_nil)) (pa_cons (pe_c ctree_of hr (by omega) rfl (pa_cons (pv 1) pa_nil)) (pa_cons (pe_c ctree_of hr (by omega) rfl (pa_cons (pv 2) pa_nil)) pa_nil)))) (pg_tup rfl (pgs_cons (pg_name (i := 3) nd rfl (Or.inl rfl)) (pgs_cons (pg_name (i := 4) nd rfl (Or.inl rfl)) pgs_nil))))
    (pss_one (ps_ret (pe_ifExp (pt_cmpR op_eq (pv 3) pe_str (nomark _)) (pe_tup (pa_cons (pv 3) (pa_cons (pv 4) pa_nil))) (pe_tup (pa_cons pe_str (pa_cons (pe_c clines_of_tree hr (by omega) rfl (pa_cons (pv 4) (pa_cons pe_int pa_nil))) pa_nil))))))), ?_⟩
  refine ⟨_, rfl, pb, b, rfl, eb, nb, db, fun rb H1 s1 tb => ?_⟩
  refine ⟨_, rfl, po, o, rfl, s1 _ _ eo, no, do', fun ro H2 s2 to => ?_⟩
  refine ⟨_, rfl, pt', t, rfl, s2 _ _ (s1 _ _ et), nt, dt, fun rt H3 s3 tt => ?_⟩
  refine ⟨b, o, t, _, _, _, rfl, (tb.mono s2).mono s3, to.mono s3, tt, nb, no, nt, do', db, dt, fun r H4 s4 told => ?_⟩
  have sA := s1.trans (s2.trans (s3.trans s4))
  rcases told with ⟨c, x, e1, tv⟩ | ⟨c, qq, vs, e1, e2, cl⟩
  · refine ⟨r, _, rfl, SqT.of e1, rfl, ?_⟩
    refine ⟨_, _, rfl, _, _, rfl, rfl, ?_⟩
    refine ⟨_, rfl, rfl, _, rfl, ?_⟩
    rw [show decide (V.str "tree" = V.str (Str.ofString "clash")) = false from by decide]
    refine iteF ?_
    refine ⟨_, rfl, (mrgd o b t []).1, x, 0, rfl, (by rfl), tv, mrgd_dep [] do' dt no nt, by decide, by have := mrgd_dep (k := 2) (b := b) [] do' dt no nt; omega, fun p H5 s5 _ e5 => ?_⟩
    refine ⟨(by show 2 ≤ sizeLine; decide), fun x2 hx => ?_⟩
    have g2 := same_new hx (.tup [.str (Str.ofString "lines"), .ref p])
    exact q x2 _ ((sA.trans s5).trans g2) (.inl ⟨c, p, upd_same, g2 _ _ e5⟩)
  · refine ⟨r, _, rfl, SqT.of e1, rfl, ?_⟩
    refine ⟨_, _, rfl, _, _, rfl, rfl, ?_⟩
    refine ⟨_, rfl, rfl, _, rfl, ?_⟩
    rw [show decide (V.str "clash" = V.str (Str.ofString "clash")) = true from by decide]
    refine iteT ?_
    refine ⟨_, rfl, _, rfl, (by show 2 ≤ sizeLine; decide), fun x2 hx => ?_⟩
    have g2 := same_new hx (.tup [.str "clash", .ref qq])
    exact q x2 _ (sA.trans g2) (.inr ⟨c, qq, vs, upd_same, g2 _ _ e2, cl.mono g2⟩)
end
end Qw

-- QwD17
namespace Qw
open PySem PySem.Spec PyProof.Rows L2
open C8 (Cal pe_c)

theorem int_at {ns : List Int} {i : Nat} {x : V} (e : (ns.map V.int)[i]? = some x) : ∃ n, ns[i]? = some n ∧ x = .int n := by
  rw [List.getElem?_map] at e
  cases z : ns[i]? with
  | none => rw [z] at e; cases e
  | some n => rw [z] at e; exact ⟨n, rfl, (Option.some.inj e).symm⟩
theorem seed_mul {m : Int} (h0 : 0 ≤ m) (h1 : m < 1000003) : CMulW m 37 := wide_mul (a := 20) (b := 6) (by omega) (by decide) (by decide) (by decide) (by decide)
-- [(0, '_law_script'), (1, '_law_seed'), (2, '_law_cell')]
def N_law_state : List Str := ["_law_script", "_law_seed", "_law_cell"]
theorem sc_law_state : FnScope N_law_state ["_law_script"] (defScope (topS 17)) := ⟨rfl, rfl, rfl, by decide +kernel, rfl, by decide +kernel, by decide +kernel⟩
section
variable {P : Program} {w : World} {K : PySem.W.Frag} {mg : Str → Option Value} {base : Heap} {f : Addr} {fd : FuncData}
theorem ok_law_state (F : Fun K "_law_state" "_law_state" (topS 17) f fd) (T : Tx mg)  : FnOk P w K mg base CX0 1 f fd ["_law_script"] (spState K) := by
  refine F.ok sc_law_state (fun vs H Q E h => ?_) (fun cdv A outer s H vs Q E hr h => ?_)
  · obtain ⟨a, ns, rfl, _⟩ := h
    rfl
  have nd := sc_law_state.nd
  have hu := hu_of hr
  have hu64 := hr.units
  obtain ⟨a, ns, rfl, ha, hl, q⟩ := h
  refine ⟨_, (pss_cons (ps_set (i := 1) nd rfl (Or.inl rfl) pe_int)
    (pss_cons (ps_for PassesOwn.never rfl (pi_list (pv 0)) (pg_name (i := 2) nd rfl (Or.inl rfl))
      (pss_one (ps_set (i := 1) nd rfl (Or.inl rfl) (pe_op op_mod (pe_callTy call_int1 rfl T.int bt_int (pa_cons (pe_op op_add (pe_op op_mulW (pv 1) pe_int) (pv 2)) pa_nil)) pe_int))))
    (pss_one (ps_ret (pe_lst (pa_cons (pe_lc (own := [("_law_cell", 2)]) (g := gName 2) (tt := tYes) rfl nd (pi_list (pv 0)) (blkOk_by (own := [("_law_cell", 2)]) (N := N_law_state) (sc := defScope (topS 17)) (by decide +kernel)) (fun _ _ _ _ _ => pg_name (i := 2) nd rfl (Or.inl rfl)) (fun _ _ _ _ _ => pts_nil) (fun _ _ _ _ _ => (pe_callB call_abs rfl T.abs bt_abs (pa_cons (pv 2) pa_nil)))) (pa_cons (pe_op op_add (pv 1) pe_int) pa_nil))))))), ?_⟩
  refine ⟨_, rfl, a, rfl, ⟨_, ha⟩, ?_⟩
  refine for_list (xs := ns.map V.int) (fun i σ H1 => H1 = H ∧ ∃ m x, σ = [some (.ref a), some (.int m), x] ∧ 0 ≤ m ∧ m < 1000003) ⟨rfl, 11, _, rfl, by decide, by decide⟩ (fun i σ H1 _ h => by rw [h.1]; exact ha) ?_ ?_
  · rintro i x σ H1 hx ⟨rfl, m, x0, rfl, h0, h1⟩
    obtain ⟨n, _, rfl⟩ := int_at hx
    refine ⟨_, rfl, _, _, rfl, rfl, seed_mul h0 h1, _, rfl, _, _, rfl, rfl, .inl ⟨_, rfl, ?_⟩⟩
    refine ⟨_, _, rfl, rfl, (by show (0 : Int) < 1000003; decide), rfl, _, _, rfl, ?_, ?_⟩
    · exact Int.emod_nonneg _ (by decide)
    · exact Int.emod_lt_of_pos _ (by decide)
  · rintro σ H1 ⟨rfl, m, x, rfl, h0, h1⟩
    refine ⟨_, rfl, a, rfl, ⟨_, ha⟩, fun D hD => ?_⟩
    refine lc_list (xs := ns.map V.int) (fun i H2 => Same H1 H2 ∧ H2 D = some (.lst (((ns.take i).map fun n => if n < 0 then -n else n).map V.int))) ⟨same_new hD _, upd_same⟩ (fun i H2 _ h => h.1.seq ha) ?_ ?_
    · rintro i x2 H2 hx ⟨s2, e2⟩
      obtain ⟨n, hn, rfl⟩ := int_at hx
      refine ⟨rfl, yes_of ?_⟩
      refine iteT ?_
      refine ⟨_, rfl, _, rfl, _, e2, ?_, ?_, ?_⟩
      · rw [List.length_map, List.length_map, List.length_take]
        exact small1000 (by omega)
      · intro b o e
        rw [upd_ne (ne_of_none e hD)]
        exact s2 b o e
      · rw [upd_same, List.take_add_one, hn, List.map_append, List.map_append]
        rfl
    · rintro H2 ⟨s2, e2⟩
      refine ⟨_, rfl, _, _, rfl, rfl, (by show 2 ≤ sizeLine; decide), fun S hS => ?_⟩
      have g := same_new hS (.lst [.ref D, .int (m + 1)])
      refine q S D _ (s2.trans g) ⟨m + 1, _, upd_same, g _ _ e2, ?_, by omega, by omega⟩
      rw [List.length_map, List.length_take]
      omega
end
end Qw

-- QwD18
namespace Qw
open PySem PySem.Spec PyProof.Rows L2
open C8 (Cal pe_c)

theorem ixN_zero {n : Nat} (h : 0 < n) : ixN n 0 = some 0 := by
  unfold ixN
  rw [if_pos (by decide), if_pos (by omega)]
  rfl
-- [(0, '_law_state_here'), (1, '_law_many'), (2, '_law_cells'), (3, '_law_k'), (4, '_law_amount'), (5, '_law_mixed')]
def N_law_draw : List Str := ["_law_state_here", "_law_many", "_law_cells", "_law_k", "_law_amount", "_law_mixed"]
theorem sc_law_draw : FnScope N_law_draw ["_law_state_here", "_law_many"] (defScope (topS 18)) := ⟨rfl, rfl, rfl, by decide +kernel, rfl, by decide +kernel, by decide +kernel⟩
section
variable {P : Program} {w : World} {K : PySem.W.Frag} {mg : Str → Option Value} {base : Heap} {f : Addr} {fd : FuncData}
theorem ok_law_draw (F : Fun K "_law_draw" "_law_draw" (topS 18) f fd) (T : Tx mg)  : FnOk P w K mg base CX0 1 f fd ["_law_state_here", "_law_many"] spDraw := by
  refine F.ok sc_law_draw (fun vs H Q E h => ?_) (fun cdv A outer s H vs Q E hr h => ?_)
  · obtain ⟨S, C, many, rfl, _⟩ := h
    rfl
  have nd := sc_law_draw.nd
  have hu := hu_of hr
  have hu64 := hr.units
  obtain ⟨S, C, many, rfl, m1, m6, st, q⟩ := h
  refine ⟨_, (pss_cons (ps_if (pt_cmpR op_lt (pv 1) pe_int (nomark _))
      (pss_one (ps_ret pe_int))
      pss_nil)
    (pss_cons (ps_set (i := 2) nd rfl (Or.inl rfl) (pe_ix ix_list (pv 0) pe_int (fun _ _ => rfl)))
    (pss_cons (ps_for PassesOwn.never rfl (pi_range1 rfl T.range (pa_cons (pe_callB call_len_seq rfl T.len bt_len (pa_cons (pv 2) pa_nil)) pa_nil)) (pg_name (i := 3) nd rfl (Or.inl rfl))
      (pss_one (ps_if (PW.pt (pw_and (pt_cmpR op_eq (pe_ix ix_list (pv 2) pe_int (fun _ _ => rfl)) pe_int (nomark _)) (pw_and1 (pt_cmpR op_gt (pe_callB call_len_seq rfl T.len bt_len (pa_cons (pv 2) pa_nil)) pe_int (nomark _)))))
        (pss_one (ps_expr (pe_bm PySem.F.plainAttrs_list PySem.F.slot_list_pop PySem.F.type_list_pop mt_popAt (pv 2) (pa_cons pe_int pa_nil))))
        pss_nil)))
    (pss_cons (ps_if (PW.pt (pw_and (pt_cmpR op_gt (pe_callB call_len_seq rfl T.len bt_len (pa_cons (pv 2) pa_nil)) pe_int (nomark _)) (pw_and1 (pt_cmpR op_gt (pe_ix ix_list (pv 2) pe_int (fun _ _ => rfl)) pe_int (nomark _)))))
      (pss_cons (ps_set (i := 4) nd rfl (Or.inl rfl) (pe_ix ix_list (pv 2) pe_int (fun _ _ => rfl)))
      (pss_cons (ps_asg (pe_op op_fdiv (pv 4) (pv 1)) (pg_sub (pv 2) pe_int set_list))
      (pss_one (ps_ret (pe_op op_mod (pe_callTy call_int1 rfl T.int bt_int (pa_cons (pv 4) pa_nil)) (pv 1))))))
      pss_nil)
    (pss_cons (ps_set (i := 5) nd rfl (Or.inl rfl) (pe_op op_mod (pe_callTy call_int1 rfl T.int bt_int (pa_cons (pe_op op_add (pe_op op_mul (pe_ix ix_list (pv 0) pe_int (fun _ _ => rfl)) pe_int) pe_int) pa_nil)) pe_int))
    (pss_cons (ps_asg (pv 5) (pg_sub (pv 0) pe_int set_list))
    (pss_one (ps_ret (pe_op op_mod (pe_callTy call_int1 rfl T.int bt_int (pa_cons (pe_op op_fdiv (pv 5) pe_int) pa_nil)) (pv 1)))))))))), ?_⟩
  have hSC := st.ne
  obtain ⟨m, ns, eS, eC, hl, h0, h1⟩ := st
  refine ⟨_, rfl, _, _, rfl, rfl, _, rfl, ?_⟩
  refine ite2 (fun c => absurd (of_decide_eq_true c) (by omega)) (fun _ => ?_)
  refine ⟨_, rfl, S, _, _, _, rfl, rfl, SqL.of eS, atI_nat (j := 0) rfl, ?_⟩
  refine ⟨_, rfl, C, _, rfl, .inl (SqL.of eC), _, rfl, by rw [List.length_map]; omega, by rw [List.length_map]; omega, ?_⟩
  refine for_range (lo := 0) (fun i σ H1 => ∃ ns' x, σ = [some (.ref S), some (.int many), some (.ref C), x, none, none] ∧ Off S C H H1 ∧ H1 S = some (.lst [.ref C, .int m]) ∧ H1 C = some (.lst (ns'.map V.int)) ∧ ns'.length ≤ 63 ∧ (ns ≠ [] → ns' ≠ []))
    ⟨ns, _, rfl, Off.refl _ _ _, eS, eC, hl, id⟩ ?_ ?_
  · rintro i σ H1 hi ⟨ns', x, rfl, of1, eS1, eC1, hl1, hne⟩
    have hns : ns ≠ [] := fun z => by rw [z] at hi; exact absurd hi (Nat.not_lt_zero i)
    cases ns' with
    | nil => exact absurd rfl (hne hns)
    | cons n r =>
      refine ⟨_, rfl, C, _, _, _, rfl, rfl, SqL.of eC1, atI_nat (j := 0) rfl, rfl, _, rfl, ?_⟩
      refine ite2 (fun c => ?_) (fun c => ?_)
      · refine ⟨_, rfl, C, _, rfl, .inl (SqL.of eC1), _, _, rfl, rfl, _, rfl, ?_⟩
        refine ite2 (fun c2 => ?_) (fun c2 => ?_)
        · have c3 : (1 : Int) < ((((n :: r).map V.int).length : Nat) : Int) := of_decide_eq_true c2
          rw [List.length_map, List.length_cons] at c3
          refine ⟨_, rfl, .inl ⟨rfl, _, SqL.of eC1⟩, C, _, 0, 0, .int n, rfl, rfl, eC1, by decide, by decide, ?_, rfl, ?_⟩
          · show (if (decide (0 ≤ (if (0 : Int) < 0 then (0 : Int) + _ else 0)) && decide ((if (0 : Int) < 0 then (0 : Int) + _ else 0) < ((((n :: r).map V.int).length : Nat) : Int))) = true then some _ else none) = some 0
            rw [List.length_map, List.length_cons, if_neg (by decide : ¬ (0 : Int) < 0), decide_eq_true (by decide : (0 : Int) ≤ 0), decide_eq_true (by omega : (0 : Int) < ((r.length + 1 : Nat) : Int))]
            rfl
          · refine ⟨r, _, rfl, ?_, ?_, ?_, ?_, fun _ => ?_⟩
            · intro b o hb1 hb2 e
              rw [upd_ne hb2]
              exact of1 b o hb1 hb2 e
            · rw [upd_ne hSC]; exact eS1
            · rw [upd_same]; rfl
            · simp only [List.length_cons] at hl1; omega
            · rintro rfl
              simp at c3
        · exact ⟨n :: r, _, rfl, of1, eS1, eC1, hl1, hne⟩
      · refine iteF ?_
        exact ⟨n :: r, _, rfl, of1, eS1, eC1, hl1, hne⟩
  · rintro σ H1 ⟨ns', x, rfl, of1, eS1, eC1, hl1, hne⟩
    have low : ∀ (r : Int) H', 0 ≤ r → r < many → St2 H' S C → Off S C H1 H' → Q (.int r) H' := fun r H' a b c d => q r H' a b c (of1.trans d)
    refine ⟨_, rfl, C, _, rfl, .inl (SqL.of eC1), _, _, rfl, rfl, _, rfl, ?_⟩
    refine ite2 (fun c => ?_) (fun c => ?_)
    · cases ns' with
      | nil => exact absurd (of_decide_eq_true c) (by decide)
      | cons n r =>
        refine ⟨_, rfl, C, _, _, _, rfl, rfl, SqL.of eC1, atI_nat (j := 0) rfl, _, _, rfl, rfl, _, rfl, ?_⟩
        refine ite2 (fun c2 => ?_) (fun c2 => ?_)
        · refine ⟨_, rfl, C, _, _, _, rfl, rfl, SqL.of eC1, atI_nat (j := 0) rfl, ?_⟩
          refine ⟨_, rfl, _, rfl, _, _, rfl, rfl, ⟨by omega, by omega⟩, ?_⟩
          refine ⟨_, rfl, C, _, _, 0, rfl, rfl, eC1, ixN_zero (by simp), ?_⟩
          refine ⟨_, rfl, .inl ⟨_, rfl, _, rfl, _, _, rfl, rfl, (by show 0 < many; omega), ?_⟩⟩
          refine low _ _ (Int.emod_nonneg _ (by omega)) (Int.emod_lt_of_pos _ (by omega)) ⟨m, (n / many) :: r, ?_, ?_, ?_, h0, h1⟩ ?_
          · rw [upd_ne hSC]; exact eS1
          · rw [upd_same]; rfl
          · exact hl1
          · intro b o hb1 hb2 e
            rw [upd_ne hb2]
            exact e
        · refine ⟨_, rfl, S, _, _, _, rfl, rfl, SqL.of eS1, atI_nat (j := 1) rfl, _, _, rfl, rfl, .inl ⟨by omega, by omega⟩, _, _, rfl, rfl, .inl ⟨_, rfl, _, _, rfl, rfl, (by show (0 : Int) < 2147483647; decide), ?_⟩⟩
          have x0 := Int.emod_nonneg (m * 48271 + 12345) (by decide : (2147483647 : Int) ≠ 0)
          have x1 := Int.emod_lt_of_pos (m * 48271 + 12345) (by decide : (0 : Int) < 2147483647)
          refine ⟨_, rfl, _, rfl, S, _, _, 1, rfl, rfl, eS1, rfl, ?_⟩
          refine ⟨_, rfl, _, _, rfl, rfl, ⟨by decide, by decide⟩, .inl ⟨_, rfl, _, rfl, _, _, rfl, rfl, (by show 0 < many; omega), ?_⟩⟩
          refine low _ _ (Int.emod_nonneg _ (by omega)) (Int.emod_lt_of_pos _ (by omega)) ⟨(m * 48271 + 12345) % 2147483647, n :: r, ?_, ?_, hl1, x0, by omega⟩ ?_
          · rw [upd_same]; rfl
          · rw [upd_ne hSC.symm]; exact eC1
          · intro b o hb1 hb2 e
            rw [upd_ne hb1]
            exact e
    · refine iteF ?_
      refine ⟨_, rfl, S, _, _, _, rfl, rfl, SqL.of eS1, atI_nat (j := 1) rfl, _, _, rfl, rfl, .inl ⟨by omega, by omega⟩, _, _, rfl, rfl, .inl ⟨_, rfl, _, _, rfl, rfl, (by show (0 : Int) < 2147483647; decide), ?_⟩⟩
      have x0 := Int.emod_nonneg (m * 48271 + 12345) (by decide : (2147483647 : Int) ≠ 0)
      have x1 := Int.emod_lt_of_pos (m * 48271 + 12345) (by decide : (0 : Int) < 2147483647)
      refine ⟨_, rfl, _, rfl, S, _, _, 1, rfl, rfl, eS1, rfl, ?_⟩
      refine ⟨_, rfl, _, _, rfl, rfl, ⟨by decide, by decide⟩, .inl ⟨_, rfl, _, rfl, _, _, rfl, rfl, (by show 0 < many; omega), ?_⟩⟩
      refine low _ _ (Int.emod_nonneg _ (by omega)) (Int.emod_lt_of_pos _ (by omega)) ⟨(m * 48271 + 12345) % 2147483647, ns', ?_, ?_, hl1, x0, by omega⟩ ?_
      · rw [upd_same]; rfl
      · rw [upd_ne hSC.symm]; exact eC1
      · intro b o hb1 hb2 e
        rw [upd_ne hb1]
        exact e
end
end Qw

-- QwD19
namespace Qw
open PySem PySem.Spec PyProof.Rows L2
open C8 (Cal pe_c)

-- [(0, '_law_state_here'), (1, '_law_deep'), (2, '_law_tree_here'), (3, '_law_k'), (4, '_law_name')]
def N_law_tree : List Str := ["_law_state_here", "_law_deep", "_law_tree_here", "_law_k", "_law_name"]
theorem sc_law_tree : FnScope N_law_tree ["_law_state_here", "_law_deep"] (defScope (topS 19)) := ⟨rfl, rfl, rfl, by decide +kernel, rfl, by decide +kernel, by decide +kernel⟩
section
variable {P : Program} {w : World} {K : PySem.W.Frag} {mg : Str → Option Value} {base : Heap} {f : Addr} {fd : FuncData}
theorem ok_law_tree {j k : Nat} (hj : 1 ≤ j) (F : Fun K "_law_tree" "_law_tree" (topS 19) f fd) (T : Tx mg) (c_law_draw : Cal P w K mg base 1 "_law_draw" spDraw []) (c_law_tree : Cal P w K mg base j "_law_tree" (spTree k) []) : FnOk P w K mg base CX0 (j + 1) f fd ["_law_state_here", "_law_deep"] (spTree (k + 1)) := by
  refine F.ok sc_law_tree (fun vs H Q E h => ?_) (fun cdv A outer s H vs Q E hr h => ?_)
  · obtain ⟨S, C, d, rfl, _⟩ := h
    rfl
  have nd := sc_law_tree.nd
  have hu := hu_of hr
  have hu64 := hr.units
  obtain ⟨S, C, d, rfl, dk, d2, st, q⟩ := h
  refine ⟨_, (pss_cons (ps_set (i := 2) nd rfl (Or.inl rfl) pe_dnewK)
    (pss_cons (ps_for PassesOwn.never rfl (pi_range1 rfl T.range (pa_cons (pe_c c_law_draw hr (by omega) rfl (pa_cons (pv 0) (pa_cons pe_int pa_nil))) pa_nil)) (pg_name (i := 3) nd rfl (Or.inl rfl))
      (pss_cons (ps_set (i := 4) nd rfl (Or.inl rfl) (pe_ix ix_list (pe_lst (pa_cons pe_str (pa_cons pe_str (pa_cons pe_str (pa_cons pe_str pa_nil))))) (pe_c c_law_draw hr (by omega) rfl (pa_cons (pv 0) (pa_cons pe_int pa_nil))) (fun _ _ => rfl)))
      (pss_one (ps_if (PW.pt (pw_and (pt_cmpR op_gt (pv 1) pe_int (nomark _)) (pw_and1 (pt_cmpR op_eq (pe_c c_law_draw hr (by omega) rfl (pa_cons (pv 0) (pa_cons pe_int pa_nil))) pe_int (nomark _)))))
        (pss_one (ps_dput hu (pv 2) (pv 4) (pe_c c_law_tree hr (by omega) rfl (pa_cons (pv 0) (pa_cons (pe_op op_sub (pv 1) pe_int) pa_nil))) rfl))
        (pss_one (ps_dput hu (pv 2) (pv 4) (pe_ix ix_list (pe_lst (pa_cons pe_str (pa_cons pe_str (pa_cons pe_str pa_nil)))) (pe_c c_law_draw hr (by omega) rfl (pa_cons (pv 0) (pa_cons pe_int pa_nil))) (fun _ _ => rfl)) rfl))))))
    (pss_one (ps_ret (pv 2))))), ?_⟩
  intro D hD
  have hDs := st.new hD
  have sA := same_new hD (.dK [])
  refine ⟨_, rfl, S, C, 4, rfl, by decide, by decide, st.mono sA, fun r0 H1 r00 r01 st1 of1 => ⟨r0, rfl, by omega, by omega, ?_⟩⟩
  have eD1 : H1 D = some (.dK []) := of1.at (st.mono sA) upd_same fun _ z => nomatch z
  refine for_range (lo := 0) (fun i σ H2 => ∃ x y ks f, σ = [some (.ref S), some (.int d), some (.ref D), x, y] ∧ Off S C H H2 ∧ St2 H2 S C ∧ H2 D = some (.dK ks) ∧ Kv (unp (ov nil H H2) D) ks f ∧ ∀ n, (f n).dep ≤ d)
    ⟨_, _, [], _, rfl, (Same.off sA S C).trans of1, st1, eD1, kv_start _ _ _ _, fun _ => Nat.zero_le _⟩ ?_ ?_
  · rintro i σ H2 _ ⟨x, y, ks, f', rfl, of2, st2, e2, k2, dp⟩
    refine ⟨(by show 4 ≤ sizeLine; decide), fun l hl => ⟨_, rfl, draw_pick (E := C8.E0) (fun r a b => pick_name a b) (by decide) (by decide) st2 (fun v H3 ⟨n, hn⟩ st3 of3 => ?_) l hl⟩⟩
    subst hn
    obtain ⟨e3, k3⟩ := bld_step st st2 e2 k2 of3
    have of3' := of2.trans of3
    refine ⟨_, rfl, _, _, rfl, rfl, _, rfl, ?_⟩
    refine ite2 (fun c => ?_) (fun c => ?_)
    · have d0 : 0 < d := by have c' : (0 : Int) < (d : Int) := of_decide_eq_true c; omega
      refine ⟨_, rfl, S, C, 2, rfl, by decide, by decide, st3, fun r2 H4 r20 r21 st4 of4 => ⟨rfl, _, rfl, ?_⟩⟩
      refine ite2 (fun c2 => ?_) (fun c2 => ?_)
      · refine ⟨_, rfl, _, rfl, _, _, rfl, rfl, S, C, d - 1, (by show [V.ref S, V.int ((d : Int) - 1)] = _; rw [int_pred d0]), by omega, by omega, st4, fun r t H5 st5 of5 nt dt tv => ?_⟩
        obtain ⟨e4, k4⟩ := bld_step st st3 e3 k3 of4
        obtain ⟨a1, a2, a3, a4⟩ := bld_put st st4 st5 hD (of3'.trans of4) e4 k4 of5 n tv
        refine ⟨_, rfl, _, rfl, D, _, rfl, DPut.k (k := n.k) (of5.at st4 e4 fun _ z => nomatch z) k4.len_lt, _, _, _, _, rfl, a1, a2, a3, a4, fun m => ?_⟩
        split
        · omega
        · exact dp m
      · refine ⟨(by show 3 ≤ sizeLine; decide), fun l2 hl2 => ⟨_, rfl, draw_pick (E := C8.E0) (fun r a b => pick_x a b) (by decide) (by decide) st4 (fun v H5 ⟨lf, hlf⟩ st5 of5 => ?_) l2 hl2⟩⟩
        subst hlf
        obtain ⟨a1, a2, a3, a4⟩ := bld_put st st3 st5 hD of3' e3 k3 (of4.trans of5) n (t := .lf lf) (v := .str lf.s) rfl
        refine ⟨_, rfl, _, rfl, D, _, rfl, DPut.k (k := n.k) (((of4.trans of5)).at st3 e3 fun _ z => nomatch z) k3.len_lt, _, _, _, _, rfl, a1, a2, a3, a4, fun m => ?_⟩
        split
        · exact Nat.zero_le _
        · exact dp m
    · refine iteF ?_
      refine ⟨(by show 3 ≤ sizeLine; decide), fun l2 hl2 => ⟨_, rfl, draw_pick (E := C8.E0) (fun r a b => pick_x a b) (by decide) (by decide) st3 (fun v H5 ⟨lf, hlf⟩ st5 of5 => ?_) l2 hl2⟩⟩
      subst hlf
      obtain ⟨a1, a2, a3, a4⟩ := bld_put st st3 st5 hD of3' e3 k3 of5 n (t := .lf lf) (v := .str lf.s) rfl
      refine ⟨_, rfl, _, rfl, D, _, rfl, DPut.k (k := n.k) ((of5).at st3 e3 fun _ z => nomatch z) k3.len_lt, _, _, _, _, rfl, a1, a2, a3, a4, fun m => ?_⟩
      split
      · exact Nat.zero_le _
      · exact dp m
  · rintro σ H2 ⟨x, y, ks, f', rfl, of2, st2, e2, k2, dp⟩
    exact ⟨_, rfl, q D _ H2 st2 of2 rfl (dep_mk dp) (kv_fin k2 hD e2)⟩
end
end Qw

-- QwD20
namespace Qw
open PySem PySem.Spec PyProof.Rows L2
open C8 (Cal pe_c)

-- [(0, '_law_state_here'), (1, '_law_tree_here'), (2, '_law_deep'), (3, '_law_found'), (4, '_law_name'), (5, '_law_kind'), (6, '_law_more')]
def N_law_turned : List Str := ["_law_state_here", "_law_tree_here", "_law_deep", "_law_found", "_law_name", "_law_kind", "_law_more"]
theorem sc_law_turned : FnScope N_law_turned ["_law_state_here", "_law_tree_here", "_law_deep"] (defScope (topS 20)) := ⟨rfl, rfl, rfl, by decide +kernel, rfl, by decide +kernel, by decide +kernel⟩
section
variable {P : Program} {w : World} {K : PySem.W.Frag} {mg : Str → Option Value} {base : Heap} {f : Addr} {fd : FuncData}
theorem ok_law_turned {j k : Nat} (hj : 1 ≤ j) (F : Fun K "_law_turned" "_law_turned" (topS 20) f fd) (T : Tx mg) (c_law_draw : Cal P w K mg base 1 "_law_draw" spDraw []) (c_law_tree : Cal P w K mg base j "_law_tree" (spTree 2) []) (c_law_turned : Cal P w K mg base j "_law_turned" (spTurned k) []) : FnOk P w K mg base CX0 (j + 1) f fd ["_law_state_here", "_law_tree_here", "_law_deep"] (spTurned (k + 1)) := by
  refine F.ok sc_law_turned (fun vs H Q E h => ?_) (fun cdv A outer s H vs Q E hr h => ?_)
  · obtain ⟨S, C, v, t, d, rfl, _⟩ := h
    rfl
  have nd := sc_law_turned.nd
  have hu := hu_of hr
  have hu64 := hr.units
  obtain ⟨S, C, v, t, d, rfl, dk, d2, st, ht, nt, dt, q⟩ := h
  refine ⟨_, (pss_cons (ps_set (i := 3) nd rfl (Or.inl rfl) pe_dnewK)
    (pss_cons (ps_lock (ps_for PassesOwn.never rfl (pi_keys (pv 1)) (pg_name (i := 4) nd rfl (Or.inl rfl))
      (pss_cons (ps_set (i := 5) nd rfl (Or.inl rfl) (pe_c c_law_draw hr (by omega) rfl (pa_cons (pv 0) (pa_cons pe_int pa_nil))))
      (pss_one (ps_if (PW.pt (pw_and (pt_cmpR op_eq (pv 5) pe_int (nomark _)) (pw_and1 (pt_cmpR op_gt (pv 2) pe_int (nomark _)))))
        (pss_one (ps_dput hu (pv 3) (pv 4) (pe_c c_law_tree hr (by omega) rfl (pa_cons (pv 0) (pa_cons (pe_op op_sub (pv 2) pe_int) pa_nil))) rfl))
        (pss_one (ps_if (pt_cmpR op_eq (pv 5) pe_int (nomark _))
          (pss_one (ps_dput hu (pv 3) (pv 4) (pe_ix ix_list (pe_lst (pa_cons pe_str (pa_cons pe_str (pa_cons pe_str pa_nil)))) (pe_c c_law_draw hr (by omega) rfl (pa_cons (pv 0) (pa_cons pe_int pa_nil))) (fun _ _ => rfl)) rfl))
          (pss_one (ps_if (PW.pt (pw_and (pt_cmpR op_lt (pv 5) pe_int (nomark _)) (pw_and1 (pt_val (pe_callB call_isd rfl T.isinstance bt_isinstance (pa_cons (pe_dget hu (pv 1) (pv 4) (fun _ _ => rfl)) (pa_cons (pe_bltn (v := .ty "dict") rfl T.dict bt_dict rfl) pa_nil)))))))
            (pss_one (ps_dput hu (pv 3) (pv 4) (pe_c c_law_turned hr (by omega) rfl (pa_cons (pv 0) (pa_cons (pe_dget hu (pv 1) (pv 4) (fun _ _ => rfl)) (pa_cons (pe_op op_sub (pv 2) pe_int) pa_nil)))) rfl))
            (pss_one (ps_if (pt_cmpR op_lt (pv 5) pe_int (nomark _))
              (pss_one (ps_dput hu (pv 3) (pv 4) (pe_dget hu (pv 1) (pv 4) (fun _ _ => rfl)) rfl))
              pss_nil)))))))))))
    (pss_cons (ps_set (i := 6) nd rfl (Or.inl rfl) (pe_ifExp (PW.pt (pw_and (pt_cmpR op_gt (pv 2) pe_int (nomark _)) (pw_and1 (pt_cmpR op_eq (pe_c c_law_draw hr (by omega) rfl (pa_cons (pv 0) (pa_cons pe_int pa_nil))) pe_int (nomark _))))) (pe_c c_law_tree hr (by omega) rfl (pa_cons (pv 0) (pa_cons (pe_op op_sub (pv 2) pe_int) pa_nil))) pe_dnewK))
    (pss_cons (ps_lock (ps_for PassesOwn.never rfl (pi_keys (pv 6)) (pg_name (i := 4) nd rfl (Or.inl rfl))
      (pss_one (ps_dput hu (pv 3) (pv 4) (pe_dget hu (pv 6) (pv 4) (fun _ _ => rfl)) rfl))))
    (pss_one (ps_ret (pv 3))))))), ?_⟩
  intro D hD
  have hDs := st.new hD
  obtain ⟨p, kvs, rfl, hp, hk⟩ := ht.open nt
  obtain ⟨ks0, kn, ke, km⟩ := hk.keys
  have hps := st.nS hp fun _ z => nomatch z
  have hDp : D ≠ p := (ne_of_none hp hD).symm
  refine ⟨p, .dK kvs, by rw [upd_ne hDp.symm]; exact hp, trivial, fun od => ?_⟩
  have hDb : upd H p (.frz od (.dK kvs)) D = none := by rw [upd_ne hDp]; exact hD
  have stb : St2 (upd H p (.frz od (.dK kvs))) S C := st_upd st hps.1 hps.2
  have ofb : ∀ b, b ≠ p → upd H p (.frz od (.dK kvs)) b = H b := fun b hb => upd_ne hb
  have epb : upd H p (.frz od (.dK kvs)) p = some (.frz od (.dK kvs)) := upd_same
  have nob : ∀ b, upd H p (.frz od (.dK kvs)) b = none ↔ H b = none := fun b => by
    by_cases hb : b = p
    · rw [hb, epb, hp]; constructor <;> intro z <;> cases z
    · rw [ofb b hb]
  have ofl : Off S C (upd H p (.frz od (.dK kvs))) (upd (upd H D (.dK [])) p (.frz od (.dK kvs))) := fun b o _ _ e => by
    by_cases hb : b = p
    · rw [hb, upd_same] at e ⊢; exact e
    · rw [upd_ne hb] at e ⊢
      rw [upd_ne (ne_of_none e hD)]
      exact e
  have stl : St2 (upd (upd H D (.dK [])) p (.frz od (.dK kvs))) S C := st_upd (st_upd st hDs.1 hDs.2) hps.1 hps.2
  have eDl : upd (upd H D (.dK [])) p (.frz od (.dK kvs)) D = some (.dK []) := by rw [upd_ne hDp, upd_same]
  generalize upd (upd H D (.dK [])) p (.frz od (.dK kvs)) = Hl at ofl stl eDl ⊢
  have hlen : kvs.length = ks0.length := by
    have := congrArg List.length ke
    simpa using this
  generalize hHb : upd H p (.frz od (.dK kvs)) = Hb at hDb stb ofb epb nob ofl
  refine ⟨_, rfl, p, od, rfl, .inl ⟨kvs, ofl p _ hps.1 hps.2 epb, ?_⟩⟩
  refine for_keys (fun i σ H2 => ∃ x y z ks f, σ = [some (.ref S), some (.ref p), some (.int d), some (.ref D), x, y, z] ∧ Off S C Hb H2 ∧ St2 H2 S C ∧ H2 D = some (.dK ks) ∧ Kv (unp (ov nil Hb H2) D) ks f ∧ ∀ n, (f n).dep ≤ d)
    ⟨_, _, _, [], _, rfl, ofl, stl, eDl, kv_start _ _ _ _, fun _ => Nat.zero_le _⟩ ?_ ?_ ?_
  · rintro i σ H2 ⟨_, _, _, _, _, _, of2, _⟩
    exact of2 p _ hps.1 hps.2 epb
  · rintro i k1 v1 σ H2 hi ⟨x, y, z, ks, f', rfl, of2, st2, e2, k2, dp⟩
    obtain ⟨n, hin, rfl⟩ := key_at ke hi
    have hno : t.kid n ≠ .no := (km n).mp (List.mem_of_getElem? hin)
    obtain ⟨v2, ev, tv⟩ := hk.get hno
    have sd : ∀ {H3 : Hp}, Off S C Hb H3 → SameD (unp H p) H3 := fun of b kv e => by
      have hb : b ≠ p := fun z => by rw [z, unp_at] at e; cases e
      rw [unp_ne hb, ← ofb b hb] at e
      exact of.at stb e fun _ z => nomatch z
    have gd : ∀ {H3 : Hp}, Off S C Hb H3 → DGet H3 p (.str n.s) (some v2) := fun of => .inl ⟨kvs, n.k, .inr ⟨od, of p _ hps.1 hps.2 epb⟩, rfl, ev.symm⟩
    have dkid := dep_kid_lt nt n
    refine ⟨_, rfl, S, C, 6, rfl, by decide, by decide, st2, fun r H3 r0 r1 st3 of3 => ?_⟩
    obtain ⟨e3, k3⟩ := bld_step stb st2 e2 k2 of3
    have of23 := of2.trans of3
    refine ⟨_, rfl, rfl, _, rfl, ?_⟩
    refine ite2 (fun c => ?_) (fun c => ?_)
    · refine ⟨_, rfl, _, _, rfl, rfl, _, rfl, ?_⟩
      refine ite2 (fun c2 => ?_) (fun c2 => ?_)
      · have d0 : 0 < d := by have c' : (0 : Int) < (d : Int) := of_decide_eq_true c2; omega
        refine ⟨_, rfl, _, rfl, _, _, rfl, rfl, S, C, d - 1, (by show [V.ref S, V.int ((d : Int) - 1)] = _; rw [int_pred d0]), by omega, by omega, st3, fun r' t2 H5 st5 of5 nt2 dt2 tv2 => ?_⟩
        obtain ⟨a1, a2, a3, a4⟩ := bld_put stb st3 st5 hDb of23 e3 k3 of5 n tv2
        refine ⟨_, rfl, _, rfl, D, _, rfl, DPut.k (k := n.k) ((of5).at st3 e3 fun _ z => nomatch z) k3.len_lt, _, _, _, _, _, rfl, a1, a2, a3, a4, fun m => ?_⟩
        split
        · omega
        · exact dp m
      · -- kind 0, no depth left: not 1; then below 5
        have hr : r = 0 := by have := of_decide_eq_true c; injection this
        subst hr
        refine ⟨_, rfl, rfl, _, rfl, ?_⟩
        refine iteF ?_
        refine ⟨_, rfl, _, _, rfl, rfl, _, rfl, ?_⟩
        refine iteT ?_
        refine ⟨_, rfl, _, rfl, p, v2, rfl, gd of23, _, rfl, .non, t.kid n, .inl rfl, .inr (tv.monoD (sd of23)), _, rfl, ?_⟩
        refine ite2 (fun cn => ?_) (fun cn => ?_)
        · have nk : (t.kid n).isNd = true := cn
          have d0 : 0 < d := by have := dep_pos nk; omega
          refine ⟨_, rfl, _, rfl, _, rfl, p, v2, rfl, gd of23, _, rfl, _, _, rfl, rfl, S, C, v2, t.kid n, d - 1, (by show [V.ref S, v2, V.int ((d : Int) - 1)] = _; rw [int_pred d0]), by omega, by omega, st3, tv.monoD (sd of23), nk, by omega, fun r' t2 H5 st5 of5 nt2 dt2 tv2 => ?_⟩
          obtain ⟨a1, a2, a3, a4⟩ := bld_put stb st3 st5 hDb of23 e3 k3 of5 n tv2
          refine ⟨_, rfl, _, rfl, D, _, rfl, DPut.k (k := n.k) ((of5).at st3 e3 fun _ z => nomatch z) k3.len_lt, _, _, _, _, _, rfl, a1, a2, a3, a4, fun m => ?_⟩
          split
          · omega
          · exact dp m
        · refine ⟨_, rfl, _, _, rfl, rfl, _, rfl, ?_⟩
          refine ite2 (fun c5 => ?_) (fun c5 => absurd (by decide) c5)
          obtain ⟨l, hl, rfl⟩ : ∃ l, t.kid n = .lf l ∧ v2 = .str l.s := by
            rcases tv.cases with ⟨l, h1, h2⟩ | ⟨nk, _⟩
            · exact ⟨l, h1, h2⟩
            · exact absurd nk cn
          obtain ⟨a1, a2, a3, a4⟩ := bld_put stb st3 st3 hDb of23 e3 k3 (Off.refl S C H3) n (t := .lf l) (v := .str l.s) rfl
          refine ⟨_, rfl, _, rfl, p, _, rfl, gd of23, ?_⟩
          refine ⟨_, rfl, _, rfl, D, _, rfl, DPut.k (k := n.k) ((Off.refl S C H3).at st3 e3 fun _ z => nomatch z) k3.len_lt, _, _, _, _, _, rfl, a1, a2, a3, a4, fun m => ?_⟩
          split
          · exact Nat.zero_le _
          · exact dp m

    · refine iteF ?_
      refine ⟨_, rfl, rfl, _, rfl, ?_⟩
      refine ite2 (fun c2 => ?_) (fun c2 => ?_)
      · refine ⟨(by show 3 ≤ sizeLine; decide), fun l2 hl2 => ⟨_, rfl, draw_pick (E := C8.E0) (fun r a b => pick_y a b) (by decide) (by decide) st3 (fun v H5 ⟨lf, hlf⟩ st5 of5 => ?_) l2 hl2⟩⟩
        subst hlf
        obtain ⟨a1, a2, a3, a4⟩ := bld_put stb st3 st5 hDb of23 e3 k3 of5 n (t := .lf lf) (v := .str lf.s) rfl
        refine ⟨_, rfl, _, rfl, D, _, rfl, DPut.k (k := n.k) ((of5).at st3 e3 fun _ z => nomatch z) k3.len_lt, _, _, _, _, _, rfl, a1, a2, a3, a4, fun m => ?_⟩
        split
        · exact Nat.zero_le _
        · exact dp m
      · refine ⟨_, rfl, _, _, rfl, rfl, _, rfl, ?_⟩
        refine ite2 (fun c3 => ?_) (fun c3 => ?_)
        · refine ⟨_, rfl, _, rfl, p, v2, rfl, gd of23, _, rfl, .non, t.kid n, .inl rfl, .inr (tv.monoD (sd of23)), _, rfl, ?_⟩
          refine ite2 (fun cn => ?_) (fun cn => ?_)
          · have nk : (t.kid n).isNd = true := cn
            have d0 : 0 < d := by have := dep_pos nk; omega
            refine ⟨_, rfl, _, rfl, _, rfl, p, v2, rfl, gd of23, _, rfl, _, _, rfl, rfl, S, C, v2, t.kid n, d - 1, (by show [V.ref S, v2, V.int ((d : Int) - 1)] = _; rw [int_pred d0]), by omega, by omega, st3, tv.monoD (sd of23), nk, by omega, fun r' t2 H5 st5 of5 nt2 dt2 tv2 => ?_⟩
            obtain ⟨a1, a2, a3, a4⟩ := bld_put stb st3 st5 hDb of23 e3 k3 of5 n tv2
            refine ⟨_, rfl, _, rfl, D, _, rfl, DPut.k (k := n.k) ((of5).at st3 e3 fun _ z => nomatch z) k3.len_lt, _, _, _, _, _, rfl, a1, a2, a3, a4, fun m => ?_⟩
            split
            · omega
            · exact dp m
          · refine ⟨_, rfl, _, _, rfl, rfl, _, rfl, ?_⟩
            refine ite2 (fun c5 => ?_) (fun c5 => absurd c3 c5)
            obtain ⟨l, hl, rfl⟩ : ∃ l, t.kid n = .lf l ∧ v2 = .str l.s := by
              rcases tv.cases with ⟨l, h1, h2⟩ | ⟨nk, _⟩
              · exact ⟨l, h1, h2⟩
              · exact absurd nk cn
            obtain ⟨a1, a2, a3, a4⟩ := bld_put stb st3 st3 hDb of23 e3 k3 (Off.refl S C H3) n (t := .lf l) (v := .str l.s) rfl
            refine ⟨_, rfl, _, rfl, p, _, rfl, gd of23, ?_⟩
            refine ⟨_, rfl, _, rfl, D, _, rfl, DPut.k (k := n.k) ((Off.refl S C H3).at st3 e3 fun _ z => nomatch z) k3.len_lt, _, _, _, _, _, rfl, a1, a2, a3, a4, fun m => ?_⟩
            split
            · exact Nat.zero_le _
            · exact dp m

        · refine iteF ?_
          refine ⟨_, rfl, _, _, rfl, rfl, _, rfl, ?_⟩
          refine ite2 (fun c4 => absurd c4 c3) (fun _ => ?_)
          exact ⟨_, _, _, _, _, rfl, of23, st3, e3, k3, dp⟩
  · rintro σ H2 ⟨x, y, z, ks, f', rfl, of2, st2, e2, k2, dp⟩
    refine ⟨of2 p _ hps.1 hps.2 epb, ?_⟩
    have of3 : Off S C H (upd H2 p (.dK kvs)) := fun b o h1 h2 e => by
      by_cases hb : b = p
      · rw [hb] at e ⊢; rw [upd_same]; rw [hp] at e; exact e
      · rw [upd_ne hb]; exact of2 b o h1 h2 (by rw [ofb b hb]; exact e)
    have st3 : St2 (upd H2 p (.dK kvs)) S C := st_upd st2 hps.1.symm.symm hps.2.symm.symm
    have e3 : upd H2 p (.dK kvs) D = some (.dK ks) := by rw [upd_ne hDp]; exact e2
    have k3 : Kv (unp (ov nil H (upd H2 p (.dK kvs))) D) ks f' := k2.mono fun b o e => by
      by_cases hb : b = D
      · rw [hb, unp_at] at e; cases e
      rw [unp_ne hb] at e ⊢
      cases q0 : H b with
      | none => rw [ov_new ((nob b).mpr q0)] at e; rw [ov_new q0, upd_ne (ne_of_none hp q0).symm]; exact e
      | some u =>
        cases q1 : Hb b with
        | none => rw [(nob b).mp q1] at q0; cases q0
        | some u' => rw [ov_old q1] at e; cases e
    generalize upd H2 p (.dK kvs) = H3 at of3 st3 e3 k3 ⊢
    dsimp only
    show tSeq (tAsg _ _) _ _ _ _
    refine via_set (R := fun v H5 => ∃ M m H4, v = .ref M ∧ St2 H5 S C ∧ St2 H4 S C ∧ Off S C H3 H4 ∧ Off S C H4 H5 ∧ m.isNd = true ∧ (∀ n, (m.kid n).dep ≤ d) ∧ TV (ov nil H4 H5) m (.ref M)) ?_ ?_
    rotate_left
    · intro QQ go
      have none_more : ∀ H4, St2 H4 S C → Off S C H3 H4 → ∀ M, H4 M = none → QQ (.ref M) (upd H4 M (.dK [])) := fun H4 st4 of4 M hM =>
        go _ _ ⟨M, Qw.T.emp, H4, rfl, st_upd st4 (st4.new hM).1 (st4.new hM).2, st4, of4, Same.off (same_new hM _) S C, rfl, fun n => by rw [Qw.T.emp, kid_mk]; exact Nat.zero_le _, emp_tv (by rw [ov_new hM]; exact upd_same)⟩
      refine ⟨_, rfl, _, _, rfl, rfl, _, rfl, ?_⟩
      refine ite2 (fun c => ?_) (fun c => ?_)
      · have d0 : 0 < d := by have c' : (0 : Int) < (d : Int) := of_decide_eq_true c; omega
        refine ⟨_, rfl, S, C, 3, rfl, by decide, by decide, st3, fun r H4 r0 r1 st4 of4 => ⟨rfl, _, rfl, ?_⟩⟩
        refine ite2 (fun c2 => ?_) (fun c2 => ?_)
        · exact ⟨_, rfl, _, rfl, _, _, rfl, rfl, S, C, d - 1, (by show [V.ref S, V.int ((d : Int) - 1)] = _; rw [int_pred d0]), by omega, by omega, st4, fun r' m H5 st5 of5 nm dm tv => go _ _ ⟨r', m, H4, rfl, st5, st4, of4, of5, nm, fun n => by have := dep_kid_lt nm n; omega, tv⟩⟩
        · exact none_more H4 st4 of4
      · refine iteF ?_
        exact none_more H3 st3 (Off.refl _ _ _)
    · rintro v H5 ⟨M, m, H4, rfl, st5, st4, of4, of5, nm, dm, tv⟩
      obtain ⟨M', kvm, hM', eM', hkm⟩ := tv.open nm
      obtain rfl := V.ref.inj hM'
      have hM4 : H4 M = none := by
        cases q : H4 M with
        | none => rfl
        | some u => rw [ov_old q] at eM'; cases eM'
      have eM : H5 M = some (.dK kvm) := by rw [ov_new hM4] at eM'; exact eM'
      have hMs := st4.new hM4
      have e4 := of4.at st3 e3 fun _ z => nomatch z
      have e5 := of5.at st4 e4 fun _ z => nomatch z
      have hMD : M ≠ D := fun z => by rw [z, e4] at hM4; cases hM4
      have ofH4 : Off S C H H4 := of3.trans of4
      have h04 : ∀ b, H4 b = none → H b = none := fun b hb => by
        cases q : H b with
        | none => rfl
        | some u => obtain ⟨o', e'⟩ := ofH4.some st4 q; rw [hb] at e'; cases e'
      obtain ⟨ksm, knm, kem, kmm⟩ := hkm.keys
      have w1 : Same (unp (ov nil H H3) D) (unp (unp (ov nil H H5) M) D) := fun b o e => by
        by_cases hb : b = D
        · rw [hb, unp_at] at e; cases e
        rw [unp_ne hb] at e ⊢
        cases q0 : H b with
        | some u => rw [ov_old q0] at e; cases e
        | none =>
          rw [ov_new q0] at e
          have hs := st.new q0
          have e' := of4 b o hs.1 hs.2 e
          have hbM : b ≠ M := ne_of_none e' hM4
          rw [unp_ne hbM, ov_new q0]
          exact of5 b o hs.1 hs.2 e'
      have w2 : Same (unp (ov nil H4 H5) M) (unp (unp (ov nil H H5) M) D) := fun b o e => by
        by_cases hb : b = M
        · rw [hb, unp_at] at e; cases e
        rw [unp_ne hb] at e
        cases q0 : H4 b with
        | some u => rw [ov_old q0] at e; cases e
        | none =>
          rw [ov_new q0] at e
          have hbD : b ≠ D := fun z => by rw [z, e4] at q0; cases q0
          rw [unp_ne hbD, unp_ne hb, ov_new (h04 b q0)]
          exact e
      refine ⟨M, .dK kvm, eM, trivial, fun od2 => ?_⟩
      refine ⟨_, rfl, M, od2, rfl, .inl ⟨kvm, upd_same, ?_⟩⟩
      refine for_keys (fun i σ H7 => ∃ x y ks7 f7, σ = [some (.ref S), some (.ref p), some (.int d), some (.ref D), x, y, some (.ref M)] ∧ H7 = upd (upd H5 M (.frz od2 (.dK kvm))) D (.dK ks7) ∧ Kv (unp (unp (ov nil H H5) M) D) ks7 f7 ∧ ∀ n, (f7 n).dep ≤ d)
        ⟨_, _, ks, f', rfl, (upd_id (by rw [upd_ne hMD.symm]; exact e5)).symm, k3.mono w1, dp⟩ ?_ ?_ ?_
      · rintro i σ H7 ⟨_, _, ks7, _, _, rfl, _⟩
        rw [upd_ne hMD, upd_same]
      · rintro i k1 v1 σ H7 hi ⟨x, y, ks7, f7, rfl, rfl, k7, dp7⟩
        obtain ⟨n, hin, rfl⟩ := key_at kem hi
        have hno : m.kid n ≠ .no := (kmm n).mp (List.mem_of_getElem? hin)
        obtain ⟨v2, ev, tv2⟩ := hkm.get hno
        refine ⟨_, rfl, _, rfl, M, v2, rfl, .inl ⟨kvm, n.k, .inr ⟨od2, by rw [upd_ne hMD, upd_same]⟩, rfl, ev.symm⟩, _, rfl, _, rfl, D, _, rfl, DPut.k (k := n.k) upd_same k7.len_lt, ?_⟩
        refine ⟨_, _, _, _, rfl, upd_upd, k7.put n (tv2.mono w2), fun m' => ?_⟩
        split
        · exact dm n
        · exact dp7 m'
      · rintro σ H7 ⟨x, y, ks7, f7, rfl, rfl, k7, dp7⟩
        refine ⟨by rw [upd_ne hMD, upd_same], ⟨_, rfl, q D _ _ ?_ ?_ rfl (dep_mk dp7) ?_⟩⟩
        · exact st_upd (st_upd (st_upd st5 hMs.1 hMs.2) hDs.1 hDs.2) hMs.1 hMs.2
        · intro b o h1 h2 e
          have e' := ofH4 b o h1 h2 e
          have hbM := ne_of_none e' hM4
          rw [upd_ne hbM, upd_ne (ne_of_none e hD), upd_ne hbM]
          exact of5 b o h1 h2 e'
        · refine Kv.tv (k7.mono fun b o e => ?_) (p := D) (kvs := ks7) (by rw [ov_new hD, upd_ne hMD.symm, upd_same])
          by_cases hb : b = D
          · rw [hb, unp_at] at e; cases e
          rw [unp_ne hb] at e
          by_cases hbM : b = M
          · rw [hbM, unp_at] at e; cases e
          rw [unp_ne hbM] at e
          cases q0 : H b with
          | some u => rw [ov_old q0] at e; cases e
          | none => rw [ov_new q0] at e ⊢; rw [upd_ne hbM, upd_ne hb, upd_ne hbM]; exact e
end
end Qw

-- QwD21
namespace Qw
open PySem PySem.Spec PyProof.Rows L2
open C8 (Cal pe_c)

-- [(0, '_law_tree_here'), (1, '_law_way'), (2, '_law_found'), (3, '_law_name'), (4, '_law_here'), (5, '_law_below'), (6, '_law_way_below')]
def N_law_ways : List Str := ["_law_tree_here", "_law_way", "_law_found", "_law_name", "_law_here", "_law_below", "_law_way_below"]
theorem sc_law_ways : FnScope N_law_ways ["_law_tree_here", "_law_way"] (defScope (topS 21)) := ⟨rfl, rfl, rfl, by decide +kernel, rfl, by decide +kernel, by decide +kernel⟩
section
variable {P : Program} {w : World} {K : PySem.W.Frag} {mg : Str → Option Value} {base : Heap} {f : Addr} {fd : FuncData}
theorem ok_law_ways {j k : Nat} (F : Fun K "_law_ways" "_law_ways" (topS 21) f fd) (T : Tx mg) (c_law_ways : Cal P w K mg base j "_law_ways" (spWays K k) []) : FnOk P w K mg base CX0 (j + 1) f fd ["_law_tree_here", "_law_way"] (spWays K (k + 1)) := by
  refine F.ok sc_law_ways (fun vs H Q E h => ?_) (fun cdv A outer s H vs Q E hr h => ?_)
  · obtain ⟨p, wp, kvs, ws, Pk, rfl, _⟩ := h
    rfl
  have nd := sc_law_ways.nd
  have hu := hu_of hr
  have hu64 := hr.units
  obtain ⟨p, wp, kvs, ws, Pk, rfl, hp, h5, hk, h4, _, hwl, hw, q⟩ := h
  refine ⟨_, (pss_cons (ps_set (i := 2) nd rfl (Or.inl rfl) pe_dnewT)
    (pss_cons (ps_lock (ps_for PassesOwn.never rfl (pi_keys (pv 0)) (pg_name (i := 3) nd rfl (Or.inl rfl))
      (pss_cons (ps_set (i := 4) nd rfl (Or.inl rfl) (pe_op op_catA (pv 1) (pe_tup (pa_cons (pv 3) pa_nil))))
      (pss_cons (ps_dput hu (pv 2) (pv 4) (pe_dget hu (pv 0) (pv 3) (fun _ _ => rfl)) rfl)
      (pss_one (ps_if (pt_val (pe_callB call_isd rfl T.isinstance bt_isinstance (pa_cons (pe_dget hu (pv 0) (pv 3) (fun _ _ => rfl)) (pa_cons (pe_bltn (v := .ty "dict") rfl T.dict bt_dict rfl) pa_nil))))
        (pss_cons (ps_dput hu (pv 2) (pv 4) pe_non rfl)
        (pss_cons (ps_set (i := 5) nd rfl (Or.inl rfl) (pe_c c_law_ways hr (by omega) rfl (pa_cons (pe_dget hu (pv 0) (pv 3) (fun _ _ => rfl)) (pa_cons (pv 4) pa_nil))))
        (pss_one (ps_lock (ps_for PassesOwn.never rfl (pi_keys (pv 5)) (pg_name (i := 6) nd rfl (Or.inl rfl))
          (pss_one (ps_dput hu (pv 2) (pv 6) (pe_dget hu (pv 5) (pv 6) (fun _ _ => rfl)) rfl)))))))
        pss_nil))))))
    (pss_one (ps_ret (pv 2))))), ?_⟩
  intro F0 hF
  have hpF : p ≠ F0 := ne_of_none hp hF
  have cn : cnt (k + 1) = 5 * (1 + cnt k) := rfl
  have hWF : ∀ {b : Addr} {o : HO}, unp H p b = some o → b ≠ F0 := fun e => ne_of_none (unp_same H p _ _ e) hF
  refine ⟨p, .dK kvs, by rw [upd_ne hpF]; exact hp, trivial, fun od => ?_⟩
  have s0 : Same (unp H p) (upd (upd H F0 (.dT [])) p (.frz od (.dK kvs))) := fun b o e => by
    have hb : b ≠ p := fun z => by rw [z, unp_at] at e; cases e
    rw [upd_ne hb, upd_ne (hWF e)]
    exact unp_same H p _ _ e
  have p0 : upd (upd H F0 (.dT [])) p (.frz od (.dK kvs)) p = some (.frz od (.dK kvs)) := upd_same
  have f0 : upd (upd H F0 (.dT [])) p (.frz od (.dK kvs)) F0 = some (.dT []) := by rw [upd_ne hpF.symm, upd_same]
  generalize upd (upd H F0 (.dT [])) p (.frz od (.dK kvs)) = H1 at s0 p0 f0
  refine ⟨_, rfl, p, od, rfl, .inl ⟨kvs, p0, ?_⟩⟩
  have forms : ∀ {ks : List (List Key × V)} {k2 : List Key} {v2 : V}, (∀ k' ∈ ks.map (·.1), ∃ (s : Str) (r : List Nm), Pk s ∧ k' = (ws ++ s :: r.map Nm.s).map kS) → (∃ (s : Str) (r : List Nm), Pk s ∧ k2 = (ws ++ s :: r.map Nm.s).map kS) → ∀ k' ∈ (putK ks k2 v2).map (·.1), ∃ (s : Str) (r : List Nm), Pk s ∧ k' = (ws ++ s :: r.map Nm.s).map kS := fun h1 h2 k' hk' => by
    rcases putK_mem hk' with z | z
    · rw [z]; exact h2
    · exact h1 k' z
  refine for_keys (fun i σ H2 => ∃ x y z u ks, σ = [some (.ref p), some (.ref wp), some (.ref F0), x, y, z, u] ∧ Same (unp H p) H2 ∧ H2 p = some (.frz od (.dK kvs)) ∧ H2 F0 = some (.dT ks) ∧ ks.length ≤ i * (1 + cnt k) ∧ ∀ k' ∈ ks.map (·.1), ∃ (s : Str) (r : List Nm), Pk s ∧ k' = (ws ++ s :: r.map Nm.s).map kS)
    ⟨_, _, _, _, [], rfl, s0, p0, f0, Nat.zero_le _, fun _ h => nomatch h⟩ (fun i σ H2 h => by obtain ⟨_, _, _, _, _, _, _, h, _⟩ := h; exact h) ?_ ?_
  · rintro i k1 v1 σ H2 hi ⟨x, y, z, u, ks, rfl, s2, e2, f2, hlen, hks⟩
    have hi5 : i + 1 ≤ 5 := by have := (List.getElem?_eq_some_iff.mp hi).1; omega
    have c4 : cnt k ≤ cnt 3 := by
      rcases (by omega : k = 0 ∨ k = 1 ∨ k = 2 ∨ k = 3) with rfl | rfl | rfl | rfl <;> decide
    have c3 : cnt 3 = 155 := by decide
    have lim : (i + 1) * (1 + cnt k) ≤ 780 := by
      have := Nat.mul_le_mul hi5 (show 1 + cnt k ≤ 156 by omega)
      omega
    have limi : (i + 1) * (1 + cnt k) = i * (1 + cnt k) + (1 + cnt k) := Nat.succ_mul _ _
    obtain ⟨v2, ev⟩ := valV_has (kv_keys_at hi)
    obtain ⟨s1, t1, rfl, hP, tv, dt⟩ := hk _ (valV_mem ev)
    replace ev : valV kvs (kS s1) = some v2 := ev
    replace tv : TV (unp H p) t1 v2 := tv
    have gd : ∀ {H3 : Hp}, H3 p = some (.frz od (.dK kvs)) → DGet H3 p (.str s1) (some v2) := fun e => .inl ⟨kvs, kS s1, .inr ⟨od, e⟩, rfl, ev.symm⟩
    refine ⟨_, rfl, _, rfl, (by show 1 ≤ sizeLine; decide), fun p1 hp1 => ?_⟩
    have g3 := same_new hp1 (.tup [.str s1])
    refine way_catS (w := ws) (Qw.SqT.mono (s2.trans g3) (sqt_unp hp hw)) upd_same (by omega) fun wp' H3 g4 ew => ?_
    have g24 := g3.trans g4
    have s3 := s2.trans g24
    have e3 := g24 _ _ e2
    have f3 := g24 _ _ f2
    have hwF : wp' ≠ F0 := fun z => by rw [z, f3] at ew; cases ew
    have hkk : ((ws ++ [s1]).map V.str) = ((ws ++ [s1]).map kS).map kV := by rw [List.map_map]; rfl
    have k2f : ∃ (s : Str) (r : List Nm), Pk s ∧ (ws ++ [s1]).map kS = (ws ++ s :: r.map Nm.s).map kS := ⟨s1, [], hP, rfl⟩
    refine ⟨_, rfl, _, rfl, p, v2, rfl, gd e3, _, rfl, _, rfl, F0, _, rfl, DPut.t (k := (ws ++ [s1]).map kS) f3 (by rw [ew, hkk]) (small1000 (by omega)), ?_⟩
    have s4 : Same (unp H p) (upd H3 F0 (.dT (putK ks ((ws ++ [s1]).map kS) v2))) := fun b o e => by rw [upd_ne (hWF e)]; exact s3 _ _ e
    have e4 : upd H3 F0 (.dT (putK ks ((ws ++ [s1]).map kS) v2)) p = some (.frz od (.dK kvs)) := by rw [upd_ne hpF]; exact e3
    have f4 : upd H3 F0 (.dT (putK ks ((ws ++ [s1]).map kS) v2)) F0 = some (.dT (putK ks ((ws ++ [s1]).map kS) v2)) := upd_same
    have w4 : upd H3 F0 (.dT (putK ks ((ws ++ [s1]).map kS) v2)) wp' = some (.tup ((ws ++ [s1]).map V.str)) := by rw [upd_ne hwF]; exact ew
    have l4 := putK_le ks ((ws ++ [s1]).map kS) v2
    have m4 := putK_self ks ((ws ++ [s1]).map kS) v2
    have h4k := forms (v2 := v2) hks k2f
    generalize putK ks ((ws ++ [s1]).map kS) v2 = ks4 at s4 e4 f4 w4 l4 m4 h4k ⊢
    generalize upd H3 F0 (.dT ks4) = H4 at s4 e4 f4 w4 ⊢
    refine ⟨_, rfl, _, rfl, p, v2, rfl, gd e4, _, rfl, .non, t1, .inl rfl, .inr (tv.mono s4), _, rfl, ?_⟩
    refine ite2 (fun c => ?_) (fun c => ?_)
    · refine ⟨_, rfl, _, rfl, F0, _, rfl, DPut.t (k := (ws ++ [s1]).map kS) f4 (by rw [w4, hkk]) (small1000 (by omega)), ?_⟩
      have s5 : Same (unp H p) (upd H4 F0 (.dT (putK ks4 ((ws ++ [s1]).map kS) .non))) := fun b o e => by rw [upd_ne (hWF e)]; exact s4 _ _ e
      have e5 : upd H4 F0 (.dT (putK ks4 ((ws ++ [s1]).map kS) .non)) p = some (.frz od (.dK kvs)) := by rw [upd_ne hpF]; exact e4
      have f5 : upd H4 F0 (.dT (putK ks4 ((ws ++ [s1]).map kS) .non)) F0 = some (.dT (putK ks4 ((ws ++ [s1]).map kS) .non)) := upd_same
      have w5 : upd H4 F0 (.dT (putK ks4 ((ws ++ [s1]).map kS) .non)) wp' = some (.tup ((ws ++ [s1]).map V.str)) := by rw [upd_ne hwF]; exact w4
      have l5 : (putK ks4 ((ws ++ [s1]).map kS) .non).length ≤ ks.length + 1 := by rw [putK_len, if_pos m4]; exact l4
      have h5k := forms (v2 := .non) h4k k2f
      generalize putK ks4 ((ws ++ [s1]).map kS) .non = ks5 at s5 e5 f5 w5 l5 h5k ⊢
      generalize upd H4 F0 (.dT ks5) = H5 at s5 e5 f5 w5 ⊢
      obtain ⟨pc, kvc, rfl, hpc, hkc⟩ := (tv.mono s5).open c
      refine ⟨_, rfl, _, rfl, p, _, rfl, gd e5, _, rfl, pc, wp', kvc, ws ++ [s1], fun s => ∃ n : Nm, s = n.s, rfl, hpc, hkc.len, ?_, by omega, (by have := dep_pos c; omega), (by rw [List.length_append, List.length_singleton]; omega), .of w5, fun qb kvb H6 s6 nq eq hkb hlb => ?_⟩
      · rintro ⟨k7, v7⟩ hm
        obtain ⟨n, rfl⟩ := hkc.1.2 k7 (List.mem_map.mpr ⟨_, hm, rfl⟩)
        have vo := valV_one hkc.1.1 hm
        rcases hkc.2 n with ⟨_, e⟩ | ⟨_, v8, e, tv8⟩
        · rw [vo] at e; cases e
        · rw [vo] at e
          cases e
          exact ⟨n.s, t1.kid n, rfl, ⟨n, rfl⟩, tv8, by have := dep_kid_lt c n; omega⟩
      · have hqp : qb ≠ p := fun z => by rw [z, e5] at nq; cases nq
        have hqF : qb ≠ F0 := fun z => by rw [z, f5] at nq; cases nq
        have hqW : ∀ {b : Addr} {o : HO}, unp H p b = some o → b ≠ qb := fun e => ne_of_none (s5 _ _ e) nq
        refine ⟨qb, .dT kvb, eq, trivial, fun od2 => ?_⟩
        refine ⟨_, rfl, qb, od2, rfl, .inr ⟨kvb, upd_same, ?_⟩⟩
        refine for_keysT (fun i2 σ H7 => ∃ u2 ks7, σ = [some (.ref p), some (.ref wp), some (.ref F0), some (.str s1), some (.ref wp'), some (.ref qb), u2] ∧ Same (unp H p) H7 ∧ H7 qb = some (.frz od2 (.dT kvb)) ∧ H7 p = some (.frz od (.dK kvs)) ∧ H7 F0 = some (.dT ks7) ∧ ks7.length ≤ ks.length + 1 + i2 ∧ ∀ k' ∈ ks7.map (·.1), ∃ (s : Str) (r : List Nm), Pk s ∧ k' = (ws ++ s :: r.map Nm.s).map kS)
          ⟨_, ks5, rfl, fun b o e => by rw [upd_ne (hqW e)]; exact s6 _ _ (s5 _ _ e), upd_same, by rw [upd_ne hqp.symm]; exact s6 _ _ e5, by rw [upd_ne hqF.symm]; exact s6 _ _ f5, l5, h5k⟩ (fun i σ H2 h => by obtain ⟨_, _, _, _, h, _⟩ := h; exact h) ?_ ?_
        · rintro i2 k8 v8 q8 σ H7 hi2 e8 ⟨u2, ks7, rfl, s7, eq7, e7, f7, l7, h7k⟩
          obtain ⟨v9, ev9⟩ := valV_has (kv_keys_at hi2)
          have hi2' := (List.getElem?_eq_some_iff.mp hi2).1
          have hq8F : q8 ≠ F0 := fun z => by rw [z, f7] at e8; cases e8
          refine ⟨_, rfl, _, rfl, qb, v9, rfl, .inr ⟨kvb, k8, q8, .inr ⟨od2, eq7⟩, rfl, e8, ev9.symm⟩, _, rfl, _, rfl, F0, _, rfl, DPut.t (k := k8) f7 e8 (small1000 (by omega)), ?_⟩
          have l8 := putK_le ks7 k8 v9
          refine ⟨_, _, rfl, fun b o e => by rw [upd_ne (hWF e)]; exact s7 _ _ e, by rw [upd_ne hqF]; exact eq7, by rw [upd_ne hpF]; exact e7, upd_same, by omega, forms h7k ?_⟩
          obtain ⟨s', r, ⟨n, rfl⟩, e⟩ := hkb k8 (kv_keys_at hi2)
          refine ⟨s1, n :: r, hP, ?_⟩
          rw [e, List.append_assoc]
          rfl
        · rintro σ H7 ⟨u2, ks7, rfl, s7, eq7, e7, f7, l7, h7k⟩
          refine ⟨eq7, _, _, _, _, ks7, rfl, fun b o e => by rw [upd_ne (hqW e)]; exact s7 _ _ e, by rw [upd_ne hqp.symm]; exact e7, by rw [upd_ne hqF.symm]; exact f7, by omega, h7k⟩
    · exact ⟨_, _, _, _, ks4, rfl, s4, e4, f4, by omega, h4k⟩
  · rintro σ H2 ⟨x, y, z, u, ks, rfl, s2, e2, f2, hlen, hks⟩
    refine ⟨e2, ⟨_, rfl, q F0 ks _ ?_ hF ?_ hks ?_⟩⟩
    · intro b o e
      by_cases hb : b = p
      · rw [hb] at e ⊢; rw [hp] at e; rw [upd_same]; exact e
      · rw [upd_ne hb]; exact s2 _ _ (by rw [unp_ne hb]; exact e)
    · rw [upd_ne hpF.symm]; exact f2
    · rw [cn]
      exact Nat.le_trans hlen (Nat.mul_le_mul h5 (Nat.le_refl _))
end
end Qw

-- QwD22
namespace Qw
open PySem PySem.Spec PyProof.Rows L2
open C8 (Cal pe_c)

theorem at_app : ∀ (w u : Way) (t : T), t.at (w ++ u) = (t.at w).at u
  | [], _, _ => rfl
  | n :: w, u, t => at_app w u (t.kid n)
theorem at_next {t : T} {w : Way} {i : Nat} {n : Nm} (e : w[i]? = some n) : t.at (w.take (i + 1)) = (t.at (w.take i)).kid n := by
  rw [List.take_add_one, e]
  exact at_app _ _ _
theorem at_gone {t : T} {w : Way} {i : Nat} {n : Nm} (e : w[i]? = some n) (h : (t.at (w.take i)).kid n = .no) : t.at w = .no := by
  conv => lhs; rw [← List.take_append_drop (i + 1) w]
  rw [at_app, at_next e, h, at_no]
-- [(0, '_law_tree_here'), (1, '_law_way'), (2, '_law_name')]
def N_law_at : List Str := ["_law_tree_here", "_law_way", "_law_name"]
theorem sc_law_at : FnScope N_law_at ["_law_tree_here", "_law_way"] (defScope (topS 22)) := ⟨rfl, rfl, rfl, by decide +kernel, rfl, by decide +kernel, by decide +kernel⟩
section
variable {P : Program} {w : World} {K : PySem.W.Frag} {mg : Str → Option Value} {base : Heap} {f : Addr} {fd : FuncData}
theorem ok_law_at (F : Fun K "_law_at" "_law_at" (topS 22) f fd) (T : Tx mg)  : FnOk P w K mg base CX0 1 f fd ["_law_tree_here", "_law_way"] (spAt K) := by
  refine F.ok sc_law_at (fun vs H Q E h => ?_) (fun cdv A outer s H vs Q E hr h => ?_)
  · obtain ⟨v, t, p, w', rfl, _⟩ := h
    rfl
  have nd := sc_law_at.nd
  have hu := hu_of hr
  have hu64 := hr.units
  obtain ⟨v, t, p, w', rfl, ht, hw, q⟩ := h
  refine ⟨_, (pss_cons (ps_for PassesOwn.never rfl (pi_tup (pv 1)) (pg_name (i := 2) nd rfl (Or.inl rfl))
      (pss_cons (ps_if (PW.pt (pw_or (pt_not (pt_val (pe_callB call_isd rfl T.isinstance bt_isinstance (pa_cons (pv 0) (pa_cons (pe_bltn (v := .ty "dict") rfl T.dict bt_dict rfl) pa_nil))))) (pw_or1 (pt_cmp (pc_dnotin hu (pv 2) (pv 0))))))
        (pss_one (ps_ret pe_str))
        pss_nil)
      (pss_one (ps_set (i := 0) nd rfl (Or.inl rfl) (pe_dget hu (pv 0) (pv 2) (fun _ _ => rfl))))))
    (pss_one (ps_ret (pv 0)))), ?_⟩
  refine ⟨_, rfl, p, rfl, ⟨_, hw⟩, ?_⟩
  refine for_tup (xs := w'.map fun n => V.str n.s) (fun i σ H1 => H1 = H ∧ ∃ v' x, σ = [some v', some (.ref p), x] ∧ TV H (t.at (w'.take i)) v') ⟨rfl, v, _, rfl, ht⟩ (fun i σ H1 _ h => by rw [h.1]; exact hw) ?_ ?_
  · rintro i x σ H1 hx ⟨rfl, v', x0, rfl, tv⟩
    obtain ⟨n, hin, rfl⟩ := name_at hx
    refine ⟨_, rfl, _, rfl, .non, _, .inl rfl, .inr tv, _, rfl, ?_⟩
    refine ite2 (fun c => ?_) (fun c => ?_)
    · refine iteT ?_
      refine q _ (.inl ⟨at_gone hin (kid_not (by simpa using c) n), rfl⟩)
    · have nu : (t.at (w'.take i)).isNd = true := by simpa using c
      obtain ⟨a, kvs, rfl, ha, hk⟩ := (TV_nd nu).mp tv
      refine ⟨_, rfl, _, rfl, a, _, rfl, .inl ⟨kvs, n.k, .inl ha, rfl, rfl⟩, _, rfl, ?_⟩
      rcases hk.2 n with ⟨e1, e2⟩ | ⟨e1, v2, e2, tv2⟩
      · rw [e2]
        refine iteT ?_
        exact q _ (.inl ⟨at_gone hin e1, rfl⟩)
      · rw [e2]
        refine iteF ?_
        refine ⟨_, rfl, _, rfl, a, v2, rfl, .inl ⟨kvs, n.k, .inl ha, rfl, e2.symm⟩, ?_⟩
        refine ⟨rfl, v2, _, rfl, ?_⟩
        rw [at_next hin]
        exact tv2
  · rintro σ H1 ⟨rfl, v', x0, rfl, tv⟩
    refine ⟨_, rfl, q v' (.inr ?_)⟩
    rw [List.length_map, List.take_length] at tv
    exact tv
end
end Qw

-- QwD23
namespace Qw
open PySem PySem.Spec PyProof.Rows L2
open C8 (Cal pe_c)

-- [(0, '_law_base'), (1, '_law_one'), (2, '_law_other'), (3, '_law_way'), (4, '_law_clashes'), (5, '_law_found'), (6, '_law_names'), (7, '_law_name'), (8, '_law_here'), (9, '_law_three'), (10, '_law_part'), (11, '_law_more')]
def N_law_due : List Str := ["_law_base", "_law_one", "_law_other", "_law_way", "_law_clashes", "_law_found", "_law_names", "_law_name", "_law_here", "_law_three", "_law_part", "_law_more"]
theorem sc_law_due : FnScope N_law_due ["_law_base", "_law_one", "_law_other", "_law_way"] (defScope (topS 23)) := ⟨rfl, rfl, rfl, by decide +kernel, rfl, by decide +kernel, by decide +kernel⟩
section
variable {P : Program} {w : World} {K : PySem.W.Frag} {mg : Str → Option Value} {base : Heap} {f : Addr} {fd : FuncData}
theorem ok_law_due {j k : Nat} (F : Fun K "_law_due" "_law_due" (topS 23) f fd) (T : Tx mg) (c_law_due : Cal P w K mg base j "_law_due" (spDue K k) []) : FnOk P w K mg base CX0 (j + 1) f fd ["_law_base", "_law_one", "_law_other", "_law_way"] (spDue K (k + 1)) := by
  refine F.ok sc_law_due (fun vs H Q E h => ?_) (fun cdv A outer s H vs Q E hr h => ?_)
  · obtain ⟨B, b, o, t, vb, vo, vt, wp, w', rfl, _⟩ := h
    rfl
  have nd := sc_law_due.nd
  have hu := hu_of hr
  have hu64 := hr.units
  obtain ⟨B, b, o, t, vb, vo, vt, wp, w', rfl, hB, hb, ho, ht, nb, no, nt, hw, do', db, dt, h4, hwl, q⟩ := h
  refine ⟨_, (pss_cons (ps_set (i := 4) nd rfl (Or.inl rfl) (pe_lst pa_nil))
    (pss_cons (ps_set (i := 5) nd rfl (Or.inl rfl) pe_dnewK)
    (pss_cons (ps_set (i := 6) nd rfl (Or.inl rfl) (pe_op op_cat (pe_lock (pe_lc (own := [("_law_name", 7)]) (g := gName 7) (tt := tYes) rfl nd (pi_keys (pv 1)) (blkOk_by (own := [("_law_name", 7)]) (N := N_law_due) (sc := defScope (topS 23)) (by decide +kernel)) (fun _ _ _ _ _ => pg_name (i := 7) nd rfl (Or.inl rfl)) (fun _ _ _ _ _ => pts_nil) (fun _ _ _ _ _ => (pv 7)))) (pe_lock (pe_lc (own := [("_law_name", 7)]) (g := gName 7)  rfl nd (pi_keys (pv 2)) (blkOk_by (own := [("_law_name", 7)]) (N := N_law_due) (sc := defScope (topS 23)) (by decide +kernel)) (fun _ _ _ _ _ => pg_name (i := 7) nd rfl (Or.inl rfl)) (fun _ _ _ _ _ => pts_one (pt_cmp (pc_dnotin hu (pv 7) (pv 1)))) (fun _ _ _ _ _ => (pv 7))))))
    (pss_cons (ps_for PassesOwn.never rfl (pi_list (pe_callB cr_sortedS rfl T.sorted bt_sorted (pa_cons (pv 6) pa_nil))) (pg_name (i := 7) nd rfl (Or.inl rfl))
      (pss_cons (ps_set (i := 8) nd rfl (Or.inl rfl) (pe_op op_catA (pv 3) (pe_tup (pa_cons (pv 7) pa_nil))))
      (pss_cons (ps_set (i := 9) nd rfl (Or.inl rfl) (pe_lst (pa_cons (pe_dget2 hu (pv 0) (pv 7) pe_str ⟨rfl, rfl, rfl, rfl⟩) (pa_cons (pe_dget2 hu (pv 1) (pv 7) pe_str ⟨rfl, rfl, rfl, rfl⟩) (pa_cons (pe_dget2 hu (pv 2) (pv 7) pe_str ⟨rfl, rfl, rfl, rfl⟩) pa_nil)))))
      (pss_cons (ps_set (i := 10) nd rfl (Or.inl rfl) pe_str)
      (pss_cons (ps_if (PW.pt (pw_or (pt_cmpR (op_eqT hu64) (pe_ix ix_list (pv 9) pe_int (fun _ _ => rfl)) (pe_ix ix_list (pv 9) pe_int (fun _ _ => rfl)) (nomark _)) (pw_or1 (pt_cmpR (op_eqT hu64) (pe_ix ix_list (pv 9) pe_int (fun _ _ => rfl)) (pe_ix ix_list (pv 9) pe_int (fun _ _ => rfl)) (nomark _)))))
        (pss_one (ps_set (i := 10) nd rfl (Or.inl rfl) (pe_ix ix_list (pv 9) pe_int (fun _ _ => rfl))))
        (pss_one (ps_if (pt_cmpR (op_eqT hu64) (pe_ix ix_list (pv 9) pe_int (fun _ _ => rfl)) (pe_ix ix_list (pv 9) pe_int (fun _ _ => rfl)) (nomark _))
          (pss_one (ps_set (i := 10) nd rfl (Or.inl rfl) (pe_ix ix_list (pv 9) pe_int (fun _ _ => rfl))))
          (pss_one (ps_if (PW.pt (pw_and (pt_val (pe_callB call_isd rfl T.isinstance bt_isinstance (pa_cons (pe_ix ix_list (pv 9) pe_int (fun _ _ => rfl)) (pa_cons (pe_bltn (v := .ty "dict") rfl T.dict bt_dict rfl) pa_nil)))) (pw_and1 (pt_val (pe_callB call_isd rfl T.isinstance bt_isinstance (pa_cons (pe_ix ix_list (pv 9) pe_int (fun _ _ => rfl)) (pa_cons (pe_bltn (v := .ty "dict") rfl T.dict bt_dict rfl) pa_nil)))))))
            (pss_cons (ps_asg (pe_c c_law_due hr (by omega) rfl (pa_cons (pe_ifExp (pt_val (pe_callB call_isd rfl T.isinstance bt_isinstance (pa_cons (pe_ix ix_list (pv 9) pe_int (fun _ _ => rfl)) (pa_cons (pe_bltn (v := .ty "dict") rfl T.dict bt_dict rfl) pa_nil)))) (pe_ix ix_list (pv 9) pe_int (fun _ _ => rfl)) pe_dnewK) (pa_cons (pe_ix ix_list (pv 9) pe_int (fun _ _ => rfl)) (pa_cons (pe_ix ix_list (pv 9) pe_int (fun _ _ => rfl)) (pa_cons (pv 8) pa_nil))))) (pg_tup rfl (pgs_cons (pg_name (i := 10) nd rfl (Or.inl rfl)) (pgs_cons (pg_name (i := 11) nd rfl (Or.inl rfl)) pgs_nil))))
            (pss_one (ps_set (i := 4) nd rfl (Or.inl rfl) (pe_op op_cat (pv 4) (pv 11)))))
            (pss_one (ps_expr (pe_bm PySem.F.plainAttrs_list PySem.F.slot_list_append PySem.F.type_list_append mt_append (pv 4) (pa_cons (pv 8) pa_nil)))))))))
      (pss_one (ps_if (pt_cmpR (op_notP hu64) (pv 10) (pe_tup (pa_cons pe_str (pa_cons pe_str pa_nil))) (by rfl))
        (pss_one (ps_dput hu (pv 5) (pv 7) (pv 10) rfl))
        pss_nil)))))))
    (pss_one (ps_ret (pe_tup (pa_cons (pv 5) (pa_cons (pv 4) pa_nil))))))))), ?_⟩
  obtain ⟨pb, kb, rfl, ebB, Kb⟩ := (TV_nd nb).mp hb
  obtain ⟨po, ko, rfl, eoB, Ko⟩ := (TV_nd no).mp ho
  obtain ⟨pt', kt, rfl, etB, Kt⟩ := (TV_nd nt).mp ht
  have ebh := hB _ _ ebB
  have eoh := hB _ _ eoB
  have eth := hB _ _ etB
  obtain ⟨kso, kno, keo, kmo⟩ := Ko.keys
  obtain ⟨kst, knt, ket, kmt⟩ := Kt.keys
  refine ⟨(by show 0 ≤ sizeLine; decide), fun C0 hC => ?_⟩
  intro F0 hF
  have g1 := (same_new hC (.lst [])).trans (same_new hF (.dK []))
  have hFC : C0 ≠ F0 := ne_of_none upd_same hF
  have hF0 : H F0 = none := (same_new hC (.lst [])).free hF
  have eF : upd (upd H C0 (.lst [])) F0 (.dK []) F0 = some (.dK []) := upd_same
  have eC : upd (upd H C0 (.lst [])) F0 (.dK []) C0 = some (.lst []) := by rw [upd_ne hFC, upd_same]
  generalize upd (upd H C0 (.lst [])) F0 (.dK []) = H2 at g1 eF eC
  -- the names of the one
  refine ⟨_, _, g1 _ _ eoh, trivial, fun od => ?_⟩
  refine ⟨_, rfl, po, od, rfl, .inl ⟨ko, upd_same, fun D1 hD1 => ?_⟩⟩
  have h1o : D1 ≠ po := fun z => by rw [z, upd_same] at hD1; cases hD1
  have h1n : H2 D1 = none := by rw [upd_ne h1o] at hD1; exact hD1
  have leno : ko.length = kso.length := by
    have := congrArg List.length keo
    simpa using this
  have lent : kt.length = kst.length := by
    have := congrArg List.length ket
    simpa using this
  refine lc_keys (fun i H3 => H3 po = some (.frz od (.dK ko)) ∧ Same (unp H2 po) H3 ∧ H3 D1 = some (.lst ((kso.take i).map fun n => V.str n.s))) ?_ (fun i H3 h => h.1) ?_ ?_
  · refine ⟨by rw [upd_ne h1o.symm, upd_same], fun b' u e => ?_, upd_same⟩
    have hb' : b' ≠ po := fun z => by rw [z, unp_at] at e; cases e
    have e' := unp_same _ _ _ _ e
    rw [upd_ne (ne_of_none e' h1n), upd_ne hb']
    exact e'
  · rintro i k1 v1 H3 hi ⟨l1, s1, e1⟩
    obtain ⟨n, hin, rfl⟩ := key_at keo hi
    refine ⟨rfl, yes_of ?_⟩
    refine iteT ?_
    refine ⟨_, rfl, _, e1, ?_, ?_, ?_, ?_⟩
    · rw [List.length_map, List.length_take]
      exact small1000 (by have := nms_len kno; omega)
    · rw [upd_ne h1o.symm]; exact l1
    · intro b' u e
      rw [upd_ne (ne_of_none (unp_same _ _ _ _ e) h1n)]
      exact s1 _ _ e
    · rw [upd_same, List.take_add_one, hin, List.map_append]
      rfl
  rintro H3 ⟨l1, s1, e1⟩
  rw [leno, List.take_length] at e1
  refine ⟨l1, ?_⟩
  have s3 : Same H2 (upd H3 po (.dK ko)) := fun b' u e => by
    by_cases hb' : b' = po
    · rw [hb'] at e ⊢; rw [g1 _ _ eoh] at e; rw [upd_same]; exact e
    · rw [upd_ne hb']; exact s1 _ _ (by rw [unp_ne hb']; exact e)
  have e3 : upd H3 po (.dK ko) D1 = some (.lst (kso.map fun n => V.str n.s)) := by rw [upd_ne h1o]; exact e1
  generalize upd H3 po (.dK ko) = H4 at s3 e3
  -- the names of the other
  refine ⟨_, _, s3 _ _ (g1 _ _ eth), trivial, fun od2 => ?_⟩
  refine ⟨_, rfl, pt', od2, rfl, .inl ⟨kt, upd_same, fun D2 hD2 => ?_⟩⟩
  have h2o : D2 ≠ pt' := fun z => by rw [z, upd_same] at hD2; cases hD2
  have h2n : H4 D2 = none := by rw [upd_ne h2o] at hD2; exact hD2
  refine lc_keys (fun i H5 => H5 pt' = some (.frz od2 (.dK kt)) ∧ Same (unp H4 pt') H5 ∧ H5 D2 = some (.lst (((kst.take i).filter fun n => decide (n ∉ kso)).map fun n => V.str n.s))) ?_ (fun i H3 h => h.1) ?_ ?_
  · refine ⟨by rw [upd_ne h2o.symm, upd_same], fun b' u e => ?_, upd_same⟩
    have hb' : b' ≠ pt' := fun z => by rw [z, unp_at] at e; cases e
    have e' := unp_same _ _ _ _ e
    rw [upd_ne (ne_of_none e' h2n), upd_ne hb']
    exact e'
  · rintro i k1 v1 H5 hi ⟨l5, s5, e5⟩
    obtain ⟨n, hin, rfl⟩ := key_at ket hi
    have rd : Rd H5 po (.dK ko) := by
      by_cases hp : po = pt'
      · have : ko = kt := by rw [hp, eth] at eoh; cases eoh; rfl
        rw [hp, this]
        exact .inr ⟨_, l5⟩
      · exact .inl (s5 _ _ (by rw [unp_ne hp]; exact s3 _ _ (g1 _ _ eoh)))
    refine ⟨rfl, ?_⟩
    refine ⟨_, rfl, _, rfl, po, _, rfl, .inl ⟨ko, n.k, rd, rfl, rfl⟩, _, rfl, ?_⟩
    have nx : (kst.take (i + 1)).filter (fun n => decide (n ∉ kso)) = (kst.take i).filter (fun n => decide (n ∉ kso)) ++ (if n ∉ kso then [n] else []) := by
      rw [List.take_add_one, hin, List.filter_append]
      congr 1
      simp [List.filter_cons]
    by_cases hn : n ∈ kso
    · obtain ⟨v2, ev, _⟩ := Ko.get ((kmo n).mp hn)
      rw [ev]
      refine iteF ⟨l5, s5, ?_⟩
      rw [nx, if_neg (fun z => z hn), List.append_nil]
      exact e5
    · have ev : valV ko n.k = none := Ko.none (Classical.byContradiction fun z => hn ((kmo n).mpr z))
      rw [ev]
      refine iteT ?_
      refine ⟨_, rfl, _, e5, ?_, ?_, ?_, ?_⟩
      · rw [List.length_map]
        exact small1000 (by have := nms_len (knt.sublist ((List.filter_sublist (p := fun n => decide (n ∉ kso))).trans (List.take_sublist i kst))); omega)
      · rw [upd_ne h2o.symm]; exact l5
      · intro b' u e
        rw [upd_ne (ne_of_none (unp_same _ _ _ _ e) h2n)]
        exact s5 _ _ e
      · rw [upd_same, nx, if_pos hn, List.map_append]
        rfl
  rintro H5 ⟨l5, s5, e5⟩
  rw [lent, List.take_length] at e5
  refine ⟨l5, ?_⟩
  have s6 : Same H4 (upd H5 pt' (.dK kt)) := fun b' u e => by
    by_cases hb' : b' = pt'
    · rw [hb'] at e ⊢; rw [s3 _ _ (g1 _ _ eth)] at e; rw [upd_same]; exact e
    · rw [upd_ne hb']; exact s5 _ _ (by rw [unp_ne hb']; exact e)
  have e6 : upd H5 pt' (.dK kt) D2 = some (.lst ((kst.filter fun n => decide (n ∉ kso)).map fun n => V.str n.s)) := by rw [upd_ne h2o]; exact e5
  generalize upd H5 pt' (.dK kt) = H6 at s6 e6
  have un : (kso ++ kst.filter fun n => decide (n ∉ kso)).Nodup := List.nodup_append.mpr ⟨kno, knt.sublist List.filter_sublist, fun a ha b' hb' z => by
    have := of_decide_eq_true (List.mem_filter.mp hb').2
    exact this (z ▸ ha)⟩
  have umem : ∀ n, n ∈ (kso ++ kst.filter fun n => decide (n ∉ kso)) ↔ o.kid n ≠ .no ∨ t.kid n ≠ .no := fun n => by
    rw [List.mem_append, List.mem_filter]
    constructor
    · rintro (h | ⟨h, _⟩)
      · exact .inl ((kmo n).mp h)
      · exact .inr ((kmt n).mp h)
    · intro h
      by_cases h1 : o.kid n = .no
      · exact .inr ⟨(kmt n).mpr (h.resolve_left fun z => z h1), decide_eq_true fun z => (kmo n).mp z h1⟩
      · exact .inl ((kmo n).mpr h1)
  refine ⟨D1, D2, _, _, rfl, rfl, s6 _ _ e3, e6, ?_, fun L hL => ?_⟩
  · rw [List.length_map, List.length_map]
    have z1 := nms_len un
    rw [List.length_append] at z1
    exact small (by omega)
  rw [← List.map_append]
  generalize (kso ++ kst.filter fun n => decide (n ∉ kso)) = us at un umem ⊢
  have g7 := same_new hL (.lst (us.map fun n => V.str n.s))
  have em2 : (us.map fun n => V.str n.s) = (us.map Nm.s).map V.str := by rw [List.map_map]; rfl
  refine ⟨_, rfl, L, us.map Nm.s, rfl, .of (by rw [upd_same, em2]), ?_, fun ys S hperm hsort hS => ?_⟩
  · rw [List.length_map]
    exact Nat.lt_of_le_of_lt (nms_len un) (by decide)
  obtain rfl := sorted_names un hperm hsort
  have em : ((asc us).map Nm.s).map V.str = (asc us).map fun n => V.str n.s := by rw [List.map_map]; rfl
  rw [em]
  have g8 := same_new hS (.lst ((asc us).map fun n => V.str n.s))
  have g28 := s3.trans (s6.trans (g7.trans g8))
  have gA : Same H (upd (upd H6 L (.lst (us.map fun n => V.str n.s))) S (.lst ((asc us).map fun n => V.str n.s))) := g1.trans g28
  have eF' := g28 _ _ eF
  have eC' := g28 _ _ eC
  have eS' : upd (upd H6 L (.lst (us.map fun n => V.str n.s))) S (.lst ((asc us).map fun n => V.str n.s)) S = some (.lst ((asc us).map fun n => V.str n.s)) := upd_same
  have hSC0 : S ≠ C0 := fun z => by
    have := (s3.trans (s6.trans g7)) _ _ eC
    rw [← z, hS] at this
    cases this
  generalize upd (upd H6 L (.lst (us.map fun n => V.str n.s))) S (.lst ((asc us).map fun n => V.str n.s)) = H7 at gA eF' eC' eS'
  have g : ∀ n, (mrgk o b t w' n).2.length ≤ 625 := fun n => mrgk_len (k := 4) b t w' n (by omega)
  have tot : (asc us).flatMap (fun n => (mrgk o b t w' n).2) = (mrgd o b t w').2 := flat_asc fun n hn => by
    have z1 : o.kid n = .no := Classical.byContradiction fun z => hn ((umem n).mpr (.inl z))
    have z2 : t.kid n = .no := Classical.byContradiction fun z => hn ((umem n).mpr (.inr z))
    rw [mrgk, z1, z2, mrgp_no]
  have lim : ((mrgd o b t w').2).length ≤ 3125 := by
    have e1 := g .a
    have e2 := g .b
    have e3 := g .c
    have e4 := g .d
    have e5 := g .e
    simp only [mrgd_snd, names, List.flatMap_cons, List.flatMap_nil, List.length_append, List.length_nil]
    omega
  have nF : B F0 = none := by
    cases z : B F0 with
    | none => rfl
    | some u => have := hB _ _ z; rw [hF0] at this; cases this
  have inV : ∀ (H' : Hp), Same B (unp (ov B H H') F0) := fun H' b' u e => by
    rw [unp_ne (ne_of_none e nF)]
    exact ov_in hB H' _ _ e
  refine ⟨S, rfl, ⟨_, SqL.of eS'⟩, ?_⟩
  refine for_list (xs := (asc us).map fun n => V.str n.s) (fun i σ H1 => ∃ C x7 x8 x9 x10 x11 fk vs, σ = [some (.ref pb), some (.ref po), some (.ref pt'), some (.ref wp), some (.ref C), some (.ref F0), some (.ref L), x7, x8, x9, x10, x11] ∧ Same H H1 ∧ H1 S = some (.lst ((asc us).map fun n => V.str n.s)) ∧ H C = none ∧ S ≠ C ∧
    H1 F0 = some (.dK fk) ∧ Kv (unp (ov B H H1) F0) fk (fun m => if m ∈ (asc us).take i then (mrgk o b t w' m).1 else .no) ∧ H1 C = some (.lst vs) ∧ ClV H1 (((asc us).take i).flatMap fun n => (mrgk o b t w' n).2) vs) ?_ ?_ ?_ ?_
  · exact ⟨C0, _, _, _, _, _, [], [], rfl, gA, eS', hC, hSC0, eF', (kv_start _ _ _ _).cong fun n => by simp, eC', .nil⟩
  · rintro i σ H1 _ ⟨C, _, _, _, _, _, fk, vs, rfl, s1, eS, _⟩
    exact SqL.of eS
  · rintro i x σ H1 hx ⟨C, x7, x8, x9, x10, x11, fk, vs, rfl, s1, eS, nC, hSC, eF, KF, eC, cl⟩
    obtain ⟨n, hin, rfl⟩ := name_at hx
    obtain ⟨hnew, hmem⟩ := take_mem (asc_nodup us) hin
    have gnx : ((asc us).take (i + 1)).flatMap (fun n => (mrgk o b t w' n).2) = ((asc us).take i).flatMap (fun n => (mrgk o b t w' n).2) ++ (mrgk o b t w' n).2 := flat_next hin
    have lim1 : (((asc us).take (i + 1)).flatMap fun n => (mrgk o b t w' n).2).length ≤ 3125 := Nat.le_trans (flat_take _) (by rw [tot]; exact lim)
    rw [gnx, List.length_append] at lim1
    have lv := cl.len
    have kdo := dep_kid_lt no n
    have kdb := dep_kid_lt nb n
    have kdt := dep_kid_lt nt n
    refine ⟨_, rfl, _, rfl, (by show 1 ≤ sizeLine; decide), fun p1 hp1 => ?_⟩
    have g6 := same_new hp1 (.tup [.str n.s])
    refine way_cat (w := w') (Qw.SqT.mono g6 (Qw.SqT.mono s1 hw)) upd_same (by omega) fun wp' H3 g7 ew => ?_
    have s3 : Same H1 H3 := g6.trans g7
    have gdo : ∀ {p : Addr} {kvs : List (Key × V)}, H p = some (.dK kvs) → DGet H3 p (.str n.s) (valV kvs n.k) := fun e => .inl ⟨_, n.k, .inl (s3 _ _ (s1 _ _ e)), rfl, rfl⟩
    have isd : ∀ {p : Addr} {kvs : List (Key × V)}, H p = some (.dK kvs) → IsD H3 p := fun e => .inl ⟨_, .inl (s3 _ _ (s1 _ _ e))⟩
    have tb : TVn (.str "absent") B (b.kid n) ((valV kb n.k).getD (.str "absent")) := kv_getD Kb n _
    have to : TVn (.str "absent") B (o.kid n) ((valV ko n.k).getD (.str "absent")) := kv_getD Ko n _
    have tt : TVn (.str "absent") B (t.kid n) ((valV kt n.k).getD (.str "absent")) := kv_getD Kt n _
    refine ⟨_, rfl, pb, rfl, isd ebh, _, rfl, _, gdo ebh, ?_⟩
    refine ⟨_, rfl, po, rfl, isd eoh, _, rfl, _, gdo eoh, ?_⟩
    refine ⟨_, rfl, pt', rfl, isd eth, _, rfl, _, gdo eth, ?_⟩
    refine ⟨(by show 3 ≤ sizeLine; decide), fun L3 hL3 => ?_⟩
    generalize hxb : (valV kb n.k).getD (.str "absent") = xb at tb
    generalize hxo : (valV ko n.k).getD (.str "absent") = xo at to
    generalize hxt : (valV kt n.k).getD (.str "absent") = xt at tt
    have g9 := same_new hL3 (.lst [xb, xo, xt])
    have s4 : Same H1 (upd H3 L3 (.lst [xb, xo, xt])) := s3.trans g9
    have eL : upd H3 L3 (.lst [xb, xo, xt]) L3 = some (.lst [xb, xo, xt]) := upd_same
    have ew4 := g9 _ _ ew
    have hLC : L3 ≠ C := fun z => by rw [z, s3 _ _ eC] at hL3; cases hL3
    generalize upd H3 L3 (.lst [xb, xo, xt]) = H4 at s4 eL ew4
    have sH4 := s1.trans s4
    have nv : Nv (V.str "absent") := .inr rfl
    have bH4 : Same B H4 := hB.trans sH4
    -- what the three ways leave
    refine via_st2 (v := .ref L3) (i := 9) (R := fun σ' H' => ∃ C' vs' y x11', σ' = [some (.ref pb), some (.ref po), some (.ref pt'), some (.ref wp), some (.ref C'), some (.ref F0), some (.ref L), some (.str n.s), some (.ref wp'), some (.ref L3), some y, x11'] ∧ Same H H' ∧ H' S = some (.lst ((asc us).map fun n => V.str n.s)) ∧ H C' = none ∧ S ≠ C' ∧
      H' F0 = some (.dK fk) ∧ Kv (unp (ov B H H') F0) fk (fun m => if m ∈ (asc us).take i then (mrgk o b t w' m).1 else .no) ∧ H' C' = some (.lst vs') ∧ ClV H' (((asc us).take (i + 1)).flatMap fun n => (mrgk o b t w' n).2) vs' ∧
      ((((y = .str "clash" ∨ y = .str "absent") ∧ (mrgk o b t w' n).1 = .no)) ∨ TV (unp (ov B H H') F0) (mrgk o b t w' n).1 y)) ?_ ?_
    · -- the part is put where it is one
      rintro σ' H' ⟨C', vs', y, x11', rfl, sH', eS', nC', hSC', eF', KF', eC'', cl', hy⟩
      refine ⟨_, rfl, (by show 2 ≤ sizeLine; decide), fun pp hpp => ?_⟩
      have gz := same_new hpp (.tup [.str (Str.ofString "clash"), .str (Str.ofString "absent")])
      refine ⟨pp, rfl, SqT.of upd_same, ?_⟩
      have sz := sH'.trans gz
      have KZ := kv_stay KF' (H2 := upd H' pp (.tup [.str (Str.ofString "clash"), .str (Str.ofString "absent")])) fun b' u _ _ e => gz _ _ e
      rcases hy with ⟨hy, hno⟩ | hy
      · refine .inl ⟨hy, _, rfl, ?_⟩
        refine iteF ?_
        refine ⟨C', _, _, _, _, _, fk, vs', rfl, sz, gz _ _ eS', nC', hSC', gz _ _ eF', KZ.cong fun m => ?_, gz _ _ eC'', cl'.mono gz⟩
        by_cases hm : m = n
        · subst hm
          rw [if_neg hnew, if_pos ((hmem m).mpr (.inl rfl)), hno]
        · by_cases hm2 : m ∈ (asc us).take i
          · rw [if_pos hm2, if_pos ((hmem m).mpr (.inr hm2))]
          · rw [if_neg hm2, if_neg fun z => ((hmem m).mp z).elim hm hm2]
      · have vz : Same (unp (ov B H H') F0) (upd H' pp (.tup [.str (Str.ofString "clash"), .str (Str.ofString "absent")])) := (unp_same _ _).trans ((ov_same hB sH').trans gz)
        refine .inr ⟨⟨_, hy.mono vz⟩, _, rfl, ?_⟩
        refine iteT ?_
        have eFz := gz _ _ eF'
        refine ⟨_, rfl, _, rfl, _, rfl, F0, _, rfl, DPut.k (k := n.k) eFz KF'.len_lt, ?_⟩
        have hF7 : ∀ b' u, H b' = some u → b' ≠ F0 := fun b' u e => ne_of_none e hF0
        have hSF : S ≠ F0 := fun z => by rw [z, eF'] at eS'; cases eS'
        have hCF : C' ≠ F0 := fun z => by rw [z, eF'] at eC''; cases eC''
        refine ⟨C', _, _, _, _, _, _, vs', rfl, fun b' u e => by rw [upd_ne (hF7 b' u e)]; exact sz b' u e, by rw [upd_ne hSF]; exact gz _ _ eS', nC', hSC', upd_same, ?_, by rw [upd_ne hCF]; exact gz _ _ eC'', ?_⟩
        · have kv2 := kv_stay KZ (H2 := upd (upd H' pp (.tup [.str (Str.ofString "clash"), .str (Str.ofString "absent")])) F0 (.dK (putK fk n.k y))) fun b' u hb' h0 e => by rw [upd_ne hb']; exact e
          refine (Kv.put kv2 n (hy.mono (ov_keep fun b' u hb' _ e => by rw [upd_ne hb']; exact gz _ _ e))).cong fun m => ?_
          by_cases hm : m = n
          · subst hm
            rw [if_pos rfl, if_pos ((hmem m).mpr (.inl rfl))]
          · rw [if_neg hm]
            by_cases hm2 : m ∈ (asc us).take i
            · rw [if_pos hm2, if_pos ((hmem m).mpr (.inr hm2))]
            · rw [if_neg hm2, if_neg fun z => ((hmem m).mp z).elim hm hm2]
        · refine L2.Paired.mapP (cl'.mono gz) fun w2 v2 ⟨p2, h1, h2⟩ => ⟨p2, h1, ?_⟩
          have : p2 ≠ F0 := fun z => by rw [z, eFz] at h2; cases h2
          rw [upd_ne this]; exact h2
    · -- the three ways
      intro NN go
      have mk : mrgk o b t w' n = mrgp (o.kid n) (b.kid n) (t.kid n) (w' ++ [n]) := rfl
      rw [mrgp_eq] at mk
      have KF4 : Kv (unp (ov B H H4) F0) fk (fun m => if m ∈ (asc us).take i then (mrgk o b t w' m).1 else .no) := kv_stay KF fun b' u _ _ e => s4 _ _ e
      have plain : ∀ (u : Qw.T) (y : V), TVn (.str "absent") B u y → mrgk o b t w' n = (u, []) → NN [some (.ref pb), some (.ref po), some (.ref pt'), some (.ref wp), some (.ref C), some (.ref F0), some (.ref L), some (.str n.s), some (.ref wp'), some (.ref L3), some y, x11] H4 := fun u y hy hm => by
        refine go _ _ ⟨C, vs, y, _, rfl, sH4, s4 _ _ eS, nC, hSC, s4 _ _ eF, KF4, s4 _ _ eC, ?_, ?_⟩
        · rw [gnx, hm, List.append_nil]
          exact cl.mono s4
        · rw [hm]
          rcases hy with ⟨h1, h2⟩ | hy
          · exact .inl ⟨.inr h2, h1⟩
          · exact .inr (hy.mono (inV H4))
      refine ⟨_, rfl, L3, _, _, _, rfl, rfl, SqL.of eL, atI_nat (j := 1) rfl, _, rfl, L3, _, _, _, rfl, rfl, SqL.of eL, atI_nat (j := 2) rfl, _, o.kid n, t.kid n, nv, to.mono bH4, tt.mono bH4, by omega, _, rfl, ?_⟩
      refine ite2 (fun c1 => ?_) (fun c1 => ?_)
      · refine iteT ?_
        rw [if_pos (.inl (of_decide_eq_true c1))] at mk
        exact ⟨_, rfl, L3, _, _, _, rfl, rfl, SqL.of eL, atI_nat (j := 1) rfl, plain _ _ to mk⟩
      refine ⟨_, rfl, L3, _, _, _, rfl, rfl, SqL.of eL, atI_nat (j := 2) rfl, _, rfl, L3, _, _, _, rfl, rfl, SqL.of eL, atI_nat (j := 0) rfl, _, t.kid n, b.kid n, nv, tt.mono bH4, tb.mono bH4, by omega, _, rfl, ?_⟩
      refine ite2 (fun c2 => ?_) (fun c2 => ?_)
      · rw [if_pos (.inr (of_decide_eq_true c2))] at mk
        exact ⟨_, rfl, L3, _, _, _, rfl, rfl, SqL.of eL, atI_nat (j := 1) rfl, plain _ _ to mk⟩
      have n1 : ¬ (o.kid n = t.kid n ∨ t.kid n = b.kid n) := fun z => z.elim (fun e => c1 (decide_eq_true e)) fun e => c2 (decide_eq_true e)
      rw [if_neg n1] at mk
      refine ⟨_, rfl, L3, _, _, _, rfl, rfl, SqL.of eL, atI_nat (j := 1) rfl, _, rfl, L3, _, _, _, rfl, rfl, SqL.of eL, atI_nat (j := 0) rfl, _, o.kid n, b.kid n, nv, to.mono bH4, tb.mono bH4, by omega, _, rfl, ?_⟩
      refine ite2 (fun c3 => ?_) (fun c3 => ?_)
      · rw [if_pos (of_decide_eq_true c3)] at mk
        exact ⟨_, rfl, L3, _, _, _, rfl, rfl, SqL.of eL, atI_nat (j := 2) rfl, plain _ _ tt mk⟩
      rw [if_neg fun z => c3 (decide_eq_true z)] at mk
      have clash : ¬ ((o.kid n).isNd = true ∧ (t.kid n).isNd = true) → NN [some (.ref pb), some (.ref po), some (.ref pt'), some (.ref wp), some (.ref C), some (.ref F0), some (.ref L), some (.str n.s), some (.ref wp'), some (.ref L3), some (.str (Str.ofString "clash")), x11] (upd H4 C (.lst (vs ++ [.ref wp']))) := fun c => by
        rw [if_neg c] at mk
        have hCF : C ≠ F0 := fun z => by rw [z, eF] at eC; cases eC
        have hcw : wp' ≠ C := fun z => by rw [z, s4 _ _ eC] at ew4; cases ew4
        refine go _ _ ⟨C, vs ++ [.ref wp'], _, _, rfl, fun b' u e => by rw [upd_ne (ne_of_none e nC)]; exact sH4 _ _ e, by rw [upd_ne hSC]; exact s4 _ _ eS, nC, hSC, by rw [upd_ne hCF.symm]; exact s4 _ _ eF, KF4.monoD ?_, upd_same, ?_, .inl ⟨.inl rfl, by rw [mk]⟩⟩
        · intro b' kv e
          by_cases hb' : b' = F0
          · rw [hb', unp_at] at e; cases e
          rw [unp_ne hb'] at e ⊢
          cases q0 : H b' with
          | none =>
            rw [ov_new q0] at e ⊢
            rw [upd_ne (fun z => by rw [z, s4 _ _ eC] at e; cases e)]
            exact e
          | some u => rw [ov_old q0] at e ⊢; exact e
        · rw [gnx, mk]
          refine ClV.app (L2.Paired.mapP (cl.mono s4) fun w2 v2 ⟨p2, h1, h2⟩ => ⟨p2, h1, ?_⟩) (.cons ⟨wp', rfl, by rw [upd_ne hcw]; exact ew4⟩ .nil)
          rw [upd_ne (fun z => by rw [z, s4 _ _ eC] at h2; cases h2)]
          exact h2
      refine ⟨_, rfl, L3, _, _, _, rfl, rfl, SqL.of eL, atI_nat (j := 1) rfl, _, rfl, _, o.kid n, nv, to.mono bH4, _, rfl, ?_⟩
      refine ite2 (fun c4 => ?_) (fun c4 => ?_)
      · refine ⟨_, rfl, L3, _, _, _, rfl, rfl, SqL.of eL, atI_nat (j := 2) rfl, _, rfl, _, t.kid n, nv, tt.mono bH4, _, rfl, ?_⟩
        refine ite2 (fun c5 => ?_) (fun c5 => ?_)
        · rw [if_pos ⟨c4, c5⟩] at mk
          have d1 := dep_pos c4
          have tvo := to.tv fun z => by rw [z] at c4; cases c4
          have tvt := tt.tv fun z => by rw [z] at c5; cases c5
          refine ⟨_, rfl, L3, _, _, _, rfl, rfl, SqL.of eL, atI_nat (j := 0) rfl, _, rfl, _, b.kid n, nv, tb.mono bH4, _, rfl, ?_⟩
          refine ite2 (fun c6 => ?_) (fun c6 => ?_)
          · have tvb := tb.tv fun z => by rw [z] at c6; cases c6
            refine ⟨_, rfl, L3, _, _, _, rfl, rfl, SqL.of eL, atI_nat (j := 0) rfl, ?_⟩
            have eX : mrgd (o.kid n) (b.kid n) (t.kid n) (w' ++ [n]) = mrgd (o.kid n) (b.kid n) (t.kid n) (w' ++ [n]) := rfl
            have sX : Same H4 H4 := Same.refl _
            have e7 : ∀ {b' : Addr} {u : HO}, H1 b' = some u → H4 b' = some u := fun e => sX _ _ (s4 _ _ e)
            refine ⟨_, rfl, L3, _, _, _, rfl, rfl, SqL.of (sX _ _ eL), atI_nat (j := 1) rfl, _, rfl, L3, _, _, _, rfl, rfl, SqL.of (sX _ _ eL), atI_nat (j := 2) rfl, _, rfl, ?_⟩
            refine ⟨unp (ov B H H4) F0, b.kid n, o.kid n, t.kid n, _, xo, xt, wp', w' ++ [n], rfl, (unp_same _ _).trans (ov_same hB (sH4.trans sX)), tvb.mono (inV H4), tvo.mono (inV H4), tvt.mono (inV H4), c6, c4, c5, .of (sX _ _ ew4), by omega, by omega, by omega, by omega, (by rw [List.length_append, List.length_singleton]; omega), fun p qq r us2 H8 s8 e1 tr e2 cl2 => ?_⟩
            refine ⟨p, _, rfl, SqT.of e1, rfl, ?_⟩
            refine ⟨_, _, rfl, _, _, rfl, rfl, ?_⟩
            rw [eX] at tr cl2
            have lu := cl2.len
            have l2 : (mrgk o b t w' n).2.length = us2.length := by rw [mk, lu]
            refine ⟨_, rfl, _, rfl, C, qq, vs, us2, rfl, rfl, s8 _ _ (e7 eC), e2, (by rw [lv, sizeLine_eq]; omega), fun C' hC' => ?_⟩
            have g10 := same_new hC' (.lst (vs ++ us2))
            have sz := s8.trans g10
            have sHz : Same H (upd H8 C' (.lst (vs ++ us2))) := sH4.trans (sX.trans sz)
            have eSz := sz _ _ (e7 eS)
            refine go _ _ ⟨C', vs ++ us2, _, _, rfl, sHz, eSz, (sH4.trans (sX.trans s8)).free hC', (fun z => by have := s8 _ _ (e7 eS); rw [z, hC'] at this; cases this), sz _ _ (e7 eF), kv_stay KF (fun b' u _ _ e => sz _ _ (e7 e)), upd_same, ?_, .inr ?_⟩
            · rw [gnx, mk]
              exact (cl.mono (s4.trans (sX.trans sz))).app (cl2.mono g10)
            · rw [mk]
              exact (tr.mono (ov_mono g10)).mono (ov_step hB hF0 ⟨_, e7 eF⟩ (fun b' u e => ⟨_, sX _ _ (sH4 _ _ e)⟩) fun b' u _ e => sz _ _ e)
          · have c6' : (b.kid n).isNd = false := by simpa using c6
            intro D hD
            have sX : Same H4 (upd H4 D (.dK [])) := same_new hD (.dK [])
            have eX := mrgd_emp (o.kid n) (t.kid n) (w' ++ [n]) c6'
            have hDF : D ≠ F0 := fun z => by rw [z, s4 _ _ eF] at hD; cases hD
            have tX : TV (unp (ov B H (upd H4 D (.dK []))) F0) Qw.T.emp (.ref D) := emp_tv (by rw [unp_ne hDF, ov_new (sH4.free hD), upd_same])
            generalize upd H4 D (.dK []) = H5 at sX tX
            have e7 : ∀ {b' : Addr} {u : HO}, H1 b' = some u → H5 b' = some u := fun e => sX _ _ (s4 _ _ e)
            refine ⟨_, rfl, L3, _, _, _, rfl, rfl, SqL.of (sX _ _ eL), atI_nat (j := 1) rfl, _, rfl, L3, _, _, _, rfl, rfl, SqL.of (sX _ _ eL), atI_nat (j := 2) rfl, _, rfl, ?_⟩
            refine ⟨unp (ov B H H5) F0, Qw.T.emp, o.kid n, t.kid n, _, xo, xt, wp', w' ++ [n], rfl, (unp_same _ _).trans (ov_same hB (sH4.trans sX)), tX, tvo.mono (inV H5), tvt.mono (inV H5), rfl, c4, c5, .of (sX _ _ ew4), by omega, (by show 1 ≤ k; omega), by omega, by omega, (by rw [List.length_append, List.length_singleton]; omega), fun p qq r us2 H8 s8 e1 tr e2 cl2 => ?_⟩
            refine ⟨p, _, rfl, SqT.of e1, rfl, ?_⟩
            refine ⟨_, _, rfl, _, _, rfl, rfl, ?_⟩
            rw [eX] at tr cl2
            have lu := cl2.len
            have l2 : (mrgk o b t w' n).2.length = us2.length := by rw [mk, lu]
            refine ⟨_, rfl, _, rfl, C, qq, vs, us2, rfl, rfl, s8 _ _ (e7 eC), e2, (by rw [lv, sizeLine_eq]; omega), fun C' hC' => ?_⟩
            have g10 := same_new hC' (.lst (vs ++ us2))
            have sz := s8.trans g10
            have sHz : Same H (upd H8 C' (.lst (vs ++ us2))) := sH4.trans (sX.trans sz)
            have eSz := sz _ _ (e7 eS)
            refine go _ _ ⟨C', vs ++ us2, _, _, rfl, sHz, eSz, (sH4.trans (sX.trans s8)).free hC', (fun z => by have := s8 _ _ (e7 eS); rw [z, hC'] at this; cases this), sz _ _ (e7 eF), kv_stay KF (fun b' u _ _ e => sz _ _ (e7 e)), upd_same, ?_, .inr ?_⟩
            · rw [gnx, mk]
              exact (cl.mono (s4.trans (sX.trans sz))).app (cl2.mono g10)
            · rw [mk]
              exact (tr.mono (ov_mono g10)).mono (ov_step hB hF0 ⟨_, e7 eF⟩ (fun b' u e => ⟨_, sX _ _ (sH4 _ _ e)⟩) fun b' u _ e => sz _ _ e)
        · exact ⟨_, rfl, .inl ⟨rfl, _, SqL.of (s4 _ _ eC)⟩, _, rfl, C, vs, _, rfl, rfl, s4 _ _ eC, (by rw [lv, sizeLine_eq]; omega), clash fun z => c5 z.2⟩
      · refine iteF ?_
        exact ⟨_, rfl, .inl ⟨rfl, _, SqL.of (s4 _ _ eC)⟩, _, rfl, C, vs, _, rfl, rfl, s4 _ _ eC, (by rw [lv, sizeLine_eq]; omega), clash fun z => c4 z.1⟩
  · rintro σ H1 ⟨C, x7, x8, x9, x10, x11, fk, vs, rfl, s1, eS, nC, hSC, eF, KF, eC, cl⟩
    rw [List.length_map, List.take_length] at KF cl
    rw [tot] at cl
    refine ⟨_, rfl, _, rfl, (by show 2 ≤ sizeLine; decide), fun p hp => ?_⟩
    have gz := same_new hp (.tup [.ref F0, .ref C])
    refine q p C F0 vs _ (s1.trans gz) upd_same ?_ (gz _ _ eC) (cl.mono gz)
    have kf := (kv_fin KF hF0 eF).mono (ov_mono gz)
    have e : Qw.T.mk (fun m => if m ∈ asc us then (mrgk o b t w' m).1 else .no) = (mrgd o b t w').1 := by
      rw [mrgd_fst]
      refine mk_ext fun n => ?_
      split
      · rfl
      · rename_i h
        have z1 : o.kid n = .no := Classical.byContradiction fun z => h (mem_asc.mpr ((umem n).mpr (.inl z)))
        have z2 : t.kid n = .no := Classical.byContradiction fun z => h (mem_asc.mpr ((umem n).mpr (.inr z)))
        rw [mrgk, z1, z2, mrgp_no]
    rw [e] at kf
    exact kf
end
end Qw

-- QwD24
namespace Qw
open PySem PySem.Spec PyProof.Rows L2
open C8 (Cal pe_c)

theorem sh_form (t : T) : t.sh = .tree ∨ t.sh = .val .no ∨ ∃ l, t.sh = .val (.lf l) := by
  cases t with
  | no => exact .inr (.inl rfl)
  | lf l => exact .inr (.inr ⟨l, rfl⟩)
  | nd a b c d e => exact .inl rfl
theorem sh_eqv (t u : T) : PyData.eqv t.sh.d u.sh.d = decide (t.sh = u.sh) := by
  rcases sh_form t with h | h | ⟨l, h⟩ <;> rcases sh_form u with h' | h' | ⟨m, h'⟩ <;> rw [h, h']
  · decide +kernel
  · decide +kernel
  · cases m <;> decide +kernel
  · decide +kernel
  · decide +kernel
  · cases m <;> decide +kernel
  · cases l <;> decide +kernel
  · cases l <;> decide +kernel
  · cases l <;> cases m <;> decide +kernel
theorem sh_shaped (t : T) : SeqAt.shaped t.sh.d = true := by
  rcases sh_form t with h | h | ⟨l, h⟩ <;> rw [h]
  · decide +kernel
  · decide +kernel
  · cases l <;> decide +kernel
theorem dp_mono {K : PySem.W.Frag} {H H' : Hp} (g : Same H H') (t : T) {x : V} (h : Dp K H x t.sh.d) : Dp K H' x t.sh.d := by
  rcases sh_form t with e | e | ⟨l, e⟩ <;> rw [e] at h ⊢ <;> cases h
  · exact .str _
  · rename_i a xs hs ha
    exact .tup (Qw.SqT.mono g hs) (by cases ha with | cons h1 h2 => cases h1; cases h2 with | cons h3 h4 => cases h3; cases h4; exact .cons (.str _) (.cons (.str _) .nil))
  · rename_i a xs hs ha
    exact .tup (Qw.SqT.mono g hs) (by cases ha with | cons h1 h2 => cases h1; cases h2 with | cons h3 h4 => cases h3; cases h4; exact .cons (.str _) (.cons (.str _) .nil))
theorem ref_at {As : List Addr} {i : Nat} {x : V} (e : (As.map V.ref)[i]? = some x) : ∃ b, As[i]? = some b ∧ x = .ref b := by
  rw [List.getElem?_map] at e
  cases z : As[i]? with
  | none => rw [z] at e; cases e
  | some n => rw [z] at e; exact ⟨n, rfl, (Option.some.inj e).symm⟩
-- [(0, '_law_one'), (1, '_law_other'), (2, '_law_ways_here'), (3, '_law_way')]
def N_law_differences : List Str := ["_law_one", "_law_other", "_law_ways_here", "_law_way"]
theorem sc_law_differences : FnScope N_law_differences ["_law_one", "_law_other", "_law_ways_here"] (defScope (topS 24)) := ⟨rfl, rfl, rfl, by decide +kernel, rfl, by decide +kernel, by decide +kernel⟩
section
variable {P : Program} {w : World} {K : PySem.W.Frag} {mg : Str → Option Value} {base : Heap} {f : Addr} {fd : FuncData}
theorem ok_law_differences {j : Nat} (F : Fun K "_law_differences" "_law_differences" (topS 24) f fd) (T : Tx mg) (c_law_shape : Cal P w K mg base j "_law_shape" (spShape K) []) : FnOk P w K mg base CX0 (j + 1) f fd ["_law_one", "_law_other", "_law_ways_here"] (spDiff K) := by
  refine F.ok sc_law_differences (fun vs H Q E h => ?_) (fun cdv A outer s H vs Q E hr h => ?_)
  · obtain ⟨v, u, t, o, l, As, rfl, _⟩ := h
    rfl
  have nd := sc_law_differences.nd
  have hu := hu_of hr
  have hu64 := hr.units
  obtain ⟨v, u, t, o, l, As, rfl, ht, ho, hl, h1000, hA, q⟩ := h
  refine ⟨_, (pss_one (ps_ret (pe_lc (own := [("_law_way", 3)]) (g := gName 3)  rfl nd (pi_list (pv 2)) (blkOk_by (own := [("_law_way", 3)]) (N := N_law_differences) (sc := defScope (topS 24)) (by decide +kernel)) (fun _ _ _ _ _ => pg_name (i := 3) nd rfl (Or.inl rfl)) (fun _ _ _ _ _ => pts_one (pt_cmpR (show OpR _ (compareOp .NotEq) (rNeD K) from op_neD hu64) (pe_c c_law_shape hr (by omega) rfl (pa_cons (pv 0) (pa_cons (pv 3) pa_nil))) (pe_c c_law_shape hr (by omega) rfl (pa_cons (pv 1) (pa_cons (pv 3) pa_nil))) (nomark _))) (fun _ _ _ _ _ => (pv 3))))), ?_⟩
  refine ⟨_, rfl, l, rfl, ⟨_, hl⟩, fun D hD => ?_⟩
  have g0 := same_new hD (.lst [])
  refine lc_list (xs := As.map V.ref) (fun i H1 => Same H H1 ∧ ∃ Bs : List Addr, H1 D = some (.lst (Bs.map V.ref)) ∧ Bs.length ≤ i ∧ ∀ b ∈ Bs, ∃ w, SqT K H b (Way.s w) ∧ (t.at w).sh ≠ (o.at w).sh) ⟨g0, [], upd_same, Nat.le_refl _, fun _ h => nomatch h⟩ (fun i H1 _ h => h.1.seq hl) ?_ ?_
  · rintro i x H1 hx ⟨s1, Bs, e1, hlen, hB⟩
    obtain ⟨b, hb, rfl⟩ := ref_at hx
    obtain ⟨w', hw⟩ := hA b (List.mem_of_getElem? hb)
    have hi : i < As.length := (List.getElem?_eq_some_iff.mp hb).1
    refine ⟨rfl, ?_⟩
    refine ⟨_, rfl, _, rfl, v, t, b, w', rfl, ht.mono s1, Qw.SqT.mono s1 hw, fun x1 H2 s2 d1 => ?_⟩
    refine ⟨_, rfl, _, rfl, u, o, b, w', rfl, (ho.mono s1).mono s2, Qw.SqT.mono (s1.trans s2) hw, fun x2 H3 s3 d2 => ?_⟩
    refine ⟨_, _, dp_mono s3 _ d1, d2, sh_shaped _, sh_shaped _, _, rfl, ?_⟩
    rw [sh_eqv]
    have sA := s1.trans (s2.trans s3)
    have eD : H3 D = some (.lst (Bs.map V.ref)) := s3 _ _ (s2 _ _ e1)
    refine ite2 (fun c => ?_) (fun c => ?_)
    · refine ⟨_, rfl, _, eD, by rw [List.length_map]; exact small1000 (by omega), ?_, Bs ++ [b], ?_, by rw [List.length_append, List.length_singleton]; omega, fun b' hb' => ?_⟩
      · intro b' u' e
        rw [upd_ne (ne_of_none e hD)]
        exact sA b' u' e
      · rw [upd_same, List.map_append]
        rfl
      · rcases List.mem_append.mp hb' with h | h
        · exact hB b' h
        · rw [List.mem_singleton.mp h]
          exact ⟨w', hw, fun z => by rw [decide_eq_true z] at c; exact absurd c (by decide)⟩
    · exact ⟨sA, Bs, eD, by omega, hB⟩
  · rintro H1 ⟨s1, Bs, e1, hlen, hB⟩
    exact q D Bs H1 s1 e1 hB
end
end Qw

-- QwD25
namespace Qw
open PySem PySem.Spec PyProof.Rows L2
open C8 (Cal pe_c)

-- [(0, '_law_tree_here'), (1, '_law_way'), (2, '_law_part')]
def N_law_shape : List Str := ["_law_tree_here", "_law_way", "_law_part"]
theorem sc_law_shape : FnScope N_law_shape ["_law_tree_here", "_law_way"] (defScope (topS 25)) := ⟨rfl, rfl, rfl, by decide +kernel, rfl, by decide +kernel, by decide +kernel⟩
section
variable {P : Program} {w : World} {K : PySem.W.Frag} {mg : Str → Option Value} {base : Heap} {f : Addr} {fd : FuncData}
theorem ok_law_shape {j : Nat} (F : Fun K "_law_shape" "_law_shape" (topS 25) f fd) (T : Tx mg) (c_law_at : Cal P w K mg base j "_law_at" (spAt K) []) : FnOk P w K mg base CX0 (j + 1) f fd ["_law_tree_here", "_law_way"] (spShape K) := by
  refine F.ok sc_law_shape (fun vs H Q E h => ?_) (fun cdv A outer s H vs Q E hr h => ?_)
  · obtain ⟨v, t, p, w', rfl, _⟩ := h
    rfl
  have nd := sc_law_shape.nd
  have hu := hu_of hr
  have hu64 := hr.units
  obtain ⟨v, t, p, w', rfl, ht, hw, q⟩ := h
  refine ⟨_, (pss_cons (ps_set (i := 2) nd rfl (Or.inl rfl) (pe_c c_law_at hr (by omega) rfl (pa_cons (pv 0) (pa_cons (pv 1) pa_nil))))
    (pss_one (ps_ret (pe_ifExp (pt_val (pe_callB call_isd rfl T.isinstance bt_isinstance (pa_cons (pv 2) (pa_cons (pe_bltn (v := .ty "dict") rfl T.dict bt_dict rfl) pa_nil)))) pe_str (pe_tup (pa_cons pe_str (pa_cons (pv 2) pa_nil))))))), ?_⟩
  refine ⟨_, rfl, _, rfl, v, t, p, w', rfl, ht, hw, fun x tv => ?_⟩
  refine ⟨_, rfl, _, rfl, .str "absent", _, .inr rfl, tv, _, rfl, ?_⟩
  refine ite2 (fun c => ?_) (fun c => ?_)
  · refine q _ H (Same.refl _) ?_
    rw [sh_nd c]
    exact Dp.str _
  · have c' : (t.at w').isNd = false := by simpa using c
    refine ⟨_, rfl, (by show 2 ≤ sizeLine; decide), fun r hr2 => q _ _ (same_new hr2 _) ?_⟩
    rw [sh_val c']
    rcases tv with ⟨e, rfl⟩ | tv
    · rw [e]
      exact Dp.tup (SqT.of upd_same) (.cons (.str _) (.cons (.str _) .nil))
    · rcases tv.cases with ⟨l, e, rfl⟩ | ⟨nt, _⟩
      · rw [e]
        exact Dp.tup (SqT.of upd_same) (.cons (.str _) (.cons (.str _) .nil))
      · rw [nt] at c'; cases c'
end
end Qw

-- QwD26
namespace Qw
open PySem PySem.Spec PyProof.Rows L2
open C8 (Cal pe_c)

/-- two dicts of the def's own, over all the rest -/
structure Two (H : Hp) (A B : Addr) (ka kb : List (Key × V)) (fa fb : Nm → Qw.T) : Prop where
  a : H A = some (.dK ka)
  b : H B = some (.dK kb)
  ne : A ≠ B
  ka : Kv (unp (unp H A) B) ka fa
  kb : Kv (unp (unp H A) B) kb fb
theorem unp_swap (H : Hp) (A B : Addr) : unp (unp H A) B = unp (unp H B) A := by
  funext b
  unfold unp
  split <;> split <;> rfl
theorem Two.swap {H : Hp} {A B : Addr} {ka kb : List (Key × V)} {fa fb : Nm → Qw.T} (h : Two H A B ka kb fa fb) : Two H B A kb ka fb fa :=
  ⟨h.b, h.a, h.ne.symm, by rw [unp_swap]; exact h.kb, by rw [unp_swap]; exact h.ka⟩
theorem two_sub {H H' : Hp} {A B : Addr} (g : ∀ b o, b ≠ A → b ≠ B → H b = some (.dK o) → H' b = some (.dK o)) : SameD (unp (unp H A) B) (unp (unp H' A) B) := fun b o e => by
  by_cases h1 : b = B
  · rw [h1, unp_at] at e; cases e
  rw [unp_ne h1] at e ⊢
  by_cases h2 : b = A
  · rw [h2, unp_at] at e; cases e
  rw [unp_ne h2] at e ⊢
  exact g b o h2 h1 e
theorem Two.off {H H' : Hp} {A B S C : Addr} {ka kb : List (Key × V)} {fa fb : Nm → Qw.T} (h : Two H A B ka kb fa fb) (st : St2 H S C) (g : Off S C H H') : Two H' A B ka kb fa fb :=
  ⟨g.d st _ _ h.a, g.d st _ _ h.b, h.ne, h.ka.monoD (two_sub fun b o _ _ e => g.d st _ _ e), h.kb.monoD (two_sub fun b o _ _ e => g.d st _ _ e)⟩
theorem Two.put {H : Hp} {A B : Addr} {ka kb : List (Key × V)} {fa fb : Nm → Qw.T} (h : Two H A B ka kb fa fb) (n : Nm) {u : Qw.T} {v : V} (hv : TV (unp (unp H A) B) u v) : Two (upd H A (.dK (putK ka n.k v))) A B (putK ka n.k v) kb (fun m => if m = n then u else fa m) fb := by
  have s : SameD (unp (unp H A) B) (unp (unp (upd H A (.dK (putK ka n.k v))) A) B) := two_sub fun b o h1 _ e => by rw [upd_ne h1]; exact e
  exact ⟨upd_same, by rw [upd_ne h.ne.symm]; exact h.b, h.ne, (h.ka.put n hv).monoD s, h.kb.monoD s⟩
theorem Two.drop {H : Hp} {A B : Addr} {ka kb : List (Key × V)} {fa fb : Nm → Qw.T} (h : Two H A B ka kb fa fb) (n : Nm) : Two (upd H A (.dK (dropK ka n.k))) A B (dropK ka n.k) kb (fun m => if m = n then .no else fa m) fb := by
  have s : SameD (unp (unp H A) B) (unp (unp (upd H A (.dK (dropK ka n.k))) A) B) := two_sub fun b o h1 _ e => by rw [upd_ne h1]; exact e
  exact ⟨upd_same, by rw [upd_ne h.ne.symm]; exact h.b, h.ne, (h.ka.drop n).monoD s, h.kb.monoD s⟩
-- [(0, '_law_state_here'), (1, '_law_base'), (2, '_law_one'), (3, '_law_other'), (4, '_law_name'), (5, '_law_side'), (6, '_law_kind')]
def N_law_apart : List Str := ["_law_state_here", "_law_base", "_law_one", "_law_other", "_law_name", "_law_side", "_law_kind"]
theorem sc_law_apart : FnScope N_law_apart ["_law_state_here", "_law_base"] (defScope (topS 26)) := ⟨rfl, rfl, rfl, by decide +kernel, rfl, by decide +kernel, by decide +kernel⟩
section
variable {P : Program} {w : World} {K : PySem.W.Frag} {mg : Str → Option Value} {base : Heap} {f : Addr} {fd : FuncData}
theorem ok_law_apart {j : Nat} (hj : 1 ≤ j) (F : Fun K "_law_apart" "_law_apart" (topS 26) f fd) (T : Tx mg) (c_law_draw : Cal P w K mg base 1 "_law_draw" spDraw []) (c_law_tree : Cal P w K mg base j "_law_tree" (spTree 2) []) : FnOk P w K mg base CX0 (j + 1) f fd ["_law_state_here", "_law_base"] spApart := by
  refine F.ok sc_law_apart (fun vs H Q E h => ?_) (fun cdv A outer s H vs Q E hr h => ?_)
  · obtain ⟨S, C, v, t, rfl, _⟩ := h
    rfl
  have nd := sc_law_apart.nd
  have hu := hu_of hr
  have hu64 := hr.units
  obtain ⟨S, C, v, t, rfl, st, ht, nt, dt, q⟩ := h
  refine ⟨_, (pss_cons (ps_set (i := 2) nd rfl (Or.inl rfl) (pe_callTy call_dictD rfl T.dict bt_dict (pa_cons (pv 1) pa_nil)))
    (pss_cons (ps_set (i := 3) nd rfl (Or.inl rfl) (pe_callTy call_dictD rfl T.dict bt_dict (pa_cons (pv 1) pa_nil)))
    (pss_cons (ps_for PassesOwn.never rfl (pi_list (pe_lst (pa_cons pe_str (pa_cons pe_str (pa_cons pe_str (pa_cons pe_str (pa_cons pe_str pa_nil))))))) (pg_name (i := 4) nd rfl (Or.inl rfl))
      (pss_cons (ps_set (i := 5) nd rfl (Or.inl rfl) (pe_ix ix_list (pe_lst (pa_cons (pv 2) (pa_cons (pv 3) pa_nil))) (pe_c c_law_draw hr (by omega) rfl (pa_cons (pv 0) (pa_cons pe_int pa_nil))) (fun _ _ => rfl)))
      (pss_cons (ps_set (i := 6) nd rfl (Or.inl rfl) (pe_c c_law_draw hr (by omega) rfl (pa_cons (pv 0) (pa_cons pe_int pa_nil))))
      (pss_one (ps_if (pt_cmpR op_eq (pv 6) pe_int (nomark _))
        (pss_one (ps_dput hu (pv 5) (pv 4) (pe_c c_law_tree hr (by omega) rfl (pa_cons (pv 0) (pa_cons pe_int pa_nil))) rfl))
        (pss_one (ps_if (pt_cmpR op_eq (pv 6) pe_int (nomark _))
          (pss_one (ps_dput hu (pv 5) (pv 4) pe_str rfl))
          (pss_one (ps_if (PW.pt (pw_and (pt_cmpR op_eq (pv 6) pe_int (nomark _)) (pw_and1 (pt_cmp (pc_din hu (pv 4) (pv 5))))))
            (pss_one (ps_expr (pe_dpop1 (pv 5) (pv 4) ⟨rfl, rfl, rfl, rfl⟩)))
            pss_nil)))))))))
    (pss_one (ps_ret (pe_tup (pa_cons (pv 2) (pa_cons (pv 3) pa_nil)))))))), ?_⟩
  obtain ⟨p, kvs, rfl, hp, hk⟩ := (TV_nd nt).mp ht
  refine ⟨_, rfl, p, kvs, rfl, .inl hp, fun A hA => ?_⟩
  have gA := same_new hA (.dK kvs)
  refine ⟨_, rfl, p, kvs, rfl, .inl (gA _ _ hp), fun B hB => ?_⟩
  have gB := same_new hB (.dK kvs)
  have hAB : A ≠ B := ne_of_none upd_same hB
  have hB0 := gA.free hB
  have two0 : Two (upd (upd H A (.dK kvs)) B (.dK kvs)) A B kvs kvs t.kid t.kid := by
    have s : Same H (unp (unp (upd (upd H A (.dK kvs)) B (.dK kvs)) A) B) := fun b o e => by
      rw [unp_ne (ne_of_none e hB0), unp_ne (ne_of_none e hA)]
      exact gB _ _ (gA _ _ e)
    exact ⟨gB _ _ upd_same, upd_same, hAB, hk.mono s, hk.mono s⟩
  have sAB := gA.trans gB
  generalize upd (upd H A (.dK kvs)) B (.dK kvs) = H2 at two0 sAB
  refine ⟨(by show 5 ≤ sizeLine; decide), fun L hL => ?_⟩
  have gL := same_new hL (.lst (names.map fun n => V.str n.s))
  have hLs := (st.mono sAB).new hL
  refine ⟨L, rfl, ⟨names.map fun n => V.str n.s, SqL.of upd_same⟩, ?_⟩
  refine for_list (xs := names.map fun n => V.str n.s) (fun i σ H3 => ∃ x4 x5 x6 ka kb fa fb, σ = [some (.ref S), some (.ref p), some (.ref A), some (.ref B), x4, x5, x6] ∧ St2 H3 S C ∧ Off S C H H3 ∧ H3 L = some (.lst (names.map fun n => V.str n.s)) ∧ Two H3 A B ka kb fa fb ∧
    (∀ n, (fa n).dep ≤ 2) ∧ (∀ n, (fb n).dep ≤ 2) ∧ (∀ n, fa n = t.kid n ∨ fb n = t.kid n) ∧ (∀ n, n ∉ names.take i → fa n = t.kid n ∧ fb n = t.kid n)) ?_ ?_ ?_ ?_
  · have d2 : ∀ n, (t.kid n).dep ≤ 2 := fun n => by have := dep_kid_lt nt n; omega
    exact ⟨_, _, _, kvs, kvs, t.kid, t.kid, rfl, (st.mono sAB).mono gL, Same.off (sAB.trans gL) S C, upd_same, two0.off (st.mono sAB) (Same.off gL S C), d2, d2, fun n => .inl rfl, fun n _ => ⟨rfl, rfl⟩⟩
  · rintro i σ H3 _ ⟨_, _, _, _, _, _, _, _, _, _, h, _⟩
    exact SqL.of h
  · rintro i x σ H3 hx ⟨x4, x5, x6, ka, kb, fa, fb, rfl, st3, of3, eL, two, da, db, hor, hin⟩
    obtain ⟨n, hn, rfl⟩ := name_at hx
    obtain ⟨hnew, hmem⟩ := take_mem names_nodup hn
    refine ⟨_, rfl, _, rfl, (by show 2 ≤ sizeLine; decide), fun l hl => ⟨_, rfl, draw_pick (E := C8.E0) (P := fun v => v = .ref A ∨ v = .ref B) ?_ (by decide) (by decide) st3 (fun v H4 hv st4 of4 => ?_) l hl⟩⟩
    · intro r h0 h1
      rcases (by omega : r = 0 ∨ r = 1) with rfl | rfl
      · exact ⟨_, .inl rfl, rfl⟩
      · exact ⟨_, .inr rfl, rfl⟩
    obtain ⟨X, Y, kx, ky, fx, fy, rfl, hXY⟩ : ∃ X Y kx ky fx fy, v = .ref X ∧ ((X = A ∧ Y = B ∧ kx = ka ∧ ky = kb ∧ fx = fa ∧ fy = fb) ∨ (X = B ∧ Y = A ∧ kx = kb ∧ ky = ka ∧ fx = fb ∧ fy = fa)) := by
      rcases hv with rfl | rfl
      · exact ⟨A, B, ka, kb, fa, fb, rfl, .inl ⟨rfl, rfl, rfl, rfl, rfl, rfl⟩⟩
      · exact ⟨B, A, kb, ka, fb, fa, rfl, .inr ⟨rfl, rfl, rfl, rfl, rfl, rfl⟩⟩
    have twoX : Two H3 X Y kx ky fx fy := by
      rcases hXY with ⟨rfl, rfl, rfl, rfl, rfl, rfl⟩ | ⟨rfl, rfl, rfl, rfl, rfl, rfl⟩
      · exact two
      · exact two.swap
    have dX : ∀ n, (fx n).dep ≤ 2 := by
      rcases hXY with ⟨_, _, _, _, rfl, _⟩ | ⟨_, _, _, _, rfl, _⟩
      · exact da
      · exact db
    have hXnew : H X = none := by rcases hXY with ⟨rfl, _⟩ | ⟨rfl, _⟩ <;> assumption
    have hXs := st.new hXnew
    have eL4 := of4 L _ hLs.1 hLs.2 eL
    -- the end of a turn
    have fin : ∀ (x6 : Option V) (H' : Hp) (kx' : List (Key × V)) (fx' : Nm → Qw.T), St2 H' S C → Off S C H H' → H' L = some (.lst (names.map fun n => V.str n.s)) → Two H' X Y kx' ky fx' fy → (∀ m, m ≠ n → fx' m = fx m) → (∀ m, (fx' m).dep ≤ 2) →
        ∃ x4 x5 x6' ka kb fa fb, [some (V.ref S), some (V.ref p), some (V.ref A), some (V.ref B), some (V.str n.s), some (V.ref X), x6] = [some (.ref S), some (.ref p), some (.ref A), some (.ref B), x4, x5, x6'] ∧ St2 H' S C ∧ Off S C H H' ∧ H' L = some (.lst (names.map fun n => V.str n.s)) ∧ Two H' A B ka kb fa fb ∧
          (∀ n, (fa n).dep ≤ 2) ∧ (∀ n, (fb n).dep ≤ 2) ∧ (∀ n, fa n = t.kid n ∨ fb n = t.kid n) ∧ (∀ m, m ∉ names.take (i + 1) → fa m = t.kid m ∧ fb m = t.kid m) := by
      intro x6 H' kx' fx' st' of' eL' two' hne hd
      have out : ∀ m, m ∉ names.take (i + 1) → m ≠ n ∧ m ∉ names.take i := fun m hm => ⟨fun z => hm ((hmem m).mpr (.inl z)), fun z => hm ((hmem m).mpr (.inr z))⟩
      rcases hXY with ⟨rfl, rfl, rfl, rfl, rfl, rfl⟩ | ⟨rfl, rfl, rfl, rfl, rfl, rfl⟩
      · refine ⟨_, _, _, kx', ky, fx', fy, rfl, st', of', eL', two', hd, db, fun m => ?_, fun m hm => ?_⟩
        · by_cases hm : m = n
          · subst hm; exact .inr (hin m hnew).2
          · rw [hne m hm]; exact hor m
        · rw [hne m (out m hm).1]; exact hin m (out m hm).2
      · refine ⟨_, _, _, ky, kx', fy, fx', rfl, st', of', eL', two'.swap, da, hd, fun m => ?_, fun m hm => ?_⟩
        · by_cases hm : m = n
          · subst hm; exact .inl (hin m hnew).1
          · rw [hne m hm]; exact hor m
        · rw [hne m (out m hm).1]; exact hin m (out m hm).2
    have put : ∀ (H5 : Hp) (u : Qw.T) (y : V), St2 H5 S C → Off S C H3 H5 → TV (unp (unp H5 X) Y) u y → u.dep ≤ 2 → ∀ x6, ∃ H6, DPut H5 X (.str n.s) y H6 ∧ ∃ x4 x5 x6' ka kb fa fb, [some (V.ref S), some (V.ref p), some (V.ref A), some (V.ref B), some (V.str n.s), some (V.ref X), x6] = [some (.ref S), some (.ref p), some (.ref A), some (.ref B), x4, x5, x6'] ∧ St2 H6 S C ∧ Off S C H H6 ∧ H6 L = some (.lst (names.map fun n => V.str n.s)) ∧ Two H6 A B ka kb fa fb ∧
          (∀ n, (fa n).dep ≤ 2) ∧ (∀ n, (fb n).dep ≤ 2) ∧ (∀ n, fa n = t.kid n ∨ fb n = t.kid n) ∧ (∀ m, m ∉ names.take (i + 1) → fa m = t.kid m ∧ fb m = t.kid m) := by
      intro H5 u y st5 of5 tv du x6
      have two5 := twoX.off st3 of5
      refine ⟨_, DPut.k (k := n.k) two5.a two5.ka.len_lt, fin x6 _ _ _ (st_upd st5 hXs.1 hXs.2) ?_ ?_ (two5.put n tv) (fun m hm => if_neg hm) fun m => ?_⟩
      · intro b o h1 h2 e
        rw [upd_ne (ne_of_none e hXnew)]
        exact (of3.trans of5) b o h1 h2 e
      · rw [upd_ne (fun z => by have := of5 L _ hLs.1 hLs.2 eL; rw [z, two5.a] at this; cases this)]
        exact of5 L _ hLs.1 hLs.2 eL
      · split
        · exact du
        · exact dX m
    refine ⟨_, rfl, S, C, 4, rfl, by decide, by decide, st4, fun r H5 r0 r1 st5 of5 => ?_⟩
    have of35 := of4.trans of5
    refine ⟨_, rfl, rfl, _, rfl, ?_⟩
    refine ite2 (fun c => ?_) (fun c => ?_)
    · refine ⟨_, rfl, S, C, 1, rfl, by decide, by decide, st5, fun r' u H6 st6 of6 nu du tv => ?_⟩
      have two5 := twoX.off st3 of35
      obtain ⟨H7, h7, z⟩ := put H6 u (.ref r') st6 (of35.trans of6) (tv.mono fun b o e => by
        cases q0 : H5 b with
        | some u' => rw [ov_old q0] at e; cases e
        | none =>
          rw [ov_new q0] at e
          rw [unp_ne (ne_of_none two5.b q0).symm, unp_ne (ne_of_none two5.a q0).symm]
          exact e) du _
      exact ⟨_, rfl, _, rfl, X, H7, rfl, h7, z⟩
    · refine ⟨_, rfl, rfl, _, rfl, ?_⟩
      refine ite2 (fun c2 => ?_) (fun c2 => ?_)
      · obtain ⟨H7, h7, z⟩ := put H5 (.lf .nw) (.str (Str.ofString "new")) st5 of35 rfl (Nat.zero_le _) _
        exact ⟨_, rfl, _, rfl, X, H7, rfl, h7, z⟩
      · have two5 := twoX.off st3 of35
        have stay : ∀ x6, ∃ x4 x5 x6' ka kb fa fb, [some (V.ref S), some (V.ref p), some (V.ref A), some (V.ref B), some (V.str n.s), some (V.ref X), x6] = [some (.ref S), some (.ref p), some (.ref A), some (.ref B), x4, x5, x6'] ∧ St2 H5 S C ∧ Off S C H H5 ∧ H5 L = some (.lst (names.map fun n => V.str n.s)) ∧ Two H5 A B ka kb fa fb ∧
          (∀ n, (fa n).dep ≤ 2) ∧ (∀ n, (fb n).dep ≤ 2) ∧ (∀ n, fa n = t.kid n ∨ fb n = t.kid n) ∧ (∀ m, m ∉ names.take (i + 1) → fa m = t.kid m ∧ fb m = t.kid m) := fun x6 => fin x6 H5 kx fx st5 (of3.trans of35) (of35 L _ hLs.1 hLs.2 eL) two5 (fun _ _ => rfl) dX
        refine ⟨_, rfl, rfl, _, rfl, ?_⟩
        refine ite2 (fun c3 => ?_) (fun c3 => ?_)
        · refine ⟨_, rfl, _, rfl, X, _, rfl, .inl ⟨kx, n.k, .inl two5.a, rfl, rfl⟩, _, rfl, ?_⟩
          cases ev : valV kx n.k with
          | none => exact iteF (stay _)
          | some y =>
            refine iteT ?_
            refine ⟨_, rfl, X, rfl, .inl ⟨_, .inl two5.a⟩, _, rfl, kx, n.k, y, two5.a, rfl, ev, ?_⟩
            refine fin _ _ _ _ (st_upd st5 hXs.1 hXs.2) ?_ ?_ (two5.drop n) (fun m hm => if_neg hm) fun m => ?_
            · intro b o h1 h2 e
              rw [upd_ne (ne_of_none e hXnew)]
              exact (of3.trans of35) b o h1 h2 e
            · rw [upd_ne (fun z => by have := of35 L _ hLs.1 hLs.2 eL; rw [z, two5.a] at this; cases this)]
              exact of35 L _ hLs.1 hLs.2 eL
            · split
              · exact Nat.zero_le _
              · exact dX m
        · exact iteF (stay _)
  · rintro σ H3 ⟨x4, x5, x6, ka, kb, fa, fb, rfl, st3, of3, eL, two, da, db, hor, _⟩
    refine ⟨_, rfl, _, rfl, (by show 2 ≤ sizeLine; decide), fun r hr2 => ?_⟩
    have gz := same_new hr2 (.tup [.ref A, .ref B])
    have sub : Same (unp (unp H3 A) B) (upd H3 r (.tup [.ref A, .ref B])) := ((unp_same _ _).trans (unp_same _ _)).trans gz
    exact q r A B (Qw.T.mk fa) (Qw.T.mk fb) _ (st3.mono gz) (of3.trans (Same.off gz S C)) upd_same ((two.ka.mono sub).tv (gz _ _ two.a)) ((two.kb.mono sub).tv (gz _ _ two.b)) rfl rfl (dep_mk da) (dep_mk db) fun n => by rw [kid_mk, kid_mk]; exact hor n
end
end Qw

-- QwParse
/-! A tree read from its lines: the run, and the stack of open dicts in the heap. -/
namespace Qw
open PySem PySem.Spec PyProof.Rows L2
/-- u under the name n at the way w -/
def T.ins (t : T) : Way → Nm → T → T
  | [], n, u => T.mk fun m => if m = n then u else t.kid m
  | k :: w, n, u => T.mk fun m => if m = k then (t.kid k).ins w n u else t.kid m
theorem ins_nd (t : T) (w : Way) (n : Nm) (u : T) : (t.ins w n u).isNd = true := by cases w <;> rfl
theorem kid_ins0 (t : T) (n : Nm) (u : T) (m : Nm) : (t.ins [] n u).kid m = if m = n then u else t.kid m := kid_mk _ m
theorem kid_ins1 (t : T) (k : Nm) (w : Way) (n : Nm) (u : T) (m : Nm) : (t.ins (k :: w) n u).kid m = if m = k then (t.kid k).ins w n u else t.kid m := kid_mk _ m
theorem at_ins : ∀ (w : Way) (t : T) (n : Nm) (u : T), (t.ins w n u).at w = (t.at w).ins [] n u
  | [], _, _, _ => rfl
  | k :: w, t, n, u => by
    show ((t.ins (k :: w) n u).kid k).at w = (((t.kid k)).at w).ins [] n u
    rw [kid_ins1, if_pos rfl]
    exact at_ins w (t.kid k) n u
theorem at_one (t : T) (w : Way) (n : Nm) : t.at (w ++ [n]) = (t.at w).kid n := at_app w [n] t
theorem ins_at (t : T) (w : Way) (n : Nm) (u : T) : (t.ins w n u).at (w ++ [n]) = u := by
  rw [at_one, at_ins, kid_ins0, if_pos rfl]
theorem ins_ins : ∀ (w : Way) (t : T) (n : Nm) (x y : T) (m : Nm), (t.ins w n x).ins (w ++ [n]) m y = t.ins w n (x.ins [] m y)
  | [], t, n, x, y, m => by
    refine nd_ext rfl rfl fun j => ?_
    show ((t.ins [] n x).ins [n] m y).kid j = _
    rw [kid_ins1, kid_ins0, kid_ins0, kid_ins0, if_pos rfl]
    by_cases h : j = n
    · rw [if_pos h, if_pos h]
    · rw [if_neg h, if_neg h, if_neg h]
  | k :: w, t, n, x, y, m => by
    refine nd_ext rfl rfl fun j => ?_
    show ((t.ins (k :: w) n x).ins (k :: (w ++ [n])) m y).kid j = _
    rw [kid_ins1, kid_ins1, kid_ins1, kid_ins1, if_pos rfl, ins_ins w]
    by_cases h : j = k
    · rw [if_pos h, if_pos h]
    · rw [if_neg h, if_neg h, if_neg h]
theorem ins_no {x : T} {m : Nm} (hx : x.isNd = true) (h : x.kid m = .no) : x.ins [] m .no = x := nd_ext rfl hx fun j => by
  rw [kid_ins0]
  split
  · rename_i e; rw [e, h]
  · rfl

/-! ### the run -/
def bodyOf : Option Lf → T
  | none => T.emp
  | some v => .lf v
/-- a line put in -/
def step (s : T × Way) (l : Ln) : T × Way := (s.1.ins (s.2.take l.d) l.n (bodyOf l.v), if l.v = none then s.2.take l.d ++ [l.n] else s.2.take l.d)
inductive Run : T × Way → List Ln → T × Way → Prop
  | nil (s : T × Way) : Run s [] s
  | cons {s s' : T × Way} {l : Ln} {ls : List Ln} : l.d ≤ 3 → l.d ≤ s.2.length → (s.1.at (s.2.take l.d)).kid l.n = .no → Run (step s l) ls s' → Run s (l :: ls) s'
theorem Run.append {s s' s2 : T × Way} {ls ks : List Ln} (h : Run s ls s') (k : Run s' ks s2) : Run s (ls ++ ks) s2 := by
  induction h with
  | nil => exact k
  | cons a b c _ ih => exact .cons a b c (ih k)
/-- what a part's lines leave -/
def After (t : T) (pd : Way) (n : Nm) (u : T) : T := if u = .no then t else t.ins pd n u
theorem run_part : ∀ (u : T) (d : Nat) (n : Nm) (t : T) (w : Way), d + u.dep ≤ 3 → d ≤ w.length → (t.at (w.take d)).kid n = .no → ∃ w', Run (t, w) (u.lin d n) (After t (w.take d) n u, w') ∧ d ≤ w'.length ∧ w'.take d = w.take d := by
  have key : ∀ (f : Nm → T), (∀ m d n t w, d + (f m).dep ≤ 3 → d ≤ w.length → (t.at (w.take d)).kid n = .no → ∃ w', Run (t, w) ((f m).lin d n) (After t (w.take d) n (f m), w') ∧ d ≤ w'.length ∧ w'.take d = w.take d) →
      ∀ (ms : List Nm), ms.Nodup → ∀ (d : Nat) (pd : Way) (n : Nm) (t : T) (x : T) (w : Way), (∀ m, d + 1 + (f m).dep ≤ 3) → pd.length = d → w.take (d + 1) = pd ++ [n] → x.isNd = true → (∀ m ∈ ms, x.kid m = .no) →
      ∃ w', Run (t.ins pd n x, w) (ms.flatMap fun m => (f m).lin (d + 1) m) (t.ins pd n (ms.foldl (fun x m => x.ins [] m (f m)) x), w') ∧ w'.take (d + 1) = pd ++ [n] := by
    intro f hf ms
    induction ms with
    | nil => exact fun _ d pd n t x w _ _ hw _ _ => ⟨w, .nil _, hw⟩
    | cons m r ih =>
      intro nd d pd n t x w hd hp hw hx hk
      obtain ⟨h1, h2⟩ := List.nodup_cons.mp nd
      have wl : d + 1 ≤ w.length := by
        have e := congrArg List.length hw
        rw [List.length_take, List.length_append, List.length_singleton, hp] at e
        omega
      obtain ⟨w1, r1, l1, t1⟩ := hf m (d + 1) m (t.ins pd n x) w (hd m) wl (by rw [hw, ins_at]; exact hk m List.mem_cons_self)
      rw [hw] at r1 t1
      have e1 : After (t.ins pd n x) (pd ++ [n]) m (f m) = t.ins pd n (x.ins [] m (f m)) := by
        unfold After
        split
        · rename_i e
          rw [e, ins_no hx (hk m List.mem_cons_self)]
        · exact ins_ins _ _ _ _ _ _
      rw [e1] at r1
      obtain ⟨w2, r2, t2⟩ := ih h2 d pd n t (x.ins [] m (f m)) w1 hd hp t1 rfl fun j hj => by
        rw [kid_ins0, if_neg (fun e : j = m => h1 (e ▸ hj))]
        exact hk j (List.mem_cons_of_mem _ hj)
      exact ⟨w2, r1.append r2, t2⟩
  have nd : ∀ (f : Nm → T), (∀ m d n t w, d + (f m).dep ≤ 3 → d ≤ w.length → (t.at (w.take d)).kid n = .no → ∃ w', Run (t, w) ((f m).lin d n) (After t (w.take d) n (f m), w') ∧ d ≤ w'.length ∧ w'.take d = w.take d) →
      ∀ d n t w, (∀ m, d + 1 + (f m).dep ≤ 3) → d ≤ w.length → (t.at (w.take d)).kid n = .no → ∃ w', Run (t, w) (⟨d, n, none⟩ :: names.flatMap fun m => (f m).lin (d + 1) m) (t.ins (w.take d) n (T.mk f), w') ∧ d ≤ w'.length ∧ w'.take d = w.take d := by
    intro f hf d n t w hd hw hn
    have hp : (w.take d).length = d := by rw [List.length_take]; omega
    obtain ⟨w', r, t'⟩ := key f hf names names_nodup d (w.take d) n t T.emp (w.take d ++ [n]) hd hp (by rw [List.take_of_length_le]; rw [List.length_append, hp, List.length_singleton]; exact Nat.le_refl _) rfl fun m _ => kid_mk _ m
    have e : names.foldl (fun x m => x.ins [] m (f m)) T.emp = T.mk f := nd_ext rfl rfl fun m => by
      simp only [names, List.foldl_cons, List.foldl_nil, kid_ins0, kid_mk]
      cases m <;> simp
    rw [e] at r
    have d3 : d ≤ 3 := by have := hd .a; omega
    refine ⟨w', .cons d3 hw hn r, ?_, ?_⟩
    · have e := congrArg List.length t'
      rw [List.length_take, List.length_append, List.length_singleton, hp] at e
      omega
    · have e := congrArg (List.take d) t'
      rw [List.take_take, Nat.min_eq_left (Nat.le_succ d), List.take_append_of_le_length (by rw [hp]; exact Nat.le_refl _), List.take_take, Nat.min_self] at e
      exact e
  intro u
  induction u with
  | no => exact fun d n t w _ hw _ => ⟨w, by unfold After; rw [if_pos rfl]; exact .nil _, hw, rfl⟩
  | lf v =>
    intro d n t w hd hw hn
    have hd3 : d ≤ 3 := by simp only [T.dep] at hd; exact hd
    refine ⟨w.take d, .cons hd3 hw hn ?_, by rw [List.length_take]; omega, by rw [List.take_take, Nat.min_self]⟩
    have e : step (t, w) ⟨d, n, some v⟩ = (After t (w.take d) n (.lf v), w.take d) := by
      unfold step After
      rw [if_neg (by intro z; cases z), if_neg (by intro z; cases z)]
      rfl
    rw [e]
    exact .nil _
  | nd a b c d' e iha ihb ihc ihd ihe =>
    intro d n t w hd hw hn
    have hk : ∀ m, d + 1 + ((T.nd a b c d' e).kid m).dep ≤ 3 := fun m => by have := dep_kid_lt (t := T.nd a b c d' e) rfl m; omega
    have hf : ∀ m d n t w, d + ((T.nd a b c d' e).kid m).dep ≤ 3 → d ≤ w.length → (t.at (w.take d)).kid n = .no → ∃ w', Run (t, w) (((T.nd a b c d' e).kid m).lin d n) (After t (w.take d) n ((T.nd a b c d' e).kid m), w') ∧ d ≤ w'.length ∧ w'.take d = w.take d := by
      intro m
      cases m
      · exact iha
      · exact ihb
      · exact ihc
      · exact ihd
      · exact ihe
    obtain ⟨w', r, l, t'⟩ := nd _ hf d n t w hk hw hn
    refine ⟨w', ?_, l, t'⟩
    rw [lin_nd rfl]
    unfold After
    rw [if_neg (by intro z; cases z)]
    rw [mk_kid rfl] at r
    exact r
/-- a tree's lines give it -/
theorem run_tree {t : T} (nt : t.isNd = true) (dt : t.dep ≤ 3) : ∃ w, Run (T.emp, []) (lins t 0) (t, w) := by
  have key : ∀ (ms : List Nm), ms.Nodup → ∀ (x : T) (w : Way), x.isNd = true → (∀ m ∈ ms, x.kid m = .no) → ∃ w', Run (x, w) (ms.flatMap fun m => (t.kid m).lin 0 m) (ms.foldl (fun x m => x.ins [] m (t.kid m)) x, w') := by
    intro ms
    induction ms with
    | nil => exact fun _ x w _ _ => ⟨w, .nil _⟩
    | cons m r ih =>
      intro nd x w hx hk
      obtain ⟨h1, h2⟩ := List.nodup_cons.mp nd
      obtain ⟨w1, r1, l1, t1⟩ := run_part (t.kid m) 0 m x w (by have := dep_kid_lt nt m; omega) (Nat.zero_le _) (hk m List.mem_cons_self)
      have e1 : After x (w.take 0) m (t.kid m) = x.ins [] m (t.kid m) := by
        unfold After
        split
        · rename_i e; rw [e, ins_no hx (hk m List.mem_cons_self)]
        · rfl
      rw [e1] at r1
      obtain ⟨w2, r2⟩ := ih h2 (x.ins [] m (t.kid m)) w1 rfl fun j hj => by
        rw [kid_ins0, if_neg (fun e : j = m => h1 (e ▸ hj))]
        exact hk j (List.mem_cons_of_mem _ hj)
      exact ⟨w2, r1.append r2⟩
  obtain ⟨w, r⟩ := key names names_nodup T.emp [] rfl fun m _ => kid_mk _ m
  have e : names.foldl (fun x m => x.ins [] m (t.kid m)) T.emp = t := nd_ext rfl nt fun m => by
    simp only [names, List.foldl_cons, List.foldl_nil, kid_ins0]
    cases m <;> simp
  rw [e] at r
  exact ⟨w, r⟩

/-! ### the stack in the heap -/
def mask (H : Hp) (ss : List Addr) : Hp := fun b => if b ∈ ss then none else H b
theorem mask_in {H : Hp} {ss : List Addr} {b : Addr} (h : b ∈ ss) : mask H ss b = none := if_pos h
theorem mask_out {H : Hp} {ss : List Addr} {b : Addr} (h : b ∉ ss) : mask H ss b = H b := if_neg h
theorem mask_sub {H H' : Hp} {ss rr : List Addr} (h : ∀ b o, b ∉ ss → H b = some o → b ∉ rr ∧ H' b = some o) : Same (mask H ss) (mask H' rr) := fun b o e => by
  by_cases hb : b ∈ ss
  · rw [mask_in hb] at e; cases e
  rw [mask_out hb] at e
  obtain ⟨h1, h2⟩ := h b o hb e
  rw [mask_out h1]
  exact h2
theorem mask_subD {H H' : Hp} {ss rr : List Addr} (h : ∀ b kvs, b ∉ ss → H b = some (.dK kvs) → b ∉ rr ∧ H' b = some (.dK kvs)) : SameD (mask H ss) (mask H' rr) := fun b o e => by
  by_cases hb : b ∈ ss
  · rw [mask_in hb] at e; cases e
  rw [mask_out hb] at e
  obtain ⟨h1, h2⟩ := h b o hb e
  rw [mask_out h1]
  exact h2
/-- the open dicts, from the outside in; t: the tree so far -/
inductive Rep (M H : Hp) : List Addr → T → Way → Prop
  | one {p : Addr} {kvs : List (Key × V)} {t : T} : t.isNd = true → H p = some (.dK kvs) → Kv M kvs t.kid → Rep M H [p] t []
  | more {p q : Addr} {r : List Addr} {kvs : List (Key × V)} {t : T} {n : Nm} {w : Way} : t.isNd = true → H p = some (.dK kvs) → KeysOk kvs → valV kvs n.k = some (.ref q) → (∀ m, m ≠ n → EntV (t.kid m) (TV M (t.kid m)) (valV kvs m.k)) → Rep M H (q :: r) (t.kid n) w → Rep M H (p :: q :: r) t (n :: w)
theorem Rep.nd {M H : Hp} {As : List Addr} {t : T} {w : Way} (h : Rep M H As t w) : t.isNd = true := by cases h <;> assumption
theorem Rep.len {M H : Hp} {As : List Addr} {t : T} {w : Way} (h : Rep M H As t w) : As.length = w.length + 1 := by
  induction h with
  | one => rfl
  | more _ _ _ _ _ _ ih => simp only [List.length_cons] at ih ⊢; omega
theorem Rep.here {M H : Hp} {As : List Addr} {t : T} {w : Way} (h : Rep M H As t w) : ∀ a ∈ As, ∃ kvs, H a = some (.dK kvs) := by
  induction h with
  | one _ b _ =>
    intro a ha
    rw [List.mem_singleton.mp ha]
    exact ⟨_, b⟩
  | more _ b _ _ _ _ ih =>
    intro a ha
    rcases List.mem_cons.mp ha with z | z
    · rw [z]; exact ⟨_, b⟩
    · exact ih a z
theorem Rep.mono {M H M' H' : Hp} {As : List Addr} {t : T} {w : Way} (h : Rep M H As t w) (g : SameD M M') (e : ∀ a ∈ As, ∀ kvs, H a = some (.dK kvs) → H' a = some (.dK kvs)) : Rep M' H' As t w := by
  induction h with
  | one a b c => exact .one a (e _ List.mem_cons_self _ b) (c.monoD g)
  | more a b c d f _ ih => exact .more a (e _ List.mem_cons_self _ b) c d (fun m hm => (f m hm).imp fun _ _ q => q.monoD g) (ih fun x hx => e x (List.mem_cons_of_mem _ hx))
theorem Rep.closed {M H N : Hp} {As : List Addr} {t : T} {w : Way} (h : Rep M H As t w) (g : Same M N) (e : ∀ a ∈ As, N a = H a) : ∃ p r, As = p :: r ∧ TV N t (.ref p) := by
  induction h with
  | one a b c => exact ⟨_, _, rfl, Kv.tv_of (c.mono g) ((e _ List.mem_cons_self).trans b) a⟩
  | @more p q r kvs t n w a b c d f _ ih =>
    obtain ⟨p', r', e', tv⟩ := ih fun x hx => e x (List.mem_cons_of_mem _ hx)
    cases e'
    refine ⟨_, _, rfl, Kv.tv_of ⟨c, fun m => ?_⟩ ((e _ List.mem_cons_self).trans b) a⟩
    by_cases hm : m = n
    · rw [hm]; exact .inr ⟨tv.ne_no, _, d, tv⟩
    · exact (f m hm).imp fun _ _ q => q.mono g
theorem Rep.cut {M H N : Hp} {As : List Addr} {t : T} {w : Way} (h : Rep M H As t w) (g : Same M N) : ∀ d, d ≤ w.length → (∀ a ∈ As.drop (d + 1), N a = H a) → Rep N H (As.take (d + 1)) t (w.take d) := by
  induction h with
  | @one p kvs t a b c => exact fun d _ _ => by cases d <;> exact .one a b (c.mono g)
  | @more p q r kvs t n w a b c d f h' ih =>
    intro k hk e
    cases k with
    | zero =>
      obtain ⟨p', r', e', tv⟩ := h'.closed g fun x hx => e x hx
      cases e'
      refine .one a b ⟨c, fun m => ?_⟩
      by_cases hm : m = n
      · rw [hm]; exact .inr ⟨tv.ne_no, _, d, tv⟩
      · exact (f m hm).imp fun _ _ q => q.mono g
    | succ k => exact .more a b c d (fun m hm => (f m hm).imp fun _ _ q => q.mono g) (ih k (by simp only [List.length_cons] at hk; omega) e)
/-- the innermost -/
theorem Rep.last {M H : Hp} {As : List Addr} {t : T} {w : Way} (h : Rep M H As t w) : ∃ As' a kvs, As = As' ++ [a] ∧ H a = some (.dK kvs) ∧ Kv M kvs (t.at w).kid := by
  induction h with
  | one a b c => exact ⟨[], _, _, rfl, b, c⟩
  | @more p q r kvs t n w a b c d f _ ih =>
    obtain ⟨As', x, k, e, h1, h2⟩ := ih
    exact ⟨p :: As', x, k, by rw [e]; rfl, h1, h2⟩
theorem kid_at_self (x : T) (n : Nm) (u : T) : (fun m => if m = n then u else x.kid m) = (x.ins [] n u).kid := funext fun m => (kid_ins0 x n u m).symm
/-- a text put under a name of the innermost -/
theorem Rep.put {M H : Hp} {As : List Addr} {t : T} {w : Way} (h : Rep M H As t w) : As.Nodup → ∀ (As' : List Addr) (a : Addr) (kvs : List (Key × V)) (n : Nm) (u : T) (v : V), As = As' ++ [a] → H a = some (.dK kvs) → TV M u v → Rep M (upd H a (.dK (putK kvs n.k v))) As (t.ins w n u) w := by
  induction h with
  | @one p k t x b c =>
    intro _ As' a kvs n u v e ha hv
    obtain rfl : p = a := by
      cases As' with
      | nil => cases e; rfl
      | cons y z => cases z <;> cases e
    rw [b] at ha
    cases ha
    exact .one rfl upd_same ((c.put n hv).cong fun m => (kid_ins0 t n u m).symm)
  | @more p q r k t n0 w x b c d f h' ih =>
    intro nd As' a kvs n u v e ha hv
    cases As' with
    | nil => cases e
    | cons y z =>
      obtain ⟨rfl, e'⟩ := List.cons.inj e
      have hpa : p ≠ a := fun z' => (List.nodup_cons.mp nd).1 (by rw [e', z']; simp)
      have ih' := ih (List.nodup_cons.mp nd).2 z a kvs n u v e' ha hv
      refine .more rfl (by rw [upd_ne hpa]; exact b) c d (fun m hm => ?_) ?_
      · rw [kid_ins1, if_neg hm]; exact f m hm
      · rw [kid_ins1, if_pos rfl]; exact ih'
/-- a new dict put under a name of the innermost, and opened -/
theorem Rep.push {M H : Hp} {As : List Addr} {t : T} {w : Way} (h : Rep M H As t w) : As.Nodup → ∀ (As' : List Addr) (a : Addr) (kvs : List (Key × V)) (n : Nm) (D : Addr), As = As' ++ [a] → H a = some (.dK kvs) → D ∉ As → H D = some (.dK []) →
    Rep M (upd H a (.dK (putK kvs n.k (.ref D)))) (As ++ [D]) (t.ins w n T.emp) (w ++ [n]) := by
  induction h with
  | @one p k t x b c =>
    intro _ As' a kvs n D e ha hD eD
    obtain rfl : p = a := by
      cases As' with
      | nil => cases e; rfl
      | cons y z => cases z <;> cases e
    rw [b] at ha
    cases ha
    have hDp : D ≠ p := fun z => hD (by rw [z]; exact List.mem_cons_self)
    refine .more rfl upd_same (c.1.put n _) (by rw [valV_put, if_pos rfl]) (fun m hm => ?_) (.one ?_ (kvs := []) (by rw [upd_ne hDp]; exact eD) ?_)
    · rw [kid_ins0, if_neg hm, valV_put, if_neg fun z => hm (Nm.k_inj z)]
      exact c.2 m
    · rw [kid_ins0, if_pos rfl]; rfl
    · rw [kid_ins0, if_pos rfl]
      exact (Kv.nil M).cong fun m => by cases m <;> rfl
  | @more p q r k t n0 w x b c d f h' ih =>
    intro nd As' a kvs n D e ha hD eD
    cases As' with
    | nil => cases e
    | cons y z =>
      obtain ⟨rfl, e'⟩ := List.cons.inj e
      have hpa : p ≠ a := fun z' => (List.nodup_cons.mp nd).1 (by rw [e', z']; simp)
      have ih' := ih (List.nodup_cons.mp nd).2 z a kvs n D e' ha (fun z => hD (List.mem_cons_of_mem _ z)) eD
      refine .more rfl (by rw [upd_ne hpa]; exact b) c d (fun m hm => ?_) ?_
      · rw [kid_ins1, if_neg hm]; exact f m hm
      · rw [kid_ins1, if_pos rfl]; exact ih'
end Qw

-- QwD09
namespace Qw
open PySem PySem.Spec PyProof.Rows L2
open C8 (Cal pe_c)

/-- for i, x in enumerate(xs), xs stays -/
theorem for_enum {K : PySem.W.Frag} {a : Addr} {xs : List V} {g : TG} {tb : TS} {D : Ends} {σ : L2.St} {H : Hp} (Pv : Nat → L2.St → Hp → Prop) (h0 : Pv 0 σ H) (hl : ∀ i σ H, Pv i σ H → SqL K H a xs) (hb : ∀ i σ H, Pv i σ H → i ≤ xs.length)
    (hs : ∀ i x T σ H, xs[i]? = some x → Pv i σ H → H T = none → g (.ref T) σ (upd H T (.tup [.int (i : Nat), x])) fun σ2 H2 => tb { D with nx := Pv (i + 1), ct := Pv (i + 1), bk := D.nx } σ2 H2) (hd : ∀ σ H, Pv xs.length σ H → D.nx σ H) :
    ∃ Wk : Nat → Nat → L2.St → Hp → Prop, (∃ m, Wk 0 m σ H) ∧ ∀ i m σ H, Wk i m σ H →
      ((Ite K a).stop i H ∧ D.nx σ H) ∨ ((Ite K a).go i H ∧ ∃ N : L2.St → Hp → Prop, (∀ σ' H', N σ' H' → ∃ m', m' < m ∧ Wk (i + 1) m' σ' H') ∧ ∀ x H', (Ite K a).yld i H x H' → g x σ H' fun σ2 H2 => tb { D with nx := N, ct := N, bk := D.nx } σ2 H2) := by
  refine ⟨fun i m σ H => m = xs.length - i ∧ Pv i σ H, ⟨xs.length, by simp, h0⟩, ?_⟩
  rintro i m σ H ⟨rfl, p⟩
  have q := hl i σ H p
  have hi := hb i σ H p
  by_cases hlt : i < xs.length
  · refine .inr ⟨⟨xs, xs[i], q, List.getElem?_eq_getElem hlt⟩, Pv (i + 1), fun H' p' => ?_, fun x H' y => ?_⟩
    · exact fun z => ⟨xs.length - (i + 1), by omega, rfl, z⟩
    · obtain ⟨T, x, rfl, hT, rfl, hx⟩ := y
      exact hs i x T σ H (hx xs q) p hT
  · obtain rfl : i = xs.length := by omega
    exact .inl ⟨⟨xs, q, Nat.le_refl _⟩, hd σ H p⟩
theorem ln_at {ls : List Ln} {i : Nat} {x : V} (e : (ls.map fun l => V.str l.s)[i]? = some x) : ∃ l, ls[i]? = some l ∧ x = .str l.s := by
  rw [List.getElem?_map] at e
  cases z : ls[i]? with
  | none => rw [z] at e; cases e
  | some n => rw [z] at e; exact ⟨n, rfl, (Option.some.inj e).symm⟩
theorem cut_take (xs : List V) (d : Nat) : cutV xs none (some ((d : Int) + 1)) = xs.take (d + 1) := by
  unfold cutV
  rw [show ((d : Int) + 1) = ((d + 1 : Nat) : Int) by omega, HT.sIx_nat, HT.sIx_none, List.drop_zero, Nat.sub_zero]
  by_cases h : d + 1 ≤ xs.length
  · rw [Nat.min_eq_left h]
  · rw [Nat.min_eq_right (by omega), List.take_of_length_le (by omega), List.take_of_length_le (by omega)]
-- [(0, 'lines'), (1, 'tops'), (2, 'at'), (3, 'text'), (4, 'found'), (5, 'depth'), (6, 'name'), (7, 'value')]
def Ntree_of : List Str := ["lines", "tops", "at", "text", "found", "depth", "name", "value"]
theorem sctree_of : FnScope Ntree_of ["lines"] (defScope (topS 9)) := ⟨rfl, rfl, rfl, by decide +kernel, rfl, by decide +kernel, by decide +kernel⟩
section
variable {P : Program} {w : World} {K : PySem.W.Frag} {mg : Str → Option Value} {base : Heap} {f : Addr} {fd : FuncData}
theorem oktree_of (F : Fun K "tree_of" "tree_of" (topS 9) f fd) (T : Tx mg) (c_line : Cal P w K mg base 2 "_line" spLine []) : FnOk P w K mg base CX0 3 f fd ["lines"] spTreeOf := by
  refine F.ok sctree_of (fun vs H Q E h => ?_) (fun cdv A outer s H vs Q E hr h => ?_)
  · obtain ⟨p, t, rfl, _⟩ := h
    rfl
  have nd := sctree_of.nd
  have hu := hu_of hr
  have hu64 := hr.units
  obtain ⟨p, t, rfl, hp, nt, dt, q⟩ := h
  refine ⟨_, (pss_cons (ps_set (i := 1) nd rfl (Or.inl rfl) (pe_lst (pa_cons pe_dnewK pa_nil)))
    (pss_cons (ps_for PassesOwn.never rfl (pi_enum rfl T.enumerate (pa_cons (pv 0) pa_nil)) (pg_tup rfl (pgs_cons (pg_name (i := 2) nd rfl (Or.inl rfl)) (pgs_cons (pg_name (i := 3) nd rfl (Or.inl rfl)) pgs_nil)))
      (pss_cons (ps_set (i := 4) nd rfl (Or.inl rfl) (pe_c c_line hr (by omega) rfl (pa_cons (pv 3) pa_nil)))
      (pss_cons (ps_if (PW.pt (pw_or (pt_cmpR op_isN (pv 4) pe_non (nomark _)) (pw_or1 (pt_cmpR op_ge (pe_ix ix_tup (pv 4) pe_int (fun _ _ => rfl)) (pe_callB call_len_seq rfl T.len bt_len (pa_cons (pv 1) pa_nil)) (nomark _)))))
        (pss_one ps_never)
        pss_nil)
      (pss_cons (ps_asg (pv 4) (pg_tup rfl (pgs_cons (pg_name (i := 5) nd rfl (Or.inl rfl)) (pgs_cons (pg_name (i := 6) nd rfl (Or.inl rfl)) (pgs_cons (pg_name (i := 7) nd rfl (Or.inl rfl)) pgs_nil)))))
      (pss_cons (ps_set (i := 1) nd rfl (Or.inl rfl) (pe_slice sl_list (pv 1) po_none (po_some (pe_op op_add (pv 5) pe_int))))
      (pss_cons (ps_if (pt_cmp (pc_din hu (pv 6) (pe_ix ix_list (pv 1) (pe_un un_neg pe_int) (fun _ _ => rfl))))
        (pss_one ps_never)
        pss_nil)
      (pss_one (ps_if (pt_cmpR op_isN (pv 7) pe_non (nomark _))
        (pss_cons (ps_dput hu (pe_ix ix_list (pv 1) (pe_un un_neg pe_int) (fun _ _ => rfl)) (pv 6) pe_dnewK rfl)
        (pss_one (ps_expr (pe_bm PySem.F.plainAttrs_list PySem.F.slot_list_append PySem.F.type_list_append mt_append (pv 1) (pa_cons (pe_dget hu (pe_ix ix_list (pv 1) (pe_un un_neg pe_int) (fun _ _ => rfl)) (pv 6) (fun _ _ => rfl)) pa_nil)))))
        (pss_one (ps_dput hu (pe_ix ix_list (pv 1) (pe_un un_neg pe_int) (fun _ _ => rfl)) (pv 6) (pv 7) rfl))))))))))
    (pss_one (ps_ret (pe_ix ix_list (pv 1) pe_int (fun _ _ => rfl)))))), ?_⟩
  obtain ⟨wf, run⟩ := run_tree nt dt
  intro D0 hD0
  refine ⟨(by show 1 ≤ sizeLine; decide), fun L0 hL0 => ?_⟩
  have g1 := (same_new hD0 (.dK [])).trans (same_new hL0 (.lst [.ref D0]))
  have hL0' := (same_new hD0 (.dK [])).free hL0
  have eD0 := same_new hL0 (.lst [.ref D0]) _ _ upd_same
  refine ⟨_, rfl, p, _, rfl, SqL.of (g1 _ _ hp), ?_⟩
  refine for_enum (xs := (lins t 0).map fun l => V.str l.s) (fun i σ H1 => i ≤ (lins t 0).length ∧ ∃ L x2 x3 x4 x5 x6 x7 As s, σ = [some (.ref p), some (.ref L), x2, x3, x4, x5, x6, x7] ∧ Same H H1 ∧ H L = none ∧ H1 L = some (.lst (As.map V.ref)) ∧ As.Nodup ∧ (∀ a ∈ As, H a = none) ∧ As.length ≤ 5 ∧
    Rep (mask H1 As) H1 As s.1 s.2 ∧ Run s ((lins t 0).drop i) (t, wf)) ?_ ?_ ?_ ?_ ?_
  · refine ⟨Nat.zero_le _, L0, _, _, _, _, _, _, [D0], (Qw.T.emp, []), rfl, g1, hL0', upd_same, by simp, fun a ha => by rw [List.mem_singleton.mp ha]; exact hD0, (by show 1 ≤ 5; decide), .one rfl eD0 ((Kv.nil _).cong fun m => by cases m <;> rfl), run⟩
  · rintro i σ H1 ⟨_, L, x2, x3, x4, x5, x6, x7, As, s, rfl, s1, _⟩
    exact SqL.of (s1 _ _ hp)
  · rintro i σ H1 ⟨h, _⟩
    rw [List.length_map]; exact h
  · rintro i x TT σ H1 hx ⟨hi, L, x2, x3, x4, x5, x6, x7, As, s, rfl, s1, nL, eL, nd1, nA, l4, rep, run⟩ hTT
    obtain ⟨l, hl, rfl⟩ := ln_at hx
    have hlt : i < (lins t 0).length := (List.getElem?_eq_some_iff.mp hl).1
    have hdr : (lins t 0).drop i = l :: (lins t 0).drop (i + 1) := by
      rw [List.drop_eq_getElem_cons hlt, (List.getElem?_eq_some_iff.mp hl).2]
    rw [hdr] at run
    obtain ⟨d3, hdl, hno, run'⟩ : l.d ≤ 3 ∧ l.d ≤ s.2.length ∧ (s.1.at (s.2.take l.d)).kid l.n = .no ∧ Run (step s l) ((lins t 0).drop (i + 1)) (t, wf) := by
      cases run with
      | cons a b c d => exact ⟨a, b, c, d⟩
    have g2 := same_new hTT (.tup [.int (i : Nat), .str l.s])
    refine ⟨TT, _, rfl, SqT.of upd_same, rfl, ?_⟩
    refine ⟨_, _, rfl, _, _, rfl, rfl, ?_⟩
    refine ⟨_, rfl, l, rfl, d3, fun pf H2 s2 e2 => ?_⟩
    have s12 := g2.trans s2
    have eL2 := s12 _ _ eL
    have rl := rep.len
    -- the two looks that raise
    refine ⟨_, rfl, rfl, _, rfl, ?_⟩
    rw [show decide (V.ref pf = V.non) = false from decide_eq_false (by intro z; cases z)]
    refine iteF ?_
    refine ⟨_, rfl, pf, _, _, _, rfl, rfl, SqT.of e2, atI_nat (j := 0) rfl, _, rfl, L, _, rfl, .inl (SqL.of eL2), _, _, rfl, rfl, _, rfl, ?_⟩
    have c1 : decide (((l.d : Nat) : Int) ≥ (((As.map V.ref).length : Nat) : Int)) = false := decide_eq_false (by rw [List.length_map]; omega)
    refine ite2 (fun c => absurd (of_decide_eq_true c) (of_decide_eq_false c1)) (fun _ => ?_)
    refine ⟨_, rfl, pf, _, rfl, SqT.of e2, rfl, ?_⟩
    refine ⟨_, _, rfl, _, _, rfl, _, _, rfl, rfl, ?_⟩
    refine ⟨_, rfl, _, rfl, _, _, rfl, rfl, _, rfl, L, _, rfl, SqL.of eL2, fun L2 hL2 => ?_⟩
    rw [cut_take, ← List.map_take]
    have g3 := same_new hL2 (.lst ((As.take (l.d + 1)).map V.ref))
    have s13 := s12.trans g3
    have eL3 : upd H2 L2 (.lst ((As.take (l.d + 1)).map V.ref)) L2 = some (.lst ((As.take (l.d + 1)).map V.ref)) := upd_same
    have nL2 : H L2 = none := (s1.trans s12).free hL2
    generalize upd H2 L2 (.lst ((As.take (l.d + 1)).map V.ref)) = H3 at g3 s13 eL3
    have sH3 := s1.trans s13
    -- the stack cut
    have nd2 : (As.take (l.d + 1)).Nodup := nd1.sublist (List.take_sublist _ _)
    have disj : ∀ a ∈ As.drop (l.d + 1), a ∉ As.take (l.d + 1) := fun a ha hb => by
      have := nd1
      rw [← List.take_append_drop (l.d + 1) As] at this
      exact (List.nodup_append.mp this).2.2 a hb a ha rfl
    have rep2 : Rep (mask H3 (As.take (l.d + 1))) H3 (As.take (l.d + 1)) s.1 (s.2.take l.d) := by
      have z : Rep (mask H1 (As.take (l.d + 1))) H1 (As.take (l.d + 1)) s.1 (s.2.take l.d) := rep.cut (mask_sub fun b o hb e => ⟨fun z => hb (List.mem_of_mem_take z), e⟩) l.d hdl fun a ha => mask_out (disj a ha)
      exact z.mono (mask_subD fun b o hb e => ⟨hb, s13 _ _ e⟩) fun a _ kvs e => s13 _ _ e
    have nA2 : ∀ a ∈ As.take (l.d + 1), H a = none := fun a ha => nA a (List.mem_of_mem_take ha)
    have len2 : (As.take (l.d + 1)).length ≤ 4 := by rw [List.length_take]; omega
    have eAl : (As.take (l.d + 1)).length = l.d + 1 := by rw [List.length_take]; omega
    generalize hA2 : As.take (l.d + 1) = A2 at rep2 nd2 nA2 len2 eL3 eAl ⊢
    obtain ⟨A2', a, kvs, eA2, ha, hkv⟩ := rep2.last
    have amem : a ∈ A2 := by rw [eA2]; simp
    have lastI : ∀ {H' : Hp}, H' L2 = some (.lst (A2.map V.ref)) → SqL K H' L2 (A2'.map V.ref ++ [V.ref a]) := fun e => by
      rw [eA2, List.map_append] at e
      exact SqL.of e
    have hL2a : L2 ≠ a := fun z => by rw [z, ha] at eL3; cases eL3
    refine ⟨_, rfl, _, rfl, _, rfl, L2, _, _, _, rfl, rfl, lastI eL3, atI_last _ _, a, _, rfl, .inl ⟨kvs, l.n.k, .inl ha, rfl, rfl⟩, _, rfl, ?_⟩
    rw [hkv.none hno]
    refine iteF ?_
    obtain ⟨ld, ln, lv⟩ := l
    dsimp only at *
    cases lv with
    | none =>
      refine ⟨_, rfl, rfl, _, rfl, ?_⟩
      refine iteT ?_
      intro D hD
      have gD := same_new hD (.dK [])
      have hDA : D ∉ A2 := fun z => by
        obtain ⟨kv', e'⟩ := rep2.here D z
        rw [hD] at e'; cases e'
      have hDa : D ≠ a := fun z => hDA (by rw [z]; exact amem)
      have hDL : D ≠ L2 := fun z => by rw [z, eL3] at hD; cases hD
      refine ⟨_, rfl, _, rfl, L2, _, _, _, rfl, rfl, lastI (gD _ _ eL3), atI_last _ _, _, rfl, a, _, rfl, DPut.k (k := ln.k) (gD _ _ ha) hkv.len_lt, ?_⟩
      have rep3 : Rep (mask H3 A2) (upd H3 D (.dK [])) A2 s.1 (s.2.take ld) := rep2.mono (fun _ _ e => e) fun b _ kv e => gD _ _ e
      have rep4 := rep3.push nd2 A2' a kvs ln D eA2 (gD _ _ ha) hDA upd_same
      have eL5 : upd (upd H3 D (.dK [])) a (.dK (putK kvs ln.k (.ref D))) L2 = some (.lst (A2.map V.ref)) := by rw [upd_ne hL2a, upd_ne hDL.symm]; exact eL3
      have ea5 : upd (upd H3 D (.dK [])) a (.dK (putK kvs ln.k (.ref D))) a = some (.dK (putK kvs ln.k (.ref D))) := upd_same
      refine ⟨_, rfl, .inl ⟨rfl, _, SqL.of eL5⟩, ?_⟩
      refine ⟨_, rfl, _, rfl, L2, _, _, _, rfl, rfl, lastI eL5, atI_last _ _, _, rfl, a, .ref D, rfl, .inl ⟨_, ln.k, .inl ea5, rfl, by rw [valV_put, if_pos rfl]⟩, ?_⟩
      refine ⟨L2, _, _, rfl, rfl, eL5, (by rw [List.length_map]; exact small1000 (by omega)), ?_⟩
      have s6 : ∀ b o, b ≠ a → b ≠ L2 → H3 b = some o → upd (upd (upd H3 D (.dK [])) a (.dK (putK kvs ln.k (.ref D)))) L2 (.lst (A2.map V.ref ++ [.ref D])) b = some o := fun b o h1 h2 e => by
        rw [upd_ne h2, upd_ne h1]; exact gD _ _ e
      refine ⟨hlt, L2, _, _, _, _, _, _, A2 ++ [D], step s ⟨ld, ln, none⟩, rfl, ?_, nL2, ?_, ?_, ?_, ?_, ?_, run'⟩
      · intro b o e
        exact s6 b o (ne_of_none e (nA2 a amem)) (ne_of_none e nL2) (sH3 _ _ e)
      · rw [upd_same, List.map_append]; rfl
      · exact List.nodup_append.mpr ⟨nd2, by simp, fun b hb c hc z => hDA (by rw [← List.mem_singleton.mp hc, ← z]; exact hb)⟩
      · intro b hb
        rcases List.mem_append.mp hb with h | h
        · exact nA2 b h
        · rw [List.mem_singleton.mp h]; exact sH3.free hD
      · rw [List.length_append, List.length_singleton]; omega
      · refine rep4.mono (mask_subD fun b kv hb e => ⟨fun z => ?_, s6 b _ (fun z => hb (by rw [z]; exact amem)) (fun z => by rw [z, eL3] at e; cases e) e⟩) fun b _ kv e => ?_
        · rcases List.mem_append.mp z with h | h
          · exact hb h
          · rw [List.mem_singleton.mp h, hD] at e; cases e
        · rw [upd_ne (fun z => by rw [z, eL5] at e; cases e)]; exact e
    | some v =>
      refine ⟨_, rfl, rfl, _, rfl, ?_⟩
      refine iteF ?_
      refine ⟨_, rfl, _, rfl, _, rfl, L2, _, _, _, rfl, rfl, lastI eL3, atI_last _ _, _, rfl, a, _, rfl, DPut.k (k := ln.k) ha hkv.len_lt, ?_⟩
      have rep4 := rep2.put nd2 A2' a kvs ln (.lf v) (.str v.s) eA2 ha rfl
      refine ⟨hlt, L2, _, _, _, _, _, _, A2, step s ⟨ld, ln, some v⟩, rfl, ?_, nL2, ?_, nd2, nA2, by omega, ?_, run'⟩
      · intro b o e
        rw [upd_ne (ne_of_none e (nA2 a amem))]
        exact sH3 _ _ e
      · rw [upd_ne hL2a]; exact eL3
      · exact rep4.mono (mask_subD fun b kv hb e => ⟨hb, by rw [upd_ne (fun z => hb (by rw [z]; exact amem))]; exact e⟩) fun b _ kv e => e
  · rintro σ H1 ⟨hi, L, x2, x3, x4, x5, x6, x7, As, s, rfl, s1, nL, eL, nd1, nA, l4, rep, run⟩
    rw [List.length_map, List.drop_length] at run
    obtain rfl : s = (t, wf) := by cases run; rfl
    obtain ⟨D, r, rfl, tv⟩ := rep.closed (N := H1) (mask_sub (rr := []) (fun b o _ e => ⟨by simp, e⟩) |>.trans fun b o e => by rw [mask_out (by simp)] at e; exact e) fun _ _ => rfl
    exact ⟨_, rfl, L, _, _, _, rfl, rfl, SqL.of eL, atI_nat (j := 0) rfl, q D H1 s1 tv⟩
end
end Qw

-- QwLaw
/-! What the law's own body wants. -/
namespace Qw
open PySem PySem.Spec PyProof.Rows L2
/-- if test: .. where the test fails and leaves all as it was -/
theorem via_chk {c : TT} {t b : TS} {D : Ends} {σ : L2.St} {H : Hp} (h1 : ∀ H', Same H H' → b D σ H') (h2 : ∀ N : Bool → Hp → Prop, (∀ H', Same H H' → N false H') → c σ H N) : tSeq (tIfS c t tNext) b D σ H :=
  h2 _ fun H' g => iteF (h1 H' g)
/-- name = value, then if .. : the test .. -/
theorem via_st1 {v : V} {i : Nat} {st b : TS} {D : Ends} {σ : L2.St} {H : Hp} {R : L2.St → Hp → Prop} (h1 : ∀ σ' H', R σ' H' → b D σ' H') (h2 : ∀ N : L2.St → Hp → Prop, (∀ σ' H', R σ' H' → N σ' H') → st { D with nx := N } (σ.set i (some v)) H) : tSeq (tAsg (tC v) (gName i)) (tSeq st b) D σ H := h2 _ h1
theorem ovn_same (H H' : Hp) : Same (ov nil H H') H' := fun b o e => by
  cases q : H b with
  | none => rw [ov_new q] at e; exact e
  | some u => rw [ov_old q] at e; cases e
theorem paired_refl {α : Type} {F : α → α → Prop} : ∀ {xs : List α}, (∀ x ∈ xs, F x x) → Paired F xs xs
  | [], _ => .nil
  | x :: r, h => .cons (h x List.mem_cons_self) (paired_refl fun y hy => h y (List.mem_cons_of_mem _ hy))
theorem sm_up {H : Hp} : ∀ {n : Nat} {x y : V}, Sm H n x y → Sm H (n + 1) x y
  | 0, _, _, h => .inl h
  | n + 1, x, y, h => by
    rcases h with h | h | ⟨a, b, xs, ys, h1, h2, h3, h4⟩
    · exact .inl h
    · exact .inr (.inl h)
    · exact .inr (.inr ⟨a, b, xs, ys, h1, h2, h3, L2.Paired.mapP h4 fun _ _ q => sm_up q⟩)
/-- two lists of the same clashes -/
theorem clash_sm {H : Hp} : ∀ {ws : List Way} {vs us : List V}, ClV H ws vs → ClV H ws us → Paired (Sm H 2) vs us
  | _, _, _, .nil, .nil => .nil
  | _, _, _, .cons ⟨p, e1, e2⟩ t, .cons ⟨q, e3, e4⟩ t' => by
    refine .cons ?_ (clash_sm t t')
    refine .inr (.inr ⟨p, q, _, _, e1, e3, .inr ⟨e2, e4⟩, paired_refl fun x hx => ?_⟩)
    obtain ⟨n, _, rfl⟩ := List.mem_map.mp hx
    exact .inl ⟨rfl, rfl⟩
theorem str_sm (H : Hp) (n : Nat) (z : Str) : Sm H (n + 1) (.str z) (.str z) := .inl ⟨rfl, rfl⟩
/-- two answers of one merge -/
theorem told_sm {H : Hp} {m : T × List Way} {r r' : Addr} (hd : m.1.dep < 20) (h : Told H m r) (h' : Told H m r') : ∃ x0 x1 y0 y1, H r = some (.tup [x0, x1]) ∧ H r' = some (.tup [y0, y1]) ∧ Sm H 4 x0 y0 ∧ Sm H 4 x1 y1 := by
  rcases h with ⟨c, x, e1, tv⟩ | ⟨c, q, vs, e1, e2, cl⟩ <;> rcases h' with ⟨c', y, e1', tv'⟩ | ⟨c', q', vs', e1', e2', cl'⟩
  · exact ⟨_, _, _, _, e1, e1', str_sm _ _ _, .inr (.inl ⟨m.1, hd, tv, tv'⟩)⟩
  · exact absurd c c'
  · exact absurd c' c
  · refine ⟨_, _, _, _, e1, e1', str_sm _ _ _, .inr (.inr ⟨q, q', vs, vs', rfl, rfl, .inl ⟨e2, e2'⟩, L2.Paired.mapP (clash_sm cl cl') fun x y h => ?_⟩)⟩
    exact sm_up h
theorem told_plain {H : Hp} {u : T} {r : Addr} (h : Told H (u, []) r) : ∃ x, H r = some (.tup [.str "tree", x]) ∧ TV H u x := by
  rcases h with ⟨_, x, h1, h2⟩ | ⟨c, _⟩
  · exact ⟨x, h1, h2⟩
  · exact absurd rfl c
theorem ToldL.mono {H H' : Hp} (g : Same H H') {m : T × List Way} {r : Addr} (h : ToldL H m r) : ToldL H' m r := by
  rcases h with ⟨h, q, h1, h2⟩ | ⟨h, q, vs, h1, h2, h3⟩
  · exact .inl ⟨h, q, g _ _ h1, g _ _ h2⟩
  · exact .inr ⟨h, q, vs, g _ _ h1, g _ _ h2, h3.mono g⟩
theorem toldL_sm {H : Hp} {m : T × List Way} {r r' : Addr} (h : ToldL H m r) (h' : ToldL H m r') : ∃ x0 x1 y0 y1, H r = some (.tup [x0, x1]) ∧ H r' = some (.tup [y0, y1]) ∧ Sm H 4 x0 y0 ∧ Sm H 4 x1 y1 := by
  rcases h with ⟨c, q, e1, e2⟩ | ⟨c, q, vs, e1, e2, cl⟩ <;> rcases h' with ⟨c', q', e1', e2'⟩ | ⟨c', q', vs', e1', e2', cl'⟩
  · refine ⟨_, _, _, _, e1, e1', str_sm _ _ _, .inr (.inr ⟨q, q', _, _, rfl, rfl, .inl ⟨e2, e2'⟩, paired_refl fun x hx => ?_⟩)⟩
    obtain ⟨n, _, rfl⟩ := List.mem_map.mp hx
    exact str_sm _ _ _
  · exact absurd c c'
  · exact absurd c' c
  · refine ⟨_, _, _, _, e1, e1', str_sm _ _ _, .inr (.inr ⟨q, q', vs, vs', rfl, rfl, .inl ⟨e2, e2'⟩, L2.Paired.mapP (clash_sm cl cl') fun x y h => ?_⟩)⟩
    exact sm_up h
theorem cut_one (x : V) (ys : List V) : cutV (x :: ys) (some (1 : Int)) none = ys := by
  unfold cutV
  rw [show (some (1 : Int)) = some ((1 : Nat) : Int) from rfl, HT.sIx_nat, HT.sIx_none]
  have e : min 1 (x :: ys).length = 1 := by simp only [List.length_cons]; omega
  rw [e]
  show ys.take ((x :: ys).length - 1) = ys
  exact List.take_of_length_le (by simp)
theorem keys_strs (s : Str) (r : Way) : (((s :: r.map Nm.s).map kS).map kV) = V.str s :: Way.s r := by
  rw [List.map_map, List.map_cons, List.map_map]
  rfl
end Qw

-- QwD27
namespace Qw
open PySem PySem.Spec PyProof.Rows L2
open C8 (Cal pe_c)

-- [(0, '_law_script'), (1, '_law_state_here'), (2, '_law_base'), (3, '_law_one'), (4, '_law_other'), (5, '_law_far'), (6, '_law_kept'), (7, '_law_told'), (8, '_law_found'), (9, '_law_clashes'), (10, '_law_lines'), (11, '_law_tree_here'), (12, '_law_due_here'), (13, '_law_ways_here'), (14, '_law_way')]
def Nlaw : List Str := ["_law_script", "_law_state_here", "_law_base", "_law_one", "_law_other", "_law_far", "_law_kept", "_law_told", "_law_found", "_law_clashes", "_law_lines", "_law_tree_here", "_law_due_here", "_law_ways_here", "_law_way"]
theorem sclaw : FnScope Nlaw ["_law_script"] (defScope (topS 27)) := ⟨rfl, rfl, rfl, by decide +kernel, rfl, by decide +kernel, by decide +kernel⟩
section
variable {P : Program} {w : World} {K : PySem.W.Frag} {mg : Str → Option Value} {base : Heap} {f : Addr} {fd : FuncData}
theorem law_body (T : Tx mg) (c_law_apart : Cal P w K mg base 19 "_law_apart" spApart []) (c_law_differences : Cal P w K mg base 19 "_law_differences" (spDiff K) []) (c_law_draw : Cal P w K mg base 19 "_law_draw" spDraw []) (c_law_due : Cal P w K mg base 19 "_law_due" (spDue K 3) []) (c_law_shape : Cal P w K mg base 19 "_law_shape" (spShape K) []) (c_law_state : Cal P w K mg base 19 "_law_state" (spState K) []) (c_law_tree : Cal P w K mg base 19 "_law_tree" (spTree 3) []) (c_law_turned : Cal P w K mg base 19 "_law_turned" (spTurned 3) []) (c_law_ways : Cal P w K mg base 19 "_law_ways" (spWays K 4) []) (clines_of_tree : Cal P w K mg base 19 "lines_of_tree" (spLines 3) []) (cmerged_lines : Cal P w K mg base 19 "merged_lines" spMLines []) (cmerged_trees : Cal P w K mg base 19 "merged_trees" spTrees []) (ctree_of : Cal P w K mg base 19 "tree_of" spTreeOf [])
    (cdv : Value) (A : Around) (outer : List Env) (s : Shared) (H : Hp) (vs : List V) (Q : VK) (E : XK) (hr : Room 19 (A.deeper (envOfC "law" (defScope (topS 27)) s.heap.objs.size f cdv))) (hG : A.guards = some []) (h : spLaw K vs H Q E) :
    ∃ t, PSs (cxOf CX0 P w K mg base Nlaw "law" (defScope (topS 27)) f cdv A outer s H E).nox (defBody (topS 27)) t ∧ t { nx := fun _ H' => Q .non H', rt := Q } (start Nlaw vs) H := by
  have nd := sclaw.nd
  have hu := hu_of hr
  have hu64 := hr.units
  have hu80 : (A.deeper (envOfC "law" (defScope (topS 27)) s.heap.objs.size f cdv)).units + 80 < cLine := by have := hr.un; omega
  obtain ⟨a, ns, rfl, hS, h63, q⟩ := h
  refine ⟨_, (pss_cons (ps_set (i := 1) nd rfl (Or.inl rfl) (pe_c c_law_state hr (by omega) rfl (pa_cons (pv 0) pa_nil)))
    (pss_cons (ps_set (i := 2) nd rfl (Or.inl rfl) (pe_c c_law_tree hr (by omega) rfl (pa_cons (pv 1) (pa_cons pe_int pa_nil))))
    (pss_cons (ps_par (i := 3) (j := 4) rfl nd rfl rfl (by decide) rfl rfl (pa_cons (pe_c c_law_turned hr (by omega) rfl (pa_cons (pv 1) (pa_cons (pv 2) (pa_cons pe_int pa_nil)))) (pa_cons (pe_c c_law_turned hr (by omega) rfl (pa_cons (pv 1) (pa_cons (pv 2) (pa_cons pe_int pa_nil)))) pa_nil)) (by rfl))
    (pss_cons (ps_set (i := 5) nd rfl (Or.inl rfl) (pe_cmpR op_eq (pe_c c_law_draw hr (by omega) rfl (pa_cons (pv 1) (pa_cons pe_int pa_nil))) pe_int (nomark _)))
    (pss_cons (ps_if (pt_val (pv 5))
      (pss_one (ps_asg (pe_c c_law_apart hr (by omega) rfl (pa_cons (pv 1) (pa_cons (pv 2) pa_nil))) (pg_tup rfl (pgs_cons (pg_name (i := 3) nd rfl (Or.inl rfl)) (pgs_cons (pg_name (i := 4) nd rfl (Or.inl rfl)) pgs_nil)))))
      pss_nil)
    (pss_cons (ps_set (i := 6) nd rfl (Or.inl rfl) (pe_reprL hG hu64 rfl T.repr (pa_cons (pv 2) (pa_cons (pv 3) (pa_cons (pv 4) pa_nil)))))
    (pss_cons (ps_set (i := 7) nd rfl (Or.inl rfl) (pe_c cmerged_trees hr (by omega) rfl (pa_cons (pv 2) (pa_cons (pv 3) (pa_cons (pv 4) pa_nil)))))
    (pss_cons (ps_asg (pe_c c_law_due hr (by omega) rfl (pa_cons (pv 2) (pa_cons (pv 3) (pa_cons (pv 4) (pa_cons (pe_tup pa_nil) pa_nil))))) (pg_tup rfl (pgs_cons (pg_name (i := 8) nd rfl (Or.inl rfl)) (pgs_cons (pg_name (i := 9) nd rfl (Or.inl rfl)) pgs_nil))))
    (pss_cons (ps_if (PW.pt (pw_or (pt_cmpR (op_neP hu64) (pv 7) (pe_ifExp (pt_cmpR op_gt (pe_callB call_len_seq rfl T.len bt_len (pa_cons (pv 9) pa_nil)) pe_int (nomark _)) (pe_tup (pa_cons pe_str (pa_cons (pv 9) pa_nil))) (pe_tup (pa_cons pe_str (pa_cons (pv 8) pa_nil)))) (nomark _)) (pw_or1 (PW.pt (pw_and (pt_val (pv 5)) (pw_and1 (pt_cmpR op_ne (pe_ix ix_tup (pv 7) pe_int (fun _ _ => rfl)) pe_str (nomark _))))))))
      (pss_one (ps_ret pe_bl))
      pss_nil)
    (pss_cons (ps_if (PW.pt (pw_or (pt_cmpR (op_neP hu64) (pe_c cmerged_trees hr (by omega) rfl (pa_cons (pv 2) (pa_cons (pv 4) (pa_cons (pv 3) pa_nil)))) (pv 7) (nomark _)) (pw_or1 (pt_cmpR (op_neP hu64) (pe_c cmerged_trees hr (by omega) rfl (pa_cons (pv 2) (pa_cons (pv 3) (pa_cons (pv 2) pa_nil)))) (pe_tup (pa_cons pe_str (pa_cons (pv 3) pa_nil))) (nomark _)))))
      (pss_one (ps_ret pe_bl))
      pss_nil)
    (pss_cons (ps_if (PW.pt (pw_or (pt_cmpR (op_neP hu64) (pe_c cmerged_trees hr (by omega) rfl (pa_cons (pv 2) (pa_cons (pv 2) (pa_cons (pv 4) pa_nil)))) (pe_tup (pa_cons pe_str (pa_cons (pv 4) pa_nil))) (nomark _)) (pw_or1 (pt_cmpR (op_neP hu64) (pe_c cmerged_trees hr (by omega) rfl (pa_cons (pv 2) (pa_cons (pv 3) (pa_cons (pv 3) pa_nil)))) (pe_tup (pa_cons pe_str (pa_cons (pv 3) pa_nil))) (nomark _)))))
      (pss_one (ps_ret pe_bl))
      pss_nil)
    (pss_cons (ps_setLc (i := 10) (own := [("_law_tree_here", 11)]) (g := gName 11) (tt := tYes) rfl nd rfl rfl (sw_true rfl rfl rfl (by decide +kernel)) (pi_tup (pe_tup (pa_cons (pv 2) (pa_cons (pv 3) (pa_cons (pv 4) pa_nil))))) (blkOk_by (own := [("_law_tree_here", 11)]) (N := Nlaw) (sc := defScope (topS 27)) (by decide +kernel)) (fun _ _ _ _ _ => pg_name (i := 11) nd rfl (Or.inl rfl)) (fun _ _ _ _ _ => pts_nil) (fun _ _ _ _ _ => (pe_c clines_of_tree hr (by omega) rfl (pa_cons (pv 11) (pa_cons pe_int pa_nil)))))
    (pss_cons (ps_set (i := 12) nd rfl (Or.inl rfl) (pe_ifExp (pt_cmpR op_eq (pe_ix ix_tup (pv 7) pe_int (fun _ _ => rfl)) pe_str (nomark _)) (pv 7) (pe_tup (pa_cons pe_str (pa_cons (pe_c clines_of_tree hr (by omega) rfl (pa_cons (pe_ix ix_tup (pv 7) pe_int (fun _ _ => rfl)) (pa_cons pe_int pa_nil))) pa_nil)))))
    (pss_cons (ps_if (PW.pt (pw_or (pt_cmpR (op_neP hu64) (pe_c cmerged_lines hr (by omega) rfl (pa_cons (pe_ix ix_list (pv 10) pe_int (fun _ _ => rfl)) (pa_cons (pe_ix ix_list (pv 10) pe_int (fun _ _ => rfl)) (pa_cons (pe_ix ix_list (pv 10) pe_int (fun _ _ => rfl)) pa_nil)))) (pv 12) (nomark _)) (pw_or1 (pt_cmpR op_ne (pe_reprL hG hu64 rfl T.repr (pa_cons (pv 2) (pa_cons (pv 3) (pa_cons (pv 4) pa_nil)))) (pv 6) (nomark _)))))
      (pss_one (ps_ret pe_bl))
      pss_nil)
    (pss_cons (ps_if (pt_cmpR op_eq (pe_ix ix_tup (pv 7) pe_int (fun _ _ => rfl)) pe_str (nomark _))
      (pss_cons (ps_set (i := 13) nd rfl (Or.inl rfl) (pe_c c_law_ways hr (by omega) rfl (pa_cons (pe_disp (pps_cons pe_str (pv 2) (pps_cons pe_str (pv 3) (pps_cons pe_str (pv 4) (pps_cons pe_str (pe_ix ix_tup (pv 7) pe_int (fun _ _ => rfl)) pps_nil)))) (by rfl) (by rfl) (fun z => by cases z) (by decide)) (pa_cons (pe_tup pa_nil) pa_nil))))
      (pss_cons (ps_set (i := 13) nd rfl (Or.inl rfl) (pe_sortSet rfl hu80 rfl T.sorted rfl T.set (pe_lock (pe_lc (own := [("_law_way", 14)]) (g := gName 14)  rfl nd (pi_keys (pv 13)) (blkOk_by (own := [("_law_way", 14)]) (N := Nlaw) (sc := defScope (topS 27)) (by decide +kernel)) (fun _ _ _ _ _ => pg_name (i := 14) nd rfl (Or.inl rfl)) (fun _ _ _ _ _ => pts_one (pt_cmpR op_gt (pe_callB (show CallR _ (.builtin "len") (rLenK K) from call_len_seq) rfl T.len bt_len (pa_cons (pv 14) pa_nil)) pe_int (nomark _))) (fun _ _ _ _ _ => (pe_slice (show SlR _ (rSlA K) from sl_tupA) (pv 14) (po_some pe_int) po_none))))))
      (pss_cons (ps_for PassesOwn.never rfl (pi_list (pe_c c_law_differences hr (by omega) rfl (pa_cons (pe_ix ix_tup (pv 7) pe_int (fun _ _ => rfl)) (pa_cons (pv 3) (pa_cons (pv 13) pa_nil))))) (pg_name (i := 14) nd rfl (Or.inl rfl))
        (pss_one (ps_if (pt_cmpR (op_neD hu64) (pe_c c_law_shape hr (by omega) rfl (pa_cons (pe_ix ix_tup (pv 7) pe_int (fun _ _ => rfl)) (pa_cons (pv 14) pa_nil))) (pe_c c_law_shape hr (by omega) rfl (pa_cons (pv 4) (pa_cons (pv 14) pa_nil))) (nomark _))
          (pss_one (ps_ret pe_bl))
          pss_nil)))
      (pss_one ((ps_for PassesOwn.never rfl (pi_list (pv 13)) (pg_name (i := 14) nd rfl (Or.inl rfl))
        (pss_one (ps_if (pt_chain (op_eqD hu64) (op_eqD hu64) (pe_c c_law_shape hr (by omega) rfl (pa_cons (pv 2) (pa_cons (pv 14) pa_nil))) (pe_c c_law_shape hr (by omega) rfl (pa_cons (pv 3) (pa_cons (pv 14) pa_nil))) (pe_c c_law_shape hr (by omega) rfl (pa_cons (pv 4) (pa_cons (pv 14) pa_nil))))
          (pss_one (ps_if (pt_cmpR (op_neD hu64) (pe_c c_law_shape hr (by omega) rfl (pa_cons (pe_ix ix_tup (pv 7) pe_int (fun _ _ => rfl)) (pa_cons (pv 14) pa_nil))) (pe_c c_law_shape hr (by omega) rfl (pa_cons (pv 2) (pa_cons (pv 14) pa_nil))) (nomark _))
            (pss_one (ps_ret pe_bl))
            pss_nil))
          pss_nil))))))))
      pss_nil)
    (pss_one (ps_ret (pe_or (pe_cmpR op_eq (pe_ix ix_tup (pv 7) pe_int (fun _ _ => rfl)) pe_str (nomark _)) (pe_one (pe_cmpR (op_eqT hu64) (pe_c ctree_of hr (by omega) rfl (pa_cons (pe_ix ix_tup (pv 12) pe_int (fun _ _ => rfl)) pa_nil)) (pe_ix ix_tup (pv 7) pe_int (fun _ _ => rfl)) (nomark _))))))))))))))))))))), ?_⟩
  refine ⟨_, rfl, a, ns, rfl, hS, h63, fun S C H1 s1 st1 => ?_⟩
  refine ⟨_, rfl, S, C, 2, rfl, by decide, by decide, st1, fun rb b H2 st2 of2 nb db tvb => ?_⟩
  have tb2 : TV H2 b (.ref rb) := tvb.mono (ovn_same _ _)
  refine ⟨_, rfl, _, rfl, S, C, _, b, 2, rfl, by decide, by decide, st2, tb2, nb, db, fun r3 o3 H3 st3 of3 no3 do3 tv3 => ?_⟩
  have tb3 := tb2.monoD (of3.d st2)
  have to3 : TV H3 o3 (.ref r3) := tv3.mono (ovn_same _ _)
  refine ⟨_, rfl, _, rfl, S, C, _, b, 2, rfl, by decide, by decide, st3, tb3, nb, db, fun r4 t4 H4 st4 of4 nt4 dt4 tv4 => ?_⟩
  have tb4 := tb3.monoD (of4.d st3)
  have to4 := to3.monoD (of4.d st3)
  have tt4 : TV H4 t4 (.ref r4) := tv4.mono (ovn_same _ _)
  refine ⟨_, _, rfl, ?_⟩
  refine ⟨_, rfl, S, C, 3, rfl, by decide, by decide, st4, fun rf H5 _ _ st5 of5 => ⟨rfl, ?_⟩⟩
  have tb5 := tb4.monoD (of5.d st4)
  have to5 := to4.monoD (of5.d st4)
  have tt5 := tt4.monoD (of5.d st4)
  refine via_st1 (R := fun σ' H' => ∃ (vo vt : Addr) (o t : Qw.T) (far : Bool), σ' = [some (.ref a), some (.ref S), some (.ref rb), some (.ref vo), some (.ref vt), some (.bl far), none, none, none, none, none, none, none, none, none] ∧ TV H' b (.ref rb) ∧ TV H' o (.ref vo) ∧ TV H' t (.ref vt) ∧ o.isNd = true ∧ t.isNd = true ∧ o.dep ≤ 3 ∧ t.dep ≤ 3 ∧ (far = true → ∀ n, o.kid n = b.kid n ∨ t.kid n = b.kid n)) ?_ ?_
  rotate_left
  · intro N go
    refine ⟨_, rfl, _, rfl, ?_⟩
    refine ite2 (fun c => ?_) (fun c => ?_)
    · refine ⟨_, rfl, _, rfl, S, C, _, b, rfl, st5, tb5, nb, db, fun p x y o t H6 st6 of6 e6 to tt no nt do' dt hor => ?_⟩
      refine ⟨p, _, rfl, SqT.of e6, rfl, ?_⟩
      refine ⟨_, _, rfl, _, _, rfl, rfl, ?_⟩
      exact go _ _ ⟨x, y, o, t, _, rfl, tb5.monoD (of6.d st5), to, tt, no, nt, do', dt, fun _ => hor⟩
    · exact go _ _ ⟨r3, r4, o3, t4, _, rfl, tb5, to5, tt5, no3, nt4, do3, dt4, fun z => absurd z c⟩
  clear tb2 tvb tb3 to3 tv3 tb4 to4 tt4 tv4 tb5 to5 tt5 of2 of3 of4 of5 st2 st3 st4 st5 st1 s1
  rintro σ6 H6 ⟨po, pt', o, t, far, rfl, tb, to, tt, no, nt, do', dt, hfar⟩
  -- repr
  obtain ⟨d1, hd1⟩ := TV.rp 5 (by omega) tb
  obtain ⟨d2, hd2⟩ := TV.rp 5 (by omega) to
  obtain ⟨d3, hd3⟩ := TV.rp 5 (by omega) tt
  refine ⟨_, rfl, _, rfl, _, rfl, [d1, d2, d3], .cons hd1 (.cons hd2 (.cons hd3 .nil)), (by show 3 ≤ 5; decide), fun l6 hl6 => ?_⟩
  have g7 := same_new hl6 (.lst [.ref rb, .ref po, .ref pt'])
  generalize upd H6 l6 (.lst [.ref rb, .ref po, .ref pt']) = H7 at g7
  -- merged_trees
  refine ⟨_, rfl, _, rfl, _, rfl, b, o, t, _, _, _, rfl, tb.mono g7, to.mono g7, tt.mono g7, nb, no, nt, do', db, dt, fun rt H8 g8 told => ?_⟩
  refine ⟨_, rfl, _, rfl, _, rfl, (by show 0 ≤ sizeLine; decide), fun w0 hw0 => ?_⟩
  have g9 := same_new hw0 (.tup [])
  have e0 : upd H8 w0 (.tup []) w0 = some (.tup []) := upd_same
  generalize upd H8 w0 (.tup []) = H9 at g9 e0
  have s9 := g7.trans (g8.trans g9)
  have md : (mrgd o b t []).1.dep ≤ 3 := mrgd_dep [] do' dt no nt
  refine ⟨H9, b, o, t, _, _, _, w0, [], rfl, Same.refl _, tb.mono s9, to.mono s9, tt.mono s9, nb, no, nt, .of e0, do', db, dt, by decide, by decide, fun pd qd rd us H10 g10 e1 tr e2 cl => ?_⟩
  have s10 := s9.trans g10
  refine ⟨pd, _, rfl, SqT.of e1, rfl, ?_⟩
  refine ⟨_, _, rfl, _, _, rfl, rfl, ?_⟩
  replace tb := tb.mono s10
  replace to := to.mono s10
  replace tt := tt.mono s10
  replace told := told.mono (g9.trans g10)
  replace hd1 := hd1.mono s10
  replace hd2 := hd2.mono s10
  replace hd3 := hd3.mono s10
  replace tr := tr.mono (ov_same (Same.refl H9) g10)
  clear s10 s9 g10 g9 g8 g7 e1 e0 hw0 hl6
  have lu := cl.len
  have hmf : far = true → (mrgd o b t []).2 = [] := fun z => mrgd_far (hfar z) []
  -- 1
  dsimp only
  refine via_chk (fun H11 s11 => ?_) (fun N go => ?_)
  rotate_left
  · refine ⟨_, rfl, _, rfl, qd, us, rfl, .inl (SqL.of e2), _, _, rfl, rfl, _, rfl, ?_⟩
    rcases told with ⟨c, x, e3, tv⟩ | ⟨c, q', vs', e3, e4, cl'⟩
    · rw [c] at lu
      rw [show decide (((us.length : Nat) : Int) > 0) = false from decide_eq_false (by rw [lu]; decide)]
      refine iteF ?_
      refine ⟨_, rfl, (by show 2 ≤ sizeLine; decide), fun p hp => ?_⟩
      have g := same_new hp (.tup [.str (Str.ofString "tree"), .ref rd])
      refine ⟨rt, p, _, _, _, _, rfl, rfl, g _ _ e3, upd_same, str_sm _ _ _, .inr (.inl ⟨_, by omega, tv.mono g, tr.mono g⟩), _, rfl, ?_⟩
      refine iteF ?_
      refine ⟨_, rfl, _, rfl, ?_⟩
      refine ite2 (fun c2 => ?_) (fun c2 => ?_)
      · exact ⟨_, rfl, rt, _, _, _, rfl, rfl, SqT.of (g _ _ e3), atI_nat (j := 0) rfl, rfl, _, rfl, go _ g⟩
      · exact go _ g
    · have : us.length ≠ 0 := fun z => c (List.length_eq_zero_iff.mp (by rw [← lu]; exact z))
      rw [show decide (((us.length : Nat) : Int) > 0) = true from decide_eq_true (by omega)]
      refine iteT ?_
      refine ⟨_, rfl, (by show 2 ≤ sizeLine; decide), fun p hp => ?_⟩
      have g := same_new hp (.tup [.str (Str.ofString "clash"), .ref qd])
      refine ⟨rt, p, _, _, _, _, rfl, rfl, g _ _ e3, upd_same, str_sm _ _ _, .inr (.inr ⟨q', qd, vs', us, rfl, rfl, .inl ⟨g _ _ e4, g _ _ e2⟩, L2.Paired.mapP (clash_sm (cl'.mono g) (cl.mono g)) fun x y h => sm_up h⟩), _, rfl, ?_⟩
      refine iteF ?_
      refine ⟨_, rfl, _, rfl, ?_⟩
      exact ite2 (fun c2 => absurd (hmf c2) c) (fun c2 => go _ g)
  replace tb := tb.mono s11
  replace to := to.mono s11
  replace tt := tt.mono s11
  replace told := told.mono s11
  replace hd1 := hd1.mono s11
  replace hd2 := hd2.mono s11
  replace hd3 := hd3.mono s11
  clear s11 e2 cl tr
  -- 2
  refine via_chk (fun H12 s12 => ?_) (fun N go => ?_)
  rotate_left
  · refine ⟨_, rfl, _, rfl, _, rfl, b, t, o, _, _, _, rfl, tb, tt, to, nb, nt, no, dt, db, do', fun r2 H12 g12 told2 => ?_⟩
    rw [← mrgd_comm] at told2
    obtain ⟨x0, x1, y0, y1, a1, a2, a3, a4⟩ := told_sm (by omega) told2 (told.mono g12)
    refine ⟨_, rfl, r2, rt, x0, x1, y0, y1, rfl, rfl, a1, a2, a3, a4, _, rfl, ?_⟩
    refine iteF ?_
    refine ⟨_, rfl, _, rfl, _, rfl, b, o, b, _, _, _, rfl, tb.mono g12, to.mono g12, tb.mono g12, nb, no, nb, do', db, db, fun r3 H13 g13 told3 => ?_⟩
    rw [mrgd_base no] at told3
    obtain ⟨x, b1, b2⟩ := told_plain told3
    refine ⟨_, rfl, (by show 2 ≤ sizeLine; decide), fun p hp => ?_⟩
    have g := same_new hp (.tup [.str (Str.ofString "tree"), .ref po])
    exact ⟨r3, p, _, _, _, _, rfl, rfl, g _ _ b1, upd_same, str_sm _ _ _, .inr (.inl ⟨_, by omega, b2.mono g, ((to.mono g12).mono g13).mono g⟩), _, rfl, go _ (g12.trans (g13.trans g))⟩
  replace tb := tb.mono s12
  replace to := to.mono s12
  replace tt := tt.mono s12
  replace told := told.mono s12
  replace hd1 := hd1.mono s12
  replace hd2 := hd2.mono s12
  replace hd3 := hd3.mono s12
  clear s12
  -- 3
  refine via_chk (fun H13 s13 => ?_) (fun N go => ?_)
  rotate_left
  · refine ⟨_, rfl, _, rfl, _, rfl, b, b, t, _, _, _, rfl, tb, tb, tt, nb, nb, nt, db, db, dt, fun r2 H12 g12 told2 => ?_⟩
    rw [mrgd_base' nt] at told2
    obtain ⟨x, b1, b2⟩ := told_plain told2
    refine ⟨_, rfl, (by show 2 ≤ sizeLine; decide), fun p hp => ?_⟩
    have g := same_new hp (.tup [.str (Str.ofString "tree"), .ref pt'])
    have sg := g12.trans g
    refine ⟨r2, p, _, _, _, _, rfl, rfl, g _ _ b1, upd_same, str_sm _ _ _, .inr (.inl ⟨_, by omega, b2.mono g, tt.mono sg⟩), _, rfl, ?_⟩
    refine iteF ?_
    refine ⟨_, rfl, _, rfl, _, rfl, b, o, o, _, _, _, rfl, tb.mono sg, to.mono sg, to.mono sg, nb, no, no, do', db, do', fun r3 H13 g13 told3 => ?_⟩
    rw [mrgd_same no] at told3
    obtain ⟨x', b1', b2'⟩ := told_plain told3
    refine ⟨_, rfl, (by show 2 ≤ sizeLine; decide), fun p' hp' => ?_⟩
    have g' := same_new hp' (.tup [.str (Str.ofString "tree"), .ref po])
    exact ⟨r3, p', _, _, _, _, rfl, rfl, g' _ _ b1', upd_same, str_sm _ _ _, .inr (.inl ⟨_, by omega, b2'.mono g', ((to.mono sg).mono g13).mono g'⟩), _, rfl, go _ (sg.trans (g13.trans g'))⟩
  replace tb := tb.mono s13
  replace to := to.mono s13
  replace tt := tt.mono s13
  replace told := told.mono s13
  replace hd1 := hd1.mono s13
  replace hd2 := hd2.mono s13
  replace hd3 := hd3.mono s13
  clear s13
  -- the lines
  refine ⟨_, rfl, _, rfl, _, rfl, (by show 3 ≤ sizeLine; decide), fun tp htp => ?_⟩
  have g14 := same_new htp (.tup [.ref rb, .ref po, .ref pt'])
  refine ⟨tp, rfl, ⟨_, SqT.of upd_same⟩, fun D hD => ?_⟩
  have g15 := same_new hD (.lst [])
  refine lc_tup (xs := [.ref rb, .ref po, .ref pt']) (fun i H' => Same H13 H' ∧ H' tp = some (.tup [.ref rb, .ref po, .ref pt']) ∧ ∃ qs : List Addr, H' D = some (.lst (qs.map V.ref)) ∧ qs.length = i ∧ ∀ j u, ([b, o, t].take i)[j]? = some u → ∃ q, qs[j]? = some q ∧ q ≠ D ∧ H' q = some (.lst ((lins u 0).map fun l => V.str l.s)))
    ⟨g14.trans g15, g15 _ _ upd_same, [], upd_same, rfl, fun j u h => by rw [List.take_zero, List.getElem?_nil] at h; cases h⟩ (fun i H' _ h => SqT.of h.2.1) ?_ ?_
  · rintro i x H' hx ⟨s14, etp, qs, eD, hq, hall⟩
    obtain ⟨u, hu', tu, nu, du⟩ : ∃ u, [b, o, t][i]? = some u ∧ TV H' u x ∧ u.isNd = true ∧ u.dep ≤ 3 := by
      match i, hx with
      | 0, h => cases h; exact ⟨b, rfl, tb.mono s14, nb, db⟩
      | 1, h => cases h; exact ⟨o, rfl, to.mono s14, no, do'⟩
      | 2, h => cases h; exact ⟨t, rfl, tt.mono s14, nt, dt⟩
    have hi3 : i < 3 := (List.getElem?_eq_some_iff.mp hu').1
    refine ⟨rfl, yes_of ?_⟩
    refine iteT ?_
    refine ⟨_, rfl, u, x, 0, rfl, nu, tu, du, by decide, by omega, fun p H'' g np e => ?_⟩
    have hDo : ∀ b' o', H13 b' = some o' → b' ≠ D := fun b' o' e' => ne_of_none (g14 _ _ e') hD
    refine ⟨_, g _ _ eD, by rw [List.length_map]; exact small1000 (by omega), ?_, ?_, qs ++ [p], ?_, by rw [List.length_append, List.length_singleton, hq], fun j u' hj => ?_⟩
    · intro b' o' e'
      rw [upd_ne (hDo _ _ e')]
      exact g _ _ (s14 _ _ e')
    · rw [upd_ne (fun z => by rw [z, eD] at etp; cases etp)]; exact g _ _ etp
    · rw [upd_same, List.map_append]; rfl
    · have pD : p ≠ D := fun z => by rw [z, eD] at np; cases np
      by_cases hji : j < i
      · have : ([b, o, t].take i)[j]? = some u' := by
          rw [List.getElem?_take, if_pos hji]
          rw [List.getElem?_take, if_pos (by omega)] at hj
          exact hj
        obtain ⟨q', h1, h2, h3⟩ := hall j u' this
        exact ⟨q', by rw [List.getElem?_append_left (by rw [hq]; exact hji)]; exact h1, h2, by rw [upd_ne h2]; exact g _ _ h3⟩
      · have hji' : j = i := by
          have := (List.getElem?_eq_some_iff.mp hj).1
          rw [List.length_take] at this
          omega
        subst hji'
        rw [List.getElem?_take, if_pos (Nat.lt_succ_self j), hu'] at hj
        cases hj
        exact ⟨p, by rw [List.getElem?_append_right (by omega), hq, Nat.sub_self]; rfl, pD, by rw [upd_ne pD]; exact e⟩
  rintro H14 ⟨s14, _, qs, eD, hq, hall⟩
  obtain ⟨q0, x0, _, l0⟩ := hall 0 b rfl
  obtain ⟨q1, x1, _, l1⟩ := hall 1 o rfl
  obtain ⟨q2, x2, _, l2⟩ := hall 2 t rfl
  obtain rfl : qs = [q0, q1, q2] := by
    match qs, hq with
    | [_, _, _], _ => cases x0; cases x1; cases x2; rfl
  clear hall x0 x1 x2 hq htp g14 g15 hD
  replace tb := tb.mono s14
  replace to := to.mono s14
  replace tt := tt.mono s14
  replace told := told.mono s14
  replace hd1 := hd1.mono s14
  replace hd2 := hd2.mono s14
  replace hd3 := hd3.mono s14
  clear s14
  -- what is due of the lines
  dsimp only
  refine via_set (R := fun v H' => ∃ rl, v = .ref rl ∧ Same H14 H' ∧ ToldL H' (mrgd o b t []) rl) ?_ ?_
  rotate_left
  · intro QQ go
    rcases told with ⟨c, x, e3, tv⟩ | ⟨c, q', vs', e3, e4, cl'⟩
    · refine ⟨_, rfl, rt, _, _, _, rfl, rfl, SqT.of e3, atI_nat (j := 0) rfl, rfl, _, rfl, ?_⟩
      rw [show decide (V.str "tree" = V.str (Str.ofString "clash")) = false from by decide]
      refine iteF ?_
      refine ⟨_, rfl, rt, _, _, _, rfl, rfl, SqT.of e3, atI_nat (j := 1) rfl, ?_⟩
      refine ⟨(mrgd o b t []).1, x, 0, rfl, (by rfl), tv, md, by decide, by omega, fun p H15 s15 _ e15 => ?_⟩
      refine ⟨(by show 2 ≤ sizeLine; decide), fun x2 hx => ?_⟩
      have g2 := same_new hx (.tup [.str (Str.ofString "lines"), .ref p])
      exact go _ _ ⟨x2, rfl, s15.trans g2, .inl ⟨c, p, upd_same, g2 _ _ e15⟩⟩
    · refine ⟨_, rfl, rt, _, _, _, rfl, rfl, SqT.of e3, atI_nat (j := 0) rfl, rfl, _, rfl, ?_⟩
      rw [show decide (V.str "clash" = V.str (Str.ofString "clash")) = true from by decide]
      refine iteT ?_
      exact ⟨_, rfl, go _ _ ⟨rt, rfl, Same.refl _, .inr ⟨c, q', vs', e3, e4, cl'⟩⟩⟩
  rintro v15 H15 ⟨rl, rfl, s15, tol⟩
  replace tb := tb.mono s15
  replace to := to.mono s15
  replace tt := tt.mono s15
  replace told := told.mono s15
  replace hd1 := hd1.mono s15
  replace hd2 := hd2.mono s15
  replace hd3 := hd3.mono s15
  replace l0 := s15 _ _ l0
  replace l1 := s15 _ _ l1
  replace l2 := s15 _ _ l2
  replace eD := s15 _ _ eD
  clear s15
  -- 4
  refine via_chk (fun H16 s16 => ?_) (fun N go => ?_)
  rotate_left
  · refine ⟨_, rfl, D, _, _, _, rfl, rfl, SqL.of eD, atI_nat (j := 0) rfl, ?_⟩
    refine ⟨_, rfl, D, _, _, _, rfl, rfl, SqL.of eD, atI_nat (j := 1) rfl, ?_⟩
    refine ⟨_, rfl, D, _, _, _, rfl, rfl, SqL.of eD, atI_nat (j := 2) rfl, ?_⟩
    refine ⟨b, o, t, q0, q1, q2, rfl, l0, l1, l2, nb, no, nt, do', db, dt, fun r H16 s16 tol2 => ?_⟩
    obtain ⟨x0, x1, y0, y1, a1, a2, a3, a4⟩ := toldL_sm tol2 (tol.mono s16)
    refine ⟨_, rfl, r, rl, x0, x1, y0, y1, rfl, rfl, a1, a2, a3, a4, _, rfl, ?_⟩
    refine iteF ?_
    refine ⟨_, rfl, _, rfl, _, rfl, [d1, d2, d3], .cons (hd1.mono s16) (.cons (hd2.mono s16) (.cons (hd3.mono s16) .nil)), (by show 3 ≤ 5; decide), fun l6 hl6 => ?_⟩
    have g := same_new hl6 (.lst [.ref rb, .ref po, .ref pt'])
    refine ⟨_, rfl, rfl, _, rfl, ?_⟩
    rw [show (!decide (V.str (PyData.shown (.list [d1, d2, d3])) = V.str (PyData.shown (.list [d1, d2, d3])))) = false from by rw [decide_eq_true rfl]; rfl]
    exact go _ (s16.trans g)
  replace tb := tb.mono s16
  replace to := to.mono s16
  replace tt := tt.mono s16
  replace told := told.mono s16
  replace tol := tol.mono s16
  clear s16 hd1 hd2 hd3 l0 l1 l2 eD
  have dsm : ∀ {H1 H2 : Hp}, Same H1 H2 → ∀ {u : Qw.T} {x : V}, Dp K H1 x u.sh.d → Dp K H2 x u.sh.d := fun {H1 H2} g {u x} h => dp_mono g u h
  -- the ways
  refine via_st (R := fun σ' H' => ∃ x13 x14, σ' = [some (.ref a), some (.ref S), some (.ref rb), some (.ref po), some (.ref pt'), some (.bl far), some (.str (PyData.shown (.list [d1, d2, d3]))), some (.ref rt), some (.ref rd), some (.ref qd), some (.ref D), none, some (.ref rl), x13, x14] ∧ Same H16 H') ?_ ?_
  rotate_left
  · intro N go
    rcases told with ⟨c, x, e3, tv⟩ | ⟨c, q', vs', e3, e4, cl'⟩
    rotate_left
    · refine ⟨_, rfl, rt, _, _, _, rfl, rfl, SqT.of e3, atI_nat (j := 0) rfl, rfl, _, rfl, ?_⟩
      rw [show decide (V.str "clash" = V.str (Str.ofString "tree")) = false from by decide]
      exact iteF (go _ _ ⟨_, _, rfl, Same.refl _⟩)
    refine ⟨_, rfl, rt, _, _, _, rfl, rfl, SqT.of e3, atI_nat (j := 0) rfl, rfl, _, rfl, ?_⟩
    rw [show decide (V.str "tree" = V.str (Str.ofString "tree")) = true from by decide]
    refine iteT ?_
    have hsh : ∀ w, ((mrgd o b t []).1.at w).sh = (o.at w).sh ∨ ((mrgd o b t []).1.at w).sh = (t.at w).sh := mrgd_sh no c
    intro p hp
    have gp := same_new hp (.dK [])
    refine ⟨_, rfl, _, rfl, _, rfl, _, rfl, rt, _, _, _, rfl, rfl, SqT.of (gp _ _ e3), atI_nat (j := 1) rfl, upd_same, [(kS "x", .ref rb), (kS "y", .ref po), (kS "z", .ref pt'), (kS "w", x)], rfl, (by show 4 ≤ 15; decide), ?_⟩
    rw [show mergeK [] [(kS "x", V.ref rb), (kS "y", .ref po), (kS "z", .ref pt'), (kS "w", x)] = [(kS "x", V.ref rb), (kS "y", .ref po), (kS "z", .ref pt'), (kS "w", x)] from rfl, upd_upd]
    have gq : Same H16 (unp (upd H16 p (.dK [(kS "x", V.ref rb), (kS "y", .ref po), (kS "z", .ref pt'), (kS "w", x)])) p) := fun b' u e => by
      have := ne_of_none e hp
      rw [unp_ne this, upd_ne this]; exact e
    have gz := same_new hp (.dK [(kS "x", V.ref rb), (kS "y", .ref po), (kS "z", .ref pt'), (kS "w", x)])
    have ep : upd H16 p (.dK [(kS "x", V.ref rb), (kS "y", .ref po), (kS "z", .ref pt'), (kS "w", x)]) p = some (.dK [(kS "x", V.ref rb), (kS "y", .ref po), (kS "z", .ref pt'), (kS "w", x)]) := upd_same
    generalize upd H16 p (.dK [(kS "x", V.ref rb), (kS "y", .ref po), (kS "z", .ref pt'), (kS "w", x)]) = H17 at gq gz ep ⊢
    refine ⟨(by show 0 ≤ sizeLine; decide), fun w0 hw0 => ?_⟩
    have gw := same_new hw0 (.tup [])
    have gq' : Same H16 (unp (upd H17 w0 (.tup [])) p) := gq.trans fun b' u e => by
      by_cases hb : b' = p
      · rw [hb, unp_at] at e; cases e
      · rw [unp_ne hb] at e ⊢; exact gw _ _ e
    refine ⟨p, w0, _, [], fun _ => True, rfl, gw _ _ ep, (by show 4 ≤ 5; decide), ?_, by decide, by decide, by decide, .of upd_same, fun qw kvw H18 s18 nqw eqw hkw hlw => ?_⟩
    · intro kv hm
      have z : kv = (kS "x", V.ref rb) ∨ kv = (kS "y", .ref po) ∨ kv = (kS "z", .ref pt') ∨ kv = (kS "w", x) := by simpa using hm
      rcases z with rfl | rfl | rfl | rfl
      · exact ⟨"x", b, rfl, trivial, tb.mono gq', by omega⟩
      · exact ⟨"y", o, rfl, trivial, to.mono gq', by omega⟩
      · exact ⟨"z", t, rfl, trivial, tt.mono gq', by omega⟩
      · exact ⟨"w", _, rfl, trivial, tv.mono gq', by omega⟩
    have s1618 : Same H16 H18 := gz.trans (gw.trans s18)
    have hl780 : kvw.length ≤ 780 := hlw
    -- the list of them, without their first
    refine ⟨qw, _, eqw, trivial, fun od => ?_⟩
    refine ⟨_, rfl, qw, od, rfl, .inr ⟨kvw, upd_same, fun D2 hD2 => ?_⟩⟩
    have hDq : D2 ≠ qw := fun z => by rw [z, upd_same] at hD2; cases hD2
    have hD18 : H18 D2 = none := by rw [upd_ne hDq] at hD2; exact hD2
    refine lc_keysT (fun i H' => H' qw = some (.frz od (.dT kvw)) ∧ Same (unp H18 qw) H' ∧ ∃ As : List Addr, H' D2 = some (.lst (As.map V.ref)) ∧ As.length ≤ i ∧ ∀ b' ∈ As, ∃ r : Way, r ≠ [] ∧ H' b' = some (.tup (Way.s r))) ⟨by rw [upd_ne hDq.symm, upd_same], fun b' u e => ?_, [], upd_same, Nat.le_refl _, fun _ h => (nomatch h)⟩ (fun i H' h => h.1) ?_ ?_
    · have hb' : b' ≠ qw := fun z => by rw [z, unp_at] at e; cases e
      have e' := unp_same _ _ _ _ e
      rw [upd_ne (ne_of_none e' hD18), upd_ne hb']
      exact e'
    · rintro i k v qq H' hi eqq ⟨l1, sU, As, eD2, hlA, hA⟩
      obtain ⟨s', r, _, rfl⟩ := hkw k (kv_keys_at hi)
      rw [List.nil_append, keys_strs] at eqq
      have hi' := (List.getElem?_eq_some_iff.mp hi).1
      refine ⟨rfl, ?_⟩
      refine ⟨_, rfl, qq, _, rfl, .inr (SqT.of eqq), _, _, rfl, rfl, _, rfl, ?_⟩
      refine ite2 (fun cc => ?_) (fun cc => ?_)
      · have rne : r ≠ [] := fun z => by rw [z] at cc; exact absurd (of_decide_eq_true cc) (by show ¬ ((1 : Int) < ((1 : Nat) : Int)); decide)
        refine ⟨_, rfl, _, rfl, qq, _, rfl, SqT.of eqq, fun z => ?_, fun _ p2 hp2 => ?_⟩
        · have := z.1
          rw [show (some (1 : Int)) = some ((1 : Nat) : Int) from rfl, HT.sIx_nat] at this
          simp only [List.length_cons] at this
          omega
        · have eq2 : cutV (V.str s' :: Way.s r) (some (1 : Int)) none = Way.s r := cut_one _ _
          rw [eq2]
          have g2 := same_new hp2 (.tup (Way.s r))
          have hD2p : p2 ≠ D2 := fun z => by rw [z, eD2] at hp2; cases hp2
          refine ⟨_, g2 _ _ eD2, (by rw [List.length_map]; exact small1000 (by omega)), ?_, ?_, As ++ [p2], ?_, by rw [List.length_append, List.length_singleton]; omega, fun b' hb' => ?_⟩
          · rw [upd_ne hDq.symm]; exact g2 _ _ l1
          · intro b' u e
            rw [upd_ne (ne_of_none (unp_same _ _ _ _ e) hD18)]
            exact g2 _ _ (sU _ _ e)
          · rw [upd_same, List.map_append]; rfl
          · rcases List.mem_append.mp hb' with h | h
            · obtain ⟨r', h1, h2⟩ := hA b' h
              exact ⟨r', h1, by rw [upd_ne (fun z => by rw [z, eD2] at h2; cases h2)]; exact g2 _ _ h2⟩
            · rw [List.mem_singleton.mp h]
              exact ⟨r, rne, by rw [upd_ne hD2p, upd_same]⟩
      · exact ⟨l1, sU, As, eD2, by omega, hA⟩
    rintro H' ⟨l1, sU, As, eD2, hlA, hA⟩
    refine ⟨l1, ?_⟩
    have s19 : Same H18 (upd H' qw (.dT kvw)) := fun b' u e => by
      by_cases hb : b' = qw
      · rw [hb] at e ⊢; rw [eqw] at e; rw [upd_same]; exact e
      · rw [upd_ne hb]; exact sU _ _ (by rw [unp_ne hb]; exact e)
    have eD19 : upd H' qw (.dT kvw) D2 = some (.lst (As.map V.ref)) := by rw [upd_ne hDq]; exact eD2
    have hA19 : ∀ b' ∈ As, ∃ r : Way, r ≠ [] ∧ upd H' qw (.dT kvw) b' = some (.tup (Way.s r)) := fun b' hb => by
      obtain ⟨r, h1, h2⟩ := hA b' hb
      exact ⟨r, h1, by rw [upd_ne (fun z => by rw [z, l1] at h2; cases h2)]; exact h2⟩
    generalize upd H' qw (.dT kvw) = H19 at s19 eD19 hA19
    refine ⟨D2, As, rfl, SqL.of eD19, by omega, fun b' hb => ?_, fun Bs qs hsub hlB hqs => ?_⟩
    · obtain ⟨r, h1, h2⟩ := hA19 b' hb
      cases r with
      | nil => exact absurd rfl h1
      | cons n r => exact ⟨n.s, r.map Nm.s, SqT.of (by rw [h2, List.map_cons, List.map_map]; rfl)⟩
    have g20 := same_new hqs (.lst (Bs.map V.ref))
    have s20 : Same H16 (upd H19 qs (.lst (Bs.map V.ref))) := s1618.trans (s19.trans g20)
    have eB : upd H19 qs (.lst (Bs.map V.ref)) qs = some (.lst (Bs.map V.ref)) := upd_same
    have hB : ∀ b' ∈ Bs, ∃ w, SqT K (upd H19 qs (.lst (Bs.map V.ref))) b' (Way.s w) := fun b' hb => by
      obtain ⟨r, _, h2⟩ := hA19 b' (hsub b' hb)
      exact ⟨r, SqT.of (g20 _ _ h2)⟩
    generalize upd H19 qs (.lst (Bs.map V.ref)) = H20 at s20 eB hB
    -- the differences
    refine ⟨_, rfl, rt, _, _, _, rfl, rfl, SqT.of (s20 _ _ e3), atI_nat (j := 1) rfl, _, rfl, _, rfl, ?_⟩
    refine ⟨_, _, (mrgd o b t []).1, o, qs, Bs, rfl, tv.mono s20, to.mono s20, SqL.of eB, hlB, hB, fun q3 Cs H21 s21 e21 hC => ?_⟩
    refine ⟨q3, rfl, ⟨_, SqL.of e21⟩, ?_⟩
    have s2021 := s20.trans s21
    refine for_list (xs := Cs.map V.ref) (fun i σ' H' => Same H21 H' ∧ ∃ x14, σ' = [some (.ref a), some (.ref S), some (.ref rb), some (.ref po), some (.ref pt'), some (.bl far), some (.str (PyData.shown (.list [d1, d2, d3]))), some (.ref rt), some (.ref rd), some (.ref qd), some (.ref D), none, some (.ref rl), some (.ref qs), x14]) ⟨Same.refl _, _, rfl⟩ (fun i σ' H' _ h => SqL.of (h.1 _ _ e21)) ?_ ?_
    · rintro i x5 σ' H' hx ⟨sx, x14, rfl⟩
      obtain ⟨b', hb, rfl⟩ := ref_at hx
      obtain ⟨w, hw, hne⟩ := hC b' (List.mem_of_getElem? hb)
      have sy := s2021.trans sx
      have hw' := Qw.SqT.mono (s21.trans sx) hw
      refine ⟨_, rfl, rt, _, _, _, rfl, rfl, SqT.of (sy _ _ e3), atI_nat (j := 1) rfl, _, rfl, _, _, b', w, rfl, tv.mono sy, hw', fun y1 Ha sa da => ?_⟩
      refine ⟨_, rfl, _, rfl, _, _, b', w, rfl, tt.mono (sy.trans sa), Qw.SqT.mono sa hw', fun y2 Hb sb db2 => ?_⟩
      refine ⟨_, _, dsm sb da, db2, sh_shaped _, sh_shaped _, _, rfl, ?_⟩
      have heq := (hsh w).resolve_left hne
      rw [sh_eqv, decide_eq_true heq]
      refine iteF ?_
      exact ⟨sx.trans (sa.trans sb), _, rfl⟩
    · rintro σ' H' ⟨sx, x14, rfl⟩
      have sy := s2021.trans sx
      have eB' := sx _ _ (s21 _ _ eB)
      refine ⟨_, rfl, qs, rfl, ⟨_, SqL.of eB'⟩, ?_⟩
      refine for_list (xs := Bs.map V.ref) (fun i σ' H2 => Same H' H2 ∧ ∃ x14, σ' = [some (.ref a), some (.ref S), some (.ref rb), some (.ref po), some (.ref pt'), some (.bl far), some (.str (PyData.shown (.list [d1, d2, d3]))), some (.ref rt), some (.ref rd), some (.ref qd), some (.ref D), none, some (.ref rl), some (.ref qs), x14]) ⟨Same.refl _, _, rfl⟩ (fun i σ' H2 _ h => SqL.of (h.1 _ _ eB')) ?_ ?_
      · rintro i x5 σ' H2 hx ⟨sz, x14, rfl⟩
        obtain ⟨b', hb, rfl⟩ := ref_at hx
        obtain ⟨w, hw⟩ := hB b' (List.mem_of_getElem? hb)
        have s2 := sy.trans sz
        have hw' := Qw.SqT.mono (s21.trans (sx.trans sz)) hw
        refine ⟨_, rfl, _, rfl, _, b, b', w, rfl, tb.mono s2, hw', fun y1 Ha sa da => ?_⟩
        refine ⟨_, rfl, _, rfl, _, o, b', w, rfl, to.mono (s2.trans sa), Qw.SqT.mono sa hw', fun y2 Hb sb db2 => ?_⟩
        refine ⟨_, _, dsm sb da, db2, sh_shaped _, sh_shaped _, _, rfl, ?_⟩
        rw [sh_eqv]
        refine ite2 (fun c1 => ?_) (fun c1 => ?_)
        · refine ⟨_, rfl, _, rfl, _, t, b', w, rfl, tt.mono (s2.trans (sa.trans sb)), Qw.SqT.mono (sa.trans sb) hw', fun y3 Hc sc dc => ?_⟩
          refine ⟨_, _, dsm sc db2, dc, sh_shaped _, sh_shaped _, _, rfl, ?_⟩
          rw [sh_eqv]
          have sabc := sa.trans (sb.trans sc)
          refine ite2 (fun c2 => ?_) (fun c2 => ?_)
          · refine ⟨_, rfl, rt, _, _, _, rfl, rfl, SqT.of (sabc _ _ (s2 _ _ e3)), atI_nat (j := 1) rfl, _, rfl, _, _, b', w, rfl, tv.mono (s2.trans sabc), Qw.SqT.mono sabc hw', fun y4 Hd sd dd => ?_⟩
            refine ⟨_, rfl, _, rfl, _, b, b', w, rfl, tb.mono (s2.trans (sabc.trans sd)), Qw.SqT.mono (sabc.trans sd) hw', fun y5 He se de => ?_⟩
            refine ⟨_, _, dsm se dd, de, sh_shaped _, sh_shaped _, _, rfl, ?_⟩
            have h1 : (b.at w).sh = (o.at w).sh := of_decide_eq_true c1
            have h2 : (o.at w).sh = (t.at w).sh := of_decide_eq_true c2
            have heq : ((mrgd o b t []).1.at w).sh = (b.at w).sh := (hsh w).elim (fun z => z.trans h1.symm) fun z => z.trans (h2.symm.trans h1.symm)
            rw [sh_eqv, decide_eq_true heq]
            refine iteF ?_
            exact ⟨sz.trans (sabc.trans (sd.trans se)), _, rfl⟩
          · exact ⟨sz.trans sabc, _, rfl⟩
        · refine ⟨_, rfl, ?_⟩
          refine iteF ?_
          exact ⟨sz.trans (sa.trans sb), _, rfl⟩
      · rintro σ' H2 ⟨sz, x14, rfl⟩
        exact go _ _ ⟨_, _, rfl, sy.trans sz⟩
  rintro σ' H17 ⟨x13, x14, rfl, s17⟩
  replace told := told.mono s17
  replace tol := tol.mono s17
  rcases told with ⟨c, x, e3, tv⟩ | ⟨c, q', vs', e3, e4, cl'⟩
  · refine ⟨_, rfl, rt, _, _, _, rfl, rfl, SqT.of e3, atI_nat (j := 0) rfl, rfl, _, rfl, ?_⟩
    rw [show decide (V.str "tree" = V.str (Str.ofString "clash")) = false from by decide]
    refine iteF ?_
    rcases tol with ⟨_, ql, e5, e6⟩ | ⟨c', _⟩
    · refine ⟨_, rfl, rl, _, _, _, rfl, rfl, SqT.of e5, atI_nat (j := 1) rfl, ?_⟩
      refine ⟨ql, (mrgd o b t []).1, rfl, e6, rfl, md, fun r H18 s18 tvr => ?_⟩
      refine ⟨_, rfl, rt, _, _, _, rfl, rfl, SqT.of (s18 _ _ e3), atI_nat (j := 1) rfl, ?_⟩
      refine ⟨.non, (mrgd o b t []).1, (mrgd o b t []).1, .inl rfl, .inr tvr, .inr (tv.mono s18), by omega, ?_⟩
      rw [decide_eq_true rfl]
      exact q _
    · exact absurd c c'
  · refine ⟨_, rfl, rt, _, _, _, rfl, rfl, SqT.of e3, atI_nat (j := 0) rfl, rfl, _, rfl, ?_⟩
    rw [show decide (V.str "clash" = V.str (Str.ofString "clash")) = true from by decide]
    exact iteT (q _)
end
end Qw

-- QwEnd
/-! From the defs to the law. -/
namespace Qw
open PySem PySem.Spec PyProof.Rows L2
open C8 (Cal)
section
variable {P : Program} {w : World} {K : PySem.W.Frag} {mg : Str → Option Value} {base : Heap}
/-- a def of the text under its name -/
structure Df (K : PySem.W.Frag) (mg : Str → Option Value) (x : Str) (i : Nat) (ps : List Str) (f : Addr) (fd : FuncData) : Prop where
  F : Fun K x x (topS i) f fd
  b : Binds K fd ps []
  m : mg x = some (.ref f)
theorem Df.cal {x : Str} {i k : Nat} {ps : List Str} {f : Addr} {fd : FuncData} {sp : Sp} (d : Df K mg x i ps f fd) (h : FnOk P w K mg base CX0 k f fd ps sp) : Cal P w K mg base k x sp [] := ⟨f, fd, ps, [], h, d.m, d.F.kp, d.b, .nil⟩
theorem cal_up {x : Str} {j k : Nat} {sp : Sp} (c : Cal P w K mg base j x sp []) (h : j ≤ k) : Cal P w K mg base k x sp [] := by
  obtain ⟨f, fd, ps, ds, a, b⟩ := c.ex
  exact ⟨f, fd, ps, ds, a.mono h, b⟩
theorem fn_none {k : Nat} {f : Addr} {fd : FuncData} {ps : List Str} {sp : Sp} (no : ∀ vs H Q E, ¬ sp vs H Q E) : FnOk P w K mg base CX0 k f fd ps sp :=
  ⟨fun vs H Q E h => (no vs H Q E h).elim, fun _ _ _ H _ _ vs Q E _ _ _ _ h => (no vs H Q E h).elim⟩
theorem dep0 {t : Qw.T} (h : t.isNd = true) (d : t.dep ≤ 0) : False := by
  have := dep_pos h
  omega
/-- the defs one above the other -/
theorem calls {f7 f8 f9 f10 f11 f12 f13 f14 f15 f17 f18 f19 f20 f21 f22 f23 f24 f25 f26 : Addr} {g7 g8 g9 g10 g11 g12 g13 g14 g15 g17 g18 g19 g20 g21 g22 g23 g24 g25 g26 : FuncData} (T : Tx mg)
    (D7 : Df K mg "_is_name" 7 ["word"] f7 g7) (D8 : Df K mg "_line" 8 ["text"] f8 g8) (D9 : Df K mg "tree_of" 9 ["lines"] f9 g9) (D10 : Df K mg "lines_of_tree" 10 ["tree", "depth"] f10 g10) (D11 : Df K mg "_copied" 11 ["part"] f11 g11)
    (D12 : Df K mg "_merged_part" 12 ["base", "one", "other", "way"] f12 g12) (D13 : Df K mg "_merged" 13 ["base", "one", "other", "way"] f13 g13) (D14 : Df K mg "merged_trees" 14 ["base", "one", "other"] f14 g14) (D15 : Df K mg "merged_lines" 15 ["base", "one", "other"] f15 g15)
    (D17 : Df K mg "_law_state" 17 ["_law_script"] f17 g17) (D18 : Df K mg "_law_draw" 18 ["_law_state_here", "_law_many"] f18 g18) (D19 : Df K mg "_law_tree" 19 ["_law_state_here", "_law_deep"] f19 g19) (D20 : Df K mg "_law_turned" 20 ["_law_state_here", "_law_tree_here", "_law_deep"] f20 g20)
    (D21 : Df K mg "_law_ways" 21 ["_law_tree_here", "_law_way"] f21 g21) (D22 : Df K mg "_law_at" 22 ["_law_tree_here", "_law_way"] f22 g22) (D23 : Df K mg "_law_due" 23 ["_law_base", "_law_one", "_law_other", "_law_way"] f23 g23) (D24 : Df K mg "_law_differences" 24 ["_law_one", "_law_other", "_law_ways_here"] f24 g24)
    (D25 : Df K mg "_law_shape" 25 ["_law_tree_here", "_law_way"] f25 g25) (D26 : Df K mg "_law_apart" 26 ["_law_state_here", "_law_base"] f26 g26)
    {f : Addr} (cdv : Value) (A : Around) (outer : List Env) (s : Shared) (H : Hp) (vs : List V) (Q : VK) (E : XK) (hr : Room 19 (A.deeper (envOfC "law" (defScope (topS 27)) s.heap.objs.size f cdv))) (hG : A.guards = some []) (h : spLaw K vs H Q E) :
    ∃ t, PSs (cxOf CX0 P w K mg base Nlaw "law" (defScope (topS 27)) f cdv A outer s H E).nox (defBody (topS 27)) t ∧ t { nx := fun _ H' => Q .non H', rt := Q } (start Nlaw vs) H := by
  have c7 := D7.cal (P := P) (w := w) (base := base) (ok_is_name D7.F T)
  have c8 := D8.cal (ok_line D8.F T c7)
  have c9 := D9.cal (oktree_of D9.F T c8)
  have lines : ∀ k, Cal P w K mg base k "lines_of_tree" (spLines k) [] := by
    intro k
    induction k with
    | zero => exact D10.cal (fn_none fun vs H Q E ⟨t, v, d, _, nt, _, hd, _⟩ => dep0 nt hd)
    | succ k ih => exact D10.cal (oklines_of_tree D10.F T ih)
  have copied : ∀ k, Cal P w K mg base k "_copied" (spCopiedN k) [] := by
    intro k
    induction k with
    | zero => exact D11.cal (fn_none fun vs H Q E ⟨t, v, _, _, hd, _⟩ => Nat.not_lt_zero _ hd)
    | succ k ih => exact D11.cal (ok_copied D11.F T ih)
  have part0 : Cal P w K mg base 5 "_merged_part" (spPart K 0) [] := D12.cal (fn_none fun vs H Q E ⟨b, o, t, _, _, _, _, _, _, _, _, _, _, hd, _⟩ => Nat.not_lt_zero _ hd)
  have merged : ∀ k, Cal P w K mg base (6 + 2 * k) "_merged" (spMerged K k) [] := by
    intro k
    induction k with
    | zero => exact D13.cal (ok_merged D13.F T part0)
    | succ k ih => exact D13.cal (ok_merged D13.F T (D12.cal (ok_merged_part (j := 6 + 2 * k) D12.F T (by omega) (copied 4) ih)))
  have c14 := D14.cal (okmerged_trees D14.F T (merged 3))
  have c15 := D15.cal (okmerged_lines D15.F T (cal_up (lines 3) (by decide)) c14 (cal_up c9 (by decide)))
  have c17 := D17.cal (P := P) (w := w) (base := base) (ok_law_state D17.F T)
  have c18 := D18.cal (P := P) (w := w) (base := base) (ok_law_draw D18.F T)
  have tree : ∀ k, Cal P w K mg base (1 + k) "_law_tree" (spTree k) [] := by
    intro k
    induction k with
    | zero => exact D19.cal (fn_none fun vs H Q E ⟨S, C, d, _, hd, _⟩ => Nat.not_lt_zero _ hd)
    | succ k ih => exact D19.cal (ok_law_tree (j := 1 + k) (by omega) D19.F T c18 ih)
  have turned : ∀ k, Cal P w K mg base (4 + k) "_law_turned" (spTurned k) [] := by
    intro k
    induction k with
    | zero => exact D20.cal (fn_none fun vs H Q E ⟨S, C, v, t, d, _, hd, _⟩ => Nat.not_lt_zero _ hd)
    | succ k ih => exact D20.cal (ok_law_turned (j := 4 + k) (by omega) D20.F T c18 (cal_up (tree 2) (by omega)) ih)
  have ways : ∀ k, Cal P w K mg base k "_law_ways" (spWays K k) [] := by
    intro k
    induction k with
    | zero => exact D21.cal (fn_none fun vs H Q E ⟨p, wp, kvs, ws, Pk, _, _, _, _, _, h0, _⟩ => Nat.lt_irrefl _ h0)
    | succ k ih => exact D21.cal (ok_law_ways D21.F T ih)
  have c22 := D22.cal (P := P) (w := w) (base := base) (ok_law_at D22.F T)
  have c25 := D25.cal (ok_law_shape D25.F T c22)
  have c24 := D24.cal (ok_law_differences D24.F T c25)
  have due : ∀ k, Cal P w K mg base k "_law_due" (spDue K k) [] := by
    intro k
    induction k with
    | zero => exact D23.cal (fn_none fun vs H Q E ⟨B, b, o, t, _, _, _, _, _, _, _, _, _, _, _, no, _, _, hd, _⟩ => dep0 no hd)
    | succ k ih => exact D23.cal (ok_law_due D23.F T ih)
  have c26 := D26.cal (ok_law_apart (j := 3) (by decide) D26.F T c18 (tree 2))
  exact law_body T (cal_up c26 (by decide)) (cal_up c24 (by decide)) (cal_up c18 (by decide)) (cal_up (due 3) (by decide)) (cal_up c25 (by decide)) (cal_up c17 (by decide)) (cal_up (tree 3) (by decide)) (cal_up (turned 3) (by decide)) (cal_up (ways 4) (by decide)) (cal_up (lines 3) (by decide)) (cal_up c15 (by decide)) (cal_up c14 (by decide)) (cal_up c9 (by decide)) cdv A outer s H vs Q E hr hG h
end
end Qw

-- QwFin
/-! The law's call at the run's end. -/
namespace Qw
open PySem PySem.Spec PyProof.Rows L2
/-- one call of a def, by its body there -/
theorem run_at {P : Program} {w : World} {K : PySem.W.Frag} {mg : Str → Option Value} {base : Heap} {k : Nat} {x : Str} {st : Stmt} {f : Addr} {fd : FuncData} {N ps : List Str} (F : Fun K x x st f fd) (sc : FnScope N ps (defScope st)) {A : Around} {out : List Env} {s : Shared} {H : Hp} {ar : Args} {us : List Value} {vs : List V} {Q : VK} {E : XK}
    (room : Room (k + 1) A) (env0 : Env0 P w K mg base A out s H) (bind : BindsTo s fd ar (ps.zip us)) (rel : Vals vs us) (lens : vs.length = ps.length)
    (body : ∀ cdv : Value, Room k (A.deeper (envOfC x (defScope st) s.heap.objs.size f cdv)) → ∃ t, PSs (cxOf CX0 P w K mg base N x (defScope st) f cdv A out s H E).nox (defBody st) t ∧ t { nx := fun _ H' => Q .non H', rt := Q } (start N vs) H) :
    codeAny (model P w) A (.call (.ref f) ar) (CR CX0 out P w H s Q E) s := by
  obtain ⟨oc, od, kV, doc, pm, an, cdv, ct, osl, rfl, look, code⟩ := F.ex
  have stays : ∀ b o, base.get? b = some o → s.heap.get? b = some o := fun b o e => (env0.bs b o e).1
  have inK : K.In s.heap := env0.mod.kin.keeps stays
  have free : s.heap.NoLimit := env0.mod.nolimit.keeps stays
  have kinds : ∀ y ∈ ps.zip us, (defScope st).names.lookup y.1 = some .local ∨ ((defScope st).names.lookup y.1 = some .cell ∧ ((cellsFrom (s.heap.objs.size + 1) (defScope st).names []).lookup y.1).isSome = true) := by
    rintro ⟨n, v⟩ hy
    have hn := (List.of_mem_zip hy).1
    exact (sc.par n hn).imp id fun q => ⟨q, PySem.W.cellsFrom_some _ _ _ (.inl q)⟩
  have body' := body cdv (room.deeper _)
  refine codeAny_call_function room.depth (inK _ _ look) rfl sc.co sc.gen rfl (PySem.W.codeRec_of inK code) (bind _ _ _ _ (wpAny_newFunctionEnv_cells sc.kind kinds fun env he s1 ent => ?_))
  subst he
  refine ⟨free.keeps ent.toInCall.keep, codeAny_func ?_⟩
  obtain ⟨t, ht, hq⟩ := body'
  have I : Inv (cxOf CX0 P w K mg base N x (defScope st) f cdv A out s H E) [] (start N vs) H s1 := inv_start sc room.hd env0 lens rel ent
  refine wpAny_mono ((ht.nox).run [] s1 (start N vs) H _ I hq) (fun fl s2 hs => ?_) fun _ _ z => z
  match fl, hs with
  | .ret u, ⟨v, σ', H', J, rv, qq⟩ => exact ⟨v, H', J.os, J.bare, J.base, J.hok, rv, qq⟩
  | .next, ⟨σ', H', J, qq⟩ => exact ⟨.non, H', J.os, J.bare, J.base, J.hok, rfl, qq⟩
  | .brk, ⟨_, _, _, qq⟩ => exact qq.elim
  | .cont, ⟨_, _, _, qq⟩ => exact qq.elim
/-- where only the script may be tracked -/
theorem end_from {P : Program} {w : World} {K : PySem.W.Frag} {mg mb : Str → Option Value} {fa a : Addr} {fd : FuncData} {st : Stmt} {N : List Str} {z : Shared} {vs : List Value} {ns : List Int} {H : Hp}
    (kin : K.In z.heap) (gl : z.heap.Ns mainGlobals mg) (bl : z.heap.Ns builtinsNs mb) (bb : ∀ y : Str, y ≠ "__name__" → mb y = bootBuiltins y) (nl : z.heap.NoLimit) (gens : z.gens = #[])
    (obj : z.heap.get? a = some { cls := .type "list", data := .seq vs.toArray }) (h63 : ns.length ≤ 63)
    (F : Fun K "law" "law" st fa fd) (sc : FnScope N ["_law_script"] (defScope st)) (bind : ∀ (s : Shared) (u : Value), BindsTo s fd ⟨[u], []⟩ [("_law_script", u)])
    (body : ∀ base : Heap, K.In base → base.Ns mainGlobals mg → ∀ (cdv : Value) (A : Around) (outer : List Env) (s : Shared) (H : Hp) (vs : List V) (Q : VK) (E : XK), Room 19 (A.deeper (envOfC "law" (defScope st) s.heap.objs.size fa cdv)) → A.guards = some [] → spLaw K vs H Q E →
      ∃ t, PSs (cxOf CX0 P w K mg base N "law" (defScope st) fa cdv A outer s H E).nox (defBody st) t ∧ t { nx := fun _ H' => Q .non H', rt := Q } (start N vs) H)
    (only : ∀ b, H b = none ∨ ∃ o xs, H b = some (.frz o (.lst xs))) (seq : SqL K H a (ns.map V.int)) (ok : HOk P w H z.heap) (here : ∀ b, H b ≠ none → b = a) (notK : H a ≠ none → K.lookup a = none) :
    codeAny (model P w) callerA (.call (.ref fa) ⟨[.ref a], []⟩) (fun r s' => r = .ok (.ret (.bool true)) ∧ OldK z.heap s'.heap ∧ s'.os = z.os ∧ AllBare s'.gens) z := by
  -- what is no list stands outside
  have dictsOut : ∀ {b : Addr} {o : Obj} {es : Array DictEntry} {ep : Nat}, z.heap.get? b = some o → o.data = .dict es ep → H b = none := by
    intro b o es ep hb hd
    refine Classical.byContradiction fun hn => ?_
    obtain rfl := here b hn
    rw [obj] at hb
    cases hb
    exact nomatch (show Data.seq vs.toArray _ = Data.dict es ep from hd)
  have nsOut : ∀ {b : Addr} {m : Str → Option Value}, z.heap.Ns b m → (hidT z.heap H).Ns b m := by
    rintro b m ⟨o, es, ep, h1, h2, h3⟩
    exact ⟨o, es, ep, hidT_get h1 (dictsOut h1 h2), h2, h3⟩
  have kOut : K.In (hidT z.heap H) := by
    intro b o hb
    refine hidT_get (kin b o hb) (Classical.byContradiction fun hn => ?_)
    obtain rfl := here b hn
    rw [notK hn] at hb
    cases hb
  obtain ⟨mc, l1, l2⟩ := nl
  have env0 : Env0 P w K mg (hidT z.heap H) callerA [] z H := by
    refine ⟨rfl, ⟨kOut, nsOut gl, ⟨mb, nsOut bl, bb⟩, ⟨mc, nsOut l1, l2⟩⟩, fun b o hb => of_hidT hb, ?_, trivial, ?_, ok, .of_eq gens⟩
    · rw [hidT_size]
      exact Nat.le_refl _
    · intro b hb
      cases (show b ∈ ([] : List Addr) from hb)
  have room : Room 20 callerA := ⟨rfl, by decide, by decide⟩
  have run := run_at (ps := ["_law_script"]) (us := [.ref a]) (vs := [.ref a]) (Q := fun v _ => v = .bl true) (E := fun _ _ _ => False) F sc room env0 (bind z (.ref a)) (.cons rfl .nil) rfl fun cdv hr => body _ kOut (nsOut gl) cdv callerA [] z H [.ref a] (fun v _ => v = .bl true) (fun _ _ _ => False) hr rfl ⟨a, ns, rfl, seq, h63, fun _ => rfl⟩
  refine codeAny_mono run fun r s' hrs => ?_
  match r, hrs with
  | .ok (.ret u), ⟨v, H', hos, hbare, un, hok, rel, hv⟩ =>
    have hv' : v = .bl true := hv
    subst hv'
    obtain rfl : u = Value.bool true := rel
    refine ⟨rfl, OldK.of_keep fun b o hb => ?_, hos, hbare⟩
    rcases only b with hn | ⟨ob, xs, hf⟩
    · exact un.keep b o hb hn (fun q => nomatch (show b ∈ ([] : List Addr) from q)) (fun q => nomatch q)
    · have before := (ok b _ hf).1
      have after := (hok b _ (un.frzs b ob _ hf)).1
      rw [before] at hb
      cases hb
      exact after
  | .ok .next, hf => exact hf.elim
  | .ok .brk, hf => exact hf.elim
  | .ok .cont, hf => exact hf.elim
  | .error e, hf => exact hf.elim
/-- the law's call -/
theorem end_call {P : Program} {w : World} {K : PySem.W.Frag} {mg mb : Str → Option Value} {fa a : Addr} {fd : FuncData} {st : Stmt} {N : List Str} {z : Shared} {vs : List Value} {ns : List Int}
    (kin : K.In z.heap) (gl : z.heap.Ns mainGlobals mg) (bl : z.heap.Ns builtinsNs mb) (bb : ∀ y : Str, y ≠ "__name__" → mb y = bootBuiltins y) (nl : z.heap.NoLimit) (gens : z.gens = #[])
    (obj : z.heap.get? a = some { cls := .type "list", data := .seq vs.toArray }) (isn : IntsAre vs ns) (h63 : ns.length ≤ 63)
    (F : Fun K "law" "law" st fa fd) (sc : FnScope N ["_law_script"] (defScope st)) (bind : ∀ (s : Shared) (u : Value), BindsTo s fd ⟨[u], []⟩ [("_law_script", u)])
    (body : ∀ base : Heap, K.In base → base.Ns mainGlobals mg → ∀ (cdv : Value) (A : Around) (outer : List Env) (s : Shared) (H : Hp) (vs : List V) (Q : VK) (E : XK), Room 19 (A.deeper (envOfC "law" (defScope st) s.heap.objs.size fa cdv)) → A.guards = some [] → spLaw K vs H Q E →
      ∃ t, PSs (cxOf CX0 P w K mg base N "law" (defScope st) fa cdv A outer s H E).nox (defBody st) t ∧ t { nx := fun _ H' => Q .non H', rt := Q } (start N vs) H) :
    codeAny (model P w) callerA (.call (.ref fa) ⟨[.ref a], []⟩) (fun r s' => r = .ok (.ret (.bool true)) ∧ OldK z.heap s'.heap ∧ s'.os = z.os ∧ AllBare s'.gens) z := by
  have rel := vals_ints isn
  have few : (ns.map V.int).length ≤ sizeLine := by rw [List.length_map]; exact small (by omega)
  cases look : K.lookup a with
  | some o =>
    have same := kin a o look
    rw [obj] at same
    cases same
    have fits : vs.toArray.size ≤ sizeLine := by rw [List.size_toArray, isn.length]; exact small (by omega)
    exact end_from (H := nil) kin gl bl bb nl gens obj h63 F sc bind body (fun _ => .inl rfl) (.inr ⟨_, vs.toArray, _, look, rfl, rfl, rfl, fits, by simpa using rel⟩) (fun b u q => nomatch (show (none : Option HO) = some u from q)) (fun b q => absurd rfl q) (fun q => absurd rfl q)
  | none =>
    have one : ∀ b u, upd nil a (.frz { cls := .type "list", data := .seq vs.toArray } (.lst (ns.map V.int))) b = some u → b = a ∧ u = .frz { cls := .type "list", data := .seq vs.toArray } (.lst (ns.map V.int)) := by
      intro b u q
      by_cases hb : b = a
      · rw [hb, upd_same] at q
        exact ⟨hb, (Option.some.inj q).symm⟩
      · rw [upd_ne hb] at q
        exact nomatch (show (none : Option HO) = some u from q)
    refine end_from (H := upd nil a (.frz { cls := .type "list", data := .seq vs.toArray } (.lst (ns.map V.int)))) kin gl bl bb nl gens obj h63 F sc bind body (fun b => ?_) (.inl (.inr ⟨_, upd_same⟩)) (fun b u q => ?_) (fun b q => ?_) (fun _ => look)
    · cases q : upd nil a (.frz { cls := .type "list", data := .seq vs.toArray } (.lst (ns.map V.int))) b with
      | none => exact .inl rfl
      | some u => exact .inr ⟨_, _, by rw [(one b u q).2]⟩
    · obtain ⟨rfl, rfl⟩ := one b u q
      exact ⟨obj, few, vs, _, rel, obj⟩
    · cases e : upd nil a (.frz { cls := .type "list", data := .seq vs.toArray } (.lst (ns.map V.int))) b with
      | none => exact absurd e q
      | some u => exact (one b u e).1
/-- the goal behind the head -/
theorem walk {l : PySem.W.OpenLaw} {q : Program} {loose : List Str} {XP : (Str → Option Value) → Heap → Prop} {YP : World → Heap → Prop} {d : DefRec} {K : Params → PySem.W.Frag} (hn : l.most = some 63) (hdf : d.params.defaults = [])
    (hY : ∀ (w : World) (h : Heap), YP w h → (K w.params).In h)
    (F : ∀ (w : World) (mg : Str → Option Value) (fa : Addr) (h : Heap), (K w.params).In h → h.Ns mainGlobals mg → mg d.name = some (.ref fa) →
      ∃ fd : FuncData, (∀ (s : Shared) (u : Value), BindsTo s fd ⟨[u], []⟩ [("_law_script", u)]) ∧ Fun (K w.params) "law" "law" (topS 27) fa fd ∧
        ∀ base : Heap, (K w.params).In base → base.Ns mainGlobals mg → ∀ (cdv : Value) (A : Around) (outer : List Env) (s : Shared) (H : Hp) (vs : List V) (Q : VK) (E : XK), Room 19 (A.deeper (envOfC "law" (defScope (topS 27)) s.heap.objs.size fa cdv)) → A.guards = some [] → spLaw (K w.params) vs H Q E →
          ∃ t, PSs (cxOf CX0 l.prog w (K w.params) mg base Nlaw "law" (defScope (topS 27)) fa cdv A outer s H E).nox (defBody (topS 27)) t ∧ t { nx := fun _ H' => Q .non H', rt := Q } (start Nlaw vs) H) :
    PySem.W.WalkO q loose XP YP l.row.toRowW d [] (fun f vs => PySem.call f vs) := by
  refine Att.attach_call hn hdf fun w s0 z mg mb fa o pm cd doc a vs ns G Y _ _ _ hmg obj isn h63 gens => ?_
  obtain ⟨fd, hb, hF, body⟩ := F w mg fa _ (hY w _ Y) G.T.g hmg
  exact end_call (hY w _ Y) G.T.g G.T.b G.T.builtins G.T.nolimit gens obj isn h63 hF sclaw hb body
end Qw

-- QwAll
namespace Qw
open PySem PySem.Spec PyProof.Rows L2
/-- the defs stand there as the text says -/
theorem tops {l : PySem.W.OpenLaw} {w : World} {K : PySem.W.Frag} {h : Heap} {mg : Str → Option Value} {fa : Addr} (X : K.In h) (G : h.Ns mainGlobals mg) (hfa : mg "law" = some (.ref fa))
    {f7 : Addr} {od7 an7 : Option Addr} {sl7 : Array (Option Value)} {oc7 kV7 dc7 pm7 cd7 ct7 : Value}
    (a7 : PySem.W.nsIn K mainGlobals "_is_name" = some (some (.ref f7))) (l7 : K.lookup f7 = some ⟨oc7, od7, .func (PySem.W.fnOf "_is_name" "_is_name" (defArgs (topS 7)) (defBody (topS 7)) (defScope (topS 7)) .none kV7 dc7 pm7 an7 cd7 ct7), sl7⟩) (c7 : PySem.W.codeIn K cd7 "_is_name" = true) (k7 : PySem.W.keepIn K (.ref f7) = true)
    {f8 : Addr} {od8 an8 : Option Addr} {sl8 : Array (Option Value)} {oc8 kV8 dc8 pm8 cd8 ct8 : Value}
    (a8 : PySem.W.nsIn K mainGlobals "_line" = some (some (.ref f8))) (l8 : K.lookup f8 = some ⟨oc8, od8, .func (PySem.W.fnOf "_line" "_line" (defArgs (topS 8)) (defBody (topS 8)) (defScope (topS 8)) .none kV8 dc8 pm8 an8 cd8 ct8), sl8⟩) (c8 : PySem.W.codeIn K cd8 "_line" = true) (k8 : PySem.W.keepIn K (.ref f8) = true)
    {f9 : Addr} {od9 an9 : Option Addr} {sl9 : Array (Option Value)} {oc9 kV9 dc9 pm9 cd9 ct9 : Value}
    (a9 : PySem.W.nsIn K mainGlobals "tree_of" = some (some (.ref f9))) (l9 : K.lookup f9 = some ⟨oc9, od9, .func (PySem.W.fnOf "tree_of" "tree_of" (defArgs (topS 9)) (defBody (topS 9)) (defScope (topS 9)) .none kV9 dc9 pm9 an9 cd9 ct9), sl9⟩) (c9 : PySem.W.codeIn K cd9 "tree_of" = true) (k9 : PySem.W.keepIn K (.ref f9) = true)
    {f10 : Addr} {od10 an10 : Option Addr} {sl10 : Array (Option Value)} {oc10 kV10 dc10 pm10 cd10 ct10 : Value}
    (a10 : PySem.W.nsIn K mainGlobals "lines_of_tree" = some (some (.ref f10))) (l10 : K.lookup f10 = some ⟨oc10, od10, .func (PySem.W.fnOf "lines_of_tree" "lines_of_tree" (defArgs (topS 10)) (defBody (topS 10)) (defScope (topS 10)) .none kV10 dc10 pm10 an10 cd10 ct10), sl10⟩) (c10 : PySem.W.codeIn K cd10 "lines_of_tree" = true) (k10 : PySem.W.keepIn K (.ref f10) = true)
    {f11 : Addr} {od11 an11 : Option Addr} {sl11 : Array (Option Value)} {oc11 kV11 dc11 pm11 cd11 ct11 : Value}
    (a11 : PySem.W.nsIn K mainGlobals "_copied" = some (some (.ref f11))) (l11 : K.lookup f11 = some ⟨oc11, od11, .func (PySem.W.fnOf "_copied" "_copied" (defArgs (topS 11)) (defBody (topS 11)) (defScope (topS 11)) .none kV11 dc11 pm11 an11 cd11 ct11), sl11⟩) (c11 : PySem.W.codeIn K cd11 "_copied" = true) (k11 : PySem.W.keepIn K (.ref f11) = true)
    {f12 : Addr} {od12 an12 : Option Addr} {sl12 : Array (Option Value)} {oc12 kV12 dc12 pm12 cd12 ct12 : Value}
    (a12 : PySem.W.nsIn K mainGlobals "_merged_part" = some (some (.ref f12))) (l12 : K.lookup f12 = some ⟨oc12, od12, .func (PySem.W.fnOf "_merged_part" "_merged_part" (defArgs (topS 12)) (defBody (topS 12)) (defScope (topS 12)) .none kV12 dc12 pm12 an12 cd12 ct12), sl12⟩) (c12 : PySem.W.codeIn K cd12 "_merged_part" = true) (k12 : PySem.W.keepIn K (.ref f12) = true)
    {f13 : Addr} {od13 an13 : Option Addr} {sl13 : Array (Option Value)} {oc13 kV13 dc13 pm13 cd13 ct13 : Value}
    (a13 : PySem.W.nsIn K mainGlobals "_merged" = some (some (.ref f13))) (l13 : K.lookup f13 = some ⟨oc13, od13, .func (PySem.W.fnOf "_merged" "_merged" (defArgs (topS 13)) (defBody (topS 13)) (defScope (topS 13)) .none kV13 dc13 pm13 an13 cd13 ct13), sl13⟩) (c13 : PySem.W.codeIn K cd13 "_merged" = true) (k13 : PySem.W.keepIn K (.ref f13) = true)
    {f14 : Addr} {od14 an14 : Option Addr} {sl14 : Array (Option Value)} {oc14 kV14 dc14 pm14 cd14 ct14 : Value}
    (a14 : PySem.W.nsIn K mainGlobals "merged_trees" = some (some (.ref f14))) (l14 : K.lookup f14 = some ⟨oc14, od14, .func (PySem.W.fnOf "merged_trees" "merged_trees" (defArgs (topS 14)) (defBody (topS 14)) (defScope (topS 14)) .none kV14 dc14 pm14 an14 cd14 ct14), sl14⟩) (c14 : PySem.W.codeIn K cd14 "merged_trees" = true) (k14 : PySem.W.keepIn K (.ref f14) = true)
    {f15 : Addr} {od15 an15 : Option Addr} {sl15 : Array (Option Value)} {oc15 kV15 dc15 pm15 cd15 ct15 : Value}
    (a15 : PySem.W.nsIn K mainGlobals "merged_lines" = some (some (.ref f15))) (l15 : K.lookup f15 = some ⟨oc15, od15, .func (PySem.W.fnOf "merged_lines" "merged_lines" (defArgs (topS 15)) (defBody (topS 15)) (defScope (topS 15)) .none kV15 dc15 pm15 an15 cd15 ct15), sl15⟩) (c15 : PySem.W.codeIn K cd15 "merged_lines" = true) (k15 : PySem.W.keepIn K (.ref f15) = true)
    {f17 : Addr} {od17 an17 : Option Addr} {sl17 : Array (Option Value)} {oc17 kV17 dc17 pm17 cd17 ct17 : Value}
    (a17 : PySem.W.nsIn K mainGlobals "_law_state" = some (some (.ref f17))) (l17 : K.lookup f17 = some ⟨oc17, od17, .func (PySem.W.fnOf "_law_state" "_law_state" (defArgs (topS 17)) (defBody (topS 17)) (defScope (topS 17)) .none kV17 dc17 pm17 an17 cd17 ct17), sl17⟩) (c17 : PySem.W.codeIn K cd17 "_law_state" = true) (k17 : PySem.W.keepIn K (.ref f17) = true)
    {f18 : Addr} {od18 an18 : Option Addr} {sl18 : Array (Option Value)} {oc18 kV18 dc18 pm18 cd18 ct18 : Value}
    (a18 : PySem.W.nsIn K mainGlobals "_law_draw" = some (some (.ref f18))) (l18 : K.lookup f18 = some ⟨oc18, od18, .func (PySem.W.fnOf "_law_draw" "_law_draw" (defArgs (topS 18)) (defBody (topS 18)) (defScope (topS 18)) .none kV18 dc18 pm18 an18 cd18 ct18), sl18⟩) (c18 : PySem.W.codeIn K cd18 "_law_draw" = true) (k18 : PySem.W.keepIn K (.ref f18) = true)
    {f19 : Addr} {od19 an19 : Option Addr} {sl19 : Array (Option Value)} {oc19 kV19 dc19 pm19 cd19 ct19 : Value}
    (a19 : PySem.W.nsIn K mainGlobals "_law_tree" = some (some (.ref f19))) (l19 : K.lookup f19 = some ⟨oc19, od19, .func (PySem.W.fnOf "_law_tree" "_law_tree" (defArgs (topS 19)) (defBody (topS 19)) (defScope (topS 19)) .none kV19 dc19 pm19 an19 cd19 ct19), sl19⟩) (c19 : PySem.W.codeIn K cd19 "_law_tree" = true) (k19 : PySem.W.keepIn K (.ref f19) = true)
    {f20 : Addr} {od20 an20 : Option Addr} {sl20 : Array (Option Value)} {oc20 kV20 dc20 pm20 cd20 ct20 : Value}
    (a20 : PySem.W.nsIn K mainGlobals "_law_turned" = some (some (.ref f20))) (l20 : K.lookup f20 = some ⟨oc20, od20, .func (PySem.W.fnOf "_law_turned" "_law_turned" (defArgs (topS 20)) (defBody (topS 20)) (defScope (topS 20)) .none kV20 dc20 pm20 an20 cd20 ct20), sl20⟩) (c20 : PySem.W.codeIn K cd20 "_law_turned" = true) (k20 : PySem.W.keepIn K (.ref f20) = true)
    {f21 : Addr} {od21 an21 : Option Addr} {sl21 : Array (Option Value)} {oc21 kV21 dc21 pm21 cd21 ct21 : Value}
    (a21 : PySem.W.nsIn K mainGlobals "_law_ways" = some (some (.ref f21))) (l21 : K.lookup f21 = some ⟨oc21, od21, .func (PySem.W.fnOf "_law_ways" "_law_ways" (defArgs (topS 21)) (defBody (topS 21)) (defScope (topS 21)) .none kV21 dc21 pm21 an21 cd21 ct21), sl21⟩) (c21 : PySem.W.codeIn K cd21 "_law_ways" = true) (k21 : PySem.W.keepIn K (.ref f21) = true)
    {f22 : Addr} {od22 an22 : Option Addr} {sl22 : Array (Option Value)} {oc22 kV22 dc22 pm22 cd22 ct22 : Value}
    (a22 : PySem.W.nsIn K mainGlobals "_law_at" = some (some (.ref f22))) (l22 : K.lookup f22 = some ⟨oc22, od22, .func (PySem.W.fnOf "_law_at" "_law_at" (defArgs (topS 22)) (defBody (topS 22)) (defScope (topS 22)) .none kV22 dc22 pm22 an22 cd22 ct22), sl22⟩) (c22 : PySem.W.codeIn K cd22 "_law_at" = true) (k22 : PySem.W.keepIn K (.ref f22) = true)
    {f23 : Addr} {od23 an23 : Option Addr} {sl23 : Array (Option Value)} {oc23 kV23 dc23 pm23 cd23 ct23 : Value}
    (a23 : PySem.W.nsIn K mainGlobals "_law_due" = some (some (.ref f23))) (l23 : K.lookup f23 = some ⟨oc23, od23, .func (PySem.W.fnOf "_law_due" "_law_due" (defArgs (topS 23)) (defBody (topS 23)) (defScope (topS 23)) .none kV23 dc23 pm23 an23 cd23 ct23), sl23⟩) (c23 : PySem.W.codeIn K cd23 "_law_due" = true) (k23 : PySem.W.keepIn K (.ref f23) = true)
    {f24 : Addr} {od24 an24 : Option Addr} {sl24 : Array (Option Value)} {oc24 kV24 dc24 pm24 cd24 ct24 : Value}
    (a24 : PySem.W.nsIn K mainGlobals "_law_differences" = some (some (.ref f24))) (l24 : K.lookup f24 = some ⟨oc24, od24, .func (PySem.W.fnOf "_law_differences" "_law_differences" (defArgs (topS 24)) (defBody (topS 24)) (defScope (topS 24)) .none kV24 dc24 pm24 an24 cd24 ct24), sl24⟩) (c24 : PySem.W.codeIn K cd24 "_law_differences" = true) (k24 : PySem.W.keepIn K (.ref f24) = true)
    {f25 : Addr} {od25 an25 : Option Addr} {sl25 : Array (Option Value)} {oc25 kV25 dc25 pm25 cd25 ct25 : Value}
    (a25 : PySem.W.nsIn K mainGlobals "_law_shape" = some (some (.ref f25))) (l25 : K.lookup f25 = some ⟨oc25, od25, .func (PySem.W.fnOf "_law_shape" "_law_shape" (defArgs (topS 25)) (defBody (topS 25)) (defScope (topS 25)) .none kV25 dc25 pm25 an25 cd25 ct25), sl25⟩) (c25 : PySem.W.codeIn K cd25 "_law_shape" = true) (k25 : PySem.W.keepIn K (.ref f25) = true)
    {f26 : Addr} {od26 an26 : Option Addr} {sl26 : Array (Option Value)} {oc26 kV26 dc26 pm26 cd26 ct26 : Value}
    (a26 : PySem.W.nsIn K mainGlobals "_law_apart" = some (some (.ref f26))) (l26 : K.lookup f26 = some ⟨oc26, od26, .func (PySem.W.fnOf "_law_apart" "_law_apart" (defArgs (topS 26)) (defBody (topS 26)) (defScope (topS 26)) .none kV26 dc26 pm26 an26 cd26 ct26), sl26⟩) (c26 : PySem.W.codeIn K cd26 "_law_apart" = true) (k26 : PySem.W.keepIn K (.ref f26) = true)
    {f27 : Addr} {od27 an27 : Option Addr} {sl27 : Array (Option Value)} {oc27 kV27 dc27 pm27 cd27 ct27 : Value}
    (a27 : PySem.W.nsIn K mainGlobals "law" = some (some (.ref f27))) (l27 : K.lookup f27 = some ⟨oc27, od27, .func (PySem.W.fnOf "law" "law" (defArgs (topS 27)) (defBody (topS 27)) (defScope (topS 27)) .none kV27 dc27 pm27 an27 cd27 ct27), sl27⟩) (c27 : PySem.W.codeIn K cd27 "law" = true) (k27 : PySem.W.keepIn K (.ref f27) = true)
    (z0 : PySem.W.nsIn K mainGlobals "len" = some none)
    (z1 : PySem.W.nsIn K mainGlobals "all" = some none)
    (z2 : PySem.W.nsIn K mainGlobals "enumerate" = some none)
    (z3 : PySem.W.nsIn K mainGlobals "sorted" = some none)
    (z4 : PySem.W.nsIn K mainGlobals "isinstance" = some none)
    (z5 : PySem.W.nsIn K mainGlobals "list" = some none)
    (z6 : PySem.W.nsIn K mainGlobals "dict" = some none)
    (z7 : PySem.W.nsIn K mainGlobals "repr" = some none)
    (z8 : PySem.W.nsIn K mainGlobals "set" = some none)
    (z9 : PySem.W.nsIn K mainGlobals "range" = some none)
    (z10 : PySem.W.nsIn K mainGlobals "abs" = some none)
    (z11 : PySem.W.nsIn K mainGlobals "int" = some none)
    {t1 t2 t3 : Tok} (y1 : PySem.W.nsIn K mainGlobals "LETTERS" = some (some (.str letters t1))) (y2 : PySem.W.nsIn K mainGlobals "LONGEST_NAME" = some (some (.int 8 t2))) (y3 : PySem.W.nsIn K mainGlobals "DEEPEST" = some (some (.int 8 t3))) :
    ∃ fd : FuncData, (∀ (s : Shared) (u : Value), BindsTo s fd ⟨[u], []⟩ [("_law_script", u)]) ∧ Fun K "law" "law" (topS 27) fa fd ∧
      ∀ base : Heap, K.In base → base.Ns mainGlobals mg → ∀ (cdv : Value) (A : Around) (outer : List Env) (s : Shared) (H : Hp) (vs : List V) (Q : VK) (E : XK), Room 19 (A.deeper (envOfC "law" (defScope (topS 27)) s.heap.objs.size fa cdv)) → A.guards = some [] → spLaw K vs H Q E →
        ∃ t, PSs (cxOf CX0 l.prog w K mg base Nlaw "law" (defScope (topS 27)) fa cdv A outer s H E).nox (defBody (topS 27)) t ∧ t { nx := fun _ H' => Q .non H', rt := Q } (start Nlaw vs) H := by
  have same := hfa.symm.trans (PySem.W.mg_of X G a27)
  cases same
  have F7 := fun_mk (st := topS 7) l7 c7 k7
  have b7 := F7.binds (ps := ["word"]) fun _ _ _ _ _ _ us hl => match us, hl with | [_], _ => rfl
  have D7 : Df K mg "_is_name" 7 ["word"] f7 _ := ⟨F7, b7, PySem.W.mg_of X G a7⟩
  have F8 := fun_mk (st := topS 8) l8 c8 k8
  have b8 := F8.binds (ps := ["text"]) fun _ _ _ _ _ _ us hl => match us, hl with | [_], _ => rfl
  have D8 : Df K mg "_line" 8 ["text"] f8 _ := ⟨F8, b8, PySem.W.mg_of X G a8⟩
  have F9 := fun_mk (st := topS 9) l9 c9 k9
  have b9 := F9.binds (ps := ["lines"]) fun _ _ _ _ _ _ us hl => match us, hl with | [_], _ => rfl
  have D9 : Df K mg "tree_of" 9 ["lines"] f9 _ := ⟨F9, b9, PySem.W.mg_of X G a9⟩
  have F10 := fun_mk (st := topS 10) l10 c10 k10
  have b10 := F10.binds (ps := ["tree", "depth"]) fun _ _ _ _ _ _ us hl => match us, hl with | [_, _], _ => rfl
  have D10 : Df K mg "lines_of_tree" 10 ["tree", "depth"] f10 _ := ⟨F10, b10, PySem.W.mg_of X G a10⟩
  have F11 := fun_mk (st := topS 11) l11 c11 k11
  have b11 := F11.binds (ps := ["part"]) fun _ _ _ _ _ _ us hl => match us, hl with | [_], _ => rfl
  have D11 : Df K mg "_copied" 11 ["part"] f11 _ := ⟨F11, b11, PySem.W.mg_of X G a11⟩
  have F12 := fun_mk (st := topS 12) l12 c12 k12
  have b12 := F12.binds (ps := ["base", "one", "other", "way"]) fun _ _ _ _ _ _ us hl => match us, hl with | [_, _, _, _], _ => rfl
  have D12 : Df K mg "_merged_part" 12 ["base", "one", "other", "way"] f12 _ := ⟨F12, b12, PySem.W.mg_of X G a12⟩
  have F13 := fun_mk (st := topS 13) l13 c13 k13
  have b13 := F13.binds (ps := ["base", "one", "other", "way"]) fun _ _ _ _ _ _ us hl => match us, hl with | [_, _, _, _], _ => rfl
  have D13 : Df K mg "_merged" 13 ["base", "one", "other", "way"] f13 _ := ⟨F13, b13, PySem.W.mg_of X G a13⟩
  have F14 := fun_mk (st := topS 14) l14 c14 k14
  have b14 := F14.binds (ps := ["base", "one", "other"]) fun _ _ _ _ _ _ us hl => match us, hl with | [_, _, _], _ => rfl
  have D14 : Df K mg "merged_trees" 14 ["base", "one", "other"] f14 _ := ⟨F14, b14, PySem.W.mg_of X G a14⟩
  have F15 := fun_mk (st := topS 15) l15 c15 k15
  have b15 := F15.binds (ps := ["base", "one", "other"]) fun _ _ _ _ _ _ us hl => match us, hl with | [_, _, _], _ => rfl
  have D15 : Df K mg "merged_lines" 15 ["base", "one", "other"] f15 _ := ⟨F15, b15, PySem.W.mg_of X G a15⟩
  have F17 := fun_mk (st := topS 17) l17 c17 k17
  have b17 := F17.binds (ps := ["_law_script"]) fun _ _ _ _ _ _ us hl => match us, hl with | [_], _ => rfl
  have D17 : Df K mg "_law_state" 17 ["_law_script"] f17 _ := ⟨F17, b17, PySem.W.mg_of X G a17⟩
  have F18 := fun_mk (st := topS 18) l18 c18 k18
  have b18 := F18.binds (ps := ["_law_state_here", "_law_many"]) fun _ _ _ _ _ _ us hl => match us, hl with | [_, _], _ => rfl
  have D18 : Df K mg "_law_draw" 18 ["_law_state_here", "_law_many"] f18 _ := ⟨F18, b18, PySem.W.mg_of X G a18⟩
  have F19 := fun_mk (st := topS 19) l19 c19 k19
  have b19 := F19.binds (ps := ["_law_state_here", "_law_deep"]) fun _ _ _ _ _ _ us hl => match us, hl with | [_, _], _ => rfl
  have D19 : Df K mg "_law_tree" 19 ["_law_state_here", "_law_deep"] f19 _ := ⟨F19, b19, PySem.W.mg_of X G a19⟩
  have F20 := fun_mk (st := topS 20) l20 c20 k20
  have b20 := F20.binds (ps := ["_law_state_here", "_law_tree_here", "_law_deep"]) fun _ _ _ _ _ _ us hl => match us, hl with | [_, _, _], _ => rfl
  have D20 : Df K mg "_law_turned" 20 ["_law_state_here", "_law_tree_here", "_law_deep"] f20 _ := ⟨F20, b20, PySem.W.mg_of X G a20⟩
  have F21 := fun_mk (st := topS 21) l21 c21 k21
  have b21 := F21.binds (ps := ["_law_tree_here", "_law_way"]) fun _ _ _ _ _ _ us hl => match us, hl with | [_, _], _ => rfl
  have D21 : Df K mg "_law_ways" 21 ["_law_tree_here", "_law_way"] f21 _ := ⟨F21, b21, PySem.W.mg_of X G a21⟩
  have F22 := fun_mk (st := topS 22) l22 c22 k22
  have b22 := F22.binds (ps := ["_law_tree_here", "_law_way"]) fun _ _ _ _ _ _ us hl => match us, hl with | [_, _], _ => rfl
  have D22 : Df K mg "_law_at" 22 ["_law_tree_here", "_law_way"] f22 _ := ⟨F22, b22, PySem.W.mg_of X G a22⟩
  have F23 := fun_mk (st := topS 23) l23 c23 k23
  have b23 := F23.binds (ps := ["_law_base", "_law_one", "_law_other", "_law_way"]) fun _ _ _ _ _ _ us hl => match us, hl with | [_, _, _, _], _ => rfl
  have D23 : Df K mg "_law_due" 23 ["_law_base", "_law_one", "_law_other", "_law_way"] f23 _ := ⟨F23, b23, PySem.W.mg_of X G a23⟩
  have F24 := fun_mk (st := topS 24) l24 c24 k24
  have b24 := F24.binds (ps := ["_law_one", "_law_other", "_law_ways_here"]) fun _ _ _ _ _ _ us hl => match us, hl with | [_, _, _], _ => rfl
  have D24 : Df K mg "_law_differences" 24 ["_law_one", "_law_other", "_law_ways_here"] f24 _ := ⟨F24, b24, PySem.W.mg_of X G a24⟩
  have F25 := fun_mk (st := topS 25) l25 c25 k25
  have b25 := F25.binds (ps := ["_law_tree_here", "_law_way"]) fun _ _ _ _ _ _ us hl => match us, hl with | [_, _], _ => rfl
  have D25 : Df K mg "_law_shape" 25 ["_law_tree_here", "_law_way"] f25 _ := ⟨F25, b25, PySem.W.mg_of X G a25⟩
  have F26 := fun_mk (st := topS 26) l26 c26 k26
  have b26 := F26.binds (ps := ["_law_state_here", "_law_base"]) fun _ _ _ _ _ _ us hl => match us, hl with | [_, _], _ => rfl
  have D26 : Df K mg "_law_apart" 26 ["_law_state_here", "_law_base"] f26 _ := ⟨F26, b26, PySem.W.mg_of X G a26⟩
  have F27 := fun_mk (st := topS 27) l27 c27 k27
  have T : Tx mg := ⟨⟨_, PySem.W.mg_of X G y1, ⟨_, rfl⟩⟩, ⟨_, PySem.W.mg_of X G y2, ⟨_, rfl⟩⟩, ⟨_, PySem.W.mg_of X G y3, ⟨_, rfl⟩⟩, PySem.W.mg_none_of X G z0, PySem.W.mg_none_of X G z1, PySem.W.mg_none_of X G z2, PySem.W.mg_none_of X G z3, PySem.W.mg_none_of X G z4, PySem.W.mg_none_of X G z5, PySem.W.mg_none_of X G z6, PySem.W.mg_none_of X G z7, PySem.W.mg_none_of X G z8, PySem.W.mg_none_of X G z9, PySem.W.mg_none_of X G z10, PySem.W.mg_none_of X G z11⟩
  refine ⟨_, fun s v => ?_, F27, fun base _ _ cdv A outer s H vs Q E hr hG h => ?_⟩
  · exact .of_eq rfl
  · exact calls T D7 D8 D9 D10 D11 D12 D13 D14 D15 D17 D18 D19 D20 D21 D22 D23 D24 D25 D26 cdv A outer s H vs Q E hr hG h
end Qw
open PySem PySem.W PyProof.Rows
set_option maxRecDepth 100000 in
set_option maxHeartbeats 0 in
theorem PySem.Challenge.cw_quiltward_k68_whole_merges_as_trees_holds : PySem.Challenge.rw_quiltward_k68_whole_merges_as_trees.Holds := by
  w_on; o_law; k_head; (case hw => w_witness2)
  k_fill
  refine Qw.walk (l := PySem.Challenge.rw_quiltward_k68_whole_merges_as_trees) rfl rfl (fun w h Y => PySem.W.kIn_of Y) ?F
  case F =>
    intro w mg fa h KX G hmg
    refine' Qw.tops KX G hmg ?a7 ?l7 ?c7 ?k7 ?a8 ?l8 ?c8 ?k8 ?a9 ?l9 ?c9 ?k9 ?a10 ?l10 ?c10 ?k10 ?a11 ?l11 ?c11 ?k11 ?a12 ?l12 ?c12 ?k12 ?a13 ?l13 ?c13 ?k13 ?a14 ?l14 ?c14 ?k14 ?a15 ?l15 ?c15 ?k15 ?a17 ?l17 ?c17 ?k17 ?a18 ?l18 ?c18 ?k18 ?a19 ?l19 ?c19 ?k19 ?a20 ?l20 ?c20 ?k20 ?a21 ?l21 ?c21 ?k21 ?a22 ?l22 ?c22 ?k22 ?a23 ?l23 ?c23 ?k23 ?a24 ?l24 ?c24 ?k24 ?a25 ?l25 ?c25 ?k25 ?a26 ?l26 ?c26 ?k26 ?a27 ?l27 ?c27 ?k27 ?z0 ?z1 ?z2 ?z3 ?z4 ?z5 ?z6 ?z7 ?z8 ?z9 ?z10 ?z11 ?y1 ?y2 ?y3
    (case a7 => k_is); (case l7 => k_is); (case c7 => k_is); (case k7 => k_is)
    (case a8 => k_is); (case l8 => k_is); (case c8 => k_is); (case k8 => k_is)
    (case a9 => k_is); (case l9 => k_is); (case c9 => k_is); (case k9 => k_is)
    (case a10 => k_is); (case l10 => k_is); (case c10 => k_is); (case k10 => k_is)
    (case a11 => k_is); (case l11 => k_is); (case c11 => k_is); (case k11 => k_is)
    (case a12 => k_is); (case l12 => k_is); (case c12 => k_is); (case k12 => k_is)
    (case a13 => k_is); (case l13 => k_is); (case c13 => k_is); (case k13 => k_is)
    (case a14 => k_is); (case l14 => k_is); (case c14 => k_is); (case k14 => k_is)
    (case a15 => k_is); (case l15 => k_is); (case c15 => k_is); (case k15 => k_is)
    (case a17 => k_is); (case l17 => k_is); (case c17 => k_is); (case k17 => k_is)
    (case a18 => k_is); (case l18 => k_is); (case c18 => k_is); (case k18 => k_is)
    (case a19 => k_is); (case l19 => k_is); (case c19 => k_is); (case k19 => k_is)
    (case a20 => k_is); (case l20 => k_is); (case c20 => k_is); (case k20 => k_is)
    (case a21 => k_is); (case l21 => k_is); (case c21 => k_is); (case k21 => k_is)
    (case a22 => k_is); (case l22 => k_is); (case c22 => k_is); (case k22 => k_is)
    (case a23 => k_is); (case l23 => k_is); (case c23 => k_is); (case k23 => k_is)
    (case a24 => k_is); (case l24 => k_is); (case c24 => k_is); (case k24 => k_is)
    (case a25 => k_is); (case l25 => k_is); (case c25 => k_is); (case k25 => k_is)
    (case a26 => k_is); (case l26 => k_is); (case c26 => k_is); (case k26 => k_is)
    (case a27 => k_is); (case l27 => k_is); (case c27 => k_is); (case k27 => k_is)
    (case z0 => k_is)
    (case z1 => k_is)
    (case z2 => k_is)
    (case z3 => k_is)
    (case z4 => k_is)
    (case z5 => k_is)
    (case z6 => k_is)
    (case z7 => k_is)
    (case z8 => k_is)
    (case z9 => k_is)
    (case z10 => k_is)
    (case z11 => k_is)
    (case y1 => k_is); (case y2 => k_is); (case y3 => k_is)
#print axioms PySem.Challenge.cw_quiltward_k68_whole_merges_as_trees_holds
