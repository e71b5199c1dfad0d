import PyProof.Rows.All
import Wide.All
import OpenK.AllK
import Wide.FinOn
import HandS.ForMost
import HandS.Exc
import HandS.ExcOwn
import HandS.WordsExc
import HandS.Walk
import HandS.Flow
import HandS.IsInst
import HandS.Gcd
import HandS.Zip
import HandS.Conv
import HandS.Wide
import HandS.TupLe
import HandS.Style
import HandS.TupAny
import HandS.HeadHook1
import HandS.Defaults
import HandS.ExcBuiltin
import HandS.TryOnly
import HandS.Comp
import HandS.HeadHook2
import KE.KRevSl
import PyProof.EnumMake
import PyProof.Draws
import KE.GoesMore
import KE.GoesEnum
import PyProof.TupleOfSeq
import PyProof.TableFast
import HandS.Ends
import HandS.HeadHook4
import HandS.HeadEnd
import KE.KSortKeySt
import HandS.SortKw
import PyProof.ReprLen
import PyProof.ReprBulk
import PyProof.FitsInt
import PySem.Challenge.RW_bodypushes_k86_whole_free_bodies
import HandS.Head0
import HandS.Head1
import HandS.Head2
import HandS.Head3
import HandS.HeadHook3
set_option Elab.async false
set_option linter.all false
set_option maxRecDepth 100000
set_option maxHeartbeats 4000000
namespace DL
open PySem PySem.Spec PyProof.Rows L2

/-! data: immutable values as trees; loc n: the n-th mutable list -/
inductive D where
  | non | bl (b : Bool) | int (i : Int) | str (x : Str)
  | tup (xs : List D) | lst (xs : List D) | rol (xs : List D) | loc (n : Nat)
  deriving Inhabited

abbrev Store := List (Option (List D))
/-- an exception: the name of its class, what it keeps -/
abbrev Exn := Str × List (Str × D)
inductive Res (α : Type) where
  | ok (a : α) (M : Store) | err (x : Exn) (M : Store) | stuck
abbrev Sl := List (Option D)
abbrev DE := Sl → Store → Res D
abbrev DA := Sl → Store → Res (List D)
abbrev DT := Sl → Store → Res Bool
inductive Fl where
  | nx | rt (d : D) | bk | ct
abbrev DS := Sl → Store → Res (Fl × Sl)
abbrev DF := List D → Store → Res D
def Res.bind {α β : Type} (r : Res α) (f : α → Store → Res β) : Res β := match r with
  | .ok a M => f a M
  | .err x M => .err x M
  | .stuck => .stuck

/-- where the mutable lists stand; further addresses that are being written and are no data yet -/
structure Al where
  c : List Addr
  r : List Addr
mutual
/-- no mutable list within -/
def locFree : D → Bool
  | .non => true
  | .bl _ => true
  | .int _ => true
  | .str _ => true
  | .tup xs => locFrees xs
  | .lst xs => locFrees xs
  | .rol xs => locFrees xs
  | .loc _ => false
def locFrees : List D → Bool
  | [] => true
  | x :: r => locFree x && locFrees r
end
theorem locFrees_cons {x : D} {r : List D} : locFrees (x :: r) = (locFree x && locFrees r) := by rw [locFrees]
theorem locFrees_append : ∀ {xs ys : List D}, locFrees (xs ++ ys) = (locFrees xs && locFrees ys)
  | [], ys => by rw [List.nil_append, locFrees, Bool.true_and]
  | x :: r, ys => by rw [List.cons_append, locFrees_cons, locFrees_cons, locFrees_append, Bool.and_assoc]
theorem locFrees_iff : ∀ {xs : List D}, locFrees xs = true ↔ ∀ x ∈ xs, locFree x = true
  | [] => by rw [locFrees]; simp
  | x :: r => by rw [locFrees_cons, Bool.and_eq_true, locFrees_iff]; simp
def Own (α : Al) (M : Store) (a : Addr) : Prop := (∃ (n : Nat) (ds : List D), α.c[n]? = some a ∧ M[n]? = some (some ds)) ∨ a ∈ α.r
def KTup (K : PySem.W.Frag) (a : Addr) (xs : List V) : Prop :=
  ∃ (o : Obj) (its : Array Value) (n : Nat), K.lookup a = some o ∧ o.cls = .type "tuple" ∧ o.data = .seq its n ∧ its.size ≤ sizeLine ∧ Vals xs its.toList
def KLst (K : PySem.W.Frag) (a : Addr) (xs : List V) : Prop :=
  ∃ (o : Obj) (its : Array Value) (n : Nat), K.lookup a = some o ∧ o.cls = .type "list" ∧ o.dict = none ∧ o.data = .seq its n ∧ its.size ≤ sizeLine ∧ Vals xs its.toList
def TupAt (K : PySem.W.Frag) (H : Hp) (α : Al) (M : Store) (a : Addr) (xs : List V) : Prop := (Rd H a (.tup xs) ∧ ¬ Own α M a) ∨ KTup K a xs
def LstAt (H : Hp) (α : Al) (M : Store) (a : Addr) (xs : List V) : Prop := H a = some (.lst xs) ∧ ¬ Own α M a
def RolAt (K : PySem.W.Frag) (H : Hp) (α : Al) (M : Store) (a : Addr) (xs : List V) : Prop := ((∃ o, H a = some (.frz o (.lst xs))) ∧ ¬ Own α M a) ∨ KLst K a xs

section
variable (K : PySem.W.Frag) (H : Hp) (α : Al) (M : Store)
mutual
inductive Rep : V → D → Prop
  | non : Rep .non .non
  | bl (b : Bool) : Rep (.bl b) (.bl b)
  | int (i : Int) : Rep (.int i) (.int i)
  | str (x : Str) : Rep (.str x) (.str x)
  | tup {a : Addr} {xs : List V} {ds : List D} : TupAt K H α M a xs → Reps xs ds → Rep (.ref a) (.tup ds)
  | lst {a : Addr} {xs : List V} {ds : List D} : LstAt H α M a xs → Reps xs ds → Rep (.ref a) (.lst ds)
  | rol {a : Addr} {xs : List V} {ds : List D} : RolAt K H α M a xs → Reps xs ds → Rep (.ref a) (.rol ds)
  | loc {a : Addr} {n : Nat} : α.c[n]? = some a → Rep (.ref a) (.loc n)
inductive Reps : List V → List D → Prop
  | nil : Reps [] []
  | cons {v : V} {d : D} {vs : List V} {ds : List D} : Rep v d → Reps vs ds → Reps (v :: vs) (d :: ds)
end
end

/-- what may have happened between two worlds -/
structure Le (H : Hp) (α : Al) (M : Store) (H' : Hp) (α' : Al) (M' : Store) : Prop where
  pre : ∃ t, α'.c = α.c ++ t
  res : α'.r = α.r
  keep : ∀ a o, H a = some o → ¬ Own α M a → H' a = some o ∧ ¬ Own α' M' a
  held : ∀ a ∈ α.r, H' a = H a
section
variable {K : PySem.W.Frag} {H H1 H2 : Hp} {α α1 α2 : Al} {M M1 M2 : Store}
theorem Le.refl : Le H α M H α M := ⟨⟨[], by simp⟩, rfl, fun _ _ h n => ⟨h, n⟩, fun _ _ => rfl⟩
theorem Le.trans (a : Le H α M H1 α1 M1) (b : Le H1 α1 M1 H2 α2 M2) : Le H α M H2 α2 M2 := by
  obtain ⟨t, e⟩ := a.pre
  obtain ⟨u, f⟩ := b.pre
  refine ⟨⟨t ++ u, by rw [f, e, List.append_assoc]⟩, b.res.trans a.res, fun x o h n => ?_, fun x hx => ?_⟩
  · obtain ⟨h1, n1⟩ := a.keep x o h n
    exact b.keep x o h1 n1
  · rw [b.held x (by rw [a.res]; exact hx), a.held x hx]
theorem TupAt.mono {a : Addr} {xs : List V} (l : Le H α M H1 α1 M1) (h : TupAt K H α M a xs) : TupAt K H1 α1 M1 a xs := by
  rcases h with ⟨h | ⟨o, h⟩, n⟩ | h
  · obtain ⟨h1, n1⟩ := l.keep _ _ h n
    exact .inl ⟨.inl h1, n1⟩
  · obtain ⟨h1, n1⟩ := l.keep _ _ h n
    exact .inl ⟨.inr ⟨o, h1⟩, n1⟩
  · exact .inr h
theorem LstAt.mono {a : Addr} {xs : List V} (l : Le H α M H1 α1 M1) (h : LstAt H α M a xs) : LstAt H1 α1 M1 a xs := l.keep _ _ h.1 h.2
theorem RolAt.mono {a : Addr} {xs : List V} (l : Le H α M H1 α1 M1) (h : RolAt K H α M a xs) : RolAt K H1 α1 M1 a xs := by
  rcases h with ⟨⟨o, h⟩, n⟩ | h
  · obtain ⟨h1, n1⟩ := l.keep _ _ h n
    exact .inl ⟨⟨o, h1⟩, n1⟩
  · exact .inr h
theorem TupAt.sq {a : Addr} {xs : List V} (h : TupAt K H α M a xs) : SqT K H a xs := by
  rcases h with h | h
  · exact .inl h.1
  · exact .inr h
theorem LstAt.sq {a : Addr} {xs : List V} (h : LstAt H α M a xs) : SqL K H a xs := .inl (.inl h.1)
theorem RolAt.sq {a : Addr} {xs : List V} (h : RolAt K H α M a xs) : SqL K H a xs := by
  rcases h with h | h
  · exact .inl (.inr h.1)
  · exact .inr h
mutual
theorem Rep.mono (l : Le H α M H1 α1 M1) : ∀ {v : V} {d : D}, Rep K H α M v d → Rep K H1 α1 M1 v d
  | _, _, .non => .non
  | _, _, .bl b => .bl b
  | _, _, .int i => .int i
  | _, _, .str x => .str x
  | _, _, .tup h r => .tup (h.mono l) (Reps.mono l r)
  | _, _, .lst h r => .lst (h.mono l) (Reps.mono l r)
  | _, _, .rol h r => .rol (h.mono l) (Reps.mono l r)
  | _, _, .loc (a := a) (n := n) h => .loc (by
      obtain ⟨t, e⟩ := l.pre
      have hl : n < α.c.length := by
        rcases Nat.lt_or_ge n α.c.length with q | q
        · exact q
        · rw [List.getElem?_eq_none q] at h; cases h
      rw [e, List.getElem?_append_left hl]
      exact h)
theorem Reps.mono (l : Le H α M H1 α1 M1) : ∀ {vs : List V} {ds : List D}, Reps K H α M vs ds → Reps K H1 α1 M1 vs ds
  | _, _, .nil => .nil
  | _, _, .cons a b => .cons (Rep.mono l a) (Reps.mono l b)
end
theorem Reps.length : ∀ {vs : List V} {ds : List D}, Reps K H α M vs ds → vs.length = ds.length
  | _, _, .nil => rfl
  | _, _, .cons _ b => by simp [Reps.length b]
theorem Reps.append : ∀ {vs ws : List V} {ds es : List D}, Reps K H α M vs ds → Reps K H α M ws es → Reps K H α M (vs ++ ws) (ds ++ es)
  | _, _, _, _, .nil, b => b
  | _, _, _, _, .cons a r, b => .cons a (Reps.append r b)
theorem Reps.get : ∀ {vs : List V} {ds : List D} {i : Nat} {d : D}, Reps K H α M vs ds → ds[i]? = some d → ∃ v, vs[i]? = some v ∧ Rep K H α M v d
  | _, _, i, _, .nil, h => by simp at h
  | _, _, 0, _, .cons a _, h => by
    simp only [List.length_cons, Nat.zero_lt_succ, getElem?_pos, List.getElem_cons_zero, Option.some.injEq] at h
    subst h
    exact ⟨_, rfl, a⟩
  | _, _, i + 1, _, .cons _ b, h => by
    obtain ⟨v, h1, h2⟩ := Reps.get (i := i) b (by simpa using h)
    exact ⟨v, by simpa using h1, h2⟩
theorem Reps.getV : ∀ {vs : List V} {ds : List D} {i : Nat} {v : V}, Reps K H α M vs ds → vs[i]? = some v → ∃ d, ds[i]? = some d ∧ Rep K H α M v d
  | _, _, i, _, .nil, h => by simp at h
  | _, _, 0, _, .cons a _, h => by
    simp only [List.length_cons, Nat.zero_lt_succ, getElem?_pos, List.getElem_cons_zero, Option.some.injEq] at h
    subst h
    exact ⟨_, rfl, a⟩
  | _, _, i + 1, _, .cons _ b, h => by
    obtain ⟨d, h1, h2⟩ := Reps.getV (i := i) b (by simpa using h)
    exact ⟨d, by simpa using h1, h2⟩
theorem Reps.take : ∀ {vs : List V} {ds : List D} (n : Nat), Reps K H α M vs ds → Reps K H α M (vs.take n) (ds.take n)
  | _, _, 0, _ => by rw [List.take_zero, List.take_zero]; exact .nil
  | _, _, _ + 1, .nil => .nil
  | _, _, n + 1, .cons a b => .cons a (Reps.take n b)
theorem Reps.drop : ∀ {vs : List V} {ds : List D} (n : Nat), Reps K H α M vs ds → Reps K H α M (vs.drop n) (ds.drop n)
  | _, _, 0, h => h
  | _, _, _ + 1, .nil => .nil
  | _, _, n + 1, .cons _ b => Reps.drop n b
theorem Reps.set {v : V} {d : D} (r : Rep K H α M v d) : ∀ {vs : List V} {ds : List D} (n : Nat), Reps K H α M vs ds → Reps K H α M (vs.set n v) (ds.set n d)
  | _, _, 0, .nil => .nil
  | _, _, 0, .cons _ b => .cons r b
  | _, _, _ + 1, .nil => .nil
  | _, _, n + 1, .cons a b => .cons a (Reps.set r n b)
theorem Reps.reverse : ∀ {vs : List V} {ds : List D}, Reps K H α M vs ds → Reps K H α M vs.reverse ds.reverse
  | _, _, .nil => .nil
  | _, _, .cons a b => by
    rw [List.reverse_cons, List.reverse_cons]
    exact (Reps.reverse b).append (.cons a .nil)

/-- the mutable lists stand as told -/
structure WOk (K : PySem.W.Frag) (H : Hp) (α : Al) (M : Store) : Prop where
  len : α.c.length = M.length
  cell : ∀ (n : Nat) (ds : List D), M[n]? = some (some ds) → locFrees ds = true ∧ ∃ (a : Addr) (vs : List V), α.c[n]? = some a ∧ H a = some (.lst vs) ∧ Reps K H α M vs ds
  inj : ∀ (n m : Nat) (a : Addr) (ds es : List D), α.c[n]? = some a → α.c[m]? = some a → M[n]? = some (some ds) → M[m]? = some (some es) → n = m
  apart : ∀ (n : Nat) (a : Addr) (ds : List D), α.c[n]? = some a → M[n]? = some (some ds) → a ∉ α.r
  there : ∀ a ∈ α.r, ∃ vs, H a = some (.lst vs)
theorem WOk.own (w : WOk K H α M) {a : Addr} (h : Own α M a) : ∃ vs, H a = some (.lst vs) := by
  rcases h with ⟨n, ds, h1, h2⟩ | h
  · obtain ⟨_, b, vs, e1, e2, _⟩ := w.cell n ds h2
    rw [h1] at e1
    cases e1
    exact ⟨vs, e2⟩
  · exact w.there a h
theorem WOk.free (w : WOk K H α M) {a : Addr} (h : H a = none) : ¬ Own α M a := fun o => by
  obtain ⟨vs, e⟩ := w.own o
  rw [h] at e
  cases e
/-- a new object that is no mutable list -/
theorem Le.laid (w : WOk K H α M) {p : Addr} {o : HO} (h : H p = none) : Le H α M (upd H p o) α M :=
  ⟨⟨[], by simp⟩, rfl, fun a u e n => ⟨by rw [upd_ne (ne_of_none e h)]; exact e, n⟩, fun a ha => upd_ne fun e => by
    obtain ⟨vs, q⟩ := w.there a ha
    rw [e, h] at q; cases q⟩
theorem WOk.mono (w : WOk K H α M) (l : Le H α M H1 α M) (hc : ∀ a, Own α M a → H1 a = H a) : WOk K H1 α M := by
  refine ⟨w.len, fun n ds h => ?_, w.inj, w.apart, fun a ha => ?_⟩
  · obtain ⟨h0, a, vs, h1, h2, h3⟩ := w.cell n ds h
    exact ⟨h0, a, vs, h1, (hc a (.inl ⟨n, ds, h1, h⟩)).trans h2, h3.mono l⟩
  · obtain ⟨vs, q⟩ := w.there a ha
    exact ⟨vs, (hc a (.inr ha)).trans q⟩
theorem WOk.laid (w : WOk K H α M) {p : Addr} {o : HO} (h : H p = none) : WOk K (upd H p o) α M :=
  w.mono (Le.laid w h) fun a ha => upd_ne fun e => w.free (by rw [e]; exact h) ha

/-- a new mutable list -/
theorem getElem?_snoc {β : Type} {l : List β} {x y : β} {n : Nat} (h : (l ++ [x])[n]? = some y) : l[n]? = some y ∨ (n = l.length ∧ x = y) := by
  rcases Nat.lt_or_ge n l.length with q | q
  · rw [List.getElem?_append_left q] at h
    exact .inl h
  · rw [List.getElem?_append_right q] at h
    have : n - l.length = 0 := by
      rcases Nat.eq_zero_or_pos (n - l.length) with z | z
      · exact z
      · rw [List.getElem?_eq_none (by simp; omega)] at h; cases h
    rw [this] at h
    simp at h
    exact .inr ⟨by omega, h⟩
abbrev Al.snoc (α : Al) (p : Addr) : Al := ⟨α.c ++ [p], α.r⟩
theorem Own.snoc {p a : Addr} {ds : List D} (w : α.c.length = M.length) (h : Own (α.snoc p) (M ++ [some ds]) a) : Own α M a ∨ a = p := by
  rcases h with ⟨n, es, h1, h2⟩ | h
  · rcases getElem?_snoc h1 with h1 | ⟨e1, rfl⟩
    · rcases getElem?_snoc h2 with h2 | ⟨e2, _⟩
      · exact .inl (.inl ⟨n, es, h1, h2⟩)
      · rw [e2, ← w, List.getElem?_eq_none (Nat.le_refl _)] at h1
        cases h1
    · exact .inr rfl
  · exact .inl (.inr h)
theorem Le.fresh (w : WOk K H α M) {p : Addr} {vs : List V} {ds : List D} (h : H p = none) : Le H α M (upd H p (.lst vs)) (α.snoc p) (M ++ [some ds]) :=
  ⟨⟨[p], rfl⟩, rfl, fun a u e n => ⟨by rw [upd_ne (ne_of_none e h)]; exact e, fun o => by
    rcases o.snoc w.len with o | o
    · exact n o
    · rw [o, h] at e; cases e⟩, fun a ha => upd_ne fun e => by
    obtain ⟨vs, q⟩ := w.there a ha
    rw [e, h] at q; cases q⟩
theorem WOk.fresh (w : WOk K H α M) {p : Addr} {vs : List V} {ds : List D} (h : H p = none) (r : Reps K H α M vs ds) (hf : locFrees ds = true) : WOk K (upd H p (.lst vs)) (α.snoc p) (M ++ [some ds]) := by
  have l := Le.fresh (vs := vs) (ds := ds) w h
  have np : p ∉ α.r := fun hp => w.free h (.inr hp)
  refine ⟨by simp [w.len], fun n es e => ?_, fun n m a es fs h1 h2 h3 h4 => ?_, fun n a es h1 h2 => ?_, fun a ha => ?_⟩
  · rcases getElem?_snoc e with e | ⟨e1, e2⟩
    · obtain ⟨h0, a, ws, h1, h2, h3⟩ := w.cell n es e
      have hl : n < α.c.length := by
        rcases Nat.lt_or_ge n α.c.length with q | q
        · exact q
        · rw [List.getElem?_eq_none q] at h1; cases h1
      exact ⟨h0, a, ws, by show (α.c ++ [p])[n]? = _; rw [List.getElem?_append_left hl]; exact h1, by rw [upd_ne (ne_of_none h2 h)]; exact h2, h3.mono l⟩
    · cases e2
      refine ⟨hf, p, vs, ?_, upd_same, r.mono l⟩
      show (α.c ++ [p])[n]? = _
      rw [e1, ← w.len]
      simp
  · have nw : ∀ (k : Nat) (gs : List D), α.c[k]? = some p → M[k]? = some (some gs) → False := fun k gs q1 q2 => w.free h (.inl ⟨k, gs, q1, q2⟩)
    rcases getElem?_snoc h1 with h1 | ⟨e1, f1⟩
    · rcases getElem?_snoc h3 with h3 | ⟨e3, _⟩
      · rcases getElem?_snoc h2 with h2 | ⟨e2, f2⟩
        · rcases getElem?_snoc h4 with h4 | ⟨e4, _⟩
          · exact w.inj n m a es fs h1 h2 h3 h4
          · rw [e4, ← w.len, List.getElem?_eq_none (Nat.le_refl _)] at h2; cases h2
        · rw [← f2] at h1
          exact (nw n es h1 h3).elim
      · rw [e3, ← w.len, List.getElem?_eq_none (Nat.le_refl _)] at h1; cases h1
    · rcases getElem?_snoc h2 with h2 | ⟨e2, f2⟩
      · rcases getElem?_snoc h4 with h4 | ⟨e4, _⟩
        · rw [← f1] at h2
          exact (nw m fs h2 h4).elim
        · rw [e4, ← w.len, List.getElem?_eq_none (Nat.le_refl _)] at h2; cases h2
      · rw [e1, e2]
  · rcases getElem?_snoc h1 with h1 | ⟨e1, f1⟩
    · rcases getElem?_snoc h2 with h2 | ⟨e2, _⟩
      · exact w.apart n a es h1 h2
      · rw [e2, ← w.len, List.getElem?_eq_none (Nat.le_refl _)] at h1; cases h1
    · rw [← f1]; exact np
  · obtain ⟨us, q⟩ := w.there a ha
    exact ⟨us, by rw [upd_ne (ne_of_none q h)]; exact q⟩

/-- a mutable list is written -/
theorem Own.set {n : Nat} {x : Option (List D)} {a : Addr} (hl : ∃ es, M[n]? = some (some es)) (h : Own α (M.set n x) a) : Own α M a := by
  rcases h with ⟨m, ds, h1, h2⟩ | h
  · by_cases e : n = m
    · subst e
      obtain ⟨es, q⟩ := hl
      exact .inl ⟨n, es, h1, q⟩
    · rw [List.getElem?_set_ne e] at h2
      exact .inl ⟨m, ds, h1, h2⟩
  · exact .inr h
theorem Le.write (w : WOk K H α M) {n : Nat} {a : Addr} {es ds : List D} {vs : List V} (ha : α.c[n]? = some a) (hl : M[n]? = some (some es)) : Le H α M (upd H a (.lst vs)) α (M.set n (some ds)) :=
  ⟨⟨[], by simp⟩, rfl, fun b u e nb => ⟨by rw [upd_ne fun z => nb (by rw [z]; exact .inl ⟨n, es, ha, hl⟩)]; exact e, fun o => nb (o.set ⟨es, hl⟩)⟩, fun b hb => upd_ne fun z => w.apart n a es ha hl (by rw [← z]; exact hb)⟩
theorem WOk.write (w : WOk K H α M) {n : Nat} {a : Addr} {es ds : List D} {vs : List V} (ha : α.c[n]? = some a) (hl : M[n]? = some (some es)) (r : Reps K H α M vs ds) (hf : locFrees ds = true) : WOk K (upd H a (.lst vs)) α (M.set n (some ds)) := by
  have l := Le.write (vs := vs) (ds := ds) w ha hl
  have hn : n < M.length := by
    rcases Nat.lt_or_ge n M.length with q | q
    · exact q
    · rw [List.getElem?_eq_none q] at hl; cases hl
  have back : ∀ (m : Nat) (fs : List D), (M.set n (some ds))[m]? = some (some fs) → ∃ gs, M[m]? = some (some gs) := fun m fs h => by
    by_cases e : n = m
    · subst e; exact ⟨es, hl⟩
    · rw [List.getElem?_set_ne e] at h; exact ⟨fs, h⟩
  refine ⟨by simp [w.len], fun m fs h => ?_, fun m k b fs gs h1 h2 h3 h4 => ?_, fun m b fs h1 h2 => ?_, fun b hb => ?_⟩
  · by_cases e : n = m
    · subst e
      rw [List.getElem?_set_self hn] at h
      cases h
      exact ⟨hf, a, vs, ha, upd_same, r.mono l⟩
    · rw [List.getElem?_set_ne e] at h
      obtain ⟨h0, b, ws, h1, h2, h3⟩ := w.cell m fs h
      have ne : b ≠ a := fun z => e (w.inj n m a es fs ha (z ▸ h1) hl h)
      exact ⟨h0, b, ws, h1, by rw [upd_ne ne]; exact h2, h3.mono l⟩
  · obtain ⟨fs', e3⟩ := back m fs h3
    obtain ⟨gs', e4⟩ := back k gs h4
    exact w.inj m k b fs' gs' h1 h2 e3 e4
  · obtain ⟨gs, e3⟩ := back m fs h2
    exact w.apart m b gs h1 e3
  · obtain ⟨us, q⟩ := w.there b hb
    exact ⟨us, by rw [upd_ne fun z => w.apart n a es ha hl (by rw [← z]; exact hb)]; exact q⟩
/-- a mutable list is frozen -/
theorem Le.freeze (w : WOk K H α M) {n : Nat} {es : List D} (hl : M[n]? = some (some es)) : Le H α M H α (M.set n none) :=
  ⟨⟨[], by simp⟩, rfl, fun b u e nb => ⟨e, fun o => nb (o.set ⟨es, hl⟩)⟩, fun _ _ => rfl⟩
theorem WOk.freeze (w : WOk K H α M) {n : Nat} {es : List D} (hl : M[n]? = some (some es)) : WOk K H α (M.set n none) := by
  have l := Le.freeze w hl
  have back : ∀ (m : Nat) (fs : List D), (M.set n none)[m]? = some (some fs) → M[m]? = some (some fs) := fun m fs h => by
    by_cases e : n = m
    · subst e
      rw [List.getElem?_set] at h
      simp at h
    · rw [List.getElem?_set_ne e] at h; exact h
  refine ⟨by simp [w.len], fun m fs h => ?_, fun m k b fs gs h1 h2 h3 h4 => w.inj m k b fs gs h1 h2 (back _ _ h3) (back _ _ h4), fun m b fs h1 h2 => w.apart m b fs h1 (back _ _ h2), w.there⟩
  obtain ⟨h0, b, ws, h1, h2, h3⟩ := w.cell m fs (back m fs h)
  exact ⟨h0, b, ws, h1, h2, h3.mono l⟩
theorem rep_frozen (w : WOk K H α M) {n : Nat} {a : Addr} {es : List D} (ha : α.c[n]? = some a) (hl : M[n]? = some (some es)) : Rep K H α (M.set n none) (.ref a) (.lst es) := by
  obtain ⟨_, b, vs, h1, h2, h3⟩ := w.cell n es hl
  rw [ha] at h1
  cases h1
  refine .lst ⟨h2, fun o => ?_⟩ (h3.mono (Le.freeze w hl))
  rcases o with ⟨m, ds, q1, q2⟩ | o
  · by_cases e : n = m
    · subst e
      rw [List.getElem?_set] at q2
      simp at q2
    · rw [List.getElem?_set_ne e] at q2
      exact e (w.inj n m a es ds ha q1 hl q2)
  · exact w.apart n a es ha hl o

/-- what was made since is forgotten -/
abbrev Al.cut (α : Al) (n : Nat) : Al := ⟨α.c.take n, α.r⟩
theorem Own.cut {n : Nat} {a : Addr} (h : Own (α.cut n) (M.take n) a) : Own α M a := by
  rcases h with ⟨m, ds, h1, h2⟩ | h
  · have e1 : (α.c.take n)[m]? = some a := h1
    rw [List.getElem?_take] at e1 h2
    split at e1
    · rw [if_pos ‹_›] at h2
      exact .inl ⟨m, ds, e1, h2⟩
    · cases e1
  · exact .inr h
mutual
theorem Rep.cut (n : Nat) : ∀ {v : V} {d : D}, Rep K H α M v d → locFree d = true → Rep K H (α.cut n) (M.take n) v d
  | _, _, .non, _ => .non
  | _, _, .bl b, _ => .bl b
  | _, _, .int i, _ => .int i
  | _, _, .str x, _ => .str x
  | _, _, .tup h r, f => .tup (h.imp (fun q => ⟨q.1, fun o => q.2 o.cut⟩) id) (Reps.cut n r (by unfold locFree at f; exact f))
  | _, _, .lst h r, f => .lst ⟨h.1, fun o => h.2 o.cut⟩ (Reps.cut n r (by unfold locFree at f; exact f))
  | _, _, .rol h r, f => .rol (h.imp (fun q => ⟨q.1, fun o => q.2 o.cut⟩) id) (Reps.cut n r (by unfold locFree at f; exact f))
  | _, _, .loc h, f => by unfold locFree at f; cases f
theorem Reps.cut (n : Nat) : ∀ {vs : List V} {ds : List D}, Reps K H α M vs ds → locFrees ds = true → Reps K H (α.cut n) (M.take n) vs ds
  | _, _, .nil, _ => .nil
  | _, _, .cons a b, f => by
    unfold locFrees at f
    rw [Bool.and_eq_true] at f
    exact .cons (Rep.cut n a f.1) (Reps.cut n b f.2)
end
theorem take_some {β : Type} {l : List β} {n m : Nat} {x : β} (h : (l.take n)[m]? = some x) : l[m]? = some x := by
  rw [List.getElem?_take] at h
  split at h
  · exact h
  · cases h
theorem WOk.cut (w : WOk K H α M) (n : Nat) : WOk K H (α.cut n) (M.take n) := by
  refine ⟨by simp [w.len], fun m ds h => ?_, fun m k a ds es h1 h2 h3 h4 => w.inj m k a ds es (take_some h1) (take_some h2) (take_some h3) (take_some h4), fun m a ds h1 h2 => w.apart m a ds (take_some h1) (take_some h2), w.there⟩
  obtain ⟨h0, a, vs, h1, h2, h3⟩ := w.cell m ds (take_some h)
  refine ⟨h0, a, vs, ?_, h2, h3.cut n h0⟩
  show (α.c.take n)[m]? = some a
  rw [List.getElem?_take]
  rw [List.getElem?_take] at h
  split at h
  · rw [if_pos ‹_›]; exact h1
  · cases h
theorem Le.cut (w : WOk K H α M) (l : Le H α M H1 α1 M1) : Le H α M H1 (α1.cut M.length) (M1.take M.length) := by
  obtain ⟨t, e⟩ := l.pre
  refine ⟨⟨[], ?_⟩, l.res, fun a o h n => ⟨(l.keep a o h n).1, fun q => (l.keep a o h n).2 q.cut⟩, l.held⟩
  show α1.c.take M.length = α.c ++ []
  rw [e, ← w.len, List.take_left, List.append_nil]

/-- an address is held for what is being written; it is let go -/
abbrev Al.hold (α : Al) (p : Addr) : Al := ⟨α.c, p :: α.r⟩
def without (H : Hp) (p : Addr) : Hp := fun a => if a = p then none else H a
theorem without_same {p : Addr} : without H p p = none := by unfold without; rw [if_pos rfl]
theorem without_ne {p a : Addr} (h : a ≠ p) : without H p a = H a := by unfold without; rw [if_neg h]
theorem upd_without {p : Addr} {o : HO} (h : H p = some o) : upd (without H p) p o = H := by
  funext a
  unfold upd without
  by_cases e : a = p
  · rw [if_pos e, e, h]
  · rw [if_neg e, if_neg e]
theorem Own.hold {p a : Addr} : Own (α.hold p) M a ↔ Own α M a ∨ a = p := by
  constructor
  · rintro (h | h)
    · exact .inl (.inl h)
    · rcases List.mem_cons.mp h with h | h
      · exact .inr h
      · exact .inl (.inr h)
  · rintro ((h | h) | h)
    · exact .inl h
    · exact .inr (List.mem_cons_of_mem _ h)
    · exact .inr (by rw [h]; exact List.mem_cons_self)
mutual
theorem Rep.unhold {p : Addr} : ∀ {v : V} {d : D}, Rep K H (α.hold p) M v d → Rep K (without H p) α M v d
  | _, _, .non => .non
  | _, _, .bl b => .bl b
  | _, _, .int i => .int i
  | _, _, .str x => .str x
  | _, _, .tup h r => .tup (by
      rcases h with ⟨h | ⟨o, h⟩, n⟩ | h
      · exact .inl ⟨.inl (by rw [without_ne fun e => n (Own.hold.mpr (.inr e))]; exact h), fun o => n (Own.hold.mpr (.inl o))⟩
      · exact .inl ⟨.inr ⟨o, by rw [without_ne fun e => n (Own.hold.mpr (.inr e))]; exact h⟩, fun o => n (Own.hold.mpr (.inl o))⟩
      · exact .inr h) (Reps.unhold r)
  | _, _, .lst h r => .lst ⟨by rw [without_ne fun e => h.2 (Own.hold.mpr (.inr e))]; exact h.1, fun o => h.2 (Own.hold.mpr (.inl o))⟩ (Reps.unhold r)
  | _, _, .rol h r => .rol (by
      rcases h with ⟨⟨o, h⟩, n⟩ | h
      · exact .inl ⟨⟨o, by rw [without_ne fun e => n (Own.hold.mpr (.inr e))]; exact h⟩, fun o => n (Own.hold.mpr (.inl o))⟩
      · exact .inr h) (Reps.unhold r)
  | _, _, .loc h => .loc h
theorem Reps.unhold {p : Addr} : ∀ {vs : List V} {ds : List D}, Reps K H (α.hold p) M vs ds → Reps K (without H p) α M vs ds
  | _, _, .nil => .nil
  | _, _, .cons a b => .cons (Rep.unhold a) (Reps.unhold b)
end
mutual
theorem Rep.hold {p : Addr} {o : HO} (w : WOk K H α M) (hp : H p = none) : ∀ {v : V} {d : D}, Rep K H α M v d → Rep K (upd H p o) (α.hold p) M v d
  | _, _, .non => .non
  | _, _, .bl b => .bl b
  | _, _, .int i => .int i
  | _, _, .str x => .str x
  | _, _, .tup h r => .tup (by
      rcases h with ⟨h | ⟨o, h⟩, n⟩ | h
      · exact .inl ⟨.inl (by rw [upd_ne (ne_of_none h hp)]; exact h), fun q => (Own.hold.mp q).elim n fun e => by rw [e, hp] at h; cases h⟩
      · exact .inl ⟨.inr ⟨o, by rw [upd_ne (ne_of_none h hp)]; exact h⟩, fun q => (Own.hold.mp q).elim n fun e => by rw [e, hp] at h; cases h⟩
      · exact .inr h) (Reps.hold w hp r)
  | _, _, .lst h r => .lst ⟨by rw [upd_ne (ne_of_none h.1 hp)]; exact h.1, fun q => (Own.hold.mp q).elim h.2 fun e => by have := h.1; rw [e, hp] at this; cases this⟩ (Reps.hold w hp r)
  | _, _, .rol h r => .rol (by
      rcases h with ⟨⟨o, h⟩, n⟩ | h
      · exact .inl ⟨⟨o, by rw [upd_ne (ne_of_none h hp)]; exact h⟩, fun q => (Own.hold.mp q).elim n fun e => by rw [e, hp] at h; cases h⟩
      · exact .inr h) (Reps.hold w hp r)
  | _, _, .loc h => .loc h
theorem Reps.hold {p : Addr} {o : HO} (w : WOk K H α M) (hp : H p = none) : ∀ {vs : List V} {ds : List D}, Reps K H α M vs ds → Reps K (upd H p o) (α.hold p) M vs ds
  | _, _, .nil => .nil
  | _, _, .cons a b => .cons (Rep.hold w hp a) (Reps.hold w hp b)
end
theorem WOk.hold {p : Addr} {vs : List V} (w : WOk K H α M) (hp : H p = none) : WOk K (upd H p (.lst vs)) (α.hold p) M := by
  refine ⟨w.len, fun n ds h => ?_, w.inj, fun n a ds h1 h2 hm => ?_, fun a ha => ?_⟩
  · obtain ⟨h0, a, us, h1, h2, h3⟩ := w.cell n ds h
    exact ⟨h0, a, us, h1, by rw [upd_ne (ne_of_none h2 hp)]; exact h2, h3.hold w hp⟩
  · rcases List.mem_cons.mp hm with e | hm
    · exact w.free hp (by rw [← e]; exact .inl ⟨n, ds, h1, h2⟩)
    · exact w.apart n a ds h1 h2 hm
  · rcases List.mem_cons.mp ha with e | ha
    · exact ⟨vs, by rw [e]; exact upd_same⟩
    · obtain ⟨us, q⟩ := w.there a ha
      exact ⟨us, by rw [upd_ne (ne_of_none q hp)]; exact q⟩
theorem WOk.unhold {p : Addr} (hp : p ∉ α.r) (w : WOk K H (α.hold p) M) : WOk K (without H p) α M := by
  refine ⟨w.len, fun n ds h => ?_, w.inj, fun n a ds h1 h2 hm => w.apart n a ds h1 h2 (List.mem_cons_of_mem _ hm), fun a ha => ?_⟩
  · obtain ⟨h0, a, us, h1, h2, h3⟩ := w.cell n ds h
    have ne : a ≠ p := fun e => w.apart n a ds h1 h (by rw [e]; exact List.mem_cons_self)
    exact ⟨h0, a, us, h1, by rw [without_ne ne]; exact h2, h3.unhold⟩
  · obtain ⟨us, q⟩ := w.there a (List.mem_cons_of_mem _ ha)
    exact ⟨us, by rw [without_ne fun e => hp (by rw [← e]; exact ha)]; exact q⟩
/-- what happens around what is held, seen without it -/
theorem Le.unhold {p : Addr} (l : Le H (α.hold p) M H1 (α1.hold p) M1) : Le (without H p) α M (without H1 p) α1 M1 := by
  have hr : (p :: α1.r) = p :: α.r := l.res
  have hr' : α1.r = α.r := by injection hr
  refine ⟨l.pre, hr', fun a o h n => ?_, fun a ha => ?_⟩
  · have ne : a ≠ p := fun e => by rw [e, without_same] at h; cases h
    rw [without_ne ne] at h
    obtain ⟨k1, k2⟩ := l.keep a o h fun q => (Own.hold.mp q).elim n ne
    exact ⟨by rw [without_ne ne]; exact k1, fun q => k2 (Own.hold.mpr (.inl q))⟩
  · by_cases e : a = p
    · rw [e, without_same, without_same]
    · rw [without_ne e, without_ne e]
      exact l.held a (List.mem_cons_of_mem _ ha)
theorem upd_none {p : Addr} {o : HO} (h : H p = none) : without (upd H p o) p = H := by
  funext a
  by_cases e : a = p
  · rw [e, without_same, h]
  · rw [without_ne e, upd_ne e]

/-- the slots -/
structure SlOk (K : PySem.W.Frag) (H : Hp) (α : Al) (M : Store) (σ : L2.St) (ρ : Sl) : Prop where
  len : σ.length = ρ.length
  at_ : ∀ (i : Nat) (d : D), ρ[i]? = some (some d) → ∃ v, σ[i]? = some (some v) ∧ Rep K H α M v d
theorem SlOk.mono {σ : L2.St} {ρ : Sl} (l : Le H α M H1 α1 M1) (h : SlOk K H α M σ ρ) : SlOk K H1 α1 M1 σ ρ :=
  ⟨h.len, fun i d e => let ⟨v, a, b⟩ := h.at_ i d e; ⟨v, a, b.mono l⟩⟩
theorem SlOk.set {σ : L2.St} {ρ : Sl} {v : V} {d : D} (h : SlOk K H α M σ ρ) (r : Rep K H α M v d) (i : Nat) : SlOk K H α M (σ.set i (some v)) (ρ.set i (some d)) := by
  refine ⟨by simp [h.len], fun j e q => ?_⟩
  by_cases z : i = j
  · subst z
    by_cases hi : i < ρ.length
    · rw [List.getElem?_set_self hi] at q
      cases q
      exact ⟨v, List.getElem?_set_self (by rw [h.len]; exact hi), r⟩
    · rw [List.getElem?_eq_none (by simpa using hi)] at q
      cases q
  · rw [List.getElem?_set_ne z] at q
    rw [List.getElem?_set_ne z]
    exact h.at_ j e q
end
end DL

set_option Elab.async false
set_option linter.all false
set_option maxRecDepth 100000
set_option maxHeartbeats 4000000
namespace DL
open PySem PySem.Spec PyProof.Rows L2

/-! ### ends -/
def ExnAt (K : PySem.W.Frag) (H : Hp) (α : Al) (M : Store) (c : Value) (od : Option Addr) (x : Exn) : Prop :=
  c = .ref (He.ga K x.1) ∧ (x.2 = [] ∨ ∃ (d : Addr) (vs : List V), od = some d ∧ H d = some (.xd ((x.2.map (·.1)).zip vs)) ∧ ¬ Own α M d ∧ Reps K H α M vs (x.2.map (·.2)))
def Post {β : Type} (K : PySem.W.Frag) (E : XK) (H : Hp) (α : Al) (M : Store) (r : Res β) (Q : β → Hp → Al → Store → Prop) : Prop := match r with
  | .ok b M' => ∀ H' α', Le H α M H' α' M' → WOk K H' α' M' → Q b H' α' M'
  | .err x M' => ∀ c od H' α', Le H α M H' α' M' → WOk K H' α' M' → ExnAt K H' α' M' c od x → E c od H'
  | .stuck => False
section
variable {K : PySem.W.Frag} {E : XK} {H H1 : Hp} {α α1 : Al} {M M1 : Store} {β γ : Type}
theorem Post.imp {r : Res β} {P Q : β → Hp → Al → Store → Prop} (h : Post K E H α M r P) (f : ∀ b H' α' M', Le H α M H' α' M' → WOk K H' α' M' → P b H' α' M' → Q b H' α' M') : Post K E H α M r Q := by
  cases r with
  | ok b M' => exact fun H' α' l w => f _ _ _ _ l w (h H' α' l w)
  | err x M' => exact h
  | stuck => exact h
theorem Post.le {r : Res β} {Q : β → Hp → Al → Store → Prop} (l : Le H α M H1 α1 M1) (h : Post K E H α M r Q) : Post K E H1 α1 M1 r Q := by
  cases r with
  | ok b M' => exact fun H' α' l' w => h H' α' (l.trans l') w
  | err x M' => exact fun c od H' α' l' w => h c od H' α' (l.trans l') w
  | stuck => exact h
theorem Post.bind {r : Res β} {f : β → Store → Res γ} {Q : γ → Hp → Al → Store → Prop} (h : Post K E H α M (r.bind f) Q) :
    Post K E H α M r (fun b H' α' M' => Post K E H' α' M' (f b M') Q) := by
  cases r with
  | ok b M' => exact fun H' α' l _ => Post.le l h
  | err x M' => exact h
  | stuck => exact h
theorem Post.here {b : β} {Q : β → Hp → Al → Store → Prop} (w : WOk K H α M) (h : Post K E H α M (.ok b M) Q) : Q b H α M := h H α Le.refl w
end
def QE (K : PySem.W.Frag) (Q : VK) : D → Hp → Al → Store → Prop := fun d H α M => ∀ v, Rep K H α M v d → Q v H
def QA (K : PySem.W.Frag) (Q : List V → Hp → Prop) : List D → Hp → Al → Store → Prop := fun ds H α M => ∀ vs, Reps K H α M vs ds → Q vs H
def QT (Q : Bool → Hp → Prop) : Bool → Hp → Al → Store → Prop := fun b H _ _ => Q b H

/-! ### the judgements -/
def RdE (K : PySem.W.Frag) (E : XK) (t : TE) (m : DE) : Prop := ∀ σ H ρ α M Q, WOk K H α M → SlOk K H α M σ ρ → Post K E H α M (m ρ M) (QE K Q) → t σ H Q
def RdA (K : PySem.W.Frag) (E : XK) (t : TA) (m : DA) : Prop := ∀ σ H ρ α M Q, WOk K H α M → SlOk K H α M σ ρ → Post K E H α M (m ρ M) (QA K Q) → t σ H Q
def RdT (K : PySem.W.Frag) (E : XK) (t : TT) (m : DT) : Prop := ∀ σ H ρ α M Q, WOk K H α M → SlOk K H α M σ ρ → Post K E H α M (m ρ M) (QT Q) → t σ H Q
structure PD (X : Cx) (E : XK) (e : Expr) (m : DE) : Prop where
  ex : ∃ t, PE X e t ∧ RdE X.K E t m
structure PDA (X : Cx) (E : XK) (es : List Expr) (m : DA) : Prop where
  ex : ∃ t, PA X es t ∧ RdA X.K E t m
structure PDT (X : Cx) (E : XK) (e : Expr) (m : DT) : Prop where
  ex : ∃ t, PT X e t ∧ RdT X.K E t m
structure PDW (X : Cx) (E : XK) (e : Expr) (m : DT) : Prop where
  ex : ∃ t, PW X e t ∧ RdT X.K E t m

/-! ### names, constants -/
def mV (i : Nat) : DE := fun ρ M => match ρ[i]? with
  | some (some d) => .ok d M
  | _ => .stuck
def mC (d : D) : DE := fun _ M => .ok d M
section
variable {X : Cx} {E : XK}
theorem pd_var {i : Nat} {x : Str} {pos : Pos} (hN : X.N[i]? = some x) (hv : Vis X.env.scope x) (hd : (x == ("__debug__" : Str)) = false := by decide) (hcd : (x == ("__classdict__" : Str)) = false := by decide) : PD X E (.Name x pos) (mV i) := by
  refine ⟨_, pe_var hN hv hd hcd, fun σ H ρ α M Q w s h => ?_⟩
  unfold mV at h
  cases e : ρ[i]? with
  | none => rw [e] at h; exact h.elim
  | some o =>
    rw [e] at h
    cases o with
    | none => exact h.elim
    | some d =>
      obtain ⟨v, h1, h2⟩ := s.at_ i d e
      exact ⟨v, h1, h.here w v h2⟩
theorem pd_const {e : Expr} {v : V} {d : D} (hp : PE X e (tC v)) (r : ∀ H α M, Rep X.K H α M v d) : PD X E e (mC d) :=
  ⟨_, hp, fun _ _ _ _ _ _ w _ h => h.here w v (r _ _ _)⟩
theorem pd_int {i : Int} {j : Nat} {pos : Pos} : PD X E (.Constant (.int i) j pos) (mC (.int i)) := pd_const pe_int fun _ _ _ => .int i
theorem pd_bl {b : Bool} {j : Nat} {pos : Pos} : PD X E (.Constant (.bool b) j pos) (mC (.bl b)) := pd_const pe_bl fun _ _ _ => .bl b
theorem pd_non {j : Nat} {pos : Pos} : PD X E (.Constant .none j pos) (mC .non) := pd_const pe_non fun _ _ _ => .non
theorem pd_str {x : Str} {j : Nat} {pos : Pos} : PD X E (.Constant (.str x) j pos) (mC (.str x)) := pd_const pe_str fun _ _ _ => .str x
/-- a constant of the module -/
def KRep (K : PySem.W.Frag) (mg : Str → Option Value) (x : Str) (d : D) : Prop := ∃ v u, mg x = some u ∧ RelV v u ∧ ∀ H α M, Rep K H α M v d
theorem pd_glob {x : Str} {d : D} {pos : Pos} (hg : Gl X x) (h : KRep X.K X.mg x d) (hd : (x == ("__debug__" : Str)) = false := by decide) : PD X E (.Name x pos) (mC d) := by
  obtain ⟨v, u, h1, h2, h3⟩ := h
  exact pd_const (pe_glob hg h1 h2 hd) h3
end

/-! ### argument lists, displays -/
def mNil : DA := fun _ M => .ok [] M
def mCons (a : DE) (r : DA) : DA := fun ρ M => (a ρ M).bind fun d M1 => (r ρ M1).bind fun ds M2 => .ok (d :: ds) M2
def newTup (ds : List D) (M : Store) : Res D := if ds.length ≤ 16777216 then .ok (.tup ds) M else .stuck
def newLst (ds : List D) (M : Store) : Res D := if ds.length ≤ 16777216 then .ok (.lst ds) M else .stuck
def newLoc (ds : List D) (M : Store) : Res D := if ds.length ≤ 16777216 ∧ locFrees ds = true then .ok (.loc M.length) (M ++ [some ds]) else .stuck
def mTup (a : DA) : DE := fun ρ M => (a ρ M).bind newTup
def mLst (mk : List D → Store → Res D) (a : DA) : DE := fun ρ M => (a ρ M).bind mk
/-- what a new list is told as -/
def Mk (mk : List D → Store → Res D) : Prop := ∀ (K : PySem.W.Frag) (E : XK) (H : Hp) (α : Al) (M : Store) (vs : List V) (ds : List D) (Q : VK), WOk K H α M → Reps K H α M vs ds → Post K E H α M (mk ds M) (QE K Q) →
  vs.length ≤ sizeLine ∧ ∀ p, H p = none → Q (.ref p) (upd H p (.lst vs))
section
variable {K : PySem.W.Frag} {E : XK} {H : Hp} {α : Al} {M : Store} {vs : List V} {ds : List D} {Q : VK}
theorem newTup_post (w : WOk K H α M) (r : Reps K H α M vs ds) (h : Post K E H α M (newTup ds M) (QE K Q)) : vs.length ≤ sizeLine ∧ ∀ p, H p = none → Q (.ref p) (upd H p (.tup vs)) := by
  unfold newTup at h
  by_cases hl : ds.length ≤ 16777216
  · rw [if_pos hl] at h
    refine ⟨by rw [r.length, sizeLine_eq]; exact hl, fun p np => ?_⟩
    have l : Le H α M (upd H p (.tup vs)) α M := Le.laid w np
    exact h _ _ l (w.laid np) _ (.tup (.inl ⟨.inl upd_same, (w.free np)⟩) (r.mono l))
  · rw [if_neg hl] at h
    exact h.elim
theorem mk_lst : Mk newLst := by
  intro K E H α M vs ds Q w r h
  unfold newLst at h
  by_cases hl : ds.length ≤ 16777216
  · rw [if_pos hl] at h
    refine ⟨by rw [r.length, sizeLine_eq]; exact hl, fun p np => ?_⟩
    have l : Le H α M (upd H p (.lst vs)) α M := Le.laid w np
    exact h _ _ l (w.laid np) _ (.lst ⟨upd_same, (w.free np)⟩ (r.mono l))
  · rw [if_neg hl] at h
    exact h.elim
theorem mk_loc : Mk newLoc := by
  intro K E H α M vs ds Q w r h
  unfold newLoc at h
  by_cases hl : ds.length ≤ 16777216 ∧ locFrees ds = true
  · rw [if_pos hl] at h
    refine ⟨by rw [r.length, sizeLine_eq]; exact hl.1, fun p np => ?_⟩
    refine h _ _ (Le.fresh w np) (w.fresh np r hl.2) _ (.loc ?_)
    show (α.c ++ [p])[M.length]? = some p
    rw [← w.len]
    simp
  · rw [if_neg hl] at h
    exact h.elim
end
section
variable {X : Cx} {E : XK} {e : Expr} {es : List Expr} {pos : Pos}
theorem pda_nil : PDA X E [] mNil := ⟨_, pa_nil, fun _ _ _ _ _ _ w _ h => h.here w [] .nil⟩
theorem rd_cons {K : PySem.W.Frag} {te : TE} {ta : TA} {a : DE} {r : DA} (ha : RdE K E te a) (hr : RdA K E ta r) : RdA K E (tCons te ta) (mCons a r) := by
  intro σ H ρ α M Q w s h
  refine ha σ H ρ α M _ w s (Post.imp (Post.bind h) fun d H1 α1 M1 l1 w1 h1 v rv => ?_)
  refine hr σ H1 ρ α1 M1 _ w1 (s.mono l1) (Post.imp (Post.bind h1) fun ds H2 α2 M2 l2 w2 h2 vs rvs => ?_)
  exact h2.here w2 (v :: vs) (.cons (rv.mono l2) rvs)
theorem pda_cons {a : DE} {r : DA} (ha : PD X E e a) (hr : PDA X E es r) (hs : starEach (e :: es) X.env = (false, eval e X.env) :: starEach es X.env := by rfl) : PDA X E (e :: es) (mCons a r) := by
  obtain ⟨te, h1, r1⟩ := ha.ex
  obtain ⟨ta, h2, r2⟩ := hr.ex
  exact ⟨_, pa_cons h1 h2 hs, rd_cons r1 r2⟩
theorem pd_tup {k : Nat} {a : DA} (h : PDA X E es a) : PD X E (.Tuple es k pos) (mTup a) := by
  obtain ⟨t, h1, r1⟩ := h.ex
  refine ⟨_, pe_tup h1, fun σ H ρ α M Q w s q => ?_⟩
  exact r1 σ H ρ α M _ w s (Post.imp (Post.bind q) fun ds H1 α1 M1 l1 w1 h1 vs rv => newTup_post w1 rv h1)
theorem pd_lst {mk : List D → Store → Res D} (hm : Mk mk) {a : DA} (h : PDA X E es a) : PD X E (.List es pos) (mLst mk a) := by
  obtain ⟨t, h1, r1⟩ := h.ex
  refine ⟨_, pe_lst h1, fun σ H ρ α M Q w s q => ?_⟩
  exact r1 σ H ρ α M _ w s (Post.imp (Post.bind q) fun ds H1 α1 M1 l1 w1 h1 vs rv => hm _ _ _ _ _ _ _ _ w1 rv h1)
end

/-! ### operators -/
def mOp (f : D → D → Store → Res D) (a b : DE) : DE := fun ρ M => (a ρ M).bind fun x M1 => (b ρ M1).bind fun y M2 => f x y M2
def mUn (f : D → Store → Res D) (a : DE) : DE := fun ρ M => (a ρ M).bind f
/-- what a two-place operation on values is worth on data -/
def OpS (K : PySem.W.Frag) (E : XK) (r : R2) (f : D → D → Store → Res D) : Prop := ∀ H α M x y dx dy Q, WOk K H α M → Rep K H α M x dx → Rep K H α M y dy → Post K E H α M (f dx dy M) (QE K Q) → r x y H Q
structure OpD (X : Cx) (E : XK) (g : Value → Value → Sem Value) (f : D → D → Store → Res D) : Prop where
  ex : ∃ r, OpR X g r ∧ OpS X.K E r f
theorem opR_or {X : Cx} {g : Value → Value → Sem Value} {r r' : R2} (h : OpR X g r) (h' : OpR X g r') : OpR X g (fun x y H Q => r x y H Q ∨ r' x y H Q) := by
  intro pins s σ H x y v u Q I rx ry q
  rcases q with q | q
  · exact h pins s σ H x y v u Q I rx ry q
  · exact h' pins s σ H x y v u Q I rx ry q

section
variable {X : Cx} {E : XK} {a b : Expr} {ma mb : DE} {pos : Pos} {f : D → D → Store → Res D}
theorem rd_op {K : PySem.W.Frag} {r : R2} {ta tb : TE} (hr : OpS K E r f) (ha : RdE K E ta ma) (hb : RdE K E tb mb) : RdE K E (tOp r ta tb) (mOp f ma mb) := by
  intro σ H ρ α M Q w s h
  refine ha σ H ρ α M _ w s (Post.imp (Post.bind h) fun d H1 α1 M1 l1 w1 h1 v rv => ?_)
  refine hb σ H1 ρ α1 M1 _ w1 (s.mono l1) (Post.imp (Post.bind h1) fun e H2 α2 M2 l2 w2 h2 u ru => ?_)
  exact hr H2 α2 M2 v u d e Q w2 (rv.mono l2) ru h2
theorem pd_op {op : Operator} (ho : OpD X E (binaryOp op) f) (ha : PD X E a ma) (hb : PD X E b mb) : PD X E (.BinOp a op b pos) (mOp f ma mb) := by
  obtain ⟨r, h1, r1⟩ := ho.ex
  obtain ⟨ta, h2, r2⟩ := ha.ex
  obtain ⟨tb, h3, r3⟩ := hb.ex
  exact ⟨_, pe_op h1 h2 h3, rd_op r1 r2 r3⟩
theorem pd_cmp {op : CmpOp} (ho : OpD X E (compareOp op) f) (ha : PD X E a ma) (hb : PD X E b mb) (hm : behindInMarks op b = false := by first | exact nomark _ | rfl) : PD X E (.Compare a [op] [b] pos) (mOp f ma mb) := by
  obtain ⟨r, h1, r1⟩ := ho.ex
  obtain ⟨ta, h2, r2⟩ := ha.ex
  obtain ⟨tb, h3, r3⟩ := hb.ex
  exact ⟨_, pe_cmpR h1 h2 h3 hm, rd_op r1 r2 r3⟩
end
end DL

set_option Elab.async false
set_option linter.all false
set_option maxRecDepth 100000
set_option maxHeartbeats 4000000
namespace DL
open PySem PySem.Spec PyProof.Rows L2

def cellAt (M : Store) (n : Nat) : Option (List D) := (M[n]?).join
theorem cellAt_some {M : Store} {n : Nat} {ds : List D} (h : cellAt M n = some ds) : M[n]? = some (some ds) := by
  unfold cellAt at h
  cases q : M[n]? with
  | none => rw [q] at h; cases h
  | some o => rw [q] at h; exact congrArg some h
/-- the items of a list that may be written or joined -/
def lstOf (M : Store) : D → Option (List D)
  | .lst xs => some xs
  | .loc n => cellAt M n
  | _ => none
/-- the items of a list, a tuple -/
def seqOf (M : Store) : D → Option (List D)
  | .lst xs => some xs
  | .rol xs => some xs
  | .tup xs => some xs
  | .loc n => cellAt M n
  | _ => none
section
variable {K : PySem.W.Frag} {H : Hp} {α : Al} {M : Store} {v : V} {d : D} {ds : List D}
theorem lstOf_rep (w : WOk K H α M) (r : Rep K H α M v d) (h : lstOf M d = some ds) : ∃ a vs, v = .ref a ∧ H a = some (.lst vs) ∧ Reps K H α M vs ds := by
  cases r with
  | lst hl rs => cases h; exact ⟨_, _, rfl, hl.1, rs⟩
  | @loc a n e =>
    obtain ⟨_, b, vs, e1, e2, e3⟩ := w.cell n _ (cellAt_some h)
    rw [e] at e1; cases e1
    exact ⟨_, _, rfl, e2, e3⟩
  | _ => cases h
theorem seqOf_rep (w : WOk K H α M) (r : Rep K H α M v d) (h : seqOf M d = some ds) : ∃ a vs, v = .ref a ∧ (SqL K H a vs ∨ SqT K H a vs) ∧ Reps K H α M vs ds := by
  cases r with
  | lst hl rs => cases h; exact ⟨_, _, rfl, .inl hl.sq, rs⟩
  | rol hl rs => cases h; exact ⟨_, _, rfl, .inl hl.sq, rs⟩
  | tup hl rs => cases h; exact ⟨_, _, rfl, .inr hl.sq, rs⟩
  | @loc a n e =>
    obtain ⟨_, b, vs, e1, e2, e3⟩ := w.cell n _ (cellAt_some h)
    rw [e] at e1; cases e1
    exact ⟨_, _, rfl, .inl (.inl (.inl e2)), e3⟩
  | _ => cases h
end

/-! ### arithmetic -/
def mulOk (i j : Int) : Bool := decide (i.natAbs.log2 + j.natAbs.log2 < 134000000)
def divOk (j : Int) : Bool := decide (j ≠ 0) && decide (j.natAbs.log2 < 9000)
def dAdd (mk : List D → Store → Res D) : D → D → Store → Res D
  | .int i, .int j, M => .ok (.int (i + j)) M
  | .tup xs, .tup ys, M => newTup (xs ++ ys) M
  | .str x, .str y, M => if x.length + y.length ≤ 16777216 then .ok (.str (x ++ y)) M else .stuck
  | x, y, M => (match lstOf M x, lstOf M y with
    | some xs, some ys => if xs.length + ys.length ≤ 16777216 then mk (xs ++ ys) M else .stuck
    | _, _ => .stuck)
def dSub : D → D → Store → Res D
  | .int i, .int j, M => .ok (.int (i - j)) M
  | _, _, _ => .stuck
def dMul (mk : List D → Store → Res D) : D → D → Store → Res D
  | .int i, .int j, M => if mulOk i j then .ok (.int (i * j)) M else .stuck
  | x, .int k, M => (match lstOf M x with
    | some xs => if k < 1000000 ∧ xs.length * k.toNat ≤ 16777216 ∧ -1000000 < k then mk (List.replicate k.toNat xs).flatten M else .stuck
    | _ => .stuck)
  | _, _, _ => .stuck
def dFdiv : D → D → Store → Res D
  | .int i, .int j, M => if divOk j then .ok (.int (i.fdiv j)) M else .stuck
  | _, _, _ => .stuck
def dMod : D → D → Store → Res D
  | .int i, .int j, M => if j = 0 then .stuck else .ok (.int (i.fmod j)) M
  | _, _, _ => .stuck
def dPow : D → D → Store → Res D
  | .int i, .int j, M => if 0 ≤ j ∧ j ≤ 1000 ∧ i.natAbs < 1000000000 then .ok (.int (i ^ j.toNat)) M else .stuck
  | _, _, _ => .stuck
def dNeg : D → Store → Res D
  | .int i, M => .ok (.int (-i)) M
  | _, _ => .stuck
theorem log2_bits (i : Int) : Builtin.Int.intBits i ≤ i.natAbs.log2 + 1 := by
  unfold Builtin.Int.intBits
  split <;> omega
theorem mulOk_ok {i j : Int} (h : mulOk i j = true) : IntMulOk i j := by
  have h3 : i.natAbs.log2 + j.natAbs.log2 < 134000000 := of_decide_eq_true h
  have h1 := log2_bits i
  have h2 := log2_bits j
  have e : bitsLine = 134217728 := by decide
  unfold IntMulOk
  intro z
  rw [Bool.and_eq_true] at z
  have z2 := z.2
  unfold Builtin.Int.intTooBig at z2
  have z3 := of_decide_eq_true z2
  rw [e] at z3
  omega
section
variable {X : Cx} {E : XK} {mk : List D → Store → Res D}
theorem ite_ok {β : Type} {c : Prop} [Decidable c] {K : PySem.W.Frag} {H : Hp} {α : Al} {M : Store} {r : Res β} {Q : β → Hp → Al → Store → Prop} (h : Post K E H α M (if c then r else .stuck) Q) : c ∧ Post K E H α M r Q := by
  by_cases q : c
  · rw [if_pos q] at h; exact ⟨q, h⟩
  · rw [if_neg q] at h; exact h.elim
def rAdd (K : PySem.W.Frag) : R2 := fun x y H Q => rI0 (fun i j => .int (i + j)) x y H Q ∨ (rCatA K x y H Q ∨ (rCat x y H Q ∨ (∃ i j, x = .str i ∧ y = .str j ∧ i.length + j.length ≤ sizeLine ∧ Q (.str (i ++ j)) H)))
theorem op_addAll : OpR X (binaryOp .Add) (rAdd X.K) := opR_or op_add (opR_or op_catA (opR_or op_cat op_add_str))
theorem opd_add (hm : Mk mk) : OpD X E (binaryOp .Add) (dAdd mk) := by
  refine ⟨_, op_addAll, fun H α M x y dx dy Q w rx ry h => ?_⟩
  have lists : ∀ (h : Post X.K E H α M (match lstOf M dx, lstOf M dy with
      | some xs, some ys => if xs.length + ys.length ≤ 16777216 then mk (xs ++ ys) M else .stuck
      | _, _ => .stuck) (QE X.K Q)), rAdd X.K x y H Q := fun h => by
    cases e1 : lstOf M dx with
    | none => rw [e1] at h; exact h.elim
    | some xs =>
      cases e2 : lstOf M dy with
      | none => rw [e1, e2] at h; exact h.elim
      | some ys =>
        rw [e1, e2] at h
        obtain ⟨hl, h⟩ := ite_ok h
        obtain ⟨a, vs, rfl, ha, ra⟩ := lstOf_rep w rx e1
        obtain ⟨b, ws, rfl, hb, rb⟩ := lstOf_rep w ry e2
        obtain ⟨_, q⟩ := hm _ _ _ _ _ _ _ _ w (ra.append rb) h
        exact .inr (.inr (.inl ⟨a, b, vs, ws, rfl, rfl, ha, hb, by rw [ra.length, rb.length, sizeLine_eq]; exact hl, q⟩))
  cases rx with
  | int i =>
    cases ry with
    | int j => exact .inl ⟨i, j, rfl, rfl, h.here w _ (.int _)⟩
    | _ => exact lists h
  | str i =>
    cases ry with
    | str j =>
      have h' : Post X.K E H α M (if i.length + j.length ≤ 16777216 then .ok (.str (i ++ j)) M else .stuck) (QE X.K Q) := h
      obtain ⟨hl, h'⟩ := ite_ok h'
      exact .inr (.inr (.inr ⟨i, j, rfl, rfl, by rw [sizeLine_eq]; exact hl, h'.here w _ (.str _)⟩))
    | _ => exact lists h
  | @tup a xs ds ha ra =>
    cases ry with
    | @tup b ys es hb rb =>
      have h' : Post X.K E H α M (newTup (ds ++ es) M) (QE X.K Q) := h
      obtain ⟨hl, q⟩ := newTup_post w (ra.append rb) h'
      have h2 : ∀ v, Rep X.K H α M v (.tup (ds ++ es)) → Q v H := by
        unfold newTup at h'
        rw [if_pos (by rw [List.length_append, ra.length, rb.length, sizeLine_eq] at hl; rw [List.length_append]; exact hl)] at h'
        exact h'.here w
      refine .inr (.inl ⟨a, b, xs, ys, rfl, rfl, ha.sq, hb.sq, by rw [List.length_append] at hl; exact hl, fun e => ?_, fun _ e => ?_, fun _ _ => q⟩)
      · subst e
        cases ra
        exact h2 _ (.tup hb rb)
      · subst e
        cases rb
        rw [List.append_nil] at h2
        exact h2 _ (.tup ha ra)
    | _ => exact lists h
  | _ => exact lists h
theorem opd_sub : OpD X E (binaryOp .Sub) dSub := by
  refine ⟨_, op_sub, fun H α M x y dx dy Q w rx ry h => ?_⟩
  cases rx with
  | int i => cases ry with
    | int j => exact ⟨i, j, rfl, rfl, h.here w _ (.int _)⟩
    | _ => exact h.elim
  | _ => exact h.elim
theorem op_mulA : OpR X (binaryOp .Mult) (rI IntMulOk fun i j => .int (i * j)) := opI fun _ _ _ _ _ _ _ hc q => mul_int q hc
theorem opd_mul (hm : Mk mk) : OpD X E (binaryOp .Mult) (dMul mk) := by
  refine ⟨_, opR_or op_mulA op_rep, fun H α M x y dx dy Q w rx ry h => ?_⟩
  have lists : ∀ (k : Int) (h : Post X.K E H α M (match lstOf M dx with
    | some xs => if k < 1000000 ∧ xs.length * k.toNat ≤ 16777216 ∧ -1000000 < k then mk (List.replicate k.toNat xs).flatten M else .stuck
    | _ => .stuck) (QE X.K Q)), rRep x (.int k) H Q := fun k h => by
    cases e1 : lstOf M dx with
    | none => rw [e1] at h; exact h.elim
    | some xs =>
      rw [e1] at h
      obtain ⟨⟨h1, h2, h3⟩, h⟩ := ite_ok h
      obtain ⟨a, vs, rfl, ha, ra⟩ := lstOf_rep w rx e1
      have rr : ∀ n, Reps X.K H α M (List.replicate n vs).flatten (List.replicate n xs).flatten := fun n => by
        induction n with
        | zero => exact .nil
        | succ n ih => rw [List.replicate_succ, List.replicate_succ, List.flatten_cons, List.flatten_cons]; exact ra.append ih
      obtain ⟨_, q⟩ := hm _ _ _ _ _ _ _ _ w (rr k.toNat) h
      exact ⟨a, k, vs, rfl, rfl, ha, by omega, by omega, by rw [ra.length, sizeLine_eq]; exact h2, q⟩
  cases ry with
  | int j =>
    cases rx with
    | int i =>
      have h' : Post X.K E H α M (if mulOk i j = true then .ok (.int (i * j)) M else .stuck) (QE X.K Q) := h
      obtain ⟨hc, h'⟩ := ite_ok h'
      exact .inl ⟨i, j, rfl, rfl, mulOk_ok hc, h'.here w _ (.int _)⟩
    | _ => exact .inr (lists j h)
  | _ => cases rx <;> exact h.elim
theorem op_fdivA : OpR X (binaryOp .FloorDiv) (rI (fun _ j => j ≠ 0 ∧ j.natAbs.log2 < 9000) fun i j => .int (i.fdiv j)) := opI fun _ _ _ _ _ _ _ hc q => floordiv_int hc.1 q (.inl (PyProof.noPylong_of_log2 hc.2))
theorem opd_fdiv : OpD X E (binaryOp .FloorDiv) dFdiv := by
  refine ⟨_, op_fdivA, fun H α M x y dx dy Q w rx ry h => ?_⟩
  cases rx with
  | int i => cases ry with
    | int j =>
      have h' : Post X.K E H α M (if divOk j = true then .ok (.int (i.fdiv j)) M else .stuck) (QE X.K Q) := h
      obtain ⟨hc, h'⟩ := ite_ok h'
      unfold divOk at hc
      rw [Bool.and_eq_true, decide_eq_true_eq, decide_eq_true_eq] at hc
      exact ⟨i, j, rfl, rfl, hc, h'.here w _ (.int _)⟩
    | _ => exact h.elim
  | _ => exact h.elim
theorem opd_mod : OpD X E (binaryOp .Mod) dMod := by
  refine ⟨_, op_modN, fun H α M x y dx dy Q w rx ry h => ?_⟩
  cases rx with
  | int i => cases ry with
    | int j =>
      have h' : Post X.K E H α M (if j = 0 then .stuck else .ok (.int (i.fmod j)) M) (QE X.K Q) := h
      by_cases hj : j = 0
      · rw [if_pos hj] at h'; exact h'.elim
      · rw [if_neg hj] at h'
        exact ⟨i, j, rfl, rfl, hj, h'.here w _ (.int _)⟩
    | _ => exact h.elim
  | _ => exact h.elim
theorem opd_pow : OpD X E (binaryOp .Pow) dPow := by
  refine ⟨_, op_pow, fun H α M x y dx dy Q w rx ry h => ?_⟩
  cases rx with
  | int i => cases ry with
    | int j =>
      have h' : Post X.K E H α M (if 0 ≤ j ∧ j ≤ 1000 ∧ i.natAbs < 1000000000 then .ok (.int (i ^ j.toNat)) M else .stuck) (QE X.K Q) := h
      obtain ⟨⟨h1, h2, h3⟩, h'⟩ := ite_ok h'
      exact ⟨i, j, rfl, rfl, ⟨h1, by omega, by omega⟩, h'.here w _ (.int _)⟩
    | _ => exact h.elim
  | _ => exact h.elim
theorem pd_neg {a : Expr} {ma : DE} {pos : Pos} (ha : PD X E a ma) : PD X E (.UnaryOp .USub a pos) (mUn dNeg ma) := by
  obtain ⟨ta, h2, r2⟩ := ha.ex
  refine ⟨_, pe_un un_neg h2, fun σ H ρ α M Q w s h => ?_⟩
  refine r2 σ H ρ α M _ w s (Post.imp (Post.bind h) fun d H1 α1 M1 l1 w1 h1 v rv => ?_)
  cases rv with
  | int i => exact ⟨i, rfl, h1.here w1 _ (.int _)⟩
  | _ => exact h1.elim
end

/-! ### comparisons of numbers -/
def dLt : D → D → Store → Res D
  | .int i, .int j, M => .ok (.bl (decide (i < j))) M
  | _, _, _ => .stuck
def dLe : D → D → Store → Res D
  | .int i, .int j, M => .ok (.bl (decide (i ≤ j))) M
  | _, _, _ => .stuck
def dGt : D → D → Store → Res D
  | .int i, .int j, M => .ok (.bl (decide (j < i))) M
  | _, _, _ => .stuck
def dGe : D → D → Store → Res D
  | .int i, .int j, M => .ok (.bl (decide (j ≤ i))) M
  | _, _, _ => .stuck
section
variable {X : Cx} {E : XK}
theorem opd_lt : OpD X E (compareOp .Lt) dLt := by
  refine ⟨_, op_lt, fun H α M x y dx dy Q w rx ry h => ?_⟩
  cases rx with
  | int i => cases ry with
    | int j => exact ⟨i, j, rfl, rfl, h.here w _ (.bl _)⟩
    | _ => exact h.elim
  | _ => exact h.elim
theorem opd_le : OpD X E (compareOp .LtE) dLe := by
  refine ⟨_, op_le, fun H α M x y dx dy Q w rx ry h => ?_⟩
  cases rx with
  | int i => cases ry with
    | int j => exact ⟨i, j, rfl, rfl, h.here w _ (.bl _)⟩
    | _ => exact h.elim
  | _ => exact h.elim
theorem opd_gt : OpD X E (compareOp .Gt) dGt := by
  refine ⟨_, op_gt, fun H α M x y dx dy Q w rx ry h => ?_⟩
  cases rx with
  | int i => cases ry with
    | int j => exact ⟨i, j, rfl, rfl, h.here w _ (.bl _)⟩
    | _ => exact h.elim
  | _ => exact h.elim
theorem opd_ge : OpD X E (compareOp .GtE) dGe := by
  refine ⟨_, op_ge, fun H α M x y dx dy Q w rx ry h => ?_⟩
  cases rx with
  | int i => cases ry with
    | int j => exact ⟨i, j, rfl, rfl, h.here w _ (.bl _)⟩
    | _ => exact h.elim
  | _ => exact h.elim
end
end DL

set_option Elab.async false
set_option linter.all false
set_option maxRecDepth 100000
set_option maxHeartbeats 4000000
namespace DL
open PySem PySem.Spec PyProof.Rows L2

/-! ### equality of data -/
mutual
def toP : D → PyData
  | .non => .none
  | .bl b => .bool b
  | .int i => .int i
  | .str x => .str x
  | .tup xs => .tuple (toPs xs)
  | .lst xs => .list (toPs xs)
  | .rol xs => .list (toPs xs)
  | .loc _ => .none
def toPs : List D → List PyData
  | [] => []
  | x :: r => toP x :: toPs r
end
mutual
/-- data without mutable lists, not deeper than n -/
def okD : D → Nat → Bool
  | .non, _ => true
  | .bl _, _ => true
  | .int _, _ => true
  | .str x, _ => PyData.canLay0 (.str x)
  | .tup xs, n => decide (0 < n) && okDs xs (n - 1)
  | .lst xs, n => decide (0 < n) && okDs xs (n - 1)
  | .rol xs, n => decide (0 < n) && okDs xs (n - 1)
  | .loc _, _ => false
def okDs : List D → Nat → Bool
  | [], _ => true
  | x :: r, n => okD x n && okDs r n
end
def der (M : Store) : D → Option D
  | .loc n => (cellAt M n).map .lst
  | d => some d
def eqD (a b : D) : Bool := PyData.eqv (toP a) (toP b)
def dEq0 (neg : Bool) (x y : D) (M : Store) : Res D := match der M x, der M y with
  | some a, some b => if (okD a 60 && okD b 60) = true then .ok (.bl (neg ^^ eqD a b)) M else .stuck
  | _, _ => .stuck
/-- texts by their signs, all else as data -/
def dEq (neg : Bool) (x y : D) (M : Store) : Res D := match x, y with
  | .str a, .str b => .ok (.bl (neg ^^ decide (a = b))) M
  | x, y => dEq0 neg x y M
section
variable {K : PySem.W.Frag} {H : Hp} {α : Al} {M : Store}
mutual
theorem dp_of : ∀ {v : V} {d : D} {n : Nat}, Rep K H α M v d → okD d n = true → Dp K H v (toP d) ∧ (toP d).canLay0 = true ∧ (toP d).depth ≤ n
  | _, _, n, .non, _ => ⟨by unfold toP; exact .non, by simp [toP, PyData.canLay0], by simp [toP, PyData.depth]⟩
  | _, _, n, .bl b, _ => ⟨by unfold toP; exact .bl b, by simp [toP, PyData.canLay0], by simp [toP, PyData.depth]⟩
  | _, _, n, .int i, _ => ⟨by unfold toP; exact .int i, by simp [toP, PyData.canLay0], by simp [toP, PyData.depth]⟩
  | _, _, n, .str x, h => ⟨by unfold toP; exact .str x, by unfold okD at h; unfold toP; exact h, by simp [toP, PyData.depth]⟩
  | _, _, n, .tup hl rs, h => by
    unfold okD at h
    rw [Bool.and_eq_true, decide_eq_true_eq] at h
    obtain ⟨h1, h2, h3⟩ := dps_of rs h.2
    unfold toP
    exact ⟨.tup hl.sq h1, by simp only [PyData.canLay0]; exact h2, by simp only [PyData.depth]; omega⟩
  | _, _, n, .lst hl rs, h => by
    unfold okD at h
    rw [Bool.and_eq_true, decide_eq_true_eq] at h
    obtain ⟨h1, h2, h3⟩ := dps_of rs h.2
    unfold toP
    exact ⟨.lst hl.sq h1, by simp only [PyData.canLay0]; exact h2, by simp only [PyData.depth]; omega⟩
  | _, _, n, .rol hl rs, h => by
    unfold okD at h
    rw [Bool.and_eq_true, decide_eq_true_eq] at h
    obtain ⟨h1, h2, h3⟩ := dps_of rs h.2
    unfold toP
    exact ⟨.lst hl.sq h1, by simp only [PyData.canLay0]; exact h2, by simp only [PyData.depth]; omega⟩
  | _, _, n, .loc _, h => by unfold okD at h; cases h
theorem dps_of : ∀ {vs : List V} {ds : List D} {n : Nat}, Reps K H α M vs ds → okDs ds n = true → DpAll K H vs (toPs ds) ∧ PyData.canLayAll0 (toPs ds) = true ∧ PyData.depthAll (toPs ds) ≤ n
  | _, _, n, .nil, _ => ⟨by unfold toPs; exact .nil, by simp [toPs, PyData.canLayAll0], by simp [toPs, PyData.depthAll]⟩
  | _, _, n, .cons a b, h => by
    unfold okDs at h
    rw [Bool.and_eq_true] at h
    obtain ⟨h1, h2, h3⟩ := dp_of a h.1
    obtain ⟨g1, g2, g3⟩ := dps_of b h.2
    unfold toPs
    exact ⟨.cons h1 g1, by simp only [PyData.canLayAll0, h2, g2, Bool.and_self], by simp only [PyData.depthAll]; omega⟩
end
theorem der_rep (w : WOk K H α M) {v : V} {d e : D} (r : Rep K H α M v d) (h : der M d = some e) (hk : okD e 60 = true) : Dp K H v (toP e) ∧ SeqAt.shaped (toP e) = true := by
  have fin : ∀ {v : V} {e : D}, Rep K H α M v e → okD e 60 = true → Dp K H v (toP e) ∧ SeqAt.shaped (toP e) = true := fun r hk => by
    obtain ⟨h1, h2, h3⟩ := dp_of r hk
    refine ⟨h1, ?_⟩
    unfold SeqAt.shaped
    rw [h2, Bool.true_and, decide_eq_true_eq]
    omega
  cases r with
  | @loc a n e1 =>
    have h' : (cellAt M n).map .lst = some e := h
    cases q : cellAt M n with
    | none => rw [q] at h'; cases h'
    | some ds =>
      rw [q] at h'
      cases h'
      obtain ⟨_, b, vs, g1, g2, g3⟩ := w.cell n _ (cellAt_some q)
      rw [e1] at g1; cases g1
      unfold okD at hk
      rw [Bool.and_eq_true, decide_eq_true_eq] at hk
      obtain ⟨h1, h2, h3⟩ := dps_of g3 hk.2
      unfold toP
      refine ⟨.lst (.inl (.inl g2)) h1, ?_⟩
      unfold SeqAt.shaped
      rw [Bool.and_eq_true, decide_eq_true_eq]
      exact ⟨by simp only [PyData.canLay0]; exact h2, by simp only [PyData.depth]; omega⟩
  | non => cases h; exact fin .non hk
  | bl b => cases h; exact fin (.bl b) hk
  | int b => cases h; exact fin (.int b) hk
  | str b => cases h; exact fin (.str b) hk
  | tup a b => cases h; exact fin (.tup a b) hk
  | lst a b => cases h; exact fin (.lst a b) hk
  | rol a b => cases h; exact fin (.rol a b) hk
end
section
variable {X : Cx} {E : XK}
theorem eq_core {K : PySem.W.Frag} {H : Hp} {α : Al} {M : Store} {x y : V} {dx dy : D} {Q : VK} {neg : Bool} (w : WOk K H α M) (rx : Rep K H α M x dx) (ry : Rep K H α M y dy) (h : Post K E H α M (dEq0 neg dx dy M) (QE K Q)) :
    ∃ d e, Dp K H x d ∧ Dp K H y e ∧ SeqAt.shaped d = true ∧ SeqAt.shaped e = true ∧ Q (.bl (neg ^^ PyData.eqv d e)) H := by
  unfold dEq0 at h
  cases q1 : der M dx with
  | none => rw [q1] at h; exact h.elim
  | some a =>
    cases q2 : der M dy with
    | none => rw [q1, q2] at h; exact h.elim
    | some b =>
      rw [q1, q2] at h
      obtain ⟨hc, h⟩ := ite_ok h
      rw [Bool.and_eq_true] at hc
      obtain ⟨a1, a2⟩ := der_rep w rx q1 hc.1
      obtain ⟨b1, b2⟩ := der_rep w ry q2 hc.2
      exact ⟨_, _, a1, b1, a2, b2, h.here w _ (.bl _)⟩
theorem str_or {K : PySem.W.Frag} {E : XK} {H : Hp} {α : Al} {M : Store} {x y : V} {dx dy : D} {Q : VK} {neg : Bool} (w : WOk K H α M) (rx : Rep K H α M x dx) (ry : Rep K H α M y dy) (h : Post K E H α M (dEq neg dx dy M) (QE K Q)) :
    Post K E H α M (dEq0 neg dx dy M) (QE K Q) ∨ (scal x y = true ∧ Q (.bl (neg ^^ decide (x = y))) H) := by
  by_cases hs : ∃ a b, dx = .str a ∧ dy = .str b
  · obtain ⟨a, b, rfl, rfl⟩ := hs
    cases rx
    cases ry
    have e : decide (V.str a = V.str b) = decide (a = b) := by
      rw [Bool.eq_iff_iff]
      simp
    exact .inr ⟨rfl, by rw [e]; exact h.here w _ (.bl _)⟩
  · refine .inl ?_
    have e : dEq neg dx dy M = dEq0 neg dx dy M := by
      unfold dEq
      split
      · exact absurd ⟨_, _, rfl, rfl⟩ hs
      · rfl
    rw [e] at h
    exact h
theorem opd_eq (hu : X.A.units + 64 < cLine) : OpD X E (compareOp .Eq) (dEq false) := by
  refine ⟨_, opR_or (op_eqD hu) op_eq, fun H α M x y dx dy Q w rx ry h => ?_⟩
  rcases str_or w rx ry h with h | ⟨h1, h2⟩
  · obtain ⟨d, e, h1, h2, h3, h4, q⟩ := eq_core w rx ry h
    exact .inl ⟨d, e, h1, h2, h3, h4, by rw [Bool.false_xor] at q; exact q⟩
  · exact .inr ⟨h1, by rw [Bool.false_xor] at h2; exact h2⟩
theorem opd_ne (hu : X.A.units + 64 < cLine) : OpD X E (compareOp .NotEq) (dEq true) := by
  refine ⟨_, opR_or (op_neD hu) op_ne, fun H α M x y dx dy Q w rx ry h => ?_⟩
  rcases str_or w rx ry h with h | ⟨h1, h2⟩
  · obtain ⟨d, e, h1, h2, h3, h4, q⟩ := eq_core w rx ry h
    exact .inl ⟨d, e, h1, h2, h3, h4, by rw [Bool.true_xor] at q; exact q⟩
  · exact .inr ⟨h1, by rw [Bool.true_xor] at h2; exact h2⟩
/-! ### is None -/
def isNon : D → Bool
  | .non => true
  | _ => false
def dIs (neg : Bool) : D → D → Store → Res D
  | d, .non, M => .ok (.bl (neg ^^ isNon d)) M
  | _, _, _ => .stuck
theorem isNon_rep {K : PySem.W.Frag} {H : Hp} {α : Al} {M : Store} {x : V} {d : D} (r : Rep K H α M x d) : decide (x = V.non) = isNon d := by
  cases r <;> simp [isNon]
theorem opd_is : OpD X E (compareOp .Is) (dIs false) := by
  refine ⟨_, op_isN, fun H α M x y dx dy Q w rx ry h => ?_⟩
  cases ry with
  | non =>
    have h' : Post X.K E H α M (.ok (.bl (false ^^ isNon dx)) M) (QE X.K Q) := h
    refine ⟨rfl, ?_⟩
    rw [isNon_rep rx]
    rw [Bool.false_xor] at h'
    exact h'.here w _ (.bl _)
  | _ => exact h.elim
theorem opd_isnot : OpD X E (compareOp .IsNot) (dIs true) := by
  refine ⟨_, op_notN, fun H α M x y dx dy Q w rx ry h => ?_⟩
  cases ry with
  | non =>
    have h' : Post X.K E H α M (.ok (.bl (true ^^ isNon dx)) M) (QE X.K Q) := h
    refine ⟨rfl, ?_⟩
    rw [isNon_rep rx]
    rw [Bool.true_xor] at h'
    exact h'.here w _ (.bl _)
  | _ => exact h.elim
/-! ### in, of flat items -/
def flatD : D → Bool
  | .non => true
  | .bl _ => true
  | .int _ => true
  | .str _ => true
  | _ => false
def eqF : D → D → Bool
  | .non, .non => true
  | .bl a, .bl b => a == b
  | .bl a, .int b => (if a then 1 else 0) == b
  | .int a, .bl b => a == (if b then 1 else 0)
  | .int a, .int b => a == b
  | .str a, .str b => a == b
  | _, _ => false
def dIn (neg : Bool) (x y : D) (M : Store) : Res D := match seqOf M y with
  | some ds => if (flatD x && ds.all flatD) = true then .ok (.bl (neg ^^ ds.any fun y => eqF y x)) M else .stuck
  | none => .stuck
theorem flat_rep {K : PySem.W.Frag} {H : Hp} {α : Al} {M : Store} {x : V} {d : D} (r : Rep K H α M x d) (h : flatD d = true) : flatV x = true := by
  cases r <;> first | rfl | cases h
theorem eqF_rep {K : PySem.W.Frag} {H : Hp} {α : Al} {M : Store} {x y : V} {d e : D} (r : Rep K H α M x d) (s : Rep K H α M y e) (h : flatD d = true) (g : flatD e = true) : eqV x y = eqF d e := by
  cases r <;> first | (cases h; done) | (cases s <;> first | rfl | (cases g; done))
theorem flats_rep {K : PySem.W.Frag} {H : Hp} {α : Al} {M : Store} : ∀ {vs : List V} {ds : List D}, Reps K H α M vs ds → ds.all flatD = true → vs.all flatV = true
  | _, _, .nil, _ => rfl
  | _, _, .cons a b, h => by
    rw [List.all_cons, Bool.and_eq_true] at h
    rw [List.all_cons, flat_rep a h.1, flats_rep b h.2]
    rfl
theorem anyF_rep {K : PySem.W.Frag} {H : Hp} {α : Al} {M : Store} {x : V} {d : D} (r : Rep K H α M x d) (hd : flatD d = true) : ∀ {vs : List V} {ds : List D}, Reps K H α M vs ds → ds.all flatD = true → (vs.any fun y => eqV y x) = ds.any fun y => eqF y d
  | _, _, .nil, _ => rfl
  | _, _, .cons a b, h => by
    rw [List.all_cons, Bool.and_eq_true] at h
    rw [List.any_cons, List.any_cons, eqF_rep a r h.1 hd, anyF_rep r hd b h.2]
theorem in_core {K : PySem.W.Frag} {H : Hp} {α : Al} {M : Store} {x y : V} {dx dy : D} {Q : VK} {neg : Bool} (w : WOk K H α M) (rx : Rep K H α M x dx) (ry : Rep K H α M y dy) (h : Post K E H α M (dIn neg dx dy M) (QE K Q)) : rIn K neg x y H Q := by
  unfold dIn at h
  cases q : seqOf M dy with
  | none => rw [q] at h; exact h.elim
  | some ds =>
    rw [q] at h
    obtain ⟨hc, h⟩ := ite_ok h
    rw [Bool.and_eq_true] at hc
    obtain ⟨a, vs, rfl, hq, rs⟩ := seqOf_rep w ry q
    refine ⟨a, vs, rfl, hq, flat_rep rx hc.1, flats_rep rs hc.2, ?_⟩
    have e : inV x vs = ds.any fun y => eqF y dx := anyF_rep rx hc.1 rs hc.2
    have z := h.here w _ (.bl _)
    cases neg with
    | true => rw [e, if_pos rfl]; rw [Bool.true_xor] at z; exact z
    | false => rw [e, if_neg Bool.false_ne_true]; rw [Bool.false_xor] at z; exact z
theorem opd_in : OpD X E (compareOp .In) (dIn false) := ⟨_, op_in_seq, fun _ _ _ _ _ _ _ _ w rx ry h => in_core w rx ry h⟩
theorem opd_notin : OpD X E (compareOp .NotIn) (dIn true) := ⟨_, op_notIn_seq, fun _ _ _ _ _ _ _ _ w rx ry h => in_core w rx ry h⟩
end

/-! ### tests -/
def mTst (a : DE) : DT := fun ρ M => (a ρ M).bind fun d M1 => match d with
  | .bl b => .ok b M1
  | _ => .stuck
def mAndT (a b : DT) : DT := fun ρ M => (a ρ M).bind fun c M1 => if c = true then b ρ M1 else .ok false M1
def mOrT (a b : DT) : DT := fun ρ M => (a ρ M).bind fun c M1 => if c = true then .ok true M1 else b ρ M1
def mNotT (a : DT) : DT := fun ρ M => (a ρ M).bind fun c M1 => .ok (!c) M1
def mIf (c : DT) (a b : DE) : DE := fun ρ M => (c ρ M).bind fun t M1 => if t = true then a ρ M1 else b ρ M1
def mAnd (a b : DE) : DE := fun ρ M => (a ρ M).bind fun d M1 => match d with
  | .bl c => if c = true then b ρ M1 else .ok (.bl false) M1
  | _ => .stuck
def mOr (a b : DE) : DE := fun ρ M => (a ρ M).bind fun d M1 => match d with
  | .bl c => if c = true then .ok (.bl true) M1 else b ρ M1
  | _ => .stuck
def mNot (a : DE) : DE := fun ρ M => (a ρ M).bind fun d M1 => match d with
  | .bl c => .ok (.bl (!c)) M1
  | _ => .stuck
section
variable {X : Cx} {E : XK} {a b c : Expr} {rest : List Expr} {ma mb : DE} {ta tb : DT} {pos : Pos}
theorem rd_tst {K : PySem.W.Frag} {t : TE} (h : RdE K E t ma) : RdT K E (tB t) (mTst ma) := by
  intro σ H ρ α M Q w s q
  refine h σ H ρ α M _ w s (Post.imp (Post.bind q) fun d H1 α1 M1 l1 w1 h1 v rv => ?_)
  cases rv with
  | bl b => exact ⟨b, rfl, Post.here (E := E) w1 h1⟩
  | _ => exact h1.elim
theorem pdt_val (h : PD X E a ma) (he : ∀ whole, isTrue a X.env whole = (do let v ← whole; standAt a.pos; holding [v] (truthy v)) := by intro _; rfl) : PDT X E a (mTst ma) := by
  obtain ⟨t, h1, r1⟩ := h.ex
  exact ⟨_, pt_val h1 he, rd_tst r1⟩
theorem pdt_cmp {op : CmpOp} {f : D → D → Store → Res D} (ho : OpD X E (compareOp op) f) (ha : PD X E a ma) (hb : PD X E b mb) (hm : behindInMarks op b = false := by first | exact nomark _ | rfl) : PDT X E (.Compare a [op] [b] pos) (mTst (mOp f ma mb)) := by
  obtain ⟨r, h1, r1⟩ := ho.ex
  obtain ⟨ta, h2, r2⟩ := ha.ex
  obtain ⟨tb, h3, r3⟩ := hb.ex
  exact ⟨_, pt_cmpR h1 h2 h3 hm, rd_tst (rd_op r1 r2 r3)⟩
theorem pdt_w (h : PDW X E a ta) : PDT X E a ta := by
  obtain ⟨t, h1, r1⟩ := h.ex
  exact ⟨_, h1.pt, r1⟩
theorem pdw_and1 (h : PDT X E a ta) : PDW X E (.BoolOp .And [a] pos) ta := by
  obtain ⟨t, h1, r1⟩ := h.ex
  exact ⟨_, pw_and1 h1, r1⟩
theorem pdw_or1 (h : PDT X E a ta) : PDW X E (.BoolOp .Or [a] pos) ta := by
  obtain ⟨t, h1, r1⟩ := h.ex
  exact ⟨_, pw_or1 h1, r1⟩
theorem pdw_and (h : PDT X E a ta) (g : PDW X E (.BoolOp .And (b :: rest) pos) tb) : PDW X E (.BoolOp .And (a :: b :: rest) pos) (mAndT ta tb) := by
  obtain ⟨t, h1, r1⟩ := h.ex
  obtain ⟨u, h2, r2⟩ := g.ex
  refine ⟨_, pw_and h1 h2, fun σ H ρ α M Q w s q => ?_⟩
  refine r1 σ H ρ α M _ w s (Post.imp (Post.bind q) fun d H1 α1 M1 l1 w1 h1 => ?_)
  cases d with
  | true => exact (r2 σ H1 ρ α1 M1 Q w1 (s.mono l1) h1)
  | false => exact (Post.here (E := E) (b := false) w1 h1)
theorem pdw_or (h : PDT X E a ta) (g : PDW X E (.BoolOp .Or (b :: rest) pos) tb) : PDW X E (.BoolOp .Or (a :: b :: rest) pos) (mOrT ta tb) := by
  obtain ⟨t, h1, r1⟩ := h.ex
  obtain ⟨u, h2, r2⟩ := g.ex
  refine ⟨_, pw_or h1 h2, fun σ H ρ α M Q w s q => ?_⟩
  refine r1 σ H ρ α M _ w s (Post.imp (Post.bind q) fun d H1 α1 M1 l1 w1 h1 => ?_)
  cases d with
  | true => exact (Post.here (E := E) (b := true) w1 h1)
  | false => exact (r2 σ H1 ρ α1 M1 Q w1 (s.mono l1) h1)
theorem pdt_not (h : PDT X E a ta) : PDT X E (.UnaryOp .Not a pos) (mNotT ta) := by
  obtain ⟨t, h1, r1⟩ := h.ex
  refine ⟨_, pt_not h1, fun σ H ρ α M Q w s q => ?_⟩
  exact r1 σ H ρ α M _ w s (Post.imp (Post.bind q) fun d H1 α1 M1 l1 w1 h1 => Post.here (E := E) w1 h1)
theorem pd_if (hc : PDT X E c ta) (ha : PD X E a ma) (hb : PD X E b mb) : PD X E (.IfExp c a b pos) (mIf ta ma mb) := by
  obtain ⟨t, h1, r1⟩ := hc.ex
  obtain ⟨u, h2, r2⟩ := ha.ex
  obtain ⟨x, h3, r3⟩ := hb.ex
  refine ⟨_, pe_ifExp h1 h2 h3, fun σ H ρ α M Q w s q => ?_⟩
  refine r1 σ H ρ α M _ w s (Post.imp (Post.bind q) fun d H1 α1 M1 l1 w1 h1 => ?_)
  cases d with
  | true => exact (r2 σ H1 ρ α1 M1 Q w1 (s.mono l1) h1)
  | false => exact (r3 σ H1 ρ α1 M1 Q w1 (s.mono l1) h1)
theorem pd_one {op : BoolOp} (h : PD X E a ma) : PD X E (.BoolOp op [a] pos) ma := by
  obtain ⟨t, h1, r1⟩ := h.ex
  exact ⟨_, pe_one h1, r1⟩
theorem pd_and (h : PD X E a ma) (g : PD X E (.BoolOp .And (b :: rest) pos) mb) : PD X E (.BoolOp .And (a :: b :: rest) pos) (mAnd ma mb) := by
  obtain ⟨t, h1, r1⟩ := h.ex
  obtain ⟨u, h2, r2⟩ := g.ex
  refine ⟨_, pe_and h1 h2, fun σ H ρ α M Q w s q => ?_⟩
  refine r1 σ H ρ α M _ w s (Post.imp (Post.bind q) fun d H1 α1 M1 l1 w1 h1 v rv => ?_)
  cases rv with
  | bl c =>
    refine ⟨c, rfl, ?_⟩
    cases c with
    | true => exact (r2 σ H1 ρ α1 M1 Q w1 (s.mono l1) h1)
    | false => exact (Post.here (E := E) (b := D.bl false) w1 h1 _ (.bl _))
  | _ => exact h1.elim
theorem pd_or (h : PD X E a ma) (g : PD X E (.BoolOp .Or (b :: rest) pos) mb) : PD X E (.BoolOp .Or (a :: b :: rest) pos) (mOr ma mb) := by
  obtain ⟨t, h1, r1⟩ := h.ex
  obtain ⟨u, h2, r2⟩ := g.ex
  refine ⟨_, pe_or h1 h2, fun σ H ρ α M Q w s q => ?_⟩
  refine r1 σ H ρ α M _ w s (Post.imp (Post.bind q) fun d H1 α1 M1 l1 w1 h1 v rv => ?_)
  cases rv with
  | bl c =>
    refine ⟨c, rfl, ?_⟩
    cases c with
    | true => exact (Post.here (E := E) (b := D.bl true) w1 h1 _ (.bl _))
    | false => exact (r2 σ H1 ρ α1 M1 Q w1 (s.mono l1) h1)
  | _ => exact h1.elim
theorem pd_not (h : PD X E a ma) : PD X E (.UnaryOp .Not a pos) (mNot ma) := by
  obtain ⟨t, h1, r1⟩ := h.ex
  refine ⟨_, pe_not h1, fun σ H ρ α M Q w s q => ?_⟩
  refine r1 σ H ρ α M _ w s (Post.imp (Post.bind q) fun d H1 α1 M1 l1 w1 h1 v rv => ?_)
  cases rv with
  | bl c => exact ⟨c, rfl, h1.here w1 _ (.bl _)⟩
  | _ => exact h1.elim
/-- a op b op' c -/
def mChain (f g : D → D → Store → Res D) (a b c : DE) : DE := fun ρ M => (a ρ M).bind fun x M1 => (b ρ M1).bind fun y M2 => (f x y M2).bind fun d M3 => match d with
  | .bl k => if k = true then (c ρ M3).bind fun z M4 => g y z M4 else .ok (.bl false) M3
  | _ => .stuck
theorem rd_chain {K : PySem.W.Frag} {r r' : R2} {t1 t2 t3 : TE} {mc : DE} {f g : D → D → Store → Res D} (hr : OpS K E r f) (hr' : OpS K E r' g) (ha : RdE K E t1 ma) (hb : RdE K E t2 mb) (hc : RdE K E t3 mc) : RdE K E (tChain r r' t1 t2 t3) (mChain f g ma mb mc) := by
  intro σ H ρ α M Q w s h
  refine ha σ H ρ α M _ w s (Post.imp (Post.bind h) fun d H1 α1 M1 l1 w1 h1 v rv => ?_)
  refine hb σ H1 ρ α1 M1 _ w1 (s.mono l1) (Post.imp (Post.bind h1) fun e H2 α2 M2 l2 w2 h2 u ru => ?_)
  refine hr H2 α2 M2 v u d e _ w2 (rv.mono l2) ru (Post.imp (Post.bind h2) fun k H3 α3 M3 l3 w3 h3 x rx => ?_)
  cases rx with
  | bl k =>
    refine ⟨k, rfl, ?_⟩
    cases k with
    | true =>
      refine (hc σ H3 ρ α3 M3 _ w3 (((s.mono l1).mono l2).mono l3) (Post.imp (Post.bind h3) fun z H4 α4 M4 l4 w4 h4 y ry => ?_))
      exact hr' H4 α4 M4 u y e z Q w4 ((ru.mono l3).mono l4) ry h4
    | false => exact (Post.here (E := E) (b := D.bl false) w3 h3 _ (.bl _))
  | _ => exact h3.elim
theorem pd_chain {op op' : CmpOp} {f g : D → D → Store → Res D} {mc : DE} (ho : OpD X E (compareOp op) f) (ho' : OpD X E (compareOp op') g) (ha : PD X E a ma) (hb : PD X E b mb) (hc : PD X E c mc)
    (hm : lastMarks [op, op'] [b, c] = false := by with_unfolding_all rfl) : PD X E (.Compare a [op, op'] [b, c] pos) (mChain f g ma mb mc) := by
  obtain ⟨r, h1, r1⟩ := ho.ex
  obtain ⟨r', h1', r1'⟩ := ho'.ex
  obtain ⟨t1, h2, r2⟩ := ha.ex
  obtain ⟨t2, h3, r3⟩ := hb.ex
  obtain ⟨t3, h4, r4⟩ := hc.ex
  exact ⟨_, pe_chain h1 h1' h2 h3 h4 hm, rd_chain r1 r1' r2 r3 r4⟩
theorem pdt_chain {op op' : CmpOp} {f g : D → D → Store → Res D} {mc : DE} (ho : OpD X E (compareOp op) f) (ho' : OpD X E (compareOp op') g) (ha : PD X E a ma) (hb : PD X E b mb) (hc : PD X E c mc)
    (hm : lastMarks [op, op'] [b, c] = false := by with_unfolding_all rfl) : PDT X E (.Compare a [op, op'] [b, c] pos) (mTst (mChain f g ma mb mc)) := by
  obtain ⟨r, h1, r1⟩ := ho.ex
  obtain ⟨r', h1', r1'⟩ := ho'.ex
  obtain ⟨t1, h2, r2⟩ := ha.ex
  obtain ⟨t2, h3, r3⟩ := hb.ex
  obtain ⟨t3, h4, r4⟩ := hc.ex
  exact ⟨_, pt_chain h1 h1' h2 h3 h4 hm, rd_tst (rd_chain r1 r1' r2 r3 r4)⟩
end

/-! ### items, slices -/
def dIx : D → D → Store → Res D
  | d, .int i, M => (match seqOf M d with
    | some xs => (match atI xs i with
      | some x => .ok x M
      | none => .stuck)
    | none => .stuck)
  | _, _, _ => .stuck
def cutD (xs : List D) (lo hi : Option Int) : List D := (xs.drop (HT.sIx xs.length 0 lo)).take (HT.sIx xs.length xs.length hi - HT.sIx xs.length 0 lo)
def dSl (mk : List D → Store → Res D) (lo hi : Option Int) : D → Store → Res D
  | .tup xs, M => newTup (cutD xs lo hi) M
  | d, M => (match seqOf M d with
    | some xs => mk (cutD xs lo hi) M
    | none => .stuck)
abbrev DO := Sl → Store → Res (Option Int)
def mNoP : DO := fun _ M => .ok none M
def mPart (a : DE) : DO := fun ρ M => (a ρ M).bind fun d M1 => match d with
  | .int i => .ok (some i) M1
  | _ => .stuck
def mSl (mk : List D → Store → Res D) (a : DE) (lo hi : DO) : DE := fun ρ M => (a ρ M).bind fun d M1 => (lo ρ M1).bind fun l M2 => (hi ρ M2).bind fun h M3 => dSl mk l h d M3
def RdO (K : PySem.W.Frag) (E : XK) (t : TO) (m : DO) : Prop := ∀ σ H ρ α M Q, WOk K H α M → SlOk K H α M σ ρ → Post K E H α M (m ρ M) (fun o H _ _ => Q o H) → t σ H Q
structure PDO (X : Cx) (E : XK) (e : Option Expr) (m : DO) : Prop where
  ex : ∃ t, PO X e t ∧ RdO X.K E t m
section
variable {X : Cx} {E : XK} {a b e : Expr} {ma mb : DE} {lo hi : Option Expr} {ml mh : DO} {pos p2 : Pos} {mk : List D → Store → Res D}
theorem atI_rep {K : PySem.W.Frag} {H : Hp} {α : Al} {M : Store} {vs : List V} {ds : List D} {i : Int} {d : D} (r : Reps K H α M vs ds) (h : atI ds i = some d) : ∃ v, atI vs i = some v ∧ Rep K H α M v d := by
  unfold atI at h ⊢
  rw [r.length]
  cases q : ixN ds.length i with
  | none => rw [q] at h; cases h
  | some j =>
    rw [q] at h
    exact r.get h
theorem pd_ix (ha : PD X E a ma) (hb : PD X E b mb) (hs : PlainIx b) : PD X E (.Subscript a b pos) (mOp dIx ma mb) := by
  obtain ⟨ta, h2, r2⟩ := ha.ex
  obtain ⟨tb, h3, r3⟩ := hb.ex
  refine ⟨_, pe_ix ix_seq h2 h3 hs, rd_op (fun H α M x y dx dy Q w rx ry h => ?_) r2 r3⟩
  cases ry with
  | int i =>
    have h' : Post X.K E H α M (match seqOf M dx with
      | some xs => (match atI xs i with
        | some x => .ok x M
        | none => .stuck)
      | none => .stuck) (QE X.K Q) := h
    cases q : seqOf M dx with
    | none => rw [q] at h'; exact h'.elim
    | some ds =>
      rw [q] at h'
      cases q2 : atI ds i with
      | none => simp only [q2] at h'; exact h'.elim
      | some z =>
        simp only [q2] at h'
        obtain ⟨p, vs, rfl, hq, rs⟩ := seqOf_rep w rx q
        obtain ⟨v, e1, rv⟩ := atI_rep rs q2
        rcases hq with hq | hq
        · exact .inl ⟨p, vs, i, v, rfl, rfl, hq, e1, h'.here w v rv⟩
        · exact .inr (.inl ⟨p, vs, i, v, rfl, rfl, hq, e1, h'.here w v rv⟩)
  | _ => cases rx <;> exact h.elim
theorem pdo_none : PDO X E none mNoP := ⟨_, po_none, fun _ _ _ _ _ _ w _ h => Post.here (E := E) w h⟩
theorem pdo_some (h : PD X E e ma) : PDO X E (some e) (mPart ma) := by
  obtain ⟨t, h1, r1⟩ := h.ex
  refine ⟨_, po_some h1, fun σ H ρ α M Q w s q => ?_⟩
  refine r1 σ H ρ α M _ w s (Post.imp (Post.bind q) fun d H1 α1 M1 l1 w1 h1 v rv => ?_)
  cases rv with
  | int i => exact ⟨i, rfl, Post.here (E := E) w1 h1⟩
  | _ => exact h1.elim
theorem cut_rep {K : PySem.W.Frag} {H : Hp} {α : Al} {M : Store} {vs : List V} {ds : List D} {lo hi : Option Int} (r : Reps K H α M vs ds) : Reps K H α M (cutV vs lo hi) (cutD ds lo hi) := by
  unfold cutV cutD
  rw [r.length]
  exact (r.drop _).take _
theorem pd_sl (hm : Mk mk) (ha : PD X E a ma) (hl : PDO X E lo ml) (hh : PDO X E hi mh) : PD X E (.Subscript a (.Slice lo hi none p2) pos) (mSl mk ma ml mh) := by
  obtain ⟨t, h1, r1⟩ := ha.ex
  obtain ⟨tl, h2, r2⟩ := hl.ex
  obtain ⟨th, h3, r3⟩ := hh.ex
  refine ⟨_, pe_slice (SlR.or sl_list sl_tupA) h1 h2 h3, fun σ H ρ α M Q w s q => ?_⟩
  refine r1 σ H ρ α M _ w s (Post.imp (Post.bind q) fun d H1 α1 M1 l1 w1 q1 v rv => ?_)
  refine r2 σ H1 ρ α1 M1 _ w1 (s.mono l1) (Post.imp (Post.bind q1) fun l H2 α2 M2 l2 w2 q2 => ?_)
  refine r3 σ H2 ρ α2 M2 _ w2 ((s.mono l1).mono l2) (Post.imp (Post.bind q2) fun u H3 α3 M3 l3 w3 q3 => ?_)
  have rv3 := (rv.mono l2).mono l3
  have lists : ∀ (h : Post X.K E H3 α3 M3 (match seqOf M3 d with
    | some xs => mk (cutD xs l u) M3
    | none => .stuck) (QE X.K Q)) (hnt : ∀ p xs, v = .ref p → SqT X.K H3 p xs → False), rSlL X.K v l u H3 Q := fun h hnt => by
    cases q : seqOf M3 d with
    | none => rw [q] at h; exact h.elim
    | some xs =>
      rw [q] at h
      obtain ⟨p, vs, rfl, hq, rs⟩ := seqOf_rep w3 rv3 q
      rcases hq with hq | hq
      · obtain ⟨_, q⟩ := hm _ _ _ _ _ _ _ _ w3 (cut_rep (lo := l) (hi := u) rs) h
        exact ⟨p, vs, rfl, hq, q⟩
      · exact (hnt p vs rfl hq).elim
  cases rv3 with
  | @tup p xs ds hl rs =>
    have h' : Post X.K E H3 α3 M3 (newTup (cutD ds l u) M3) (QE X.K Q) := q3
    obtain ⟨hz, qq⟩ := newTup_post w3 (cut_rep (lo := l) (hi := u) rs) h'
    refine .inr ⟨p, xs, rfl, hl.sq, fun hw => ?_, fun _ => qq⟩
    have e : cutD ds l u = ds := by
      unfold cutD
      rw [← rs.length, hw.1, hw.2, rs.length, List.drop_zero, Nat.sub_zero, List.take_length]
    rw [(cut_rep (lo := l) (hi := u) rs).length, sizeLine_eq] at hz
    unfold newTup at h'
    rw [if_pos hz, e] at h'
    exact h'.here w3 _ (.tup hl rs)
  | @lst p xs ds hl rs =>
    have h' : Post X.K E H3 α3 M3 (mk (cutD ds l u) M3) (QE X.K Q) := q3
    obtain ⟨_, q⟩ := hm _ _ _ _ _ _ _ _ w3 (cut_rep (lo := l) (hi := u) rs) h'
    exact .inl ⟨p, xs, rfl, hl.sq, q⟩
  | @rol p xs ds hl rs =>
    have h' : Post X.K E H3 α3 M3 (mk (cutD ds l u) M3) (QE X.K Q) := q3
    obtain ⟨_, q⟩ := hm _ _ _ _ _ _ _ _ w3 (cut_rep (lo := l) (hi := u) rs) h'
    exact .inl ⟨p, xs, rfl, hl.sq, q⟩
  | @loc p n e1 =>
    have h' : Post X.K E H3 α3 M3 (match cellAt M3 n with
      | some xs => mk (cutD xs l u) M3
      | none => .stuck) (QE X.K Q) := q3
    cases q : cellAt M3 n with
    | none => rw [q] at h'; exact h'.elim
    | some ds =>
      rw [q] at h'
      obtain ⟨_, b, vs, g1, g2, g3⟩ := w3.cell n _ (cellAt_some q)
      rw [e1] at g1; cases g1
      obtain ⟨_, q⟩ := hm _ _ _ _ _ _ _ _ w3 (cut_rep (lo := l) (hi := u) g3) h'
      exact .inl ⟨p, vs, rfl, .inl (.inl g2), q⟩
  | _ => exact q3.elim
end
end DL

set_option Elab.async false
set_option linter.all false
set_option maxRecDepth 100000
set_option maxHeartbeats 4000000
namespace DL
open PySem PySem.Spec PyProof.Rows L2

/-- what the program's text and the head give, alike in all its defs -/
structure GG where
  P : Program
  w : World
  K : PySem.W.Frag
  mg : Str → Option Value
  base : Heap
def gg (X : Cx) : GG := ⟨X.prog, X.w, X.K, X.mg, X.base⟩
/-- where a def's body stands -/
structure Ctx (X : Cx) (E : XK) (Γ : GG) (N : List Str) (k : Nat) : Prop where
  g : gg X = Γ
  hN : X.N = N
  nd : N.Nodup
  calm : X.calm = true
  room : Room k X.A
  grd : X.A.guards = some []
  own : PassesOwn (model X.prog X.w) X.A X.env X.xe
  tk : Takes X (fun c d _ H => E c d H)
theorem Ctx.pass {X : Cx} {E : XK} {Γ : GG} {N : List Str} {k : Nat} (C : Ctx X E Γ N k) : Passes (L2.CX X.prog X.w) X E := passes_call C.tk fun _ _ _ _ h => h
theorem Ctx.eqU {X : Cx} {E : XK} {Γ : GG} {N : List Str} {k : Nat} (C : Ctx X E Γ N k) : X.A.units + 64 < cLine := C.room.units

/-! ### calls of built-ins -/
def CallS (K : PySem.W.Frag) (E : XK) (r : List V → Hp → VK → Prop) (f : DF) : Prop := ∀ H α M xs ds Q, WOk K H α M → Reps K H α M xs ds → Post K E H α M (f ds M) (QE K Q) → r xs H Q
structure CallD (X : Cx) (E : XK) (v : Value) (f : DF) : Prop where
  ex : ∃ r, CallR X v r ∧ CallS X.K E r f
def mCall (f : DF) (a : DA) : DE := fun ρ M => (a ρ M).bind f
section
variable {X : Cx} {E : XK} {x : Str} {p pos : Pos} {e : Expr} {es : List Expr} {a : DA} {f : DF} {id T : String}
theorem rd_call {K : PySem.W.Frag} {r : List V → Hp → VK → Prop} {t : TA} (hr : CallS K E r f) (ha : RdA K E t a) : RdE K E (tCB r t) (mCall f a) := by
  intro σ H ρ α M Q w s h
  exact ha σ H ρ α M _ w s (Post.imp (Post.bind h) fun ds H1 α1 M1 l1 w1 h1 vs rv => hr H1 α1 M1 vs ds Q w1 rv h1)
theorem pd_callB (hc : CallD X E (.builtin id) f) (hg : Gl X x) (hm : X.mg x = none) (hv : bootBuiltins x = some (.builtin id)) (ha : PDA X E (e :: es) a) (hn : x ≠ "__name__" := by decide) (hdb : (x == ("__debug__" : Str)) = false := by decide)
    (he : starEach (e :: es) X.env = (false, eval e X.env) :: starEach es X.env := by rfl) (hpl : (backTo pos (starEach es X.env)).any (·.1) = false := by rfl) : PD X E (.Call (.Name x p) (e :: es) [] pos) (mCall f a) := by
  obtain ⟨r, h1, r1⟩ := hc.ex
  obtain ⟨t, h2, r2⟩ := ha.ex
  exact ⟨_, pe_callB h1 hg hm hv h2 hn hdb he hpl, rd_call r1 r2⟩
theorem pd_callTy (hc : CallD X E (.type T) f) (hg : Gl X x) (hm : X.mg x = none) (hv : bootBuiltins x = some (.type T)) (ha : PDA X E (e :: es) a) (hn : x ≠ "__name__" := by decide) (hdb : (x == ("__debug__" : Str)) = false := by decide)
    (he : starEach (e :: es) X.env = (false, eval e X.env) :: starEach es X.env := by rfl) (hpl : (backTo pos (starEach es X.env)).any (·.1) = false := by rfl) : PD X E (.Call (.Name x p) (e :: es) [] pos) (mCall f a) := by
  obtain ⟨r, h1, r1⟩ := hc.ex
  obtain ⟨t, h2, r2⟩ := ha.ex
  exact ⟨_, pe_callTy h1 hg hm hv h2 hn hdb he hpl, rd_call r1 r2⟩
theorem pd_callM (hc : CallD X E (.builtin id) f) (hg : Gl X x) (hm : X.mg x = some (.builtin id)) (ha : PDA X E (e :: es) a) (hdb : (x == ("__debug__" : Str)) = false := by decide)
    (he : starEach (e :: es) X.env = (false, eval e X.env) :: starEach es X.env := by rfl) (hpl : (backTo pos (starEach es X.env)).any (·.1) = false := by rfl) : PD X E (.Call (.Name x p) (e :: es) [] pos) (mCall f a) := by
  obtain ⟨r, h1, r1⟩ := hc.ex
  obtain ⟨t, h2, r2⟩ := ha.ex
  exact ⟨_, pe_callBfun h1 hg hm h2 hdb he hpl, rd_call r1 r2⟩
end

def cLen : DF
  | [.str y], M => if y.length ≤ 16777216 then .ok (.int y.length) M else .stuck
  | [d], M => (match seqOf M d with
    | some xs => .ok (.int xs.length) M
    | none => .stuck)
  | _, _ => .stuck
def cAbs : DF
  | [.int i], M => .ok (.int (if i < 0 then -i else i)) M
  | _, _ => .stuck
def cInt : DF
  | [.int i], M => .ok (.int i) M
  | _, _ => .stuck
def cMax : DF
  | [.int i, .int j], M => .ok (.int (if j > i then j else i)) M
  | _, _ => .stuck
def cMin : DF
  | [.int i, .int j], M => .ok (.int (if j < i then j else i)) M
  | _, _ => .stuck
def intsOf : List D → Option (List Int)
  | [] => some []
  | .int i :: r => (intsOf r).map (i :: ·)
  | _ :: _ => none
def boolsOf : List D → Option (List Bool)
  | [] => some []
  | .bl i :: r => (boolsOf r).map (i :: ·)
  | _ :: _ => none
def cSum : DF
  | [d], M => (match lstOf M d with
    | some xs => (match intsOf xs with
      | some ns => .ok (.int ns.sum) M
      | none => .stuck)
    | none => .stuck)
  | _, _ => .stuck
def cAll : DF
  | [d], M => (match lstOf M d with
    | some xs => (match boolsOf xs with
      | some bs => .ok (.bl (bs.all id)) M
      | none => .stuck)
    | none => .stuck)
  | _, _ => .stuck
def cTuple : DF
  | [.tup xs], M => .ok (.tup xs) M
  | [d], M => (match seqOf M d with
    | some xs => newTup xs M
    | none => .stuck)
  | _, _ => .stuck
def cList (mk : List D → Store → Res D) : DF
  | [d], M => (match seqOf M d with
    | some xs => mk xs M
    | none => .stuck)
  | _, _ => .stuck
def cGcd : DF
  | [.int i, .int j], M => .ok (.int ((Nat.gcd i.natAbs j.natAbs : Nat) : Int)) M
  | _, _ => .stuck
def cLcm : DF
  | [.int i, .int j], M => if i.natAbs.log2 < 13000 ∧ j.natAbs.log2 < 13000 then .ok (.int ((((Nat.lcm 1 i.natAbs).lcm j.natAbs : Nat) : Int))) M else .stuck
  | _, _ => .stuck
def reprD (e : D) (M : Store) : Res D := if (okD e 60 && PyData.showable (toP e)) = true ∧ (toP e).shown.length ≤ 16777216 then .ok (.str (toP e).shown) M else .stuck
def cRepr : DF
  | [.int i], M => if i.natAbs.log2 < 1920 then .ok (.str (toString i)) M else .stuck
  | [.tup xs], M => reprD (.tup xs) M
  | [.lst xs], M => reprD (.lst xs) M
  | [.rol xs], M => reprD (.rol xs) M
  | [.loc n], M => (match cellAt M n with
    | some ds => reprD (.lst ds) M
    | none => .stuck)
  | _, _ => .stuck
theorem ints_rep {K : PySem.W.Frag} {H : Hp} {α : Al} {M : Store} : ∀ {vs : List V} {ds : List D} {ns : List Int}, Reps K H α M vs ds → intsOf ds = some ns → vs = ns.map V.int
  | _, _, _, .nil, h => by cases h; rfl
  | _, _, _, .cons (d := d) (ds := ds) a b, h => by
    cases a with
    | int i =>
      have h' : (intsOf ds).map (i :: ·) = some _ := h
      cases q : intsOf ds with
      | none => rw [q] at h'; cases h'
      | some ms => rw [q] at h'; cases h'; rw [List.map_cons, ← ints_rep b q]
    | _ => cases h
theorem bools_rep {K : PySem.W.Frag} {H : Hp} {α : Al} {M : Store} : ∀ {vs : List V} {ds : List D} {ns : List Bool}, Reps K H α M vs ds → boolsOf ds = some ns → vs = ns.map V.bl
  | _, _, _, .nil, h => by cases h; rfl
  | _, _, _, .cons (d := d) (ds := ds) a b, h => by
    cases a with
    | bl i =>
      have h' : (boolsOf ds).map (i :: ·) = some _ := h
      cases q : boolsOf ds with
      | none => rw [q] at h'; cases h'
      | some ms => rw [q] at h'; cases h'; rw [List.map_cons, ← bools_rep b q]
    | _ => cases h
section
variable {X : Cx} {E : XK} {mk : List D → Store → Res D}
/-- one argument -/
theorem reps1 {K : PySem.W.Frag} {H : Hp} {α : Al} {M : Store} {vs : List V} {d : D} (r : Reps K H α M vs [d]) : ∃ v, vs = [v] ∧ Rep K H α M v d := by
  cases r with
  | cons a b => cases b; exact ⟨_, rfl, a⟩
theorem reps2 {K : PySem.W.Frag} {H : Hp} {α : Al} {M : Store} {vs : List V} {d e : D} (r : Reps K H α M vs [d, e]) : ∃ v u, vs = [v, u] ∧ Rep K H α M v d ∧ Rep K H α M u e := by
  cases r with
  | cons a b => cases b with
    | cons a' b' => cases b'; exact ⟨_, _, rfl, a, a'⟩
theorem call_one {v : Value} {r : List V → Hp → VK → Prop} {f : DF} (hr : CallR X v r) (h0 : ∀ M, f [] M = .stuck) (h2 : ∀ d e r M, f (d :: e :: r) M = .stuck)
    (h1 : ∀ H α M x d Q, WOk X.K H α M → Rep X.K H α M x d → Post X.K E H α M (f [d] M) (QE X.K Q) → r [x] H Q) : CallD X E v f := by
  refine ⟨r, hr, fun H α M xs ds Q w rs h => ?_⟩
  match ds, rs, h with
  | [], _, h => rw [h0] at h; exact h.elim
  | [d], rs, h =>
    obtain ⟨x, rfl, rx⟩ := reps1 rs
    exact h1 H α M x d Q w rx h
  | d :: e :: r, _, h => rw [h2] at h; exact h.elim
theorem cd_len : CallD X E (.builtin "len") cLen := by
  refine call_one call_len (fun _ => rfl) (fun d e r M => by cases d <;> rfl) fun H α M x d Q w rx h => ?_
  have seq : ∀ (h : Post X.K E H α M (match seqOf M d with
    | some xs => .ok (.int xs.length) M
    | none => .stuck) (QE X.K Q)), ∃ x' n, [x] = [x'] ∧ LenV X.K x' H n ∧ Q (.int n) H := fun h => by
    cases q : seqOf M d with
    | none => rw [q] at h; exact h.elim
    | some ds =>
      rw [q] at h
      obtain ⟨a, vs, rfl, hq, rs⟩ := seqOf_rep w rx q
      refine ⟨.ref a, vs.length, rfl, ?_, ?_⟩
      · rcases hq with hq | hq
        · exact .inl ⟨vs, hq, rfl⟩
        · exact .inr ⟨vs, hq, rfl⟩
      · rw [rs.length]; exact h.here w _ (.int _)
  cases rx with
  | str y =>
    have h' : Post X.K E H α M (if y.length ≤ 16777216 then .ok (.int y.length) M else .stuck) (QE X.K Q) := h
    obtain ⟨hc, h'⟩ := ite_ok h'
    exact ⟨_, _, rfl, ⟨by rw [sizeLine_eq]; exact hc, rfl⟩, h'.here w _ (.int _)⟩
  | _ => exact seq h
theorem cd_abs : CallD X E (.builtin "abs") cAbs := by
  refine call_one call_abs (fun _ => rfl) (fun d e r M => by cases d <;> rfl) fun H α M x d Q w rx h => ?_
  cases rx with
  | int i => exact ⟨i, rfl, h.here w _ (.int _)⟩
  | _ => exact h.elim
theorem cd_int : CallD X E (.type "int") cInt := by
  refine call_one call_int1 (fun _ => rfl) (fun d e r M => by cases d <;> rfl) fun H α M x d Q w rx h => ?_
  cases rx with
  | int i => exact .inl ⟨i, rfl, h.here w _ (.int _)⟩
  | _ => exact h.elim
theorem call_two {v : Value} {r : List V → Hp → VK → Prop} {f : DF} (hr : CallR X v r) (h0 : ∀ M, f [] M = .stuck) (h1 : ∀ d M, f [d] M = .stuck) (h3 : ∀ d e c r M, f (d :: e :: c :: r) M = .stuck)
    (h2 : ∀ H α M x y d e Q, WOk X.K H α M → Rep X.K H α M x d → Rep X.K H α M y e → Post X.K E H α M (f [d, e] M) (QE X.K Q) → r [x, y] H Q) : CallD X E v f := by
  refine ⟨r, hr, fun H α M xs ds Q w rs h => ?_⟩
  match ds, rs, h with
  | [], _, h => rw [h0] at h; exact h.elim
  | [d], _, h => rw [h1] at h; exact h.elim
  | [d, e], rs, h =>
    obtain ⟨x, y, rfl, rx, ry⟩ := reps2 rs
    exact h2 H α M x y d e Q w rx ry h
  | d :: e :: c :: r, _, h => rw [h3] at h; exact h.elim
theorem cd_max (hc : X.calm = true) : CallD X E (.builtin "max") cMax := by
  refine call_two (call_max2 hc) (fun _ => rfl) (fun d M => by cases d <;> rfl) (fun d e c r M => by cases d <;> cases e <;> rfl) fun H α M x y d e Q w rx ry h => ?_
  cases rx with
  | int i => cases ry with
    | int j => exact ⟨i, j, rfl, h.here w _ (.int _)⟩
    | _ => exact h.elim
  | _ => cases ry <;> exact h.elim
theorem cd_min (hc : X.calm = true) : CallD X E (.builtin "min") cMin := by
  refine call_two (call_min2 hc) (fun _ => rfl) (fun d M => by cases d <;> rfl) (fun d e c r M => by cases d <;> cases e <;> rfl) fun H α M x y d e Q w rx ry h => ?_
  cases rx with
  | int i => cases ry with
    | int j => exact ⟨i, j, rfl, h.here w _ (.int _)⟩
    | _ => exact h.elim
  | _ => cases ry <;> exact h.elim
theorem cd_gcd : CallD X E (.builtin "math.gcd") cGcd := by
  refine call_two cr_gcd (fun _ => rfl) (fun d M => by cases d <;> rfl) (fun d e c r M => by cases d <;> cases e <;> rfl) fun H α M x y d e Q w rx ry h => ?_
  cases rx with
  | int i => cases ry with
    | int j => exact ⟨i, j, rfl, h.here w _ (.int _)⟩
    | _ => exact h.elim
  | _ => cases ry <;> exact h.elim
theorem cd_sum (hc : X.calm = true) : CallD X E (.builtin "sum") cSum := by
  refine call_one (cr_sum hc) (fun _ => rfl) (fun d e r M => by cases d <;> rfl) fun H α M x d Q w rx h => ?_
  have h' : Post X.K E H α M (match lstOf M d with
    | some xs => (match intsOf xs with
      | some ns => .ok (.int ns.sum) M
      | none => .stuck)
    | none => .stuck) (QE X.K Q) := h
  cases q : lstOf M d with
  | none => rw [q] at h'; exact h'.elim
  | some xs =>
    rw [q] at h'
    cases q2 : intsOf xs with
    | none => simp only [q2] at h'; exact h'.elim
    | some ns =>
      simp only [q2] at h'
      obtain ⟨a, vs, rfl, ha, rs⟩ := lstOf_rep w rx q
      have e := ints_rep rs q2
      subst e
      exact ⟨a, ns, rfl, .inl (.inl ha), h'.here w _ (.int _)⟩
theorem cd_all (hc : X.calm = true) : CallD X E (.builtin "all") cAll := by
  refine call_one (cr_all hc) (fun _ => rfl) (fun d e r M => by cases d <;> rfl) fun H α M x d Q w rx h => ?_
  have h' : Post X.K E H α M (match lstOf M d with
    | some xs => (match boolsOf xs with
      | some ns => .ok (.bl (ns.all id)) M
      | none => .stuck)
    | none => .stuck) (QE X.K Q) := h
  cases q : lstOf M d with
  | none => rw [q] at h'; exact h'.elim
  | some xs =>
    rw [q] at h'
    cases q2 : boolsOf xs with
    | none => simp only [q2] at h'; exact h'.elim
    | some ns =>
      simp only [q2] at h'
      obtain ⟨a, vs, rfl, ha, rs⟩ := lstOf_rep w rx q
      have e := bools_rep rs q2
      subst e
      exact ⟨a, ns, rfl, .inl (.inl ha), h'.here w _ (.bl _)⟩
theorem cd_tuple : CallD X E (.type "tuple") cTuple := by
  refine call_one call_tuple_of (fun _ => rfl) (fun d e r M => by cases d <;> rfl) fun H α M x d Q w rx h => ?_
  have seq : ∀ (h : Post X.K E H α M (match seqOf M d with
    | some xs => newTup xs M
    | none => .stuck) (QE X.K Q)) (hnt : ∀ p xs, x = .ref p → SqT X.K H p xs → False), ∃ p ys, [x] = [V.ref p] ∧ ((SqL X.K H p ys ∧ ∀ l, H l = none → Q (.ref l) (upd H l (.tup ys))) ∨ (SqT X.K H p ys ∧ Q (.ref p) H)) := fun h hnt => by
    cases q : seqOf M d with
    | none => rw [q] at h; exact h.elim
    | some ds =>
      rw [q] at h
      obtain ⟨a, vs, rfl, hq, rs⟩ := seqOf_rep w rx q
      rcases hq with hq | hq
      · exact ⟨a, vs, rfl, .inl ⟨hq, (newTup_post w rs h).2⟩⟩
      · exact (hnt a vs rfl hq).elim
  cases rx with
  | @tup p xs ds hl rs =>
    have h' : Post X.K E H α M (.ok (.tup ds) M) (QE X.K Q) := h
    exact ⟨p, xs, rfl, .inr ⟨hl.sq, h'.here w _ (.tup hl rs)⟩⟩
  | @lst p xs ds hl rs =>
    have h' : Post X.K E H α M (newTup ds M) (QE X.K Q) := h
    exact ⟨p, xs, rfl, .inl ⟨hl.sq, (newTup_post w rs h').2⟩⟩
  | @rol p xs ds hl rs =>
    have h' : Post X.K E H α M (newTup ds M) (QE X.K Q) := h
    exact ⟨p, xs, rfl, .inl ⟨hl.sq, (newTup_post w rs h').2⟩⟩
  | @loc p n e1 =>
    have h' : Post X.K E H α M (match cellAt M n with
      | some xs => newTup xs M
      | none => .stuck) (QE X.K Q) := h
    cases q : cellAt M n with
    | none => rw [q] at h'; exact h'.elim
    | some ds =>
      rw [q] at h'
      obtain ⟨_, b, vs, g1, g2, g3⟩ := w.cell n _ (cellAt_some q)
      rw [e1] at g1; cases g1
      exact ⟨p, vs, rfl, .inl ⟨.inl (.inl g2), (newTup_post w g3 h').2⟩⟩
  | _ => exact h.elim
theorem cd_list (hm : Mk mk) : CallD X E (.type "list") (cList mk) := by
  refine call_one call_list_of (fun _ => rfl) (fun d e r M => by cases d <;> rfl) fun H α M x d Q w rx h => ?_
  have h' : Post X.K E H α M (match seqOf M d with
    | some xs => mk xs M
    | none => .stuck) (QE X.K Q) := h
  cases q : seqOf M d with
  | none => rw [q] at h'; exact h'.elim
  | some ds =>
    rw [q] at h'
    obtain ⟨a, vs, rfl, hq, rs⟩ := seqOf_rep w rx q
    exact ⟨a, vs, rfl, hq, (hm _ _ _ _ _ _ _ _ w rs h').2⟩
/-! ### lcm -/
theorem max1_log2 {n : Nat} (h : n.log2 < 13000) : (max 1 n).log2 < 13000 := by
  rcases Nat.le_total 1 n with q | q
  · rw [Nat.max_eq_right q]; exact h
  · rw [Nat.max_eq_left q]; decide
theorem max_log2 {n m : Nat} (h : n.log2 < 13000) (g : m.log2 < 13000) : (max n m).log2 < 13000 := by
  rcases Nat.le_total n m with q | q
  · rw [Nat.max_eq_right q]; exact g
  · rw [Nat.max_eq_left q]; exact h
theorem lcm_log2 {a b : Nat} (h : a.log2 < 13000) (g : b.log2 < 13000) : ((Nat.lcm 1 a).lcm b).log2 < 26002 := by
  rcases Nat.eq_zero_or_pos ((Nat.lcm 1 a).lcm b) with z | z
  · rw [z]; decide
  · have hle : (Nat.lcm 1 a).lcm b ≤ a * b := by
      rw [Nat.lcm_one_left]
      exact Nat.le_of_dvd (by
        rcases Nat.eq_zero_or_pos (a * b) with y | y
        · exfalso
          have : a.lcm b = 0 := by
            unfold Nat.lcm
            rw [y, Nat.zero_div]
          rw [Nat.lcm_one_left, this] at z
          exact absurd z (Nat.lt_irrefl _)
        · exact y) (Nat.lcm_dvd_mul a b)
    have ha : a < 2 ^ 13000 := by
      rcases Nat.eq_zero_or_pos a with y | y
      · rw [y]; exact Nat.pow_pos (by decide)
      · exact (Nat.log2_lt (Nat.ne_of_gt y)).mp h
    have hb : b < 2 ^ 13000 := by
      rcases Nat.eq_zero_or_pos b with y | y
      · rw [y]; exact Nat.pow_pos (by decide)
      · exact (Nat.log2_lt (Nat.ne_of_gt y)).mp g
    refine (Nat.log2_lt (Nat.ne_of_gt z)).mpr (Nat.lt_of_le_of_lt hle ?_)
    refine Nat.lt_of_lt_of_le (Nat.mul_lt_mul'' ha hb) ?_
    rw [← Nat.pow_add]
    exact Nat.pow_le_pow_right (by decide) (by decide)
theorem cr_lcm : CallR X (.builtin "math.lcm") (fun vs H Q => ∃ a b : Int, vs = [.int a, .int b] ∧ a.natAbs.log2 < 13000 ∧ b.natAbs.log2 < 13000 ∧ Q (.int ((((Nat.lcm 1 a.natAbs).lcm b.natAbs : Nat) : Int))) H) := by
  intro pins s σ H vs us Q I r h
  obtain ⟨a, b, rfl, h1, h2, q⟩ := h
  obtain ⟨t, u, rfl⟩ := Vals.int2 r
  have e1 := max1_log2 h1
  have e2 := max_log2 h1 h2
  have e3 := lcm_log2 h1 h2
  have e : bitsLine = 134217728 := by decide
  exact PySem.call_function_meets PySem.W.MGF.kind_lcm PySem.W.MGF.plain_lcm PySem.W.MGF.entry_lcm (PySem.W.MGF.args_lcm _ _) (PySem.W.mg_run_lcm a t b u (by omega) (by omega) (by rw [Int.natAbs_natCast, e]; omega)).meets ⟨.int _, H, I.tok _, ⟨_, rfl⟩, q⟩
theorem cd_lcm : CallD X E (.builtin "math.lcm") cLcm := by
  refine call_two cr_lcm (fun _ => rfl) (fun d M => by cases d <;> rfl) (fun d e c r M => by cases d <;> cases e <;> rfl) fun H α M x y d e Q w rx ry h => ?_
  cases rx with
  | int i => cases ry with
    | int j =>
      have h' : Post X.K E H α M (if i.natAbs.log2 < 13000 ∧ j.natAbs.log2 < 13000 then .ok (.int ((((Nat.lcm 1 i.natAbs).lcm j.natAbs : Nat) : Int))) M else .stuck) (QE X.K Q) := h
      obtain ⟨⟨h1, h2⟩, h'⟩ := ite_ok h'
      exact ⟨i, j, rfl, h1, h2, h'.here w _ (.int _)⟩
    | _ => exact h.elim
  | _ => cases ry <;> exact h.elim
/-! ### repr -/
def rRepr (K : PySem.W.Frag) : List V → Hp → VK → Prop := fun vs H Q => (∃ i, vs = [.int i] ∧ i.natAbs.log2 < 1920 ∧ Q (.str (toString i)) H) ∨
  ∃ a d, vs = [.ref a] ∧ Dp K H (.ref a) d ∧ d.canLay0 = true ∧ d.depth ≤ 60 ∧ d.showable = true ∧ d.shown.length ≤ sizeLine ∧ Q (.str d.shown) H
theorem cr_repr (hg : X.A.guards = some []) (hu : X.A.units + 64 < cLine) : CallR X (.builtin "repr") (rRepr X.K) := by
  intro pins s σ H vs us Q I r h
  rcases h with ⟨i, rfl, hz, q⟩ | ⟨a, d, rfl, hd, hl, hdp, hs, hz, q⟩
  · obtain ⟨u, rfl, t, rfl⟩ := vals1 r
    exact PySem.P.repr_of_int hz ⟨.str _, H, I.tok _, ⟨_, rfl⟩, q⟩
  · obtain ⟨u, rfl, rfl⟩ := vals1 r
    obtain ⟨as, rd⟩ := Dp.reads I d (.ref a) (.ref a) hd rfl
    exact PySem.repr_of_reads' rd hs (PyData.noDict_hsm (PyData.hasDict_of_canLay d hl)) hg (by omega) (fun _ _ e => e) (fun h' u tk hk => ⟨.str d.shown, H, I.kept (t' := tk) hk, ⟨u, rfl⟩, q⟩) hz
theorem cd_repr (hg : X.A.guards = some []) (hu : X.A.units + 64 < cLine) : CallD X E (.builtin "repr") cRepr := by
  refine call_one (cr_repr hg hu) (fun _ => rfl) (fun d e r M => by cases d <;> rfl) fun H α M x d Q w rx h => ?_
  have data : ∀ {e : D}, der M d = some e → (∃ a, x = .ref a) → Post X.K E H α M (if (okD e 60 && PyData.showable (toP e)) = true ∧ (toP e).shown.length ≤ 16777216 then .ok (.str (toP e).shown) M else .stuck) (QE X.K Q) → rRepr X.K [x] H Q := fun {e} q hx h => by
    obtain ⟨⟨h1, h2⟩, h⟩ := ite_ok h
    rw [Bool.and_eq_true] at h1
    obtain ⟨d1, d2⟩ := der_rep w rx q h1.1
    unfold SeqAt.shaped at d2
    rw [Bool.and_eq_true, decide_eq_true_eq] at d2
    obtain ⟨a, rfl⟩ := hx
    have d3 : (toP e).depth ≤ 60 := by
      cases rx with
      | @loc a n e1 =>
        have q' : (cellAt M n).map .lst = some e := q
        cases z : cellAt M n with
        | none => rw [z] at q'; cases q'
        | some ds =>
          rw [z] at q'
          cases q'
          obtain ⟨_, b, vs, g1, g2, g3⟩ := w.cell n _ (cellAt_some z)
          have k := h1.1
          unfold okD at k
          rw [Bool.and_eq_true, decide_eq_true_eq] at k
          have := (dps_of g3 k.2).2.2
          unfold toP
          simp only [PyData.depth]
          omega
      | tup a b => cases q; exact (dp_of (.tup a b) h1.1).2.2
      | lst a b => cases q; exact (dp_of (.lst a b) h1.1).2.2
      | rol a b => cases q; exact (dp_of (.rol a b) h1.1).2.2
    exact .inr ⟨a, toP e, rfl, d1, d2.1, d3, h1.2, by rw [sizeLine_eq]; exact h2, h.here w _ (.str _)⟩
  cases rx with
  | int i =>
    have h' : Post X.K E H α M (if i.natAbs.log2 < 1920 then .ok (.str (toString i)) M else .stuck) (QE X.K Q) := h
    obtain ⟨hc, h'⟩ := ite_ok h'
    exact .inl ⟨i, rfl, hc, h'.here w _ (.str _)⟩
  | tup a b => exact data rfl ⟨_, rfl⟩ h
  | lst a b => exact data rfl ⟨_, rfl⟩ h
  | rol a b => exact data rfl ⟨_, rfl⟩ h
  | @loc a n e1 =>
    have h' : Post X.K E H α M (match cellAt M n with
      | some ds => reprD (.lst ds) M
      | none => .stuck) (QE X.K Q) := h
    cases z : cellAt M n with
    | none => rw [z] at h'; exact h'.elim
    | some ds =>
      rw [z] at h'
      exact data (e := .lst ds) (by show (cellAt M n).map D.lst = _; rw [z]; rfl) ⟨_, rfl⟩ h'
  | non => exact h.elim
  | bl b => exact h.elim
  | str y => exact h.elim
end
/-! ### isinstance -/
def tyS : D → String
  | .non => "NoneType"
  | .bl _ => "bool"
  | .int _ => "int"
  | .str _ => "str"
  | .tup _ => "tuple"
  | .lst _ => "list"
  | .rol _ => "list"
  | .loc _ => "list"
def kinds : List String := ["NoneType", "bool", "int", "str", "tuple", "list"]
def mIsI (f : String → Bool) (a : DE) : DE := fun ρ M => (a ρ M).bind fun d M1 => .ok (.bl (f (tyS d))) M1
theorem tyx_rep {K : PySem.W.Frag} {H : Hp} {α : Al} {M : Store} {x : V} {d : D} (w : WOk K H α M) (r : Rep K H α M x d) (hl : ∀ n, d = .loc n → (cellAt M n).isSome = true) : TyX K H x (.type (tyS d)) := by
  cases r with
  | non => exact .base .non
  | bl b => exact .base (.bl b)
  | int i => exact .base (.int i)
  | str y => exact .base (.str y)
  | tup hq rs =>
    rcases hq with ⟨h | ⟨o, h⟩, _⟩ | ⟨o, its, n, h1, h2, _⟩
    · exact .base (.tup h)
    · exact .fTuple h
    · exact .kTuple h1 h2
  | lst hq rs => exact .base (.lst hq.1)
  | rol hq rs =>
    rcases hq with ⟨⟨o, h⟩, _⟩ | ⟨o, its, n, h1, h2, _⟩
    · exact .base (.frz h)
    · exact .kList h1 h2
  | @loc a n e =>
    obtain ⟨ds, q⟩ := Option.isSome_iff_exists.mp (hl n rfl)
    obtain ⟨_, b, vs, g1, g2, _⟩ := w.cell n _ (cellAt_some q)
    rw [e] at g1; cases g1
    exact .base (.lst g2)
def cIsI (f : String → Bool) (d : D) (M : Store) : Res D := match d with
  | .loc n => if (cellAt M n).isSome = true then .ok (.bl (f "list")) M else .stuck
  | d => .ok (.bl (f (tyS d))) M
section
variable {X : Cx} {E : XK} {e : Expr} {ma : DE} {p p2 pos : Pos} {x : Str} {T : String} {f : String → Bool}
theorem pd_isi (hg : Gl X "isinstance") (hm : X.mg "isinstance" = none) (hgT : Gl X x) (hmT : X.mg x = none) (hv : bootBuiltins x = some (.type T)) (hf : ∀ a ∈ kinds, kitB a T = some (f a)) (ha : PD X E e ma)
    (hn : x ≠ "__name__" := by decide) (hdb : (x == ("__debug__" : Str)) = false := by decide)
    (he : starEach [e, .Name x p2] X.env = (false, eval e X.env) :: starEach [.Name x p2] X.env := by rfl) (hpl : (backTo pos (starEach [.Name x p2] X.env)).any (·.1) = false := by rfl) : PD X E (.Call (.Name "isinstance" p) [e, .Name x p2] [] pos) (mUn (cIsI f) ma) := by
  obtain ⟨t, h1, r1⟩ := ha.ex
  refine ⟨_, pe_callB call_isi hg hm (by decide +kernel) (pa_cons h1 (pa_cons (pe_bltn (v := .ty T) hgT hmT hv rfl hn hdb) pa_nil) he) (by decide) (by decide) he hpl, fun σ H ρ α M Q w s h => ?_⟩
  refine r1 σ H ρ α M _ w s (Post.imp (Post.bind h) fun d H1 α1 M1 l1 w1 h1 v rv => ?_)
  have hk : tyS d ∈ kinds := by cases d <;> simp [tyS, kinds]
  have core : ∀ (hl : ∀ n, d = .loc n → (cellAt M1 n).isSome = true) (h : Post X.K E H1 α1 M1 (.ok (.bl (f (tyS d))) M1) (QE X.K Q)), rIsi X.K [v, .ty T] H1 Q := fun hl h =>
    ⟨v, .ty T, _, _, f (tyS d), rfl, .ty T, tyx_rep w1 rv hl, kit_ty (hf _ hk), h.here w1 _ (.bl _)⟩
  cases d with
  | loc n =>
    have h' : Post X.K E H1 α1 M1 (if (cellAt M1 n).isSome = true then .ok (.bl (f "list")) M1 else .stuck) (QE X.K Q) := h1
    obtain ⟨hc, h'⟩ := ite_ok h'
    exact core (fun m e => by cases e; exact hc) h'
  | _ => exact core (fun m e => nomatch e) h1
def isInt (a : String) : Bool := a == "int" || a == "bool"
theorem kit_int : ∀ a ∈ kinds, kitB a "int" = some (isInt a) := by decide +kernel
theorem kit_bool : ∀ a ∈ kinds, kitB a "bool" = some (a == "bool") := by decide +kernel
theorem kit_tuple : ∀ a ∈ kinds, kitB a "tuple" = some (a == "tuple") := by decide +kernel
theorem kit_list : ∀ a ∈ kinds, kitB a "list" = some (a == "list") := by decide +kernel
theorem kit_str : ∀ a ∈ kinds, kitB a "str" = some (a == "str") := by decide +kernel
end
end DL

set_option Elab.async false
set_option linter.all false
set_option maxRecDepth 100000
set_option maxHeartbeats 4000000
namespace DL
open PySem PySem.Spec PyProof.Rows L2

/-! ### targets -/
abbrev Bd := D → Sl → Store → Res Sl
abbrev Bds := List D → Sl → Store → Res Sl
def QG (K : PySem.W.Frag) (σ : L2.St) (vs : List Nat) (Q : L2.St → Hp → Prop) : Sl → Hp → Al → Store → Prop :=
  fun ρ' H' α' M' => ∀ σ', SlOk K H' α' M' σ' ρ' → σ'.length = σ.length → (∀ j, j ∉ vs → σ'[j]? = σ[j]?) → Q σ' H'
structure PGD (X : Cx) (E : XK) (tg : Expr) (b : Bd) (vs : List Nat) : Prop where
  ex : ∃ t, PG X tg t ∧ ∀ v d σ ρ H α M Q, WOk X.K H α M → Rep X.K H α M v d → SlOk X.K H α M σ ρ → Post X.K E H α M (b d ρ M) (QG X.K σ vs Q) → t v σ H Q
structure PGDs (X : Cx) (E : XK) (tgs : List Expr) (b : Bds) (vs : List Nat) : Prop where
  ex : ∃ t, PGs X tgs t ∧ ∀ us ds σ ρ H α M Q, WOk X.K H α M → Reps X.K H α M us ds → SlOk X.K H α M σ ρ → Post X.K E H α M (b ds ρ M) (QG X.K σ vs Q) → t us σ H Q
def bName (i : Nat) : Bd := fun d ρ M => .ok (ρ.set i (some d)) M
def bNil : Bds := fun ds ρ M => match ds with
  | [] => .ok ρ M
  | _ => .stuck
def bCons (b : Bd) (r : Bds) : Bds := fun ds ρ M => match ds with
  | d :: ds => (b d ρ M).bind fun ρ1 M1 => r ds ρ1 M1
  | [] => .stuck
def bTup (n : Nat) (b : Bds) : Bd := fun d ρ M => match seqOf M d with
  | some ds => if ds.length = n then b ds ρ M else .stuck
  | none => .stuck
def setAt (M : Store) (n : Nat) (j : Int) (d : D) : Option Store := match cellAt M n with
  | some ds => if locFree d = true then (ixN ds.length j).map fun q => M.set n (some (ds.set q d)) else none
  | none => none
def bSub (o i : DE) : Bd := fun d ρ M => (o ρ M).bind fun l M1 => (i ρ M1).bind fun k M2 => match l, k with
  | .loc n, .int j => (match setAt M2 n j d with
    | some M3 => .ok ρ M3
    | none => .stuck)
  | _, _ => .stuck
section
variable {X : Cx} {E : XK} {e : Expr} {es : List Expr} {pos : Pos} {b : Bd} {r : Bds} {vs ws : List Nat}
theorem pgd_name {i : Nat} {x : Str} (hN : X.N.Nodup) (hi : X.N[i]? = some x) (hx : Loc X.env.scope x) (hf : X.fn x = true ∨ X.env.scope.names.lookup x = some .local) : PGD X E (.Name x pos) (bName i) [i] := by
  refine ⟨_, pg_name hN hi hx hf, fun v d σ ρ H α M Q w rv s h => ?_⟩
  refine Post.here (E := E) w h _ (s.set rv i) (by simp) fun j hj => ?_
  rw [List.getElem?_set_ne fun q => hj (by rw [q]; exact List.mem_singleton.mpr rfl)]
theorem pgds_nil : PGDs X E [] bNil [] := by
  refine ⟨_, pgs_nil, fun us ds σ ρ H α M Q w rv s h => ?_⟩
  cases rv with
  | nil => exact ⟨rfl, Post.here (E := E) w h _ s rfl fun _ _ => rfl⟩
  | cons _ _ => exact h.elim
theorem pgds_cons (h1 : PGD X E e b vs) (h2 : PGDs X E es r ws) (hs : (assignEach (e :: es) X.env).map (·.2) = assign e X.env :: (assignEach es X.env).map (·.2) := by rfl) : PGDs X E (e :: es) (bCons b r) (vs ++ ws) := by
  obtain ⟨t, g1, r1⟩ := h1.ex
  obtain ⟨u, g2, r2⟩ := h2.ex
  refine ⟨_, pgs_cons g1 g2 hs, fun us ds σ ρ H α M Q w rv s h => ?_⟩
  cases rv with
  | nil => exact h.elim
  | cons a c =>
    refine ⟨_, _, rfl, r1 _ _ σ ρ H α M _ w a s (Post.imp (Post.bind h) fun ρ1 H1 α1 M1 l1 w1 h1 σ1 s1 e1 k1 => ?_)⟩
    refine r2 _ _ σ1 ρ1 H1 α1 M1 Q w1 (c.mono l1) s1 (Post.imp h1 fun ρ2 H2 α2 M2 l2 w2 h2 σ2 s2 e2 k2 => ?_)
    refine h2 σ2 s2 (e2.trans e1) fun j hj => ?_
    rw [k2 j fun z => hj (List.mem_append_right _ z), k1 j fun z => hj (List.mem_append_left _ z)]
theorem PG.or {t u : TG} (h : PG X e t) (h' : PG X e u) : PG X e (fun v σ H Q => t v σ H Q ∨ u v σ H Q) :=
  ⟨fun pins s σ H v u Q I rv q => q.elim (h.run pins s σ H v u Q I rv) (h'.run pins s σ H v u Q I rv)⟩
theorem pgd_tup {k n : Nat} (hc : X.calm = true) (h : PGDs X E es r vs) (hn : (assignEach es X.env).length = n := by rfl) (hst : (assignEach es X.env).findIdx? (·.1) = none := by rfl) : PGD X E (.Tuple es k pos) (bTup n r) vs := by
  obtain ⟨t, g1, r1⟩ := h.ex
  refine ⟨_, PG.or (pg_tup hc g1 hn hst) (pg_lst hc g1 hn hst), fun v d σ ρ H α M Q w rv s h => ?_⟩
  unfold bTup at h
  cases q : seqOf M d with
  | none => rw [q] at h; exact h.elim
  | some ds =>
    rw [q] at h
    obtain ⟨hl, h⟩ := ite_ok h
    obtain ⟨a, us, rfl, hq, rs⟩ := seqOf_rep w rv q
    rcases hq with hq | hq
    · exact .inr ⟨a, us, rfl, hq, rs.length.trans hl, r1 us ds σ ρ H α M Q w rs s h⟩
    · exact .inl ⟨a, us, rfl, hq, rs.length.trans hl, r1 us ds σ ρ H α M Q w rs s h⟩
theorem set_core {K : PySem.W.Frag} {H : Hp} {α : Al} {M M' : Store} {x v : V} {n : Nat} {j : Int} {d : D} (w : WOk K H α M) (rx : Rep K H α M x (.loc n)) (rv : Rep K H α M v d) (h : setAt M n j d = some M') :
    ∃ p xs q, x = .ref p ∧ H p = some (.lst xs) ∧ ixN xs.length j = some q ∧ Le H α M (upd H p (.lst (xs.set q v))) α M' ∧ WOk K (upd H p (.lst (xs.set q v))) α M' := by
  unfold setAt at h
  cases e1 : cellAt M n with
  | none => rw [e1] at h; cases h
  | some ds =>
    rw [e1] at h
    have h' : (if locFree d = true then (ixN ds.length j).map fun q => M.set n (some (ds.set q d)) else none) = some M' := h
    by_cases hf : locFree d = true
    · rw [if_pos hf] at h'
      cases e2 : ixN ds.length j with
      | none => rw [e2] at h'; cases h'
      | some q =>
        rw [e2] at h'
        cases h'
        cases rx with
        | @loc a _ ha =>
          obtain ⟨f0, b, us, g1, g2, g3⟩ := w.cell n _ (cellAt_some e1)
          rw [ha] at g1; cases g1
          have fr : locFrees (ds.set q d) = true := locFrees_iff.mpr fun y hy => (List.mem_or_eq_of_mem_set hy).elim (locFrees_iff.mp f0 y) fun z => by rw [z]; exact hf
          exact ⟨a, us, q, rfl, g2, by rw [g3.length]; exact e2, Le.write w ha (cellAt_some e1), w.write ha (cellAt_some e1) (g3.set rv q) fr⟩
    · rw [if_neg hf] at h'; cases h'
theorem pgd_sub {o i : Expr} {mo mi : DE} (ho : PD X E o mo) (hi : PD X E i mi)
    (ha : ∀ v, assign (.Subscript o i pos) X.env v = (do
      let ov ← holding [v] (eval o X.env)
      let iv ← holding [v, ov] (eval i X.env)
      standAt pos
      holding [v, ov, iv] (setItem ov iv v)
      release [v, ov, iv] []) := by intro _; rfl) : PGD X E (.Subscript o i pos) (bSub mo mi) [] := by
  obtain ⟨to, g1, r1⟩ := ho.ex
  obtain ⟨ti, g2, r2⟩ := hi.ex
  refine ⟨_, pg_sub g1 g2 set_list ha, fun v d σ ρ H α M Q w rv s h => ?_⟩
  refine r1 σ H ρ α M _ w s (Post.imp (Post.bind h) fun l H1 α1 M1 l1 w1 h1 x rx => ?_)
  refine r2 σ H1 ρ α1 M1 _ w1 (s.mono l1) (Post.imp (Post.bind h1) fun k H2 α2 M2 l2 w2 h2 y ry => ?_)
  cases l with
  | loc n =>
    cases ry with
    | int j =>
      have h3 : Post X.K E H2 α2 M2 (match setAt M2 n j d with
        | some M3 => .ok ρ M3
        | none => .stuck) (QG X.K σ [] Q) := h2
      cases e1 : setAt M2 n j d with
      | none => rw [e1] at h3; exact h3.elim
      | some M3 =>
        rw [e1] at h3
        obtain ⟨p, xs, q, rfl, hp, hq, l3, w3⟩ := set_core w2 (rx.mono l2) ((rv.mono l1).mono l2) e1
        exact ⟨p, xs, j, q, rfl, rfl, hp, hq, h3 _ _ l3 w3 σ (((s.mono l1).mono l2).mono l3) rfl fun _ _ => rfl⟩
    | _ => exact h2.elim
  | _ => exact h2.elim
end

/-! ### statements -/
def QS (K : PySem.W.Frag) (D : Ends) : Fl × Sl → Hp → Al → Store → Prop := fun r H' α' M' => match r.1 with
  | .nx => ∀ σ', SlOk K H' α' M' σ' r.2 → D.nx σ' H'
  | .rt d => ∀ v, Rep K H' α' M' v d → D.rt v H'
  | .bk => ∀ σ', SlOk K H' α' M' σ' r.2 → D.bk σ' H'
  | .ct => ∀ σ', SlOk K H' α' M' σ' r.2 → D.ct σ' H'
def RdS (K : PySem.W.Frag) (E : XK) (t : TS) (m : DS) : Prop := ∀ σ H ρ α M D, WOk K H α M → SlOk K H α M σ ρ → Post K E H α M (m ρ M) (QS K D) → t D σ H
structure PDS (X : Cx) (E : XK) (st : Stmt) (m : DS) : Prop where
  ex : ∃ t, PS X st t ∧ RdS X.K E t m
structure PDSs (X : Cx) (E : XK) (sts : List Stmt) (m : DS) : Prop where
  ex : ∃ t, PSs X sts t ∧ RdS X.K E t m
def mNx : DS := fun ρ M => .ok (.nx, ρ) M
def mStop : DS := fun _ _ => .stuck
def mSeq (a b : DS) : DS := fun ρ M => (a ρ M).bind fun r M1 => match r.1 with
  | .nx => b r.2 M1
  | _ => .ok r M1
def mAsg (e : DE) (b : Bd) : DS := fun ρ M => (e ρ M).bind fun d M1 => (b d ρ M1).bind fun ρ1 M2 => .ok (.nx, ρ1) M2
def mPar2 (i j : Nat) (a : DA) : DS := fun ρ M => (a ρ M).bind fun ds M1 => match ds with
  | [d, e] => .ok (.nx, (ρ.set i (some d)).set j (some e)) M1
  | _ => .stuck
def mPar3 (i j l : Nat) (a : DA) : DS := fun ρ M => (a ρ M).bind fun ds M1 => match ds with
  | [d, e, c] => .ok (.nx, ((ρ.set i (some d)).set j (some e)).set l (some c)) M1
  | _ => .stuck
def mDrop (e : DE) : DS := fun ρ M => (e ρ M).bind fun _ M1 => .ok (.nx, ρ) M1
def appAt (M : Store) (n : Nat) (d : D) : Option Store := match cellAt M n with
  | some ds => if locFree d = true ∧ ds.length < 16777216 then some (M.set n (some (ds ++ [d]))) else none
  | none => none
def mApp (o e : DE) : DS := fun ρ M => (o ρ M).bind fun l M1 => match l with
  | .loc n => if (cellAt M1 n).isSome = true then (e ρ M1).bind fun d M2 => (match appAt M2 n d with
    | some M3 => .ok (.nx, ρ) M3
    | none => .stuck) else .stuck
  | _ => .stuck
def mRet (e : DE) : DS := fun ρ M => (e ρ M).bind fun d M1 => .ok (.rt d, ρ) M1
def mIfS (c : DT) (a b : DS) : DS := fun ρ M => (c ρ M).bind fun t M1 => if t = true then a ρ M1 else b ρ M1
def mAug (f : D → D → Store → Res D) (i : Nat) (e : DE) : DS := fun ρ M => match ρ[i]? with
  | some (some x) => (e ρ M).bind fun y M1 => (f x y M1).bind fun z M2 => .ok (.nx, ρ.set i (some z)) M2
  | _ => .stuck
/-- a mutable list becomes data: as a value; in its slot -/
def mFz (a : DE) : DE := fun ρ M => (a ρ M).bind fun d M1 => match d with
  | .loc n => (match cellAt M1 n with
    | some ds => .ok (.lst ds) (M1.set n none)
    | none => .stuck)
  | d => .ok d M1
def mFzS (i : Nat) (a : DS) : DS := fun ρ M => match ρ[i]? with
  | some (some (.loc n)) => (match cellAt M n with
    | some ds => a (ρ.set i (some (.lst ds))) (M.set n none)
    | none => .stuck)
  | _ => a ρ M
section
variable {X : Cx} {E : XK} {e : Expr} {st : Stmt} {sts : List Stmt} {pos : Pos} {ma : DE} {ms mt : DS}
theorem fz_core {K : PySem.W.Frag} {H : Hp} {α : Al} {M : Store} {v : V} {n : Nat} {ds : List D} (w : WOk K H α M) (rv : Rep K H α M v (.loc n)) (h : cellAt M n = some ds) :
    Le H α M H α (M.set n none) ∧ WOk K H α (M.set n none) ∧ Rep K H α (M.set n none) v (.lst ds) := by
  cases rv with
  | loc ha => exact ⟨Le.freeze w (cellAt_some h), w.freeze (cellAt_some h), rep_frozen w ha (cellAt_some h)⟩
theorem pd_fz (h : PD X E e ma) : PD X E e (mFz ma) := by
  obtain ⟨t, h1, r1⟩ := h.ex
  refine ⟨_, h1, fun σ H ρ α M Q w s q => ?_⟩
  refine r1 σ H ρ α M _ w s (Post.imp (Post.bind q) fun d H1 α1 M1 l1 w1 h1 v rv => ?_)
  cases d with
  | loc n =>
    have h' : Post X.K E H1 α1 M1 (match cellAt M1 n with
      | some ds => .ok (.lst ds) (M1.set n none)
      | none => .stuck) (QE X.K Q) := h1
    cases z : cellAt M1 n with
    | none => rw [z] at h'; exact h'.elim
    | some ds =>
      rw [z] at h'
      obtain ⟨l2, w2, r2⟩ := fz_core w1 rv z
      exact h' _ _ l2 w2 v r2
  | _ => exact Post.here (E := E) w1 h1 v rv
theorem rd_fzS {K : PySem.W.Frag} {i : Nat} {t : TS} (r : RdS K E t ms) : RdS K E t (mFzS i ms) := by
  intro σ H ρ α M D w s q
  unfold mFzS at q
  split at q
  · rename_i n e1
    split at q
    · rename_i ds e2
      obtain ⟨v, g1, g2⟩ := s.at_ i _ e1
      obtain ⟨l2, w2, r2⟩ := fz_core w g2 e2
      refine r σ H _ α _ D w2 ?_ (Post.le l2 q)
      have s2 := (s.mono l2).set r2 i
      have e3 : σ.set i (some v) = σ := by
        refine List.ext_getElem? fun j => ?_
        by_cases hj : i = j
        · subst hj
          have hl : i < σ.length := by
            rcases Nat.lt_or_ge i σ.length with z | z
            · exact z
            · rw [List.getElem?_eq_none z] at g1; cases g1
          rw [List.getElem?_set_self hl, g1]
        · rw [List.getElem?_set_ne hj]
      rw [e3] at s2
      exact s2
    · exact q.elim
  · exact r σ H ρ α M D w s q
theorem pds_fz {i : Nat} (h : PDS X E st ms) : PDS X E st (mFzS i ms) := let ⟨t, a, b⟩ := h.ex; ⟨t, a, rd_fzS b⟩
theorem pdss_fz {i : Nat} (h : PDSs X E sts ms) : PDSs X E sts (mFzS i ms) := let ⟨t, a, b⟩ := h.ex; ⟨t, a, rd_fzS b⟩
theorem pdss_nil : PDSs X E [] mNx := ⟨_, pss_nil, fun σ _ _ _ _ _ w s h => Post.here (E := E) w h σ s⟩
theorem pdss_one (h : PDS X E st ms) : PDSs X E [st] ms := let ⟨t, a, b⟩ := h.ex; ⟨t, pss_one a, b⟩
theorem pdss_cons (h1 : PDS X E st ms) (h2 : PDSs X E sts mt) : PDSs X E (st :: sts) (mSeq ms mt) := by
  obtain ⟨t, g1, r1⟩ := h1.ex
  obtain ⟨u, g2, r2⟩ := h2.ex
  refine ⟨_, pss_cons g1 g2, fun σ H ρ α M D w s h => ?_⟩
  refine r1 σ H ρ α M _ w s (Post.imp (Post.bind h) fun r H1 α1 M1 l1 w1 h1 => ?_)
  obtain ⟨fl, ρ1⟩ := r
  cases fl with
  | nx => exact fun σ1 s1 => r2 σ1 H1 ρ1 α1 M1 D w1 s1 h1
  | rt d => exact Post.here (E := E) (b := (Fl.rt d, ρ1)) w1 h1
  | bk => exact Post.here (E := E) (b := (Fl.bk, ρ1)) w1 h1
  | ct => exact Post.here (E := E) (b := (Fl.ct, ρ1)) w1 h1
theorem pds_stop : PDS X E st mStop := ⟨_, ps_never, fun _ _ _ _ _ _ _ _ h => h.elim⟩
theorem pdss_stop : PDSs X E sts mStop := ⟨_, pss_never, fun _ _ _ _ _ _ _ _ h => h.elim⟩
theorem pds_pass : PDS X E (.Pass pos) mNx := ⟨_, ps_pass, fun σ _ _ _ _ _ w s h => Post.here (E := E) w h σ s⟩
theorem pds_doc {x : Str} {j : Nat} {pos' : Pos} : PDS X E (.Expr (.Constant (.str x) j pos) pos') mNx := ⟨_, ps_doc, fun σ _ _ _ _ _ w s h => Post.here (E := E) w h σ s⟩
theorem rd_asg {K : PySem.W.Frag} {te : TE} {g : TG} {b : Bd} {vs : List Nat} (he : RdE K E te ma) (hg : ∀ v d σ ρ H α M Q, WOk K H α M → Rep K H α M v d → SlOk K H α M σ ρ → Post K E H α M (b d ρ M) (QG K σ vs Q) → g v σ H Q) : RdS K E (tAsg te g) (mAsg ma b) := by
  intro σ H ρ α M D w s h
  refine he σ H ρ α M _ w s (Post.imp (Post.bind h) fun d H1 α1 M1 l1 w1 h1 v rv => ?_)
  refine hg v d σ ρ H1 α1 M1 _ w1 rv (s.mono l1) (Post.imp (Post.bind h1) fun ρ2 H2 α2 M2 l2 w2 h2 σ2 s2 _ _ => ?_)
  exact Post.here (E := E) (b := (Fl.nx, ρ2)) w2 h2 σ2 s2
theorem pds_asg {tg : Expr} {b : Bd} {vs : List Nat} (he : PD X E e ma) (hg : PGD X E tg b vs) (hs : swapsWithSole [tg] e pos.line X.env = pure false := by rfl) (hw : swappedStores [tg] e X.env = pure none := by rfl)
    (h1 : (assignEach [tg] X.env).map (·.2) = [assign tg X.env] := by rfl) : PDS X E (.Assign [tg] e pos) (mAsg ma b) := by
  obtain ⟨t, g1, r1⟩ := he.ex
  obtain ⟨u, g2, r2⟩ := hg.ex
  exact ⟨_, ps_asg g1 g2 hs hw h1, rd_asg r1 r2⟩
theorem pds_set {i : Nat} {x : Str} {pos' : Pos} (hN : X.N.Nodup) (hi : X.N[i]? = some x) (hx : Loc X.env.scope x) (hf : X.fn x = true ∨ X.env.scope.names.lookup x = some .local) (he : PD X E e ma) (hs : swapsWith e (some (.Name x pos')) pos.line X.env = pure false := by rfl) : PDS X E (.Assign [.Name x pos'] e pos) (mAsg ma (bName i)) := by
  obtain ⟨t, g1, r1⟩ := he.ex
  refine ⟨_, ps_set hN hi hx g1 hs hf, rd_asg (vs := [i]) r1 fun v d σ ρ H α M Q w rv s h => ?_⟩
  refine Post.here (E := E) w h _ (s.set rv i) (by simp) fun j hj => ?_
  rw [List.getElem?_set_ne fun q => hj (by rw [q]; exact List.mem_singleton.mpr rfl)]
theorem pds_par2 {i j : Nat} {x y : Str} {a b : Expr} {mda : DA} {px py pt : Pos} {kt k2 pt2} (hc : X.calm = true) (hN : X.N.Nodup) (hi : X.N[i]? = some x) (hj : X.N[j]? = some y) (hij : i ≠ j)
    (hx : X.env.scope.names.lookup x = some .local) (hy : X.env.scope.names.lookup y = some .local) (ha : PDA X E [a, b] mda)
    (hw : swappedStores [.Tuple [.Name x px, .Name y py] kt pt] (.Tuple [a, b] k2 pt2) X.env = pure (some [x, y]))
    (hs : swapsWithSole [.Tuple [.Name x px, .Name y py] kt pt] (.Tuple [a, b] k2 pt2) pos.line X.env = pure false := by rfl) :
    PDS X E (.Assign [.Tuple [.Name x px, .Name y py] kt pt] (.Tuple [a, b] k2 pt2) pos) (mPar2 i j mda) := by
  obtain ⟨t, g1, r1⟩ := ha.ex
  refine ⟨_, ps_par hc hN hi hj hij hx hy g1 hw hs, fun σ H ρ α M D w s h => ?_⟩
  refine r1 σ H ρ α M _ w s (Post.imp (Post.bind h) fun ds H1 α1 M1 l1 w1 h1 vs rv => ?_)
  match ds, rv, h1 with
  | [d, e], rv, h1 =>
    obtain ⟨v, u, rfl, rv1, rv2⟩ := reps2 rv
    exact ⟨v, u, rfl, Post.here (E := E) w1 h1 _ (((s.mono l1).set rv1 i).set rv2 j)⟩
theorem pds_par3 {i j l : Nat} {x y z : Str} {a b c : Expr} {mda : DA} {px py pz pt : Pos} {kt k2 pt2} (hc : X.calm = true) (hN : X.N.Nodup) (hi : X.N[i]? = some x) (hj : X.N[j]? = some y) (hl : X.N[l]? = some z) (hij : i ≠ j) (hil : i ≠ l) (hjl : j ≠ l)
    (hx : X.env.scope.names.lookup x = some .local) (hy : X.env.scope.names.lookup y = some .local) (hz : X.env.scope.names.lookup z = some .local) (ha : PDA X E [a, b, c] mda)
    (hw : swappedStores [.Tuple [.Name x px, .Name y py, .Name z pz] kt pt] (.Tuple [a, b, c] k2 pt2) X.env = pure (some [x, y, z]))
    (hs : swapsWithSole [.Tuple [.Name x px, .Name y py, .Name z pz] kt pt] (.Tuple [a, b, c] k2 pt2) pos.line X.env = pure false := by rfl) :
    PDS X E (.Assign [.Tuple [.Name x px, .Name y py, .Name z pz] kt pt] (.Tuple [a, b, c] k2 pt2) pos) (mPar3 i j l mda) := by
  obtain ⟨t, g1, r1⟩ := ha.ex
  refine ⟨_, ps_par3 hc hN hi hj hl hij hil hjl hx hy hz g1 hw hs, fun σ H ρ α M D w s h => ?_⟩
  refine r1 σ H ρ α M _ w s (Post.imp (Post.bind h) fun ds H1 α1 M1 l1 w1 h1 vs rv => ?_)
  match ds, rv, h1 with
  | [d, e, f], rv, h1 =>
    cases rv with
    | cons r1 rr =>
      obtain ⟨v, u, rfl, rv1, rv2⟩ := reps2 rr
      exact ⟨_, v, u, rfl, Post.here (E := E) w1 h1 _ ((((s.mono l1).set r1 i).set rv1 j).set rv2 l)⟩
theorem pds_drop (he : PD X E e ma) (hs : swapsWith e none pos.line X.env = pure false := by rfl) : PDS X E (.Expr e pos) (mDrop ma) := by
  obtain ⟨t, g1, r1⟩ := he.ex
  refine ⟨_, ps_expr g1 hs, fun σ H ρ α M D w s h => ?_⟩
  exact r1 σ H ρ α M _ w s (Post.imp (Post.bind h) fun d H1 α1 M1 l1 w1 h1 v rv => Post.here (E := E) w1 h1 σ (s.mono l1))
theorem app_core {K : PySem.W.Frag} {H : Hp} {α : Al} {M M' : Store} {x v : V} {n : Nat} {d : D} (w : WOk K H α M) (rx : Rep K H α M x (.loc n)) (rv : Rep K H α M v d) (h : appAt M n d = some M') :
    ∃ xs, (∃ p, x = .ref p ∧ H p = some (.lst xs)) ∧ xs.length < 16777216 ∧ (∀ p, H p = some (.lst xs) → x = .ref p → Le H α M (upd H p (.lst (xs ++ [v]))) α M') ∧ (∀ p, H p = some (.lst xs) → x = .ref p → WOk K (upd H p (.lst (xs ++ [v]))) α M') := by
  unfold appAt at h
  cases e1 : cellAt M n with
  | none => rw [e1] at h; cases h
  | some ds =>
    rw [e1] at h
    have h' : (if locFree d = true ∧ ds.length < 16777216 then some (M.set n (some (ds ++ [d]))) else none) = some M' := h
    by_cases hf : locFree d = true ∧ ds.length < 16777216
    · rw [if_pos hf] at h'
      cases h'
      cases rx with
      | @loc a _ ha =>
        obtain ⟨f0, b, us, g1, g2, g3⟩ := w.cell n _ (cellAt_some e1)
        rw [ha] at g1; cases g1
        have fr : locFrees (ds ++ [d]) = true := by rw [locFrees_append, f0, locFrees_cons, hf.1]; rfl
        refine ⟨us, ⟨a, rfl, g2⟩, by rw [g3.length]; exact hf.2, fun p _ e => ?_, fun p _ e => ?_⟩
        · cases e; exact Le.write w ha (cellAt_some e1)
        · cases e; exact w.write ha (cellAt_some e1) (g3.append (.cons rv .nil)) fr
    · rw [if_neg hf] at h'; cases h'
theorem pds_app {o : Expr} {mo : DE} {apos cpos : Pos} (ho : PD X E o mo) (he : PD X E e ma)
    (hbase : attributeBase o "append" X.env (eval o X.env) = eval o X.env := by rfl) (hfew : methodCallForm 1 (backTo cpos (starEach [e] X.env)) [] = true := by rfl)
    (hline : (apos.endLine == cpos.line) = true := by rfl) (hs : starEach [e] X.env = (false, eval e X.env) :: starEach [] X.env := by rfl) :
    PDS X E (.Expr (.Call (.Attribute o "append" apos) [e] [] cpos) pos) (mApp mo ma) := by
  obtain ⟨to, g1, r1⟩ := ho.ex
  obtain ⟨te, g2, r2⟩ := he.ex
  refine ⟨_, ps_expr (pe_bm PySem.F.plainAttrs_list PySem.F.slot_list_append PySem.F.type_list_append mt_append g1 (pa_cons g2 pa_nil hs) hbase (hfew := hfew) hline hs) rfl, fun σ H ρ α M D w s h => ?_⟩
  refine r1 σ H ρ α M _ w s (Post.imp (Post.bind h) fun l H1 α1 M1 l1 w1 h1 x rx => ?_)
  cases rx with
  | @loc a n e1 =>
    have h1' : Post X.K E H1 α1 M1 (if (cellAt M1 n).isSome = true then (ma ρ M1).bind fun d M2 => (match appAt M2 n d with
      | some M3 => .ok (.nx, ρ) M3
      | none => .stuck) else .stuck) (QS X.K D) := h1
    obtain ⟨hc, h1'⟩ := ite_ok h1'
    obtain ⟨ds, q⟩ := Option.isSome_iff_exists.mp hc
    obtain ⟨_, b, vs, k1, k2, _⟩ := w1.cell n ds (cellAt_some q)
    rw [e1] at k1; cases k1
    refine ⟨.inl ⟨rfl, vs, .inl (.inl k2)⟩, ?_⟩
    refine r2 σ H1 ρ α1 M1 (fun v H2 => rAppend (.ref a) [v] H2 fun _ H3 => D.nx σ H3) w1 (s.mono l1) (Post.imp (Post.bind h1') fun d H2 α2 M2 l2 w2 h2 v rv => ?_)
    cases z : appAt M2 n d with
    | none => rw [z] at h2; exact h2.elim
    | some M3 =>
      rw [z] at h2
      obtain ⟨us, e3, e4, l3, w3⟩ := app_core w2 (Rep.mono l2 (.loc e1)) rv z
      obtain ⟨p, e5⟩ := e3
      cases e5.1
      exact ⟨a, us, v, rfl, rfl, e5.2, by rw [sizeLine_eq]; exact e4, Post.here (E := E) (b := (Fl.nx, ρ)) (w3 a e5.2 rfl) (Post.le (l3 a e5.2 rfl) h2) σ (((s.mono l1).mono l2).mono (l3 a e5.2 rfl))⟩
  | _ => exact h1.elim
theorem pds_ret (he : PD X E e ma) : PDS X E (.Return (some e) pos) (mRet ma) := by
  obtain ⟨t, g1, r1⟩ := he.ex
  refine ⟨_, ps_ret g1, fun σ H ρ α M D w s h => ?_⟩
  exact r1 σ H ρ α M _ w s (Post.imp (Post.bind h) fun d H1 α1 M1 l1 w1 h1 v rv => Post.here (E := E) (b := (Fl.rt d, ρ)) w1 h1 v rv)
theorem pds_if {c : Expr} {a b : List Stmt} {mc : DT} (hc : PDT X E c mc) (ha : PDSs X E a ms) (hb : PDSs X E b mt) : PDS X E (.If c a b pos) (mIfS mc ms mt) := by
  obtain ⟨t, g1, r1⟩ := hc.ex
  obtain ⟨u, g2, r2⟩ := ha.ex
  obtain ⟨x, g3, r3⟩ := hb.ex
  refine ⟨_, ps_if g1 g2 g3, fun σ H ρ α M D w s h => ?_⟩
  refine r1 σ H ρ α M _ w s (Post.imp (Post.bind h) fun d H1 α1 M1 l1 w1 h1 => ?_)
  cases d with
  | true => exact r2 σ H1 ρ α1 M1 D w1 (s.mono l1) h1
  | false => exact r3 σ H1 ρ α1 M1 D w1 (s.mono l1) h1
/-- += of numbers -/
theorem pds_aug {i : Nat} {x : Str} {pos' : Pos} (hN : X.N.Nodup) (hi : X.N[i]? = some x) (hx : Loc X.env.scope x) (hf : X.fn x = true ∨ X.env.scope.names.lookup x = some .local) (he : PD X E e ma) : PDS X E (.AugAssign (.Name x pos') .Add e pos) (mAug (fun d e M => match d, e with
    | .int i, .int j => .ok (.int (i + j)) M
    | _, _ => .stuck) i ma) := by
  obtain ⟨t, g1, r1⟩ := he.ex
  refine ⟨_, ps_aug hN hi hx g1 ip_add hf, fun σ H ρ α M D w s h => ?_⟩
  unfold mAug at h
  cases e1 : ρ[i]? with
  | none => rw [e1] at h; exact h.elim
  | some o =>
    rw [e1] at h
    cases o with
    | none => exact h.elim
    | some d =>
      obtain ⟨v, k1, k2⟩ := s.at_ i d e1
      refine ⟨v, k1, r1 σ H ρ α M _ w s (Post.imp (Post.bind h) fun d2 H1 α1 M1 l1 w1 h1 u ru => ?_)⟩
      have k3 := k2.mono l1
      cases k3 with
      | int a => cases ru with
        | int b => exact ⟨a, b, rfl, rfl, Post.here (E := E) (b := (Fl.nx, ρ.set i (some (.int (a + b))))) w1 h1 _ ((s.mono l1).set (.int _) i)⟩
        | _ => exact h1.elim
      | _ => exact h1.elim
end
end DL

set_option Elab.async false
set_option linter.all false
set_option maxRecDepth 100000
set_option maxHeartbeats 4000000
namespace DL
open PySem PySem.Spec PyProof.Rows L2 RZ

/-! ### what is walked -/
section
variable {K : PySem.W.Frag} {H H1 H2 : Hp} {α α1 α2 : Al} {M M1 M2 : Store}
/-- what stays though an address is held besides -/
structure Ly (H : Hp) (α : Al) (M : Store) (H' : Hp) (α' : Al) (M' : Store) : Prop where
  keep : ∀ a o, H a = some o → ¬ Own α M a → H' a = some o ∧ ¬ Own α' M' a
  pre : ∃ t, α'.c = α.c ++ t
theorem Le.ly (l : Le H α M H1 α1 M1) : Ly H α M H1 α1 M1 := ⟨l.keep, l.pre⟩
theorem Ly.trans (a : Ly H α M H1 α1 M1) (b : Ly H1 α1 M1 H2 α2 M2) : Ly H α M H2 α2 M2 := by
  obtain ⟨t, e⟩ := a.pre
  obtain ⟨u, f⟩ := b.pre
  refine ⟨fun x o h n => ?_, ⟨t ++ u, by rw [f, e, List.append_assoc]⟩⟩
  obtain ⟨h1, n1⟩ := a.keep x o h n
  exact b.keep x o h1 n1
theorem Ly.refl : Ly H α M H α M := ⟨fun _ _ h n => ⟨h, n⟩, ⟨[], by simp⟩⟩
theorem TupAt.monoY {a : Addr} {xs : List V} (l : Ly H α M H1 α1 M1) (h : TupAt K H α M a xs) : TupAt K H1 α1 M1 a xs := by
  rcases h with ⟨h | ⟨o, h⟩, n⟩ | h
  · obtain ⟨h1, n1⟩ := l.keep _ _ h n
    exact .inl ⟨.inl h1, n1⟩
  · obtain ⟨h1, n1⟩ := l.keep _ _ h n
    exact .inl ⟨.inr ⟨o, h1⟩, n1⟩
  · exact .inr h
theorem LstAt.monoY {a : Addr} {xs : List V} (l : Ly H α M H1 α1 M1) (h : LstAt H α M a xs) : LstAt H1 α1 M1 a xs := l.keep _ _ h.1 h.2
theorem RolAt.monoY {a : Addr} {xs : List V} (l : Ly H α M H1 α1 M1) (h : RolAt K H α M a xs) : RolAt K H1 α1 M1 a xs := by
  rcases h with ⟨⟨o, h⟩, n⟩ | h
  · obtain ⟨h1, n1⟩ := l.keep _ _ h n
    exact .inl ⟨⟨o, h1⟩, n1⟩
  · exact .inr h
mutual
theorem Rep.monoY (l : Ly H α M H1 α1 M1) : ∀ {v : V} {d : D}, Rep K H α M v d → Rep K H1 α1 M1 v d
  | _, _, .non => .non
  | _, _, .bl b => .bl b
  | _, _, .int i => .int i
  | _, _, .str x => .str x
  | _, _, .tup h r => .tup (h.monoY l) (Reps.monoY l r)
  | _, _, .lst h r => .lst (h.monoY l) (Reps.monoY l r)
  | _, _, .rol h r => .rol (h.monoY l) (Reps.monoY l r)
  | _, _, .loc (a := a) (n := n) h => .loc (by
      obtain ⟨t, e⟩ := l.pre
      have hl : n < α.c.length := by
        rcases Nat.lt_or_ge n α.c.length with q | q
        · exact q
        · rw [List.getElem?_eq_none q] at h; cases h
      rw [e, List.getElem?_append_left hl]
      exact h)
theorem Reps.monoY (l : Ly H α M H1 α1 M1) : ∀ {vs : List V} {ds : List D}, Reps K H α M vs ds → Reps K H1 α1 M1 vs ds
  | _, _, .nil => .nil
  | _, _, .cons a b => .cons (Rep.monoY l a) (Reps.monoY l b)
end
end
/-- J gives the items, one a turn -/
def Goes (K : PySem.W.Frag) (J : It) (ds : List D) (H : Hp) (α : Al) (M : Store) : Prop :=
  ∀ H' α' M', Ly H α M H' α' M' → WOk K H' α' M' → (∀ i, i < ds.length → J.go i H') ∧ J.stop ds.length H' ∧
    ∀ i d, ds[i]? = some d → ∀ x H'', J.yld i H' x H'' → Le H' α' M' H'' α' M' ∧ WOk K H'' α' M' ∧ Rep K H'' α' M' x d
theorem Goes.le {K : PySem.W.Frag} {J : It} {ds : List D} {H H1 : Hp} {α α1 : Al} {M M1 : Store} (g : Goes K J ds H α M) (l : Ly H α M H1 α1 M1) : Goes K J ds H1 α1 M1 :=
  fun H' α' M' l' w => g H' α' M' (l.trans l') w
/-- what is walked, and what may be of it -/
def RdI (K : PySem.W.Frag) (E : XK) (wi : TI) (m : DA) : Prop := ∀ σ H ρ α M (R : It → Hp → Prop), WOk K H α M → SlOk K H α M σ ρ →
  Post K E H α M (m ρ M) (fun ds H' α' M' => ∀ J, Goes K J ds H' α' M' → R J H') → wi σ H R
structure PID (X : Cx) (E : XK) (tg iter : Expr) (m : DA) : Prop where
  ex : ∃ wi, PI X tg iter wi ∧ RdI X.K E wi m
def seqF : D → Option (List D)
  | .tup xs => some xs
  | .lst xs => some xs
  | .rol xs => some xs
  | _ => none
def itSeq (a : DE) : DA := fun ρ M => (a ρ M).bind fun d M1 => match seqF d with
  | some xs => .ok xs M1
  | none => .stuck
/-- a mutable list, of which nothing is written any more -/
def itR1 (a : DA) : DA := fun ρ M => (a ρ M).bind fun ds M1 => match ds with
  | [.int j] => if -(2 ^ 62) ≤ j ∧ j < 2 ^ 62 then .ok ((List.range j.toNat).map fun i => .int (i : Nat)) M1 else .stuck
  | _ => .stuck
def itR2 (a : DA) : DA := fun ρ M => (a ρ M).bind fun ds M1 => match ds with
  | [.int i, .int j] => if (-(2 ^ 62) ≤ i ∧ i < 2 ^ 62) ∧ -(2 ^ 62) ≤ j ∧ j < 2 ^ 62 then .ok ((List.range (j - i).toNat).map fun k => .int (i + (k : Nat))) M1 else .stuck
  | _ => .stuck
abbrev zipD (xs ys : List D) : List D := List.zipWith (fun x y => .tup [x, y]) xs ys
def itZip (a : DA) : DA := fun ρ M => (a ρ M).bind fun ds M1 => match ds with
  | [.tup xs, .tup ys] => .ok (zipD xs ys) M1
  | [.lst xs, .lst ys] => .ok (zipD xs ys) M1
  | [.lst xs, .rol ys] => .ok (zipD xs ys) M1
  | [.rol xs, .lst ys] => .ok (zipD xs ys) M1
  | [.rol xs, .rol ys] => .ok (zipD xs ys) M1
  | _ => .stuck
def enumD : Nat → List D → List D
  | _, [] => []
  | i, x :: xs => .tup [.int (i : Nat), x] :: enumD (i + 1) xs
theorem zipD_get {xs ys : List D} {i : Nat} {d : D} (h : (zipD xs ys)[i]? = some d) : ∃ x y, xs[i]? = some x ∧ ys[i]? = some y ∧ d = .tup [x, y] := by
  obtain ⟨x, y, h1, h2, h3⟩ := List.getElem?_zipWith_eq_some.mp h
  exact ⟨x, y, h1, h2, h3.symm⟩
theorem zipD_length {xs ys : List D} : (zipD xs ys).length = min xs.length ys.length := List.length_zipWith
theorem enumD_length : ∀ {xs : List D} {i : Nat}, (enumD i xs).length = xs.length
  | [], i => rfl
  | x :: xs, i => by rw [enumD, List.length_cons, enumD_length, List.length_cons]
theorem enumD_get : ∀ {xs : List D} {j i : Nat} {d : D}, (enumD j xs)[i]? = some d → ∃ x, xs[i]? = some x ∧ d = .tup [.int ((j + i : Nat) : Int), x]
  | [], j, i, d, h => by rw [enumD] at h; cases h
  | x :: xs, j, 0, d, h => by
    rw [enumD] at h
    exact ⟨x, rfl, (Option.some.inj h).symm⟩
  | x :: xs, j, i + 1, d, h => by
    rw [enumD, List.getElem?_cons_succ] at h
    obtain ⟨y, h1, h2⟩ := enumD_get h
    exact ⟨y, h1, by rw [h2, Nat.add_right_comm, Nat.add_assoc]⟩
section
variable {K : PySem.W.Frag} {E : XK} {H : Hp} {α : Al} {M : Store} {a b : Addr} {xs ys : List V} {ds es : List D}
/-- a walk of values that stand in the heap as it is -/
theorem goes_at {J : It} {G : Hp → Prop} (w : Walk J xs.length G (YAt xs)) (hg : ∀ H' α' M', Ly H α M H' α' M' → G H') (r : Reps K H α M xs ds) : Goes K J ds H α M := by
  intro H' α' M' l w'
  have g := hg _ _ _ l
  refine ⟨fun i hi => w.goes i H' (by rw [r.length]; exact hi) g, by rw [← r.length]; exact w.stops H' g, fun i d hd x H'' y => ?_⟩
  obtain ⟨v, h1, h2⟩ := r.get hd
  have hi : i < xs.length := by
    rcases Nat.lt_or_ge i xs.length with z | z
    · exact z
    · rw [List.getElem?_eq_none z] at h1; cases h1
  obtain ⟨e, y⟩ := w.yields i H' x H'' hi g y
  rw [h1] at y
  cases y
  rw [e]
  exact ⟨Le.refl, w', h2.monoY l⟩
theorem goes_tup (h : TupAt K H α M a xs) (r : Reps K H α M xs ds) : Goes K (Itt K a) ds H α M := goes_at walk_tup (fun _ _ _ l => (h.monoY l).sq) r
theorem goes_lst (h : LstAt H α M a xs) (r : Reps K H α M xs ds) : Goes K (Itl K a) ds H α M := goes_at walk_list (fun _ _ _ l => (h.monoY l).sq) r
theorem goes_rol (h : RolAt K H α M a xs) (r : Reps K H α M xs ds) : Goes K (Itl K a) ds H α M := goes_at walk_list (fun _ _ _ l => (h.monoY l).sq) r
/-- a walk of new pairs -/
theorem goes_pair {J : It} {n : Nat} {G : Hp → Prop} {p q : Nat → Option V} (w : Walk J n G (YPair p q)) (hg : ∀ H' α' M', Ly H α M H' α' M' → G H') (hn : ds.length = n)
    (r : ∀ i d, ds[i]? = some d → ∃ x y, d = .tup [x, y] ∧ (∀ v, p i = some v → Rep K H α M v x) ∧ ∀ v, q i = some v → Rep K H α M v y) : Goes K J ds H α M := by
  intro H' α' M' l w'
  have g := hg _ _ _ l
  subst hn
  refine ⟨fun i hi => w.goes i H' hi g, w.stops H' g, fun i d hd x H'' y => ?_⟩
  have hi : i < ds.length := by
    rcases Nat.lt_or_ge i ds.length with z | z
    · exact z
    · rw [List.getElem?_eq_none z] at hd; cases hd
  obtain ⟨T, u, v, e1, e2, e3, e4, e5⟩ := w.yields i H' x H'' hi g y
  obtain ⟨x', y', f1, f2, f3⟩ := r i d hd
  subst e1 e3 f1
  have l2 : Le H' α' M' (upd H' T (.tup [u, v])) α' M' := Le.laid w' e2
  refine ⟨l2, w'.laid e2, .tup (.inl ⟨.inl upd_same, w'.free e2⟩) (.cons ((f2 _ e4).monoY (l.trans l2.ly)) (.cons ((f3 _ e5).monoY (l.trans l2.ly)) .nil))⟩
theorem rep_seqF {v : V} {d : D} (r : Rep K H α M v d) (h : seqF d = some ds) : ∃ a xs, v = .ref a ∧ Reps K H α M xs ds ∧ ((SqL K H a xs ∧ Goes K (Itl K a) ds H α M) ∨ (SqT K H a xs ∧ Goes K (Itt K a) ds H α M)) := by
  cases r with
  | tup t r => cases h; exact ⟨_, _, rfl, r, .inr ⟨t.sq, goes_tup t r⟩⟩
  | lst t r => cases h; exact ⟨_, _, rfl, r, .inl ⟨t.sq, goes_lst t r⟩⟩
  | rol t r => cases h; exact ⟨_, _, rfl, r, .inl ⟨t.sq, goes_rol t r⟩⟩
  | _ => cases h
end
section
variable {X : Cx} {E : XK} {tg e e2 : Expr} {es : List Expr} {ma : DE} {m : DA} {p pos : Pos}
theorem PI.or {t u : TI} (h : PI X tg e t) (h' : PI X tg e u) : PI X tg e (fun σ H R => t σ H R ∨ u σ H R) :=
  ⟨fun pins s σ H R I q => q.elim (h.run pins s σ H R I) (h'.run pins s σ H R I)⟩
/-- either kind, by what comes -/
theorem pi_seq {l : Expr} {tl : TE} (hl : PE X l tl) : PI X tg l (fun σ H R => tl σ H fun x H1 => ∃ a xs, x = .ref a ∧ ((SqL X.K H1 a xs ∧ R (Itl X.K a) H1) ∨ (SqT X.K H1 a xs ∧ R (Itt X.K a) H1))) := by
  refine ⟨fun pins s σ H R I h => ?_⟩
  refine thn (hl.run pins s σ H _ I h) fun v s1 ⟨x, H1, I1, r1, q1⟩ => ?_
  obtain ⟨a, xs, e, q⟩ := q1
  subst e
  cases r1
  rcases q with ⟨hq, q⟩ | ⟨hq, q⟩
  · obtain ⟨its, rv, p, hz⟩ := I1.list hq
    refine wpAny_pyIter_list p.isList ?_
    refine ⟨s1.heap.objs.size, [s1.heap.objs.size], _, _, H1, rfl, I1.kept (t' := s1.toks) fun b o e => Heap.get?_push_of_some _ e, turn_list a _, ⟨_, Heap.get?_push_size _ rfl, rfl, rfl⟩, fun b hb => ?_, q⟩
    have e : b = s1.heap.objs.size := by simpa using hb
    subst e
    exact I1.fpOk (Nat.le_refl _) (I1.hok.fresh (Nat.le_refl _))
  · obtain ⟨its, rv, p, hz⟩ := I1.tuple hq
    refine wpAny_pyIter_tuple (show s1.heap.IsTuple a its.toArray from p) ?_
    refine ⟨s1.heap.objs.size, [s1.heap.objs.size], _, _, H1, rfl, I1.kept (t' := s1.toks) fun b o e => Heap.get?_push_of_some _ e, turn_tuple a _, ⟨_, Heap.get?_push_size _ rfl, rfl, rfl⟩, fun b hb => ?_, q⟩
    have e : b = s1.heap.objs.size := by simpa using hb
    subst e
    exact I1.fpOk (Nat.le_refl _) (I1.hok.fresh (Nat.le_refl _))
theorem pid_seq (h : PD X E e ma) : PID X E tg e (itSeq ma) := by
  obtain ⟨t, h1, r1⟩ := h.ex
  refine ⟨_, pi_seq h1, fun σ H ρ α M R w s q => ?_⟩
  refine r1 σ H ρ α M _ w s (Post.imp (Post.bind q) fun d H1 α1 M1 l1 w1 h1 v rv => ?_)
  cases z : seqF d with
  | none => rw [z] at h1; exact h1.elim
  | some ds =>
    rw [z] at h1
    obtain ⟨a, xs, e, _, q⟩ := rep_seqF rv z
    refine ⟨a, xs, e, ?_⟩
    rcases q with ⟨q1, q2⟩ | ⟨q1, q2⟩
    · exact .inl ⟨q1, Post.here (E := E) w1 h1 _ q2⟩
    · exact .inr ⟨q1, Post.here (E := E) w1 h1 _ q2⟩
theorem goes_range {K : PySem.W.Frag} {H : Hp} {α : Al} {M : Store} {lo : Int} {n : Nat} : Goes K (Itr lo n) ((List.range n).map fun k => .int (lo + (k : Nat))) H α M := by
  intro H' α' M' l w
  refine ⟨fun i hi => ?_, ?_, fun i d hd x H'' y => ?_⟩
  · rw [List.length_map, List.length_range] at hi; exact hi
  · rw [List.length_map, List.length_range]; exact Nat.le_refl _
  · obtain ⟨y1, y2⟩ := y
    subst y1 y2
    rw [List.getElem?_map] at hd
    obtain ⟨k, h1, h2⟩ := Option.map_eq_some_iff.mp hd
    have hi : i < n := by
      rcases Nat.lt_or_ge i n with z | z
      · exact z
      · rw [List.getElem?_eq_none (by simpa using z)] at h1; cases h1
    rw [List.getElem?_range hi] at h1
    cases h1
    subst h2
    exact ⟨Le.refl, w, .int _⟩
theorem pid_r1 (ha : PDA X E [e] m) (hg : Gl X "range") (hm : X.mg "range" = none) (hs : starEach [e] X.env = [(false, eval e X.env)] := by rfl) : PID X E tg (.Call (.Name "range" p) [e] [] pos) (itR1 m) := by
  obtain ⟨t, h1, r1⟩ := ha.ex
  refine ⟨_, pi_range1 hg hm h1 hs, fun σ H ρ α M R w s q => ?_⟩
  refine r1 σ H ρ α M _ w s (Post.imp (Post.bind q) fun ds H1 α1 M1 l1 w1 h1 vs rv => ?_)
  match ds, rv, h1 with
  | [.int j], .cons (.int _) .nil, h1 =>
    obtain ⟨⟨k1, k2⟩, h1⟩ := ite_ok h1
    refine ⟨j, rfl, k1, k2, Post.here (E := E) w1 h1 _ ?_⟩
    have := goes_range (K := X.K) (H := H1) (α := α1) (M := M1) (lo := 0) (n := j.toNat)
    simpa using this
theorem pid_r2 (ha : PDA X E [e, e2] m) (hg : Gl X "range") (hm : X.mg "range" = none) (hs : starEach [e, e2] X.env = [(false, eval e X.env), (false, eval e2 X.env)] := by rfl) (hs2 : starEach [e2] X.env = [(false, eval e2 X.env)] := by rfl) : PID X E tg (.Call (.Name "range" p) [e, e2] [] pos) (itR2 m) := by
  obtain ⟨t, h1, r1⟩ := ha.ex
  refine ⟨_, pi_range2 hg hm h1 hs hs2, fun σ H ρ α M R w s q => ?_⟩
  refine r1 σ H ρ α M _ w s (Post.imp (Post.bind q) fun ds H1 α1 M1 l1 w1 h1 vs rv => ?_)
  match ds, rv, h1 with
  | [.int i, .int j], .cons (.int _) (.cons (.int _) .nil), h1 =>
    obtain ⟨⟨⟨k1, k2⟩, k3, k4⟩, h1⟩ := ite_ok h1
    exact ⟨i, j, rfl, ⟨k1, k2, k3, k4⟩, Post.here (E := E) w1 h1 _ goes_range⟩
theorem goes_zipL {K : PySem.W.Frag} {H : Hp} {α : Al} {M : Store} {a b : Addr} {xs ys : List V} {ds es : List D} (g1 : ∀ H' α' M', Ly H α M H' α' M' → SqL K H' a xs) (g2 : ∀ H' α' M', Ly H α M H' α' M' → SqL K H' b ys) (r : Reps K H α M xs ds) (q : Reps K H α M ys es) : Goes K (Itz K a b) (zipD ds es) H α M := by
  refine goes_pair (walk_zip (xs := xs) (ys := ys) rfl) (fun _ _ _ l => ⟨g1 _ _ _ l, g2 _ _ _ l⟩) (by rw [zipD_length, r.length, q.length]) fun i d hd => ?_
  obtain ⟨x, y, h1, h2, h3⟩ := zipD_get hd
  refine ⟨x, y, h3, fun v e => ?_, fun v e => ?_⟩
  · obtain ⟨u, k1, k2⟩ := r.get h1
    rw [e] at k1; cases k1; exact k2
  · obtain ⟨u, k1, k2⟩ := q.get h2
    rw [e] at k1; cases k1; exact k2
theorem walk_zipT {K : PySem.W.Frag} {a b : Addr} {xs ys : List V} {n : Nat} (hn : n = min xs.length ys.length) : Walk (ItzT K a b) n (fun H => SqT K H a xs ∧ SqT K H b ys) (YPair (fun i => xs[i]?) (fun i => ys[i]?)) := by
  subst hn
  refine ⟨fun i _ hi q => ?_, fun _ q => ⟨xs, ys, q.1, q.2, by omega⟩, fun i H v H' _ q y => ?_⟩
  · have h1 : i < xs.length := by omega
    have h2 : i < ys.length := by omega
    exact ⟨xs, ys, xs[i], ys[i], q.1, q.2, by simp [h1], by simp [h2]⟩
  · obtain ⟨T, x, z, h1, h2, h3, h4, h5⟩ := y
    exact ⟨T, x, z, h1, h2, h3, h4 xs q.1, h5 ys q.2⟩
theorem goes_zipT {K : PySem.W.Frag} {H : Hp} {α : Al} {M : Store} {a b : Addr} {xs ys : List V} {ds es : List D} (g1 : ∀ H' α' M', Ly H α M H' α' M' → SqT K H' a xs) (g2 : ∀ H' α' M', Ly H α M H' α' M' → SqT K H' b ys) (r : Reps K H α M xs ds) (q : Reps K H α M ys es) : Goes K (ItzT K a b) (zipD ds es) H α M := by
  refine goes_pair (walk_zipT (xs := xs) (ys := ys) rfl) (fun _ _ _ l => ⟨g1 _ _ _ l, g2 _ _ _ l⟩) (by rw [zipD_length, r.length, q.length]) fun i d hd => ?_
  obtain ⟨x, y, h1, h2, h3⟩ := zipD_get hd
  refine ⟨x, y, h3, fun v e => ?_, fun v e => ?_⟩
  · obtain ⟨u, k1, k2⟩ := r.get h1
    rw [e] at k1; cases k1; exact k2
  · obtain ⟨u, k1, k2⟩ := q.get h2
    rw [e] at k1; cases k1; exact k2
theorem pid_zip {elts : List Expr} {kk : Nat} {tpos : Pos} (ha : PDA X E [e, e2] m) (hg : Gl X "zip") (hm : X.mg "zip" = none)
    (hs : starEach [e, e2] X.env = (false, eval e X.env) :: starEach [e2] X.env := by rfl) (hpl : (backTo pos (starEach [e2] X.env)).any (·.1) = false := by rfl) : PID X E (.Tuple elts kk tpos) (.Call (.Name "zip" p) [e, e2] [] pos) (itZip m) := by
  obtain ⟨t, h1, r1⟩ := ha.ex
  refine ⟨_, pi_zipA hg hm h1 hs hpl, fun σ H ρ α M R w s q => ?_⟩
  refine r1 σ H ρ α M _ w s (Post.imp (Post.bind q) fun ds H1 α1 M1 l1 w1 h1 vs rv => ?_)
  match ds, rv, h1 with
  | [.tup ds, .tup es], .cons (.tup u1 r1) (.cons (.tup u2 r2) .nil), h1 =>
    exact ⟨_, _, _, _, rfl, .inr ⟨u1.sq, u2.sq, Post.here (E := E) w1 h1 _ (goes_zipT (fun _ _ _ l => (u1.monoY l).sq) (fun _ _ _ l => (u2.monoY l).sq) r1 r2)⟩⟩
  | [.lst ds, .lst es], .cons (.lst u1 r1) (.cons (.lst u2 r2) .nil), h1 =>
    exact ⟨_, _, _, _, rfl, .inl ⟨u1.sq, u2.sq, Post.here (E := E) w1 h1 _ (goes_zipL (fun _ _ _ l => (u1.monoY l).sq) (fun _ _ _ l => (u2.monoY l).sq) r1 r2)⟩⟩
  | [.lst ds, .rol es], .cons (.lst u1 r1) (.cons (.rol u2 r2) .nil), h1 =>
    exact ⟨_, _, _, _, rfl, .inl ⟨u1.sq, u2.sq, Post.here (E := E) w1 h1 _ (goes_zipL (fun _ _ _ l => (u1.monoY l).sq) (fun _ _ _ l => (u2.monoY l).sq) r1 r2)⟩⟩
  | [.rol ds, .lst es], .cons (.rol u1 r1) (.cons (.lst u2 r2) .nil), h1 =>
    exact ⟨_, _, _, _, rfl, .inl ⟨u1.sq, u2.sq, Post.here (E := E) w1 h1 _ (goes_zipL (fun _ _ _ l => (u1.monoY l).sq) (fun _ _ _ l => (u2.monoY l).sq) r1 r2)⟩⟩
  | [.rol ds, .rol es], .cons (.rol u1 r1) (.cons (.rol u2 r2) .nil), h1 =>
    exact ⟨_, _, _, _, rfl, .inl ⟨u1.sq, u2.sq, Post.here (E := E) w1 h1 _ (goes_zipL (fun _ _ _ l => (u1.monoY l).sq) (fun _ _ _ l => (u2.monoY l).sq) r1 r2)⟩⟩

/-! ### loops -/
def mForGo (b : Bd) (body : DS) : List D → DS
  | [], ρ, M => .ok (.nx, ρ) M
  | d :: ds, ρ, M => (b d ρ M).bind fun ρ1 M1 => (body ρ1 M1).bind fun r M2 => match r.1 with
    | .nx => mForGo b body ds r.2 M2
    | .ct => mForGo b body ds r.2 M2
    | .bk => .ok (.nx, r.2) M2
    | .rt d => .ok (.rt d, r.2) M2
def mFor (it : DA) (b : Bd) (body : DS) : DS := fun ρ M => (it ρ M).bind fun ds M1 => mForGo b body ds ρ M1
theorem pds_for {Γ : GG} {N : List Str} {k : Nat} {body : List Stmt} {b : Bd} {vs : List Nat} {mb : DS} (C : Ctx X E Γ N k) (hi : PID X E tg e m) (hg : PGD X E tg b vs) (hb : PDSs X E body mb)
    (hs : ∀ x, foldedSetIterable e X.env x = pure x := by intro _; rfl) : PDS X E (.For tg e body [] pos) (mFor m b mb) := by
  obtain ⟨wi, i1, i2⟩ := hi.ex
  obtain ⟨g, g1, g2⟩ := hg.ex
  obtain ⟨tb, b1, b2⟩ := hb.ex
  refine ⟨_, ps_for C.own C.calm i1 g1 b1 hs, fun σ H ρ α M D w s h => ?_⟩
  refine i2 σ H ρ α M _ w s (Post.imp (Post.bind h) fun ds H1 α1 M1 l1 w1 h1 J hJ => ?_)
  refine ⟨fun i n σ' H' => n = ds.length - i ∧ i ≤ ds.length ∧ ∃ ρ' α' M', WOk X.K H' α' M' ∧ SlOk X.K H' α' M' σ' ρ' ∧ Le H1 α1 M1 H' α' M' ∧ Post X.K E H' α' M' (mForGo b mb (ds.drop i) ρ' M') (QS X.K D), ⟨ds.length, by simp, Nat.zero_le _, ρ, α1, M1, w1, s.mono l1, Le.refl, h1⟩, ?_⟩
  rintro i n σ' H' ⟨rfl, hi, ρ', α', M', w', s', l', h'⟩
  obtain ⟨j1, j2, j3⟩ := hJ H' α' M' l'.ly w'
  by_cases hlt : i < ds.length
  · refine .inr ⟨j1 i hlt, fun σ2 H2 => i + 1 ≤ ds.length ∧ ∃ ρ' α' M', WOk X.K H2 α' M' ∧ SlOk X.K H2 α' M' σ2 ρ' ∧ Le H1 α1 M1 H2 α' M' ∧ Post X.K E H2 α' M' (mForGo b mb (ds.drop (i + 1)) ρ' M') (QS X.K D), fun σ2 H2 h2 => ⟨ds.length - (i + 1), by omega, rfl, h2.1, h2.2⟩, fun x H2 y => ?_⟩
    have hd : ds[i]? = some ds[i] := List.getElem?_eq_getElem hlt
    obtain ⟨l2, w2, r2⟩ := j3 i _ hd x H2 y
    rw [List.drop_eq_getElem_cons hlt] at h'
    have h2 := Post.le l2 h'
    refine g2 x _ σ' ρ' H2 α' M' _ w2 r2 (s'.mono l2) (Post.imp (Post.bind h2) fun ρ3 H3 α3 M3 l3 w3 h3 σ3 s3 _ _ => ?_)
    refine b2 σ3 H3 ρ3 α3 M3 _ w3 s3 (Post.imp (Post.bind h3) fun r H4 α4 M4 l4 w4 h4 => ?_)
    obtain ⟨fl, ρ4⟩ := r
    have ll : Le H1 α1 M1 H4 α4 M4 := ((l'.trans l2).trans l3).trans l4
    cases fl with
    | nx => exact fun σ5 s5 => ⟨hlt, ρ4, α4, M4, w4, s5, ll, h4⟩
    | ct => exact fun σ5 s5 => ⟨hlt, ρ4, α4, M4, w4, s5, ll, h4⟩
    | bk => exact Post.here (E := E) (b := (Fl.nx, ρ4)) w4 h4
    | rt d => exact Post.here (E := E) (b := (Fl.rt d, ρ4)) w4 h4
  · have e : i = ds.length := by omega
    subst e
    rw [List.drop_eq_nil_of_le (Nat.le_refl _)] at h'
    exact .inl ⟨j2, Post.here (E := E) (b := (Fl.nx, ρ')) w' h' σ' s'⟩
def mWhileN (c : DT) (body : DS) : Nat → DS
  | 0, _, _ => .stuck
  | k + 1, ρ, M => (c ρ M).bind fun t M1 => if t = true then (body ρ M1).bind fun r M2 => (match r.1 with
      | .nx => mWhileN c body k r.2 M2
      | .ct => mWhileN c body k r.2 M2
      | .bk => .ok (.nx, r.2) M2
      | .rt d => .ok (.rt d, r.2) M2) else .ok (.nx, ρ) M1
/-- with a bound on the number of turns -/
def mWhile (fu : Sl → Store → Nat) (c : DT) (body : DS) : DS := fun ρ M => mWhileN c body (fu ρ M) ρ M
theorem pds_while {Γ : GG} {N : List Str} {k : Nat} {body : List Stmt} {fu : Sl → Store → Nat} {mc : DT} {mb : DS} (C : Ctx X E Γ N k) (hc : PDT X E e mc) (hb : PDSs X E body mb) : PDS X E (.While e body [] pos) (mWhile fu mc mb) := by
  obtain ⟨tc, c1, c2⟩ := hc.ex
  obtain ⟨tb, b1, b2⟩ := hb.ex
  refine ⟨_, ps_while C.own c1 b1, fun σ H ρ α M D w s h => ?_⟩
  refine ⟨fun n σ' H' => ∃ ρ' α' M', WOk X.K H' α' M' ∧ SlOk X.K H' α' M' σ' ρ' ∧ Post X.K E H' α' M' (mWhileN mc mb n ρ' M') (QS X.K D), ⟨fu ρ M, ρ, α, M, w, s, h⟩, ?_⟩
  rintro n σ' H' ⟨ρ', α', M', w', s', h'⟩
  cases n with
  | zero => exact h'.elim
  | succ n =>
    refine c2 σ' H' ρ' α' M' _ w' s' (Post.imp (Post.bind h') fun t H1 α1 M1 l1 w1 h1 => ?_)
    cases t with
    | false => exact Post.here (E := E) (b := (Fl.nx, ρ')) w1 h1 σ' (s'.mono l1)
    | true =>
      refine ⟨fun σ2 H2 => ∃ ρ' α' M', WOk X.K H2 α' M' ∧ SlOk X.K H2 α' M' σ2 ρ' ∧ Post X.K E H2 α' M' (mWhileN mc mb n ρ' M') (QS X.K D), fun σ2 H2 h2 => ⟨n, Nat.lt_succ_self n, h2⟩, ?_⟩
      refine b2 σ' H1 ρ' α1 M1 _ w1 (s'.mono l1) (Post.imp (Post.bind h1) fun r H4 α4 M4 l4 w4 h4 => ?_)
      obtain ⟨fl, ρ4⟩ := r
      cases fl with
      | nx => exact fun σ5 s5 => ⟨ρ4, α4, M4, w4, s5, h4⟩
      | ct => exact fun σ5 s5 => ⟨ρ4, α4, M4, w4, s5, h4⟩
      | bk => exact Post.here (E := E) (b := (Fl.nx, ρ4)) w4 h4
      | rt d => exact Post.here (E := E) (b := (Fl.rt d, ρ4)) w4 h4
end
end DL

set_option Elab.async false
set_option linter.all false
set_option maxRecDepth 100000
set_option maxHeartbeats 4000000
namespace DL
open PySem PySem.Spec PyProof.Rows L2

/-! ### the rules' own forms, alike in all contexts -/
def cE (K : PySem.W.Frag) (E : XK) (m : DE) : TE := fun σ H Q => ∃ ρ α M, WOk K H α M ∧ SlOk K H α M σ ρ ∧ Post K E H α M (m ρ M) (QE K Q)
def cT (K : PySem.W.Frag) (E : XK) (m : DT) : TT := fun σ H Q => ∃ ρ α M, WOk K H α M ∧ SlOk K H α M σ ρ ∧ Post K E H α M (m ρ M) (QT Q)
def cG (K : PySem.W.Frag) (E : XK) (b : Bd) (vs : List Nat) : TG := fun v σ H Q => ∃ d ρ α M, WOk K H α M ∧ Rep K H α M v d ∧ SlOk K H α M σ ρ ∧ Post K E H α M (b d ρ M) (QG K σ vs Q)
def cI (K : PySem.W.Frag) (E : XK) (m : DA) : TI := fun σ H R => ∃ ρ α M, WOk K H α M ∧ SlOk K H α M σ ρ ∧ Post K E H α M (m ρ M) (fun ds H' α' M' => ∀ J, Goes K J ds H' α' M' → R J H')
section
variable {X : Cx} {E : XK} {e tg : Expr} {pos : Pos}
theorem PD.can {m : DE} (h : PD X E e m) : PE X e (cE X.K E m) := by
  obtain ⟨t, h1, r1⟩ := h.ex
  exact ⟨fun pins s σ H Q I ⟨ρ, α, M, w, sl, q⟩ => h1.run pins s σ H Q I (r1 σ H ρ α M Q w sl q)⟩
theorem PDT.can {m : DT} (h : PDT X E e m) : PT X e (cT X.K E m) := by
  obtain ⟨t, h1, r1⟩ := h.ex
  exact ⟨fun pins s σ H Q I ⟨ρ, α, M, w, sl, q⟩ => h1.run pins s σ H Q I (r1 σ H ρ α M Q w sl q)⟩
theorem PGD.can {b : Bd} {vs : List Nat} (h : PGD X E tg b vs) : PG X tg (cG X.K E b vs) := by
  obtain ⟨t, h1, r1⟩ := h.ex
  exact ⟨fun pins s σ H v u Q I rv ⟨d, ρ, α, M, w, rp, sl, q⟩ => h1.run pins s σ H v u Q I rv (r1 v d σ ρ H α M Q w rp sl q)⟩
theorem PID.can {m : DA} (h : PID X E tg e m) : PI X tg e (cI X.K E m) := by
  obtain ⟨t, h1, r1⟩ := h.ex
  exact ⟨fun pins s σ H R I ⟨ρ, α, M, w, sl, q⟩ => h1.run pins s σ H R I (r1 σ H ρ α M R w sl q)⟩
end

/-! ### a block's own slots forgotten -/
def wipeD (ρ : Sl) : List Nat → Sl
  | [] => ρ
  | v :: vs => (wipeD ρ vs).set v none
theorem wipe_len {β : Type} {l : List (Option β)} {v : Nat} : (l.set v none).length = l.length := List.length_set
theorem wipe_get (σ : L2.St) : ∀ (vs : List Nat) (i : Nat), (wipe σ vs)[i]? = if i ∈ vs ∧ i < σ.length then some none else σ[i]?
  | [], i => by simp [wipe]
  | v :: vs, i => by
    unfold wipe
    rw [List.getElem?_set, wipe_length, wipe_get σ vs i]
    by_cases h : v = i
    · subst h
      by_cases hl : v < σ.length
      · simp [hl]
      · simp [hl, List.getElem?_eq_none (Nat.le_of_not_lt hl)]
    · have h' : ¬ i = v := fun e => h e.symm
      simp [h, h']
theorem wipe_eq {σ σ2 : L2.St} {vs us : List Nat} (hs : ∀ j ∈ us, j ∈ vs) (hl : σ2.length = σ.length) (h : ∀ j, j ∉ us → σ2[j]? = (wipe σ vs)[j]?) : wipe σ2 vs = wipe σ vs := by
  refine List.ext_getElem? fun i => ?_
  rw [wipe_get σ2 vs i]
  by_cases hi : i ∈ vs
  · by_cases hq : i < σ.length
    · rw [if_pos ⟨hi, by rw [hl]; exact hq⟩, wipe_get σ vs i, if_pos ⟨hi, hq⟩]
    · rw [if_neg fun z => hq (by rw [← hl]; exact z.2), wipe_get σ vs i, if_neg fun z => hq z.2, List.getElem?_eq_none (by rw [hl]; exact Nat.le_of_not_lt hq), List.getElem?_eq_none (Nat.le_of_not_lt hq)]
  · rw [if_neg fun z => hi z.1]
    exact h i fun z => hi (hs i z)
section
variable {K : PySem.W.Frag} {H H1 H2 : Hp} {α α1 α2 : Al} {M M1 M2 : Store}
theorem SlOk.none {σ : L2.St} {ρ : Sl} (h : SlOk K H α M σ ρ) (i : Nat) : SlOk K H α M (σ.set i none) (ρ.set i none) := by
  refine ⟨by simp [h.len], fun j e q => ?_⟩
  by_cases z : i = j
  · subst z
    by_cases hi : i < ρ.length
    · rw [List.getElem?_set_self hi] at q; cases q
    · rw [List.getElem?_eq_none (by simpa using hi)] at q; cases q
  · rw [List.getElem?_set_ne z] at q
    rw [List.getElem?_set_ne z]
    exact h.at_ j e q
theorem SlOk.wipe {σ : L2.St} {ρ : Sl} (h : SlOk K H α M σ ρ) : ∀ vs : List Nat, SlOk K H α M (wipe σ vs) (wipeD ρ vs)
  | [] => h
  | v :: vs => (SlOk.wipe h vs).none v
theorem SlOk.hold {σ : L2.St} {ρ : Sl} {p : Addr} {o : HO} (w : WOk K H α M) (hp : H p = Option.none) (h : SlOk K H α M σ ρ) : SlOk K (upd H p o) (α.hold p) M σ ρ :=
  ⟨h.len, fun i d e => let ⟨v, a, b⟩ := h.at_ i d e; ⟨v, a, b.hold w hp⟩⟩

theorem Le.lyHold {p : Addr} (l : Le H α M (without H1 p) α1 M1) : Ly H α M H1 (α1.hold p) M1 := by
  refine ⟨fun a o h n => ?_, l.pre⟩
  obtain ⟨h1, n1⟩ := l.keep a o h n
  have ne : a ≠ p := fun e => by rw [e, without_same] at h1; cases h1
  rw [without_ne ne] at h1
  exact ⟨h1, fun q => (Own.hold.mp q).elim n1 ne⟩
end

/-! ### [elt for target in iter if ..] -/
abbrev E0 : XK := fun _ _ _ => False
def noErr {β : Type} (r : Res β) : Res β := match r with
  | .ok b M => .ok b M
  | _ => .stuck
def mLcGo (b : Bd) (tt : DT) (me : DE) : List D → Sl → Store → Res (List D)
  | [], _, M => .ok [] M
  | d :: ds, ρ, M => (b d ρ M).bind fun ρ1 M1 => (tt ρ1 M1).bind fun t M2 => if t = true then (me ρ1 M2).bind fun y M3 => (mLcGo b tt me ds ρ M3).bind fun ys M4 => .ok (y :: ys) M4 else mLcGo b tt me ds ρ M2
def mLc (mk : List D → Store → Res D) (it : DA) (b : Bd) (tt : DT) (me : DE) (own : List Nat) : DE := fun ρ M => (it ρ M).bind fun ds M1 => if ds.length ≤ 16777216 then (noErr (mLcGo b tt me ds (wipeD ρ own) M1)).bind mk else .stuck
def mYes : DT := fun _ M => .ok true M
theorem bind_ok {β γ : Type} {r : Res β} {f : β → Store → Res γ} {c : γ} {M : Store} (h : r.bind f = .ok c M) : ∃ x M1, r = .ok x M1 ∧ f x M1 = .ok c M := by
  cases r with
  | ok x M1 => exact ⟨x, M1, rfl, h⟩
  | err x M1 => cases h
  | stuck => cases h
theorem Post.noErr {K : PySem.W.Frag} {E : XK} {H : Hp} {α : Al} {M : Store} {β : Type} {r : Res β} {Q : β → Hp → Al → Store → Prop} (h : Post K E H α M (noErr r) Q) : ∃ x M', r = .ok x M' ∧ ∀ H' α', Le H α M H' α' M' → WOk K H' α' M' → Q x H' α' M' := by
  cases r with
  | ok b M' => exact ⟨b, M', rfl, h⟩
  | err x M' => exact h.elim
  | stuck => exact h.elim
theorem al_hold {α β : Al} {p : Addr} (h : β.r = p :: α.r) : ∃ γ : Al, β = γ.hold p ∧ γ.r = α.r := ⟨⟨β.c, α.r⟩, by cases β; cases h; rfl, rfl⟩
theorem upd_held {H : Hp} {p : Addr} {o : HO} : upd (without H p) p o = upd H p o := by
  funext a
  by_cases e : a = p
  · subst e; rw [upd_same, upd_same]
  · rw [upd_ne e, upd_ne e, without_ne e]
theorem without_upd {H : Hp} {p : Addr} {o : HO} : without (upd H p o) p = without H p := by
  funext a
  by_cases e : a = p
  · subst e; rw [without_same, without_same]
  · rw [without_ne e, without_ne e, upd_ne e]
section
variable {K : PySem.W.Frag} {E : XK} {wi : TI} {mi : DA} {b : Bd} {tt : DT} {me : DE} {mk : List D → Store → Res D} {own vs : List Nat}
theorem rd_lc (hm : Mk mk) (hi : RdI K E wi mi) (hv : ∀ j ∈ vs, j ∈ own) : RdE K E (tLc wi (cG K E0 b vs) (cT K E0 tt) (cE K E0 me) own) (mLc mk mi b tt me own) := by
  intro σ H ρ α M Q w s h
  refine hi σ H ρ α M _ w s (Post.imp (Post.bind h) fun ds H1 α1 M1 l1 w1 h1 J hJ L hL => ?_)
  obtain ⟨hl, h1⟩ := ite_ok h1
  obtain ⟨all, Mz, hz, h1⟩ := Post.noErr (Post.bind h1)
  have s1 := s.mono l1
  have nL : L ∉ α1.r := by
    intro z
    obtain ⟨vs, k⟩ := w1.there L z
    rw [hL] at k; cases k
  refine ⟨fun i m H' => m = ds.length - i ∧ i ≤ ds.length ∧ ∃ α' M' acc ad ys, WOk K H' (α'.hold L) M' ∧ α'.r = α1.r ∧ H' L = some (.lst acc) ∧ acc.length ≤ i ∧ Reps K H' (α'.hold L) M' acc ad ∧ Le H1 α1 M1 (without H' L) α' M' ∧
    mLcGo b tt me (ds.drop i) (wipeD ρ own) M' = .ok ys Mz ∧ ad ++ ys = all, ⟨ds.length, by simp, Nat.zero_le _, α1, M1, [], [], all, w1.hold hL, rfl, upd_same, Nat.le_refl _, .nil, ?_, hz, rfl⟩, ?_⟩
  · rw [upd_none hL]; exact Le.refl
  rintro i m H' ⟨rfl, hi', α', M', acc, ad, ys, w', rr, hLx, hai, ra, l', p', ha⟩
  have nL' : L ∉ α'.r := by rw [rr]; exact nL
  have wu := w'.unhold nL'
  obtain ⟨j1, j2, j3⟩ := hJ H' (α'.hold L) M' (Le.lyHold l') w'
  by_cases hlt : i < ds.length
  · refine .inr ⟨j1 i hlt, fun H2 => i + 1 ≤ ds.length ∧ ∃ α' M' acc ad ys, WOk K H2 (α'.hold L) M' ∧ α'.r = α1.r ∧ H2 L = some (.lst acc) ∧ acc.length ≤ i + 1 ∧ Reps K H2 (α'.hold L) M' acc ad ∧ Le H1 α1 M1 (without H2 L) α' M' ∧
      mLcGo b tt me (ds.drop (i + 1)) (wipeD ρ own) M' = .ok ys Mz ∧ ad ++ ys = all, fun H2 h2 => ⟨ds.length - (i + 1), by omega, rfl, h2.1, h2.2⟩, fun x H2 y => ?_⟩
    have hd : ds[i]? = some ds[i] := List.getElem?_eq_getElem hlt
    obtain ⟨l2, w2, r2⟩ := j3 i _ hd x H2 y
    rw [List.drop_eq_getElem_cons hlt] at p'
    obtain ⟨ρ3, M3, q3, p3⟩ := bind_ok p'
    obtain ⟨t, M4, q4, p4⟩ := bind_ok p3
    have s' : SlOk K H' (α'.hold L) M' σ ρ := by
      have k := (s1.mono l').hold (o := .lst acc) wu without_same
      rw [upd_without hLx] at k
      exact k
    have s2 : SlOk K H2 (α'.hold L) M' (wipe σ own) (wipeD ρ own) := (s'.mono l2).wipe own
    refine ⟨_, _, _, _, w2, r2, s2, ?_⟩
    rw [q3]
    intro H3 α3 l3 w3 σ3 s3 e3 k3
    refine ⟨wipe_eq hv (e3.trans (wipe_length _ _)) fun j hj => k3 j hj, _, _, _, w3, s3, ?_⟩
    rw [q4]
    intro H4 α4 l4 w4
    have l24 : Le H' (α'.hold L) M' H4 α4 M4 := (l2.trans l3).trans l4
    obtain ⟨γ4, e4, g4⟩ := al_hold (α := α') (β := α4) (p := L) l24.res
    subst e4
    cases t with
    | false => exact ⟨hlt, γ4, M4, acc, ad, ys, w4, by rw [g4]; exact rr, by rw [l24.held L (List.mem_cons_self)]; exact hLx, Nat.le_succ_of_le hai, ra.mono l24, l'.trans (Le.unhold l24), p4, ha⟩
    | true =>
      obtain ⟨yd, M5, q5, p5⟩ := bind_ok p4
      obtain ⟨yr, M6, q6, p6⟩ := bind_ok p5
      cases p6
      show cE K E0 me σ3 H4 _
      refine ⟨_, _, _, w4, s3.mono l4, ?_⟩
      rw [q5]
      intro H5 α5 l5 w5 yv ry
      have l25 := l24.trans l5
      obtain ⟨γ5, e5, g5⟩ := al_hold (α := α') (β := α5) (p := L) l25.res
      subst e5
      have hL5 : H5 L = some (.lst acc) := by rw [l25.held L (List.mem_cons_self)]; exact hLx
      have nL5 : L ∉ γ5.r := by rw [g5]; exact nL'
      have wu5 : WOk K (without H5 L) γ5 M5 := w5.unhold nL5
      have w6 : WOk K (upd H5 L (.lst (acc ++ [yv]))) (γ5.hold L) M5 := by
        have k := wu5.hold (p := L) (vs := acc ++ [yv]) without_same
        rw [upd_held] at k; exact k
      have r6 : Reps K (upd H5 L (.lst (acc ++ [yv]))) (γ5.hold L) M5 (acc ++ [yv]) (ad ++ [yd]) := by
        have k := (((ra.mono l25).append (.cons ry .nil)).unhold).hold (p := L) (o := .lst (acc ++ [yv])) wu5 without_same
        rw [upd_held] at k; exact k
      exact ⟨acc, hL5, by rw [sizeLine_eq]; omega, hlt, γ5, M5, acc ++ [yv], ad ++ [yd], yr, w6, by rw [g5]; exact rr, upd_same, by rw [List.length_append, List.length_singleton]; omega, r6, by rw [without_upd]; exact l'.trans (Le.unhold l25), q6, by rw [List.append_assoc]; exact ha⟩
  · have e : i = ds.length := by omega
    subst e
    rw [List.drop_eq_nil_of_le (Nat.le_refl _)] at p'
    have p' : Res.ok [] M' = Res.ok ys Mz := p'
    cases p'
    rw [List.append_nil] at ha
    subst ha
    have k := (hm K E (without H' L) α' Mz acc ad Q wu ra.unhold (h1 _ _ l' wu)).2 L without_same
    rw [upd_without hLx] at k
    exact .inl ⟨j2, k⟩
end
section
variable {X : Cx} {E : XK} {Γ : GG} {N : List Str} {k : Nat} {elt tg iter : Expr} {ifs : List Expr} {scope : Scope} {own : List (Str × Nat)} {pos : Pos} {mi : DA} {b : Bd} {tt : DT} {me : DE} {mk : List D → Store → Res D} {vs : List Nat}
/-- a clause's tests -/
structure PDTs (X : Cx) (E : XK) (ifs : List Expr) (m : DT) : Prop where
  can : PTs X ifs (cT X.K E m)
theorem pdts_nil : PDTs X E [] mYes := ⟨⟨fun _ _ _ H _ I ⟨_, _, _, w, _, q⟩ => pts_nil.run _ _ _ H _ I (Post.here (E := E) w q)⟩⟩
theorem pdts_one {c : Expr} (h : PDT X E c tt) : PDTs X E [c] tt := ⟨pts_one h.can⟩
theorem pd_lc (C : Ctx X E Γ N k) (hm : Mk mk) (hi : PID X E tg iter mi) (ok : blkC X.N X.env.scope scope own = true) (hv : ∀ j ∈ vs, j ∈ own.map (·.2))
    (hg : ∀ (s : Shared) (H : Hp) (C : Addr) (cl : List (Str × Addr)) (fp : List Addr), PGD (X.blk s H scope (compEnvC scope cl C X.env) fp) E0 tg b vs) (ht : ∀ (s : Shared) (H : Hp) (C : Addr) (cl : List (Str × Addr)) (fp : List Addr), PDTs (X.blk s H scope (compEnvC scope cl C X.env) fp) E0 ifs tt)
    (he : ∀ (s : Shared) (H : Hp) (C : Addr) (cl : List (Str × Addr)) (fp : List Addr), PD (X.blk s H scope (compEnvC scope cl C X.env) fp) E0 elt me) (hs : ∀ x, foldedSetIterable iter X.env x = pure x := by intro _; rfl) :
    PD X E (.ListComp elt [⟨tg, iter, ifs, 0⟩] scope pos) (mLc mk mi b tt me (own.map (·.2))) := by
  obtain ⟨wi, i1, i2⟩ := hi.ex
  exact ⟨_, pe_lc C.calm (by rw [C.hN]; exact C.nd) i1 (blkOk_by ok) (fun s H c cl fp => (hg s H c cl fp).can) (fun s H c cl fp => (ht s H c cl fp).can) (fun s H c cl fp => (he s H c cl fp).can) hs, rd_lc hm i2 hv⟩
theorem pds_setLc {i : Nat} {y : Str} {py spos : Pos} (C : Ctx X E Γ N k) (hy : X.N[i]? = some y) (hyl : X.env.scope.names.lookup y = some .local) (hsw : swapsWith (.ListComp elt [⟨tg, iter, ifs, 0⟩] scope pos) (some (.Name y py)) spos.line X.env = pure true)
    (hm : Mk mk) (hi : PID X E tg iter mi) (ok : blkC X.N X.env.scope scope own = true) (hv : ∀ j ∈ vs, j ∈ own.map (·.2))
    (hg : ∀ (s : Shared) (H : Hp) (C : Addr) (cl : List (Str × Addr)) (fp : List Addr), PGD (X.blk s H scope (compEnvC scope cl C X.env) fp) E0 tg b vs) (ht : ∀ (s : Shared) (H : Hp) (C : Addr) (cl : List (Str × Addr)) (fp : List Addr), PDTs (X.blk s H scope (compEnvC scope cl C X.env) fp) E0 ifs tt)
    (he : ∀ (s : Shared) (H : Hp) (C : Addr) (cl : List (Str × Addr)) (fp : List Addr), PD (X.blk s H scope (compEnvC scope cl C X.env) fp) E0 elt me) (hs : ∀ x, foldedSetIterable iter X.env x = pure x := by intro _; rfl) :
    PDS X E (.Assign [.Name y py] (.ListComp elt [⟨tg, iter, ifs, 0⟩] scope pos) spos) (mAsg (mLc mk mi b tt me (own.map (·.2))) (bName i)) := by
  obtain ⟨wi, i1, i2⟩ := hi.ex
  refine ⟨_, ps_setLc C.calm (by rw [C.hN]; exact C.nd) hy hyl hsw i1 (blkOk_by ok) (fun s H c cl fp => (hg s H c cl fp).can) (fun s H c cl fp => (ht s H c cl fp).can) (fun s H c cl fp => (he s H c cl fp).can) hs, rd_asg (vs := [i]) (rd_lc hm i2 hv) fun v d σ ρ H α M Q w rv s h => ?_⟩
  refine Post.here (E := E) w h _ (s.set rv i) (by simp) fun j hj => ?_
  rw [List.getElem?_set_ne fun q => hj (by rw [q]; exact List.mem_singleton.mpr rfl)]
end
end DL

set_option Elab.async false
set_option linter.all false
set_option maxRecDepth 100000
set_option maxHeartbeats 4000000
namespace DL
open PySem PySem.Spec PyProof.Rows L2

/-! ### a def's end: its own mutable lists are let go -/
def cutR (n : Nat) (r : Res (Fl × Sl)) : Res D := match r with
  | .ok (.rt d, _) M => if locFree d = true then .ok d (M.take n) else .stuck
  | .ok (.nx, _) M => .ok .non (M.take n)
  | .ok _ _ => .stuck
  | .err x M => if locFrees (x.2.map (·.2)) = true then .err x (M.take n) else .stuck
  | .stuck => .stuck
/-- without letting go -/
def keepR (r : Res (Fl × Sl)) : Res D := match r with
  | .ok (.rt d, _) M => .ok d M
  | .ok (.nx, _) M => .ok .non M
  | .ok _ _ => .stuck
  | .err x M => .err x M
  | .stuck => .stuck
def sl0 (N : Nat) (ds : List D) : Sl := ds.map some ++ List.replicate (N - ds.length) none
def runDef (n N : Nat) (m : DS) : DF := fun ds M => if ds.length = n then cutR M.length (m (sl0 N ds) M) else .stuck
def runDefL (n N : Nat) (m : DS) : DF := fun ds M => if ds.length = n then keepR (m (sl0 N ds) M) else .stuck
section
variable {K : PySem.W.Frag} {E : XK} {H : Hp} {α : Al} {M : Store}
def dEnds (Q : VK) : Ends := { nx := fun _ H' => Q .non H', rt := Q }
theorem post_cut {r : Res (Fl × Sl)} {Q : VK} (w : WOk K H α M) (h : Post K E H α M (cutR M.length r) (QE K Q)) : Post K E H α M r (QS K (dEnds Q)) := by
  cases r with
  | ok b M' =>
    obtain ⟨fl, ρ⟩ := b
    cases fl with
    | nx =>
      intro H' α' l w' σ' s'
      exact h H' _ (Le.cut w l) (w'.cut _) .non .non
    | rt d =>
      unfold cutR at h
      obtain ⟨hf, h⟩ := ite_ok h
      intro H' α' l w' v rv
      exact h H' _ (Le.cut w l) (w'.cut _) v (rv.cut _ hf)
    | bk => exact h.elim
    | ct => exact h.elim
  | err x M' =>
    unfold cutR at h
    obtain ⟨hf, h⟩ := ite_ok h
    intro c od H' α' l w' ex
    refine h c od H' _ (Le.cut w l) (w'.cut _) ⟨ex.1, ?_⟩
    rcases ex.2 with e | ⟨d, vs, e1, e2, e3, e4⟩
    · exact .inl e
    · exact .inr ⟨d, vs, e1, e2, fun q => e3 q.cut, e4.cut _ hf⟩
  | stuck => exact h.elim
theorem post_keep {r : Res (Fl × Sl)} {Q : VK} (h : Post K E H α M (keepR r) (QE K Q)) : Post K E H α M r (QS K (dEnds Q)) := by
  cases r with
  | ok b M' =>
    obtain ⟨fl, ρ⟩ := b
    cases fl with
    | nx => intro H' α' l w' σ' s'; exact h H' _ l w' .non .non
    | rt d => intro H' α' l w' v rv; exact h H' _ l w' v rv
    | bk => exact h.elim
    | ct => exact h.elim
  | err x M' => exact h
  | stuck => exact h.elim
theorem sl0_ok {N : Nat} {Ns : List Str} {vs : List V} {ds : List D} (hN : Ns.length = N) (r : Reps K H α M vs ds) : SlOk K H α M (L2.start Ns vs) (sl0 N ds) := by
  subst hN
  refine ⟨by unfold L2.start sl0; simp [r.length], fun i d h => ?_⟩
  unfold sl0 at h
  unfold L2.start
  have hi : i < ds.length := by
    rcases Nat.lt_or_ge i ds.length with z | z
    · exact z
    · rw [List.getElem?_append_right (by simpa using z), List.getElem?_replicate] at h
      split at h <;> cases h
  rw [List.getElem?_append_left (by simpa using hi), List.getElem?_map] at h
  obtain ⟨d', e1, e2⟩ := Option.map_eq_some_iff.mp h
  cases e2
  obtain ⟨v, k1, k2⟩ := r.get e1
  refine ⟨v, ?_, k2⟩
  have hv : i < vs.length := by rw [r.length]; exact hi
  rw [List.getElem?_append_left (by simpa using hv), List.getElem?_map, k1]
  rfl
end

/-! ### a def's promise -/
structure FnG (Γ : GG) (k : Nat) (f : Addr) (fd : FuncData) (ps : List Str) (sp : Sp) : Prop where
  len : ∀ vs H Q E, sp vs H Q E → vs.length = ps.length
  run : ∀ (A : Around) (outer : List Env) (s : Shared) (H : Hp) (args : Args) (us : List Value) (vs : List V) (Q : VK) (E : XK), Room k A → A.guards = some [] → Env0 Γ.P Γ.w Γ.K Γ.mg Γ.base A outer s H → BindsTo s fd args (ps.zip us) → Vals vs us → sp vs H Q E →
    codeAny (model Γ.P Γ.w) A (.call (.ref f) args) (CR (L2.CX Γ.P Γ.w) outer Γ.P Γ.w H s Q E) s
def spD (K : PySem.W.Frag) (n : Nat) (f : DF) : Sp := fun vs H Q E => vs.length = n ∧ ∃ α M ds, WOk K H α M ∧ Reps K H α M vs ds ∧ Post K E H α M (f ds M) (QE K Q)
theorem FnG.mono {Γ : GG} {j k : Nat} {f : Addr} {fd : FuncData} {ps : List Str} {sp : Sp} (F : FnG Γ j f fd ps sp) (h : j ≤ k) : FnG Γ k f fd ps sp := ⟨F.len, fun A outer s H args us vs Q E hr => F.run A outer s H args us vs Q E (hr.mono h)⟩
/-- as `fn_of`, the guards told to the body -/
theorem fnG_of {Γ : GG} {k : Nat} {f : Addr} {name qual : Str} {params : Arguments} {body : List Stmt} {scope : Scope} {dV kV doc pm cdv ct oc : Value} {an od : Option Addr}
    {osl : Array (Option Value)} {N ps : List Str} {sp : Sp} (lk : Γ.K.lookup f = some ⟨oc, od, .func (PySem.W.fnOf name qual params body scope dV kV doc pm an cdv ct), osl⟩) (hcd : PySem.W.codeIn Γ.K cdv qual = true) (S : FnScope N ps scope)
    (len : ∀ vs H Q E, sp vs H Q E → vs.length = ps.length)
    (hbody : ∀ (A : Around) (outer : List Env) (s : Shared) (H : Hp) (vs : List V) (Q : VK) (E : XK), Room k (A.deeper (envOfC qual scope s.heap.objs.size f cdv)) → A.guards = some [] → sp vs H Q E →
      ∃ t, PSs (cxOf (L2.CX Γ.P Γ.w) Γ.P Γ.w Γ.K Γ.mg Γ.base N qual scope f cdv A outer s H E) body t ∧ t (dEnds Q) (L2.start N vs) H) :
    FnG Γ (k + 1) f (PySem.W.fnOf name qual params body scope dV kV doc pm an cdv ct) ps sp := by
  refine ⟨len, fun A outer s H args us vs Q E hr hgd e0 hb r hsp => ?_⟩
  have hl := len _ _ _ _ hsp
  have KX : Γ.K.In s.heap := e0.mod.kin.keeps fun b o e => (e0.bs b o e).1
  have lim : s.heap.NoLimit := e0.mod.nolimit.keeps fun b o e => (e0.bs b o e).1
  have hkind : ∀ y ∈ ps.zip us, scope.names.lookup y.1 = some .local ∨ (scope.names.lookup y.1 = some .cell ∧ ((cellsFrom (s.heap.objs.size + 1) scope.names []).lookup y.1).isSome = true) := fun ⟨n, v⟩ hy => by
    rcases S.par n (List.of_mem_zip hy).1 with q | q
    · exact .inl q
    · exact .inr ⟨q, PySem.W.cellsFrom_some _ _ _ (.inl q)⟩
  refine codeAny_call_function hr.depth (KX _ _ lk) rfl S.co S.gen rfl (PySem.W.codeRec_of KX hcd) (hb _ _ _ _ ?_)
  refine wpAny_newFunctionEnv_cells S.kind hkind fun env he s1 x => ?_
  subst he
  refine ⟨lim.keeps x.toInCall.keep, codeAny_func ?_⟩
  obtain ⟨t, ht, hq⟩ := hbody A outer s H vs Q E (hr.deeper _) hgd hsp
  have I : Inv (cxOf (L2.CX Γ.P Γ.w) Γ.P Γ.w Γ.K Γ.mg Γ.base N qual scope f cdv A outer s H E) [] (L2.start N vs) H s1 := inv_start S hr.hd e0 hl r x
  refine wpAny_mono (ht.run [] s1 (L2.start N vs) H _ I hq) (fun fl s' hs => ?_) fun e s' hs => hs
  have fin : ∀ {σ' : L2.St} {H' : Hp} {v : V} {u : Value}, Inv (cxOf (L2.CX Γ.P Γ.w) Γ.P Γ.w Γ.K Γ.mg Γ.base N qual scope f cdv A outer s H E) [] σ' H' s' → RelV v u → Q v H' → CE outer Γ.P Γ.w H s Q u s' :=
    fun {σ' H' v u} J rv q => ⟨v, H', J.os, J.bare, J.base, J.hok, rv, q⟩
  cases fl with
  | ret u =>
    obtain ⟨v, σ', H', J, rv, q⟩ := hs
    exact fin J rv q
  | next =>
    obtain ⟨σ', H', J, q⟩ := hs
    exact fin (v := V.non) (u := Value.none) J rfl q
  | brk =>
    obtain ⟨_, _, _, q⟩ := hs
    exact False.elim q
  | cont =>
    obtain ⟨_, _, _, q⟩ := hs
    exact False.elim q

/-- a def of the text, as it stands behind the top: what it computes -/
structure DefOk (Γ : GG) (k : Nat) (d : He.DefD) (ps : List Str) (f : DF) : Prop where
  ex : ∃ a fd, Γ.mg d.name = some (.ref a) ∧ PySem.W.keepIn Γ.K (.ref a) = true ∧ FunD Γ.K d.name d.qual d.params d.body d.scope [] [] a fd ∧ Binds Γ.K fd ps [] ∧ FnG Γ k a fd ps (spD Γ.K ps.length f)
theorem DefOk.mono {Γ : GG} {j k : Nat} {d : He.DefD} {ps : List Str} {f : DF} (F : DefOk Γ j d ps f) (h : j ≤ k) : DefOk Γ k d ps f := by
  obtain ⟨a, fd, h1, h2, h3, h4, h5⟩ := F.ex
  exact ⟨a, fd, h1, h2, h3, h4, h5.mono h⟩
/-- the context of a def's body -/
abbrev bx (Γ : GG) (N : List Str) (d : He.DefD) (f : Addr) (cd : Value) (A : Around) (outer : List Env) (s : Shared) (H : Hp) (E : XK) : Cx :=
  cxOf (L2.CX Γ.P Γ.w) Γ.P Γ.w Γ.K Γ.mg Γ.base N d.qual d.scope f cd A outer s H E
theorem bx_ctx {Γ : GG} {N : List Str} {d : He.DefD} {f : Addr} {cd : Value} {A : Around} {outer : List Env} {s : Shared} {H : Hp} {E : XK} {k : Nat} (nd : N.Nodup) (hr : Room k (A.deeper (envOfC d.qual d.scope s.heap.objs.size f cd))) (hg : A.guards = some []) :
    Ctx (bx Γ N d f cd A outer s H E) E Γ N k :=
  ⟨rfl, rfl, nd, rfl, hr, hg, passes_of (X := bx Γ N d f cd A outer s H E) (K := fun e s'' => L2.CX Γ.P Γ.w outer H s E e s'') (E₁ := fun e' s'' => L2.CX Γ.P Γ.w outer H s E e' s'') rfl, takes_of (X := bx Γ N d f cd A outer s H E) rfl rfl rfl rfl⟩
/-- the derivations of a body: for each context -/
def Body (Γ : GG) (k : Nat) (N : List Str) (d : He.DefD) (m : DS) : Prop :=
  ∀ (f : Addr) (cd : Value) (A : Around) (outer : List Env) (s : Shared) (H : Hp) (E : XK), Ctx (bx Γ N d f cd A outer s H E) E Γ N k → PDSs (bx Γ N d f cd A outer s H E) E d.body m
theorem def_core {Γ : GG} {k : Nat} {d : He.DefD} {N ps : List Str} {m : DS} {f : DF} (F : ∃ fd, FunD Γ.K d.name d.qual d.params d.body d.scope [] [] (He.fAd Γ.K d.at_) fd) (hm : Γ.mg d.name = some (.ref (He.fAd Γ.K d.at_)))
    (S : FnScope N ps d.scope) (hf : ∀ K E H α M ds Q, WOk K H α M → Post K E H α M (f ds M) (QE K Q) → ds.length = ps.length → Post K E H α M (m (sl0 N.length ds) M) (QS K (dEnds Q)))
    (hbn : ∀ (kV doc pm : Value) (an : Option Addr) (cdv ct : Value) (us : List Value), us.length = ps.length → bindArgs (PySem.W.fnOf d.name d.qual d.params d.body d.scope .none kV doc pm an cdv ct) ⟨us, []⟩ = pure (ps.zip us))
    (hb : Body Γ k N d m) : DefOk Γ (k + 1) d ps f := by
  obtain ⟨fd, F⟩ := F
  obtain ⟨oc, od, dV, kV, doc, pm, an, cdv, ct, osl, e, lk, hcd, hD, hK⟩ := F.ex
  refine ⟨_, fd, hm, F.kp, F, F.bindsN hbn, ?_⟩
  subst e
  refine fnG_of (N := N) lk hcd S (fun vs H Q E h => h.1) fun A outer s H vs Q E hr hg hsp => ?_
  obtain ⟨hl, α, M, ds, w, r, h⟩ := hsp
  obtain ⟨t, t1, t2⟩ := (hb _ cdv A outer s H E (bx_ctx S.nd hr hg)).ex
  exact ⟨t, t1, t2 _ _ _ α M _ w (sl0_ok rfl r) (hf _ _ _ _ _ _ _ w h (by rw [← r.length]; exact hl))⟩
theorem def_ok {Γ : GG} {k : Nat} {d : He.DefD} {N ps : List Str} {m : DS} (F : ∃ fd, FunD Γ.K d.name d.qual d.params d.body d.scope [] [] (He.fAd Γ.K d.at_) fd) (hm : Γ.mg d.name = some (.ref (He.fAd Γ.K d.at_)))
    (S : FnScope N ps d.scope) (hbn : ∀ (kV doc pm : Value) (an : Option Addr) (cdv ct : Value) (us : List Value), us.length = ps.length → bindArgs (PySem.W.fnOf d.name d.qual d.params d.body d.scope .none kV doc pm an cdv ct) ⟨us, []⟩ = pure (ps.zip us))
    (hb : Body Γ k N d m) : DefOk Γ (k + 1) d ps (runDef ps.length N.length m) :=
  def_core F hm S (fun K E H α M ds Q w h hl => post_cut w (by unfold runDef at h; exact (ite_ok h).2)) hbn hb
theorem def_okL {Γ : GG} {k : Nat} {d : He.DefD} {N ps : List Str} {m : DS} (F : ∃ fd, FunD Γ.K d.name d.qual d.params d.body d.scope [] [] (He.fAd Γ.K d.at_) fd) (hm : Γ.mg d.name = some (.ref (He.fAd Γ.K d.at_)))
    (S : FnScope N ps d.scope) (hbn : ∀ (kV doc pm : Value) (an : Option Addr) (cdv ct : Value) (us : List Value), us.length = ps.length → bindArgs (PySem.W.fnOf d.name d.qual d.params d.body d.scope .none kV doc pm an cdv ct) ⟨us, []⟩ = pure (ps.zip us))
    (hb : Body Γ k N d m) : DefOk Γ (k + 1) d ps (runDefL ps.length N.length m) :=
  def_core F hm S (fun K E H α M ds Q w h hl => post_keep (by unfold runDefL at h; exact (ite_ok h).2)) hbn hb

/-! ### calls of defs -/
section
variable {X : Cx} {E : XK} {Γ : GG} {N ps ks : List Str} {k j n : Nat} {d : He.DefD} {f : DF} {x : Str} {p pos : Pos} {e : Expr} {es : List Expr} {kws : List Keyword} {a b : DA}
theorem run_G {pins : List (Addr × Obj)} {σ : L2.St} {H : Hp} {s : Shared} {Q : VK} {ad : Addr} {fd : FuncData} {args : Args} {us : List Value} {vs : List V} {sp : Sp} (C : Ctx X E Γ N k) (F : FnG Γ k ad fd ps sp) (hb : BindsTo s fd args (ps.zip us))
    (I : Inv X pins σ H s) (r : Vals vs us) (h : sp vs H Q E) : codeAny (model X.prog X.w) X.A (.call (.ref ad) args) (fun r s' => match r with
      | .ok (.ret u) => EP X pins σ Q u s'
      | .ok _ => False
      | .error e => X.xe e s') s := by
  obtain ⟨g1, g2, g3, g4, g5⟩ : Γ.P = X.prog ∧ Γ.w = X.w ∧ Γ.K = X.K ∧ Γ.mg = X.mg ∧ Γ.base = X.base := by rw [← C.g]; exact ⟨rfl, rfl, rfl, rfl, rfl⟩
  have h1 := F.run X.A X.stack s H args us vs Q E C.room C.grd (by rw [g1, g2, g3, g4, g5]; exact I.env0) hb r h
  rw [g1, g2] at h1
  refine codeAny_mono h1 fun r s' hq => ?_
  cases r with
  | error e => exact C.pass pins σ H s e s' I hq
  | ok fl =>
    cases fl with
    | ret u => exact I.after hq
    | next => exact False.elim hq
    | brk => exact False.elim hq
    | cont => exact False.elim hq
theorem rd_callD {K : PySem.W.Frag} {t : TA} (ha : RdA K E t a) : RdE K E (fun σ H Q => t σ H fun vs H1 => spD K n f vs H1 Q E) (mCall (fun ds M => if ds.length = n then f ds M else .stuck) a) := by
  intro σ H ρ α M Q w s h
  refine ha σ H ρ α M _ w s (Post.imp (Post.bind h) fun ds H1 α1 M1 l1 w1 h1 vs rv => ?_)
  obtain ⟨hl, h1⟩ := ite_ok h1
  exact ⟨by rw [rv.length]; exact hl, α1, M1, ds, w1, rv, h1⟩
/-- f(e, ..): all parameters written -/
def mDef (n : Nat) (f : DF) (a : DA) : DE := mCall (fun ds M => if ds.length = n then f ds M else .stuck) a
theorem pd_def (C : Ctx X E Γ N k) (F : DefOk Γ j d ps f) (hj : j ≤ k) (hx : d.name = x) (hg : Gl X x) (ha : PDA X E (e :: es) a) (hdb : (x == ("__debug__" : Str)) = false := by decide)
    (he : starEach (e :: es) X.env = (false, eval e X.env) :: starEach es X.env := by rfl) (hpl : (backTo pos (starEach es X.env)).any (·.1) = false := by rfl) : PD X E (.Call (.Name x p) (e :: es) [] pos) (mDef ps.length f a) := by
  obtain ⟨ad, fd, h1, h2, _, h4, h5⟩ := (F.mono hj).ex
  obtain ⟨t, t1, t2⟩ := ha.ex
  refine ⟨_, ⟨fun pins s σ H Q I h => ?_⟩, rd_callD (n := ps.length) (f := f) t2⟩
  have g3 : Γ.K = X.K := by rw [← C.g]; rfl
  have g4 : Γ.mg = X.mg := by rw [← C.g]; rfl
  rw [g3] at h2 h4
  rw [g4, hx] at h1
  refine wpAny_Call_Name_kw (ld_glob I hg h1 ?_ hdb)
  refine PySem.W.callWith_K (h₀ := X.base) I.ok.mod.kin h2 (thn (t1.run pos pins s σ H _ I h) fun us s1 ⟨vs, H1, I1, r, q⟩ => ⟨I1.kIn, ?_⟩) he hpl
  have hl : (us ++ []).length = ps.length := by rw [List.append_nil, ← r.length]; exact q.1
  refine wpAny_call (codeAny_mono (run_G C h5 (h4 s1 us I1.kIn hl) I1 (vs := vs) (us := us ++ []) (by rw [List.append_nil]; exact r) (by rw [g3]; exact q)) fun r s' hq => ?_)
  cases r with
  | error e => exact hq
  | ok fl => cases fl <;> first | exact hq | exact False.elim hq
theorem pd_def0 (C : Ctx X E Γ N k) (F : DefOk Γ j d [] f) (hj : j ≤ k) (hx : d.name = x) (hg : Gl X x) (hdb : (x == ("__debug__" : Str)) = false := by decide) : PD X E (.Call (.Name x p) [] [] pos) (mDef 0 f mNil) := by
  obtain ⟨ad, fd, h1, h2, _, h4, h5⟩ := (F.mono hj).ex
  refine ⟨_, ⟨fun pins s σ H Q I h => ?_⟩, rd_callD (n := 0) (f := f) (t := tNil) fun _ _ _ _ _ _ w _ h => h.here w [] .nil⟩
  have g3 : Γ.K = X.K := by rw [← C.g]; rfl
  have g4 : Γ.mg = X.mg := by rw [← C.g]; rfl
  rw [g3] at h2 h4
  rw [g4, hx] at h1
  refine wpAny_Call_Name_kw (ld_glob I hg h1 ?_ hdb)
  refine PySem.W.callWith_K0 I.kIn h2 ?_
  refine wpAny_call (codeAny_mono (run_G C h5 (h4 s [] I.kIn rfl) I (vs := []) (us := []) .nil (by rw [g3]; exact h)) fun r s' hq => ?_)
  cases r with
  | error e => exact hq
  | ok fl => cases fl <;> first | exact hq | exact False.elim hq
/-- the keywords' values -/
structure PDK (X : Cx) (E : XK) (kws : List Keyword) (m : DA) : Prop where
  ex : ∃ t, PK X kws t ∧ RdA X.K E t m
theorem pdk_nil : PDK X E [] mNil := ⟨_, pk_nil, fun _ _ _ _ _ _ w _ h => h.here w [] .nil⟩
theorem pdk_cons {nm : Option Str} {kpos : Pos} {me : DE} (h1 : PD X E e me) (h2 : PDK X E kws b) : PDK X E (⟨nm, e, kpos⟩ :: kws) (mCons me b) := by
  obtain ⟨t, t1, t2⟩ := h1.ex
  obtain ⟨u, u1, u2⟩ := h2.ex
  exact ⟨_, pk_cons t1 u1, rd_cons t2 u2⟩
/-- f(e, .., k = v, ..): g puts the values in the parameters' order -/
def mDefK (n m : Nat) (g : {β : Type} → List β → List β → List β) (f : DF) (a b : DA) : DE := fun ρ M => (a ρ M).bind fun ds M1 => (b ρ M1).bind fun es M2 => if ds.length = n ∧ es.length = m then f (g ds es) M2 else .stuck
structure GOk (n m l : Nat) (g : {β : Type} → List β → List β → List β) : Prop where
  len : ∀ {β : Type} {xs ys : List β}, xs.length = n → ys.length = m → (g xs ys).length = l
  vals : ∀ {vs zs : List V} {us ws : List Value}, Vals vs us → Vals zs ws → Vals (g vs zs) (g us ws)
  reps : ∀ {K H α M} {vs zs : List V} {ds es : List D}, Reps K H α M vs ds → Reps K H α M zs es → Reps K H α M (g vs zs) (g ds es)
theorem rd_callK {K : PySem.W.Frag} {t u : TA} {m l : Nat} {g : {β : Type} → List β → List β → List β} (hg : GOk n m l g) (ha : RdA K E t a) (hb : RdA K E u b) :
    RdE K E (fun σ H Q => t σ H fun vs H1 => u σ H1 fun zs H2 => vs.length = n ∧ zs.length = m ∧ spD K l f (g vs zs) H2 Q E) (mDefK n m g f a b) := by
  intro σ H ρ α M Q w s h
  refine ha σ H ρ α M _ w s (Post.imp (Post.bind h) fun ds H1 α1 M1 l1 w1 h1 vs rv => ?_)
  refine hb σ H1 ρ α1 M1 _ w1 (s.mono l1) (Post.imp (Post.bind h1) fun es H2 α2 M2 l2 w2 h2 zs rz => ?_)
  obtain ⟨hl, h2⟩ := ite_ok h2
  have n1 : vs.length = n := by rw [rv.length]; exact hl.1
  have n2 : zs.length = m := by rw [rz.length]; exact hl.2
  exact ⟨n1, n2, hg.len n1 n2, α2, M2, _, w2, hg.reps (rv.mono l2) rz, h2⟩
theorem pd_defK {m : Nat} {g : {β : Type} → List β → List β → List β} (C : Ctx X E Γ N k) (F : DefOk Γ j d ps f) (hj : j ≤ k) (hx : d.name = x) (hgl : Gl X x) (hg : GOk n m ps.length g)
    (hbn : ∀ (kV doc pm : Value) (an : Option Addr) (cdv ct : Value) (us ws : List Value), us.length = n → ws.length = m → bindArgs (PySem.W.fnOf d.name d.qual d.params d.body d.scope .none kV doc pm an cdv ct) ⟨us, ks.zip ws⟩ = pure (ps.zip (g us ws)))
    (ha : PDA X E (e :: es) a) (hkw : PDK X E kws b) (hall : (backToKw pos (keywordEach kws X.env)).all (·.1.isSome) = true := by rfl) (hks : (backToKw pos (keywordEach kws X.env)).filterMap (·.1) = ks := by rfl) (hdb : (x == ("__debug__" : Str)) = false := by decide)
    (he : starEach (e :: es) X.env = (false, eval e X.env) :: starEach es X.env := by rfl) (hpl : ((backTo pos (starEach (e :: es) X.env)).any (·.1) || (backToKw pos (keywordEach kws X.env)).any (·.1.isNone)) = false := by rfl) : PD X E (.Call (.Name x p) (e :: es) kws pos) (mDefK n m g f a b) := by
  obtain ⟨ad, fd, h1, h2, h3, h4, h5⟩ := (F.mono hj).ex
  obtain ⟨t, t1, t2⟩ := ha.ex
  obtain ⟨u, u1, u2⟩ := hkw.ex
  refine ⟨_, ⟨fun pins s σ H Q I h => ?_⟩, rd_callK hg t2 u2⟩
  have g3 : Γ.K = X.K := by rw [← C.g]; rfl
  have g4 : Γ.mg = X.mg := by rw [← C.g]; rfl
  rw [g3] at h2 h4
  rw [g4, hx] at h1
  obtain ⟨oc, od, dV, kV, doc, pm, an, cdv, ct, osl, e, lk, hcd, hD, hK⟩ := h3.ex
  have hdv : dV = .none := by
    rcases hD with ⟨_, z⟩ | ⟨z, _⟩
    · exact z
    · exact absurd rfl z
  subst e hdv
  refine wpAny_Call_Name_kw (ld_glob I hgl h1 ?_ hdb)
  refine PySem.W.callWith_KW (h₀ := X.base) I.ok.mod.kin h2 hall (thn (t1.run pos pins s σ H _ I h) fun us s1 ⟨vs, H1, I1, r, q⟩ => ?_) hpl he
  refine thn (u1.run pos pins s1 σ H1 _ I1 q) fun ws s2 ⟨zs, H2, I2, rz, l1, l2, q2⟩ => ⟨I2.kIn, ?_⟩
  rw [hks]
  refine wpAny_call (codeAny_mono (run_G C h5 (.of_eq (hbn kV doc pm an cdv ct us ws (r.length.symm.trans l1) (rz.length.symm.trans l2))) I2 (hg.vals r rz) (by rw [g3]; exact q2)) fun r s' hq => ?_)
  cases r with
  | error e => exact hq
  | ok fl => cases fl <;> first | exact hq | exact False.elim hq
theorem pd_defK0 {m : Nat} {g : {β : Type} → List β → List β → List β} (C : Ctx X E Γ N k) (F : DefOk Γ j d ps f) (hj : j ≤ k) (hx : d.name = x) (hgl : Gl X x) (hg : GOk 0 m ps.length g)
    (hbn : ∀ (kV doc pm : Value) (an : Option Addr) (cdv ct : Value) (us ws : List Value), us.length = 0 → ws.length = m → bindArgs (PySem.W.fnOf d.name d.qual d.params d.body d.scope .none kV doc pm an cdv ct) ⟨us, ks.zip ws⟩ = pure (ps.zip (g us ws)))
    (hkw : PDK X E kws b) (hall : (backToKw pos (keywordEach kws X.env)).all (·.1.isSome) = true := by rfl) (hks : (backToKw pos (keywordEach kws X.env)).filterMap (·.1) = ks := by rfl) (hdb : (x == ("__debug__" : Str)) = false := by decide)
    (hpl : ((backTo pos (starEach [] X.env)).any (·.1) || (backToKw pos (keywordEach kws X.env)).any (·.1.isNone)) = false := by rfl) : PD X E (.Call (.Name x p) [] kws pos) (mDefK 0 m g f mNil b) := by
  obtain ⟨ad, fd, h1, h2, h3, h4, h5⟩ := (F.mono hj).ex
  obtain ⟨u, u1, u2⟩ := hkw.ex
  refine ⟨_, ⟨fun pins s σ H Q I h => ?_⟩, rd_callK (t := tNil) hg (fun _ _ _ _ _ _ w _ h => h.here w [] .nil) u2⟩
  have g3 : Γ.K = X.K := by rw [← C.g]; rfl
  have g4 : Γ.mg = X.mg := by rw [← C.g]; rfl
  rw [g3] at h2 h4
  rw [g4, hx] at h1
  obtain ⟨oc, od, dV, kV, doc, pm, an, cdv, ct, osl, e, lk, hcd, hD, hK⟩ := h3.ex
  have hdv : dV = .none := by
    rcases hD with ⟨_, z⟩ | ⟨z, _⟩
    · exact z
    · exact absurd rfl z
  subst e hdv
  refine wpAny_Call_Name_kw (ld_glob I hgl h1 ?_ hdb)
  have h : u σ H fun zs H2 => ([] : List V).length = 0 ∧ zs.length = m ∧ spD X.K ps.length f (g [] zs) H2 Q E := h
  refine PySem.W.callWith_KW0 (h₀ := X.base) I.ok.mod.kin h2 hall (thn (u1.run pos pins s σ H _ I h) fun ws s2 ⟨zs, H2, I2, rz, l1, l2, q2⟩ => ⟨I2.kIn, ?_⟩) hpl
  rw [hks]
  refine wpAny_call (codeAny_mono (run_G C h5 (.of_eq (hbn kV doc pm an cdv ct [] ws rfl (rz.length.symm.trans l2))) I2 (hg.vals .nil rz) (by rw [g3]; exact q2)) fun r s' hq => ?_)
  cases r with
  | error e => exact hq
  | ok fl => cases fl <;> first | exact hq | exact False.elim hq
end
/-- the block of a comprehension: nothing comes out of it -/
theorem blk_ctx {X : Cx} {E : XK} {Γ : GG} {N : List Str} {k : Nat} (C : Ctx X E Γ N k) {s : Shared} {H : Hp} {scope : Scope} {cenv : Env} {fp : List Addr} : Ctx (X.blk s H scope cenv fp) E0 Γ N k :=
  ⟨C.g, C.hN, C.nd, C.calm, C.room, C.grd, PassesOwn.never, fun _ _ x => by
    obtain ⟨_, _, _, _, _, _, _, _, _, _, _, _, _, _, _, _, z⟩ := x
    exact z.elim⟩
end DL

set_option Elab.async false
set_option linter.all false
set_option maxRecDepth 100000
set_option maxHeartbeats 4000000
namespace DL
open PySem PySem.Spec PyProof.Rows L2

/-! ### enumerate over a tuple -/
section
open AutoSeq1 (wpAny_loadPart')
theorem enum_new_tup (l : Addr) (items : Array Value) (n : Nat) (dct : Option Addr) (sl : Array (Option Value)) :
    Meets (Builtin.«enumerate.__new__» ⟨[.type "enumerate", .ref l], []⟩) (fun _ R s => s.heap.get? l = some { cls := .type "tuple", dict := dct, data := .seq items n, slots := sl } ∧
      R (.ok (.ret (.ref (s.heap.push { cls := .type "tuple_iterator", data := .fields #[.ref l, .int 0 0] }).objs.size)))
        { s with heap := (s.heap.push { cls := .type "tuple_iterator", data := .fields #[.ref l, .int 0 0] }).push { cls := .type "enumerate", data := .fields #[.none, .bool false, .ref s.heap.objs.size, rawInt 0, .none, .none] } }) :=
  .of_wp fun prog w A R s h => by
    obtain ⟨hp, g, d, tk, os⟩ := s
    obtain ⟨hl, h⟩ := h
    have hsub := sub_enumerate
    have hL : Heap.IsTuple (Shared.heap ⟨hp, g, d, tk, os⟩) l items := ⟨_, hl, rfl, n, rfl⟩
    wp_walk using wpAny_loadPart' hl
    refine wpAny_stack_any fun st => wpAny_pure ?_
    split
    · rename_i c _ _ _ _ _
      cases (c == Value.type "enumerate")
      · wp_walk using wpAny_loadPart' hl, wpAny_pyIter_tuple hL
        exact ⟨_, rfl, h⟩
      · wp_walk using wpAny_loadPart' hl, wpAny_pyIter_tuple hL
        exact ⟨_, rfl, h⟩
    · wp_walk using wpAny_loadPart' hl, wpAny_pyIter_tuple hL
      exact ⟨_, rfl, h⟩
theorem call_enum_tup {prog : Program} {w : World} {A : Around} {E : Value → Shared → Prop} {s : Shared} {l : Addr} {items : Array Value} {Q : Value → Shared → Prop} (hL : s.heap.IsTuple l items)
    (h : ∀ h', IsEnum h' (s.heap.objs.size + 1) s.heap.objs.size 0 .none → h'.IsTupleIter s.heap.objs.size l 0 → h'.objs.size = s.heap.objs.size + 2 →
      (∀ b o, s.heap.get? b = some o → h'.get? b = some o) → Q (.ref (s.heap.objs.size + 1)) { s with heap := h' }) :
    wpAny (model prog w) A (call (.type "enumerate") [.ref l]) Q E s := by
  obtain ⟨⟨c, dct, dt, sl⟩, hl, hc, n, hd⟩ := hL
  replace hc : c = .type "tuple" := hc
  replace hd : dt = .seq items n := hd
  subst hc hd
  refine callType_new F.called_enumerate (by decide) (F.typeCall_enumerate_1 _) (F.newCall_enumerate_1 _) (fun obj => F.args_object_init_2 obj _) F.entry_enumerate_new
    (enum_new_tup l items n dct sl) ⟨hl, ?_⟩
  have hz : (s.heap.push { cls := .type "tuple_iterator", data := .fields #[.ref l, .int 0 0] }).objs.size = s.heap.objs.size + 1 := Heap.size_push ..
  show _ ∧ _
  rw [hz]
  have he : IsEnum ((s.heap.push { cls := .type "tuple_iterator", data := .fields #[.ref l, .int 0 0] }).push
      { cls := .type "enumerate", data := .fields #[.none, .bool false, .ref s.heap.objs.size, rawInt 0, .none, .none] }) (s.heap.objs.size + 1) s.heap.objs.size 0 .none := by
    have q := Heap.get?_push_size (s.heap.push { cls := .type "tuple_iterator", data := .fields #[.ref l, .int 0 0] })
      (o := { cls := .type "enumerate", data := .fields #[.none, .bool false, .ref s.heap.objs.size, rawInt 0, .none, .none] }) rfl
    rw [hz] at q
    exact q
  refine ⟨⟨_, he, rfl⟩, h _ he ⟨_, Heap.get?_push_of_some _ (Heap.get?_push_size _ rfl), rfl, rfl⟩ (by rw [Heap.size_push, hz]) fun b o x => Heap.get?_push_of_some _ (Heap.get?_push_of_some _ x)⟩
end
/-- the tuple at a as it stands at each turn, with places -/
def IteT (K : PySem.W.Frag) (a : Addr) : It :=
  ⟨fun i H => ∃ xs x, SqT K H a xs ∧ xs[i]? = some x, fun i H v H' => ∃ T x, v = .ref T ∧ H T = none ∧ H' = upd H T (.tup [.int (i : Nat), x]) ∧ ∀ xs, SqT K H a xs → xs[i]? = some x,
    fun i H => ∃ xs, SqT K H a xs ∧ xs.length ≤ i⟩
theorem turn_enumT {P : Program} {w : World} {K : PySem.W.Frag} {elts : List Expr} {kk : Nat} {tpos : Pos} (a e it : Addr) : Turn P w K (.Tuple elts kk tpos) (IteT K a) [e, it] e
    (fun i h => (∃ old, IsEnum h e it i old) ∧ h.IsTupleIter it a i ∧ e ≠ it) where
  mem := by simp
  obj := fun i h st b hb => by
    obtain ⟨⟨old, he⟩, ⟨o, ho, hc, hd⟩, hne⟩ := st
    have e' : b = e ∨ b = it := by simpa using hb
    rcases e' with z | z
    · rw [z]; exact ⟨_, he, fun v q => nomatch q⟩
    · rw [z]; exact ⟨o, ho, fun v q => by rw [hd] at q; cases q⟩
  keep := fun i h h' st k => let ⟨⟨old, he⟩, hi, hne⟩ := st; ⟨⟨old, k e (by simp) _ he⟩, hi.at fun o q => k it (by simp) o q, hne⟩
  item := by
    intro X hP hw hK hc i pins s σ H E I hf st hg
    subst hP hw hK
    obtain ⟨⟨old, he⟩, hit, hne⟩ := st
    obtain ⟨xs, x, hq, hx⟩ := hg
    obtain ⟨its, rv, p, hz⟩ := I.tuple hq
    obtain ⟨u, hu, ru⟩ := rv.get hx
    have hel : e < s.heap.objs.size := Heap.lt_size he
    have hil : it < s.heap.objs.size := by obtain ⟨_, q, _⟩ := hit; exact Heap.lt_size q
    have hp : s.heap.IsTuple a its.toArray := p
    have hal : a < s.heap.objs.size := by obtain ⟨_, q, _⟩ := hp; exact Heap.lt_size q
    have hai : a ≠ it := fun z => by
      obtain ⟨o1, q1, c1, n1, d1⟩ := hp
      obtain ⟨o2, q2, c2, d2⟩ := hit
      rw [z, q2] at q1
      cases q1
      rw [d1] at d2
      cases d2
    have hae : e ≠ a := fun z => by
      obtain ⟨o1, q1, c1, n1, d1⟩ := hp
      have he' : s.heap.get? e = some _ := he
      rw [← z, he'] at q1
      cases q1
      cases d1
    have hi : i < its.toArray.size := by
      rcases Nat.lt_or_ge i its.length with z | z
      · simpa using z
      · rw [List.getElem?_eq_none z] at hu; cases hu
    refine wpAny_pyNext_enum_itemD (Draws.tuple (A := X.A.in1) (I.ok.hd hc) it a hai its.toArray) he ⟨hit, hp⟩ hi hne (by simp [hne, hae]) fun u' h' tk hP ho st' hT hsz hk => ?_
    have hu' : u' = u := by
      have z : its.toArray[i]? = some u' := hP
      rw [List.getElem?_toArray, hu] at z
      cases z; rfl
    subst hu'
    refine ⟨_, rfl, wpAny_letOwnedTupleGo_enum (s := { s with heap := h', toks := tk + 1 }) ho fun h'' he' sb => ?_⟩
    have hT2 : h''.get? s.heap.objs.size = some { cls := .type "tuple", data := .seq #[.int i tk, u'] } := (sb.2 _ (Nat.ne_of_gt hel)).trans hT
    have new : ObjOk X.prog X.w (upd H s.heap.objs.size (.tup [.int (i : Nat), x])) h'' s.heap.objs.size (.tup [.int (i : Nat), x]) :=
      ⟨by show 2 ≤ sizeLine; decide, [.int i tk, u'], .cons ⟨_, rfl⟩ (.cons ru .nil), ⟨_, hT2, rfl, _, rfl⟩⟩
    have I1 : Inv X pins σ (upd H s.heap.objs.size (.tup [.int (i : Nat), x])) { s with heap := h'', toks := tk + 1 } :=
      I.turnedNew (ch := [e, it]) (fun b ob hb q => (sb.2 b (fun z => hb (by simp [z]))).trans (hk b ob (fun z => hb (by simp [z])) (fun z => hb (by simp [z])) q)) hf (Nat.le_refl _) new
    refine ⟨.ref s.heap.objs.size, _, I1, rfl, ⟨_, x, rfl, I.hok.fresh (Nat.le_refl _), rfl, fun ys hy => by rw [I.tuple_inj hy hq]; exact hx⟩, ⟨⟨u', ?_⟩, st'.1.at fun o q => (sb.2 it (Ne.symm hne)).trans q, hne⟩, fun b hb => ?_⟩
    · have e1 : ((i + 1 : Nat) : Int) = (i : Int) + 1 := by omega
      rw [e1]; exact he'
    · have hb' : b < s.heap.objs.size := by
        have e' : b = e ∨ b = it := by simpa using hb
        rcases e' with z | z
        · rw [z]; exact hel
        · rw [z]; exact hil
      rw [upd_ne (Nat.ne_of_lt hb')]
      exact (hf b hb).1
  done := by
    intro X hP hw hK hc i pins s σ H E I hf st hg
    subst hP hw hK
    obtain ⟨⟨old, he⟩, hit, hne⟩ := st
    obtain ⟨xs, hq, hx⟩ := hg
    obtain ⟨its, rv, p, hz⟩ := I.tuple hq
    obtain ⟨f0, f1, f2, f3, f4, f5⟩ := hf it (by simp)
    have hl := rv.length
    have hp : s.heap.IsTuple a its.toArray := p
    have hT : s.TypeIs (.ref e) "enumerate" := ⟨_, he, rfl⟩
    unfold pyNext
    refine wpAny_bind (wpAny_attempt (wpAny_callSpecial?_slot (name := Str.ofString "__next__") hT F.slot_enumerate_next
      (wpAny_call_entry F.slot_enumerate_next hT F.entry_enumerate_next ?_ (F.args_enumerate_next_1 _))))
    show wpAny _ _ (field (.ref e) 2 >>= _) _ _ _
    refine wpAny_bind (wpAny_field he rfl (x := .ref it) rfl ?_)
    refine wpAny_bind (wpAny_nextOf_tuple_end (I.ok.hd hc) hit hp (by simp; omega) fun h' x he' hx' => ?_)
    obtain ⟨o, ho, hc'⟩ := hx'
    refine wpAny_bind (wpAny_isInstance (T := "StopIteration") (b := true) ⟨o, ho, hc'⟩ isSubtype_stop ?_)
    exact wpAny_pure ⟨rfl, I.turned (t' := s.toks) (fun b o hb q => he' b o hb q) f0 f1 f3 f4 f5⟩
  self := fun A i s Q E st h => let ⟨⟨_, he⟩, _⟩ := st; wpAny_pyIter_enum he h
section
variable {X : Cx} {E : XK} {tg e e2 : Expr} {m : DA} {ma : DE} {mk : List D → Store → Res D} {p pos : Pos}
def itEnum (a : DA) : DA := fun ρ M => (a ρ M).bind fun ds M1 => match ds with
  | [d] => (match seqF d with
    | some xs => .ok (enumD 0 xs) M1
    | none => .stuck)
  | _ => .stuck
def mRev (mk : List D → Store → Res D) (a : DE) : DE := fun ρ M => (a ρ M).bind fun d M1 => match d with
  | .tup xs => newTup xs.reverse M1
  | _ => .stuck
theorem walk_enumT {K : PySem.W.Frag} {a : Addr} {xs : List V} : Walk (IteT K a) xs.length (fun H => SqT K H a xs) (YPair (fun i => some (.int (i : Nat))) (fun i => xs[i]?)) := by
  refine ⟨fun i _ hi q => ⟨xs, xs[i], q, by simp [hi]⟩, fun _ q => ⟨xs, q, Nat.le_refl _⟩, fun i H v H' _ q y => ?_⟩
  obtain ⟨T, x, h1, h2, h3, h4⟩ := y
  exact ⟨T, .int (i : Nat), x, h1, h2, h3, rfl, h4 xs q⟩
theorem pi_enumB {elts : List Expr} {kk : Nat} {tpos : Pos} {ta : TA} (hg : Gl X "enumerate") (hm : X.mg "enumerate" = none) (ha : PA X [e] ta) (hs : starEach [e] X.env = [(false, eval e X.env)] := by rfl) :
    PI X (.Tuple elts kk tpos) (.Call (.Name "enumerate" p) [e] [] pos) (fun σ H R => ta σ H fun vs H1 => ∃ a xs, vs = [.ref a] ∧ ((SqL X.K H1 a xs ∧ R (Ite X.K a) H1) ∨ (SqT X.K H1 a xs ∧ R (IteT X.K a) H1))) := by
  refine ⟨fun pins s σ H R I h => ?_⟩
  refine Call_ (ld_blt I hg hm boot_enumerate (PyProof.Rows.callWith_type1 (thn (ha.run pos pins s σ H _ I h) fun us s1 ⟨vs, H1, I1, r1, q1⟩ => ?_) hs rfl))
  obtain ⟨a, xs, ex, q⟩ := q1
  subst ex
  cases r1 with
  | cons r rr =>
    cases rr
    cases r
    have fresh : ∀ b, b ∈ [s1.heap.objs.size + 1, s1.heap.objs.size] → FpOk X pins H1 b := fun b hb => by
      have e' : b = s1.heap.objs.size + 1 ∨ b = s1.heap.objs.size := by simpa using hb
      have hle : s1.heap.objs.size ≤ b := by
        rcases e' with z | z <;> rw [z]
        · exact Nat.le_add_right _ _
        · exact Nat.le_refl _
      exact I1.fpOk hle (I1.hok.fresh hle)
    rcases q with ⟨hq, q⟩ | ⟨hq, q⟩
    · obtain ⟨its, rv, p', hz⟩ := I1.list hq
      refine call_enumerate_list p'.isList fun h' he hit hsz hk => wpAny_pyIter_enum he ?_
      exact ⟨s1.heap.objs.size + 1, [s1.heap.objs.size + 1, s1.heap.objs.size], _, _, H1, rfl, I1.kept (t' := s1.toks) hk, turn_enum a (s1.heap.objs.size + 1) s1.heap.objs.size, ⟨⟨.none, he⟩, hit, Nat.succ_ne_self _⟩, fresh, q⟩
    · obtain ⟨its, rv, p', hz⟩ := I1.tuple hq
      refine call_enum_tup (show s1.heap.IsTuple a its.toArray from p') fun h' he hit hsz hk => wpAny_pyIter_enum he ?_
      exact ⟨s1.heap.objs.size + 1, [s1.heap.objs.size + 1, s1.heap.objs.size], _, _, H1, rfl, I1.kept (t' := s1.toks) hk, turn_enumT a (s1.heap.objs.size + 1) s1.heap.objs.size, ⟨⟨.none, he⟩, hit, Nat.succ_ne_self _⟩, fresh, q⟩
theorem enum_pairs {K : PySem.W.Frag} {H : Hp} {α : Al} {M : Store} {xs : List V} {ds : List D} (r : Reps K H α M xs ds) : ∀ i d, (enumD 0 ds)[i]? = some d → ∃ x y, d = .tup [x, y] ∧ (∀ v, some (V.int (i : Nat)) = some v → Rep K H α M v x) ∧ ∀ v, xs[i]? = some v → Rep K H α M v y := by
  intro i d hd
  obtain ⟨x, h1, h2⟩ := enumD_get hd
  refine ⟨_, x, h2, fun v e => ?_, fun v e => ?_⟩
  · cases e
    rw [Nat.zero_add]
    exact .int _
  · obtain ⟨u, k1, k2⟩ := r.get h1
    rw [e] at k1; cases k1; exact k2
theorem pid_enum {elts : List Expr} {kk : Nat} {tpos : Pos} (ha : PDA X E [e] m) (hg : Gl X "enumerate") (hm : X.mg "enumerate" = none) (hs : starEach [e] X.env = [(false, eval e X.env)] := by rfl) :
    PID X E (.Tuple elts kk tpos) (.Call (.Name "enumerate" p) [e] [] pos) (itEnum m) := by
  obtain ⟨t, h1, r1⟩ := ha.ex
  refine ⟨_, pi_enumB hg hm h1 hs, fun σ H ρ α M R w s q => ?_⟩
  refine r1 σ H ρ α M _ w s (Post.imp (Post.bind q) fun ds H1 α1 M1 l1 w1 h1 vs rv => ?_)
  match ds, rv, h1 with
  | [d], .cons (v := v) rv .nil, h1 =>
    have h1' : Post X.K E H1 α1 M1 (match seqF d with
      | some xs => .ok (enumD 0 xs) M1
      | none => .stuck) (fun ds H' α' M' => ∀ J, Goes X.K J ds H' α' M' → R J H') := h1
    cases z : seqF d with
    | none => rw [z] at h1'; exact h1'.elim
    | some xs =>
      rw [z] at h1'
      have done := fun J g => Post.here (E := E) w1 h1' J g
      cases rv with
      | tup t r => cases z; exact ⟨_, _, rfl, .inr ⟨t.sq, done _ (goes_pair walk_enumT (fun _ _ _ l => (t.monoY l).sq) (by rw [enumD_length, r.length]) (enum_pairs r))⟩⟩
      | lst t r => cases z; exact ⟨_, _, rfl, .inl ⟨t.sq, done _ (goes_pair walk_enum (fun _ _ _ l => (t.monoY l).sq) (by rw [enumD_length, r.length]) (enum_pairs r))⟩⟩
      | rol t r => cases z; exact ⟨_, _, rfl, .inl ⟨t.sq, done _ (goes_pair walk_enum (fun _ _ _ l => (t.monoY l).sq) (by rw [enumD_length, r.length]) (enum_pairs r))⟩⟩
      | _ => cases z
theorem rev_pick (xs : Array Value) : ((List.range xs.size).filterMap fun (m : Nat) => xs[(((xs.size : Nat) : Int) - 1 + (m : Int) * -1).toNat]?) = xs.toList.reverse := by
  have e0 : ((List.range xs.size).filterMap fun (m : Nat) => xs[(((xs.size : Nat) : Int) - 1 + (m : Int) * -1).toNat]?) = ((List.range xs.size).map fun (m : Nat) => (((xs.size : Nat) : Int) - 1 + (m : Int) * -1).toNat).filterMap (xs[·]?) := by
    rw [List.filterMap_map]
    rfl
  have e : ((List.range xs.size).map fun (m : Nat) => (((xs.size : Nat) : Int) - 1 + (m : Int) * -1).toNat) = (List.range xs.size).map fun k => xs.size - 1 - k := by
    refine List.map_congr_left fun m hm => ?_
    have := List.mem_range.mp hm
    omega
  rw [e0, e, PySem.W.krv_range, List.filterMap_reverse, PySem.W.krv_all]
theorem rev_places (n : Nat) : Builtin.Slice.slicePlaces ((n : Int) - 1) (-1) (-1) = n := by
  unfold Builtin.Slice.slicePlaces
  have h1 : ¬ ((-1 : Int) > 0) := by decide
  simp only [h1, if_false]
  have h2 : (- -1 : Int) = 1 := by decide
  rw [h2, Int.ediv_one]
  split <;> omega
section
variable {prog : Program} {w : World} {A : Around} {E1 : Value → Shared → Prop} {s : Shared}
theorem rev_applied {sl : Addr} {vs : Value} {n : Nat} {Q : Int × Int × Nat → Shared → Prop} (hs : s.heap.IsSliceOf sl .none .none vs) (ps : IsPart vs (some (-1)))
    (h : Q (((n : Nat) : Int) - 1, -1, n) s) : wpAny (model prog w) A (Builtin.Slice.sliceApplied (.ref sl) (pure (n : Int))) Q E1 s := by
  obtain ⟨os, hos, hcs, hds⟩ := id hs
  unfold Builtin.Slice.sliceApplied Builtin.Slice.sliceFields
  refine wpAny_bind (wpAny_bind (wpAny_field hos hds (x := .none) rfl (wpAny_bind (wpAny_field hos hds (x := .none) rfl (wpAny_bind (wpAny_field hos hds (x := vs) rfl (wpAny_pure ?_)))))))
  refine wpAny_bind (HT.slicePart_ ps ?_)
  show wpAny _ _ (if ((-1 : Int) == 0) = true then _ else _) _ _ s
  rw [if_neg (by decide)]
  refine wpAny_bind (HT.slicePart_ .none (wpAny_bind (HT.slicePart_ .none (wpAny_bind (wpAny_pure ?_)))))
  show wpAny _ _ (pure (((n : Nat) : Int) - 1, (-1 : Int), Builtin.Slice.slicePlaces ((n : Int) - 1) (-1) (-1))) _ _ s
  rw [rev_places]
  exact wpAny_pure h
theorem getItem_tuple_rev {t sl : Addr} {items : Array Value} {vs : Value} {Q : Value → Shared → Prop} (ht : IsTup s.heap t items) (hs : s.heap.IsSliceOf sl .none .none vs) (ps : IsPart vs (some (-1)))
    (h : Q (.ref s.heap.objs.size) { s with heap := s.heap.push { cls := .type "tuple", data := .seq items.toList.reverse.toArray } }) (hsz : items.size ≤ sizeLine) : wpAny (model prog w) A (getItem (.ref t) (.ref sl)) Q E1 s := by
  have hz : sizeOk (.seq items.toList.reverse.toArray) := by
    show items.toList.reverse.toArray.size ≤ sizeLine
    rw [List.size_toArray, List.length_reverse, Array.length_toList]
    exact hsz
  obtain ⟨os, hos, hcs, hds⟩ := id hs
  have hTs : s.TypeIs (.ref sl) "slice" := ⟨os, hos, hcs⟩
  unfold getItem
  try with_reducible refine wpAny_holding ?_
  first | refine wpAny_bind (wpAny_pure ?_) | skip
  refine wpAny_bind (wpAny_sequenceKey ht.typeIs (by decide) ?_)
  refine wpAny_bind (wpAny_callSpecial?_slot (name := Str.ofString "__getitem__") ht.typeIs PyProof.Rows.slot_tuple_getitem
    (wpAny_call_entry PyProof.Rows.slot_tuple_getitem ht.typeIs PyProof.Rows.entry_tuple_getitem ?_ (PyProof.Rows.args_tuple_getitem _ _)))
  show wpAny _ _ (Builtin.Tuple.tupleItemsOf (.ref t) >>= _) _ _ s
  refine wpAny_bind (PyProof.Rows.tupleItemsOf_ ht ?_)
  refine wpAny_bind (wpAny_typeOf hTs ?_)
  rw [if_pos (by decide)]
  refine wpAny_bind (rev_applied hs ps ?_)
  have hno : ¬ ((((items.size : Nat) : Int) - 1 == 0 && (-1 : Int) == 1 && items.size == items.size) = true) := by
    intro q
    rw [Bool.and_eq_true, Bool.and_eq_true] at q
    exact absurd q.1.2 (by decide)
  show wpAny _ _ (if (((items.size : Nat) : Int) - 1 == 0 && (-1 : Int) == 1 && items.size == items.size) = true then _ else _) _ _ s
  rw [if_neg hno, rev_pick]
  first
    | exact wpAny_bind (m := Builtin.Tuple.tupleExact _) (wpAny_newObj_type (wpAny_pure ⟨_, rfl, wpAny_pure h⟩) hz)
    | exact wpAny_bind (m := Builtin.Tuple.tupleExact _) (wpAny_newObj_type (wpAny_bind (wpAny_pure (wpAny_pure ⟨_, rfl, wpAny_pure h⟩))) hz)
    | exact wpAny_bind (wpAny_bind (m := Builtin.Tuple.tupleExact _) (wpAny_newObj_type (wpAny_pure (wpAny_pure ⟨_, rfl, wpAny_pure h⟩)) hz))
    | exact wpAny_bind (wpAny_bind (m := Builtin.Tuple.tupleExact _) (wpAny_newObj_type (wpAny_pure ⟨_, rfl, wpAny_pure h⟩) hz))
end
def tRevT (K : PySem.W.Frag) (te : TE) : TE := fun σ H Q => te σ H fun x H1 => ∃ a xs, x = .ref a ∧ SqT K H1 a xs ∧ ∀ p, H1 p = none → Q (.ref p) (upd H1 p (.tup xs.reverse))
theorem pe_revT {te : TE} {k : Nat} {p1 p2 p3 : Pos} (he : PE X e te) : PE X (.Subscript e (.Slice none none (some (.UnaryOp .USub (.Constant (.int 1) k p1) p2)) p3) pos) (tRevT X.K te) := by
  refine ⟨fun pins s σ H Q I h => ?_⟩
  refine Subscript_ (thn (he.run pins s σ H _ I h) fun v s1 ⟨x, H1, I1, r1, q1⟩ => ?_)
  obtain ⟨a, xs, ex, hx, q⟩ := q1
  subst ex
  cases r1
  have hst : PO X (some (.UnaryOp .USub (.Constant (.int 1) k p1) p2)) (tPart (tUn (rU fun i => .int (-i)) (tC (.int 1)))) := po_some (pe_un un_neg pe_int)
  have two : wpAny (model X.prog X.w) X.A (evalPart none X.env) (fun u s2 => u = .none ∧ s2 = s1) X.xe s1 := by rw [evalPart_none]; exact wpAny_pure ⟨rfl, rfl⟩
  refine wpAny_Slice (thn two fun vl s2 hl => ?_)
  obtain ⟨rfl, rfl⟩ := hl
  refine thn two fun vu s3 hu => ?_
  obtain ⟨rfl, rfl⟩ := hu
  refine thn (hst.run pins s3 σ H1 (fun o H4 => o = some (-1) ∧ H4 = H1) I1 ⟨1, rfl, -1, rfl, rfl, rfl⟩) fun vs s4 ⟨o, H4, I4, ps, eo, e4⟩ => ?_
  subst eo e4
  have I5 : Inv X pins σ H4 { s4 with heap := s4.heap.push { cls := .type "slice", data := .fields #[.none, .none, vs] } } := I4.kept (t' := s4.toks) fun b ob q => Heap.get?_push_of_some _ q
  obtain ⟨its, r, ht, hz⟩ := I5.tuple hx
  have hlen := r.length
  show wpAny (model X.prog X.w) X.A (subscriptTail e (.Slice none none (some (.UnaryOp .USub (.Constant (.int 1) k p1) p2)) p3) (.ref a) (.ref s4.heap.objs.size)) (EP X pins σ Q) X.xe { s4 with heap := s4.heap.push { cls := .type "slice", data := .fields #[.none, .none, vs] } }
  refine tail_any (ops := [.ref a, .ref s4.heap.objs.size]) ht.typeIs PyProof.Rows.slot_tuple_getitem.lookup ?_ (by with_unfolding_all rfl)
  refine getItem_tuple_rev ht (Heap.IsSliceOf.new _ .none .none vs) ps ?_ (by rw [List.size_toArray]; omega)
  refine ⟨.ref _, _, I5.laid (t' := s4.toks) (o := .tup xs.reverse) (fun b ob q => Heap.get?_push_of_some _ q) (Nat.le_refl _) ?_, rfl, q _ (I5.hok.fresh (Nat.le_refl _))⟩
  exact ⟨by rw [List.length_reverse]; exact hz, _, r.reverse, IsTup.new _ _⟩
theorem pd_rev {k : Nat} {p1 p2 p3 : Pos} (hm : Mk mk) (ha : PD X E e ma) : PD X E (.Subscript e (.Slice none none (some (.UnaryOp .USub (.Constant (.int 1) k p1) p2)) p3) pos) (mRev mk ma) := by
  obtain ⟨t, h1, r1⟩ := ha.ex
  refine ⟨_, pe_revT h1, fun σ H ρ α M Q w s h => ?_⟩
  refine r1 σ H ρ α M _ w s (Post.imp (Post.bind h) fun d H1 α1 M1 l1 w1 h1 v rv => ?_)
  cases rv with
  | tup t r => exact ⟨_, _, rfl, t.sq, (newTup_post w1 r.reverse h1).2⟩
  | _ => exact h1.elim
end
end DL

set_option Elab.async false
set_option linter.all false
set_option maxRecDepth 100000
set_option maxHeartbeats 4000000
namespace DL
open PySem PySem.Spec PyProof.Rows L2 PySem.F
abbrev CT : String := "itertools.combinations"
theorem mro_comb : mroOf (.type "itertools.combinations") = pure [.type "itertools.combinations", .type "object"] := by rw [mroOf_type]; kernel_rfl
theorem lookup_comb_new : typeLookup (.type "itertools.combinations") "__new__" = pure (some (.builtin "itertools.combinations.__new__")) := by rw [typeLookup_type, builtinLookup_eq_fast]; kernel_rfl
theorem slot_comb_init : Slot "itertools.combinations" "__init__" "object.__init__" :=
  .of (owner := "object") (n := "__init__") (by rw [typeLookup_type, builtinLookup_eq_fast]; kernel_rfl) (by decide +kernel) (by decide +kernel) (by decide +kernel)
    (by first | exact .inl (by decide +kernel) | exact .inr (by decide +kernel)) (by rw [isSubtype_type]; kernel_rfl)
theorem called_comb : TypeCalled "itertools.combinations" "itertools.combinations.__new__" "object.__init__" :=
  ⟨by decide +kernel, by decide +kernel, ⟨_, _, mro_comb⟩, madeBy_type mro_comb lookup_comb_new (by decide +kernel), by decide +kernel, by rw [isSubtype_type]; kernel_rfl, slot_comb_init⟩
theorem typeCall_comb (a b : Value) : checkTypeCall "itertools.combinations" ⟨[a, b], []⟩ = pure () := by kernel_rfl
theorem newCall_comb (a b : Value) : checkBuiltinCall "itertools.combinations.__new__" ⟨[.type "itertools.combinations", a, b], []⟩ = pure () := by kernel_rfl
theorem entry_comb_new : entryFor table "itertools.combinations.__new__" = some Builtin.«itertools.combinations.__new__» := entryFor_of_tree (by kernel_rfl)
theorem slot_comb_iter : Slot "itertools.combinations" "__iter__" "itertools.combinations.__iter__" :=
  .of (owner := "itertools.combinations") (n := "__iter__") (by rw [typeLookup_type, builtinLookup_eq_fast]; kernel_rfl) (by decide +kernel) (by decide +kernel) (by decide +kernel)
    (by first | exact .inl (by decide +kernel) | exact .inr (by decide +kernel)) (by rw [isSubtype_type]; kernel_rfl)
theorem slot_comb_next : Slot "itertools.combinations" "__next__" "itertools.combinations.__next__" :=
  .of (owner := "itertools.combinations") (n := "__next__") (by rw [typeLookup_type, builtinLookup_eq_fast]; kernel_rfl) (by decide +kernel) (by decide +kernel) (by decide +kernel)
    (by first | exact .inl (by decide +kernel) | exact .inr (by decide +kernel)) (by rw [isSubtype_type]; kernel_rfl)
theorem entry_comb_next : entryFor table "itertools.combinations.__next__" = some Builtin.«itertools.combinations.__next__» := entryFor_of_tree (by kernel_rfl)
theorem args_comb_next (a : Value) : argsOk "itertools.combinations.__next__" ⟨[a], []⟩ := by unfold argsOk; kernel_rfl
theorem args_comb_iter (a : Value) : argsOk "itertools.combinations.__iter__" ⟨[a], []⟩ := by unfold argsOk; kernel_rfl
theorem sub_comb : isSubtype (.type "itertools.combinations") (.type "itertools.combinations") = pure true := by rw [isSubtype_type]; kernel_rfl
end DL

set_option Elab.async false
set_option linter.all false
set_option maxRecDepth 100000
set_option maxHeartbeats 4000000
namespace DL
open PySem PySem.Spec PyProof.Rows L2 PySem.F
open AutoSeq1 (wpAny_loadPart')
theorem comb_named (a b : Value) : Builtin.Itertools.itBindNamed "combinations" ["iterable", "r"] 2 2 [a, b] [] = pure [some a, some b] := by kernel_rfl
theorem comb_ssize (t : Tok) : Builtin.Itertools.itSsizeArg (.int 2 t) = pure 2 := by kernel_rfl
theorem comb_dict : typeHasDict (.type "itertools.combinations") = false := by kernel_rfl
theorem comb_new {T : String} (hT : T = "list" ∨ T = "tuple") (l : Addr) (t : Tok) (items : Array Value) (n : Nat) (dct : Option Addr) (sl : Array (Option Value)) (hz : items.size ≤ sizeLine) :
    Meets (Builtin.«itertools.combinations.__new__» ⟨[.type "itertools.combinations", .ref l, .int 2 t], []⟩) (fun _ R s => s.heap.get? l = some { cls := .type T, dict := dct, data := .seq items n, slots := sl } ∧
      ∀ h' : Heap, (∀ b o, s.heap.get? b = some o → h'.get? b = some o) → R (.ok (.ret (.ref (h'.push { cls := .type "tuple", data := .seq items.toList.toArray }).objs.size)))
        { s with heap := (h'.push { cls := .type "tuple", data := .seq items.toList.toArray }).push { cls := .type "itertools.combinations", data := .fields #[.ref h'.objs.size, rawInt (if 2 > items.toList.length then 2 else 0), .none, rawInt 0, rawInt 1] } }) :=
  .of_wp fun prog w A R s h => by
    obtain ⟨hp, g, d, tk, os⟩ := s
    obtain ⟨hl, h⟩ := h
    have hsub := sub_comb
    have e0 : ("itertools." ++ "combinations" : String) = "itertools.combinations" := by decide
    unfold Builtin.«itertools.combinations.__new__»
    k_delta "poolAndR"
    wp_walk using wpAny_loadPart' hl
    rw [e0, hsub]
    refine wpAny_pure ?_
    refine wpAny_pure ?_
    show wpAny _ _ (Builtin.Itertools.itBindNamed "combinations" ["iterable", "r"] 2 2 [.ref l, .int 2 t] [] >>= _) _ _ _
    rw [comb_named, pure_bind]
    show wpAny _ _ (Builtin.Itertools.itSsizeArg (.int 2 t) >>= _) _ _ _
    rw [comb_ssize, pure_bind]
    refine wpAny_bind (wpAny_collect_seq l hT hl rfl rfl (fun h' hk => ?_) hz)
    show wpAny _ _ (if (2 : Int) < 0 then _ else _) _ _ _
    rw [if_neg (by decide)]
    show wpAny _ _ (if Builtin.Itertools.itTooMany 2 = true then _ else _) _ _ _
    rw [if_neg (by decide)]
    refine wpAny_bind (wpAny_newTuple (wpAny_pure ?_) (by rw [Array.length_toList]; exact hz))
    show wpAny _ _ (Builtin.Itertools.itNewRecord (.type "itertools.combinations") _ >>= _) _ _ _
    unfold Builtin.Itertools.itNewRecord
    rw [comb_dict]
    rw [Bool.not_false, if_pos rfl]
    refine wpAny_bind (wpAny_newObj_type (wpAny_pure ⟨_, rfl, ?_⟩) (by show 5 ≤ sizeLine + 2; decide))
    exact h h' hk
/-- the record: its pool, how far it is, the tuple given last, two places -/
def IsComb (h : Heap) (c pool : Addr) (st : Int) (res : Value) (i j : Nat) : Prop :=
  h.get? c = some { cls := .type "itertools.combinations", data := .fields #[.ref pool, rawInt st, res, rawInt i, rawInt j] }
theorem call_comb {prog : Program} {w : World} {A : Around} {E : Value → Shared → Prop} {s : Shared} {T : String} (hT : T = "list" ∨ T = "tuple") {l : Addr} {t : Tok} {o : Obj} {items : Array Value} {n : Nat} {Q : Value → Shared → Prop}
    (ho : s.heap.get? l = some o) (hc : o.cls = .type T) (hd : o.data = .seq items n) (hz : items.size ≤ sizeLine)
    (h : ∀ (h0 h' : Heap), (∀ b o, s.heap.get? b = some o → h0.get? b = some o) → IsComb h' (h0.objs.size + 1) h0.objs.size (if 2 > items.toList.length then 2 else 0) .none 0 1 → h'.IsTuple h0.objs.size items.toList.toArray → h'.objs.size = h0.objs.size + 2 →
      (∀ b o, h0.get? b = some o → h'.get? b = some o) → Q (.ref (h0.objs.size + 1)) { s with heap := h' }) :
    wpAny (model prog w) A (call (.type "itertools.combinations") [.ref l, .int 2 t]) Q E s := by
  obtain ⟨c, dct, dt, sl⟩ := o
  replace hc : c = .type T := hc
  replace hd : dt = .seq items n := hd
  subst hc hd
  refine callType_new called_comb (by decide) (typeCall_comb _ _) (newCall_comb _ _) (fun obj => F.args_object_init_3 obj _ _) entry_comb_new
    (comb_new hT l t items n dct sl hz) ⟨ho, fun h' hk => ?_⟩
  have hz1 : (h'.push { cls := .type "tuple", data := .seq items.toList.toArray }).objs.size = h'.objs.size + 1 := Heap.size_push ..
  have he : IsComb ((h'.push { cls := .type "tuple", data := .seq items.toList.toArray }).push { cls := .type "itertools.combinations", data := .fields #[.ref h'.objs.size, rawInt (if 2 > items.toList.length then 2 else 0), .none, rawInt 0, rawInt 1] })
      (h'.objs.size + 1) h'.objs.size (if 2 > items.toList.length then 2 else 0) .none 0 1 := by
    have q := Heap.get?_push_size (h'.push { cls := .type "tuple", data := .seq items.toList.toArray })
      (o := { cls := .type "itertools.combinations", data := .fields #[.ref h'.objs.size, rawInt (if 2 > items.toList.length then 2 else 0), .none, rawInt 0, rawInt 1] }) rfl
    rw [hz1] at q
    exact q
  rw [hz1]
  exact ⟨⟨_, he, rfl⟩, h h' _ hk he ⟨_, Heap.get?_push_of_some _ (Heap.get?_push_size _ rfl), rfl, _, rfl⟩ (by rw [Heap.size_push, hz1]) fun b o x => Heap.get?_push_of_some _ (Heap.get?_push_of_some _ x)⟩
theorem entry_comb_iter : entryFor table "itertools.combinations.__iter__" = some Builtin.«dict_keyiterator.__iter__» :=
  entryFor_alias (id' := "dict_keyiterator.__iter__") (by kernel_rfl) (by first | rfl | decide +kernel | (unfold String.splitOn; simp +decide [String.splitOnAux])) (by decide +kernel) (by kernel_rfl)
theorem iter_comb {prog : Program} {w : World} {A : Around} {E : Value → Shared → Prop} {s : Shared} {c pool : Addr} {st : Int} {res : Value} {i j : Nat} {Q : Value → Shared → Prop} (he : IsComb s.heap c pool st res i j) (h : Q (.ref c) s) : wpAny (model prog w) A (pyIter (.ref c)) Q E s := by
  have hT : s.TypeIs (.ref c) "itertools.combinations" := ⟨_, he, rfl⟩
  refine wpAny_pyIter_slot hT slot_comb_iter (wpAny_call_entry slot_comb_iter hT entry_comb_iter ?_ (args_comb_iter _))
  show wpAny _ _ (ret (.ref c)) _ _ s
  exact wpAny_pure ⟨_, rfl, "itertools.combinations", _, hT, slot_comb_next.lookup, h⟩
end DL

set_option Elab.async false
set_option linter.all false
set_option maxRecDepth 100000
set_option maxHeartbeats 4000000
namespace DL
open PySem PySem.Spec PyProof.Rows L2 PySem.F
section
variable {prog : Program} {w : World} {A : Around} {E : Value → Shared → Prop} {s : Shared} {c pool : Addr} {st : Int} {res : Value} {i j : Nat}
theorem comb_numbers {Q : List Nat → Shared → Prop} (he : IsComb s.heap c pool st res i j) (h : Q [i, j] s) : wpAny (model prog w) A (Builtin.Itertools.itNumbersFrom (.ref c) 3) Q E s := by
  unfold Builtin.Itertools.itNumbersFrom
  refine wpAny_bind (wpAny_load he ?_)
  refine wpAny_pure ?_
  show Q [((i : Nat) : Int).toNat, ((j : Nat) : Int).toNat] s
  rw [Int.toNat_natCast, Int.toNat_natCast]
  exact h
theorem comb_int {Q : Int → Shared → Prop} (he : IsComb s.heap c pool st res i j) (h : Q st s) : wpAny (model prog w) A (Builtin.Itertools.itIntField (.ref c) 1) Q E s := by
  unfold Builtin.Itertools.itIntField
  exact wpAny_bind (wpAny_field he rfl (x := rawInt st) rfl (wpAny_pure h))
theorem comb_items {items : Array Value} {Q : Array Value → Shared → Prop} (hp : s.heap.IsTuple pool items) (h : Q items s) : wpAny (model prog w) A (Builtin.Itertools.itPoolItems (.ref pool)) Q E s := by
  obtain ⟨o, ho, _, n, hd⟩ := hp
  unfold Builtin.Itertools.itPoolItems
  exact wpAny_bind (wpAny_seqItems ho hd (wpAny_pure h))
theorem comb_set {a b : Nat} {Q : Unit → Shared → Prop} (he : IsComb s.heap c pool st res i j) (h : ∀ h', IsComb h' c pool st res a b → Heap.SameBut c s.heap h' → Q () { s with heap := h' }) :
    wpAny (model prog w) A (Builtin.Itertools.itSetNumbersFrom (.ref c) 3 [a, b]) Q E s := by
  unfold Builtin.Itertools.itSetNumbersFrom
  refine wpAny_updateFields he rfl (h _ ?_ (Heap.SameBut.update ..)) (by show 5 ≤ sizeLine + 3; decide)
  exact Heap.get?_update_self _ he rfl
/-- the tuple at two places is handed out -/
theorem comb_hand {items : Array Value} {x y : Value} {Q : Fin → Shared → Prop} (he : IsComb s.heap c pool st res i j) (hp : s.heap.IsTuple pool items) (hx : items[i]? = some x) (hy : items[j]? = some y)
    (h : ∀ h', IsComb h' c pool st (.ref s.heap.objs.size) i j → h'.get? s.heap.objs.size = some { cls := .type "tuple", data := .seq #[x, y] } → h'.objs.size = s.heap.objs.size + 1 → (∀ b o, b ≠ c → s.heap.get? b = some o → h'.get? b = some o) →
      Q (.done (.ret (.ref s.heap.objs.size))) { s with heap := h' }) :
    wpAny (model prog w) A (do
      let result ← (do
        let items ← Builtin.Itertools.itPoolItems (.ref pool)
        newTuple ([i, j].map fun i => items.getD i .none))
      let before ← field (.ref c) 2
      setField (.ref c) 2 result
      letGo [before] [result]
      ret result) Q E s := by
  refine wpAny_bind (wpAny_bind (comb_items hp ?_))
  have e : ([i, j].map fun i => items.getD i Value.none) = [x, y] := by
    have e1 : items.getD i Value.none = x := by rw [Array.getD_eq_getD_getElem?, hx]; rfl
    have e2 : items.getD j Value.none = y := by rw [Array.getD_eq_getD_getElem?, hy]; rfl
    show [items.getD i Value.none, items.getD j Value.none] = _
    rw [e1, e2]
  rw [e]
  refine wpAny_newTuple ?_
  have hel : c < s.heap.objs.size := Heap.lt_size he
  have he1 : IsComb (s.heap.push { cls := .type "tuple", data := .seq [x, y].toArray }) c pool st res i j := Heap.get?_push_of_some _ he
  refine wpAny_bind (wpAny_field he1 rfl (x := res) rfl ?_)
  refine wpAny_bind (wpAny_setField_rec he1 (by simp) fun h2 he2 hs2 => ?_)
  refine wpAny_bind (wpAny_letGo (wpAny_pure ?_))
  refine h h2 he2 ?_ (by rw [hs2.1]; exact Heap.size_push ..) fun b o hb q => (hs2.2 b hb).trans (Heap.get?_push_of_some _ q)
  exact (hs2.2 _ (Nat.ne_of_gt hel)).trans (Heap.get?_push_size _ rfl)
/-- where the places stand behind a turn -/
def nx (n : Nat) (i j : Nat) : Option (Nat × Nat) := if j + 1 < n then some (i, j + 1) else if i + 2 < n then some (i + 1, i + 2) else none
theorem comb_first {items : Array Value} {x y : Value} {Q : Option Value → Shared → Prop} (he : IsComb s.heap c pool 0 res i j) (hp : s.heap.IsTuple pool items) (hne : pool ≠ c) (hx : items[i]? = some x) (hy : items[j]? = some y)
    (h : ∀ h', IsComb h' c pool 1 (.ref s.heap.objs.size) i j → h'.get? s.heap.objs.size = some { cls := .type "tuple", data := .seq #[x, y] } → h'.objs.size = s.heap.objs.size + 1 → (∀ b o, b ≠ c → s.heap.get? b = some o → h'.get? b = some o) →
      Q (some (.ref s.heap.objs.size)) { s with heap := h' }) : wpAny (model prog w) A (pyNext (.ref c)) Q E s := by
  have hT : s.TypeIs (.ref c) "itertools.combinations" := ⟨_, he, rfl⟩
  unfold pyNext
  refine wpAny_bind (wpAny_attempt (wpAny_callSpecial?_slot (name := Str.ofString "__next__") hT slot_comb_next (wpAny_call_entry slot_comb_next hT entry_comb_next ?_ (args_comb_next _))))
  show wpAny _ _ (field (.ref c) 0 >>= _) _ _ s
  refine wpAny_bind (wpAny_field he rfl (x := .ref pool) rfl ?_)
  refine wpAny_bind (comb_numbers he ?_)
  refine wpAny_bind (comb_int he ?_)
  show wpAny _ _ (setField (.ref c) 1 (rawInt 1) >>= _) _ _ s
  refine wpAny_bind (wpAny_setField_rec he (by simp) fun h1 he1 hs1 => ?_)
  have he1' : IsComb h1 c pool 1 res i j := he1
  have hp1 : h1.IsTuple pool items := by
    obtain ⟨o, ho, r⟩ := hp
    exact ⟨o, (hs1.2 pool hne).trans ho, r⟩
  refine comb_hand (s := { s with heap := h1 }) he1' hp1 hx hy fun h2 a b cc d => ?_
  have z : h1.objs.size = s.heap.objs.size := hs1.1
  have a : IsComb h2 c pool 1 (.ref h1.objs.size) i j := a
  have b : h2.get? h1.objs.size = some { cls := .type "tuple", data := .seq #[x, y] } := b
  have cc : h2.objs.size = h1.objs.size + 1 := cc
  rw [z] at a b cc
  have q := h h2 a b cc fun b' o hb q => d b' o hb ((hs1.2 b' hb).trans q)
  show ∃ v, Fin.done (Flow.ret (Value.ref h1.objs.size)) = Fin.done (Flow.ret v) ∧ _
  rw [z]
  exact ⟨_, rfl, wpAny_pure q⟩
theorem nx_eq {n i j : Nat} (hij : i < j) (hj : j < n) : (match (List.range 2).reverse.find? fun k => [i, j].getD k 0 != k + n - 2 with
    | none => none
    | some k => some ([i, j].take k ++ (List.range (2 - k)).map ([i, j].getD k 0 + 1 + ·))) = (nx n i j).map fun p => [p.1, p.2] := by
  have e : (List.range 2).reverse = [1, 0] := by decide
  rw [e]
  unfold nx
  by_cases h1 : j + 1 < n
  · have c1 : ([i, j].getD 1 0 != 1 + n - 2) = true := by
      show (j != 1 + n - 2) = true
      simp; omega
    simp only [List.find?_cons, c1, if_pos h1]
    rfl
  · have c1 : ([i, j].getD 1 0 != 1 + n - 2) = false := by
      show (j != 1 + n - 2) = false
      simp; omega
    by_cases h2 : i + 2 < n
    · have c2 : ([i, j].getD 0 0 != 0 + n - 2) = true := by
        show (i != 0 + n - 2) = true
        simp; omega
      simp only [List.find?_cons, c1, c2, if_neg h1, if_pos h2]
      rfl
    · have c2 : ([i, j].getD 0 0 != 0 + n - 2) = false := by
        show (i != 0 + n - 2) = false
        simp; omega
      simp only [List.find?_cons, c1, c2, if_neg h1, if_neg h2]
      rfl
theorem comb_next {items : Array Value} {i' j' : Nat} {x y : Value} {Q : Option Value → Shared → Prop} (he : IsComb s.heap c pool 1 res i j) (hp : s.heap.IsTuple pool items) (hne : pool ≠ c) (hij : i < j) (hj : j < items.size) (hn : nx items.size i j = some (i', j')) (hx : items[i']? = some x) (hy : items[j']? = some y)
    (h : ∀ h', IsComb h' c pool 1 (.ref s.heap.objs.size) i' j' → h'.get? s.heap.objs.size = some { cls := .type "tuple", data := .seq #[x, y] } → h'.objs.size = s.heap.objs.size + 1 → (∀ b o, b ≠ c → s.heap.get? b = some o → h'.get? b = some o) →
      Q (some (.ref s.heap.objs.size)) { s with heap := h' }) : wpAny (model prog w) A (pyNext (.ref c)) Q E s := by
  have hT : s.TypeIs (.ref c) "itertools.combinations" := ⟨_, he, rfl⟩
  unfold pyNext
  refine wpAny_bind (wpAny_attempt (wpAny_callSpecial?_slot (name := Str.ofString "__next__") hT slot_comb_next (wpAny_call_entry slot_comb_next hT entry_comb_next ?_ (args_comb_next _))))
  show wpAny _ _ (field (.ref c) 0 >>= _) _ _ s
  refine wpAny_bind (wpAny_field he rfl (x := .ref pool) rfl ?_)
  refine wpAny_bind (comb_numbers he ?_)
  refine wpAny_bind (comb_int he ?_)
  show wpAny _ _ (Builtin.Itertools.itPoolItems (.ref pool) >>= _) _ _ s
  refine wpAny_bind (comb_items hp ?_)
  have e := nx_eq hij hj
  rw [hn] at e
  show wpAny _ _ (match (match (List.range 2).reverse.find? fun k => [i, j].getD k 0 != k + items.size - 2 with
    | none => none
    | some k => some ([i, j].take k ++ (List.range (2 - k)).map ([i, j].getD k 0 + 1 + ·))) with | some next => _ | none => _) _ _ s
  rw [e]
  show wpAny _ _ (Builtin.Itertools.itSetNumbersFrom (.ref c) 3 [i', j'] >>= _) _ _ s
  refine wpAny_bind (comb_set he fun h1 he1 hs1 => ?_)
  have hp1 : h1.IsTuple pool items := by
    obtain ⟨o, ho, r⟩ := hp
    exact ⟨o, (hs1.2 pool hne).trans ho, r⟩
  refine comb_hand (s := { s with heap := h1 }) he1 hp1 hx hy fun h2 a b cc d => ?_
  have z : h1.objs.size = s.heap.objs.size := hs1.1
  have a : IsComb h2 c pool 1 (.ref h1.objs.size) i' j' := a
  have b : h2.get? h1.objs.size = some { cls := .type "tuple", data := .seq #[x, y] } := b
  have cc : h2.objs.size = h1.objs.size + 1 := cc
  rw [z] at a b cc
  have q := h h2 a b cc fun b' o hb q => d b' o hb ((hs1.2 b' hb).trans q)
  show ∃ v, Fin.done (Flow.ret (Value.ref h1.objs.size)) = Fin.done (Flow.ret v) ∧ _
  rw [z]
  exact ⟨_, rfl, wpAny_pure q⟩
theorem comb_stop {Q : Fin → Shared → Prop} (hh : A.handled = none)
    (hQ : ∀ h', (∀ b o, s.heap.get? b = some o → h'.get? b = some o) → ∀ e, (∃ o, h'.get? e = some o ∧ o.cls = .type "StopIteration") → E (.ref e) { s with heap := h' }) : wpAny (model prog w) A Builtin.Itertools.itStop Q E s := by
  unfold Builtin.Itertools.itStop
  refine wpAny_bind ?_
  simp only [newExc, newTuple]
  refine wpAny_bind (wpAny_newObj_type ?_ (by size_fits))
  refine wpAny_bind (m := firstArgMember _ _) (wpAny_of_eq (a := Value.none) (by first | rfl | (simp only [firstArgMember]; rfl)) ?_)
  refine wpAny_newObj_type ?_ (by size_fits)
  simp only [raiseNew]
  refine wpAny_bind (wpAny_handled ?_)
  rw [hh]
  refine wpAny_bind (wpAny_pure (wpAny_throw ?_))
  exact hQ _ (fun b o q => Heap.get?_push_of_some _ (Heap.get?_push_of_some _ q)) _ ⟨_, Heap.get?_push_size _ rfl, rfl⟩
theorem comb_end {items : Array Value} {Q : Option Value → Shared → Prop} (hh : A.handled = none) (he : IsComb s.heap c pool st res i j) (hp : s.heap.IsTuple pool items) (hst : st = 2 ∨ (st = 1 ∧ i < j ∧ j < items.size ∧ nx items.size i j = none))
    (h : ∀ h', (∀ b o, b ≠ c → s.heap.get? b = some o → h'.get? b = some o) → Q none { s with heap := h' }) : wpAny (model prog w) A (pyNext (.ref c)) Q E s := by
  have hT : s.TypeIs (.ref c) "itertools.combinations" := ⟨_, he, rfl⟩
  unfold pyNext
  refine wpAny_bind (wpAny_attempt (wpAny_callSpecial?_slot (name := Str.ofString "__next__") hT slot_comb_next (wpAny_call_entry slot_comb_next hT entry_comb_next ?_ (args_comb_next _))))
  show wpAny _ _ (field (.ref c) 0 >>= _) _ _ s
  refine wpAny_bind (wpAny_field he rfl (x := .ref pool) rfl ?_)
  refine wpAny_bind (comb_numbers he ?_)
  refine wpAny_bind (comb_int he ?_)
  rcases hst with hst | ⟨hst, hij, hj, hn⟩
  · subst hst
    show wpAny _ _ (rule "itertools.combinations.ended" >>= fun _ => Builtin.Itertools.itStop) _ _ s
    refine wpAny_bind (wpAny_rule (comb_stop hh fun h' hk x hx => ?_))
    obtain ⟨o, ho, hc⟩ := hx
    refine wpAny_bind (wpAny_isInstance (T := "StopIteration") (b := true) ⟨o, ho, hc⟩ isSubtype_stop ?_)
    exact wpAny_pure (h h' fun b o _ q => hk b o q)
  · subst hst
    show wpAny _ _ (Builtin.Itertools.itPoolItems (.ref pool) >>= _) _ _ s
    refine wpAny_bind (comb_items hp ?_)
    have e := nx_eq hij hj
    rw [hn] at e
    show wpAny _ _ (match (match (List.range 2).reverse.find? fun k => [i, j].getD k 0 != k + items.size - 2 with
      | none => none
      | some k => some ([i, j].take k ++ (List.range (2 - k)).map ([i, j].getD k 0 + 1 + ·))) with | some next => _ | none => _) _ _ s
    rw [e]
    show wpAny _ _ (setField (.ref c) 1 (rawInt 2) >>= fun _ => Builtin.Itertools.itStop) _ _ s
    refine wpAny_bind (wpAny_setField_rec he (by simp) fun h1 he1 hs1 => ?_)
    refine comb_stop (s := { s with heap := h1 }) hh fun h' hk x hx => ?_
    obtain ⟨o, ho, hc⟩ := hx
    refine wpAny_bind (wpAny_isInstance (T := "StopIteration") (b := true) ⟨o, ho, hc⟩ isSubtype_stop ?_)
    exact wpAny_pure (h h' fun b o hb q => hk b o ((hs1.2 b hb).trans q))
end
/-! ### the pairs, in their order -/
def cs (n a b : Nat) : List (Nat × Nat) := (a, b) :: (if h : b + 1 < n then cs n a (b + 1) else if h2 : a + 2 < n then cs n (a + 1) (a + 2) else [])
termination_by (n - a, n - b)
def csT (n a b : Nat) : List (Nat × Nat) := match nx n a b with
  | some p => cs n p.1 p.2
  | none => []
theorem cs_eq (n a b : Nat) : cs n a b = (a, b) :: csT n a b := by
  rw [cs]
  unfold csT nx
  by_cases h : b + 1 < n
  · rw [dif_pos h, if_pos h]
  · rw [dif_neg h, if_neg h]
    by_cases h2 : a + 2 < n
    · rw [dif_pos h2, if_pos h2]
    · rw [dif_neg h2, if_neg h2]
theorem csT_some {n a b : Nat} {p : Nat × Nat} (h : nx n a b = some p) : csT n a b = cs n p.1 p.2 := by unfold csT; rw [h]
theorem csT_none {n a b : Nat} (h : nx n a b = none) : csT n a b = [] := by unfold csT; rw [h]
end DL

set_option Elab.async false
set_option linter.all false
set_option maxRecDepth 100000
set_option maxHeartbeats 4000000
namespace DL
open PySem PySem.Spec PyProof.Rows L2 PySem.F
def pairIx (n : Nat) : List (Nat × Nat) := if 2 ≤ n then cs n 0 1 else []
def pairsD (ds : List D) : List D := (pairIx ds.length).map fun p => .tup [ds.getD p.1 .non, ds.getD p.2 .non]
def itComb (a : DA) : DA := fun ρ M => (a ρ M).bind fun ds M1 => match ds with
  | [d, .int j] => if j = 2 then (match seqF d with
    | some xs => .ok (pairsD xs) M1
    | none => .stuck) else .stuck
  | _ => .stuck
theorem nx_in {n a b : Nat} {p : Nat × Nat} (h : nx n a b = some p) (hab : a < b) (hb : b < n) : p.1 < p.2 ∧ p.2 < n := by
  unfold nx at h
  by_cases h1 : b + 1 < n
  · rw [if_pos h1] at h; cases h; exact ⟨by show a < b + 1; omega, h1⟩
  · rw [if_neg h1] at h
    by_cases h2 : a + 2 < n
    · rw [if_pos h2] at h; cases h; exact ⟨by show a + 1 < a + 2; omega, h2⟩
    · rw [if_neg h2] at h; cases h
theorem cs_in {n : Nat} : ∀ (k : Nat) {a b : Nat} {p : Nat × Nat}, (n - a) * (n + 1) + (n - b) ≤ k → a < b → b < n → p ∈ cs n a b → p.1 < p.2 ∧ p.2 < n
  | 0, a, b, p, hk, hab, hb, _ => by exfalso; omega
  | k + 1, a, b, p, hk, hab, hb, hp => by
    rw [cs_eq] at hp
    rcases List.mem_cons.mp hp with e | hp
    · rw [e]; exact ⟨hab, hb⟩
    · cases z : nx n a b with
      | none => rw [csT_none z] at hp; cases hp
      | some q =>
        rw [csT_some z] at hp
        obtain ⟨h1, h2⟩ := nx_in z hab hb
        refine cs_in k ?_ h1 h2 hp
        unfold nx at z
        by_cases c1 : b + 1 < n
        · rw [if_pos c1] at z; cases z
          show (n - a) * (n + 1) + (n - (b + 1)) ≤ k
          omega
        · rw [if_neg c1] at z
          by_cases c2 : a + 2 < n
          · rw [if_pos c2] at z; cases z
            show (n - (a + 1)) * (n + 1) + (n - (a + 2)) ≤ k
            have e : n - a = (n - (a + 1)) + 1 := by omega
            rw [e, Nat.add_mul] at hk
            omega
          · rw [if_neg c2] at z; cases z
theorem pairIx_in {n : Nat} {p : Nat × Nat} (h : p ∈ pairIx n) : p.1 < p.2 ∧ p.2 < n := by
  unfold pairIx at h
  by_cases h2 : 2 ≤ n
  · rw [if_pos h2] at h; exact cs_in _ (Nat.le_refl _) (by omega) (by omega) h
  · rw [if_neg h2] at h; cases h
/-- how far the record is -/
def CS (n i : Nat) (st : Int) (a b : Nat) : Prop :=
  (st = 0 ∧ i = 0 ∧ a = 0 ∧ b = 1 ∧ 2 ≤ n) ∨ (st = 2 ∧ n < 2) ∨ (st = 1 ∧ a < b ∧ b < n ∧ (pairIx n).drop i = csT n a b)
/-- pairs of the items that stood in the pool -/
def ItC (xs : List V) : It :=
  ⟨fun i _ => i < (pairIx xs.length).length, fun i H v H' => ∃ T p x y, v = .ref T ∧ H T = none ∧ H' = upd H T (.tup [x, y]) ∧ (pairIx xs.length)[i]? = some p ∧ xs[p.1]? = some x ∧ xs[p.2]? = some y, fun i _ => (pairIx xs.length).length ≤ i⟩
theorem turn_comb {P : Program} {w : World} {K : PySem.W.Frag} {tg : Expr} {xs : List V} {us : List Value} (r : Vals xs us) (c pool : Addr) : Turn P w K tg (ItC xs) [c, pool] c
    (fun i h => h.IsTuple pool us.toArray ∧ pool ≠ c ∧ ∃ st res a b, IsComb h c pool st res a b ∧ CS xs.length i st a b) where
  mem := by simp
  obj := fun i h st b hb => by
    obtain ⟨⟨o, ho, hc, n, hd⟩, hne, s, res, a, b', he, _⟩ := st
    have e' : b = c ∨ b = pool := by simpa using hb
    rcases e' with z | z
    · rw [z]; exact ⟨_, he, fun v q => nomatch q⟩
    · rw [z]; exact ⟨o, ho, fun v q => by rw [hd] at q; cases q⟩
  keep := fun i h h' st k => by
    obtain ⟨⟨o, ho, q⟩, hne, s, res, a, b', he, z⟩ := st
    exact ⟨⟨o, k pool (by simp) o ho, q⟩, hne, s, res, a, b', k c (by simp) _ he, z⟩
  item := by
    intro X hP hw hK hc i pins s σ H E I hf st hg
    subst hP hw hK
    obtain ⟨hp, hne, st, res, a, b, he, hs⟩ := st
    have hg : i < (pairIx xs.length).length := hg
    have hl : us.toArray.size = xs.length := by rw [List.size_toArray]; exact r.length.symm
    have hcl : c < s.heap.objs.size := Heap.lt_size he
    have hpl : pool < s.heap.objs.size := by obtain ⟨o, ho, _⟩ := hp; exact Heap.lt_size ho
    -- the turn's end, for each case
    have fin : ∀ (p : Nat × Nat) (x y : V) (u v : Value), (pairIx xs.length)[i]? = some p → xs[p.1]? = some x → xs[p.2]? = some y → RelV x u → RelV y v → CS xs.length (i + 1) 1 p.1 p.2 →
        ∀ h', IsComb h' c pool 1 (.ref s.heap.objs.size) p.1 p.2 → h'.get? s.heap.objs.size = some { cls := .type "tuple", data := .seq #[u, v] } → h'.objs.size = s.heap.objs.size + 1 → (∀ b o, b ≠ c → s.heap.get? b = some o → h'.get? b = some o) →
        ∃ z, some (Value.ref s.heap.objs.size) = some z ∧ wpAny (model X.prog X.w) X.A (letOwnedTupleGo tg (.ref c) z) (fun _ s2 => ∃ x H', Inv X pins σ H' s2 ∧ RelV x z ∧ (ItC xs).yld i H x H' ∧ (s2.heap.IsTuple pool us.toArray ∧ pool ≠ c ∧ ∃ st res a b, IsComb s2.heap c pool st res a b ∧ CS xs.length (i + 1) st a b) ∧ ∀ b ∈ [c, pool], H' b = none) E { s with heap := h' } := by
      intro p x y u v h1 h2 h3 ru rv hcs h' he' hT hsz hk
      have new : ObjOk X.prog X.w (upd H s.heap.objs.size (.tup [x, y])) h' s.heap.objs.size (.tup [x, y]) :=
        ⟨by show 2 ≤ sizeLine; decide, [u, v], .cons ru (.cons rv .nil), ⟨_, hT, rfl, _, rfl⟩⟩
      have I1 : Inv X pins σ (upd H s.heap.objs.size (.tup [x, y])) { s with heap := h' } :=
        I.turnedNew (t' := s.toks) (ch := [c, pool]) (fun d o hb q => hk d o (fun z => hb (by simp [z])) q) hf (Nat.le_refl _) new
      refine ⟨_, rfl, go_of (s := { s with heap := h' }) (n := "itertools.combinations") he' rfl rfl (by decide) ?_⟩
      refine ⟨.ref s.heap.objs.size, _, I1, rfl, ⟨_, p, x, y, rfl, I.hok.fresh (Nat.le_refl _), rfl, h1, h2, h3⟩, ⟨?_, hne, 1, _, p.1, p.2, he', hcs⟩, fun d hd => ?_⟩
      · obtain ⟨o, ho, q⟩ := hp
        exact ⟨o, hk pool o hne ho, q⟩
      · have hd' : d < s.heap.objs.size := by
          have e' : d = c ∨ d = pool := by simpa using hd
          rcases e' with z | z
          · rw [z]; exact hcl
          · rw [z]; exact hpl
        rw [upd_ne (Nat.ne_of_lt hd')]
        exact (hf d hd).1
    have at_ : ∀ {k : Nat}, k < xs.length → ∃ x u, xs[k]? = some x ∧ us.toArray[k]? = some u ∧ RelV x u := fun {k} hk => by
      have e : xs[k]? = some xs[k] := List.getElem?_eq_getElem hk
      obtain ⟨u, h1, h2⟩ := r.get e
      exact ⟨_, u, e, by simpa using h1, h2⟩
    rcases hs with ⟨rfl, hi, rfl, rfl, hn⟩ | ⟨_, hn⟩ | ⟨rfl, hab, hb, hd⟩
    · subst hi
      obtain ⟨x, u, x1, x2, x3⟩ := at_ (k := 0) (by omega)
      obtain ⟨y, v, y1, y2, y3⟩ := at_ (k := 1) (by omega)
      have e0 : pairIx xs.length = (0, 1) :: csT xs.length 0 1 := by
        unfold pairIx
        rw [if_pos hn, cs_eq]
      refine comb_first he hp hne x2 y2 fun h' g1 g2 g3 g4 => fin (0, 1) x y u v (by rw [e0]; rfl) x1 y1 x3 y3 (.inr (.inr ⟨rfl, by omega, by omega, by rw [e0]; rfl⟩)) h' g1 g2 g3 g4
    · exfalso
      have e : pairIx xs.length = [] := by unfold pairIx; rw [if_neg (by omega)]
      rw [e] at hg
      cases hg
    · have hlen : ((pairIx xs.length).drop i).length ≠ 0 := by rw [List.length_drop]; omega
      cases z : nx xs.length a b with
      | none => rw [hd, csT_none z] at hlen; exact absurd rfl hlen
      | some p =>
        rw [csT_some z] at hd
        obtain ⟨p1, p2⟩ := nx_in z hab hb
        obtain ⟨x, u, x1, x2, x3⟩ := at_ (k := p.1) (by omega)
        obtain ⟨y, v, y1, y2, y3⟩ := at_ (k := p.2) p2
        rw [cs_eq] at hd
        have hat : (pairIx xs.length)[i]? = some p := by
          have q : ((pairIx xs.length).drop i)[0]? = some p := by rw [hd]; rfl
          rw [List.getElem?_drop] at q
          exact q
        have htl : (pairIx xs.length).drop (i + 1) = csT xs.length p.1 p.2 := by
          have q : ((pairIx xs.length).drop i).drop 1 = _ := congrArg (List.drop 1) hd
          rw [List.drop_drop] at q
          exact q
        refine comb_next (i' := p.1) (j' := p.2) he hp hne hab (by rw [hl]; exact hb) (by rw [hl]; exact z) x2 y2 fun h' g1 g2 g3 g4 => fin p x y u v hat x1 y1 x3 y3 (.inr (.inr ⟨rfl, p1, p2, htl⟩)) h' g1 g2 g3 g4
  done := by
    intro X hP hw hK hc i pins s σ H E I hf st hg
    subst hP hw hK
    obtain ⟨hp, hne, st, res, a, b, he, hs⟩ := st
    have hg : (pairIx xs.length).length ≤ i := hg
    have hl : us.toArray.size = xs.length := by rw [List.size_toArray]; exact r.length.symm
    obtain ⟨f0, f1, f2, f3, f4, f5⟩ := hf c (by simp)
    refine comb_end (I.ok.hd hc) he hp ?_ fun h' hk => ⟨rfl, I.turned (t' := s.toks) (fun d o hb q => hk d o hb q) f0 f1 f3 f4 f5⟩
    rcases hs with ⟨_, hi, _, _, hn⟩ | ⟨h2, _⟩ | ⟨h1, hab, hb, hd⟩
    · exfalso
      subst hi
      have e0 : pairIx xs.length = (0, 1) :: csT xs.length 0 1 := by
        unfold pairIx
        rw [if_pos hn, cs_eq]
      rw [e0] at hg
      cases hg
    · exact .inl h2
    · refine .inr ⟨h1, hab, by rw [hl]; exact hb, ?_⟩
      rw [hl]
      rw [List.drop_eq_nil_of_le hg] at hd
      cases z : nx xs.length a b with
      | none => rfl
      | some p => rw [csT_some z, cs_eq] at hd; cases hd
  self := fun A i s Q E st h => let ⟨_, _, _, _, _, _, he, _⟩ := st; iter_comb he h
section
variable {X : Cx} {E : XK} {tg e e2 : Expr} {m : DA} {p pos : Pos}
def iComb (K : PySem.W.Frag) (ta : TA) : TI := fun σ H R => ta σ H fun vs H1 => ∃ a xs, vs = [.ref a, .int 2] ∧ (SqL K H1 a xs ∨ SqT K H1 a xs) ∧ R (ItC xs) H1
theorem pi_comb {ta : TA} (hg : Gl X "combinations") (hm : X.mg "combinations" = some (.type "itertools.combinations")) (ha : PA X [e, e2] ta)
    (hs : starEach [e, e2] X.env = (false, eval e X.env) :: starEach [e2] X.env := by rfl) (hpl : (backTo pos (starEach [e2] X.env)).any (·.1) = false := by rfl) :
    PI X tg (.Call (.Name "combinations" p) [e, e2] [] pos) (iComb X.K ta) := by
  refine ⟨fun pins s σ H R I h => ?_⟩
  refine Call_ (ld_glob I hg hm (PyProof.Rows.callWith_type1 (thn (ha.run pos pins s σ H _ I h) fun us s1 ⟨vs, H1, I1, r1, q1⟩ => ?_) hs hpl))
  obtain ⟨a, xs, ex, hsq, q⟩ := q1
  subst ex
  cases r1 with
  | cons r rr =>
    cases rr with
    | cons r' rr =>
      cases rr
      cases r
      obtain ⟨t, rfl⟩ := r'
      have both : ∃ (T : String) (o : Obj) (its : List Value) (n : Nat), (T = "list" ∨ T = "tuple") ∧ s1.heap.get? a = some o ∧ o.cls = .type T ∧ o.data = .seq its.toArray n ∧ its.toArray.size ≤ sizeLine ∧ Vals xs its := by
        rcases hsq with hsq | hsq
        · obtain ⟨its, rv, p1, hz⟩ := I1.list hsq
          obtain ⟨o, h1, h2, n, h3⟩ := p1.isList
          exact ⟨_, o, its, n, .inl rfl, h1, h2, h3, by rw [List.size_toArray, ← rv.length]; exact hz, rv⟩
        · obtain ⟨its, rv, p1, hz⟩ := I1.tuple hsq
          obtain ⟨o, h1, h2, n, h3⟩ := (show s1.heap.IsTuple a its.toArray from p1)
          exact ⟨_, o, its, n, .inr rfl, h1, h2, h3, by rw [List.size_toArray, ← rv.length]; exact hz, rv⟩
      obtain ⟨T, o, its, n, hT, ho, hc, hd, hz, rv⟩ := both
      refine call_comb hT ho hc hd hz fun h0 h' k0 he hp hsz hk => iter_comb he ?_
      have I0 : Inv X pins _ H1 { s1 with heap := h0 } := I1.kept (t' := s1.toks) k0
      have I2 : Inv X pins _ H1 { s1 with heap := h' } := I0.kept (t' := s1.toks) hk
      refine ⟨h0.objs.size + 1, [h0.objs.size + 1, h0.objs.size], _, _, H1, rfl, I2, turn_comb rv (h0.objs.size + 1) h0.objs.size, ⟨by simpa using hp, Nat.ne_of_lt (Nat.lt_succ_self _), _, _, 0, 1, he, ?_⟩, fun b hb => ?_, q⟩
      · have hl : its.toArray.toList.length = xs.length := by rw [rv.length]
        rw [hl]
        by_cases h2 : 2 > xs.length
        · rw [if_pos h2]; exact .inr (.inl ⟨rfl, h2⟩)
        · rw [if_neg h2]; exact .inl ⟨rfl, rfl, rfl, rfl, by omega⟩
      · have e' : b = h0.objs.size + 1 ∨ b = h0.objs.size := by simpa using hb
        have hle : h0.objs.size ≤ b := by
          rcases e' with z | z <;> rw [z]
          · exact Nat.le_add_right _ _
          · exact Nat.le_refl _
        exact I0.fpOk hle (I0.hok.fresh hle)
theorem goes_comb {K : PySem.W.Frag} {H : Hp} {α : Al} {M : Store} {xs : List V} {ds : List D} (r : Reps K H α M xs ds) : Goes K (ItC xs) (pairsD ds) H α M := by
  intro H' α' M' l w'
  have hn := r.length
  have hl : (pairsD ds).length = (pairIx xs.length).length := by unfold pairsD; rw [List.length_map, hn]
  refine ⟨fun i hi => ?_, ?_, fun i d hd x H'' y => ?_⟩
  · show i < (pairIx xs.length).length
    rw [← hl]; exact hi
  · show (pairIx xs.length).length ≤ _
    rw [hl]; exact Nat.le_refl _
  · obtain ⟨T, p, u, v, e1, e2, e3, e4, e5, e6⟩ := y
    subst e1 e3
    unfold pairsD at hd
    rw [List.getElem?_map, ← hn, e4] at hd
    have hd : some (D.tup [ds.getD p.1 .non, ds.getD p.2 .non]) = some d := hd
    cases hd
    obtain ⟨d1, f1, f2⟩ := r.getV e5
    obtain ⟨d2, g1, g2⟩ := r.getV e6
    have q1 : ds.getD p.1 .non = d1 := by rw [List.getD_eq_getElem?_getD, f1]; rfl
    have q2 : ds.getD p.2 .non = d2 := by rw [List.getD_eq_getElem?_getD, g1]; rfl
    rw [q1, q2]
    have l2 : Le H' α' M' (upd H' T (.tup [u, v])) α' M' := Le.laid w' e2
    exact ⟨l2, w'.laid e2, .tup (.inl ⟨.inl upd_same, w'.free e2⟩) (.cons (f2.monoY (l.trans l2.ly)) (.cons (g2.monoY (l.trans l2.ly)) .nil))⟩
theorem pid_comb (ha : PDA X E [e, e2] m) (hg : Gl X "combinations") (hm : X.mg "combinations" = some (.type "itertools.combinations"))
    (hs : starEach [e, e2] X.env = (false, eval e X.env) :: starEach [e2] X.env := by rfl) (hpl : (backTo pos (starEach [e2] X.env)).any (·.1) = false := by rfl) : PID X E tg (.Call (.Name "combinations" p) [e, e2] [] pos) (itComb m) := by
  obtain ⟨t, h1, r1⟩ := ha.ex
  refine ⟨_, pi_comb hg hm h1 hs hpl, fun σ H ρ α M R w s q => ?_⟩
  refine r1 σ H ρ α M _ w s (Post.imp (Post.bind q) fun ds H1 α1 M1 l1 w1 h1 vs rv => ?_)
  match ds, rv, h1 with
  | [d, .int j], .cons (v := v) rv (.cons (.int _) .nil), h1 =>
    obtain ⟨hj, h2⟩ := ite_ok h1
    subst hj
    cases z : seqF d with
    | none => rw [z] at h2; exact h2.elim
    | some xs =>
      rw [z] at h2
      obtain ⟨a, us, rfl, r, hq⟩ := rep_seqF rv z
      exact ⟨a, us, rfl, hq.elim (fun q => .inl q.1) (fun q => .inr q.1), Post.here (E := E) w1 h2 _ (goes_comb r)⟩
  | _ :: .int _ :: _ :: _, .cons _ (.cons _ (.cons _ _)), h1 => exact h1.elim
end
end DL

set_option Elab.async false
set_option linter.all false
set_option maxRecDepth 100000
set_option maxHeartbeats 4000000
namespace DL
open PySem PySem.Spec PyProof.Rows L2
section
variable {α β : Type} {a : α} {f : α → Store → Res β} {M : Store} {ρ : Sl} {ds xs ys : List D} {d e : D} {i j : Int}
@[simp] theorem s_bind : (Res.ok a M).bind f = f a M := rfl
@[simp] theorem s_mC : mC d ρ M = .ok d M := rfl
@[simp] theorem s_mNil : mNil ρ M = .ok [] M := rfl
@[simp] theorem s_mNx : mNx ρ M = .ok (.nx, ρ) M := rfl
@[simp] theorem s_mYes : mYes ρ M = .ok true M := rfl
@[simp] theorem s_mStop : mStop ρ M = .stuck := rfl
@[simp] theorem s_bName {i : Nat} : bName i d ρ M = .ok (ρ.set i (some d)) M := rfl
@[simp] theorem s_mV {i : Nat} (h : ρ[i]? = some (some d)) : mV i ρ M = .ok d M := by unfold mV; rw [h]
@[simp] theorem s_bNil : bNil [] ρ M = .ok ρ M := rfl
@[simp] theorem s_bCons {b : Bd} {r : Bds} : bCons b r (d :: ds) ρ M = (b d ρ M).bind fun ρ1 M1 => r ds ρ1 M1 := rfl
theorem s_bTup {n : Nat} {b : Bds} (h : xs.length = n) : bTup n b (.tup xs) ρ M = b xs ρ M := by
  unfold bTup; rw [show seqOf M (.tup xs) = some xs from rfl]; show (if xs.length = n then _ else _) = _; rw [if_pos h]
theorem s_newTup (h : xs.length ≤ 16777216) : newTup xs M = .ok (.tup xs) M := if_pos h
theorem s_newLst (h : xs.length ≤ 16777216) : newLst xs M = .ok (.lst xs) M := if_pos h
theorem mulOk_of {a b : Nat} (h1 : i.natAbs < 2 ^ a) (h2 : j.natAbs < 2 ^ b) (h : a + b ≤ 134000000 := by omega) (ha : 0 < a := by omega) : mulOk i j = true := by
  unfold mulOk
  refine decide_eq_true ?_
  have e1 : i.natAbs.log2 < a := by
    by_cases z : i.natAbs = 0
    · rw [z]; exact ha
    · exact (Nat.log2_lt z).mpr h1
  have e2 : j.natAbs.log2 ≤ b := by
    by_cases z : j.natAbs = 0
    · rw [z]; exact Nat.zero_le _
    · exact Nat.le_of_lt ((Nat.log2_lt z).mpr h2)
  omega
theorem divOk_of {j : Int} (h0 : j ≠ 0) (h : j.natAbs < 2 ^ 9000) : divOk j = true := by
  unfold divOk
  rw [decide_eq_true h0, decide_eq_true ((Nat.log2_lt (by omega)).mpr h)]
  rfl
theorem run_rt {n N : Nat} {m : DS} {ρ1 : Sl} (hl : ds.length = n) (h : m (sl0 N ds) M = .ok (.rt d, ρ1) M) (hf : locFree d = true) : runDef n N m ds M = .ok d M := by
  unfold runDef
  rw [if_pos hl, h]
  show (if locFree d = true then Res.ok d (M.take M.length) else .stuck) = _
  rw [if_pos hf, List.take_length]
theorem run_rt' {n N : Nat} {m : DS} {ρ1 : Sl} {M1 : Store} (hl : ds.length = n) (h : m (sl0 N ds) M = .ok (.rt d, ρ1) M1) (hf : locFree d = true) : runDef n N m ds M = .ok d (M1.take M.length) := by
  unfold runDef
  rw [if_pos hl, h]
  show (if locFree d = true then Res.ok d (M1.take M.length) else .stuck) = _
  rw [if_pos hf]
theorem seq_nx {a b : DS} {ρ1 : Sl} {M1 : Store} (h : a ρ M = .ok (.nx, ρ1) M1) : mSeq a b ρ M = b ρ1 M1 := by
  unfold mSeq; rw [h]; rfl
theorem seq_rt {a b : DS} {ρ1 : Sl} {M1 : Store} (h : a ρ M = .ok (.rt d, ρ1) M1) : mSeq a b ρ M = .ok (.rt d, ρ1) M1 := by
  unfold mSeq; rw [h]; rfl
@[simp] theorem cell_snoc {c : Option (List D)} : cellAt (M ++ [c]) M.length = c := by
  unfold cellAt
  rw [List.getElem?_append_right (Nat.le_refl _), Nat.sub_self]
  cases c <;> rfl
@[simp] theorem set_snoc {c d : Option (List D)} : (M ++ [c]).set M.length d = M ++ [d] := by
  rw [List.set_append_right _ _ (Nat.le_refl _), Nat.sub_self]
  rfl
@[simp] theorem take_snoc {c : Option (List D)} : (M ++ [c]).take M.length = M := by
  rw [List.take_append_of_le_length (Nat.le_refl _), List.take_length]
theorem s_newLoc (h : xs.length ≤ 16777216) (hf : locFrees xs = true) : newLoc xs M = .ok (.loc M.length) (M ++ [some xs]) := if_pos ⟨h, hf⟩
theorem app_snoc (h : xs.length < 16777216) (hf : locFree d = true) : appAt (M ++ [some xs]) M.length d = some (M ++ [some (xs ++ [d])]) := by
  unfold appAt
  rw [cell_snoc]
  show (if locFree d = true ∧ xs.length < 16777216 then some ((M ++ [some xs]).set M.length (some (xs ++ [d]))) else none) = _
  rw [if_pos ⟨hf, h⟩, set_snoc]
@[simp] theorem frees_nil : locFrees [] = true := by simp [locFrees]
@[simp] theorem frees_cons : locFrees (d :: ds) = (locFree d && locFrees ds) := by rw [locFrees]
@[simp] theorem free_tup : locFree (.tup ds) = locFrees ds := by rw [locFree]
@[simp] theorem free_lst : locFree (.lst ds) = locFrees ds := by rw [locFree]
@[simp] theorem free_int : locFree (.int i) = true := by rw [locFree]
@[simp] theorem new_nil : newLoc [] M = .ok (.loc M.length) (M ++ [some []]) := s_newLoc (by simp) (by simp)
theorem s_bTupL {n : Nat} {b : Bds} (h : xs.length = n) : bTup n b (.lst xs) ρ M = b xs ρ M := by
  unfold bTup; rw [show seqOf M (.lst xs) = some xs from rfl]; show (if xs.length = n then _ else _) = _; rw [if_pos h]
theorem for_cons {b : Bd} {body : DS} {ρ1 ρ2 : Sl} {M1 M2 : Store} (h1 : b d ρ M = .ok ρ1 M1) (h2 : body ρ1 M1 = .ok (.nx, ρ2) M2) : mForGo b body (d :: ds) ρ M = mForGo b body ds ρ2 M2 := by
  rw [mForGo, h1]
  show (Res.bind (body ρ1 M1) _) = _
  rw [h2]
  rfl
theorem for_nil {b : Bd} {body : DS} : mForGo b body [] ρ M = .ok (.nx, ρ) M := by rw [mForGo]
theorem for_ev {it : DA} {b : Bd} {body : DS} {xs : List D} {M1 : Store} (h : it ρ M = .ok xs M1) : mFor it b body ρ M = mForGo b body xs ρ M1 := by
  unfold mFor; rw [h]; rfl
end
theorem lc_map {γ : Type} {b : Bd} {tt : DT} {me : DE} {ρ : Sl} {M : Store} {f e : γ → D} {t : γ → Bool} : ∀ {l : List γ}, (∀ x ∈ l, ∃ ρ1, b (f x) ρ M = .ok ρ1 M ∧ tt ρ1 M = .ok (t x) M ∧ (t x = true → me ρ1 M = .ok (e x) M)) → mLcGo b tt me (l.map f) ρ M = .ok ((l.filter t).map e) M
  | [], _ => rfl
  | x :: l, h => by
    obtain ⟨ρ1, h1, h2, h3⟩ := h x List.mem_cons_self
    have ih := lc_map (b := b) (tt := tt) (me := me) (ρ := ρ) (M := M) (f := f) (e := e) (t := t) (l := l) fun y hy => h y (List.mem_cons_of_mem _ hy)
    rw [List.map_cons, mLcGo, h1]
    show (Res.bind (tt ρ1 M) _) = _
    rw [h2]
    show (if t x = true then _ else _) = _
    cases q : t x with
    | false =>
      rw [if_neg Bool.false_ne_true, List.filter_cons_of_neg (by rw [q]; exact Bool.false_ne_true)]
      exact ih
    | true =>
      rw [if_pos rfl, List.filter_cons_of_pos q, h3 q]
      show (Res.bind (mLcGo b tt me (l.map f) ρ M) _) = _
      rw [ih]
      rfl
theorem for_rel {β γ : Type} {b : Bd} {body : DS} {M : Store} {f : γ → D} (P : Nat → β → Sl → Prop) (step : β → γ → β) (n : Nat) : ∀ {l : List γ}, (∀ i s ρ x, i < n → x ∈ l → P i s ρ → ∃ ρ1 ρ2, b (f x) ρ M = .ok ρ1 M ∧ body ρ1 M = .ok (.nx, ρ2) M ∧ P (i + 1) (step s x) ρ2) →
    ∀ i s ρ, i + l.length ≤ n → P i s ρ → ∃ ρ', mForGo b body (l.map f) ρ M = .ok (.nx, ρ') M ∧ P (i + l.length) (l.foldl step s) ρ'
  | [], _, i, s, ρ, _, h => ⟨ρ, for_nil, h⟩
  | x :: l, hs, i, s, ρ, hi, h => by
    rw [List.length_cons] at hi
    obtain ⟨ρ1, ρ2, h1, h2, h3⟩ := hs i s ρ x (by omega) List.mem_cons_self h
    obtain ⟨ρ', g1, g2⟩ := for_rel P step n (l := l) (fun i s ρ y hi hy => hs i s ρ y hi (List.mem_cons_of_mem _ hy)) (i + 1) _ ρ2 (by omega) h3
    refine ⟨ρ', ?_, ?_⟩
    · rw [List.map_cons, for_cons h1 h2, g1]
    · rw [List.length_cons, show i + (l.length + 1) = i + 1 + l.length by omega]
      exact g2
theorem cut_drop {xs : List D} {k : Nat} : cutD xs (some (k : Int)) none = xs.drop k := by
  unfold cutD
  rw [HT.sIx_nat, HT.sIx_none]
  by_cases h : k ≤ xs.length
  · rw [Nat.min_eq_left h, List.take_of_length_le (by rw [List.length_drop]; exact Nat.le_refl _)]
  · rw [Nat.min_eq_right (by omega), Nat.sub_self, List.take_zero, List.drop_eq_nil_of_le (by omega)]
theorem cut_take {xs : List D} {k : Nat} : cutD xs none (some (k : Int)) = xs.take k := by
  unfold cutD
  rw [HT.sIx_nat, HT.sIx_none, List.drop_zero, Nat.sub_zero]
  by_cases h : k ≤ xs.length
  · rw [Nat.min_eq_left h]
  · rw [Nat.min_eq_right (by omega), List.take_of_length_le (Nat.le_refl _), List.take_of_length_le (by omega)]
theorem mLc_ev {mk : List D → Store → Res D} {it : DA} {b : Bd} {tt : DT} {me : DE} {own : List Nat} {ρ : Sl} {M M1 M2 : Store} {xs ys : List D} (h1 : it ρ M = .ok xs M1) (hl : xs.length ≤ 16777216) (h2 : mLcGo b tt me xs (wipeD ρ own) M1 = .ok ys M2) : mLc mk it b tt me own ρ M = mk ys M2 := by
  unfold mLc
  rw [h1]
  show (if xs.length ≤ 16777216 then _ else _) = _
  rw [if_pos hl, h2]
  rfl
theorem asg_ev {e : DE} {i : Nat} {ρ : Sl} {M M1 : Store} {d : D} (h : e ρ M = .ok d M1) : mAsg e (bName i) ρ M = .ok (.nx, ρ.set i (some d)) M1 := by
  unfold mAsg; rw [h]; rfl
theorem ret_ev {e : DE} {ρ : Sl} {M M1 : Store} {d : D} (h : e ρ M = .ok d M1) : mRet e ρ M = .ok (.rt d, ρ) M1 := by
  unfold mRet; rw [h]; rfl
theorem op_ev {f : D → D → Store → Res D} {a b : DE} {ρ : Sl} {M M1 M2 : Store} {x y : D} (h1 : a ρ M = .ok x M1) (h2 : b ρ M1 = .ok y M2) : mOp f a b ρ M = f x y M2 := by
  show (Res.bind (a ρ M) fun x M1 => (b ρ M1).bind fun y M2 => f x y M2) = _
  rw [h1]
  show (Res.bind (b ρ M1) _) = _
  rw [h2]
  rfl
theorem call_ev {f : DF} {a : DA} {ρ : Sl} {M M1 : Store} {ds : List D} (h1 : a ρ M = .ok ds M1) : mCall f a ρ M = f ds M1 := by
  unfold mCall; rw [h1]; rfl
theorem def_ev {n : Nat} {f : DF} {a : DA} {ρ : Sl} {M M1 : Store} {ds : List D} (h1 : a ρ M = .ok ds M1) (hn : ds.length = n) : mDef n f a ρ M = f ds M1 := by
  unfold mDef mCall; rw [h1]
  show (if ds.length = n then f ds M1 else .stuck) = _
  rw [if_pos hn]
theorem cons_ev {a : DE} {r : DA} {ρ : Sl} {M M1 M2 : Store} {d : D} {ds : List D} (h1 : a ρ M = .ok d M1) (h2 : r ρ M1 = .ok ds M2) : mCons a r ρ M = .ok (d :: ds) M2 := by
  unfold mCons; rw [h1]
  show (Res.bind (r ρ M1) _) = _
  rw [h2]; rfl
theorem cs_len {n : Nat} : ∀ (k : Nat) {a b : Nat}, (n - a) * (n + 1) + (n - b) ≤ k → a < b → b < n → (cs n a b).length ≤ (n - a) * (n + 1) + (n - b)
  | 0, a, b, hk, hab, hb => by exfalso; omega
  | k + 1, a, b, hk, hab, hb => by
    rw [cs_eq, List.length_cons]
    cases z : nx n a b with
    | none => rw [csT_none z]; show 0 + 1 ≤ _; omega
    | some q =>
      rw [csT_some z]
      obtain ⟨h1, h2⟩ := nx_in z hab hb
      unfold nx at z
      by_cases c1 : b + 1 < n
      · rw [if_pos c1] at z; cases z
        have ih := cs_len k (a := a) (b := b + 1) (by omega) h1 h2
        show (cs n a (b + 1)).length + 1 ≤ _
        omega
      · rw [if_neg c1] at z
        by_cases c2 : a + 2 < n
        · rw [if_pos c2] at z; cases z
          have e : n - a = (n - (a + 1)) + 1 := by omega
          rw [e, Nat.add_mul] at hk ⊢
          have ih := cs_len k (a := a + 1) (b := a + 2) (by omega) h1 h2
          show (cs n (a + 1) (a + 2)).length + 1 ≤ _
          omega
        · rw [if_neg c2] at z; cases z
theorem pairIx_len {n : Nat} (h : n ≤ 100) : (pairIx n).length ≤ 16777216 := by
  unfold pairIx
  by_cases h2 : 2 ≤ n
  · rw [if_pos h2]
    refine Nat.le_trans (cs_len _ (Nat.le_refl _) (by omega) (by omega)) ?_
    have : (n - 0) * (n + 1) ≤ 100 * 101 := Nat.mul_le_mul (by omega) (by omega)
    omega
  · rw [if_neg h2]; exact Nat.zero_le _
theorem ifs_no {c : DT} {a : DS} {ρ : Sl} {M M1 : Store} (h : c ρ M = .ok false M1) : mIfS c a mNx ρ M = .ok (.nx, ρ) M1 := by
  unfold mIfS; rw [h]; rfl
theorem ifs_yes {c : DT} {a b : DS} {ρ : Sl} {M M1 : Store} (h : c ρ M = .ok true M1) : mIfS c a b ρ M = a ρ M1 := by
  unfold mIfS; rw [h]; rfl
theorem ifs_else {c : DT} {a b : DS} {ρ : Sl} {M M1 : Store} (h : c ρ M = .ok false M1) : mIfS c a b ρ M = b ρ M1 := by
  unfold mIfS; rw [h]; rfl
theorem tst_ev {a : DE} {ρ : Sl} {M M1 : Store} {t : Bool} (h : a ρ M = .ok (.bl t) M1) : mTst a ρ M = .ok t M1 := by
  unfold mTst; rw [h]; rfl
theorem lst_ev {mk : List D → Store → Res D} {a : DA} {ρ : Sl} {M M1 : Store} {ds : List D} (h : a ρ M = .ok ds M1) : mLst mk a ρ M = mk ds M1 := by
  unfold mLst; rw [h]; rfl
theorem tup_ev {a : DA} {ρ : Sl} {M M1 : Store} {ds : List D} (h : a ρ M = .ok ds M1) : mTup a ρ M = newTup ds M1 := by
  unfold mTup; rw [h]; rfl
theorem one_ev {a : DE} {ρ : Sl} {M M1 : Store} {d : D} (h : a ρ M = .ok d M1) : mCons a mNil ρ M = .ok [d] M1 := cons_ev h rfl
end DL

set_option Elab.async false
set_option linter.all false
set_option maxRecDepth 100000
set_option maxHeartbeats 4000000
namespace DL
open PySem PySem.Spec PyProof.Rows L2
/-! ### what a run ends in -/
def Ok {α : Type} (r : Res α) (Q : α → Store → Prop) : Prop := match r with
  | .ok a M => Q a M
  | _ => False
section
variable {α β : Type} {r : Res α} {a : α} {M M1 : Store} {Q P : α → Store → Prop} {f : α → Store → Res β} {R : β → Store → Prop}
theorem ok_eq (h : Ok r fun b N => b = a ∧ N = M) : r = .ok a M := by
  cases r with
  | ok b N => obtain ⟨rfl, rfl⟩ := h; rfl
  | err x N => exact h.elim
  | stuck => exact h.elim
theorem ok_of (h : r = .ok a M) (q : Q a M) : Ok r Q := by rw [h]; exact q
theorem ok_ok (q : Q a M) : Ok (.ok a M) Q := q
theorem ok_bind (h : Ok r fun a M => Ok (f a M) R) : Ok (r.bind f) R := by
  cases r with
  | ok b N => exact h
  | err x N => exact h.elim
  | stuck => exact h.elim
theorem ok_imp (h : Ok r P) (g : ∀ a M, P a M → Q a M) : Ok r Q := by
  cases r with
  | ok b N => exact g _ _ h
  | err x N => exact h.elim
  | stuck => exact h.elim
theorem ok_ex (h : Ok r Q) : ∃ a M, r = .ok a M ∧ Q a M := by
  cases r with
  | ok b N => exact ⟨b, N, rfl, h⟩
  | err x N => exact h.elim
  | stuck => exact h.elim
end
/-! slots, by their shape -/
class At (ρ : Sl) (i : Nat) (d : outParam D) : Prop where
  e : ρ[i]? = some (some d)
instance {d : D} {r : Sl} : At (some d :: r) 0 d := ⟨rfl⟩
instance {a : Option D} {r : Sl} {i : Nat} {d : D} [h : At r i d] : At (a :: r) (i + 1) d := ⟨by rw [List.getElem?_cons_succ]; exact h.e⟩
class SetS (ρ : Sl) (i : Nat) (x : Option D) (ρ' : outParam Sl) : Prop where
  e : ρ.set i x = ρ'
instance {a x : Option D} {r : Sl} : SetS (a :: r) 0 x (x :: r) := ⟨rfl⟩
instance {a x : Option D} {r r' : Sl} {i : Nat} [h : SetS r i x r'] : SetS (a :: r) (i + 1) x (a :: r') := ⟨by rw [List.set_cons_succ, h.e]⟩
class WipeS (ρ : Sl) (vs : List Nat) (ρ' : outParam Sl) : Prop where
  e : wipeD ρ vs = ρ'
instance {ρ : Sl} : WipeS ρ [] ρ := ⟨rfl⟩
instance {ρ ρ1 ρ2 : Sl} {v : Nat} {vs : List Nat} [h : WipeS ρ vs ρ1] [g : SetS ρ1 v none ρ2] : WipeS ρ (v :: vs) ρ2 := ⟨by rw [wipeD, h.e, g.e]⟩
class InitS (N : Nat) (ds : List D) (ρ : outParam Sl) : Prop where
  e : sl0 N ds = ρ
instance : InitS 0 [] [] := ⟨rfl⟩
instance {N : Nat} {ρ : Sl} [h : InitS N [] ρ] : InitS (N + 1) [] (none :: ρ) := ⟨by
  have := h.e
  unfold sl0 at this ⊢
  rw [← this]
  simp [List.replicate_succ]⟩
instance {N : Nat} {d : D} {ds : List D} {ρ : Sl} [h : InitS N ds ρ] : InitS (N + 1) (d :: ds) (some d :: ρ) := ⟨by
  have := h.e
  unfold sl0 at this ⊢
  rw [← this]
  simp⟩
/-! ### continuations -/
def SeqK (b : DS) (Q : Fl × Sl → Store → Prop) : Fl × Sl → Store → Prop
  | (.nx, ρ), M => Ok (b ρ M) Q
  | r, M => Q r M
def BlK (Q : Bool → Store → Prop) : D → Store → Prop
  | .bl b, M => Q b M
  | _, _ => False
def IfK {α : Type} (r s : Store → Res α) (Q : α → Store → Prop) (t : Bool) (M : Store) : Prop := (t = true → Ok (r M) Q) ∧ (t = false → Ok (s M) Q)
def RunK (n : Nat) (Q : D → Store → Prop) : Fl × Sl → Store → Prop
  | (.rt d, _), M => locFree d = true ∧ Q d (M.take n)
  | (.nx, _), M => Q .non (M.take n)
  | _, _ => False
def RunLK (Q : D → Store → Prop) : Fl × Sl → Store → Prop
  | (.rt d, _), M => Q d M
  | (.nx, _), M => Q .non M
  | _, _ => False
def PartK (Q : Option Int → Store → Prop) : D → Store → Prop
  | .int i, M => Q (some i) M
  | _, _ => False
def MkK (mk : List D → Store → Res D) (Q : D → Store → Prop) : List D → Store → Prop := fun ds M => Ok (mk ds M) Q
def DefK (n : Nat) (f : DF) (Q : D → Store → Prop) : List D → Store → Prop := fun ds M => ds.length = n ∧ Ok (f ds M) Q
def SeqFK (Q : List D → Store → Prop) : D → Store → Prop := fun d M => ∃ xs, seqF d = some xs ∧ Q xs M
section
variable {ρ : Sl} {M : Store} {d : D} {Q : D → Store → Prop} {QL : List D → Store → Prop} {QB : Bool → Store → Prop} {QS : Fl × Sl → Store → Prop} {QO : Option Int → Store → Prop} {QR : Sl → Store → Prop}
/-! statements -/
theorem w_seq {a b : DS} (h : Ok (a ρ M) (SeqK b QS)) : Ok (mSeq a b ρ M) QS := by
  unfold mSeq
  refine ok_bind (ok_imp h fun r M1 h => ?_)
  obtain ⟨fl, ρ1⟩ := r
  cases fl <;> exact h
theorem seqk_nx {b : DS} (h : Ok (b ρ M) QS) : SeqK b QS (.nx, ρ) M := h
theorem seqk_rt {b : DS} (h : QS (.rt d, ρ) M) : SeqK b QS (.rt d, ρ) M := h
theorem w_nx (h : QS (.nx, ρ) M) : Ok (mNx ρ M) QS := h
theorem w_asg {e : DE} {b : Bd} (h : Ok (e ρ M) fun d M1 => Ok (b d ρ M1) fun ρ1 M2 => QS (.nx, ρ1) M2) : Ok (mAsg e b ρ M) QS := ok_bind (ok_imp h fun _ _ h => ok_bind h)
theorem w_bName {i : Nat} {ρ' : Sl} [g : SetS ρ i (some d) ρ'] (h : QR ρ' M) : Ok (bName i d ρ M) QR := by rw [← g.e] at h; exact h
theorem w_bTup {n : Nat} {b : Bds} {xs : List D} (hl : xs.length = n) (h : Ok (b xs ρ M) QR) : Ok (bTup n b (.tup xs) ρ M) QR := by rw [s_bTup hl]; exact h
theorem w_bTupL {n : Nat} {b : Bds} {xs : List D} (hl : xs.length = n) (h : Ok (b xs ρ M) QR) : Ok (bTup n b (.lst xs) ρ M) QR := by rw [s_bTupL hl]; exact h
theorem w_bNil (h : QR ρ M) : Ok (bNil [] ρ M) QR := h
theorem w_bCons {b : Bd} {r : Bds} {ds : List D} (h : Ok (b d ρ M) fun ρ1 M1 => Ok (r ds ρ1 M1) QR) : Ok (bCons b r (d :: ds) ρ M) QR := ok_bind h
def SubK (d : D) (QR : Store → Prop) (l k : D) (M : Store) : Prop := ∃ n j M3, l = .loc n ∧ k = .int j ∧ setAt M n j d = some M3 ∧ QR M3
theorem w_bSub {o i : DE} (h : Ok (o ρ M) fun l M1 => Ok (i ρ M1) fun k M2 => SubK d (QR ρ) l k M2) : Ok (bSub o i d ρ M) QR := by
  refine ok_bind (ok_imp h fun l M1 h => ok_bind (ok_imp h fun k M2 h => ?_))
  obtain ⟨n, j, M3, rfl, rfl, e, q⟩ := h
  show Ok (match setAt M2 n j d with | some M3 => Res.ok ρ M3 | none => .stuck) QR
  rw [e]
  exact q
def P2K (i j : Nat) (ρ : Sl) (QS : Fl × Sl → Store → Prop) : List D → Store → Prop := fun ds M1 => ∃ d e, ds = [d, e] ∧ QS (.nx, (ρ.set i (some d)).set j (some e)) M1
theorem p2k {i j : Nat} {d e : D} {ρ1 ρ2 : Sl} [g1 : SetS ρ i (some d) ρ1] [g2 : SetS ρ1 j (some e) ρ2] (h : QS (.nx, ρ2) M) : P2K i j ρ QS [d, e] M := ⟨d, e, rfl, by rw [g1.e, g2.e]; exact h⟩
theorem w_par2 {i j : Nat} {a : DA} (h : Ok (a ρ M) (P2K i j ρ QS)) : Ok (mPar2 i j a ρ M) QS := by
  refine ok_bind (ok_imp h fun l M1 h => ?_)
  obtain ⟨d, e, rfl, q⟩ := h
  exact q
def P3K (i j l : Nat) (ρ : Sl) (QS : Fl × Sl → Store → Prop) : List D → Store → Prop := fun ds M1 => ∃ d e c, ds = [d, e, c] ∧ QS (.nx, ((ρ.set i (some d)).set j (some e)).set l (some c)) M1
theorem p3k {i j l : Nat} {d e c : D} {ρ1 ρ2 ρ3 : Sl} [g1 : SetS ρ i (some d) ρ1] [g2 : SetS ρ1 j (some e) ρ2] [g3 : SetS ρ2 l (some c) ρ3] (h : QS (.nx, ρ3) M) : P3K i j l ρ QS [d, e, c] M := ⟨d, e, c, rfl, by rw [g1.e, g2.e, g3.e]; exact h⟩
theorem w_par3 {i j l : Nat} {a : DA} (h : Ok (a ρ M) (P3K i j l ρ QS)) : Ok (mPar3 i j l a ρ M) QS := by
  refine ok_bind (ok_imp h fun l M1 h => ?_)
  obtain ⟨d, e, c, rfl, q⟩ := h
  exact q
theorem w_drop {e : DE} (h : Ok (e ρ M) fun _ M1 => QS (.nx, ρ) M1) : Ok (mDrop e ρ M) QS := ok_bind h
theorem w_ret {e : DE} (h : Ok (e ρ M) fun d M1 => QS (.rt d, ρ) M1) : Ok (mRet e ρ M) QS := ok_bind h
theorem w_ifs {c : DT} {a b : DS} (h : Ok (c ρ M) (IfK (a ρ) (b ρ) QS)) : Ok (mIfS c a b ρ M) QS := by
  refine ok_bind (ok_imp h fun t M1 h => ?_)
  cases t
  · rw [if_neg Bool.false_ne_true]; exact h.2 rfl
  · rw [if_pos rfl]; exact h.1 rfl
def AppK (e : DE) (ρ : Sl) (Q : Store → Prop) (l : D) (M : Store) : Prop := ∃ n ds, l = .loc n ∧ cellAt M n = some ds ∧ Ok (e ρ M) fun d M2 => ∃ M3, appAt M2 n d = some M3 ∧ Q M3
theorem w_app {o e : DE} (h : Ok (o ρ M) (AppK e ρ (QS (.nx, ρ)))) : Ok (mApp o e ρ M) QS := by
  refine ok_bind (ok_imp h fun l M1 h => ?_)
  obtain ⟨n, ds, rfl, hc, h⟩ := h
  show Ok (if (cellAt M1 n).isSome = true then _ else _) QS
  rw [if_pos (by rw [hc]; rfl)]
  refine ok_bind (ok_imp h fun d M2 h => ?_)
  obtain ⟨M3, e1, e2⟩ := h
  show Ok (match appAt M2 n d with | some M3 => Res.ok (Fl.nx, ρ) M3 | none => .stuck) QS
  rw [e1]
  exact e2
theorem w_aug {f : D → D → Store → Res D} {i : Nat} {e : DE} {x : D} [g : At ρ i x] (h : Ok (e ρ M) fun y M1 => Ok (f x y M1) fun z M2 => Ok (bName i z ρ M2) fun ρ1 M3 => QS (.nx, ρ1) M3) : Ok (mAug f i e ρ M) QS := by
  unfold mAug
  rw [g.e]
  exact ok_bind (ok_imp h fun _ _ h => ok_bind h)
theorem w_for {it : DA} {b : Bd} {body : DS} (h : Ok (it ρ M) fun ds M1 => Ok (mForGo b body ds ρ M1) QS) : Ok (mFor it b body ρ M) QS := ok_bind h
theorem w_while {fu : Sl → Store → Nat} {c : DT} {body : DS} (h : Ok (mWhileN c body (fu ρ M) ρ M) QS) : Ok (mWhile fu c body ρ M) QS := h
def StepK (go : Sl → Store → Prop) (QS : Fl × Sl → Store → Prop) : Fl × Sl → Store → Prop
  | (.nx, ρ), M => go ρ M
  | (.ct, ρ), M => go ρ M
  | (.bk, ρ), M => QS (.nx, ρ) M
  | (.rt d, ρ), M => QS (.rt d, ρ) M
theorem stepk_nx {go : Sl → Store → Prop} (h : go ρ M) : StepK go QS (.nx, ρ) M := h
theorem stepk_rt {go : Sl → Store → Prop} (h : QS (.rt d, ρ) M) : StepK go QS (.rt d, ρ) M := h
theorem go_nil {b : Bd} {body : DS} (h : QS (.nx, ρ) M) : Ok (mForGo b body [] ρ M) QS := by rw [for_nil]; exact h
theorem go_cons {b : Bd} {body : DS} {ds : List D} (h : Ok (b d ρ M) fun ρ1 M1 => Ok (body ρ1 M1) (StepK (fun ρ2 M2 => Ok (mForGo b body ds ρ2 M2) QS) QS)) : Ok (mForGo b body (d :: ds) ρ M) QS := by
  rw [mForGo]
  refine ok_bind (ok_imp h fun ρ1 M1 h => ok_bind (ok_imp h fun r M2 h => ?_))
  obtain ⟨fl, ρ2⟩ := r
  cases fl <;> exact h
/-- a loop by what holds at each turn: the elements behind, the elements ahead -/
theorem go_inv {γ : Type} {b : Bd} {body : DS} (f : γ → D) (I : List γ → List γ → Sl → Store → Prop) (l : List γ)
    (step : ∀ x p r ρ M, p ++ x :: r = l → I p (x :: r) ρ M → Ok (b (f x) ρ M) fun ρ1 M1 => Ok (body ρ1 M1) (StepK (fun ρ2 M2 => I (p ++ [x]) r ρ2 M2) QS))
    (fin : ∀ ρ M, I l [] ρ M → QS (.nx, ρ) M) : ∀ (r p : List γ) (ρ : Sl) (M : Store), p ++ r = l → I p r ρ M → Ok (mForGo b body (r.map f) ρ M) QS
  | [], p, ρ, M, e, h => by
    rw [List.append_nil] at e; subst e
    exact go_nil (fin ρ M h)
  | x :: r, p, ρ, M, e, h => by
    rw [List.map_cons]
    refine go_cons (ok_imp (step x p r ρ M e h) fun ρ1 M1 h => ok_imp h fun q M2 h => ?_)
    obtain ⟨fl, ρ2⟩ := q
    cases fl with
    | nx => exact go_inv f I l step fin r (p ++ [x]) ρ2 M2 (by rw [List.append_assoc]; exact e) h
    | ct => exact go_inv f I l step fin r (p ++ [x]) ρ2 M2 (by rw [List.append_assoc]; exact e) h
    | bk => exact h
    | rt d => exact h
theorem w_for_inv {γ : Type} {it : DA} {b : Bd} {body : DS} (f : γ → D) (I : List γ → List γ → Sl → Store → Prop) (l : List γ)
    (hit : Ok (it ρ M) fun ds M1 => ds = l.map f ∧ I [] l ρ M1)
    (step : ∀ x p r ρ M, p ++ x :: r = l → I p (x :: r) ρ M → Ok (b (f x) ρ M) fun ρ1 M1 => Ok (body ρ1 M1) (StepK (fun ρ2 M2 => I (p ++ [x]) r ρ2 M2) QS))
    (fin : ∀ ρ M, I l [] ρ M → QS (.nx, ρ) M) : Ok (mFor it b body ρ M) QS :=
  w_for (ok_imp hit fun ds M1 h => by
    obtain ⟨rfl, h⟩ := h
    exact go_inv f I l step fin l [] ρ M1 rfl h)
/-- a while by a measure -/
theorem while_inv {c : DT} {body : DS} (I : Nat → Sl → Store → Prop)
    (step : ∀ k ρ M, I k ρ M → Ok (c ρ M) fun t M1 => (t = true → ∃ j, k = j + 1 ∧ Ok (body ρ M1) (StepK (fun ρ2 M2 => ∃ i, i ≤ j ∧ I i ρ2 M2) QS)) ∧ (t = false → QS (.nx, ρ) M1)) :
    ∀ (n k : Nat) (ρ : Sl) (M : Store), k < n → I k ρ M → Ok (mWhileN c body n ρ M) QS
  | 0, k, ρ, M, hk, h => absurd hk (Nat.not_lt_zero _)
  | n + 1, k, ρ, M, hk, h => by
    rw [mWhileN]
    refine ok_bind (ok_imp (step k ρ M h) fun t M1 h => ?_)
    cases t
    · rw [if_neg Bool.false_ne_true]; exact h.2 rfl
    · rw [if_pos rfl]
      obtain ⟨j, ej, hb⟩ := h.1 rfl
      refine ok_bind (ok_imp hb fun r M2 h => ?_)
      obtain ⟨fl, ρ2⟩ := r
      cases fl with
      | nx => obtain ⟨i, hi, h⟩ := h; exact while_inv I step n i ρ2 M2 (by omega) h
      | ct => obtain ⟨i, hi, h⟩ := h; exact while_inv I step n i ρ2 M2 (by omega) h
      | bk => exact h
      | rt d => exact h
/-! expressions -/
theorem w_V' {i : Nat} (hv : ρ[i]? = some (some d)) (q : Q d M) : Ok (mV i ρ M) Q := by rw [s_mV hv]; exact q
theorem w_V {i : Nat} [g : At ρ i d] (q : Q d M) : Ok (mV i ρ M) Q := by rw [s_mV g.e]; exact q
theorem w_C (q : Q d M) : Ok (mC d ρ M) Q := q
theorem w_nil (q : QL [] M) : Ok (mNil ρ M) QL := q
theorem w_cons {a : DE} {r : DA} (h : Ok (a ρ M) fun d M1 => Ok (r ρ M1) fun ds M2 => QL (d :: ds) M2) : Ok (mCons a r ρ M) QL := ok_bind (ok_imp h fun _ _ h => ok_bind h)
theorem w_op {f : D → D → Store → Res D} {a b : DE} (h : Ok (a ρ M) fun x M1 => Ok (b ρ M1) fun y M2 => Ok (f x y M2) Q) : Ok (mOp f a b ρ M) Q := ok_bind (ok_imp h fun _ _ h => ok_bind h)
theorem w_un {f : D → Store → Res D} {a : DE} (h : Ok (a ρ M) fun x M1 => Ok (f x M1) Q) : Ok (mUn f a ρ M) Q := ok_bind h
theorem w_tup {a : DA} (h : Ok (a ρ M) (MkK newTup Q)) : Ok (mTup a ρ M) Q := ok_bind h
theorem w_lst {mk : List D → Store → Res D} {a : DA} (h : Ok (a ρ M) (MkK mk Q)) : Ok (mLst mk a ρ M) Q := ok_bind h
theorem mkk_tup {ds : List D} (hl : ds.length ≤ 16777216) (q : Q (.tup ds) M) : MkK newTup Q ds M := ok_of (s_newTup hl) q
theorem mkk_lst {ds : List D} (hl : ds.length ≤ 16777216) (q : Q (.lst ds) M) : MkK newLst Q ds M := ok_of (s_newLst hl) q
theorem mkk_loc {ds : List D} (hl : ds.length ≤ 16777216) (hf : locFrees ds = true) (q : Q (.loc M.length) (M ++ [some ds])) : MkK newLoc Q ds M := ok_of (s_newLoc hl hf) q
theorem new_tup {ds : List D} (hl : ds.length ≤ 16777216) (q : Q (.tup ds) M) : Ok (newTup ds M) Q := ok_of (s_newTup hl) q
theorem new_lst {ds : List D} (hl : ds.length ≤ 16777216) (q : Q (.lst ds) M) : Ok (newLst ds M) Q := ok_of (s_newLst hl) q
theorem new_loc {ds : List D} (hl : ds.length ≤ 16777216) (hf : locFrees ds = true) (q : Q (.loc M.length) (M ++ [some ds])) : Ok (newLoc ds M) Q := ok_of (s_newLoc hl hf) q
theorem w_call {f : DF} {a : DA} (h : Ok (a ρ M) fun ds M1 => Ok (f ds M1) Q) : Ok (mCall f a ρ M) Q := ok_bind h
theorem w_def {n : Nat} {f : DF} {a : DA} (h : Ok (a ρ M) (DefK n f Q)) : Ok (mDef n f a ρ M) Q := by
  unfold mDef
  refine ok_bind (ok_imp h fun ds M1 h => ?_)
  show Ok (if ds.length = n then f ds M1 else .stuck) Q
  rw [if_pos h.1]
  exact h.2
theorem defk {n : Nat} {f : DF} {ds : List D} (hl : ds.length = n) (h : Ok (f ds M) Q) : DefK n f Q ds M := ⟨hl, h⟩
theorem w_defK {n m : Nat} {g : {β : Type} → List β → List β → List β} {f : DF} {a b : DA} (h : Ok (a ρ M) fun ds M1 => Ok (b ρ M1) fun es M2 => (ds.length = n ∧ es.length = m) ∧ Ok (f (g ds es) M2) Q) : Ok (mDefK n m g f a b ρ M) Q := by
  unfold mDefK
  refine ok_bind (ok_imp h fun ds M1 h => ok_bind (ok_imp h fun es M2 h => ?_))
  rw [if_pos h.1]
  exact h.2
theorem w_if {c : DT} {a b : DE} (h : Ok (c ρ M) (IfK (a ρ) (b ρ) Q)) : Ok (mIf c a b ρ M) Q := by
  refine ok_bind (ok_imp h fun t M1 h => ?_)
  cases t
  · rw [if_neg Bool.false_ne_true]; exact h.2 rfl
  · rw [if_pos rfl]; exact h.1 rfl
theorem w_tst {a : DE} (h : Ok (a ρ M) (BlK QB)) : Ok (mTst a ρ M) QB := by
  refine ok_bind (ok_imp h fun d M1 h => ?_)
  cases d <;> first | exact h | exact h.elim
theorem blk {b : Bool} (h : QB b M) : BlK QB (.bl b) M := h
theorem w_andT {a b : DT} (h : Ok (a ρ M) (IfK (b ρ) (fun M => .ok false M) QB)) : Ok (mAndT a b ρ M) QB := by
  refine ok_bind (ok_imp h fun t M1 h => ?_)
  cases t
  · rw [if_neg Bool.false_ne_true]; exact h.2 rfl
  · rw [if_pos rfl]; exact h.1 rfl
theorem w_orT {a b : DT} (h : Ok (a ρ M) (IfK (fun M => .ok true M) (b ρ) QB)) : Ok (mOrT a b ρ M) QB := by
  refine ok_bind (ok_imp h fun t M1 h => ?_)
  cases t
  · rw [if_neg Bool.false_ne_true]; exact h.2 rfl
  · rw [if_pos rfl]; exact h.1 rfl
theorem w_notT {a : DT} (h : Ok (a ρ M) fun c M1 => QB (!c) M1) : Ok (mNotT a ρ M) QB := ok_bind h
theorem w_yes (h : QB true M) : Ok (mYes ρ M) QB := h
theorem w_and {a b : DE} (h : Ok (a ρ M) (BlK (IfK (b ρ) (fun M => .ok (.bl false) M) Q))) : Ok (mAnd a b ρ M) Q := by
  refine ok_bind (ok_imp h fun d M1 h => ?_)
  cases d with
  | bl t =>
    show Ok (if t = true then b ρ M1 else .ok (.bl false) M1) Q
    cases t
    · rw [if_neg Bool.false_ne_true]; exact h.2 rfl
    · rw [if_pos rfl]; exact h.1 rfl
  | _ => exact h.elim
theorem w_or {a b : DE} (h : Ok (a ρ M) (BlK (IfK (fun M => .ok (.bl true) M) (b ρ) Q))) : Ok (mOr a b ρ M) Q := by
  refine ok_bind (ok_imp h fun d M1 h => ?_)
  cases d with
  | bl t =>
    show Ok (if t = true then .ok (.bl true) M1 else b ρ M1) Q
    cases t
    · rw [if_neg Bool.false_ne_true]; exact h.2 rfl
    · rw [if_pos rfl]; exact h.1 rfl
  | _ => exact h.elim
theorem w_not {a : DE} (h : Ok (a ρ M) (BlK fun c M1 => Q (.bl (!c)) M1)) : Ok (mNot a ρ M) Q := by
  refine ok_bind (ok_imp h fun d M1 h => ?_)
  cases d <;> first | exact h | exact h.elim
theorem w_noP (h : QO none M) : Ok (mNoP ρ M) QO := h
theorem w_part {a : DE} (h : Ok (a ρ M) (PartK QO)) : Ok (mPart a ρ M) QO := by
  refine ok_bind (ok_imp h fun d M1 h => ?_)
  cases d <;> first | exact h | exact h.elim
theorem partk {i : Int} (h : QO (some i) M) : PartK QO (.int i) M := h
theorem w_sl {mk : List D → Store → Res D} {a : DE} {lo hi : DO} (h : Ok (a ρ M) fun d M1 => Ok (lo ρ M1) fun l M2 => Ok (hi ρ M2) fun u M3 => Ok (dSl mk l u d M3) Q) : Ok (mSl mk a lo hi ρ M) Q :=
  ok_bind (ok_imp h fun _ _ h => ok_bind (ok_imp h fun _ _ h => ok_bind h))
theorem dsl_tup {mk : List D → Store → Res D} {lo hi : Option Int} {xs : List D} (hl : xs.length ≤ 16777216) (q : Q (.tup (cutD xs lo hi)) M) : Ok (dSl mk lo hi (.tup xs) M) Q :=
  new_tup (Nat.le_trans (by unfold cutD; rw [List.length_take, List.length_drop]; omega) hl) q
theorem dsl_lst {mk : List D → Store → Res D} {lo hi : Option Int} {xs : List D} (h : Ok (mk (cutD xs lo hi) M) Q) : Ok (dSl mk lo hi (.lst xs) M) Q := h
theorem dsl_rol {mk : List D → Store → Res D} {lo hi : Option Int} {xs : List D} (h : Ok (mk (cutD xs lo hi) M) Q) : Ok (dSl mk lo hi (.rol xs) M) Q := h
theorem dsl_loc {mk : List D → Store → Res D} {lo hi : Option Int} {n : Nat} {xs : List D} (hc : cellAt M n = some xs) (h : Ok (mk (cutD xs lo hi) M) Q) : Ok (dSl mk lo hi (.loc n) M) Q := by
  show Ok (match cellAt M n with | some xs => mk (cutD xs lo hi) M | none => .stuck) Q
  rw [hc]; exact h
theorem w_rev {mk : List D → Store → Res D} {a : DE} (h : Ok (a ρ M) fun d M1 => ∃ xs, d = .tup xs ∧ xs.length ≤ 16777216 ∧ Q (.tup xs.reverse) M1) : Ok (mRev mk a ρ M) Q := by
  refine ok_bind (ok_imp h fun d M1 h => ?_)
  obtain ⟨xs, rfl, hl, q⟩ := h
  exact new_tup (by rw [List.length_reverse]; exact hl) q
theorem w_fz {a : DE} (h : Ok (a ρ M) fun d M1 => ∃ n ds, d = .loc n ∧ cellAt M1 n = some ds ∧ Q (.lst ds) (M1.set n none)) : Ok (mFz a ρ M) Q := by
  refine ok_bind (ok_imp h fun d M1 h => ?_)
  obtain ⟨n, ds, rfl, e, q⟩ := h
  show Ok (match cellAt M1 n with | some ds => Res.ok (D.lst ds) (M1.set n none) | none => .stuck) Q
  rw [e]; exact q
theorem w_fzS {i : Nat} {a : DS} {n : Nat} {ds : List D} {ρ' : Sl} [hi : At ρ i (.loc n)] [g : SetS ρ i (some (.lst ds)) ρ'] (hc : cellAt M n = some ds) (h : Ok (a ρ' (M.set n none)) QS) : Ok (mFzS i a ρ M) QS := by
  rw [← g.e] at h
  unfold mFzS
  rw [hi.e]
  show Ok (match cellAt M n with | some ds => a (ρ.set i (some (.lst ds))) (M.set n none) | none => .stuck) QS
  rw [hc]; exact h
/-! iterables -/
theorem w_itSeq {a : DE} (h : Ok (a ρ M) (SeqFK QL)) : Ok (itSeq a ρ M) QL := by
  refine ok_bind (ok_imp h fun d M1 h => ?_)
  obtain ⟨xs, e, q⟩ := h
  show Ok (match seqF d with | some xs => Res.ok xs M1 | none => .stuck) QL
  rw [e]; exact q
theorem sqf_tup {xs : List D} (q : QL xs M) : SeqFK QL (.tup xs) M := ⟨xs, rfl, q⟩
theorem sqf_lst {xs : List D} (q : QL xs M) : SeqFK QL (.lst xs) M := ⟨xs, rfl, q⟩
theorem sqf_rol {xs : List D} (q : QL xs M) : SeqFK QL (.rol xs) M := ⟨xs, rfl, q⟩
def R1K (QL : List D → Store → Prop) : List D → Store → Prop := fun ds M => ∃ j : Int, ds = [.int j] ∧ (-(2 ^ 62) ≤ j ∧ j < 2 ^ 62) ∧ QL ((List.range j.toNat).map fun i => .int (i : Nat)) M
theorem w_itR1 {a : DA} (h : Ok (a ρ M) (R1K QL)) : Ok (itR1 a ρ M) QL := by
  refine ok_bind (ok_imp h fun d M1 h => ?_)
  obtain ⟨j, rfl, e, q⟩ := h
  show Ok (if -(2 ^ 62) ≤ j ∧ j < 2 ^ 62 then _ else _) QL
  rw [if_pos e]; exact q
theorem r1k {j : Int} (h1 : -(2 ^ 62) ≤ j) (h2 : j < 2 ^ 62) (q : QL ((List.range j.toNat).map fun i => .int (i : Nat)) M) : R1K QL [.int j] M := ⟨j, rfl, ⟨h1, h2⟩, q⟩
def R2K (QL : List D → Store → Prop) : List D → Store → Prop := fun ds M => ∃ i j : Int, ds = [.int i, .int j] ∧ ((-(2 ^ 62) ≤ i ∧ i < 2 ^ 62) ∧ -(2 ^ 62) ≤ j ∧ j < 2 ^ 62) ∧ QL ((List.range (j - i).toNat).map fun k => .int (i + (k : Nat))) M
theorem w_itR2 {a : DA} (h : Ok (a ρ M) (R2K QL)) : Ok (itR2 a ρ M) QL := by
  refine ok_bind (ok_imp h fun d M1 h => ?_)
  obtain ⟨i, j, rfl, e, q⟩ := h
  show Ok (if _ then _ else _) QL
  rw [if_pos e]; exact q
theorem r2k {i j : Int} (h1 : -(2 ^ 62) ≤ i) (h2 : i < 2 ^ 62) (h3 : -(2 ^ 62) ≤ j) (h4 : j < 2 ^ 62) (q : QL ((List.range (j - i).toNat).map fun k => .int (i + (k : Nat))) M) : R2K QL [.int i, .int j] M := ⟨i, j, rfl, ⟨⟨h1, h2⟩, h3, h4⟩, q⟩
def ZipK (QL : List D → Store → Prop) : List D → Store → Prop := fun ds M => ∃ d e xs ys, ds = [d, e] ∧ itZip (fun _ M => .ok [d, e] M) [] M = .ok (zipD xs ys) M ∧ QL (zipD xs ys) M
theorem w_itZip {a : DA} (h : Ok (a ρ M) (ZipK QL)) : Ok (itZip a ρ M) QL := by
  refine ok_bind (ok_imp h fun d M1 h => ?_)
  obtain ⟨d, e, xs, ys, rfl, e, q⟩ := h
  exact ok_of e q
theorem zip_tt {xs ys : List D} (q : QL (zipD xs ys) M) : ZipK QL [.tup xs, .tup ys] M := ⟨_, _, xs, ys, rfl, rfl, q⟩
theorem zip_ll {xs ys : List D} (q : QL (zipD xs ys) M) : ZipK QL [.lst xs, .lst ys] M := ⟨_, _, xs, ys, rfl, rfl, q⟩
def EnumK (QL : List D → Store → Prop) : List D → Store → Prop := fun ds M1 => ∃ d xs, ds = [d] ∧ seqF d = some xs ∧ QL (enumD 0 xs) M1
theorem w_itEnum {a : DA} (h : Ok (a ρ M) (EnumK QL)) : Ok (itEnum a ρ M) QL := by
  refine ok_bind (ok_imp h fun d M1 h => ?_)
  obtain ⟨d, xs, rfl, e, q⟩ := h
  show Ok (match seqF d with | some xs => Res.ok (enumD 0 xs) M1 | none => .stuck) QL
  rw [e]; exact q
/-! list comprehensions -/
def LcK (mk : List D → Store → Res D) (b : Bd) (tt : DT) (me : DE) (ρ : Sl) (Q : D → Store → Prop) : List D → Store → Prop := fun ds M => ds.length ≤ 16777216 ∧ Ok (mLcGo b tt me ds ρ M) fun ys M2 => Ok (mk ys M2) Q
theorem w_lc {mk : List D → Store → Res D} {it : DA} {b : Bd} {tt : DT} {me : DE} {own : List Nat} {ρ' : Sl} [g : WipeS ρ own ρ'] (h : Ok (it ρ M) (LcK mk b tt me ρ' Q)) : Ok (mLc mk it b tt me own ρ M) Q := by
  rw [← g.e] at h
  unfold mLc
  refine ok_bind (ok_imp h fun ds M1 h => ?_)
  obtain ⟨hl, h⟩ := h
  show Ok (if ds.length ≤ 16777216 then _ else _) Q
  rw [if_pos hl]
  obtain ⟨ys, M2, e, q⟩ := ok_ex h
  rw [e]
  exact q
theorem lck {mk : List D → Store → Res D} {b : Bd} {tt : DT} {me : DE} {ds : List D} (hl : ds.length ≤ 16777216) (h : Ok (mLcGo b tt me ds ρ M) (MkK mk Q)) : LcK mk b tt me ρ Q ds M := ⟨hl, h⟩
theorem lcgo_nil {b : Bd} {tt : DT} {me : DE} (q : QL [] M) : Ok (mLcGo b tt me [] ρ M) QL := q
theorem lcgo_cons {b : Bd} {tt : DT} {me : DE} {ds : List D} (h : Ok (b d ρ M) fun ρ1 M1 => Ok (tt ρ1 M1) (IfK (fun M2 => (me ρ1 M2).bind fun y M3 => (mLcGo b tt me ds ρ M3).bind fun ys M4 => .ok (y :: ys) M4) (fun M2 => mLcGo b tt me ds ρ M2) QL)) : Ok (mLcGo b tt me (d :: ds) ρ M) QL := by
  rw [mLcGo]
  refine ok_bind (ok_imp h fun ρ1 M1 h => ok_bind (ok_imp h fun t M2 h => ?_))
  cases t
  · rw [if_neg Bool.false_ne_true]; exact h.2 rfl
  · rw [if_pos rfl]
    exact h.1 rfl
/-- results one by one -/
inductive Rel2 {γ : Type} (R : γ → D → Prop) : List γ → List D → Prop
  | nil : Rel2 R [] []
  | cons {x : γ} {d : D} {l : List γ} {ds : List D} : R x d → Rel2 R l ds → Rel2 R (x :: l) (d :: ds)
theorem lcgo_rel {γ : Type} {b : Bd} {tt : DT} {me : DE} (f : γ → D) (R : γ → D → Prop) (I : Nat → Store → Prop) : ∀ {QL : List D → Store → Prop} (l : List γ) (k : Nat) (M : Store), I k M →
    (∀ x k M, x ∈ l → I k M → Ok (b (f x) ρ M) fun ρ1 M1 => Ok (tt ρ1 M1) fun t M2 => t = true ∧ Ok (me ρ1 M2) fun y M3 => R x y ∧ I (k + 1) M3) →
    (∀ ys M', Rel2 R l ys → I (k + l.length) M' → QL ys M') → Ok (mLcGo b tt me (l.map f) ρ M) QL
  | _, [], k, M, h, _, q => q [] M .nil h
  | QL, x :: l, k, M, h, s, q => by
    rw [List.map_cons]
    refine lcgo_cons (ok_imp (s x k M List.mem_cons_self h) fun ρ1 M1 h => ok_imp h fun t M2 h => ?_)
    obtain ⟨rfl, h⟩ := h
    refine ⟨fun _ => ok_bind (ok_imp h fun y M3 h => ok_bind ?_), fun e => by cases e⟩
    refine lcgo_rel f R I l (k + 1) M3 h.2 (fun x k M hx => s x k M (List.mem_cons_of_mem _ hx)) fun ys M' r i => ?_
    exact q (y :: ys) M' (.cons h.1 r) (by rw [List.length_cons, show k + (l.length + 1) = k + 1 + l.length by omega]; exact i)
/-- each result told -/
theorem lcgo_map {γ : Type} {b : Bd} {tt : DT} {me : DE} (f e : γ → D) (l : List γ)
    (s : ∀ x, x ∈ l → Ok (b (f x) ρ M) fun ρ1 M1 => Ok (tt ρ1 M1) fun t M2 => t = true ∧ Ok (me ρ1 M2) fun y M3 => y = e x ∧ M3 = M)
    (q : QL (l.map e) M) : Ok (mLcGo b tt me (l.map f) ρ M) QL := by
  refine lcgo_rel f (fun x y => y = e x) (fun _ M' => M' = M) l 0 M rfl (fun x k M' hx h => ?_) (fun ys M' r i => ?_)
  · subst h; exact s x hx
  · subst i
    have : ys = l.map e := by
      clear s q
      induction r with
      | nil => rfl
      | cons h _ ih => rw [List.map_cons, h, ih]
    rw [this]; exact q
/-- with a test -/
theorem lcgo_filter {γ : Type} {b : Bd} {tt : DT} {me : DE} (f e : γ → D) (p : γ → Bool) : ∀ (l : List γ),
    (∀ x, x ∈ l → Ok (b (f x) ρ M) fun ρ1 M1 => Ok (tt ρ1 M1) fun t M2 => (t = p x ∧ M2 = M) ∧ (p x = true → Ok (me ρ1 M2) fun y M3 => y = e x ∧ M3 = M)) →
    QL ((l.filter p).map e) M → Ok (mLcGo b tt me (l.map f) ρ M) QL := by
  intro l s q
  have key : ∀ l : List γ, (∀ x, x ∈ l → Ok (b (f x) ρ M) fun ρ1 M1 => Ok (tt ρ1 M1) fun t M2 => (t = p x ∧ M2 = M) ∧ (p x = true → Ok (me ρ1 M2) fun y M3 => y = e x ∧ M3 = M)) → mLcGo b tt me (l.map f) ρ M = .ok ((l.filter p).map e) M := by
    intro l
    induction l with
    | nil => intro _; rfl
    | cons x l ih =>
      intro s
      have i := ih fun y hy => s y (List.mem_cons_of_mem _ hy)
      refine ok_eq ?_
      rw [List.map_cons]
      refine lcgo_cons (ok_imp (s x List.mem_cons_self) fun ρ1 M1 h => ok_imp h fun t M2 h => ?_)
      obtain ⟨⟨rfl, rfl⟩, h⟩ := h
      refine ⟨fun hp => ok_bind (ok_imp (h hp) fun y M3 h => ok_bind ?_), fun hp => ?_⟩
      · obtain ⟨rfl, rfl⟩ := h
        rw [i, List.filter_cons_of_pos hp]
        exact ⟨rfl, rfl⟩
      · show Ok (mLcGo b tt me (List.map f l) ρ _) _
        rw [i, List.filter_cons_of_neg (by rw [hp]; exact Bool.false_ne_true)]
        exact ⟨rfl, rfl⟩
  rw [key l s]; exact q
/-! data -/
variable {i j : Int} {xs ys : List D}
theorem d_add {mk : List D → Store → Res D} (q : Q (.int (i + j)) M) : Ok (dAdd mk (.int i) (.int j) M) Q := q
theorem d_addT {mk : List D → Store → Res D} (hl : (xs ++ ys).length ≤ 16777216) (q : Q (.tup (xs ++ ys)) M) : Ok (dAdd mk (.tup xs) (.tup ys) M) Q := new_tup hl q
theorem d_addL {mk : List D → Store → Res D} (hl : xs.length + ys.length ≤ 16777216) (h : Ok (mk (xs ++ ys) M) Q) : Ok (dAdd mk (.lst xs) (.lst ys) M) Q := by
  show Ok (if _ then _ else _) Q
  rw [if_pos hl]; exact h
theorem d_sub (q : Q (.int (i - j)) M) : Ok (dSub (.int i) (.int j) M) Q := q
theorem d_mul {mk : List D → Store → Res D} (h : mulOk i j = true) (q : Q (.int (i * j)) M) : Ok (dMul mk (.int i) (.int j) M) Q := by
  show Ok (if mulOk i j = true then _ else _) Q
  rw [if_pos h]; exact q
theorem d_fdiv (h : divOk j = true) (q : Q (.int (i.fdiv j)) M) : Ok (dFdiv (.int i) (.int j) M) Q := by
  show Ok (if divOk j = true then _ else _) Q
  rw [if_pos h]; exact q
theorem d_mod (h : j ≠ 0) (q : Q (.int (i.fmod j)) M) : Ok (dMod (.int i) (.int j) M) Q := by
  show Ok (if j = 0 then _ else _) Q
  rw [if_neg h]; exact q
theorem d_neg (q : Q (.int (-i)) M) : Ok (dNeg (.int i) M) Q := q
theorem d_lt (q : Q (.bl (decide (i < j))) M) : Ok (dLt (.int i) (.int j) M) Q := q
theorem d_le (q : Q (.bl (decide (i ≤ j))) M) : Ok (dLe (.int i) (.int j) M) Q := q
theorem d_gt (q : Q (.bl (decide (i > j))) M) : Ok (dGt (.int i) (.int j) M) Q := q
theorem d_ge (q : Q (.bl (decide (i ≥ j))) M) : Ok (dGe (.int i) (.int j) M) Q := q
theorem eq_int0 {neg : Bool} {a b : Int} : dEq neg (.int a) (.int b) M = .ok (.bl (neg ^^ decide (a = b))) M := by
  simp [dEq, dEq0, der, okD, eqD, toP, PySem.PyData.eqv]
  rfl
theorem d_eq (q : Q (.bl (decide (i = j))) M) : Ok (dEq false (.int i) (.int j) M) Q := ok_of eq_int0 (by rw [Bool.false_xor]; exact q)
theorem d_ne (q : Q (.bl (!decide (i = j))) M) : Ok (dEq true (.int i) (.int j) M) Q := ok_of eq_int0 (by rw [Bool.true_xor]; exact q)
theorem d_ixT (h : L2.atI xs i = some d) (q : Q d M) : Ok (dIx (.tup xs) (.int i) M) Q := by
  show Ok (match L2.atI xs i with | some x => Res.ok x M | none => .stuck) Q
  rw [h]; exact q
theorem d_ixL (h : L2.atI xs i = some d) (q : Q d M) : Ok (dIx (.lst xs) (.int i) M) Q := by
  show Ok (match L2.atI xs i with | some x => Res.ok x M | none => .stuck) Q
  rw [h]; exact q
theorem d_ixR (h : L2.atI xs i = some d) (q : Q d M) : Ok (dIx (.rol xs) (.int i) M) Q := by
  show Ok (match L2.atI xs i with | some x => Res.ok x M | none => .stuck) Q
  rw [h]; exact q
theorem d_ixC {n : Nat} (hc : cellAt M n = some xs) (h : L2.atI xs i = some d) (q : Q d M) : Ok (dIx (.loc n) (.int i) M) Q := by
  show Ok (match cellAt M n with | some xs => (match L2.atI xs i with | some x => Res.ok x M | none => .stuck) | none => .stuck) Q
  rw [hc]
  show Ok (match L2.atI xs i with | some x => Res.ok x M | none => .stuck) Q
  rw [h]; exact q
theorem c_lenT (q : Q (.int (xs.length : Nat)) M) : Ok (cLen [.tup xs] M) Q := q
theorem c_lenL (q : Q (.int (xs.length : Nat)) M) : Ok (cLen [.lst xs] M) Q := q
theorem c_lenR (q : Q (.int (xs.length : Nat)) M) : Ok (cLen [.rol xs] M) Q := q
theorem c_lenC {n : Nat} (hc : cellAt M n = some xs) (q : Q (.int (xs.length : Nat)) M) : Ok (cLen [.loc n] M) Q := by
  show Ok (match cellAt M n with | some xs => Res.ok (D.int xs.length) M | none => .stuck) Q
  rw [hc]; exact q
theorem c_abs (q : Q (.int (i.natAbs : Nat)) M) : Ok (cAbs [.int i] M) Q := by
  show Q (.int (if i < 0 then -i else i)) M
  rw [show (if i < 0 then -i else i) = (i.natAbs : Int) by split <;> omega]; exact q
theorem c_int (q : Q (.int i) M) : Ok (cInt [.int i] M) Q := q
theorem c_tupT (q : Q (.tup xs) M) : Ok (cTuple [.tup xs] M) Q := q
theorem c_tupL (hl : xs.length ≤ 16777216) (q : Q (.tup xs) M) : Ok (cTuple [.lst xs] M) Q := new_tup hl q
theorem c_gcd (q : Q (.int ((Nat.gcd i.natAbs j.natAbs : Nat) : Int)) M) : Ok (cGcd [.int i, .int j] M) Q := q
theorem c_isi {f : String → Bool} (h : ∀ n, d ≠ .loc n) (q : Q (.bl (f (tyS d))) M) : Ok (cIsI f d M) Q := by
  cases d <;> first | exact q | exact absurd rfl (h _)
/-! a def's run -/
theorem w_run {n N : Nat} {m : DS} {ds : List D} {ρ' : Sl} [g : InitS N ds ρ'] (hl : ds.length = n) (h : Ok (m ρ' M) (RunK M.length Q)) : Ok (runDef n N m ds M) Q := by
  rw [← g.e] at h
  unfold runDef
  rw [if_pos hl]
  obtain ⟨r, M1, e, h⟩ := ok_ex h
  rw [e]
  obtain ⟨fl, ρ⟩ := r
  cases fl with
  | nx => exact h
  | rt d =>
    show Ok (if locFree d = true then Res.ok d (M1.take M.length) else .stuck) Q
    rw [if_pos h.1]; exact h.2
  | bk => exact h.elim
  | ct => exact h.elim
theorem w_runL {n N : Nat} {m : DS} {ds : List D} {ρ' : Sl} [g : InitS N ds ρ'] (hl : ds.length = n) (h : Ok (m ρ' M) (RunLK Q)) : Ok (runDefL n N m ds M) Q := by
  rw [← g.e] at h
  unfold runDefL
  rw [if_pos hl]
  obtain ⟨r, M1, e, h⟩ := ok_ex h
  rw [e]
  obtain ⟨fl, ρ⟩ := r
  cases fl <;> first | exact h | exact h.elim
theorem runk_rt {n : Nat} (hf : locFree d = true) (q : Q d (M.take n)) : RunK n Q (.rt d, ρ) M := ⟨hf, q⟩
theorem runk_nx {n : Nat} (q : Q .non (M.take n)) : RunK n Q (.nx, ρ) M := q
end

section
variable {α : Type} {ρ : Sl} {M : Store} {d : D} {Q : D → Store → Prop} {QA : α → Store → Prop} {r s : Store → Res α} {P : Prop} [Decidable P]
theorem runk_rt0 (hf : locFree d = true) (q : Q d M) : RunK M.length Q (.rt d, ρ) M := ⟨hf, by rw [List.take_length]; exact q⟩
theorem ifk_t (h : P) (q : Ok (r M) QA) : IfK r s QA (decide P) M := ⟨fun _ => q, fun e => absurd h (of_decide_eq_false e)⟩
theorem ifk_f (h : ¬ P) (q : Ok (s M) QA) : IfK r s QA (decide P) M := ⟨fun e => absurd (of_decide_eq_true e) h, fun _ => q⟩
theorem ifk_nt (h : P) (q : Ok (s M) QA) : IfK r s QA (!decide P) M := by rw [decide_eq_true h]; exact ⟨fun e => (Bool.false_ne_true e).elim, fun _ => q⟩
theorem ifk_nf (h : ¬ P) (q : Ok (r M) QA) : IfK r s QA (!decide P) M := by rw [decide_eq_false h]; exact ⟨fun _ => q, fun e => (Bool.false_ne_true e.symm).elim⟩
theorem ifk_cases (h1 : P → Ok (r M) QA) (h2 : ¬ P → Ok (s M) QA) : IfK r s QA (decide P) M := ⟨fun e => h1 (of_decide_eq_true e), fun e => h2 (of_decide_eq_false e)⟩
theorem ifk_ncases (h1 : ¬ P → Ok (r M) QA) (h2 : P → Ok (s M) QA) : IfK r s QA (!decide P) M := by
  by_cases h : P
  · exact ifk_nt h (h2 h)
  · exact ifk_nf h (h1 h)
theorem ifk_join {t : Bool} {M' : Store} (a : α) (h1 : t = true → Ok (r M) fun b N => b = a ∧ N = M') (h2 : t = false → Ok (s M) fun b N => b = a ∧ N = M') (q : QA a M') : IfK r s QA t M :=
  ⟨fun e => ok_imp (h1 e) fun b N ⟨e1, e2⟩ => by rw [e1, e2]; exact q, fun e => ok_imp (h2 e) fun b N ⟨e1, e2⟩ => by rw [e1, e2]; exact q⟩
theorem ifk_true (q : Ok (r M) QA) : IfK r s QA true M := ⟨fun _ => q, fun e => (Bool.false_ne_true e.symm).elim⟩
theorem ifk_false (q : Ok (s M) QA) : IfK r s QA false M := ⟨fun e => (Bool.false_ne_true e).elim, fun _ => q⟩
theorem ifk_eq {t : Bool} {f : Bool → Store → Res α} (ht : t = true → Ok (r M) QA) (hf : t = false → Ok (s M) QA) : IfK r s QA t M := ⟨ht, hf⟩
/-! rows as a function of the place -/
def rl (L : Nat) (g : Nat → D) : List D := (List.range L).map g
theorem rl_len {L : Nat} {g : Nat → D} : (rl L g).length = L := by unfold rl; rw [List.length_map, List.length_range]
theorem rl_get {L k : Nat} {g : Nat → D} (h : k < L) : (rl L g)[k]? = some (g k) := by
  unfold rl
  rw [List.getElem?_map, List.getElem?_range h]
  rfl
theorem rl_at {L k : Nat} {g : Nat → D} (h : k < L) : L2.atI (rl L g) (k : Int) = some (g k) := by
  unfold L2.atI L2.ixN
  rw [if_pos (by omega), rl_len, if_pos (by omega)]
  show (rl L g)[k]? = _
  exact rl_get h
theorem rl_set {L k : Nat} {g : Nat → D} {d : D} : (rl L g).set k d = rl L (fun i => if i = k then d else g i) := by
  refine List.ext_getElem? fun i => ?_
  by_cases hi : i < L
  · rw [rl_get hi]
    by_cases e : k = i
    · subst e
      rw [List.getElem?_set_self (by rw [rl_len]; exact hi), if_pos rfl]
    · rw [List.getElem?_set_ne e, rl_get hi, if_neg (Ne.symm e)]
  · rw [List.getElem?_eq_none (by rw [List.length_set, rl_len]; omega), List.getElem?_eq_none (by rw [rl_len]; omega)]
theorem rl_congr {L : Nat} {f g : Nat → D} (h : ∀ i, i < L → f i = g i) : rl L f = rl L g := by
  unfold rl
  exact List.map_congr_left fun i hi => h i (List.mem_range.mp hi)
theorem rl_frees {L : Nat} {g : Nat → D} (h : ∀ i, i < L → locFree (g i) = true) : locFrees (rl L g) = true := by
  rw [locFrees_iff]
  intro d hd
  obtain ⟨i, hi, rfl⟩ := List.mem_map.mp hd
  exact h i (List.mem_range.mp hi)
theorem rel_rl {γ : Type} {R : γ → D → Prop} {G : Type} (mk : G → D) [Inhabited G] [Inhabited γ] (S : γ → G → Prop) (hR : ∀ x d, R x d → ∃ g, d = mk g ∧ S x g) : ∀ {l : List γ} {ds : List D}, Rel2 R l ds → ∃ F : Nat → G, ds = rl l.length (fun i => mk (F i)) ∧ ∀ i, i < l.length → S (l.getD i default) (F i)
  | [], _, .nil => ⟨fun _ => default, rfl, fun i h => absurd h (Nat.not_lt_zero _)⟩
  | x :: l, _, .cons (d := d) (ds := ds) h t => by
    obtain ⟨F, e, s⟩ := rel_rl mk S hR t
    obtain ⟨g, rfl, sg⟩ := hR x d h
    refine ⟨fun i => match i with | 0 => g | i + 1 => F i, ?_, fun i hi => ?_⟩
    · rw [e]
      refine List.ext_getElem? fun i => ?_
      cases i with
      | zero => rw [List.length_cons, rl_get (Nat.succ_pos _)]; rfl
      | succ i =>
        rw [List.getElem?_cons_succ, List.length_cons]
        by_cases hi : i < l.length
        · rw [rl_get hi, rl_get (by omega)]
        · rw [List.getElem?_eq_none (by rw [rl_len]; omega), List.getElem?_eq_none (by rw [rl_len]; omega)]
    · cases i with
      | zero => exact sg
      | succ i => exact s i (by rw [List.length_cons] at hi; omega)
theorem okDs_all {n : Nat} : ∀ {ds : List D}, (∀ d ∈ ds, okD d n = true) → okDs ds n = true
  | [], _ => by simp [okDs]
  | d :: ds, h => by rw [okDs, h d List.mem_cons_self, okDs_all fun e he => h e (List.mem_cons_of_mem _ he)]; rfl
/-- a list against the empty one -/
theorem d_nil {neg : Bool} {ds : List D} (hk : okDs ds 59 = true) (q : Q (.bl (neg ^^ decide (ds = []))) M) : Ok (dEq neg (.lst ds) (.lst []) M) Q := by
  refine ok_of (M := M) (a := .bl (neg ^^ decide (ds = []))) ?_ q
  show dEq0 neg (.lst ds) (.lst []) M = _
  unfold dEq0
  show (if (okD (.lst ds) 60 && okD (.lst []) 60) = true then Res.ok (D.bl (neg ^^ eqD (.lst ds) (.lst []))) M else .stuck) = _
  rw [if_pos (by rw [okD, hk]; simp [okD, okDs])]
  have : eqD (.lst ds) (.lst []) = decide (ds = []) := by
    cases ds with
    | nil => simp [eqD, toP, toPs, PySem.PyData.eqv, PySem.PyData.eqvAll]
    | cons d ds => simp [eqD, toP, toPs, PySem.PyData.eqv, PySem.PyData.eqvAll]
  rw [this]
theorem d_nil' {neg : Bool} {n : Nat} {ds : List D} (hc : cellAt M n = some ds) (hk : okDs ds 59 = true) (q : Q (.bl (neg ^^ decide (ds = []))) M) : Ok (dEq neg (.loc n) (.lst []) M) Q := by
  refine ok_of (M := M) (a := .bl (neg ^^ decide (ds = []))) ?_ q
  show dEq0 neg (.loc n) (.lst []) M = _
  unfold dEq0
  have e : der M (.loc n) = some (.lst ds) := by
    show (cellAt M n).map D.lst = _
    rw [hc]; rfl
  rw [e]
  show (if (okD (.lst ds) 60 && okD (.lst []) 60) = true then Res.ok (D.bl (neg ^^ eqD (.lst ds) (.lst []))) M else .stuck) = _
  rw [if_pos (by rw [okD, hk]; simp [okD, okDs])]
  have : eqD (.lst ds) (.lst []) = decide (ds = []) := by
    cases ds with
    | nil => simp [eqD, toP, toPs, PySem.PyData.eqv, PySem.PyData.eqvAll]
    | cons d ds => simp [eqD, toP, toPs, PySem.PyData.eqv, PySem.PyData.eqvAll]
  rw [this]
end

/-! ### the engine: one step of a goal -/
class Step (g : Prop) (g' : outParam Prop) : Prop where
  e : g' → g
class LenIs (xs : List D) (n : outParam Nat) : Prop where
  e : xs.length = n
instance : LenIs [] 0 := ⟨rfl⟩
instance {x : D} {xs : List D} {n : Nat} [h : LenIs xs n] : LenIs (x :: xs) (n + 1) := ⟨by rw [List.length_cons, h.e]⟩
class LenEq (xs : List D) (n : Nat) : Prop where
  e : xs.length = n
instance : LenEq [] 0 := ⟨rfl⟩
instance {x : D} {xs : List D} {n : Nat} [h : LenEq xs n] : LenEq (x :: xs) (n + 1) := ⟨by rw [List.length_cons, h.e]⟩
class Sh (xs : List D) : Prop where
  e : xs.length ≤ 60
class ShN (xs : List D) (n : Nat) : Prop where
  e : xs.length ≤ n
instance {n : Nat} : ShN [] n := ⟨Nat.zero_le _⟩
instance {x : D} {xs : List D} {n : Nat} [h : ShN xs n] : ShN (x :: xs) (n + 1) := ⟨by rw [List.length_cons]; exact Nat.succ_le_succ h.e⟩
instance {xs : List D} [h : ShN xs 60] : Sh xs := ⟨h.e⟩
theorem Sh.le {xs : List D} (h : Sh xs) : xs.length ≤ 16777216 := Nat.le_trans h.e (by decide)
class Free (d : D) : Prop where
  e : locFree d = true
class Frees (ds : List D) : Prop where
  e : locFrees ds = true
instance {i : Int} : Free (.int i) := ⟨by simp [locFree]⟩
instance {b : Bool} : Free (.bl b) := ⟨by simp [locFree]⟩
instance {x : PySem.Str} : Free (.str x) := ⟨by simp [locFree]⟩
instance : Free .non := ⟨by simp [locFree]⟩
instance {ds : List D} [h : Frees ds] : Free (.tup ds) := ⟨by rw [free_tup]; exact h.e⟩
instance {ds : List D} [h : Frees ds] : Free (.lst ds) := ⟨by rw [free_lst]; exact h.e⟩
instance : Frees [] := ⟨by simp⟩
instance {d : D} {ds : List D} [h : Free d] [g : Frees ds] : Frees (d :: ds) := ⟨by rw [frees_cons, h.e, g.e]; rfl⟩
class IxN (xs : List D) (i : Int) (k : outParam Nat) : Prop where
  e : L2.ixN xs.length i = some k
class TupV (d : D) (xs : outParam (List D)) : Prop where
  e : d = .tup xs
instance {xs : List D} : TupV (.tup xs) xs := ⟨rfl⟩
class LstV (d : D) (xs : outParam (List D)) : Prop where
  e : d = .lst xs
instance {xs : List D} : LstV (.lst xs) xs := ⟨rfl⟩
class FoldB (ds : List D) (b : outParam Bool) : Prop where
  e : ∃ bs, boolsOf ds = some bs ∧ bs.all id = b
instance : FoldB [] true := ⟨[], rfl, rfl⟩
instance {ds : List D} {b c : Bool} [h : FoldB ds b] : FoldB (.bl c :: ds) (c && b) := ⟨by
  obtain ⟨bs, e1, e2⟩ := h.e
  refine ⟨c :: bs, ?_, by rw [List.all_cons, e2]; rfl⟩
  rw [boolsOf, e1]; rfl⟩
class LenI (xs : List D) (i : outParam Int) : Prop where
  e : ((xs.length : Nat) : Int) = i
instance : LenI [] 0 := ⟨rfl⟩
instance {a : D} : LenI [a] 1 := ⟨rfl⟩
instance {a b : D} : LenI [a, b] 2 := ⟨rfl⟩
instance {a b c : D} : LenI [a, b, c] 3 := ⟨rfl⟩
instance {a b c d : D} : LenI [a, b, c, d] 4 := ⟨rfl⟩
instance {a b c d e : D} : LenI [a, b, c, d, e] 5 := ⟨rfl⟩
instance {a b c d e f : D} : LenI [a, b, c, d, e, f] 6 := ⟨rfl⟩
instance {a b c d e f g : D} : LenI [a, b, c, d, e, f, g] 7 := ⟨rfl⟩
instance {a b c d e f g h : D} : LenI [a, b, c, d, e, f, g, h] 8 := ⟨rfl⟩
class AppIs (xs ys : List D) (zs : outParam (List D)) : Prop where
  e : xs ++ ys = zs
instance {ys : List D} : AppIs [] ys ys := ⟨rfl⟩
instance {x : D} {xs ys zs : List D} [h : AppIs xs ys zs] : AppIs (x :: xs) ys (x :: zs) := ⟨by rw [List.cons_append, h.e]⟩
class CutIs (xs : List D) (lo hi : Option Int) (ys : outParam (List D)) : Prop where
  e : cutD xs lo hi = ys
instance {a b : D} {r : List D} : CutIs (a :: b :: r) none (some 2) [a, b] := ⟨cut_take (k := 2)⟩
instance {a b c : D} {r : List D} : CutIs (a :: b :: c :: r) none (some 3) [a, b, c] := ⟨cut_take (k := 3)⟩
instance {a : D} {r : List D} : CutIs (a :: r) none (some 1) [a] := ⟨cut_take (k := 1)⟩
instance {a : D} {r : List D} : CutIs (a :: r) (some 1) none r := ⟨cut_drop (k := 1)⟩
instance {a b : D} {r : List D} : CutIs (a :: b :: r) (some 2) none r := ⟨cut_drop (k := 2)⟩
instance {a b c : D} {r : List D} : CutIs (a :: b :: c :: r) (some 3) none r := ⟨cut_drop (k := 3)⟩
class ZipIs (xs ys : List D) (zs : outParam (List D)) : Prop where
  e : zipD xs ys = zs
instance {ys : List D} : ZipIs [] ys [] := ⟨rfl⟩
instance {x y : D} {xs ys zs : List D} [h : ZipIs xs ys zs] : ZipIs (x :: xs) (y :: ys) (.tup [x, y] :: zs) := ⟨by rw [← h.e]; rfl⟩
class CellIs (M : Store) (n : Nat) (ds : outParam (List D)) : Prop where
  e : M[n]? = some (some ds)
theorem CellIs.c {M : Store} {n : Nat} {ds : List D} (h : CellIs M n ds) : cellAt M n = some ds := by unfold cellAt; rw [h.e]; rfl
theorem CellIs.lt {M : Store} {n : Nat} {ds : List D} (h : CellIs M n ds) : n < M.length := by
  rcases Nat.lt_or_ge n M.length with z | z
  · exact z
  · have := h.e; rw [List.getElem?_eq_none z] at this; cases this
instance (priority := low) {M : Store} {n : Nat} {ds : List D} {c : Option (List D)} [h : CellIs M n ds] : CellIs (M ++ [c]) n ds := ⟨by rw [List.getElem?_append_left h.lt]; exact h.e⟩
instance {M : Store} {ds : List D} : CellIs (M ++ [some ds]) M.length ds := ⟨by rw [List.getElem?_append_right (Nat.le_refl _), Nat.sub_self]; rfl⟩
class CellSet (M : Store) (n : Nat) (x : Option (List D)) (M' : outParam Store) : Prop where
  e : M.set n x = M'
  lt : n < M.length
instance (priority := low) {M M' : Store} {n : Nat} {x c : Option (List D)} [h : CellSet M n x M'] : CellSet (M ++ [c]) n x (M' ++ [c]) := ⟨by rw [List.set_append_left _ _ h.lt, h.e], by rw [List.length_append]; exact Nat.lt_add_right _ h.lt⟩
instance {M : Store} {c x : Option (List D)} : CellSet (M ++ [c]) M.length x (M ++ [x]) := ⟨set_snoc, by simp⟩
class TakeIs (M : Store) (n : Nat) (M' : outParam Store) : Prop where
  e : M.take n = M'
  le : n ≤ M.length
instance (priority := low) {M M' : Store} {n : Nat} {c : Option (List D)} [h : TakeIs M n M'] : TakeIs (M ++ [c]) n M' := ⟨by rw [List.take_append_of_le_length h.le, h.e], by rw [List.length_append]; exact Nat.le_add_right_of_le h.le⟩
instance {M : Store} : TakeIs M M.length M := ⟨List.take_length, Nat.le_refl _⟩
def FzK (Q : D → Store → Prop) : D → Store → Prop := fun d M1 => ∃ n ds, d = .loc n ∧ cellAt M1 n = some ds ∧ Q (.lst ds) (M1.set n none)
def DefKK (n m : Nat) (g : List D → List D → List D) (f : DF) (Q : D → Store → Prop) (ds es : List D) (M : Store) : Prop := (ds.length = n ∧ es.length = m) ∧ Ok (f (g ds es) M) Q
def RevK (Q : D → Store → Prop) : D → Store → Prop := fun d M => ∃ xs, d = .tup xs ∧ xs.length ≤ 16777216 ∧ Q (.tup xs.reverse) M
def PushK (n : Nat) (R : Store → Prop) : D → Store → Prop := fun d M => ∃ M3, appAt M n d = some M3 ∧ R M3
class IxL (xs : List D) (i : Int) (d : outParam D) : Prop where
  e : L2.atI xs i = some d
section
variable {a b c d e f g h k : D} {r : List D}
theorem ix_of {xs : List D} {n : Nat} {d : D} (hn : xs[n]? = some d) : L2.atI xs (n : Int) = some d := by
  have hl : n < xs.length := by
    rcases Nat.lt_or_ge n xs.length with z | z
    · exact z
    · rw [List.getElem?_eq_none z] at hn; cases hn
  unfold L2.atI L2.ixN
  rw [if_pos (by omega), if_pos (by omega)]
  exact hn
instance : IxL (a :: r) 0 a := ⟨ix_of (n := 0) rfl⟩
instance : IxL (a :: b :: r) 1 b := ⟨ix_of (n := 1) rfl⟩
instance : IxL (a :: b :: c :: r) 2 c := ⟨ix_of (n := 2) rfl⟩
instance : IxL (a :: b :: c :: d :: r) 3 d := ⟨ix_of (n := 3) rfl⟩
instance : IxL (a :: b :: c :: d :: e :: r) 4 e := ⟨ix_of (n := 4) rfl⟩
instance : IxL (a :: b :: c :: d :: e :: f :: r) 5 f := ⟨ix_of (n := 5) rfl⟩
end
section
variable {α : Type} {ρ : Sl} {M : Store} {d e c : D} {ds xs ys bs : List D} {i j : Int} {n m : Nat} {b' : Bool} {Q : D → Store → Prop} {QL : List D → Store → Prop} {QB : Bool → Store → Prop} {QS : Fl × Sl → Store → Prop} {QO : Option Int → Store → Prop} {QR : Sl → Store → Prop} {QA : α → Store → Prop} {mk : List D → Store → Res D} {f : DF} {rr ss : Store → Res α}
instance {a b : DS} : Step (Ok (mSeq a b ρ M) QS) (Ok (a ρ M) (SeqK b QS)) := ⟨w_seq⟩
instance {b : DS} : Step (SeqK b QS (.nx, ρ) M) (Ok (b ρ M) QS) := ⟨seqk_nx⟩
instance {b : DS} : Step (SeqK b QS (.rt d, ρ) M) (QS (.rt d, ρ) M) := ⟨seqk_rt⟩
instance {a : DE} {b : Bd} : Step (Ok (mAsg a b ρ M) QS) (Ok (a ρ M) fun d M1 => Ok (b d ρ M1) fun ρ1 M2 => QS (.nx, ρ1) M2) := ⟨w_asg⟩
instance {i : Nat} {ρ' : Sl} [SetS ρ i (some d) ρ'] : Step (Ok (bName i d ρ M) QR) (QR ρ' M) := ⟨w_bName⟩
instance {b : Bds} [h : LenEq xs n] : Step (Ok (bTup n b (.tup xs) ρ M) QR) (Ok (b xs ρ M) QR) := ⟨w_bTup h.e⟩
instance {b : Bds} [h : LenEq xs n] : Step (Ok (bTup n b (.lst xs) ρ M) QR) (Ok (b xs ρ M) QR) := ⟨w_bTupL h.e⟩
instance : Step (Ok (bNil [] ρ M) QR) (QR ρ M) := ⟨w_bNil⟩
instance {b : Bd} {r : Bds} : Step (Ok (bCons b r (d :: ds) ρ M) QR) (Ok (b d ρ M) fun ρ1 M1 => Ok (r ds ρ1 M1) QR) := ⟨w_bCons⟩
instance {a : DE} : Step (Ok (mRet a ρ M) QS) (Ok (a ρ M) fun d M1 => QS (.rt d, ρ) M1) := ⟨w_ret⟩
instance : Step (Ok (mNx ρ M) QS) (QS (.nx, ρ) M) := ⟨w_nx⟩
instance : Step (Ok (mC d ρ M) Q) (Q d M) := ⟨w_C⟩
instance {i : Nat} [At ρ i d] : Step (Ok (mV i ρ M) Q) (Q d M) := ⟨w_V⟩
instance : Step (Ok (mNil ρ M) QL) (QL [] M) := ⟨w_nil⟩
instance {a : DE} {r : DA} : Step (Ok (mCons a r ρ M) QL) (Ok (a ρ M) fun d M1 => Ok (r ρ M1) fun ds M2 => QL (d :: ds) M2) := ⟨w_cons⟩
instance {g : D → D → Store → Res D} {a b : DE} : Step (Ok (mOp g a b ρ M) Q) (Ok (a ρ M) fun x M1 => Ok (b ρ M1) fun y M2 => Ok (g x y M2) Q) := ⟨w_op⟩
instance {g : D → Store → Res D} {a : DE} : Step (Ok (mUn g a ρ M) Q) (Ok (a ρ M) fun x M1 => Ok (g x M1) Q) := ⟨w_un⟩
instance {a : DA} : Step (Ok (mTup a ρ M) Q) (Ok (a ρ M) (MkK newTup Q)) := ⟨w_tup⟩
instance {a : DA} : Step (Ok (mLst mk a ρ M) Q) (Ok (a ρ M) (MkK mk Q)) := ⟨w_lst⟩
instance [h : Sh ds] : Step (MkK newTup Q ds M) (Q (.tup ds) M) := ⟨mkk_tup h.le⟩
instance [h : Sh ds] : Step (MkK newLst Q ds M) (Q (.lst ds) M) := ⟨mkk_lst h.le⟩
instance [h : Sh ds] [g : Frees ds] : Step (MkK newLoc Q ds M) (Q (.loc M.length) (M ++ [some ds])) := ⟨mkk_loc h.le g.e⟩
instance [h : Sh ds] : Step (Ok (newTup ds M) Q) (Q (.tup ds) M) := ⟨new_tup h.le⟩
instance [h : Sh ds] : Step (Ok (newLst ds M) Q) (Q (.lst ds) M) := ⟨new_lst h.le⟩
instance [h : Sh ds] [g : Frees ds] : Step (Ok (newLoc ds M) Q) (Q (.loc M.length) (M ++ [some ds])) := ⟨new_loc h.le g.e⟩
instance {a : DA} : Step (Ok (mCall f a ρ M) Q) (Ok (a ρ M) fun ds M1 => Ok (f ds M1) Q) := ⟨w_call⟩
instance {a : DA} : Step (Ok (mDef n f a ρ M) Q) (Ok (a ρ M) (DefK n f Q)) := ⟨w_def⟩
instance [h : LenEq ds n] : Step (DefK n f Q ds M) (Ok (f ds M) Q) := ⟨defk h.e⟩
instance {c : DT} {a b : DE} : Step (Ok (mIf c a b ρ M) Q) (Ok (c ρ M) (IfK (a ρ) (b ρ) Q)) := ⟨w_if⟩
instance {c : DT} {a b : DS} : Step (Ok (mIfS c a b ρ M) QS) (Ok (c ρ M) (IfK (a ρ) (b ρ) QS)) := ⟨w_ifs⟩
instance {a : DE} : Step (Ok (mTst a ρ M) QB) (Ok (a ρ M) (BlK QB)) := ⟨w_tst⟩
instance {b : Bool} : Step (BlK QB (.bl b) M) (QB b M) := ⟨blk⟩
instance {a b : DT} : Step (Ok (mAndT a b ρ M) QB) (Ok (a ρ M) (IfK (b ρ) (fun M => .ok false M) QB)) := ⟨w_andT⟩
instance {a b : DT} : Step (Ok (mOrT a b ρ M) QB) (Ok (a ρ M) (IfK (fun M => .ok true M) (b ρ) QB)) := ⟨w_orT⟩
instance {a : DT} : Step (Ok (mNotT a ρ M) QB) (Ok (a ρ M) fun c M1 => QB (!c) M1) := ⟨w_notT⟩
instance : Step (Ok (mYes ρ M) QB) (QB true M) := ⟨w_yes⟩
instance {a b : DE} : Step (Ok (mAnd a b ρ M) Q) (Ok (a ρ M) (BlK (IfK (b ρ) (fun M => .ok (.bl false) M) Q))) := ⟨w_and⟩
instance {a b : DE} : Step (Ok (mOr a b ρ M) Q) (Ok (a ρ M) (BlK (IfK (fun M => .ok (.bl true) M) (b ρ) Q))) := ⟨w_or⟩
instance {a : DE} : Step (Ok (mNot a ρ M) Q) (Ok (a ρ M) (BlK fun c M1 => Q (.bl (!c)) M1)) := ⟨w_not⟩
instance : Step (Ok (mNoP ρ M) QO) (QO none M) := ⟨w_noP⟩
instance {a : DE} : Step (Ok (mPart a ρ M) QO) (Ok (a ρ M) (PartK QO)) := ⟨w_part⟩
instance : Step (PartK QO (.int i) M) (QO (some i) M) := ⟨partk⟩
instance {a : DE} {lo hi : DO} : Step (Ok (mSl mk a lo hi ρ M) Q) (Ok (a ρ M) fun d M1 => Ok (lo ρ M1) fun l M2 => Ok (hi ρ M2) fun u M3 => Ok (dSl mk l u d M3) Q) := ⟨w_sl⟩
instance {lo hi : Option Int} : Step (Ok (dSl mk lo hi (.lst xs) M) Q) (Ok (mk (cutD xs lo hi) M) Q) := ⟨dsl_lst⟩
instance {lo hi : Option Int} : Step (Ok (dSl mk lo hi (.rol xs) M) Q) (Ok (mk (cutD xs lo hi) M) Q) := ⟨dsl_rol⟩
instance {it : DA} {b : Bd} {tt : DT} {me : DE} {own : List Nat} {ρ' : Sl} [WipeS ρ own ρ'] : Step (Ok (mLc mk it b tt me own ρ M) Q) (Ok (it ρ M) (LcK mk b tt me ρ' Q)) := ⟨w_lc⟩
instance {b : Bd} {tt : DT} {me : DE} [h : Sh ds] : Step (LcK mk b tt me ρ Q ds M) (Ok (mLcGo b tt me ds ρ M) (MkK mk Q)) := ⟨lck h.le⟩
instance {b : Bd} {tt : DT} {me : DE} : Step (Ok (mLcGo b tt me [] ρ M) QL) (QL [] M) := ⟨lcgo_nil⟩
instance {b : Bd} {me : DE} : Step (Ok (mLcGo b mYes me (d :: ds) ρ M) QL) (Ok (b d ρ M) fun ρ1 M1 => Ok (me ρ1 M1) fun y M3 => Ok (mLcGo b mYes me ds ρ M3) fun ys M4 => QL (y :: ys) M4) := ⟨fun h => lcgo_cons (ok_imp h fun _ _ h => w_yes (ifk_true (ok_bind (ok_imp h fun _ _ h => ok_bind h))))⟩
instance {b : Bd} {body : DS} : Step (Ok (mForGo b body [] ρ M) QS) (QS (.nx, ρ) M) := ⟨go_nil⟩
instance {a : DE} : Step (Ok (itSeq a ρ M) QL) (Ok (a ρ M) (SeqFK QL)) := ⟨w_itSeq⟩
instance : Step (SeqFK QL (.tup xs) M) (QL xs M) := ⟨sqf_tup⟩
instance : Step (SeqFK QL (.lst xs) M) (QL xs M) := ⟨sqf_lst⟩
instance : Step (SeqFK QL (.rol xs) M) (QL xs M) := ⟨sqf_rol⟩
instance {a : DA} : Step (Ok (itR1 a ρ M) QL) (Ok (a ρ M) (R1K QL)) := ⟨w_itR1⟩
instance {a : DA} : Step (Ok (itR2 a ρ M) QL) (Ok (a ρ M) (R2K QL)) := ⟨w_itR2⟩
instance {a : DA} : Step (Ok (itEnum a ρ M) QL) (Ok (a ρ M) (EnumK QL)) := ⟨w_itEnum⟩
instance [h : TupV d xs] : Step (EnumK QL [d] M) (QL (enumD 0 xs) M) := ⟨fun q => ⟨d, xs, rfl, by rw [h.e]; rfl, q⟩⟩
instance [h : LstV d xs] : Step (EnumK QL [d] M) (QL (enumD 0 xs) M) := ⟨fun q => ⟨d, xs, rfl, by rw [h.e]; rfl, q⟩⟩
instance : Step (EnumK QL [.rol xs] M) (QL (enumD 0 xs) M) := ⟨fun q => ⟨_, xs, rfl, rfl, q⟩⟩
instance {a : DA} : Step (Ok (itZip a ρ M) QL) (Ok (a ρ M) (ZipK QL)) := ⟨w_itZip⟩
instance : Step (ZipK QL [.tup xs, .tup ys] M) (QL (zipD xs ys) M) := ⟨zip_tt⟩
instance : Step (ZipK QL [.lst xs, .lst ys] M) (QL (zipD xs ys) M) := ⟨zip_ll⟩
instance {a : DA} {i j : Nat} : Step (Ok (mPar2 i j a ρ M) QS) (Ok (a ρ M) (P2K i j ρ QS)) := ⟨w_par2⟩
instance {i j : Nat} {ρ1 ρ2 : Sl} [SetS ρ i (some d) ρ1] [SetS ρ1 j (some e) ρ2] : Step (P2K i j ρ QS [d, e] M) (QS (.nx, ρ2) M) := ⟨p2k⟩
instance {a : DA} {i j l : Nat} : Step (Ok (mPar3 i j l a ρ M) QS) (Ok (a ρ M) (P3K i j l ρ QS)) := ⟨w_par3⟩
instance {i j l : Nat} {ρ1 ρ2 ρ3 : Sl} [SetS ρ i (some d) ρ1] [SetS ρ1 j (some e) ρ2] [SetS ρ2 l (some c) ρ3] : Step (P3K i j l ρ QS [d, e, c] M) (QS (.nx, ρ3) M) := ⟨p3k⟩
instance {a : DE} : Step (Ok (mDrop a ρ M) QS) (Ok (a ρ M) fun _ M1 => QS (.nx, ρ) M1) := ⟨w_drop⟩
instance {o a : DE} : Step (Ok (mApp o a ρ M) QS) (Ok (o ρ M) (AppK a ρ (QS (.nx, ρ)))) := ⟨w_app⟩
instance {o a : DE} : Step (Ok (bSub o a d ρ M) QR) (Ok (o ρ M) fun l M1 => Ok (a ρ M1) fun k M2 => SubK d (QR ρ) l k M2) := ⟨w_bSub⟩
instance {g : D → D → Store → Res D} {i : Nat} {a : DE} [At ρ i d] : Step (Ok (mAug g i a ρ M) QS) (Ok (a ρ M) fun y M1 => Ok (g d y M1) fun z M2 => Ok (bName i z ρ M2) fun ρ1 M3 => QS (.nx, ρ1) M3) := ⟨w_aug⟩
instance {it : DA} {b : Bd} {body : DS} : Step (Ok (mFor it b body ρ M) QS) (Ok (it ρ M) fun ds M1 => Ok (mForGo b body ds ρ M1) QS) := ⟨w_for⟩
instance {go : Sl → Store → Prop} : Step (StepK go QS (.nx, ρ) M) (go ρ M) := ⟨stepk_nx⟩
instance {go : Sl → Store → Prop} : Step (StepK go QS (.rt d, ρ) M) (QS (.rt d, ρ) M) := ⟨stepk_rt⟩
instance {a : α} : Step (Ok (.ok a M) QA) (QA a M) := ⟨ok_ok⟩
instance {β : Type} {r : Res β} {g : β → Store → Res α} : Step (Ok (r.bind g) QA) (Ok r fun a M => Ok (g a M) QA) := ⟨ok_bind⟩
instance : Step (IfK rr ss QA true M) (Ok (rr M) QA) := ⟨ifk_true⟩
instance : Step (IfK rr ss QA false M) (Ok (ss M) QA) := ⟨ifk_false⟩
instance {b : Bool} : Step (IfK rr ss QA (!b) M) (IfK ss rr QA b M) := ⟨fun h => ⟨fun e => h.2 (by cases b <;> simp_all), fun e => h.1 (by cases b <;> simp_all)⟩⟩
instance {b : Bool} : Step (IfK rr ss QA (true ^^ b) M) (IfK ss rr QA b M) := ⟨fun h => ⟨fun e => h.2 (by cases b <;> simp_all), fun e => h.1 (by cases b <;> simp_all)⟩⟩
instance {b : Bool} : Step (IfK rr ss QA (false ^^ b) M) (IfK rr ss QA b M) := ⟨fun h => ⟨fun e => h.1 (by cases b <;> simp_all), fun e => h.2 (by cases b <;> simp_all)⟩⟩
instance : Step (Ok (dAdd mk (.int i) (.int j) M) Q) (Q (.int (i + j)) M) := ⟨d_add⟩
instance : Step (Ok (dSub (.int i) (.int j) M) Q) (Q (.int (i - j)) M) := ⟨d_sub⟩
instance : Step (Ok (dNeg (.int i) M) Q) (Q (.int (-i)) M) := ⟨d_neg⟩
instance : Step (Ok (dLt (.int i) (.int j) M) Q) (Q (.bl (decide (i < j))) M) := ⟨d_lt⟩
instance : Step (Ok (dLe (.int i) (.int j) M) Q) (Q (.bl (decide (i ≤ j))) M) := ⟨d_le⟩
instance : Step (Ok (dGt (.int i) (.int j) M) Q) (Q (.bl (decide (i > j))) M) := ⟨d_gt⟩
instance : Step (Ok (dGe (.int i) (.int j) M) Q) (Q (.bl (decide (i ≥ j))) M) := ⟨d_ge⟩
instance : Step (Ok (dEq false (.int i) (.int j) M) Q) (Q (.bl (decide (i = j))) M) := ⟨d_eq⟩
instance : Step (Ok (dEq true (.int i) (.int j) M) Q) (Q (.bl (!decide (i = j))) M) := ⟨d_ne⟩
instance {x : PySem.Str} : Step (Ok (dEq true (.str x) (.str x) M) Q) (Q (.bl false) M) := ⟨fun q => by
  show Q (.bl (true ^^ decide (x = x))) M
  rw [decide_eq_true rfl]; exact q⟩
instance {x : PySem.Str} : Step (Ok (dEq false (.str x) (.str x) M) Q) (Q (.bl true) M) := ⟨fun q => by
  show Q (.bl (false ^^ decide (x = x))) M
  rw [decide_eq_true rfl]; exact q⟩
instance : Step (Ok (cMax [.int i, .int j] M) Q) (Q (.int (if j > i then j else i)) M) := ⟨fun q => q⟩
instance : Step (Ok (cMin [.int i, .int j] M) Q) (Q (.int (if j < i then j else i)) M) := ⟨fun q => q⟩
instance {n m : Nat} {g : {β : Type} → List β → List β → List β} {a b : DA} : Step (Ok (mDefK n m g f a b ρ M) Q) (Ok (a ρ M) fun ds M1 => Ok (b ρ M1) (DefKK n m (fun ds es => g ds es) f Q ds)) := ⟨fun h => w_defK h⟩
instance {n m : Nat} {g : List D → List D → List D} {es : List D} [h1 : LenEq ds n] [h2 : LenEq es m] : Step (DefKK n m g f Q ds es M) (Ok (f (g ds es) M) Q) := ⟨fun h => ⟨⟨h1.e, h2.e⟩, h⟩⟩
instance {a : DE} : Step (Ok (mRev mk a ρ M) Q) (Ok (a ρ M) (RevK Q)) := ⟨fun h => w_rev h⟩
instance [h : TupV d xs] [s : Sh xs] : Step (RevK Q d M) (Q (.tup xs.reverse) M) := ⟨fun q => ⟨xs, h.e, s.le, q⟩⟩
instance : Step (Ok (cLen [.tup xs] M) Q) (Q (.int (xs.length : Nat)) M) := ⟨c_lenT⟩
instance : Step (Ok (cLen [.lst xs] M) Q) (Q (.int (xs.length : Nat)) M) := ⟨c_lenL⟩
instance : Step (Ok (cLen [.rol xs] M) Q) (Q (.int (xs.length : Nat)) M) := ⟨c_lenR⟩
instance : Step (Ok (cAbs [.int i] M) Q) (Q (.int (i.natAbs : Nat)) M) := ⟨c_abs⟩
instance : Step (Ok (cInt [.int i] M) Q) (Q (.int i) M) := ⟨c_int⟩
instance : Step (Ok (cTuple [.tup xs] M) Q) (Q (.tup xs) M) := ⟨c_tupT⟩
instance [h : Sh xs] : Step (Ok (cTuple [.lst xs] M) Q) (Q (.tup xs) M) := ⟨c_tupL h.le⟩
instance : Step (Ok (cGcd [.int i, .int j] M) Q) (Q (.int ((Nat.gcd i.natAbs j.natAbs : Nat) : Int)) M) := ⟨c_gcd⟩
instance [h : IxL xs i d] : Step (Ok (dIx (.tup xs) (.int i) M) Q) (Q d M) := ⟨d_ixT h.e⟩
instance [h : IxL xs i d] : Step (Ok (dIx (.lst xs) (.int i) M) Q) (Q d M) := ⟨d_ixL h.e⟩
instance [h : IxL xs i d] : Step (Ok (dIx (.rol xs) (.int i) M) Q) (Q d M) := ⟨d_ixR h.e⟩
instance : Step (Ok (cIsI (· == "tuple") (.tup xs) M) Q) (Q (.bl true) M) := ⟨fun q => by simpa [cIsI, tyS, Ok] using q⟩
instance : Step (Ok (cIsI (· == "bool") (.tup xs) M) Q) (Q (.bl false) M) := ⟨fun q => by simpa [cIsI, tyS, Ok] using q⟩
instance : Step (Ok (cIsI (· == "list") (.tup xs) M) Q) (Q (.bl false) M) := ⟨fun q => by simpa [cIsI, tyS, Ok] using q⟩
instance : Step (Ok (cIsI (· == "str") (.tup xs) M) Q) (Q (.bl false) M) := ⟨fun q => by simpa [cIsI, tyS, Ok] using q⟩
instance : Step (Ok (cIsI DL.isInt (.tup xs) M) Q) (Q (.bl false) M) := ⟨fun q => by simpa [cIsI, tyS, DL.isInt, Ok] using q⟩
instance : Step (Ok (cIsI (· == "tuple") (.lst xs) M) Q) (Q (.bl false) M) := ⟨fun q => by simpa [cIsI, tyS, Ok] using q⟩
instance : Step (Ok (cIsI (· == "bool") (.lst xs) M) Q) (Q (.bl false) M) := ⟨fun q => by simpa [cIsI, tyS, Ok] using q⟩
instance : Step (Ok (cIsI (· == "list") (.lst xs) M) Q) (Q (.bl true) M) := ⟨fun q => by simpa [cIsI, tyS, Ok] using q⟩
instance : Step (Ok (cIsI (· == "str") (.lst xs) M) Q) (Q (.bl false) M) := ⟨fun q => by simpa [cIsI, tyS, Ok] using q⟩
instance : Step (Ok (cIsI DL.isInt (.lst xs) M) Q) (Q (.bl false) M) := ⟨fun q => by simpa [cIsI, tyS, DL.isInt, Ok] using q⟩
instance : Step (Ok (cIsI (· == "tuple") (.rol xs) M) Q) (Q (.bl false) M) := ⟨fun q => by simpa [cIsI, tyS, Ok] using q⟩
instance : Step (Ok (cIsI (· == "bool") (.rol xs) M) Q) (Q (.bl false) M) := ⟨fun q => by simpa [cIsI, tyS, Ok] using q⟩
instance : Step (Ok (cIsI (· == "list") (.rol xs) M) Q) (Q (.bl true) M) := ⟨fun q => by simpa [cIsI, tyS, Ok] using q⟩
instance : Step (Ok (cIsI (· == "str") (.rol xs) M) Q) (Q (.bl false) M) := ⟨fun q => by simpa [cIsI, tyS, Ok] using q⟩
instance : Step (Ok (cIsI DL.isInt (.rol xs) M) Q) (Q (.bl false) M) := ⟨fun q => by simpa [cIsI, tyS, DL.isInt, Ok] using q⟩
instance : Step (Ok (cIsI (· == "tuple") (.int i) M) Q) (Q (.bl false) M) := ⟨fun q => by simpa [cIsI, tyS, Ok] using q⟩
instance : Step (Ok (cIsI (· == "bool") (.int i) M) Q) (Q (.bl false) M) := ⟨fun q => by simpa [cIsI, tyS, Ok] using q⟩
instance : Step (Ok (cIsI (· == "list") (.int i) M) Q) (Q (.bl false) M) := ⟨fun q => by simpa [cIsI, tyS, Ok] using q⟩
instance : Step (Ok (cIsI (· == "str") (.int i) M) Q) (Q (.bl false) M) := ⟨fun q => by simpa [cIsI, tyS, Ok] using q⟩
instance : Step (Ok (cIsI DL.isInt (.int i) M) Q) (Q (.bl true) M) := ⟨fun q => by simpa [cIsI, tyS, DL.isInt, Ok] using q⟩
instance {b : Bool} : Step (Ok (cIsI (· == "tuple") (.bl b) M) Q) (Q (.bl false) M) := ⟨fun q => by simpa [cIsI, tyS, Ok] using q⟩
instance {b : Bool} : Step (Ok (cIsI (· == "bool") (.bl b) M) Q) (Q (.bl true) M) := ⟨fun q => by simpa [cIsI, tyS, Ok] using q⟩
instance {b : Bool} : Step (Ok (cIsI (· == "list") (.bl b) M) Q) (Q (.bl false) M) := ⟨fun q => by simpa [cIsI, tyS, Ok] using q⟩
instance {b : Bool} : Step (Ok (cIsI (· == "str") (.bl b) M) Q) (Q (.bl false) M) := ⟨fun q => by simpa [cIsI, tyS, Ok] using q⟩
instance {b : Bool} : Step (Ok (cIsI DL.isInt (.bl b) M) Q) (Q (.bl true) M) := ⟨fun q => by simpa [cIsI, tyS, DL.isInt, Ok] using q⟩
instance {x : PySem.Str} : Step (Ok (cIsI (· == "tuple") (.str x) M) Q) (Q (.bl false) M) := ⟨fun q => by simpa [cIsI, tyS, Ok] using q⟩
instance {x : PySem.Str} : Step (Ok (cIsI (· == "bool") (.str x) M) Q) (Q (.bl false) M) := ⟨fun q => by simpa [cIsI, tyS, Ok] using q⟩
instance {x : PySem.Str} : Step (Ok (cIsI (· == "list") (.str x) M) Q) (Q (.bl false) M) := ⟨fun q => by simpa [cIsI, tyS, Ok] using q⟩
instance {x : PySem.Str} : Step (Ok (cIsI (· == "str") (.str x) M) Q) (Q (.bl true) M) := ⟨fun q => by simpa [cIsI, tyS, Ok] using q⟩
instance {x : PySem.Str} : Step (Ok (cIsI DL.isInt (.str x) M) Q) (Q (.bl false) M) := ⟨fun q => by simpa [cIsI, tyS, DL.isInt, Ok] using q⟩
instance : Step (Ok (cIsI (· == "tuple") .non M) Q) (Q (.bl false) M) := ⟨fun q => by simpa [cIsI, tyS, Ok] using q⟩
instance : Step (Ok (cIsI (· == "bool") .non M) Q) (Q (.bl false) M) := ⟨fun q => by simpa [cIsI, tyS, Ok] using q⟩
instance : Step (Ok (cIsI (· == "list") .non M) Q) (Q (.bl false) M) := ⟨fun q => by simpa [cIsI, tyS, Ok] using q⟩
instance : Step (Ok (cIsI (· == "str") .non M) Q) (Q (.bl false) M) := ⟨fun q => by simpa [cIsI, tyS, Ok] using q⟩
instance : Step (Ok (cIsI DL.isInt .non M) Q) (Q (.bl false) M) := ⟨fun q => by simpa [cIsI, tyS, DL.isInt, Ok] using q⟩
instance (priority := low) [h : TupV d xs] : Step (Ok (cIsI (· == "tuple") d M) Q) (Q (.bl true) M) := ⟨fun q => by rw [h.e]; exact Step.e q⟩
instance (priority := low) [h : TupV d xs] : Step (Ok (cIsI (· == "list") d M) Q) (Q (.bl false) M) := ⟨fun q => by rw [h.e]; exact Step.e q⟩
instance (priority := low) [h : LstV d xs] : Step (Ok (cIsI (· == "tuple") d M) Q) (Q (.bl false) M) := ⟨fun q => by rw [h.e]; exact Step.e q⟩
instance (priority := low) [h : LstV d xs] : Step (Ok (cIsI (· == "list") d M) Q) (Q (.bl true) M) := ⟨fun q => by rw [h.e]; exact Step.e q⟩
instance (priority := low) [h : TupV d xs] : Step (SeqFK QL d M) (QL xs M) := ⟨fun q => by rw [h.e]; exact sqf_tup q⟩
instance (priority := low) [h : LstV d xs] : Step (SeqFK QL d M) (QL xs M) := ⟨fun q => by rw [h.e]; exact sqf_lst q⟩
instance (priority := low) {y : D} [h : TupV d xs] [g : IxL xs i y] : Step (Ok (dIx d (.int i) M) Q) (Q y M) := ⟨fun q => by rw [h.e]; exact d_ixT g.e q⟩
instance (priority := low) {y : D} [h : LstV d xs] [g : IxL xs i y] : Step (Ok (dIx d (.int i) M) Q) (Q y M) := ⟨fun q => by rw [h.e]; exact d_ixL g.e q⟩
instance (priority := low) [h : TupV d xs] : Step (Ok (cLen [d] M) Q) (Q (.int (xs.length : Nat)) M) := ⟨fun q => by rw [h.e]; exact c_lenT q⟩
instance (priority := low) [h : LstV d xs] : Step (Ok (cLen [d] M) Q) (Q (.int (xs.length : Nat)) M) := ⟨fun q => by rw [h.e]; exact c_lenL q⟩
instance (priority := low) {b : Bds} [h : TupV d xs] [g : LenEq xs n] : Step (Ok (bTup n b d ρ M) QR) (Ok (b xs ρ M) QR) := ⟨fun q => by rw [h.e]; exact w_bTup g.e q⟩
instance (priority := low) {b : Bds} [h : LstV d xs] [g : LenEq xs n] : Step (Ok (bTup n b d ρ M) QR) (Ok (b xs ρ M) QR) := ⟨fun q => by rw [h.e]; exact w_bTupL g.e q⟩
instance (priority := low) {zs : List D} [h : TupV d xs] [g : TupV e ys] [k : ZipIs xs ys zs] : Step (ZipK QL [d, e] M) (QL zs M) := ⟨fun q => by rw [h.e, g.e]; exact zip_tt (by rw [k.e]; exact q)⟩
instance (priority := low) {zs : List D} [h : LstV d xs] [g : LstV e ys] [k : ZipIs xs ys zs] : Step (ZipK QL [d, e] M) (QL zs M) := ⟨fun q => by rw [h.e, g.e]; exact zip_ll (by rw [k.e]; exact q)⟩
instance (priority := low) [h : TupV d xs] : Step (Ok (cTuple [d] M) Q) (Q d M) := ⟨fun q => by have := h.e; subst this; exact c_tupT q⟩
instance [h : TupV d xs] [s : Sh xs] {lo hi : Option Int} [g : CutIs xs lo hi ys] : Step (Ok (dSl mk lo hi d M) Q) (Q (.tup ys) M) := ⟨fun q => by have := h.e; subst this; have := g.e; subst this; exact dsl_tup s.le q⟩
instance (priority := high) {lo hi : Option Int} [g : CutIs xs lo hi ys] : Step (Ok (dSl mk lo hi (.lst xs) M) Q) (Ok (mk ys M) Q) := ⟨fun q => by have := g.e; subst this; exact dsl_lst q⟩
instance (priority := low) [h : TupV d xs] [s : Sh xs] {lo hi : Option Int} : Step (Ok (dSl mk lo hi d M) Q) (Q (.tup (cutD xs lo hi)) M) := ⟨fun q => by have := h.e; subst this; exact dsl_tup s.le q⟩
instance (priority := low) [h : TupV d xs] [g : TupV e ys] [s : Sh (xs ++ ys)] : Step (Ok (dAdd mk d e M) Q) (Q (.tup (xs ++ ys)) M) := ⟨fun q => by have := h.e; subst this; have := g.e; subst this; exact d_addT s.le q⟩
instance {zs : List D} [h : AppIs xs ys zs] [s : Sh zs] : Step (Ok (dAdd mk (.tup xs) (.tup ys) M) Q) (Q (.tup zs) M) := ⟨fun q => by
  have := s.le
  have e := h.e
  subst e
  exact d_addT this q⟩
instance {zs : List D} [h : AppIs xs ys zs] [s : Sh zs] : Step (Ok (dAdd mk (.lst xs) (.lst ys) M) Q) (Ok (mk zs M) Q) := ⟨fun q => by
  have := s.le
  have e := h.e
  subst e
  rw [List.length_append] at this
  exact d_addL this q⟩
instance {zs : List D} [k : CellIs M n xs] [h : AppIs xs ys zs] [s : Sh zs] : Step (Ok (dAdd mk (.loc n) (.lst ys) M) Q) (Ok (mk zs M) Q) := ⟨fun q => by
  have := s.le
  have e := h.e
  subst e
  rw [List.length_append] at this
  show Ok (match lstOf M (.loc n), some ys with | some xs, some ys => if xs.length + ys.length ≤ 16777216 then mk (xs ++ ys) M else .stuck | _, _ => .stuck) Q
  rw [show lstOf M (.loc n) = cellAt M n from rfl, k.c]
  show Ok (if xs.length + ys.length ≤ 16777216 then mk (xs ++ ys) M else .stuck) Q
  rw [if_pos this]; exact q⟩
instance [h : TupV d xs] : Step (Ok (cList mk [d] M) Q) (Ok (mk xs M) Q) := ⟨fun q => by have := h.e; subst this; exact q⟩
instance [h : LstV d xs] : Step (Ok (cList mk [d] M) Q) (Ok (mk xs M) Q) := ⟨fun q => by have := h.e; subst this; exact q⟩
instance (priority := low) [h : TupV d xs] {neg : Bool} : Step (Ok (dIs neg d .non M) Q) (Q (.bl neg) M) := ⟨fun q => by have := h.e; subst this; cases neg <;> exact q⟩
instance {neg : Bool} : Step (Ok (dIs neg .non .non M) Q) (Q (.bl (!neg)) M) := ⟨fun q => by cases neg <;> exact q⟩
instance [h : FoldB bs b'] : Step (Ok (cAll [.lst bs] M) Q) (Q (.bl b') M) := ⟨fun q => by
  have e := h.e
  obtain ⟨cs, e1, e2⟩ := e
  show Ok (match boolsOf bs with | some bs => Res.ok (.bl (bs.all id)) M | none => .stuck) Q
  rw [e1]
  show Q (.bl (cs.all id)) M
  rw [e2]; exact q⟩
instance {M' : Store} [h : Free d] [g : TakeIs M n M'] : Step (RunK n Q (.rt d, ρ) M) (Q d M') := ⟨fun q => runk_rt h.e (by rw [g.e]; exact q)⟩
instance {M' : Store} [g : TakeIs M n M'] : Step (RunK n Q (.nx, ρ) M) (Q .non M') := ⟨fun q => runk_nx (by rw [g.e]; exact q)⟩
instance {zs : List D} [h : ZipIs xs ys zs] : Step (ZipK QL [.lst xs, .lst ys] M) (QL zs M) := ⟨fun q => zip_ll (by rw [h.e]; exact q)⟩
instance {zs : List D} [h : ZipIs xs ys zs] : Step (ZipK QL [.tup xs, .tup ys] M) (QL zs M) := ⟨fun q => zip_tt (by rw [h.e]; exact q)⟩
instance : Step (R1K QL [.int 2] M) (QL [.int 0, .int 1] M) := ⟨fun q => r1k (j := 2) (by decide) (by decide) q⟩
instance : Step (R1K QL [.int 3] M) (QL [.int 0, .int 1, .int 2] M) := ⟨fun q => r1k (j := 3) (by decide) (by decide) q⟩
instance : Step (R1K QL [.int 4] M) (QL [.int 0, .int 1, .int 2, .int 3] M) := ⟨fun q => r1k (j := 4) (by decide) (by decide) q⟩
instance : Step (R1K QL [.int 6] M) (QL [.int 0, .int 1, .int 2, .int 3, .int 4, .int 5] M) := ⟨fun q => r1k (j := 6) (by decide) (by decide) q⟩
instance (priority := high) {k : Int} [h : LenI xs k] : Step (Ok (cLen [.tup xs] M) Q) (Q (.int k) M) := ⟨fun q => c_lenT (by rw [h.e]; exact q)⟩
instance (priority := high) {k : Int} [h : LenI xs k] : Step (Ok (cLen [.lst xs] M) Q) (Q (.int k) M) := ⟨fun q => c_lenL (by rw [h.e]; exact q)⟩
instance {k : Int} [h : TupV d xs] [g : LenI xs k] : Step (Ok (cLen [d] M) Q) (Q (.int k) M) := ⟨fun q => by have := h.e; subst this; exact c_lenT (by rw [g.e]; exact q)⟩
instance {k : Int} [h : LstV d xs] [g : LenI xs k] : Step (Ok (cLen [d] M) Q) (Q (.int k) M) := ⟨fun q => by have := h.e; subst this; exact c_lenL (by rw [g.e]; exact q)⟩
instance [h : CellIs M n xs] : Step (Ok (cLen [.loc n] M) Q) (Q (.int (xs.length : Nat)) M) := ⟨c_lenC h.c⟩
instance [h : CellIs M n xs] [g : IxL xs i d] : Step (Ok (dIx (.loc n) (.int i) M) Q) (Q d M) := ⟨d_ixC h.c g.e⟩
instance [h : CellIs M n xs] {lo hi : Option Int} : Step (Ok (dSl mk lo hi (.loc n) M) Q) (Ok (mk (cutD xs lo hi) M) Q) := ⟨dsl_loc h.c⟩
instance [h : CellIs M n xs] {a : DE} {R : Store → Prop} : Step (AppK a ρ R (.loc n) M) (Ok (a ρ M) (PushK n R)) := ⟨fun q => ⟨n, xs, rfl, h.c, q⟩⟩
instance {M' : Store} {zs : List D} {R : Store → Prop} [h : CellIs M n xs] [f : Free d] [s : Sh xs] [k : AppIs xs [d] zs] [g : CellSet M n (some zs) M'] : Step (PushK n R d M) (R M') := ⟨fun q => ⟨M', by
  unfold appAt
  rw [h.c]
  show (if locFree d = true ∧ xs.length < 16777216 then some (M.set n (some (xs ++ [d]))) else none) = _
  rw [if_pos ⟨f.e, Nat.lt_of_le_of_lt s.e (by decide)⟩, k.e, g.e], q⟩⟩
instance (priority := low) {M' : Store} {R : Store → Prop} [h : CellIs M n xs] [f : Free d] [s : Sh xs] [g : CellSet M n (some (xs ++ [d])) M'] : Step (PushK n R d M) (R M') := ⟨fun q => ⟨M', by
  unfold appAt
  rw [h.c]
  show (if locFree d = true ∧ xs.length < 16777216 then some (M.set n (some (xs ++ [d]))) else none) = _
  rw [if_pos ⟨f.e, Nat.lt_of_le_of_lt s.e (by decide)⟩, g.e], q⟩⟩
instance {M' : Store} {R : Store → Prop} {k : Nat} [h : CellIs M n xs] [f : Free d] [s : IxN xs i k] [g : CellSet M n (some (xs.set k d)) M'] : Step (SubK d R (.loc n) (.int i) M) (R M') := ⟨fun q => ⟨n, i, M', rfl, rfl, by
  unfold setAt
  rw [h.c]
  show (if locFree d = true then (L2.ixN xs.length i).map _ else none) = _
  rw [if_pos f.e, s.e]
  show some (M.set n (some (xs.set k d))) = _
  rw [g.e], q⟩⟩
instance : Step (RunLK Q (.rt d, ρ) M) (Q d M) := ⟨fun h => h⟩
instance {a : DE} : Step (Ok (mFz a ρ M) Q) (Ok (a ρ M) (FzK Q)) := ⟨fun h => w_fz h⟩
instance {M' : Store} [h : CellIs M n xs] [g : CellSet M n none M'] : Step (FzK Q (.loc n) M) (Q (.lst xs) M') := ⟨fun q => ⟨n, xs, rfl, h.c, by rw [g.e]; exact q⟩⟩
instance {M' : Store} {ρ' : Sl} {i : Nat} {a : DS} [At ρ i (.loc n)] [h : CellIs M n xs] [g : CellSet M n none M'] [SetS ρ i (some (.lst xs)) ρ'] : Step (Ok (mFzS i a ρ M) QS) (Ok (a ρ' M') QS) := ⟨fun q => w_fzS h.c (by rw [g.e]; exact q)⟩
end

section
variable {M0 : Store} {L k : Nat} {g : Nat → D} {d : D} {Q : D → Store → Prop}
theorem rl_take {t : Nat} (h : t ≤ L) : cutD (rl L g) none (some (t : Int)) = rl t g := by
  rw [cut_take]
  unfold rl
  rw [← List.map_take, List.take_range, Nat.min_eq_left h]
theorem ix_rl (hk : k < L) (q : Q (g k) (M0 ++ [some (rl L g)])) : Ok (dIx (.loc M0.length) (.int (k : Int)) (M0 ++ [some (rl L g)])) Q :=
  d_ixC (CellIs.c inferInstance) (rl_at hk) q
theorem sub_rl {R : Store → Prop} (hk : k < L) (hf : locFree d = true) (q : R (M0 ++ [some (rl L fun i => if i = k then d else g i)])) : SubK d R (.loc M0.length) (.int (k : Int)) (M0 ++ [some (rl L g)]) := by
  refine ⟨M0.length, (k : Int), M0 ++ [some (rl L fun i => if i = k then d else g i)], rfl, rfl, ?_, q⟩
  unfold setAt
  rw [CellIs.c (M := M0 ++ [some (rl L g)]) (n := M0.length) inferInstance]
  show (if locFree d = true then (L2.ixN (rl L g).length k).map _ else none) = _
  rw [if_pos hf, rl_len, show L2.ixN L (k : Int) = some k by unfold L2.ixN; rw [if_pos (by omega), if_pos (by omega)]; rfl]
  show some ((M0 ++ [some (rl L g)]).set M0.length (some ((rl L g).set k d))) = _
  rw [set_snoc, rl_set]
theorem range_split {p r : List Nat} {x n : Nat} (h : p ++ x :: r = List.range n) : x = p.length ∧ p.length < n := by
  have h1 : (p ++ x :: r).length = n := by rw [h, List.length_range]
  have h2 : p.length < n := by rw [List.length_append, List.length_cons] at h1; omega
  refine ⟨?_, h2⟩
  have h3 : (p ++ x :: r)[p.length]? = (List.range n)[p.length]? := by rw [h]
  rw [List.getElem?_append_right (Nat.le_refl _), Nat.sub_self, List.getElem?_range h2] at h3
  exact Option.some.inj h3
end
end DL

set_option Elab.async false
set_option linter.all false
set_option maxRecDepth 100000
set_option maxHeartbeats 4000000
namespace DL
open PySem PySem.Spec PyProof.Rows L2

/-! ### constants of the module, by one closed Bool -/
mutual
def kvB (K : PySem.W.Frag) : D → Value → Bool
  | .non, .none => true
  | .bl b, .bool c => b == c
  | .int i, .int j _ => decide (i = j)
  | .str x, .str y _ => decide (x = y)
  | .tup ds, .ref a => (match K.lookup a with
    | some ⟨.type c, _, .seq its _, _⟩ => decide (c = "tuple") && (decide (its.size ≤ sizeLine) && kvsB K ds its.toList)
    | _ => false)
  | .rol ds, .ref a => (match K.lookup a with
    | some ⟨.type c, none, .seq its _, _⟩ => decide (c = "list") && (decide (its.size ≤ sizeLine) && kvsB K ds its.toList)
    | _ => false)
  | _, _ => false
def kvsB (K : PySem.W.Frag) : List D → List Value → Bool
  | [], [] => true
  | d :: ds, u :: us => kvB K d u && kvsB K ds us
  | _, _ => false
end
theorem and2 {a b : Bool} (h : (a && b) = true) : a = true ∧ b = true := Bool.and_eq_true_iff.mp h
mutual
theorem kvB_ok {K : PySem.W.Frag} : ∀ {d : D} {u : Value}, kvB K d u = true → ∃ v, RelV v u ∧ ∀ H α M, Rep K H α M v d
  | .non, u, h => by
    cases u with
    | none => exact ⟨.non, rfl, fun _ _ _ => .non⟩
    | _ => rw [kvB] at h; cases h; all_goals (intros; contradiction)
  | .bl b, u, h => by
    cases u with
    | bool c =>
      rw [kvB] at h
      have e : b = c := by simpa using h
      subst e
      exact ⟨.bl b, rfl, fun _ _ _ => .bl b⟩
    | _ => rw [kvB] at h; cases h; all_goals (intros; contradiction)
  | .int i, u, h => by
    cases u with
    | int j t =>
      rw [kvB] at h
      have e := of_decide_eq_true h
      subst e
      exact ⟨.int i, ⟨t, rfl⟩, fun _ _ _ => .int i⟩
    | _ => rw [kvB] at h; cases h; all_goals (intros; contradiction)
  | .str x, u, h => by
    cases u with
    | str y t =>
      rw [kvB] at h
      have e := of_decide_eq_true h
      subst e
      exact ⟨.str x, ⟨t, rfl⟩, fun _ _ _ => .str x⟩
    | _ => rw [kvB] at h; cases h; all_goals (intros; contradiction)
  | .tup ds, u, h => by
    cases u with
    | ref a =>
      rw [kvB] at h
      split at h
      · rename_i c od its n sl e
        obtain ⟨h1, h2⟩ := and2 h
        obtain ⟨h2, h3⟩ := and2 h2
        obtain ⟨vs, r, q⟩ := kvsB_ok (K := K) h3
        exact ⟨.ref a, rfl, fun H α M => .tup (.inr ⟨_, its, n, e, congrArg Value.type (of_decide_eq_true h1), rfl, of_decide_eq_true h2, r⟩) (q H α M)⟩
      · cases h
    | _ => rw [kvB] at h; cases h; all_goals (intros; contradiction)
  | .rol ds, u, h => by
    cases u with
    | ref a =>
      rw [kvB] at h
      split at h
      · rename_i c its n sl e
        obtain ⟨h1, h2⟩ := and2 h
        obtain ⟨h2, h3⟩ := and2 h2
        obtain ⟨vs, r, q⟩ := kvsB_ok (K := K) h3
        exact ⟨.ref a, rfl, fun H α M => .rol (.inr ⟨_, its, n, e, congrArg Value.type (of_decide_eq_true h1), rfl, rfl, of_decide_eq_true h2, r⟩) (q H α M)⟩
      · cases h
    | _ => rw [kvB] at h; cases h; all_goals (intros; contradiction)
  | .lst ds, u, h => by
    rw [kvB] at h; cases h; all_goals (intros; contradiction)
  | .loc n, u, h => by
    rw [kvB] at h; cases h; all_goals (intros; contradiction)
theorem kvsB_ok {K : PySem.W.Frag} : ∀ {ds : List D} {us : List Value}, kvsB K ds us = true → ∃ vs, Vals vs us ∧ ∀ H α M, Reps K H α M vs ds
  | [], [], _ => ⟨[], .nil, fun _ _ _ => .nil⟩
  | d :: ds, u :: us, h => by
    rw [kvsB] at h
    obtain ⟨h1, h2⟩ := and2 h
    obtain ⟨v, r, q⟩ := kvB_ok h1
    obtain ⟨vs, rs, qs⟩ := kvsB_ok h2
    exact ⟨v :: vs, .cons r rs, fun H α M => .cons (q H α M) (qs H α M)⟩
  | [], _ :: _, h => by rw [kvsB] at h; cases h; all_goals (intros; contradiction)
  | _ :: _, [], h => by rw [kvsB] at h; cases h; all_goals (intros; contradiction)
end
def cstB (K : PySem.W.Frag) (x : Str) (d : D) : Bool := match PySem.W.nsIn K mainGlobals x with
  | some (some u) => kvB K d u
  | _ => false
theorem cst_ok {K : PySem.W.Frag} {h : Heap} {mg : Str → Option Value} {x : Str} {d : D} (X : K.In h) (G : h.Ns mainGlobals mg) (c : cstB K x d = true) : KRep K mg x d := by
  unfold cstB at c
  split at c
  · rename_i u e
    obtain ⟨v, r, q⟩ := kvB_ok c
    exact ⟨v, u, PySem.W.mg_of X G e, r, q⟩
  · cases c
def bltB (K : PySem.W.Frag) (x : Str) (u : Value) : Bool := decide (PySem.W.nsIn K mainGlobals x = some (some u))
theorem blt_ok {K : PySem.W.Frag} {h : Heap} {mg : Str → Option Value} {x : Str} {u : Value} (X : K.In h) (G : h.Ns mainGlobals mg) (c : bltB K x u = true) : mg x = some u :=
  PySem.W.mg_of X G (of_decide_eq_true c)

/-! ### the law's end -/
theorem run_law {Γ : GG} {k : Nat} {fa a : Addr} {fd : FuncData} {x : Str} {f : DF} {mb : Str → Option Value} {s1 : Shared} {vs : List Value} {ns : List Int} {H : Hp}
    (hF : FnG Γ k fa fd [x] (spD Γ.K 1 f)) (hr : Room k callerA) (hbind : ∀ (s : Shared) (u : Value), BindsTo s fd ⟨[u], []⟩ [(x, u)])
    (e0 : Env0 Γ.P Γ.w Γ.K Γ.mg Γ.base callerA [] s1 H) (hH : ∀ b o, H b = some o → ∃ ob xs, o = .frz ob (.lst xs)) (hk : ∀ b o, s1.heap.get? b = some o → H b = none → b ∉ frs [] → Γ.base.get? b = some o ∨ True)
    (hR : RolAt Γ.K H ⟨[], []⟩ [] a (ns.map V.int)) (hf : f [.rol (ns.map D.int)] [] = .ok (.bl true) []) :
    codeAny (model Γ.P Γ.w) callerA (.call (.ref fa) ⟨[.ref a], []⟩) (fun r s' => r = .ok (.ret (.bool true)) ∧ OldK s1.heap s'.heap ∧ s'.os = s1.os ∧ AllBare s'.gens) s1 := by
  have hints : ∀ l : List Int, Reps Γ.K H ⟨[], []⟩ [] (l.map V.int) (l.map D.int) := fun l => by
    induction l with
    | nil => exact .nil
    | cons i l ih => exact .cons (.int i) ih
  have w0 : WOk Γ.K H ⟨[], []⟩ [] := ⟨rfl, fun n ds h => by simp at h, fun n m b ds es h => by simp at h, fun n b ds h => by simp at h, fun b h => by simp at h⟩
  have sp : spD Γ.K 1 f [.ref a] H (fun v _ => v = .bl true) fun _ _ _ => False :=
    ⟨rfl, ⟨[], []⟩, [], _, w0, .cons (.rol hR (hints ns)) .nil, by rw [hf]; intro H' α' _ _ v rv; cases rv; rfl⟩
  refine codeAny_mono (hF.run callerA [] s1 H ⟨[.ref a], []⟩ [.ref a] [.ref a] _ _ hr rfl e0 (hbind s1 (.ref a)) (.cons rfl .nil) sp) fun r s' h => ?_
  match r, h with
  | .error e, h =>
    obtain ⟨_, _, _, _, _, _, _, _, _, _, _, _, z⟩ := h
    exact z.elim
  | .ok (.ret u), ⟨v, H', os, bare, un, hok', rv, q⟩ =>
    have q : v = .bl true := q
    subst q
    obtain rfl : u = Value.bool true := rv
    refine ⟨rfl, OldK.of_keep fun b o e => ?_, os, bare⟩
    cases z : H b with
    | none => exact un.keep b o e z (fun t => absurd (show b ∈ ([] : List Addr) from t) (by simp)) (fun t => absurd (show b ∈ ([] : List Addr) from t) (by simp))
    | some ho =>
      obtain ⟨ob, xs, rfl⟩ := hH b ho z
      have e1 := (e0.hok b _ z).1
      have e2 := (hok' b _ (un.frzs b ob _ z)).1
      rw [e] at e1
      cases e1
      exact e2
theorem law_callG {P : Program} {w : World} {K : PySem.W.Frag} {mg mb : Str → Option Value} {k : Nat} {fa a : Addr} {fd : FuncData} {x : Str} {f : DF} {s1 : Shared} {vs : List Value} {ns : List Int}
    (KX : K.In s1.heap) (hns : s1.heap.Ns mainGlobals mg) (hb : s1.heap.Ns builtinsNs mb) (hbb : ∀ x : Str, x ≠ "__name__" → mb x = bootBuiltins x) (hlim : s1.heap.NoLimit) (hg : s1.gens = #[])
    (ha : s1.heap.get? a = some { cls := .type "list", data := .seq vs.toArray }) (hi : IntsAre vs ns) (hl : ns.length ≤ sizeLine) (hr : Room k callerA)
    (F : ∀ base : Heap, K.In base → base.Ns mainGlobals mg → FnG ⟨P, w, K, mg, base⟩ k fa fd [x] (spD K 1 f)) (hbind : ∀ (s : Shared) (u : Value), BindsTo s fd ⟨[u], []⟩ [(x, u)])
    (hf : f [.rol (ns.map D.int)] [] = .ok (.bl true) []) :
    codeAny (model P w) callerA (.call (.ref fa) ⟨[.ref a], []⟩) (fun r s' => r = .ok (.ret (.bool true)) ∧ OldK s1.heap s'.heap ∧ s'.os = s1.os ∧ AllBare s'.gens) s1 := by
  have rv := vals_ints hi
  have lenV := hi.length
  have noOwn : ∀ b : Addr, ¬ Own ⟨[], []⟩ [] b := fun b z => by
    rcases z with ⟨n, ds, z, _⟩ | z
    · simp at z
    · simp at z
  cases hk : K.lookup a with
  | some o =>
    have e := KX a o hk
    rw [ha] at e
    cases e
    let H : Hp := fun _ => none
    have g1 : ∀ {b : Addr} {o : Obj}, s1.heap.get? b = some o → (hidT s1.heap H).get? b = some o := fun q => hidT_get q rfl
    have nsK : ∀ {b : Addr} {m : Str → Option Value}, s1.heap.Ns b m → (hidT s1.heap H).Ns b m := fun {b m} ⟨o, es, ep, q, d, r⟩ => ⟨o, es, ep, g1 q, d, r⟩
    have hKb : K.In (hidT s1.heap H) := fun b o q => g1 (KX b o q)
    have hM : Mod K mg (hidT s1.heap H) := ⟨hKb, nsK hns, ⟨mb, nsK hb, hbb⟩, let ⟨mc, h1, h2⟩ := hlim; ⟨mc, nsK h1, h2⟩⟩
    have e0 : Env0 P w K mg (hidT s1.heap H) callerA [] s1 H := ⟨rfl, hM, fun b o q => of_hidT q, Nat.le_of_eq (hidT_size _ _), trivial, fun b z => absurd (show b ∈ ([] : List Addr) from z) (by simp), fun b u z => absurd (show (none : Option HO) = some u from z) (by simp), AllBare.of_eq hg⟩
    exact run_law (mb := mb) (vs := vs) (Γ := ⟨P, w, K, mg, hidT s1.heap H⟩) (F _ hKb (nsK hns)) hr hbind e0 (fun b o z => absurd (show (none : Option HO) = some o from z) (by simp)) (fun _ _ _ _ _ => .inr trivial)
      (.inr ⟨_, vs.toArray, _, hk, rfl, rfl, rfl, by rw [List.size_toArray, lenV]; exact hl, by simpa using rv⟩) hf
  | none =>
    let H : Hp := fun b => if b = a then some (.frz { cls := .type "list", data := .seq vs.toArray } (.lst (ns.map V.int))) else none
    have Ha : H a = some (.frz { cls := .type "list", data := .seq vs.toArray } (.lst (ns.map V.int))) := if_pos rfl
    have Hn : ∀ {b}, b ≠ a → H b = none := fun h => if_neg h
    have g1 : ∀ {b : Addr} {o : Obj}, b ≠ a → s1.heap.get? b = some o → (hidT s1.heap H).get? b = some o := fun n q => hidT_get q (Hn n)
    have na : ∀ {b : Addr} {o : Obj} {es : Array DictEntry} {ep : Nat}, s1.heap.get? b = some o → o.data = .dict es ep → b ≠ a := fun {b o es ep} q d z => by
      rw [z, ha] at q
      cases q
      have d : Data.seq vs.toArray _ = Data.dict es ep := d
      cases d
    have nsK : ∀ {b : Addr} {m : Str → Option Value}, s1.heap.Ns b m → (hidT s1.heap H).Ns b m := fun {b m} ⟨o, es, ep, q, d, r⟩ => ⟨o, es, ep, g1 (na q d) q, d, r⟩
    have hKb : K.In (hidT s1.heap H) := fun b o q => g1 (fun z => by rw [z, hk] at q; cases q) (KX b o q)
    have hM : Mod K mg (hidT s1.heap H) := ⟨hKb, nsK hns, ⟨mb, nsK hb, hbb⟩, let ⟨mc, h1, h2⟩ := hlim; ⟨mc, nsK h1, h2⟩⟩
    have hok : HOk P w H s1.heap := fun b u z => by
      by_cases n : b = a
      · subst n
        rw [Ha] at z
        cases z
        exact ⟨ha, by rw [List.length_map]; exact hl, vs, _, rv, ha⟩
      · rw [Hn n] at z; cases z
    have e0 : Env0 P w K mg (hidT s1.heap H) callerA [] s1 H := ⟨rfl, hM, fun b o q => of_hidT q, Nat.le_of_eq (hidT_size _ _), trivial, fun b z => absurd (show b ∈ ([] : List Addr) from z) (by simp), hok, AllBare.of_eq hg⟩
    exact run_law (mb := mb) (vs := vs) (Γ := ⟨P, w, K, mg, hidT s1.heap H⟩) (F _ hKb (nsK hns)) hr hbind e0 (fun b o z => by
      by_cases n : b = a
      · subst n; rw [Ha] at z; cases z; exact ⟨_, _, rfl⟩
      · rw [Hn n] at z; cases z) (fun _ _ _ _ _ => .inr trivial) (.inl ⟨⟨_, Ha⟩, noOwn a⟩) hf
/-- the promise of the law's def over every base gives the walk -/
theorem walk_ofG {l : PySem.W.OpenLaw} {n k : Nat} {q : Program} {loose : List Str} {XP : (Str → Option Value) → Heap → Prop} {YP : World → Heap → Prop} {d : DefRec} {x : Str} {f : DF}
    (hn : l.most = some n) (hn2 : n ≤ sizeLine) (hdf : d.params.defaults = []) (hr : Room k callerA)
    (F : ∀ (w : World) (mg : Str → Option Value) (fa : Addr) (h : Heap), YP w h → h.Ns mainGlobals mg → mg d.name = some (.ref fa) →
      ∃ (K : PySem.W.Frag) (fd : FuncData), K.In h ∧ (∀ (s : Shared) (u : Value), BindsTo s fd ⟨[u], []⟩ [(x, u)]) ∧
        ∀ base : Heap, K.In base → base.Ns mainGlobals mg → FnG ⟨l.prog, w, K, mg, base⟩ k fa fd [x] (spD K 1 f))
    (hf : ∀ ns : List Int, ns.length ≤ n → f [.rol (ns.map D.int)] [] = .ok (.bl true) []) :
    PySem.W.WalkO q loose XP YP l.row.toRowW d [] (fun f vs => PySem.call f vs) := by
  refine Att.attach_call hn hdf fun w s₀ s₁ mg mb fa o pm cd doc a vs ns G Y ho hd hcd hmg hobj hints hlen hg => ?_
  obtain ⟨K, fd, KX, hb, hF⟩ := F w mg fa _ Y G.T.g hmg
  exact law_callG KX G.T.g G.T.b G.T.builtins G.T.nolimit hg hobj hints (Nat.le_trans hlen hn2) hr hF hb (hf ns hlen)
end DL
namespace DL
open PySem PySem.Spec PyProof.Rows L2
theorem fd_eq {K : PySem.W.Frag} {x qual x' qual' : Str} {params params' : Arguments} {body body' : List Stmt} {scope scope' : Scope} {dvs dvs' : List V} {kws kws' : List (Str × V)} {f : Addr} {fd fd' : FuncData}
    (F : FunD K x qual params body scope dvs kws f fd) (F' : FunD K x' qual' params' body' scope' dvs' kws' f fd') : fd = fd' := by
  obtain ⟨_, _, _, _, _, _, _, _, _, _, _, l1, _⟩ := F.ex
  obtain ⟨_, _, _, _, _, _, _, _, _, _, _, l2, _⟩ := F'.ex
  rw [l1] at l2
  cases l2
  rfl
end DL

set_option Elab.async false
set_option linter.all false
set_option maxRecDepth 100000
set_option maxHeartbeats 4000000
namespace DL
open PySem PySem.Spec PyProof.Rows L2
/-! ### sorted(xs, key=f), f a def of the text -/
section
variable {X : Cx} {pins : List (Addr × Obj)} {σ : L2.St} {H : Hp} {s : Shared} {h' : Heap} {a kS : Addr} {o o' : Obj} {A : Around}
/-- an own record that nothing tracks -/
structure OwnRec (X : Cx) (pins : List (Addr × Obj)) (a : Addr) : Prop where
  new : X.s_0.heap.objs.size ≤ a
  loc : a ≠ X.env.locals
  fs : a ∉ X.fs
  cel : ∀ x c, X.env.cells.lookup x = some c → c ≠ a
  pin : ∀ p ∈ X.pn ++ pins, p.1 ≠ a
theorem ownRec_of (I : Inv X pins σ H s) (h : s.heap.objs.size ≤ a) : OwnRec X pins a := by
  refine ⟨Nat.le_trans I.sz h, fun e => ?_, I.nofs h, fun x c e z => ?_, fun p hp z => ?_⟩
  · exact absurd I.lt (Nat.not_lt.mpr (by rw [← e]; exact h))
  · obtain ⟨v, o, ho, _⟩ := I.cell x c e
    exact absurd (Heap.lt_size ho) (Nat.not_lt.mpr (by rw [z]; exact h))
  · exact absurd (Heap.lt_size (I.pin p hp).1) (Nat.not_lt.mpr (by rw [z]; exact h))
theorem OwnRec.drop {p : Addr × Obj} (R : OwnRec X (p :: pins) a) : OwnRec X pins a :=
  ⟨R.new, R.loc, R.fs, R.cel, fun q hq => R.pin q (by rcases List.mem_append.mp hq with h | h; exact List.mem_append_left _ h; exact List.mem_append_right _ (List.mem_cons_of_mem _ h))⟩
theorem OwnRec.more {p : Addr × Obj} (R : OwnRec X pins a) (h : p.1 ≠ a) : OwnRec X (p :: pins) a :=
  ⟨R.new, R.loc, R.fs, R.cel, fun q hq => by
    rcases List.mem_append.mp hq with z | z
    · exact R.pin q (List.mem_append_left _ z)
    · rcases List.mem_cons.mp z with z | z
      · rw [z]; exact h
      · exact R.pin q (List.mem_append_right _ z)⟩
theorem Inv.unpin {p : Addr × Obj} (I : Inv X (p :: pins) σ H s) : Inv X pins σ H s := I.pins_of fun q hq => I.pin q (List.mem_append_right _ (List.mem_cons_of_mem _ hq))
theorem Inv.top {p : Addr × Obj} (I : Inv X (p :: pins) σ H s) : s.heap.get? p.1 = some p.2 ∧ H p.1 = none := by
  have := I.pin p (List.mem_append_right _ List.mem_cons_self)
  exact ⟨this.1, this.2.1⟩
theorem Inv.repin {t' : Nat} (I : Inv X ((a, o) :: pins) σ H s) (R : OwnRec X pins a) (hs : Heap.SameBut a s.heap h') (ho : h'.get? a = some o') (hd : ∀ v, o'.data ≠ .cell v) : Inv X ((a, o') :: pins) σ H { s with heap := h', toks := t' } := by
  have T : Inv X pins σ H { s with heap := h', toks := t' } := (Inv.unpin I).turned (it := a) (fun b u hb e => (hs.2 b hb).trans e) (Inv.top I).2 R.loc (.inr R.new) R.cel R.pin
  refine T.pins_of fun p hp => ?_
  rcases List.mem_cons.mp hp with rfl | hp
  · exact ⟨ho, (Inv.top I).2, R.loc, R.fs, hd⟩
  · exact T.pin p (List.mem_append_right _ hp)
/-- a record is pinned -/
theorem Inv.dopin (I : Inv X pins σ H s) (R : OwnRec X pins a) (ho : s.heap.get? a = some o) (hn : H a = none) (hd : ∀ v, o.data ≠ .cell v) : Inv X ((a, o) :: pins) σ H s :=
  I.pins_of fun p hp => by
    rcases List.mem_cons.mp hp with rfl | hp
    · exact ⟨ho, hn, R.loc, R.fs, hd⟩
    · exact I.pin p (List.mem_append_right _ hp)
/-- two pins, the other way round -/
theorem Inv.flip {p q : Addr × Obj} (I : Inv X (p :: q :: pins) σ H s) : Inv X (q :: p :: pins) σ H s :=
  I.pins_of fun r hr => I.pin r (List.mem_append_right _ (by
    rcases List.mem_cons.mp hr with z | z
    · rw [z]; exact List.mem_cons_of_mem _ List.mem_cons_self
    · rcases List.mem_cons.mp z with z | z
      · rw [z]; exact List.mem_cons_self
      · exact List.mem_cons_of_mem _ (List.mem_cons_of_mem _ z)))
/-- a pinned list is tracked from now on -/
theorem Inv.track {its : List Value} {n : Nat} {xs : List V} (I : Inv X ((a, seqObj "list" its.toArray n) :: pins) σ H s) (R : OwnRec X pins a) (r : Vals xs its) (hz : xs.length ≤ sizeLine) : Inv X pins σ (upd H a (.lst xs)) s := by
  obtain ⟨g, hn⟩ := Inv.top I
  have J := Inv.unpin I
  have ne : ∀ {b : Addr} {u : HO}, H b = some u → b ≠ a := fun e z => by rw [z, hn] at e; cases e
  exact J.step (h' := s.heap) (g' := s.gens) (t' := s.toks) (d' := s.drawn) (ch := [a]) (fun b hb => by
      obtain rfl := List.mem_singleton.mp hb
      exact ⟨.inr R.new, R.loc, R.cel, R.pin⟩) (fun b u _ _ _ e _ => e) (fun b u _ _ _ e _ => ⟨u.slots, e⟩) (fun b u hb _ e => by rw [upd_ne (fun z => hb (by rw [z]; exact List.mem_singleton.mpr rfl))]; exact e)
    (fun b u _ e => ⟨u, e⟩) (fun b xs e => by rw [upd_ne (ne e)]; exact e) (fun b u v e => by rw [upd_ne (ne e)]; exact e) (fun b ps e => ⟨#[], by rw [upd_ne (ne e), e]; simp⟩) (fun m hm => hm)
    (fun b u e => by
      by_cases hb : b = a
      · subst hb
        rw [upd_same] at e
        cases e
        exact ⟨hz, its, n, r, g⟩
      · rw [upd_ne hb] at e
        exact (J.hok b u e).stay (fun c v _ q => q) (fun c q => by rw [upd_ne (ne q)]; exact q) fun c xs q => by rw [upd_ne (ne q)]; exact q) J.bare
section
variable {E : Value → Shared → Prop} {P : PySem.Fin → Shared → Prop} {keys : Array Value} {e e1 : Nat} {vs : List Value} {kz : List Int}
theorem noCell {xs : Array Value} {n : Nat} : ∀ v, (seqObj "list" xs n).data ≠ .cell v := fun v z => by cases z
theorem tailK {st : SortSt} (I : Inv X ((kS, seqObj "list" keys e) :: (a, seqObj "list" #[] e1) :: pins) σ H s) (hka : kS ≠ a) (Rk : OwnRec X pins kS) (Ra : OwnRec X pins a) (hk : keys.size ≤ sizeLine) (ho : (arrOf st).size ≤ sizeLine) (hfl : failedOf st = none)
    (h : ∀ h' tk c, Inv X ((a, seqObj "list" ((arrOf st).map (·.2)) c) :: pins) σ H { s with heap := h', toks := tk } → P (.done (.ret .none)) { s with heap := h', toks := tk }) : wpAny (model X.prog X.w) A (ksk_tail a false e1 (.ref kS) st) P E s := by
  obtain ⟨gk, nk⟩ := Inv.top I
  obtain ⟨ga, na⟩ := Inv.top (Inv.unpin I)
  have s1 := Heap.SameBut.update s.heap kS (Obj.mapSeq fun _ => (#[] : Array Value))
  have ga1 : (s.heap.update kS (Obj.mapSeq fun _ => (#[] : Array Value))).get? a = some (seqObj "list" #[] e1) := (s1.2 a hka.symm).trans ga
  obtain ⟨c1, gk1⟩ : ∃ c1, (s.heap.update kS (Obj.mapSeq fun _ => (#[] : Array Value))).get? kS = some (seqObj "list" #[] c1) := ⟨_, get?_update_seq gk fun _ => #[]⟩
  have I1 := Inv.repin (t' := s.toks) I (Rk.more (Ne.symm hka)) s1 gk1 noCell
  have s2 := Heap.SameBut.update (s.heap.update kS (Obj.mapSeq fun _ => (#[] : Array Value))) a (Obj.mapSeq fun _ => (arrOf st).map (·.2))
  obtain ⟨c2, ga2⟩ : ∃ c2, ((s.heap.update kS (Obj.mapSeq fun _ => (#[] : Array Value))).update a (Obj.mapSeq fun _ => (arrOf st).map (·.2))).get? a = some (seqObj "list" ((arrOf st).map (·.2)) c2) := ⟨_, get?_update_seq ga1 fun _ => (arrOf st).map (·.2)⟩
  unfold ksk_tail
  try dsimp only
  refine wpAny_bind (listUpdate_at gk rfl ?_ hk (Nat.zero_le _))
  refine wpAny_bind (wpAny_letGo (wpAny_bind (seqEpoch_at ga1 rfl ?_)))
  refine wpAny_bind (listUpdate_at ga1 rfl ?_ (Nat.zero_le _) (Nat.le_trans (Nat.le_of_eq (Array.size_map ..)) (Nat.le_trans ho (Nat.le_succ _))))
  rw [hfl]
  simp only [bne_self_eq_false, Bool.false_eq_true, if_false]
  have I2 := Inv.repin (t' := s.toks) (Inv.unpin I1) Ra s2 ga2 noCell
  exact wpAny_pure (h _ _ c2 I2)
theorem endK (I : Inv X ((kS, seqObj "list" keys e) :: (a, seqObj "list" #[] e1) :: pins) σ H s) (hka : kS ≠ a) (Rk : OwnRec X pins kS) (Ra : OwnRec X pins a) (hk : IntsAre keys.toList kz) (hlen : kz.length = vs.length) (hZ : vs.length ≤ sizeLine)
    (h : ∀ h' tk out c, Inv X ((a, seqObj "list" out c) :: pins) σ H { s with heap := h', toks := tk } → KskOutSt false kz vs out.toList → P (.done (.ret .none)) { s with heap := h', toks := tk }) : wpAny (model X.prog X.w) A (ksk_end a false vs.toArray e1 (.ref kS) keys) P E s := by
  have hsz : keys.size = vs.length := by
    have h1 := hk.length
    rw [Array.length_toList] at h1
    omega
  have hzs : (keys.zip vs.toArray).size = vs.length := by rw [Array.size_zip, hsz, List.size_toArray, Nat.min_self]
  have big : (8388608 : Nat) ≤ sizeLine := by rw [sizeLine_eq]; decide
  unfold ksk_end
  try dsimp only
  rw [if_neg Bool.false_ne_true]
  by_cases h2 : vs.toArray.size < 2
  · rw [if_pos h2, if_pos h2]
    refine wpAny_bind (wpAny_pure ?_)
    rw [StateT.run_pure]
    refine wpAny_bind (wpAny_pure ?_)
    try dsimp only
    refine tailK (st := SortSt.mk' general' (keys.zip vs.toArray) #[] 7 none) I hka Rk Ra (by rw [hsz]; exact hZ) (by show (keys.zip vs.toArray).size ≤ _; rw [hzs]; exact hZ) rfl fun h' tk c J => h h' tk _ c J ?_
    refine ksk_outSt (b := false) hk (Array.Perm.refl _) ?_ (Stable.refl _)
    intro i j hij hj
    have hj2 : j < (keys.zip vs.toArray).size := hj
    rw [hzs] at hj2
    rw [List.size_toArray] at h2
    obtain rfl : i = j := by omega
    exact Int.le_refl _
  · rw [if_neg h2, if_neg h2]
    rw [List.size_toArray] at h2
    rw [ksk_kind hk (by rw [hsz]; omega)]
    refine wpAny_bind (wpAny_pure ?_)
    refine wpAny_bind (wpAny_mono (wpS_sortRunsSt (κ := intKind) (a₀ := keys.zip vs.toArray) (st := SortSt.mk' oneType' (keys.zip vs.toArray) #[] 7 none)
      (Q := fun _ st' => (arrOf st').Perm (keys.zip vs.toArray) ∧ failedOf st' = none ∧ SortedTo (arrOf st') (arrOf st').size ∧ Stable intKind (arrOf st') (keys.zip vs.toArray))
      intKind_oneLt (ksk_keysOfInt (ksk_intKeys hk)) ⟨Array.Perm.refl _, rfl, rfl⟩ rfl (Stable.refl _) (by rw [hzs]; rw [sizeLine_eq] at hZ; omega)
      fun st' a1 a2 a3 a4 => ⟨a1, a2, by rw [a1.size_eq]; exact sortedTo_of_int a3, a4⟩) ?_ fun _ _ e => e)
    rintro ⟨⟨⟩, st'⟩ s' ⟨rfl, hp, hf, hs, hst⟩
    try dsimp only
    exact tailK I hka Rk Ra (by rw [hsz]; exact hZ) (by rw [hp.size_eq, hzs]; exact hZ) hf fun h' tk c J => h h' tk _ c J (ksk_outSt (b := false) hk hp hs hst)
/-- the keys, one by one, then the sort -/
theorem restK {f : Value} {xs : List V} (J : Nat → Hp → Prop) (I : Inv X ((kS, seqObj "list" #[] 0) :: (a, seqObj "list" #[] e1) :: pins) σ H s) (hJ : J 0 H) (hka : kS ≠ a) (Rk : OwnRec X pins kS) (Ra : OwnRec X pins a) (rv : Vals xs vs) (hlen : kz.length = vs.length) (hZ : vs.length ≤ sizeLine)
    (turn : ∀ (i : Nat) (u : Value) (k : Int), vs[i]? = some u → kz[i]? = some k → ∀ (H' : Hp) (s' : Shared) (pins' : List (Addr × Obj)), Inv X pins' σ H' s' → J i H' →
      wpAny (model X.prog X.w) A (call f [u]) (fun v s'' => ∃ H'' t, v = .int k t ∧ Inv X pins' σ H'' s'' ∧ J (i + 1) H'') (fun _ _ => False) s')
    (h : ∀ s' H' out c, Inv X ((a, seqObj "list" out c) :: pins) σ H' s' → J vs.length H' → KskOutSt false kz vs out.toList → P (.done (.ret .none)) s') : wpAny (model X.prog X.w) A (ksk_rest a f false vs.toArray e1 (.ref kS)) P E s := by
  have hZ2 := hZ
  rw [sizeLine_eq] at hZ2
  unfold ksk_rest
  refine wpAny_bind (wpAny_rule ?_)
  first
    | rw [List.forIn_toArray]
    | (rw [← Array.forIn_toList]; simp only [List.toList_toArray])
    | rw [← Array.forIn_toList]
  refine wpAny_bind (ksk_fold (fun i s' => ∃ H' kA c, Inv X ((kS, seqObj "list" kA c) :: (a, seqObj "list" #[] e1) :: pins) σ H' s' ∧ J i H' ∧ IntsAre kA.toList (kz.take i)) vs 0 s ⟨H, #[], 0, I, hJ, by simpa using IntsAre.nil⟩ (fun j x s' hx hI => ?_) fun s' hI => ?_)
  · obtain ⟨H', kA, c, I', hJ', hk⟩ := hI
    simp only [Nat.zero_add] at hk hJ' ⊢
    have hj : j < vs.length := (List.getElem?_eq_some_iff.mp hx).1
    obtain ⟨k, hkj⟩ : ∃ k, kz[j]? = some k := ⟨_, List.getElem?_eq_getElem (by omega)⟩
    have hz : kA.size ≤ vs.length := by
      have h1 := hk.length
      rw [Array.length_toList, List.length_take] at h1
      omega
    refine wpAny_bind (wpAny_attempt (wpAny_mono (turn j x k hx hkj H' s' _ I' hJ') (fun v s'' he => ?_) fun _ _ hF => hF.elim))
    obtain ⟨H2, t2, rfl, I2, hJ2⟩ := he
    try dsimp only
    have gk := (Inv.top I2).1
    have s1 := Heap.SameBut.update s''.heap kS (Obj.mapSeq (·.push (.int k t2)))
    obtain ⟨c2, hc2⟩ : ∃ c2, (s''.heap.update kS (Obj.mapSeq (·.push (.int k t2)))).get? kS = some (seqObj "list" (kA.push (.int k t2)) c2) := ⟨_, get?_update_seq gk (·.push (.int k t2))⟩
    refine wpAny_bind (listUpdate_at gk rfl ?_ (by rw [sizeLine_eq]; omega) (Nat.le_trans (Nat.le_of_eq (Array.size_push ..)) (by rw [sizeLine_eq]; omega)))
    refine wpAny_pure ⟨rfl, H2, kA.push (.int k t2), c2, Inv.repin (t' := s''.toks) I2 (Rk.more (Ne.symm hka)) s1 hc2 noCell, hJ2, ?_⟩
    rw [show (kA.push (Value.int k t2)).toList = kA.toList ++ [Value.int k t2] by simp, show kz.take (j + 1) = kz.take j ++ [k] by rw [List.take_add_one, hkj]; simp]
    exact ksk_snoc hk
  · obtain ⟨H', kA, c, I', hJ', hk⟩ := hI
    rw [Nat.zero_add] at hJ' hk
    rw [List.take_of_length_le (by omega)] at hk
    try dsimp only
    refine wpAny_bind (listItems_at (Inv.top I').1 rfl ?_)
    exact endK I' hka Rk Ra hk hlen hZ fun h3 tk3 out c J3 k3 => h _ H' out c J3 hJ' k3
theorem sortK {f : Value} {xs : List V} {n : Nat} (J : Nat → Hp → Prop) (I : Inv X pins σ H s) (hJ : J 0 H) (ho : s.heap.get? a = some (seqObj "list" vs.toArray n)) (hn : H a = none) (Ra : OwnRec X pins a) (rv : Vals xs vs) (hlen : kz.length = vs.length) (hZ : vs.length ≤ sizeLine)
    (turn : ∀ (i : Nat) (u : Value) (k : Int), vs[i]? = some u → kz[i]? = some k → ∀ (H' : Hp) (s' : Shared) (pins' : List (Addr × Obj)), Inv X pins' σ H' s' → J i H' →
      wpAny (model X.prog X.w) A (call f [u]) (fun v s'' => ∃ H'' t, v = .int k t ∧ Inv X pins' σ H'' s'' ∧ J (i + 1) H'') (fun _ _ => False) s')
    (h : ∀ s' H' out c, Inv X ((a, seqObj "list" out c) :: pins) σ H' s' → J vs.length H' → KskOutSt false kz vs out.toList → P (.done (.ret .none)) s') : wpAny (model X.prog X.w) A (ksk_tree a f false) P E s := by
  have I0 := Inv.dopin I Ra ho hn noCell
  have s1 := Heap.SameBut.update s.heap a (Obj.mapSeq fun _ => (#[] : Array Value))
  obtain ⟨e1, ho1⟩ : ∃ e1, (s.heap.update a (Obj.mapSeq fun _ => (#[] : Array Value))).get? a = some (seqObj "list" #[] e1) := ⟨_, get?_update_seq ho fun _ => #[]⟩
  have I1 := Inv.repin (t' := s.toks) I0 Ra s1 ho1 noCell
  have I2 : Inv X ((a, seqObj "list" #[] e1) :: pins) σ H { s with heap := ((s.heap.update a (Obj.mapSeq fun _ => (#[] : Array Value))).push (seqObj "tuple" vs.toArray 0)).push (seqObj "list" #[] 0) } :=
    I1.kept (t' := s.toks) fun b u e => Heap.get?_push_of_some _ (Heap.get?_push_of_some _ e)
  have szk : (s.heap.update a (Obj.mapSeq fun _ => (#[] : Array Value))).objs.size ≤ ((s.heap.update a (Obj.mapSeq fun _ => (#[] : Array Value))).push (seqObj "tuple" vs.toArray 0)).objs.size := by rw [size_push']; exact Nat.le_succ _
  have Rk := ownRec_of I1 szk
  have I3 := Inv.dopin I2 Rk (o := seqObj "list" #[] 0) (Heap.get?_push_size _ rfl) (I1.hok.fresh szk) noCell
  have hka : ((s.heap.update a (Obj.mapSeq fun _ => (#[] : Array Value))).push (seqObj "tuple" vs.toArray 0)).objs.size ≠ a := fun z => Rk.pin (a, seqObj "list" #[] e1) (List.mem_append_right _ List.mem_cons_self) z.symm
  unfold ksk_tree
  refine wpAny_bind (listItems_at ho rfl ?_)
  refine wpAny_bind (listUpdate_at ho rfl ?_ (by rw [List.size_toArray]; exact hZ) (Nat.zero_le _))
  refine wpAny_bind (seqEpoch_at ho1 rfl (wpAny_bind (wpAny_newTuple ?_ (by show vs.length ≤ _; exact hZ))))
  refine wpAny_bind (wpAny_newList (wpAny_holding ?_) (Nat.zero_le _))
  exact restK J I3 hJ hka Rk.drop Ra rv hlen hZ turn h
/-- sorted(l, key=f) -/
theorem sortedK_run {f : Addr} {xs : List V} {l : Addr} {Q : Value → Shared → Prop} (J : Nat → Hp → Prop) (I : Inv X pins σ H s) (hJ : J 0 H) (hl : s.heap.IsList l vs.toArray) (rv : Vals xs vs) (hlen : kz.length = vs.length) (hZ : vs.length ≤ sizeLine)
    (turn : ∀ (i : Nat) (u : Value) (k : Int), vs[i]? = some u → kz[i]? = some k → ∀ (H' : Hp) (s' : Shared) (pins' : List (Addr × Obj)), Inv X pins' σ H' s' → J i H' →
      wpAny (model X.prog X.w) A.in1.in1 (call (.ref f) [u]) (fun v s'' => ∃ H'' t, v = .int k t ∧ Inv X pins' σ H'' s'' ∧ J (i + 1) H'') (fun _ _ => False) s')
    (h : ∀ s' H' D out c, Inv X ((D, seqObj "list" out c) :: pins) σ H' s' → OwnRec X pins D → J vs.length H' → KskOutSt false kz vs out.toList → Q (.ref D) s') : wpAny (model X.prog X.w) A (call (.builtin "sorted") [.ref l] [(Str.ofString "key", .ref f)]) Q E s := by
  refine call_function_entry_kw kind_sorted plain_sorted entry_sorted (ksk_s1 _ _) ?_
  unfold Builtin.«sorted»
  refine wpAny_bind (m := checkCount "sorted" 1 1 _) (wpAny_pure (wpAny_bind (collect_list hl ?_ hZ)))
  refine wpAny_bind (wpAny_newList ?_ hZ)
  have hsz : ((s.heap.push (seqObj "list" #[] 0)).update s.heap.objs.size (Obj.mapSeq (· ++ vs.toArray))).objs.size = s.heap.objs.size + 1 := by rw [Heap.size_update, size_push']
  have hoL : (((s.heap.push (seqObj "list" #[] 0)).update s.heap.objs.size (Obj.mapSeq (· ++ vs.toArray))).push (seqObj "list" vs.toArray 0)).get? (s.heap.objs.size + 1) = some (seqObj "list" vs.toArray 0) := by rw [← hsz]; exact Heap.get?_push_size _ rfl
  have keep : ∀ b u, s.heap.get? b = some u → (((s.heap.push (seqObj "list" #[] 0)).update s.heap.objs.size (Obj.mapSeq (· ++ vs.toArray))).push (seqObj "list" vs.toArray 0)).get? b = some u := fun b u q => by
    refine Heap.get?_push_of_some _ ?_
    rw [Heap.get?_update_ne _ _ _ _ (Nat.ne_of_lt (Heap.lt_size q))]
    exact Heap.get?_push_of_some _ q
  have I1 : Inv X pins σ H { s with heap := ((s.heap.push (seqObj "list" #[] 0)).update s.heap.objs.size (Obj.mapSeq (· ++ vs.toArray))).push (seqObj "list" vs.toArray 0) } := I.kept (t' := s.toks) keep
  have RD : OwnRec X pins (s.heap.objs.size + 1) := ownRec_of I (Nat.le_succ _)
  show wpAny _ _ _ _ _ { s with heap := ((s.heap.push (seqObj "list" #[] 0)).update s.heap.objs.size (Obj.mapSeq (· ++ vs.toArray))).push (seqObj "list" vs.toArray 0) }
  rw [hsz]
  refine wpAny_bind (wpAny_holding (wpAny_call_entry_kw slot_list_sort ⟨_, hoL, rfl⟩ entry_list_sort ?_ (ksk_l1 _ _)))
  rw [ksk_t1]
  exact sortK J I1 hJ hoL (I.hok.fresh (Nat.le_succ _)) RD rv hlen hZ turn fun s' H' out c I' hJ' k' => ⟨_, rfl, wpAny_pure ⟨_, rfl, h s' H' _ out c I' RD hJ' k'⟩⟩
end
end
/-! ### the sort by keys, on data -/
def insG {α : Type} (p : Int × α) : List (Int × α) → List (Int × α)
  | [] => [p]
  | q :: r => if p.1 ≤ q.1 then p :: q :: r else q :: insG p r
def sortG {α : Type} : List (Int × α) → List (Int × α)
  | [] => []
  | p :: r => insG p (sortG r)
section
variable {α β : Type} {g : α → β}
theorem insG_map (p : Int × α) : ∀ l : List (Int × α), insG (p.1, g p.2) (l.map fun q => (q.1, g q.2)) = (insG p l).map fun q => (q.1, g q.2)
  | [] => rfl
  | q :: r => by
    rw [List.map_cons, insG, insG]
    by_cases h : p.1 ≤ q.1
    · rw [if_pos h, if_pos h]; rfl
    · rw [if_neg h, if_neg h, insG_map p r]; rfl
theorem sortG_map : ∀ l : List (Int × α), sortG (l.map fun q => (q.1, g q.2)) = (sortG l).map fun q => (q.1, g q.2)
  | [] => rfl
  | p :: r => by rw [List.map_cons, sortG, sortG, sortG_map r, insG_map p]
theorem insG_perm (p : Int × α) : ∀ l : List (Int × α), (insG p l).Perm (p :: l)
  | [] => .refl _
  | q :: r => by
    rw [insG]
    by_cases h : p.1 ≤ q.1
    · rw [if_pos h]
    · rw [if_neg h]
      exact ((insG_perm p r).cons q).trans (.swap p q r)
theorem sortG_perm : ∀ l : List (Int × α), (sortG l).Perm l
  | [] => .refl _
  | p :: r => (insG_perm p (sortG r)).trans ((sortG_perm r).cons p)
theorem insG_sorted (p : Int × α) : ∀ l : List (Int × α), l.Pairwise (fun a b => a.1 ≤ b.1) → (insG p l).Pairwise (fun a b => a.1 ≤ b.1)
  | [], _ => List.pairwise_singleton _ _
  | q :: r, h => by
    rw [insG]
    obtain ⟨h1, h2⟩ := List.pairwise_cons.mp h
    by_cases z : p.1 ≤ q.1
    · rw [if_pos z]
      refine List.pairwise_cons.mpr ⟨fun b hb => ?_, h⟩
      rcases List.mem_cons.mp hb with e | hb
      · rw [e]; exact z
      · exact Int.le_trans z (h1 b hb)
    · rw [if_neg z]
      refine List.pairwise_cons.mpr ⟨fun b hb => ?_, insG_sorted p r h2⟩
      rcases List.mem_cons.mp ((insG_perm p r).mem_iff.mp hb) with e | hb
      · rw [e]; omega
      · exact h1 b hb
theorem sortG_sorted : ∀ l : List (Int × α), (sortG l).Pairwise (fun a b => a.1 ≤ b.1)
  | [] => .nil
  | p :: r => insG_sorted p _ (sortG_sorted r)
theorem key_uniq : ∀ {a b : List (Int × α)}, a.Perm b → (a.map (·.1)).Nodup → a.Pairwise (fun x y => x.1 ≤ y.1) → b.Pairwise (fun x y => x.1 ≤ y.1) → a = b
  | [], b, p, _, _, _ => (List.Perm.nil_eq p)
  | x :: a, [], p, _, _, _ => absurd p.length_eq (by simp)
  | x :: a, y :: b, p, n, ha, hb => by
    have hx : x ∈ y :: b := p.mem_iff.mp List.mem_cons_self
    have hy : y ∈ x :: a := p.mem_iff.mpr List.mem_cons_self
    obtain ⟨a1, a2⟩ := List.pairwise_cons.mp ha
    obtain ⟨b1, b2⟩ := List.pairwise_cons.mp hb
    rw [List.map_cons, List.nodup_cons] at n
    have e : x = y := by
      rcases List.mem_cons.mp hy with z | z
      · exact z.symm
      · rcases List.mem_cons.mp hx with w | w
        · exact w
        · exfalso
          have h1 := a1 y z
          have h2 := b1 x w
          exact n.1 (List.mem_map.mpr ⟨y, z, by omega⟩)
    subst e
    rw [key_uniq ((List.perm_cons x).mp p) n.2 a2 b2]
end
def keysGo (f : DF) : List D → Store → Res (List Int)
  | [], M => .ok [] M
  | d :: ds, M => (f [d] M).bind fun k M1 => match k with
    | .int k => (keysGo f ds M1).bind fun ks M2 => .ok (k :: ks) M2
    | _ => .stuck
def sortD (ks : List Int) (ds : List D) : List D := (sortG (ks.zip ds)).map (·.2)
/-- sorted(e, key=f): the keys are unlike whole numbers -/
def mSortK (mk : List D → Store → Res D) (f : DF) (a : DA) : DE := fun ρ M => (a ρ M).bind fun d M1 => match d with
  | [.lst ds] => (noErr (keysGo f ds M1)).bind fun ks M2 => if ks.Nodup then mk (sortD ks ds) M2 else .stuck
  | _ => .stuck
theorem keys_at {f : DF} : ∀ {ds : List D} {M M2 : Store} {ks : List Int}, keysGo f ds M = .ok ks M2 → ks.length = ds.length ∧ ∃ Ms : Nat → Store, Ms 0 = M ∧ Ms ds.length = M2 ∧ ∀ i d k, ds[i]? = some d → ks[i]? = some k → f [d] (Ms i) = .ok (.int k) (Ms (i + 1))
  | [], M, M2, ks, h => by
    cases h
    exact ⟨rfl, fun _ => M, rfl, rfl, fun i d k e => by simp at e⟩
  | d :: ds, M, M2, ks, h => by
    rw [keysGo] at h
    obtain ⟨k, M1, h1, h2⟩ := bind_ok h
    cases k with
    | int k =>
      obtain ⟨ks', M3, h3, h4⟩ := bind_ok h2
      cases h4
      obtain ⟨l, Ms, e0, e1, e2⟩ := keys_at h3
      refine ⟨by rw [List.length_cons, List.length_cons, l], fun i => match i with | 0 => M | i + 1 => Ms i, rfl, e1, fun i d' k' hd hk => ?_⟩
      cases i with
      | zero =>
        cases hd; cases hk
        show f [d] M = .ok (.int k) (Ms 0)
        rw [e0]; exact h1
      | succ i => exact e2 i d' k' (by simpa using hd) (by simpa using hk)
    | _ => cases h2
section
variable {X : Cx} {E : XK} {Γ : GG} {N : List Str} {k j : Nat} {d : He.DefD} {f : DF} {x p1 : Str} {p0 p2 p3 pos : Pos} {e : Expr} {ma : DA} {mk : List D → Store → Res D}
/-- a call of a def from within a built-in -/
theorem call_in2 {pins : List (Addr × Obj)} {σ : L2.St} {H : Hp} {s : Shared} {ad : Addr} {fd : FuncData} {u : Value} {v : V} {Q : VK} (C : Ctx X E Γ N k) (F : FnG Γ j ad fd [p1] (spD Γ.K 1 f)) (hj : j + 2 ≤ k) (hb : BindsTo s fd ⟨[u], []⟩ ([p1].zip [u])) (I : Inv X pins σ H s) (r : RelV v u)
    (h : spD Γ.K 1 f [v] H Q (fun _ _ _ => False)) : wpAny (model X.prog X.w) X.A.in1.in1 (call (.ref ad) [u]) (EP X pins σ Q) (fun _ _ => False) s := by
  obtain ⟨g1, g2, g3, g4, g5⟩ : Γ.P = X.prog ∧ Γ.w = X.w ∧ Γ.K = X.K ∧ Γ.mg = X.mg ∧ Γ.base = X.base := by rw [← C.g]; exact ⟨rfl, rfl, rfl, rfl, rfl⟩
  have e0 := I.env0
  rw [← g1, ← g2, ← g3, ← g4, ← g5] at e0
  have h1 := F.run X.A.in1.in1 X.stack s H ⟨[u], []⟩ [u] [v] Q (fun _ _ _ => False) (C.room.mono hj).in1.in1 C.grd e0.in1.in1 hb (.cons r .nil) h
  rw [g1, g2] at h1
  refine wpAny_call (codeAny_mono h1 fun r s' hq => ?_)
  cases r with
  | error e =>
    obtain ⟨_, _, _, _, _, _, _, _, _, _, _, _, z⟩ := hq
    exact z.elim
  | ok fl =>
    cases fl with
    | ret u => exact I.after hq
    | next => exact False.elim hq
    | brk => exact False.elim hq
    | cont => exact False.elim hq
theorem quads {K : PySem.W.Frag} {H : Hp} {α : Al} {M : Store} : ∀ {xs : List V} {vs : List Value} {ds : List D} {ks : List Int}, Vals xs vs → Reps K H α M xs ds → ks.length = ds.length →
    ∃ qs : List (Int × Value × V × D), qs.map (fun q => (q.1, q.2.1)) = ks.zip vs ∧ qs.map (fun q => (q.1, q.2.2.2)) = ks.zip ds ∧ qs.map (·.1) = ks ∧ ∀ q ∈ qs, RelV q.2.2.1 q.2.1 ∧ Rep K H α M q.2.2.1 q.2.2.2
  | [], _, _, ks, .nil, .nil, h => by
    obtain rfl := List.length_eq_zero_iff.mp h
    exact ⟨[], rfl, rfl, rfl, fun q hq => nomatch hq⟩
  | x :: xs, v :: vs, d :: ds, k :: ks, .cons a b, .cons c e, h => by
    obtain ⟨qs, h1, h2, h3, h4⟩ := quads b e (by simpa using h)
    refine ⟨(k, v, x, d) :: qs, by rw [List.map_cons, h1]; rfl, by rw [List.map_cons, h2]; rfl, by rw [List.map_cons, h3], fun q hq => ?_⟩
    rcases List.mem_cons.mp hq with z | z
    · rw [z]; exact ⟨a, c⟩
    · exact h4 q z
  | _ :: _, _ :: _, _ :: _, [], .cons _ _, .cons _ _, h => by simp at h
theorem quads_out {K : PySem.W.Frag} {H : Hp} {α : Al} {M : Store} : ∀ {qs : List (Int × Value × V × D)}, (∀ q ∈ qs, RelV q.2.2.1 q.2.1 ∧ Rep K H α M q.2.2.1 q.2.2.2) → Vals (qs.map (·.2.2.1)) (qs.map (·.2.1)) ∧ Reps K H α M (qs.map (·.2.2.1)) (qs.map (·.2.2.2))
  | [], _ => ⟨.nil, .nil⟩
  | q :: qs, h => by
    obtain ⟨a, b⟩ := quads_out (qs := qs) fun p hp => h p (List.mem_cons_of_mem _ hp)
    obtain ⟨c, d⟩ := h q List.mem_cons_self
    exact ⟨.cons c a, .cons d b⟩
theorem pd_sortK (hm : Mk mk) (C : Ctx X E Γ N k) (F : DefOk Γ j d [p1] f) (hj : j + 2 ≤ k) (hx : d.name = x) (hgs : Gl X "sorted") (hms : X.mg "sorted" = none) (hg : Gl X x) (ha : PDA X E [e] ma) (hdb : (x == ("__debug__" : Str)) = false := by decide)
    (he : backTo pos (starEach [e] X.env) = (false, eval e X.env) :: backTo pos (starEach [] X.env) := by rfl) (hpl : (backTo pos (starEach [e] X.env)).any (·.1) = false := by rfl)
    (hall : (backToKw pos (keywordEach [⟨some (Str.ofString "key"), .Name x p2, p3⟩] X.env)).all (·.1.isSome) = true := by rfl) (hnone : (backToKw pos (keywordEach [⟨some (Str.ofString "key"), .Name x p2, p3⟩] X.env)).any (·.1.isNone) = false := by rfl)
    (hks : (backToKw pos (keywordEach [⟨some (Str.ofString "key"), .Name x p2, p3⟩] X.env)).filterMap (·.1) = [Str.ofString "key"] := by rfl) : PD X E (.Call (.Name "sorted" p0) [e] [⟨some (Str.ofString "key"), .Name x p2, p3⟩] pos) (mSortK mk f ma) := by
  obtain ⟨ad, fd, h1, h2, h3, h4, h5⟩ := F.ex
  obtain ⟨te, t1, t2⟩ := ha.ex
  have g3 : Γ.K = X.K := by rw [← C.g]; rfl
  have g4 : Γ.mg = X.mg := by rw [← C.g]; rfl
  rw [g4, hx] at h1
  let r : List V → List V → Hp → VK → Prop := fun vs zs H Q => ∃ l xs, vs = [.ref l] ∧ zs = [.ref ad] ∧ SqL X.K H l xs ∧ ∃ α M ds ks M2, WOk X.K H α M ∧ Reps X.K H α M xs ds ∧ keysGo f ds M = .ok ks M2 ∧ ks.Nodup ∧ Post X.K E H α M (mk (sortD ks ds) M2) (QE X.K Q)
  have hc : CallRK X (.builtin "sorted") [Str.ofString "key"] r := by
    intro pins s σ H vs zs us ws Q I rv rz h
    obtain ⟨l, xs, rfl, rfl, hs, α, M, ds, ks, M2, wk, rep, hk, hnd, post⟩ := h
    obtain rfl := Vals.ref1 rv
    obtain rfl := Vals.ref1 rz
    obtain ⟨its, rit, hl, hz⟩ := I.list hs
    obtain ⟨klen, Ms, m0, m1, mt⟩ := keys_at hk
    have lxs := rep.length
    have lit := rit.length
    show wpAny _ _ (call (.builtin "sorted") [.ref l] [(Str.ofString "key", .ref ad)]) _ _ _
    refine sortedK_run (kz := ks) (fun i H' => ∃ α', Le H α M H' α' (Ms i) ∧ WOk X.K H' α' (Ms i)) I ⟨α, by rw [m0]; exact ⟨Le.refl, wk⟩⟩ hl.isList rit (by omega) (by rw [← lit]; exact hz) (fun i u k0 hu hk0 H' s' pins' I' hJ => ?_) fun s' H' L0 out c I' RD hJ hout => ?_
    · obtain ⟨α', l', w'⟩ := hJ
      have hi : i < ds.length := by have := (List.getElem?_eq_some_iff.mp hu).1; omega
      obtain ⟨d0, hd0⟩ : ∃ d0, ds[i]? = some d0 := ⟨_, List.getElem?_eq_getElem hi⟩
      obtain ⟨v0, hv0, rp⟩ := rep.get hd0
      have rv0 : RelV v0 u := by
        obtain ⟨u2, e1, e2⟩ := rit.get hv0
        rw [hu] at e1
        cases e1
        exact e2
      have step := mt i d0 k0 hd0 hk0
      refine wpAny_mono (call_in2 (Q := fun v H2 => v = .int k0 ∧ ∃ α2, Le H α M H2 α2 (Ms (i + 1)) ∧ WOk X.K H2 α2 (Ms (i + 1))) C h5 hj (by
        rw [g3] at h4
        exact h4 s' [u] I'.kIn rfl) I' rv0 ⟨rfl, α', Ms i, [d0], by rw [g3]; exact w', by rw [g3]; exact .cons (rp.mono l') .nil, ?_⟩) (fun u2 s2 he => ?_) fun _ _ hF => hF
      · rw [step, g3]
        intro H2 α2 l2 w2 v2 rv2
        cases rv2
        exact ⟨rfl, α2, l'.trans l2, w2⟩
      · obtain ⟨v2, H2, I2, rr, rfl, hJ2⟩ := he
        obtain ⟨t, rfl⟩ := rr
        exact ⟨H2, t, rfl, I2, hJ2⟩
    · rw [← lit, lxs, m1] at hJ
      obtain ⟨α', l', w'⟩ := hJ
      obtain ⟨qs, q1, q2, q3, q4⟩ := quads rit rep klen
      obtain ⟨ps, pp, po, ps1, _⟩ := hout
      have pst : (sortG qs).map (fun q => (q.1, q.2.1)) = ps := by
        refine (key_uniq (a := (sortG qs).map (fun q => (q.1, q.2.1))) (b := ps) ?_ ?_ ?_ (by simpa using ps1)).trans rfl
        · rw [← q1] at pp
          exact ((sortG_perm qs).map _).trans pp.symm
        · rw [List.map_map]
          have : (qs.map (·.1)).Perm ((sortG qs).map (·.1)) := ((sortG_perm qs).map _).symm
          rw [q3] at this
          exact this.nodup_iff.mp hnd
        · exact List.pairwise_map.mpr (sortG_sorted qs)
      have hval : out.toList = (sortG qs).map (·.2.1) := by rw [po, ← pst, List.map_map]; rfl
      have hds : sortD ks ds = (sortG qs).map (·.2.2.2) := by
        unfold sortD
        rw [← q2, sortG_map (g := fun z : Value × V × D => z.2.2), List.map_map]
        rfl
      obtain ⟨o1, o2⟩ := quads_out (qs := sortG qs) fun q hq => q4 q ((sortG_perm qs).mem_iff.mp hq)
      rw [← hds] at o2
      rw [← hval] at o1
      obtain ⟨z1, z2⟩ := hm _ _ _ _ _ _ _ _ w' (o2.mono l') (post.le l')
      have hn : H' L0 = none := (Inv.top I').2
      have I2 : Inv X pins σ (upd H' L0 (.lst ((sortG qs).map (·.2.2.1)))) s' := Inv.track (its := out.toList) (n := c) (by rw [Array.toArray_toList]; exact I') RD o1 z1
      exact ⟨.ref L0, _, I2, rfl, z2 L0 hn⟩
  have hp : PE X (.Call (.Name "sorted" p0) [e] [⟨some (Str.ofString "key"), .Name x p2, p3⟩] pos) (tCKw r te (tCons (tC (.ref ad)) tNil)) :=
    pe_callBK hc hgs hms rfl t1 (pk_cons (pe_glob hg h1 rfl hdb) pk_nil) (by decide) (by decide) he hpl hall hnone hks
  refine ⟨_, hp, fun σ H ρ α M Q w s h => ?_⟩
  refine t2 σ H ρ α M _ w s (Post.imp (Post.bind h) fun ds1 H1 α1 M1 l1 w1 h1 vs rv => ?_)
  match ds1, rv, h1 with
  | [.lst ds], .cons (.lst hl hr) .nil, h1 =>
    obtain ⟨ks, M2, e1, h2⟩ : ∃ ks M2, keysGo f ds M1 = .ok ks M2 ∧ Post X.K E H1 α1 M1 (if ks.Nodup then mk (sortD ks ds) M2 else .stuck) (QE X.K Q) := by
      cases hk : keysGo f ds M1 with
      | ok ks M2 =>
        simp only [hk] at h1
        exact ⟨ks, M2, rfl, h1⟩
      | err x M2 => simp only [hk] at h1; exact h1.elim
      | stuck => simp only [hk] at h1; exact h1.elim
    obtain ⟨hnd, h3⟩ := ite_ok h2
    exact ⟨_, _, rfl, rfl, hl.sq, α1, M1, ds, ks, M2, w1, hr, e1, hnd, h3⟩
end
end DL

set_option Elab.async false
set_option linter.all false
set_option maxRecDepth 100000
set_option maxHeartbeats 4000000
/-! rows of whole numbers: small solutions, stairs -/
namespace RW
/-! ### pigeons -/
theorem php : ∀ (n : Nat) (f : Nat → Nat), (∀ i, i ≤ n → f i < n) → ∃ i j, i < j ∧ j ≤ n ∧ f i = f j
  | 0, f, h => absurd (h 0 (Nat.le_refl _)) (Nat.not_lt_zero _)
  | n + 1, f, h => by
    by_cases hc : ∃ i, i ≤ n ∧ f i = f (n + 1)
    · obtain ⟨i, h1, h2⟩ := hc
      exact ⟨i, n + 1, by omega, Nat.le_refl _, h2⟩
    · have hne : ∀ i, i ≤ n → f i ≠ f (n + 1) := fun i hi e => hc ⟨i, hi, e⟩
      -- the value n is given to the last one
      let g : Nat → Nat := fun i => if f i = n then f (n + 1) else f i
      have hg : ∀ i, i ≤ n → g i < n := by
        intro i hi
        show (if f i = n then f (n + 1) else f i) < n
        have h1 := h i (by omega)
        have h2 := h (n + 1) (Nat.le_refl _)
        have h3 := hne i hi
        split <;> omega
      obtain ⟨i, j, hij, hj, e⟩ := php n g hg
      refine ⟨i, j, hij, by omega, ?_⟩
      have e : (if f i = n then f (n + 1) else f i) = (if f j = n then f (n + 1) else f j) := e
      have h1 := hne i (by omega)
      have h2 := hne j hj
      split at e <;> split at e <;> omega
/-! ### digits -/
def code (W : Nat) (e : Nat → Nat) : Nat → Nat
  | 0 => 0
  | s + 1 => code W e s + e s * W ^ s
theorem code_lt {W : Nat} {e : Nat → Nat} : ∀ {s : Nat}, (∀ j, j < s → e j < W) → code W e s < W ^ s
  | 0, _ => by rw [code, Nat.pow_zero]; decide
  | s + 1, h => by
    rw [code, Nat.pow_succ]
    have h1 := code_lt (s := s) fun j hj => h j (by omega)
    have h2 : (e s + 1) * W ^ s ≤ W * W ^ s := Nat.mul_le_mul_right _ (h s (by omega))
    rw [Nat.add_mul, Nat.one_mul] at h2
    rw [Nat.mul_comm (W ^ s) W]
    omega
theorem code_inj {W : Nat} {e e' : Nat → Nat} : ∀ {s : Nat}, (∀ j, j < s → e j < W) → (∀ j, j < s → e' j < W) → code W e s = code W e' s → ∀ j, j < s → e j = e' j
  | 0, _, _, _, j, hj => absurd hj (Nat.not_lt_zero _)
  | s + 1, h, h', he, j, hj => by
    rw [code, code] at he
    have h1 := code_lt (s := s) fun j hj => h j (by omega)
    have h2 := code_lt (s := s) fun j hj => h' j (by omega)
    have hp : 0 < W ^ s := by omega
    have e1 : (code W e s + e s * W ^ s) / W ^ s = e s := by rw [Nat.add_mul_div_right _ _ hp, Nat.div_eq_of_lt h1, Nat.zero_add]
    have e2 : (code W e' s + e' s * W ^ s) / W ^ s = e' s := by rw [Nat.add_mul_div_right _ _ hp, Nat.div_eq_of_lt h2, Nat.zero_add]
    have e3 : e s = e' s := by rw [← e1, ← e2, he]
    rcases Nat.lt_or_ge j s with z | z
    · refine code_inj (s := s) (fun j hj => h j (by omega)) (fun j hj => h' j (by omega)) ?_ j z
      rw [e3] at he; omega
    · obtain rfl : j = s := by omega
      exact e3
def dig (W N i : Nat) : Nat := N / W ^ i % W
theorem dig_code {W : Nat} (hW : 0 < W) (N : Nat) : ∀ r : Nat, code W (dig W N) r = N % W ^ r
  | 0 => by rw [code, Nat.pow_zero, Nat.mod_one]
  | r + 1 => by
    rw [code, dig_code hW N r, dig, Nat.pow_succ, Nat.mod_mul, Nat.mul_comm (W ^ r)]
/-! ### sums -/
def Sg {α : Type} [Add α] [OfNat α 0] : Nat → (Nat → α) → α
  | 0, _ => 0
  | n + 1, f => Sg n f + f n
theorem Sg_congr {α : Type} [Add α] [OfNat α 0] {f g : Nat → α} : ∀ {n : Nat}, (∀ i, i < n → f i = g i) → Sg n f = Sg n g
  | 0, _ => rfl
  | n + 1, h => by rw [Sg, Sg, Sg_congr fun i hi => h i (by omega), h n (by omega)]
theorem Sg_abs {f : Nat → Int} {B : Nat} : ∀ {n : Nat}, (∀ i, i < n → (f i).natAbs ≤ B) → (Sg n f).natAbs ≤ n * B
  | 0, _ => by rw [Sg]; simp
  | n + 1, h => by
    rw [Sg, Nat.add_mul, Nat.one_mul]
    exact Nat.le_trans (Int.natAbs_add_le _ _) (Nat.add_le_add (Sg_abs fun i hi => h i (by omega)) (h n (by omega)))
theorem Sg_subI {f g : Nat → Int} : ∀ {n : Nat}, Sg n (fun i => f i - g i) = Sg n f - Sg n g
  | 0 => by rw [Sg, Sg, Sg]; rfl
  | n + 1 => by rw [Sg, Sg, Sg, Sg_subI]; omega
/-! ### a small solution of few equations -/
theorem siegel {r B : Nat} (hr : 1 ≤ r) (hB : 1 ≤ B) (M : Nat → Nat → Int) (hM : ∀ i j, i < r → j < r - 1 → (M i j).natAbs ≤ B) :
    ∃ c : Nat → Int, (∃ i, i < r ∧ c i ≠ 0) ∧ (∀ i, i < r → (c i).natAbs ≤ (2 * r * B) ^ (r - 1)) ∧ ∀ j, j < r - 1 → Sg r (fun i => c i * M i j) = 0 := by
  obtain ⟨s, rfl⟩ : ∃ s, r = s + 1 := ⟨r - 1, by omega⟩
  rw [Nat.add_sub_cancel] at *
  let Y := 2 * (s + 1) * B
  let X := Y ^ s
  let off := (s + 1) * (X * B)
  let W := 2 * off + 1
  have hY : 1 ≤ Y := Nat.mul_pos (by omega) hB
  have hX : 1 ≤ X := Nat.pos_of_ne_zero (Nat.ne_of_gt (Nat.pow_pos hY))
  let v : Nat → Nat → Int := fun N j => Sg (s + 1) (fun i => (dig (X + 1) N i : Int) * M i j)
  have hd : ∀ N i, dig (X + 1) N i ≤ X := fun N i => by
    have := Nat.mod_lt (N / (X + 1) ^ i) (show 0 < X + 1 by omega)
    show N / (X + 1) ^ i % (X + 1) ≤ X
    omega
  have hv : ∀ N j, j < s → (v N j).natAbs ≤ off := fun N j hj => Sg_abs fun i hi => by
    rw [Int.natAbs_mul, Int.natAbs_natCast]
    exact Nat.mul_le_mul (hd N i) (hM i j hi hj)
  let w : Nat → Nat → Nat := fun N j => (v N j + (off : Int)).toNat
  have hw : ∀ N j, j < s → w N j < W := fun N j hj => by
    have := hv N j hj
    show (v N j + (off : Int)).toNat < 2 * off + 1
    omega
  -- more digits than values
  have big : W ^ s < (X + 1) ^ (s + 1) := by
    have h1 : W ≤ Y * (X + 1) := by
      show 2 * ((s + 1) * (X * B)) + 1 ≤ 2 * (s + 1) * B * (X + 1)
      have e : 2 * (s + 1) * B * (X + 1) = 2 * ((s + 1) * (X * B)) + Y := by
        show _ = 2 * ((s + 1) * (X * B)) + 2 * (s + 1) * B
        rw [Nat.mul_add, Nat.mul_one]
        congr 1
        rw [Nat.mul_assoc 2, Nat.mul_assoc 2, Nat.mul_assoc (s + 1), Nat.mul_comm B X]
      omega
    have h2 : W ^ s ≤ (Y * (X + 1)) ^ s := Nat.pow_le_pow_left h1 s
    rw [Nat.mul_pow] at h2
    have h2 : W ^ s ≤ X * (X + 1) ^ s := h2
    rw [Nat.pow_succ, Nat.mul_comm]
    have h3 : 0 < (X + 1) ^ s := Nat.pow_pos (by omega)
    have h4 : X * (X + 1) ^ s < (X + 1) * (X + 1) ^ s := Nat.mul_lt_mul_of_pos_right (by omega) h3
    omega
  obtain ⟨N1, N2, h12, hN2, he⟩ := php (W ^ s) (fun N => code W (w N) s) fun N _ => code_lt fun j hj => hw N j hj
  have hvv : ∀ j, j < s → v N1 j = v N2 j := fun j hj => by
    have e := code_inj (fun j hj => hw N1 j hj) (fun j hj => hw N2 j hj) he j hj
    have a := hv N1 j hj
    have b := hv N2 j hj
    have e : (v N1 j + (off : Int)).toNat = (v N2 j + (off : Int)).toNat := e
    omega
  refine ⟨fun i => (dig (X + 1) N1 i : Int) - (dig (X + 1) N2 i : Int), ?_, fun i hi => ?_, fun j hj => ?_⟩
  · rcases Classical.em (∃ i, i < s + 1 ∧ (dig (X + 1) N1 i : Int) - (dig (X + 1) N2 i : Int) ≠ 0) with h | h
    · exact h
    · exfalso
      have same : ∀ i, i < s + 1 → dig (X + 1) N1 i = dig (X + 1) N2 i := fun i hi => by
        rcases Nat.decEq (dig (X + 1) N1 i) (dig (X + 1) N2 i) with z | z
        · exact absurd ⟨i, hi, by omega⟩ h
        · exact z
      have c1 := dig_code (show 0 < X + 1 by omega) N1 (s + 1)
      have c2 := dig_code (show 0 < X + 1 by omega) N2 (s + 1)
      have cc : ∀ n, n ≤ s + 1 → code (X + 1) (dig (X + 1) N1) n = code (X + 1) (dig (X + 1) N2) n := by
        intro n
        induction n with
        | zero => intro _; rfl
        | succ n ih => intro hn; rw [code, code, ih (by omega), same n (by omega)]
      rw [cc _ (Nat.le_refl _), c2, Nat.mod_eq_of_lt (by omega), Nat.mod_eq_of_lt (by omega)] at c1
      omega
  · have a := hd N1 i
    have b := hd N2 i
    show ((dig (X + 1) N1 i : Int) - (dig (X + 1) N2 i : Int)).natAbs ≤ X
    omega
  · have e : Sg (s + 1) (fun i => ((dig (X + 1) N1 i : Int) - (dig (X + 1) N2 i : Int)) * M i j) = v N1 j - v N2 j := by
      show _ = Sg _ _ - Sg _ _
      rw [← Sg_subI]
      exact Sg_congr fun i _ => Int.sub_mul _ _ _
    rw [e, hvv j hj, Int.sub_self]
/-! ### sums of fractions -/
section
variable {f g : Nat → Rat} {n m : Nat}
theorem Sg_zero (h : ∀ i, i < n → f i = 0) : Sg n f = 0 := by
  induction n with
  | zero => rfl
  | succ n ih => rw [Sg, ih fun i hi => h i (by omega), h n (by omega), Rat.add_zero]
theorem Sg_add : ∀ {n : Nat}, Sg n (fun i => f i + g i) = Sg n f + Sg n g
  | 0 => by rw [Sg, Sg, Sg, Rat.add_zero]
  | n + 1 => by rw [Sg, Sg, Sg, Sg_add]; grind
theorem Sg_mul (c : Rat) : ∀ {n : Nat}, Sg n (fun i => c * f i) = c * Sg n f
  | 0 => by rw [Sg, Sg, Rat.mul_zero]
  | n + 1 => by rw [Sg, Sg, Sg_mul, Rat.mul_add]
theorem Sg_mulr (c : Rat) : ∀ {n : Nat}, Sg n (fun i => f i * c) = Sg n f * c
  | 0 => by rw [Sg, Sg, Rat.zero_mul]
  | n + 1 => by rw [Sg, Sg, Sg_mulr, Rat.add_mul]
theorem Sg_swap {h : Nat → Nat → Rat} : ∀ {n : Nat}, Sg n (fun i => Sg m (fun j => h i j)) = Sg m (fun j => Sg n (fun i => h i j))
  | 0 => by rw [Sg, Sg_zero]; intro i _; rfl
  | n + 1 => by
    rw [Sg, Sg_swap, ← Sg_add]
    rfl
theorem Sg_one {k : Nat} (hk : k < n) (h : ∀ i, i < n → i ≠ k → f i = 0) : Sg n f = f k := by
  induction n with
  | zero => omega
  | succ n ih =>
    rw [Sg]
    rcases Nat.lt_or_ge k n with z | z
    · rw [ih z fun i hi => h i (by omega), h n (by omega) (by omega), Rat.add_zero]
    · obtain rfl : k = n := by omega
      rw [Sg_zero fun i hi => h i (by omega) (by omega), Rat.zero_add]
theorem Sg_cast {f : Nat → Int} : ∀ {n : Nat}, ((Sg n f : Int) : Rat) = Sg n (fun i => (f i : Rat))
  | 0 => by rw [Sg, Sg]; rfl
  | n + 1 => by rw [Sg, Sg, Rat.intCast_add, Sg_cast]
end
/-- no common divisor but 1 -/
def Prim (m : Nat) (v : Nat → Int) : Prop := ∀ d : Nat, (∀ j, j < m → (d : Int) ∣ v j) → d = 1
theorem rat_whole {q : Rat} {a b : Int} (h : (a : Rat) = q * b) : a * q.den = q.num * b := by
  have e : q * (q.den : Rat) = (q.num : Rat) := by
    have := Rat.num_divInt_den q
    rw [Rat.divInt_eq_div, Rat.intCast_natCast] at this
    have hd0 : (q.den : Rat) ≠ 0 := by
      intro z
      exact q.den_nz (Rat.natCast_inj.mp (z.trans (show (0 : Rat) = ((0 : Nat) : Rat) from rfl)))
    grind
  have e2 : ((a * q.den : Int) : Rat) = ((q.num * b : Int) : Rat) := by
    rw [Rat.intCast_mul, Rat.intCast_mul, Rat.intCast_natCast, h, ← e]
    grind
  exact Rat.intCast_inj.mp e2
/-- a whole multiple of a row without a common divisor -/
theorem prim_mult {m : Nat} {v g : Nat → Int} {q : Rat} (hp : Prim m v) (h : ∀ j, j < m → (g j : Rat) = q * v j) : ∃ z : Int, q = z ∧ ∀ j, j < m → g j = z * v j := by
  have hd : q.den = 1 := hp q.den fun j hj => by
    have e := rat_whole (h j hj)
    have d : q.den ∣ (q.num * v j).natAbs := by rw [← e, Int.natAbs_mul, Int.natAbs_natCast]; exact Nat.dvd_mul_left _ _
    rw [Int.natAbs_mul] at d
    exact Int.ofNat_dvd_left.mpr (Nat.Coprime.dvd_of_dvd_mul_left (Nat.Coprime.symm q.reduced) d)
  refine ⟨q.num, ?_, fun j hj => ?_⟩
  · exact Rat.ext (by rw [Rat.num_intCast]) (by rw [hd, Rat.den_intCast])
  · have e := rat_whole (h j hj)
    rw [hd] at e
    omega
theorem found_bound {r m B : Nat} {A f : Nat → Nat → Int} {p : Nat → Nat} {k : Nat} (hk : k < r) (hB : 1 ≤ B) (hA : ∀ i j, i < r → j < m → (A i j).natAbs ≤ B)
    (hAf : ∀ i, i < r → ∃ e : Nat → Rat, ∀ j, j < m → (A i j : Rat) = Sg r (fun l => e l * (f l j : Rat)))
    (hp : ∀ l, l < r → p l < m ∧ f l (p l) ≠ 0 ∧ ∀ l', l' < r → l' ≠ l → f l' (p l) = 0) (hprim : Prim m (f k))
    (ind : ∀ c : Nat → Int, (∀ j, j < m → Sg r (fun i => c i * A i j) = 0) → ∀ i, i < r → c i = 0) : ∀ j, j < m → (f k j).natAbs ≤ r * ((2 * r * B) ^ (r - 1) * B) := by
  let σ : Nat → Nat := fun j => if j < k then j else j + 1
  have hσ : ∀ j, j < r - 1 → σ j < r ∧ σ j ≠ k := fun j hj => by
    show (if j < k then j else j + 1) < r ∧ (if j < k then j else j + 1) ≠ k
    split <;> omega
  have hσ2 : ∀ l, l < r → l ≠ k → ∃ j, j < r - 1 ∧ σ j = l := fun l hl hn => by
    rcases Nat.lt_or_ge l k with z | z
    · exact ⟨l, by omega, if_pos z⟩
    · exact ⟨l - 1, by omega, by show (if l - 1 < k then l - 1 else l - 1 + 1) = l; rw [if_neg (by omega)]; omega⟩
  obtain ⟨c, ⟨i0, hi0, hc0⟩, hcb, hcz⟩ := siegel (r := r) (B := B) (by omega) hB (fun i j => A i (p (σ j))) fun i j hi hj => hA i _ hi (hp _ (hσ j hj).1).1
  let g : Nat → Int := fun j => Sg r (fun i => c i * A i j)
  have hch : ∀ i : Nat, ∃ e : Nat → Rat, i < r → ∀ j, j < m → (A i j : Rat) = Sg r (fun l => e l * (f l j : Rat)) := fun i => by
    by_cases hi : i < r
    · obtain ⟨e, he⟩ := hAf i hi; exact ⟨e, fun _ => he⟩
    · exact ⟨fun _ => 0, fun h => absurd h hi⟩
  obtain ⟨e, he⟩ := Classical.skolem.mp hch
  let γ : Nat → Rat := fun l => Sg r (fun i => (c i : Rat) * e i l)
  have hg : ∀ j, j < m → (g j : Rat) = Sg r (fun l => γ l * (f l j : Rat)) := fun j hj => by
    show ((Sg r (fun i => c i * A i j) : Int) : Rat) = _
    rw [Sg_cast]
    have e1 : Sg r (fun i => ((c i * A i j : Int) : Rat)) = Sg r (fun i => Sg r (fun l => ((c i : Rat) * e i l) * (f l j : Rat))) := Sg_congr fun i hi => by
      rw [Rat.intCast_mul, he i hi j hj, ← Sg_mul]
      exact Sg_congr fun l _ => by rw [Rat.mul_assoc]
    rw [e1, Sg_swap]
    exact Sg_congr fun l _ => Sg_mulr _
  have hγ : ∀ l, l < r → l ≠ k → γ l = 0 := fun l hl hn => by
    obtain ⟨j, hj, rfl⟩ := hσ2 l hl hn
    obtain ⟨p1, p2, p3⟩ := hp _ hl
    have e1 := hg _ p1
    rw [show g (p (σ j)) = 0 from hcz j hj, Sg_one hl fun l' h1 h2 => by rw [p3 l' h1 h2]; exact Rat.mul_zero _] at e1
    have h0 : γ (σ j) * (f (σ j) (p (σ j)) : Rat) = 0 := e1.symm
    rcases Rat.mul_eq_zero.mp h0 with z | z
    · exact z
    · exact absurd (Rat.intCast_inj.mp (z.trans Rat.intCast_zero.symm)) p2
  have hgk : ∀ j, j < m → (g j : Rat) = γ k * (f k j : Rat) := fun j hj => by
    rw [hg j hj]
    exact Sg_one hk fun l h1 h2 => by rw [hγ l h1 h2]; exact Rat.zero_mul _
  obtain ⟨z, hz, hgz⟩ := prim_mult hprim hgk
  have hz0 : z ≠ 0 := fun h0 => by
    apply hc0
    refine ind c (fun j hj => ?_) i0 hi0
    have := hgz j hj
    rw [h0, Int.zero_mul] at this
    exact this
  intro j hj
  have h1 : (f k j).natAbs ≤ (g j).natAbs := by
    rw [hgz j hj, Int.natAbs_mul]
    exact Nat.le_mul_of_pos_left _ (by omega)
  refine Nat.le_trans h1 (Sg_abs fun i hi => ?_)
  rw [Int.natAbs_mul]
  exact Nat.mul_le_mul (hcb i hi) (hA i j hi hj)
end RW

set_option Elab.async false
set_option linter.all false
set_option maxRecDepth 100000
set_option maxHeartbeats 4000000
namespace RW
/-! ### sums of multiples -/
/-- x is a sum of multiples of the first r rows of F -/
def In (m r : Nat) (F : Nat → Nat → Rat) (x : Nat → Rat) : Prop := ∃ e : Nat → Rat, ∀ j, j < m → x j = Sg r (fun k => e k * F k j)
section
variable {m r s : Nat} {F G : Nat → Nat → Rat} {x y : Nat → Rat}
theorem In.congr (h : In m r F x) (e : ∀ j, j < m → y j = x j) : In m r F y := let ⟨c, hc⟩ := h; ⟨c, fun j hj => (e j hj).trans (hc j hj)⟩
theorem In.zero : In m r F (fun _ => 0) := ⟨fun _ => 0, fun j _ => (Sg_zero fun k _ => Rat.zero_mul _).symm⟩
theorem In.add (h : In m r F x) (g : In m r F y) : In m r F (fun j => x j + y j) := by
  obtain ⟨c, hc⟩ := h
  obtain ⟨d, hd⟩ := g
  refine ⟨fun k => c k + d k, fun j hj => ?_⟩
  show x j + y j = Sg r fun k => (c k + d k) * F k j
  rw [hc j hj, hd j hj, ← Sg_add]
  exact Sg_congr fun k _ => (Rat.add_mul _ _ _).symm
theorem In.mul (h : In m r F x) (q : Rat) : In m r F (fun j => q * x j) := by
  obtain ⟨c, hc⟩ := h
  refine ⟨fun k => q * c k, fun j hj => ?_⟩
  show q * x j = Sg r fun k => (q * c k) * F k j
  rw [hc j hj, ← Sg_mul]
  exact Sg_congr fun k _ => (Rat.mul_assoc _ _ _).symm
theorem In.sub (h : In m r F x) (g : In m r F y) : In m r F (fun j => x j - y j) := (h.add (g.mul (-1))).congr fun j _ => by grind
theorem In.gen {k : Nat} (hk : k < r) : In m r F (F k) :=
  ⟨fun i => if i = k then 1 else 0, fun j _ => by
    rw [Sg_one hk fun i _ hn => by show (if i = k then (1 : Rat) else 0) * F i j = 0; rw [if_neg hn, Rat.zero_mul]]
    show F k j = (if k = k then (1 : Rat) else 0) * F k j
    rw [if_pos rfl, Rat.one_mul]⟩
theorem In.sum {c : Nat → Rat} : ∀ {n : Nat}, (∀ k, k < n → In m r F (G k)) → In m r F (fun j => Sg n (fun k => c k * G k j))
  | 0, _ => In.zero
  | n + 1, h => (In.sum fun k hk => h k (by omega)).add ((h n (by omega)).mul (c n))
theorem In.trans (h : In m s G x) (g : ∀ k, k < s → In m r F (G k)) : In m r F x := by
  obtain ⟨c, hc⟩ := h
  exact (In.sum (c := c) g).congr hc
/-- coefficients are told by the pivots -/
theorem In.zero_of {p : Nat → Nat} (h : In m r F x) (hp : ∀ l, l < r → p l < m ∧ F l (p l) ≠ 0 ∧ ∀ l', l' < r → l' ≠ l → F l' (p l) = 0) (hz : ∀ l, l < r → x (p l) = 0) : ∀ j, j < m → x j = 0 := by
  obtain ⟨c, hc⟩ := h
  have c0 : ∀ l, l < r → c l = 0 := fun l hl => by
    obtain ⟨p1, p2, p3⟩ := hp l hl
    have e := hc _ p1
    rw [hz l hl, Sg_one hl fun l' h1 h2 => by rw [p3 l' h1 h2, Rat.mul_zero]] at e
    rcases Rat.mul_eq_zero.mp e.symm with z | z
    · exact z
    · exact absurd z p2
  intro j hj
  rw [hc j hj]
  exact Sg_zero fun l hl => by rw [c0 l hl, Rat.zero_mul]
end
/-! ### stairs -/
abbrev cs (v : Nat → Int) : Nat → Rat := fun j => (v j : Rat)
abbrev cr (f : Nat → Nat → Int) : Nat → Nat → Rat := fun k j => (f k j : Rat)
theorem c_ne {z : Int} (h : z ≠ 0) : (z : Rat) ≠ 0 := fun e => h (Rat.intCast_inj.mp (e.trans Rat.intCast_zero.symm))
theorem c_zero {z : Int} (h : (z : Rat) = 0) : z = 0 := Rat.intCast_inj.mp (h.trans Rat.intCast_zero.symm)
def Piv (m r : Nat) (f : Nat → Nat → Int) (p : Nat → Nat) : Prop := ∀ l, l < r → p l < m ∧ f l (p l) ≠ 0 ∧ (∀ j, j < p l → f l j = 0) ∧ ∀ l', l' < r → l' ≠ l → f l' (p l) = 0
structure Stf (m B : Nat) (dn : List (Nat → Int)) (r : Nat) (A f : Nat → Nat → Int) (p : Nat → Nat) : Prop where
  bnd : ∀ i j, i < r → j < m → (A i j).natAbs ≤ B
  mem : ∀ i, i < r → A i ∈ dn
  fA : ∀ k, k < r → In m r (cr A) (cs (f k))
  Ad : ∀ a ∈ dn, In m r (cr f) (cs a)
  piv : Piv m r f p
  prim : ∀ k, k < r → Prim m (f k)
  ind : ∀ c : Nat → Int, (∀ j, j < m → Sg r (fun i => c i * A i j) = 0) → ∀ i, i < r → c i = 0
  len : r ≤ dn.length
section
variable {m B r : Nat} {dn : List (Nat → Int)} {A f : Nat → Nat → Int} {p : Nat → Nat} {a g : Nat → Int}
theorem Stf.piv' (s : Stf m B dn r A f p) : ∀ l, l < r → p l < m ∧ cr f l (p l) ≠ 0 ∧ ∀ l', l' < r → l' ≠ l → cr f l' (p l) = 0 := fun l hl => by
  obtain ⟨p1, p2, _, p4⟩ := s.piv l hl
  exact ⟨p1, c_ne p2, fun l' h1 h2 => by show ((f l' (p l) : Int) : Rat) = 0; rw [p4 l' h1 h2]; rfl⟩
theorem Stf.start : Stf m B [] 0 A f p := ⟨fun i j h => absurd h (Nat.not_lt_zero _), fun i h => absurd h (Nat.not_lt_zero _), fun i h => absurd h (Nat.not_lt_zero _), fun a h => (by cases h), fun i h => absurd h (Nat.not_lt_zero _), fun i h => absurd h (Nat.not_lt_zero _), fun c _ i h => absurd h (Nat.not_lt_zero _), Nat.le_refl _⟩
theorem Stf.bound (s : Stf m B dn r A f p) (hB : 1 ≤ B) {k : Nat} (hk : k < r) : ∀ j, j < m → (f k j).natAbs ≤ r * ((2 * r * B) ^ (r - 1) * B) :=
  found_bound hk hB s.bnd (fun i hi => s.Ad _ (s.mem i hi)) (fun l hl => by obtain ⟨p1, p2, _, p4⟩ := s.piv l hl; exact ⟨p1, p2, p4⟩) (s.prim k hk) s.ind
/-- a row that is a sum of multiples of those found -/
theorem Stf.old (s : Stf m B dn r A f p) (h : In m r (cr f) (cs a)) : Stf m B (dn ++ [a]) r A f p :=
  ⟨s.bnd, fun i hi => List.mem_append_left _ (s.mem i hi), s.fA, fun b hb => by
    rcases List.mem_append.mp hb with z | z
    · exact s.Ad b z
    · rw [List.mem_singleton.mp z]; exact h, s.piv, s.prim, s.ind, by rw [List.length_append]; exact Nat.le_trans s.len (Nat.le_add_right _ _)⟩
theorem Sg_snoc {α : Type} [Add α] [OfNat α 0] {h : Nat → α} {n : Nat} : Sg (n + 1) h = Sg n h + h n := rfl
def put (f : Nat → Nat → Int) (r : Nat) (g : Nat → Int) : Nat → Nat → Int := fun k => if k = r then g else f k
theorem put_at {f : Nat → Nat → Int} : put f r g r = g := if_pos rfl
theorem put_ne {f : Nat → Nat → Int} {k : Nat} (h : k < r) : put f r g k = f k := if_neg (by omega)
/-- a row that gives one more -/
theorem Stf.new (s : Stf m B dn r A f p) {f' : Nat → Nat → Int} {h : Rat} {q : Nat} (hb : ∀ j, j < m → (a j).natAbs ≤ B) (hh : h ≠ 0) (hg : In m r (cr f) (fun j => (g j : Rat) - h * (a j : Rat))) (gz : ∀ l, l < r → g (p l) = 0) (hq : q < m) (gq : g q ≠ 0) (gl : ∀ j, j < q → g j = 0) (gp : Prim m g)
    (hf : ∀ k, k < r → ∃ d e t : Int, 0 < d ∧ 0 < e ∧ (∀ j, j < m → d * f' k j = e * f k j - t * g j) ∧ f' k q = 0 ∧ (f k q = 0 → t = 0) ∧ ((∃ j, j < m ∧ f' k j ≠ 0) → Prim m (f' k))) :
    Stf m B (dn ++ [a]) (r + 1) (put A r a) (put f' r g) (fun k => if k = r then q else p k) := by
  have fk : ∀ k, k < r → In m (r + 1) (cr (put f' r g)) (cs (f k)) := fun k hk => by
    obtain ⟨d, e, t, hd, he, hl, _⟩ := hf k hk
    have g1 : In m (r + 1) (cr (put f' r g)) (cs (f' k)) := by
      have := In.gen (m := m) (F := cr (put f' r g)) (show k < r + 1 by omega)
      rwa [show cr (put f' r g) k = cs (f' k) from funext fun j => by show ((put f' r g k j : Int) : Rat) = _; rw [put_ne hk]] at this
    have g2 : In m (r + 1) (cr (put f' r g)) (cs g) := by
      have := In.gen (m := m) (F := cr (put f' r g)) (show r < r + 1 by omega)
      rwa [show cr (put f' r g) r = cs g from funext fun j => by show ((put f' r g r j : Int) : Rat) = _; rw [put_at]] at this
    refine ((g1.mul ((d : Rat) / e)).add (g2.mul ((t : Rat) / e))).congr fun j hj => ?_
    have e1 := congrArg (fun z : Int => (z : Rat)) (hl j hj)
    simp only [Rat.intCast_mul, Rat.intCast_sub] at e1
    have he' := c_ne (show e ≠ 0 by omega)
    show ((f k j : Int) : Rat) = (d : Rat) / e * (f' k j : Rat) + (t : Rat) / e * (g j : Rat)
    grind
  have gin : In m (r + 1) (cr (put f' r g)) (cs g) := by
    have := In.gen (m := m) (F := cr (put f' r g)) (show r < r + 1 by omega)
    rwa [show cr (put f' r g) r = cs g from funext fun j => by show ((put f' r g r j : Int) : Rat) = _; rw [put_at]] at this
  have aF : In m (r + 1) (cr (put f' r g)) (cs a) := by
    refine ((gin.sub (hg.trans fk)).mul (1 / h)).congr fun j hj => ?_
    show ((a j : Int) : Rat) = 1 / h * ((g j : Rat) - ((g j : Rat) - h * (a j : Rat)))
    grind
  have Aold : ∀ {x : Nat → Rat}, In m r (cr A) x → In m (r + 1) (cr (put A r a)) x := fun hx => hx.trans fun i hi => by
    have := In.gen (m := m) (F := cr (put A r a)) (show i < r + 1 by omega)
    rwa [show cr (put A r a) i = cr A i from funext fun j => by show ((put A r a i j : Int) : Rat) = _; rw [put_ne hi]] at this
  have Anew : In m (r + 1) (cr (put A r a)) (cs a) := by
    have := In.gen (m := m) (F := cr (put A r a)) (show r < r + 1 by omega)
    rwa [show cr (put A r a) r = cs a from funext fun j => by show ((put A r a r j : Int) : Rat) = _; rw [put_at]] at this
  have gA : In m (r + 1) (cr (put A r a)) (cs g) := by
    refine ((hg.trans fun k hk => Aold (s.fA k hk)).add (Anew.mul h)).congr fun j hj => ?_
    show ((g j : Int) : Rat) = ((g j : Rat) - h * (a j : Rat)) + h * (a j : Rat)
    grind
  have npv : ∀ k, k < r → f' k (p k) ≠ 0 := fun k hk => by
    obtain ⟨d, e, t, hd, he, hl, _⟩ := hf k hk
    obtain ⟨p1, p2, _⟩ := s.piv k hk
    intro z
    have := hl _ p1
    rw [z, gz k hk, Int.mul_zero, Int.mul_zero, Int.sub_zero] at this
    rcases Int.mul_eq_zero.mp this.symm with w | w
    · omega
    · exact p2 w
  refine ⟨fun i j hi hj => ?_, fun i hi => ?_, fun k hk => ?_, fun b hb' => ?_, fun l hl => ?_, fun k hk => ?_, fun c hc => ?_, by rw [List.length_append]; exact Nat.add_le_add s.len (Nat.le_refl 1)⟩
  · by_cases z : i = r
    · subst z; rw [put_at]; exact hb j hj
    · rw [put_ne (by omega)]; exact s.bnd i j (by omega) hj
  · by_cases z : i = r
    · subst z; rw [put_at]; exact List.mem_append_right _ (List.mem_singleton.mpr rfl)
    · rw [put_ne (by omega)]; exact List.mem_append_left _ (s.mem i (by omega))
  · by_cases z : k = r
    · subst z; rw [put_at]; exact gA
    · have hk' : k < r := by omega
      rw [put_ne hk']
      obtain ⟨d, e, t, hd, he, hl, _⟩ := hf k hk'
      refine (((Aold (s.fA k hk')).mul ((e : Rat) / d)).sub (gA.mul ((t : Rat) / d))).congr fun j hj => ?_
      have e1 := congrArg (fun z : Int => (z : Rat)) (hl j hj)
      simp only [Rat.intCast_mul, Rat.intCast_sub] at e1
      have hd' := c_ne (show d ≠ 0 by omega)
      show ((f' k j : Int) : Rat) = (e : Rat) / d * (f k j : Rat) - (t : Rat) / d * (g j : Rat)
      grind
  · rcases List.mem_append.mp hb' with z | z
    · exact (s.Ad b z).trans fk
    · rw [List.mem_singleton.mp z]; exact aF
  · by_cases z : l = r
    · subst z
      rw [if_pos rfl, put_at]
      refine ⟨hq, gq, gl, fun l' h1 h2 => ?_⟩
      rw [put_ne (by omega)]
      obtain ⟨_, _, _, _, _, _, h0, _⟩ := hf l' (by omega)
      exact h0
    · have hl' : l < r := by omega
      rw [if_neg z, put_ne hl']
      obtain ⟨d, e, t, hd, he, hl0, hq0, ht, _⟩ := hf l hl'
      obtain ⟨p1, p2, p3, p4⟩ := s.piv l hl'
      refine ⟨p1, npv l hl', fun j hj => ?_, fun l' h1 h2 => ?_⟩
      · have e1 := hl0 j (by omega)
        rw [p3 j hj, Int.mul_zero] at e1
        have : t * g j = 0 := by
          by_cases tz : t = 0
          · rw [tz, Int.zero_mul]
          · have fq : f l q ≠ 0 := fun w => tz (ht w)
            have : p l ≤ q := by
              rcases Nat.lt_or_ge q (p l) with w | w
              · exact absurd (p3 q w) fq
              · exact w
            rw [gl j (by omega), Int.mul_zero]
        have e2 : d * f' l j = 0 := by omega
        rcases Int.mul_eq_zero.mp e2 with w | w
        · omega
        · exact w
      · by_cases z' : l' = r
        · subst z'; rw [put_at]; exact gz l hl'
        · rw [put_ne (by omega)]
          obtain ⟨d', e', t', hd', he', hl1, _⟩ := hf l' (by omega)
          have e1 := hl1 _ p1
          rw [p4 l' (by omega) h2, gz l hl', Int.mul_zero, Int.mul_zero] at e1
          have e2 : d' * f' l' (p l) = 0 := by omega
          rcases Int.mul_eq_zero.mp e2 with w | w
          · omega
          · exact w
  · by_cases z : k = r
    · subst z; rw [put_at]; exact gp
    · have hk' : k < r := by omega
      rw [put_ne hk']
      obtain ⟨d, e, t, hd, he, hl, _, _, hpr⟩ := hf k hk'
      exact hpr ⟨p k, (s.piv k hk').1, npv k hk'⟩
  · have cr0 : c r = 0 := by
      rcases Int.decEq (c r) 0 with z | z
      · exfalso
        -- a would be a sum of multiples of the kept rows
        have e1 : In m r (cr A) (cs a) := by
          refine ((In.sum (m := m) (F := cr A) (G := cr A) (c := fun i => (c i : Rat)) fun i hi => In.gen hi).mul (-1 / (c r : Rat))).congr fun j hj => ?_
          have h1 := hc j hj
          rw [Sg_snoc, put_at, Sg_congr (g := fun i => c i * A i j) fun i hi => by rw [put_ne hi]] at h1
          have h2 := congrArg (fun w : Int => (w : Rat)) h1
          simp only [Rat.intCast_add, Rat.intCast_mul, Sg_cast] at h2
          have hcr := c_ne z
          show ((a j : Int) : Rat) = -1 / (c r : Rat) * Sg r (fun i => (c i : Rat) * (A i j : Rat))
          have h3 : Sg r (fun i => (c i : Rat) * (A i j : Rat)) + (c r : Rat) * (a j : Rat) = 0 := h2
          grind
        have e2 : In m r (cr f) (cs g) := by
          refine (hg.add ((e1.trans fun i hi => s.Ad _ (s.mem i hi)).mul h)).congr fun j hj => ?_
          show ((g j : Int) : Rat) = ((g j : Rat) - h * (a j : Rat)) + h * (a j : Rat)
          grind
        exact gq (c_zero (e2.zero_of s.piv' (fun l hl => by show ((g (p l) : Int) : Rat) = 0; rw [gz l hl]; rfl) q hq))
      · exact z
    have old := s.ind c fun j hj => by
      have h1 := hc j hj
      rw [Sg_snoc, put_at, cr0, Int.zero_mul, Int.add_zero, Sg_congr (g := fun i => c i * A i j) fun i hi => by rw [put_ne hi]] at h1
      exact h1
    intro i hi
    by_cases z : i = r
    · subst z; exact cr0
    · exact old i (by omega)
end
end RW

set_option Elab.async false
set_option linter.all false
set_option maxRecDepth 100000
set_option maxHeartbeats 4000000
namespace RW
open DL
/-- the stairs at their end -/
structure Stn (m : Nat) (dn : List (Nat → Int)) (r : Nat) (f : Nat → Nat → Int) (p : Nat → Nat) : Prop where
  inc : ∀ k l, k < l → l < r → p k < p l
  piv : Piv m r f p
  prim : ∀ k, k < r → Prim m (f k)
  Ad : ∀ a ∈ dn, In m r (cr f) (cs a)
  fd : ∀ k, k < r → In m dn.length (fun i => cs (dn.getD i (fun _ => 0))) (cs (f k))
  len : r ≤ dn.length
section
variable {m B r : Nat} {dn : List (Nat → Int)} {A f : Nat → Nat → Int} {p : Nat → Nat}
theorem Stf.inj (s : Stf m B dn r A f p) {k l : Nat} (hk : k < r) (hl : l < r) (h : p k = p l) : k = l := by
  rcases Nat.decEq k l with z | z
  · obtain ⟨_, p2, _, p4⟩ := s.piv k hk
    obtain ⟨_, q2, _⟩ := s.piv l hl
    exact absurd (by rw [← h]; exact p4 l hl (Ne.symm z)) q2
  · exact z
def srt (r : Nat) (p : Nat → Nat) : List (Int × Nat) := sortG ((List.range r).map fun k => ((p k : Nat) : Int) |> fun z => (z, k))
def prm (r : Nat) (p : Nat → Nat) (k : Nat) : Nat := ((srt r p).getD k (0, 0)).2
theorem srt_perm : (srt r p).Perm ((List.range r).map fun k => (((p k : Nat) : Int), k)) := sortG_perm _
theorem srt_len : (srt r p).length = r := by rw [srt_perm.length_eq, List.length_map, List.length_range]
theorem srt_mem {q : Int × Nat} (h : q ∈ srt r p) : q.1 = ((p q.2 : Nat) : Int) ∧ q.2 < r := by
  obtain ⟨k, hk, rfl⟩ := List.mem_map.mp (srt_perm.mem_iff.mp h)
  exact ⟨rfl, List.mem_range.mp hk⟩
theorem srt_get {k : Nat} (h : k < r) : (srt r p)[k]? = some (((p (prm r p k) : Nat) : Int), prm r p k) ∧ prm r p k < r := by
  have hl : k < (srt r p).length := by rw [srt_len]; exact h
  have e : (srt r p).getD k (0, 0) = (srt r p)[k] := by rw [List.getD_eq_getElem?_getD, List.getElem?_eq_getElem hl]; rfl
  have hm := srt_mem (List.getElem_mem hl)
  have e2 : prm r p k = ((srt r p)[k]).2 := by unfold prm; rw [e]
  refine ⟨?_, by rw [e2]; exact hm.2⟩
  rw [List.getElem?_eq_getElem hl, e2, ← hm.1]
theorem prm_inj {k l : Nat} (hk : k < r) (hl : l < r) (h : prm r p k = prm r p l) : k = l := by
  have nd : ((srt r p).map (·.2)).Nodup := by
    have := (srt_perm (r := r) (p := p)).map (·.2)
    rw [List.map_map, show ((fun q : Int × Nat => q.2) ∘ fun k => (((p k : Nat) : Int), k)) = id from rfl, List.map_id] at this
    exact this.nodup_iff.mpr List.nodup_range
  have g1 : ((srt r p).map (·.2))[k]? = some (prm r p k) := by rw [List.getElem?_map, (srt_get hk).1]; rfl
  have g2 : ((srt r p).map (·.2))[l]? = some (prm r p l) := by rw [List.getElem?_map, (srt_get hl).1]; rfl
  rw [h] at g1
  obtain ⟨h1, e1⟩ := List.getElem?_eq_some_iff.mp g1
  obtain ⟨h2, e2⟩ := List.getElem?_eq_some_iff.mp g2
  exact (List.getElem_inj nd).mp (e1.trans e2.symm)
theorem prm_sur {k : Nat} (hk : k < r) : ∃ l, l < r ∧ prm r p l = k := by
  have hm : (((p k : Nat) : Int), k) ∈ srt r p := srt_perm.mem_iff.mpr (List.mem_map.mpr ⟨k, List.mem_range.mpr hk, rfl⟩)
  obtain ⟨l, hl, e⟩ := List.mem_iff_getElem.mp hm
  rw [srt_len] at hl
  refine ⟨l, hl, ?_⟩
  have := (srt_get (p := p) hl).1
  rw [List.getElem?_eq_getElem (by rw [srt_len]; exact hl), e] at this
  exact (congrArg (fun z : Int × Nat => z.2) (Option.some.inj this)).symm
theorem Stf.sorted (s : Stf m B dn r A f p) : Stn m dn r (fun k => f (prm r p k)) (fun k => p (prm r p k)) := by
  refine ⟨fun k l hkl hl => ?_, fun l hl => ?_, fun k hk => s.prim _ (srt_get hk).2, fun a ha => (s.Ad a ha).trans fun k hk => ?_, fun k hk => (s.fA _ (srt_get hk).2).trans fun i hi => ?_, s.len⟩
  · have hk : k < r := by omega
    have g1 := srt_get (p := p) hk
    have g2 := srt_get (p := p) hl
    have ps := List.pairwise_iff_getElem.mp (sortG_sorted ((List.range r).map fun k => (((p k : Nat) : Int), k))) k l (by show k < (srt r p).length; rw [srt_len]; exact hk) (by show l < (srt r p).length; rw [srt_len]; exact hl) hkl
    have e1 : (srt r p)[k]'(by rw [srt_len]; exact hk) = (((p (prm r p k) : Nat) : Int), prm r p k) := by
      have := g1.1
      rw [List.getElem?_eq_getElem (by rw [srt_len]; exact hk)] at this
      exact Option.some.inj this
    have e2 : (srt r p)[l]'(by rw [srt_len]; exact hl) = (((p (prm r p l) : Nat) : Int), prm r p l) := by
      have := g2.1
      rw [List.getElem?_eq_getElem (by rw [srt_len]; exact hl)] at this
      exact Option.some.inj this
    have ps : ((srt r p)[k]'(by rw [srt_len]; exact hk)).1 ≤ ((srt r p)[l]'(by rw [srt_len]; exact hl)).1 := ps
    rw [e1, e2] at ps
    have ps : ((p (prm r p k) : Nat) : Int) ≤ ((p (prm r p l) : Nat) : Int) := ps
    have ne : p (prm r p k) ≠ p (prm r p l) := fun z => by
      have := prm_inj hk hl (s.inj g1.2 g2.2 z)
      omega
    show p (prm r p k) < p (prm r p l)
    omega
  · obtain ⟨p1, p2, p3, p4⟩ := s.piv _ (srt_get (p := p) hl).2
    exact ⟨p1, p2, p3, fun l' h1 h2 => p4 _ (srt_get h1).2 fun z => h2 (prm_inj h1 hl z)⟩
  · obtain ⟨l, hl, e⟩ := prm_sur (p := p) hk
    have := In.gen (m := m) (F := cr fun k => f (prm r p k)) hl
    rwa [show cr (fun k => f (prm r p k)) l = cr f k from by show (fun j => ((f (prm r p l) j : Int) : Rat)) = _; rw [e]] at this
  · obtain ⟨n, hn, e⟩ := List.mem_iff_getElem.mp (s.mem i hi)
    have := In.gen (m := m) (F := fun i => cs (dn.getD i fun _ => 0)) hn
    rwa [show cs (dn.getD n fun _ => 0) = cr A i by
      rw [List.getD_eq_getElem?_getD, List.getElem?_eq_getElem hn]
      show cs (dn[n]) = _
      rw [e]] at this
/-- the sorted data -/
theorem sortD_rl {g : Nat → D} : sortD ((List.range r).map fun k => ((p k : Nat) : Int)) (rl r g) = rl r (fun k => g (prm r p k)) := by
  unfold sortD
  have hz : ((List.range r).map fun k => ((p k : Nat) : Int)).zip (rl r g) = ((List.range r).map fun k => (((p k : Nat) : Int), k)).map fun q => (q.1, g q.2) := by
    unfold rl
    rw [List.zip_map', List.map_map]
    rfl
  rw [hz, sortG_map (g := g), List.map_map]
  refine List.ext_getElem? fun k => ?_
  by_cases hk : k < r
  · rw [rl_get hk, List.getElem?_map]
    have := (srt_get (p := p) hk).1
    unfold srt at this
    rw [this]; rfl
  · rw [List.getElem?_eq_none (by rw [List.length_map]; show (srt r p).length ≤ k; rw [srt_len]; omega), List.getElem?_eq_none (by rw [rl_len]; omega)]
theorem keys_nodup (s : Stf m B dn r A f p) : ((List.range r).map fun k => ((p k : Nat) : Int)).Nodup := by
  rw [List.nodup_iff_pairwise_ne, List.pairwise_map]
  refine List.Pairwise.imp_of_mem (fun {a b} ha hb h => ?_) List.nodup_range
  intro z
  exact h (s.inj (List.mem_range.mp ha) (List.mem_range.mp hb) (by omega))
end
end RW

set_option Elab.async false
set_option linter.all false
set_option maxRecDepth 100000
set_option maxHeartbeats 4000000
namespace G86
open PySem PySem.Spec PyProof.Rows L2 DL
def c_NOUGHT_fracs : D := .tup [.int 0, .int 1]
def c_NOUGHT_TRIPLE : D := .tup [.tup [.int 0, .int 1], .tup [.int 0, .int 1], .tup [.int 0, .int 1]]
def c_NOUGHT_screws : D := .tup [c_NOUGHT_TRIPLE, c_NOUGHT_TRIPLE]
def c_LEAST_MASSES : D := .int 3
def c_MOST_MASSES : D := .int 8
def c_UNITS : D := .tup [.tup [.tup [.tup [.int 1, .int 1], .tup [.int 0, .int 1], .tup [.int 0, .int 1]], .tup [.tup [.int 0, .int 1], .tup [.int 0, .int 1], .tup [.int 0, .int 1]]], .tup [.tup [.tup [.int 0, .int 1], .tup [.int 1, .int 1], .tup [.int 0, .int 1]], .tup [.tup [.int 0, .int 1], .tup [.int 0, .int 1], .tup [.int 0, .int 1]]], .tup [.tup [.tup [.int 0, .int 1], .tup [.int 0, .int 1], .tup [.int 1, .int 1]], .tup [.tup [.int 0, .int 1], .tup [.int 0, .int 1], .tup [.int 0, .int 1]]], .tup [.tup [.tup [.int 0, .int 1], .tup [.int 0, .int 1], .tup [.int 0, .int 1]], .tup [.tup [.int 1, .int 1], .tup [.int 0, .int 1], .tup [.int 0, .int 1]]], .tup [.tup [.tup [.int 0, .int 1], .tup [.int 0, .int 1], .tup [.int 0, .int 1]], .tup [.tup [.int 0, .int 1], .tup [.int 1, .int 1], .tup [.int 0, .int 1]]], .tup [.tup [.tup [.int 0, .int 1], .tup [.int 0, .int 1], .tup [.int 0, .int 1]], .tup [.tup [.int 0, .int 1], .tup [.int 0, .int 1], .tup [.int 1, .int 1]]]]
/-! is_whole -/
def m_is_whole : DS :=
 (mRet (mAnd (mUn (cIsI isInt) (mV 0)) (mNot (mUn (cIsI (· == "bool")) (mV 0)))))
def f_is_whole : DF := runDef 1 1 m_is_whole
/-! common_part -/
def m_common_part : DS :=
 (mSeq (mAsg (mC (.int 0)) (bName 1))
 (mSeq (mFor (itSeq (mV 0)) (bName 2)
 (mAsg (mCall cGcd (mCons (mV 1) (mCons (mV 2) mNil))) (bName 1)))
 (mRet (mV 1))))
def f_common_part : DF := runDef 1 3 m_common_part
/-! lowest -/
def m_lowest : DS :=
 (mSeq (mAsg (mDef 1 f_common_part (mCons (mV 0) mNil)) (bName 1))
 (mRet (mCall cTuple (mCons (mLc newLst (itSeq (mV 0)) (bName 2) mYes (mOp dFdiv (mV 2) (mV 1)) [2]) mNil))))
def f_lowest : DF := runDef 1 3 m_lowest
/-! lowest_over -/
def m_lowest_over : DS :=
 (mSeq (mAsg (mIf (mTst (mOp dGt (mV 1) (mC (.int 0)))) (mC (.int 1)) (mUn dNeg (mC (.int 1)))) (bName 2))
 (mRet (mDef 1 f_lowest (mCons (mOp (dAdd newLst) (mLc newLst (itSeq (mV 0)) (bName 3) mYes (mOp (dMul newLst) (mV 2) (mV 3)) [3]) (mLst newLst (mCons (mOp (dMul newLst) (mV 2) (mV 1)) mNil))) mNil))))
def f_lowest_over : DF := runDef 2 4 m_lowest_over
/-! ratio -/
def m_ratio : DS :=
 (mRet (mDef 2 f_lowest_over (mCons (mLst newLst (mCons (mV 0) mNil)) (mCons (mV 1) mNil))))
def f_ratio : DF := runDef 2 2 m_ratio
/-! plus -/
def m_plus : DS :=
 (mRet (mDef 2 f_ratio (mCons (mOp (dAdd newLst) (mOp (dMul newLst) (mOp dIx (mV 0) (mC (.int 0))) (mOp dIx (mV 1) (mC (.int 1)))) (mOp (dMul newLst) (mOp dIx (mV 1) (mC (.int 0))) (mOp dIx (mV 0) (mC (.int 1))))) (mCons (mOp (dMul newLst) (mOp dIx (mV 0) (mC (.int 1))) (mOp dIx (mV 1) (mC (.int 1)))) mNil))))
def f_plus : DF := runDef 2 2 m_plus
/-! minus -/
def m_minus : DS :=
 (mRet (mDef 2 f_ratio (mCons (mOp dSub (mOp (dMul newLst) (mOp dIx (mV 0) (mC (.int 0))) (mOp dIx (mV 1) (mC (.int 1)))) (mOp (dMul newLst) (mOp dIx (mV 1) (mC (.int 0))) (mOp dIx (mV 0) (mC (.int 1))))) (mCons (mOp (dMul newLst) (mOp dIx (mV 0) (mC (.int 1))) (mOp dIx (mV 1) (mC (.int 1)))) mNil))))
def f_minus : DF := runDef 2 2 m_minus
/-! times -/
def m_times : DS :=
 (mRet (mDef 2 f_ratio (mCons (mOp (dMul newLst) (mOp dIx (mV 0) (mC (.int 0))) (mOp dIx (mV 1) (mC (.int 0)))) (mCons (mOp (dMul newLst) (mOp dIx (mV 0) (mC (.int 1))) (mOp dIx (mV 1) (mC (.int 1)))) mNil))))
def f_times : DF := runDef 2 2 m_times
/-! total -/
def m_total : DS :=
 (mSeq (mAsg (mC c_NOUGHT_fracs) (bName 1))
 (mSeq (mFor (itSeq (mV 0)) (bName 2)
 (mAsg (mDef 2 f_plus (mCons (mV 1) (mCons (mV 2) mNil))) (bName 1)))
 (mRet (mV 1))))
def f_total : DF := runDef 1 3 m_total
/-! over_one -/
def m_over_one : DS :=
 (mSeq (mAsg (mC (.int 1)) (bName 1))
 (mSeq (mFor (itSeq (mV 0)) (bName 2)
 (mAsg (mCall cLcm (mCons (mV 1) (mCons (mOp dIx (mV 2) (mC (.int 1))) mNil))) (bName 1)))
 (mRet (mTup (mCons (mLc newLst (itSeq (mV 0)) (bName 2) mYes (mOp (dMul newLst) (mOp dIx (mV 2) (mC (.int 0))) (mOp dFdiv (mV 1) (mOp dIx (mV 2) (mC (.int 1))))) [2]) (mCons (mV 1) mNil))))))
def f_over_one : DF := runDef 1 3 m_over_one
/-! is_fraction -/
def m_is_fraction : DS :=
 (mSeq (mIfS (mOrT (mNotT (mTst (mUn (cIsI (· == "tuple")) (mV 0)))) (mOrT (mTst (mOp (dEq true) (mCall cLen (mCons (mV 0) mNil)) (mC (.int 2)))) (mOrT (mNotT (mTst (mDef 1 f_is_whole (mCons (mOp dIx (mV 0) (mC (.int 0))) mNil)))) (mNotT (mTst (mDef 1 f_is_whole (mCons (mOp dIx (mV 0) (mC (.int 1))) mNil)))))))
 (mRet (mC (.bl false)))
 mNx)
 (mRet (mAnd (mOp dGt (mOp dIx (mV 0) (mC (.int 1))) (mC (.int 0))) (mOp (dEq false) (mDef 1 f_common_part (mCons (mV 0) mNil)) (mC (.int 1))))))
def f_is_fraction : DF := runDef 1 1 m_is_fraction
/-! are_fractions -/
def m_are_fractions : DS :=
 (mRet (mAnd (mUn (cIsI (· == "tuple")) (mV 0)) (mAnd (mOp (dEq false) (mCall cLen (mCons (mV 0) mNil)) (mV 1)) (mOp (dEq false) (mLc newLst (itSeq (mV 0)) (bName 2) (mNotT (mTst (mDef 1 f_is_fraction (mCons (mV 2) mNil)))) (mV 2) [2]) (mLst newLst mNil)))))
def f_are_fractions : DF := runDef 2 3 m_are_fractions
/-! is_triple -/
def m_is_triple : DS :=
 (mRet (mDef 2 f_are_fractions (mCons (mV 0) (mCons (mC (.int 3)) mNil))))
def f_is_triple : DF := runDef 1 1 m_is_triple
/-! summed -/
def m_summed : DS :=
 (mRet (mCall cTuple (mCons (mLc newLst (itZip (mCons (mV 0) (mCons (mV 1) mNil))) (bTup 2 (bCons (bName 2) (bCons (bName 3) bNil))) mYes (mDef 2 f_plus (mCons (mV 2) (mCons (mV 3) mNil))) [2, 3]) mNil)))
def f_summed : DF := runDef 2 4 m_summed
/-! lessened -/
def m_lessened : DS :=
 (mRet (mCall cTuple (mCons (mLc newLst (itZip (mCons (mV 0) (mCons (mV 1) mNil))) (bTup 2 (bCons (bName 2) (bCons (bName 3) bNil))) mYes (mDef 2 f_minus (mCons (mV 2) (mCons (mV 3) mNil))) [2, 3]) mNil)))
def f_lessened : DF := runDef 2 4 m_lessened
/-! scaled -/
def m_scaled : DS :=
 (mRet (mCall cTuple (mCons (mLc newLst (itSeq (mV 0)) (bName 2) mYes (mDef 2 f_times (mCons (mV 2) (mCons (mV 1) mNil))) [2]) mNil)))
def f_scaled : DF := runDef 2 3 m_scaled
/-! dot_of -/
def m_dot_of : DS :=
 (mRet (mDef 1 f_total (mCons (mLc newLst (itZip (mCons (mV 0) (mCons (mV 1) mNil))) (bTup 2 (bCons (bName 2) (bCons (bName 3) bNil))) mYes (mDef 2 f_times (mCons (mV 2) (mCons (mV 3) mNil))) [2, 3]) mNil)))
def f_dot_of : DF := runDef 2 4 m_dot_of
/-! crossed -/
def m_crossed : DS :=
 (mSeq (mAsg (mTup (mCons (mV 0) (mCons (mV 1) mNil))) (bTup 2 (bCons (bTup 3 (bCons (bName 2) (bCons (bName 3) (bCons (bName 4) bNil)))) (bCons (bTup 3 (bCons (bName 5) (bCons (bName 6) (bCons (bName 7) bNil)))) bNil))))
 (mRet (mTup (mCons (mDef 2 f_minus (mCons (mDef 2 f_times (mCons (mV 3) (mCons (mV 7) mNil))) (mCons (mDef 2 f_times (mCons (mV 4) (mCons (mV 6) mNil))) mNil))) (mCons (mDef 2 f_minus (mCons (mDef 2 f_times (mCons (mV 4) (mCons (mV 5) mNil))) (mCons (mDef 2 f_times (mCons (mV 2) (mCons (mV 7) mNil))) mNil))) (mCons (mDef 2 f_minus (mCons (mDef 2 f_times (mCons (mV 2) (mCons (mV 6) mNil))) (mCons (mDef 2 f_times (mCons (mV 3) (mCons (mV 5) mNil))) mNil))) mNil))))))
def f_crossed : DF := runDef 2 8 m_crossed
/-! is_screw -/
def m_is_screw : DS :=
 (mRet (mAnd (mUn (cIsI (· == "tuple")) (mV 0)) (mAnd (mOp (dEq false) (mCall cLen (mCons (mV 0) mNil)) (mC (.int 2))) (mAnd (mDef 1 f_is_triple (mCons (mOp dIx (mV 0) (mC (.int 0))) mNil)) (mDef 1 f_is_triple (mCons (mOp dIx (mV 0) (mC (.int 1))) mNil))))))
def f_is_screw : DF := runDef 1 1 m_is_screw
/-! check_screw -/
def m_check_screw : DS :=
 (mIfS (mNotT (mTst (mDef 1 f_is_screw (mCons (mV 0) mNil))))
 mStop
 mNx)
def f_check_screw : DF := runDef 1 1 m_check_screw
/-! sum_of -/
def m_sum_of : DS :=
 (mRet (mTup (mCons (mDef 2 f_summed (mCons (mOp dIx (mV 0) (mC (.int 0))) (mCons (mOp dIx (mV 1) (mC (.int 0))) mNil))) (mCons (mDef 2 f_summed (mCons (mOp dIx (mV 0) (mC (.int 1))) (mCons (mOp dIx (mV 1) (mC (.int 1))) mNil))) mNil))))
def f_sum_of : DF := runDef 2 2 m_sum_of
/-! times_of -/
def m_times_of : DS :=
 (mRet (mTup (mCons (mDef 2 f_scaled (mCons (mOp dIx (mV 0) (mC (.int 0))) (mCons (mV 1) mNil))) (mCons (mDef 2 f_scaled (mCons (mOp dIx (mV 0) (mC (.int 1))) (mCons (mV 1) mNil))) mNil))))
def f_times_of : DF := runDef 2 2 m_times_of
/-! weighed_screws -/
def m_weighed_screws : DS :=
 (mSeq (mAsg (mC c_NOUGHT_screws) (bName 2))
 (mSeq (mFor (itZip (mCons (mV 0) (mCons (mV 1) mNil))) (bTup 2 (bCons (bName 3) (bCons (bName 4) bNil)))
 (mAsg (mDef 2 f_sum_of (mCons (mV 2) (mCons (mDef 2 f_times_of (mCons (mV 4) (mCons (mV 3) mNil))) mNil))) (bName 2)))
 (mRet (mV 2))))
def f_weighed_screws : DF := runDef 2 5 m_weighed_screws
/-! powered -/
def m_powered : DS :=
 (mRet (mDef 2 f_plus (mCons (mDef 2 f_dot_of (mCons (mOp dIx (mV 0) (mC (.int 0))) (mCons (mOp dIx (mV 1) (mC (.int 1))) mNil))) (mCons (mDef 2 f_dot_of (mCons (mOp dIx (mV 0) (mC (.int 1))) (mCons (mOp dIx (mV 1) (mC (.int 0))) mNil))) mNil))))
def f_powered : DF := runDef 2 2 m_powered
/-! moment_by -/
def m_moment_by : DS :=
 (mRet (mDef 2 f_summed (mCons (mOp dIx (mV 0) (mC (.int 1))) (mCons (mDef 2 f_crossed (mCons (mOp dIx (mV 0) (mC (.int 0))) (mCons (mV 1) mNil))) mNil))))
def f_moment_by : DF := runDef 2 2 m_moment_by
/-! lowest_row -/
def m_lowest_row : DS :=
 (mSeq (mAsg (mDef 1 f_common_part (mCons (mV 0) mNil)) (bName 1))
 (mRet (mIf (mTst (mOp dLt (mV 1) (mC (.int 2)))) (mCall (cList newLst) (mCons (mV 0) mNil)) (mLc newLst (itSeq (mV 0)) (bName 2) mYes (mOp dFdiv (mV 2) (mV 1)) [2]))))
def f_lowest_row : DF := runDef 1 3 m_lowest_row
/-! whole_row -/
def m_whole_row : DS :=
 (mRet (mDef 1 f_lowest_row (mCons (mOp dIx (mDef 1 f_over_one (mCons (mV 0) mNil)) (mC (.int 0))) mNil)))
def f_whole_row : DF := runDef 1 1 m_whole_row
/-! first_place -/
def m_first_place : DS :=
 (mSeq (mFor (itEnum (mCons (mV 0) mNil)) (bTup 2 (bCons (bName 1) (bCons (bName 2) bNil)))
 (mIfS (mTst (mOp (dEq true) (mV 2) (mC (.int 0))))
 (mRet (mV 1))
 mNx))
 (mRet (mC .non)))
def f_first_place : DF := runDef 1 3 m_first_place
/-! cleared -/
def m_cleared : DS :=
 (mSeq (mAsg (mTup (mCons (mOp dIx (mV 1) (mV 2)) (mCons (mOp dIx (mV 0) (mV 2)) mNil))) (bTup 2 (bCons (bName 3) (bCons (bName 4) bNil))))
 (mSeq (mIfS (mTst (mOp (dEq false) (mV 4) (mC (.int 0))))
 (mRet (mCall (cList newLst) (mCons (mV 0) mNil)))
 mNx)
 (mSeq (mAsg (mIf (mTst (mOp dGt (mV 3) (mC (.int 0)))) (mC (.int 1)) (mUn dNeg (mC (.int 1)))) (bName 5))
 (mRet (mDef 1 f_lowest_row (mCons (mLc newLst (itZip (mCons (mV 0) (mCons (mV 1) mNil))) (bTup 2 (bCons (bName 6) (bCons (bName 7) bNil))) mYes (mOp (dMul newLst) (mV 5) (mOp dSub (mOp (dMul newLst) (mV 6) (mV 3)) (mOp (dMul newLst) (mV 7) (mV 4)))) [6, 7]) mNil))))))
def f_cleared : DF := runDef 3 8 m_cleared
/-! stairs_of -/
def m_stairs_of : DS :=
 (mSeq (mAsg (mLst newLst mNil) (bName 1))
 (mSeq (mFor (itSeq (mV 0)) (bName 2)
 (mSeq (mAsg (mDef 1 f_lowest_row (mCons (mV 2) mNil)) (bName 3))
 (mSeq (mFor (itSeq (mV 1)) (bName 4)
 (mAsg (mDef 3 f_cleared (mCons (mV 3) (mCons (mV 4) (mCons (mDef 1 f_first_place (mCons (mV 4) mNil)) mNil)))) (bName 3)))
 (mSeq (mAsg (mDef 1 f_first_place (mCons (mV 3) mNil)) (bName 5))
 (mIfS (mTst (mOp (dIs true) (mV 5) (mC .non)))
 (mAsg (mOp (dAdd newLst) (mLc newLst (itSeq (mV 1)) (bName 4) mYes (mDef 3 f_cleared (mCons (mV 4) (mCons (mV 3) (mCons (mV 5) mNil)))) [4]) (mLst newLst (mCons (mV 3) mNil))) (bName 1))
 mNx)))))
 (mRet (mSortK newLst f_first_place (mCons (mV 1) mNil)))))
def f_stairs_of : DF := runDef 1 6 m_stairs_of
/-! shares_for -/
def m_shares_for : DS :=
 (mSeq (mAsg (mCall cLen (mCons (mV 0) mNil)) (bName 2))
 (mSeq (mAsg (mLc newLst (itR1 (mCons (mCall cLen (mCons (mV 1) mNil)) mNil)) (bName 7) mYes (mDef 1 f_whole_row (mCons (mOp (dAdd newLst) (mLc newLst (itSeq (mV 0)) (bName 8) mYes (mOp dIx (mV 8) (mV 7)) [8]) (mLst newLst (mCons (mOp dIx (mV 1) (mV 7)) mNil))) mNil)) [7]) (bName 3))
 (mSeq (mAsg (mOp (dMul newLoc) (mLst newLst (mCons (mTup (mCons (mC (.int 0)) (mCons (mC (.int 1)) mNil))) mNil)) (mV 2)) (bName 4))
 (mSeq (mFor (itSeq (mDef 1 f_stairs_of (mCons (mV 3) mNil))) (bName 5)
 (mSeq (mAsg (mDef 1 f_first_place (mCons (mV 5) mNil)) (bName 6))
 (mSeq (mIfS (mTst (mOp (dEq false) (mV 6) (mV 2)))
 (mRet (mC .non))
 mNx)
 (mAsg (mDef 2 f_ratio (mCons (mOp dIx (mV 5) (mV 2)) (mCons (mOp dIx (mV 5) (mV 6)) mNil))) (bSub (mV 4) (mV 6))))))
 (mRet (mCall cTuple (mCons (mV 4) mNil)))))))
def f_shares_for : DF := runDef 2 9 m_shares_for
/-! is_mass -/
def m_is_mass : DS :=
 (mSeq (mIfS (mOrT (mNotT (mTst (mUn (cIsI (· == "tuple")) (mV 0)))) (mOrT (mTst (mOp (dEq true) (mCall cLen (mCons (mV 0) mNil)) (mC (.int 2)))) (mNotT (mTst (mDef 1 f_is_triple (mCons (mOp dIx (mV 0) (mC (.int 0))) mNil))))))
 (mRet (mC (.bl false)))
 mNx)
 (mRet (mAnd (mDef 1 f_is_fraction (mCons (mOp dIx (mV 0) (mC (.int 1))) mNil)) (mOp dGt (mOp dIx (mOp dIx (mV 0) (mC (.int 1))) (mC (.int 0))) (mC (.int 0))))))
def f_is_mass : DF := runDef 1 1 m_is_mass
/-! are_on_line -/
def m_are_on_line : DS :=
 (mSeq (mAsg (mLc newLst (itSeq (mSl newLst (mV 0) (mPart (mC (.int 1))) mNoP)) (bName 2) mYes (mDef 2 f_lessened (mCons (mV 2) (mCons (mOp dIx (mV 0) (mC (.int 0))) mNil))) [2]) (bName 1))
 (mRet (mOp (dEq false) (mLc newLst (itComb (mCons (mV 1) (mCons (mC (.int 2)) mNil))) (bTup 2 (bCons (bName 3) (bCons (bName 4) bNil))) (mTst (mOp (dEq true) (mDef 2 f_crossed (mCons (mV 3) (mCons (mV 4) mNil))) (mC c_NOUGHT_TRIPLE))) (mC (.int 1)) [3, 4]) (mLst newLst mNil))))
def f_are_on_line : DF := runDef 1 5 m_are_on_line
/-! wrong_mass -/
def m_wrong_mass : DS :=
 (mSeq (mIfS (mOrT (mNotT (mTst (mUn (cIsI (· == "tuple")) (mV 0)))) (mTst (mOp dLt (mCall cLen (mCons (mV 0) mNil)) (mC c_LEAST_MASSES))))
 (mRet (mTup (mCons (mC .non) mNil)))
 mNx)
 (mSeq (mFor (itEnum (mCons (mV 0) mNil)) (bTup 2 (bCons (bName 1) (bCons (bName 2) bNil)))
 (mIfS (mOrT (mTst (mOp (dEq false) (mV 1) (mC c_MOST_MASSES))) (mNotT (mTst (mDef 1 f_is_mass (mCons (mV 2) mNil)))))
 (mRet (mTup (mCons (mV 1) mNil)))
 mNx))
 (mRet (mIf (mTst (mDef 1 f_are_on_line (mCons (mLc newLst (itSeq (mV 0)) (bName 2) mYes (mOp dIx (mV 2) (mC (.int 0))) [2]) mNil))) (mTup (mCons (mCall cLen (mCons (mV 0) mNil)) mNil)) (mC .non)))))
def f_wrong_mass : DF := runDef 1 3 m_wrong_mass
/-! check_body -/
def m_check_body : DS :=
 (mSeq (mAsg (mDef 1 f_wrong_mass (mCons (mV 0) mNil)) (bName 1))
 (mIfS (mTst (mOp (dIs true) (mV 1) (mC .non)))
 mStop
 mNx))
def f_check_body : DF := runDef 1 2 m_check_body
/-! momentum_by -/
def m_momentum_by : DS :=
 (mSeq (mAsg (mC c_NOUGHT_screws) (bName 2))
 (mSeq (mFor (itSeq (mV 0)) (bTup 2 (bCons (bName 3) (bCons (bName 4) bNil)))
 (mSeq (mAsg (mDef 2 f_scaled (mCons (mDef 2 f_moment_by (mCons (mV 1) (mCons (mV 3) mNil))) (mCons (mV 4) mNil))) (bName 5))
 (mAsg (mDef 2 f_sum_of (mCons (mV 2) (mCons (mTup (mCons (mV 5) (mCons (mDef 2 f_crossed (mCons (mV 3) (mCons (mV 5) mNil))) mNil))) mNil))) (bName 2))))
 (mRet (mV 2))))
def f_momentum_by : DF := runDef 2 6 m_momentum_by
/-! kept_by -/
def m_kept_by : DS :=
 (mSeq (mAsg (mLc newLst (itSeq (mV 1)) (bName 6) mYes (mDef 2 f_momentum_by (mCons (mV 0) (mCons (mV 6) mNil))) [6]) (bName 3))
 (mSeq (mAsg (mLc newLst (itSeq (mV 3)) (bName 7) mYes (mLc newLst (itSeq (mV 1)) (bName 6) mYes (mDef 2 f_powered (mCons (mV 7) (mCons (mV 6) mNil))) [6]) [7]) (bName 4))
 (mSeq (mAsg (mDef 2 f_shares_for (mCons (mV 4) (mCons (mLc newLst (itSeq (mV 1)) (bName 6) mYes (mDef 2 f_powered (mCons (mV 2) (mCons (mV 6) mNil))) [6]) mNil))) (bName 5))
 (mRet (mDef 2 f_weighed_screws (mCons (mV 5) (mCons (mV 1) mNil)))))))
def f_kept_by : DF := runDef 3 8 m_kept_by
/-! energy -/
def m_energy : DS :=
 (mSeq (mDrop (mDef 1 f_check_body (mCons (mV 0) mNil)))
 (mSeq (mDrop (mDef 1 f_check_screw (mCons (mV 1) mNil)))
 (mRet (mDef 2 f_powered (mCons (mDef 2 f_momentum_by (mCons (mV 0) (mCons (mV 1) mNil))) (mCons (mV 1) mNil))))))
def f_energy : DF := runDef 2 2 m_energy
/-! blown -/
def m_blown : DS :=
 (mSeq (mDrop (mDef 1 f_check_body (mCons (mV 0) mNil)))
 (mSeq (mDrop (mDef 1 f_check_screw (mCons (mV 1) mNil)))
 (mRet (mDef 3 f_kept_by (mCons (mV 0) (mCons (mC c_UNITS) (mCons (mV 1) mNil)))))))
def f_blown : DF := runDef 2 2 m_blown
/-! _law_well -/
def m__law_well : DS :=
 (mSeq (mAsg (mIf (mTst (mOp dLt (mV 1) (mCall cLen (mCons (mV 0) mNil)))) (mCall cInt (mCons (mOp dIx (mV 0) (mV 1)) mNil)) (mOp (dAdd newLst) (mOp (dAdd newLst) (mOp (dMul newLst) (mC (.int 7919)) (mV 1)) (mC (.int 31))) (mOp dMod (mCall cInt (mCons (mCall cSum (mCons (mSl newLst (mV 0) mNoP (mPart (mC (.int 2)))) mNil)) mNil)) (mC (.int 1000003))))) (bName 2))
 (mSeq (mAsg (mOp (dAdd newLst) (mC (.int 40009)) (mOp (dMul newLst) (mC (.int 613)) (mV 1))) (bName 3))
 (mSeq (mFor (itSeq (mOp (dAdd newLst) (mSl newLst (mV 0) mNoP (mPart (mC (.int 7)))) (mLst newLst (mCons (mV 2) mNil)))) (bName 4)
 (mAsg (mOp dMod (mCall cInt (mCons (mOp (dAdd newLst) (mOp (dAdd newLst) (mOp (dMul newLst) (mV 3) (mC (.int 69069))) (mOp dMod (mCall cInt (mCons (mV 4) mNil)) (mC (.int 2147483563)))) (mC (.int 11))) mNil)) (mC (.int 2147483629))) (bName 3)))
 (mRet (mLst newLoc (mCons (mIf (mOrT (mTst (mOp dLt (mV 2) (mC (.int 0)))) (mTst (mOp dGe (mV 2) (mOp dPow (mC (.int 10)) (mC (.int 18)))))) (mCall cAbs (mCons (mV 2) mNil)) (mC (.int 0))) (mCons (mV 3) (mCons (mC (.int 1)) (mCons (mOp (dEq false) (mOp dMod (mCall cInt (mCons (mOp dFdiv (mV 3) (mC (.int 16))) mNil)) (mC (.int 8))) (mC (.int 0))) mNil)))))))))
def f__law_well : DF := runDefL 2 5 m__law_well
/-! _law_draw -/
def m__law_draw : DS :=
 (mSeq (mIfS (mTst (mOp dGt (mOp dIx (mV 0) (mC (.int 0))) (mC (.int 0))))
 (mSeq (mAsg (mOp dMod (mCall cInt (mCons (mOp dIx (mV 0) (mC (.int 0))) mNil)) (mV 1)) (bName 2))
 (mSeq (mAsg (mOp dFdiv (mOp dIx (mV 0) (mC (.int 0))) (mV 1)) (bSub (mV 0) (mC (.int 0))))
 (mRet (mV 2))))
 mNx)
 (mSeq (mAsg (mOp (dAdd newLst) (mOp dIx (mV 0) (mC (.int 2))) (mC (.int 1))) (bSub (mV 0) (mC (.int 2))))
 (mSeq (mAsg (mOp dMod (mCall cInt (mCons (mOp (dAdd newLst) (mOp (dAdd newLst) (mOp (dMul newLst) (mOp dIx (mV 0) (mC (.int 1))) (mC (.int 48271))) (mOp (dMul newLst) (mC (.int 69621)) (mOp dIx (mV 0) (mC (.int 2))))) (mC (.int 7))) mNil)) (mC (.int 2147483587))) (bSub (mV 0) (mC (.int 1))))
 (mSeq (mAsg (mOp dMod (mCall cInt (mCons (mOp (dAdd newLst) (mOp (dMul newLst) (mOp dIx (mV 0) (mC (.int 1))) (mOp (dAdd newLst) (mOp dFdiv (mOp dIx (mV 0) (mC (.int 1))) (mC (.int 11))) (mOp (dMul newLst) (mC (.int 5)) (mOp dIx (mV 0) (mC (.int 2)))))) (mC (.int 13))) mNil)) (mC (.int 2147483579))) (bName 3))
 (mRet (mOp dMod (mCall cInt (mCons (mOp dFdiv (mV 3) (mC (.int 37))) mNil)) (mV 1)))))))
def f__law_draw : DF := runDef 2 4 m__law_draw
/-! _law_pick -/
def m__law_pick : DS :=
 (mRet (mOp dIx (mV 1) (mDef 2 f__law_draw (mCons (mV 0) (mCons (mCall cLen (mCons (mV 1) mNil)) mNil)))))
def f__law_pick : DF := runDef 2 2 m__law_pick
/-! _law_gcd -/
def m__law_gcd : DS :=
 (mSeq (mPar2 0 1 (mCons (mCall cAbs (mCons (mV 0) mNil)) (mCons (mCall cAbs (mCons (mV 1) mNil)) mNil)))
 (mSeq (mWhile (fun (ρ : Sl) (_ : Store) => match ρ[1]? with | some (some (D.int j)) => j.natAbs + 1 | _ => 0) (mTst (mOp dGt (mV 1) (mC (.int 0))))
 (mPar2 0 1 (mCons (mV 1) (mCons (mOp dMod (mCall cInt (mCons (mV 0) mNil)) (mV 1)) mNil))))
 (mRet (mV 0))))
def f__law_gcd : DF := runDef 2 2 m__law_gcd
/-! _law_low -/
def m__law_low : DS :=
 (mSeq (mAsg (mDef 2 f__law_gcd (mCons (mV 0) (mCons (mV 1) mNil))) (bName 2))
 (mSeq (mAsg (mIf (mTst (mOp dGt (mV 1) (mC (.int 0)))) (mV 2) (mOp dSub (mC (.int 0)) (mV 2))) (bName 2))
 (mRet (mTup (mCons (mOp dFdiv (mV 0) (mV 2)) (mCons (mOp dFdiv (mV 1) (mV 2)) mNil))))))
def f__law_low : DF := runDef 2 3 m__law_low
/-! _law_add -/
def m__law_add : DS :=
 (mRet (mDef 2 f__law_low (mCons (mOp (dAdd newLst) (mOp (dMul newLst) (mOp dIx (mV 0) (mC (.int 0))) (mOp dIx (mV 1) (mC (.int 1)))) (mOp (dMul newLst) (mOp dIx (mV 1) (mC (.int 0))) (mOp dIx (mV 0) (mC (.int 1))))) (mCons (mOp (dMul newLst) (mOp dIx (mV 0) (mC (.int 1))) (mOp dIx (mV 1) (mC (.int 1)))) mNil))))
def f__law_add : DF := runDef 2 2 m__law_add
/-! _law_mul -/
def m__law_mul : DS :=
 (mRet (mDef 2 f__law_low (mCons (mOp (dMul newLst) (mOp dIx (mV 0) (mC (.int 0))) (mOp dIx (mV 1) (mC (.int 0)))) (mCons (mOp (dMul newLst) (mOp dIx (mV 0) (mC (.int 1))) (mOp dIx (mV 1) (mC (.int 1)))) mNil))))
def f__law_mul : DF := runDef 2 2 m__law_mul
/-! _law_over -/
def m__law_over : DS :=
 (mRet (mDef 2 f__law_low (mCons (mOp (dMul newLst) (mOp dIx (mV 0) (mC (.int 0))) (mOp dIx (mV 1) (mC (.int 1)))) (mCons (mOp (dMul newLst) (mOp dIx (mV 0) (mC (.int 1))) (mOp dIx (mV 1) (mC (.int 0)))) mNil))))
def f__law_over : DF := runDef 2 2 m__law_over
/-! _law_total -/
def m__law_total : DS :=
 (mSeq (mAsg (mTup (mCons (mC (.int 0)) (mCons (mC (.int 1)) mNil))) (bTup 2 (bCons (bName 1) (bCons (bName 2) bNil))))
 (mSeq (mFor (itSeq (mV 0)) (bName 3)
 (mPar2 1 2 (mCons (mOp (dAdd newLst) (mOp (dMul newLst) (mV 1) (mOp dIx (mV 3) (mC (.int 1)))) (mOp (dMul newLst) (mOp dIx (mV 3) (mC (.int 0))) (mV 2))) (mCons (mOp (dMul newLst) (mV 2) (mOp dIx (mV 3) (mC (.int 1)))) mNil))))
 (mRet (mDef 2 f__law_low (mCons (mV 1) (mCons (mV 2) mNil))))))
def f__law_total : DF := runDef 1 4 m__law_total
/-! _law_dot -/
def m__law_dot : DS :=
 (mRet (mDef 1 f__law_total (mCons (mLc newLst (itZip (mCons (mV 0) (mCons (mV 1) mNil))) (bTup 2 (bCons (bName 2) (bCons (bName 3) bNil))) mYes (mTup (mCons (mOp (dMul newLst) (mOp dIx (mV 2) (mC (.int 0))) (mOp dIx (mV 3) (mC (.int 0)))) (mCons (mOp (dMul newLst) (mOp dIx (mV 2) (mC (.int 1))) (mOp dIx (mV 3) (mC (.int 1)))) mNil))) [2, 3]) mNil)))
def f__law_dot : DF := runDef 2 4 m__law_dot
/-! _law_cross -/
def m__law_cross : DS :=
 (mSeq (mAsg (mTup (mCons (mV 0) (mCons (mV 1) mNil))) (bTup 2 (bCons (bTup 3 (bCons (bName 2) (bCons (bName 3) (bCons (bName 4) bNil)))) (bCons (bTup 3 (bCons (bName 5) (bCons (bName 6) (bCons (bName 7) bNil)))) bNil))))
 (mSeq (mAsg (mLst newLst (mCons (mLst newLst (mCons (mV 3) (mCons (mV 7) (mCons (mV 4) (mCons (mV 6) mNil))))) (mCons (mLst newLst (mCons (mV 4) (mCons (mV 5) (mCons (mV 2) (mCons (mV 7) mNil))))) (mCons (mLst newLst (mCons (mV 2) (mCons (mV 6) (mCons (mV 3) (mCons (mV 5) mNil))))) mNil)))) (bName 8))
 (mSeq (mAsg (mLst newLoc mNil) (bName 9))
 (mSeq (mFor (itSeq (mV 8)) (bTup 4 (bCons (bName 10) (bCons (bName 11) (bCons (bName 12) (bCons (bName 13) bNil)))))
 (mApp (mV 9) (mDef 1 f__law_total (mCons (mLst newLst (mCons (mTup (mCons (mOp (dMul newLst) (mOp dIx (mV 10) (mC (.int 0))) (mOp dIx (mV 11) (mC (.int 0)))) (mCons (mOp (dMul newLst) (mOp dIx (mV 10) (mC (.int 1))) (mOp dIx (mV 11) (mC (.int 1)))) mNil))) (mCons (mTup (mCons (mOp dSub (mC (.int 0)) (mOp (dMul newLst) (mOp dIx (mV 12) (mC (.int 0))) (mOp dIx (mV 13) (mC (.int 0))))) (mCons (mOp (dMul newLst) (mOp dIx (mV 12) (mC (.int 1))) (mOp dIx (mV 13) (mC (.int 1)))) mNil))) mNil))) mNil))))
 (mRet (mCall cTuple (mCons (mV 9) mNil)))))))
def f__law_cross : DF := runDef 2 14 m__law_cross
/-! _law_plus -/
def m__law_plus : DS :=
 (mRet (mCall cTuple (mCons (mLc newLst (itZip (mCons (mV 0) (mCons (mV 1) mNil))) (bTup 2 (bCons (bName 2) (bCons (bName 3) bNil))) mYes (mDef 2 f__law_add (mCons (mV 2) (mCons (mV 3) mNil))) [2, 3]) mNil)))
def f__law_plus : DF := runDef 2 4 m__law_plus
/-! _law_times -/
def m__law_times : DS :=
 (mRet (mCall cTuple (mCons (mLc newLst (itSeq (mV 0)) (bName 2) mYes (mDef 2 f__law_mul (mCons (mV 2) (mCons (mV 1) mNil))) [2]) mNil)))
def f__law_times : DF := runDef 2 3 m__law_times
/-! _law_nought -/
def m__law_nought : DS :=
 (mRet (mTup (mCons (mTup (mCons (mC (.int 0)) (mCons (mC (.int 1)) mNil))) (mCons (mTup (mCons (mC (.int 0)) (mCons (mC (.int 1)) mNil))) (mCons (mTup (mCons (mC (.int 0)) (mCons (mC (.int 1)) mNil))) mNil)))))
def f__law_nought : DF := runDef 0 0 m__law_nought
/-! _law_axis -/
def m__law_axis : DS :=
 (mRet (mCall cTuple (mCons (mLc newLst (itR1 (mCons (mC (.int 3)) mNil)) (bName 1) mYes (mTup (mCons (mIf (mTst (mOp (dEq false) (mV 1) (mV 0))) (mC (.int 1)) (mC (.int 0))) (mCons (mC (.int 1)) mNil))) [1]) mNil)))
def f__law_axis : DF := runDef 1 2 m__law_axis
/-! _law_screws_plus -/
def m__law_screws_plus : DS :=
 (mRet (mTup (mCons (mDef 2 f__law_plus (mCons (mOp dIx (mV 0) (mC (.int 0))) (mCons (mOp dIx (mV 1) (mC (.int 0))) mNil))) (mCons (mDef 2 f__law_plus (mCons (mOp dIx (mV 0) (mC (.int 1))) (mCons (mOp dIx (mV 1) (mC (.int 1))) mNil))) mNil))))
def f__law_screws_plus : DF := runDef 2 2 m__law_screws_plus
/-! _law_screw_times -/
def m__law_screw_times : DS :=
 (mRet (mTup (mCons (mDef 2 f__law_times (mCons (mOp dIx (mV 0) (mC (.int 0))) (mCons (mV 1) mNil))) (mCons (mDef 2 f__law_times (mCons (mOp dIx (mV 0) (mC (.int 1))) (mCons (mV 1) mNil))) mNil))))
def f__law_screw_times : DF := runDef 2 2 m__law_screw_times
/-! _law_line -/
def m__law_line : DS :=
 (mRet (mTup (mCons (mV 1) (mCons (mDef 2 f__law_cross (mCons (mV 0) (mCons (mV 1) mNil))) mNil))))
def f__law_line : DF := runDef 2 2 m__law_line
/-! _law_power -/
def m__law_power : DS :=
 (mRet (mDef 2 f__law_dot (mCons (mOp (dAdd newLst) (mOp dIx (mV 0) (mC (.int 0))) (mOp dIx (mV 0) (mC (.int 1)))) (mCons (mOp (dAdd newLst) (mOp dIx (mV 1) (mC (.int 1))) (mOp dIx (mV 1) (mC (.int 0)))) mNil))))
def f__law_power : DF := runDef 2 2 m__law_power
/-! _law_speed -/
def m__law_speed : DS :=
 (mRet (mDef 2 f__law_plus (mCons (mOp dIx (mV 0) (mC (.int 1))) (mCons (mDef 2 f__law_cross (mCons (mOp dIx (mV 0) (mC (.int 0))) (mCons (mV 1) mNil))) mNil))))
def f__law_speed : DF := runDef 2 2 m__law_speed
/-! _law_is_whole -/
def m__law_is_whole : DS :=
 (mRet (mAnd (mUn (cIsI isInt) (mV 0)) (mNot (mUn (cIsI (· == "bool")) (mV 0)))))
def f__law_is_whole : DF := runDef 1 1 m__law_is_whole
/-! _law_is_fraction -/
def m__law_is_fraction : DS :=
 (mSeq (mIfS (mOrT (mNotT (mTst (mUn (cIsI (· == "tuple")) (mV 0)))) (mTst (mOp (dEq true) (mCall cLen (mCons (mV 0) mNil)) (mC (.int 2)))))
 (mRet (mC (.bl false)))
 mNx)
 (mSeq (mIfS (mOrT (mNotT (mTst (mDef 1 f__law_is_whole (mCons (mOp dIx (mV 0) (mC (.int 0))) mNil)))) (mNotT (mTst (mDef 1 f__law_is_whole (mCons (mOp dIx (mV 0) (mC (.int 1))) mNil)))))
 (mRet (mC (.bl false)))
 mNx)
 (mRet (mAnd (mOp dGt (mOp dIx (mV 0) (mC (.int 1))) (mC (.int 0))) (mOp (dEq false) (mDef 2 f__law_gcd (mCons (mOp dIx (mV 0) (mC (.int 0))) (mCons (mOp dIx (mV 0) (mC (.int 1))) mNil))) (mC (.int 1)))))))
def f__law_is_fraction : DF := runDef 1 1 m__law_is_fraction
/-! _law_are_fractions -/
def m__law_are_fractions : DS :=
 (mRet (mAnd (mUn (cIsI (· == "tuple")) (mV 0)) (mAnd (mOp (dEq false) (mCall cLen (mCons (mV 0) mNil)) (mV 1)) (mCall cAll (mCons (mLc newLst (itSeq (mV 0)) (bName 2) mYes (mDef 1 f__law_is_fraction (mCons (mV 2) mNil)) [2]) mNil)))))
def f__law_are_fractions : DF := runDef 2 3 m__law_are_fractions
/-! _law_is_screw -/
def m__law_is_screw : DS :=
 (mSeq (mIfS (mOrT (mNotT (mTst (mUn (cIsI (· == "tuple")) (mV 0)))) (mTst (mOp (dEq true) (mCall cLen (mCons (mV 0) mNil)) (mC (.int 2)))))
 (mRet (mC (.bl false)))
 mNx)
 (mRet (mAnd (mDef 2 f__law_are_fractions (mCons (mOp dIx (mV 0) (mC (.int 0))) (mCons (mC (.int 3)) mNil))) (mDef 2 f__law_are_fractions (mCons (mOp dIx (mV 0) (mC (.int 1))) (mCons (mC (.int 3)) mNil))))))
def f__law_is_screw : DF := runDef 1 1 m__law_is_screw
/-! _law_fraction -/
def m__law_fraction : DS :=
 (mSeq (mAsg (mDef 2 f__law_pick (mCons (mV 0) (mCons (mLst newLst (mCons (mC (.int 2)) (mCons (mC (.int 3)) (mCons (mC (.int 3)) (mCons (mC (.int 5)) (mCons (mC (.int 9)) (mCons (mIf (mTst (mOp dIx (mV 0) (mC (.int 3)))) (mC (.int 1000003)) (mC (.int 40))) mNil))))))) mNil))) (bName 1))
 (mRet (mDef 2 f__law_low (mCons (mOp dSub (mDef 2 f__law_draw (mCons (mV 0) (mCons (mOp (dAdd newLst) (mOp (dMul newLst) (mC (.int 2)) (mV 1)) (mC (.int 1))) mNil))) (mV 1)) (mCons (mDef 2 f__law_pick (mCons (mV 0) (mCons (mLst newLst (mCons (mC (.int 1)) (mCons (mC (.int 1)) (mCons (mC (.int 1)) (mCons (mC (.int 2)) (mCons (mC (.int 3)) (mCons (mC (.int 7)) mNil))))))) mNil))) mNil)))))
def f__law_fraction : DF := runDef 1 2 m__law_fraction
/-! _law_amount -/
def m__law_amount : DS :=
 (mSeq (mAsg (mDef 2 f__law_pick (mCons (mV 0) (mCons (mLst newLst (mCons (mC (.int 2)) (mCons (mC (.int 5)) (mCons (mC (.int 9)) (mCons (mIf (mTst (mOp dIx (mV 0) (mC (.int 3)))) (mC (.int 1000003)) (mC (.int 9))) mNil))))) mNil))) (bName 1))
 (mRet (mDef 2 f__law_low (mCons (mOp (dAdd newLst) (mC (.int 1)) (mDef 2 f__law_draw (mCons (mV 0) (mCons (mV 1) mNil)))) (mCons (mDef 2 f__law_pick (mCons (mV 0) (mCons (mLst newLst (mCons (mC (.int 1)) (mCons (mC (.int 1)) (mCons (mC (.int 2)) (mCons (mC (.int 3)) (mCons (mC (.int 5)) mNil)))))) mNil))) mNil)))))
def f__law_amount : DF := runDef 1 2 m__law_amount
/-! _law_spot -/
def m__law_spot : DS :=
 (mSeq (mAsg (mTup (mCons (mDef 2 f__law_pick (mCons (mV 0) (mCons (mLst newLst (mCons (mC (.int 1)) (mCons (mC (.int 2)) (mCons (mC (.int 2)) (mCons (mC (.int 3)) (mCons (mC (.int 3)) (mCons (mC (.int 5)) (mCons (mC (.int 50)) mNil)))))))) mNil))) (mCons (mDef 2 f__law_pick (mCons (mV 0) (mCons (mLst newLst (mCons (mC (.int 1)) (mCons (mC (.int 1)) (mCons (mC (.int 1)) (mCons (mC (.int 2)) (mCons (mC (.int 3)) mNil)))))) mNil))) mNil))) (bTup 2 (bCons (bName 1) (bCons (bName 2) bNil))))
 (mRet (mCall cTuple (mCons (mLc newLst (itR1 (mCons (mC (.int 3)) mNil)) (bName 3) mYes (mDef 2 f__law_low (mCons (mOp dSub (mDef 2 f__law_draw (mCons (mV 0) (mCons (mOp (dAdd newLst) (mOp (dMul newLst) (mC (.int 2)) (mV 1)) (mC (.int 1))) mNil))) (mV 1)) (mCons (mV 2) mNil))) [3]) mNil))))
def f__law_spot : DF := runDef 1 4 m__law_spot
/-! _law_way -/
def m__law_way : DS :=
 (mSeq (mAsg (mDef 1 f__law_spot (mCons (mV 0) mNil)) (bName 1))
 (mRet (mIf (mTst (mOp (dEq true) (mV 1) (mDef 0 f__law_nought mNil))) (mV 1) (mDef 1 f__law_axis (mCons (mDef 2 f__law_draw (mCons (mV 0) (mCons (mC (.int 3)) mNil))) mNil)))))
def f__law_way : DF := runDef 1 2 m__law_way
/-! _law_other_way -/
def m__law_other_way : DS :=
 (mSeq (mAsg (mDef 1 f__law_way (mCons (mV 0) mNil)) (bName 2))
 (mSeq (mFor (itR1 (mCons (mC (.int 3)) mNil)) (bName 3)
 (mIfS (mTst (mOp (dEq false) (mDef 2 f__law_cross (mCons (mV 2) (mCons (mV 1) mNil))) (mDef 0 f__law_nought mNil)))
 (mAsg (mDef 1 f__law_axis (mCons (mV 3) mNil)) (bName 2))
 mNx))
 (mRet (mV 2))))
def f__law_other_way : DF := runDef 2 4 m__law_other_way
/-! _law_screw -/
def m__law_screw : DS :=
 (mSeq (mAsg (mDef 2 f__law_draw (mCons (mV 0) (mCons (mC (.int 8)) mNil))) (bName 1))
 (mSeq (mIfS (mTst (mOp (dEq false) (mV 1) (mC (.int 0))))
 (mRet (mTup (mCons (mDef 0 f__law_nought mNil) (mCons (mDef 1 f__law_spot (mCons (mV 0) mNil)) mNil))))
 mNx)
 (mSeq (mIfS (mTst (mOp (dEq false) (mV 1) (mC (.int 1))))
 (mRet (mDef 2 f__law_line (mCons (mDef 1 f__law_spot (mCons (mV 0) mNil)) (mCons (mDef 1 f__law_way (mCons (mV 0) mNil)) mNil))))
 mNx)
 (mRet (mTup (mCons (mDef 1 f__law_spot (mCons (mV 0) mNil)) (mCons (mDef 1 f__law_spot (mCons (mV 0) mNil)) mNil)))))))
def f__law_screw : DF := runDef 1 2 m__law_screw
/-! _law_turn -/
def m__law_turn : DS :=
 (mSeq (mAsg (mLc newLst (itR1 (mCons (mC (.int 4)) mNil)) (bName 4) mYes (mOp dSub (mDef 2 f__law_draw (mCons (mV 0) (mCons (mC (.int 5)) mNil))) (mC (.int 2))) [4]) (bName 1))
 (mSeq (mAsg (mIf (mTst (mOp (dEq true) (mV 1) (mLst newLst (mCons (mC (.int 0)) (mCons (mC (.int 0)) (mCons (mC (.int 0)) (mCons (mC (.int 0)) mNil))))))) (mV 1) (mLst newLst (mCons (mC (.int 1)) (mCons (mC (.int 0)) (mCons (mC (.int 0)) (mCons (mC (.int 0)) mNil)))))) (bName 1))
 (mSeq (mAsg (mDef 2 f__law_gcd (mCons (mDef 2 f__law_gcd (mCons (mOp dIx (mV 1) (mC (.int 0))) (mCons (mOp dIx (mV 1) (mC (.int 1))) mNil))) (mCons (mDef 2 f__law_gcd (mCons (mOp dIx (mV 1) (mC (.int 2))) (mCons (mOp dIx (mV 1) (mC (.int 3))) mNil))) mNil))) (bName 2))
 (mSeq (mAsg (mOp dIx (mLc newLst (itSeq (mV 1)) (bName 5) (mTst (mOp (dEq true) (mV 5) (mC (.int 0)))) (mV 5) [5]) (mC (.int 0))) (bName 3))
 (mRet (mCall cTuple (mCons (mLc newLst (itSeq (mV 1)) (bName 5) mYes (mOp dFdiv (mV 5) (mIf (mTst (mOp dGt (mV 3) (mC (.int 0)))) (mV 2) (mOp dSub (mC (.int 0)) (mV 2)))) [5]) mNil)))))))
def f__law_turn : DF := runDef 1 6 m__law_turn
/-! _law_turned -/
def m__law_turned : DS :=
 (mSeq (mPar2 2 3 (mCons (mTup (mCons (mOp dIx (mV 0) (mC (.int 0))) (mCons (mC (.int 1)) mNil))) (mCons (mCall cTuple (mCons (mLc newLst (itSeq (mSl newLst (mV 0) (mPart (mC (.int 1))) mNoP)) (bName 6) mYes (mTup (mCons (mV 6) (mCons (mC (.int 1)) mNil))) [6]) mNil)) mNil)))
 (mSeq (mAsg (mDef 2 f__law_dot (mCons (mV 3) (mCons (mV 3) mNil))) (bName 4))
 (mSeq (mAsg (mDef 2 f__law_times (mCons (mV 1) (mCons (mDef 2 f__law_add (mCons (mDef 2 f__law_mul (mCons (mV 2) (mCons (mV 2) mNil))) (mCons (mTup (mCons (mOp dSub (mC (.int 0)) (mOp dIx (mV 4) (mC (.int 0)))) (mCons (mOp dIx (mV 4) (mC (.int 1))) mNil))) mNil))) mNil))) (bName 5))
 (mSeq (mAsg (mDef 2 f__law_plus (mCons (mV 5) (mCons (mDef 2 f__law_times (mCons (mV 3) (mCons (mDef 2 f__law_mul (mCons (mTup (mCons (mC (.int 2)) (mCons (mC (.int 1)) mNil))) (mCons (mDef 2 f__law_dot (mCons (mV 3) (mCons (mV 1) mNil))) mNil))) mNil))) mNil))) (bName 5))
 (mSeq (mAsg (mDef 2 f__law_plus (mCons (mV 5) (mCons (mDef 2 f__law_times (mCons (mDef 2 f__law_cross (mCons (mV 3) (mCons (mV 1) mNil))) (mCons (mDef 2 f__law_mul (mCons (mTup (mCons (mC (.int 2)) (mCons (mC (.int 1)) mNil))) (mCons (mV 2) mNil))) mNil))) mNil))) (bName 5))
 (mRet (mDef 2 f__law_times (mCons (mV 5) (mCons (mDef 2 f__law_over (mCons (mTup (mCons (mC (.int 1)) (mCons (mC (.int 1)) mNil))) (mCons (mDef 2 f__law_add (mCons (mDef 2 f__law_mul (mCons (mV 2) (mCons (mV 2) mNil))) (mCons (mV 4) mNil))) mNil))) mNil)))))))))
def f__law_turned : DF := runDef 2 7 m__law_turned
/-! _law_placed -/
def m__law_placed : DS :=
 (mRet (mDef 2 f__law_plus (mCons (mDef 2 f__law_turned (mCons (mOp dIx (mV 0) (mC (.int 0))) (mCons (mV 1) mNil))) (mCons (mOp dIx (mV 0) (mC (.int 1))) mNil))))
def f__law_placed : DF := runDef 2 2 m__law_placed
/-! _law_led -/
def m__law_led : DS :=
 (mSeq (mAsg (mDef 2 f__law_turned (mCons (mOp dIx (mV 0) (mC (.int 0))) (mCons (mOp dIx (mV 1) (mC (.int 0))) mNil))) (bName 2))
 (mRet (mTup (mCons (mV 2) (mCons (mDef 2 f__law_plus (mCons (mDef 2 f__law_turned (mCons (mOp dIx (mV 0) (mC (.int 0))) (mCons (mOp dIx (mV 1) (mC (.int 1))) mNil))) (mCons (mDef 2 f__law_cross (mCons (mOp dIx (mV 0) (mC (.int 1))) (mCons (mV 2) mNil))) mNil))) mNil)))))
def f__law_led : DF := runDef 2 3 m__law_led
/-! _law_body -/
def m__law_body : DS :=
 (mSeq (mPar2 2 3 (mCons (mDef 1 f__law_spot (mCons (mV 0) mNil)) (mCons (mDef 1 f__law_way (mCons (mV 0) mNil)) mNil)))
 (mSeq (mAsg (mLst newLoc (mCons (mV 2) (mCons (mDef 2 f__law_plus (mCons (mV 2) (mCons (mV 3) mNil))) (mCons (mDef 2 f__law_plus (mCons (mV 2) (mCons (mDef 2 f__law_other_way (mCons (mV 0) (mCons (mV 3) mNil))) mNil))) mNil)))) (bName 4))
 (mSeq (mFor (itR1 (mCons (mDef 2 f__law_draw (mCons (mV 0) (mCons (mOp dSub (mV 1) (mC (.int 2))) mNil))) mNil)) (bName 5)
 (mApp (mV 4) (mIf (mTst (mOp (dEq false) (mDef 2 f__law_draw (mCons (mV 0) (mCons (mC (.int 4)) mNil))) (mC (.int 0)))) (mDef 2 f__law_pick (mCons (mV 0) (mCons (mV 4) mNil))) (mDef 1 f__law_spot (mCons (mV 0) mNil)))))
 (mSeq (mAsg (mDef 2 f__law_draw (mCons (mV 0) (mCons (mCall cLen (mCons (mV 4) mNil)) mNil))) (bName 6))
 (mRet (mCall cTuple (mCons (mLc newLst (itSeq (mOp (dAdd newLst) (mSl newLst (mV 4) (mPart (mV 6)) mNoP) (mSl newLst (mV 4) mNoP (mPart (mV 6))))) (bName 7) mYes (mTup (mCons (mV 7) (mCons (mDef 1 f__law_amount (mCons (mV 0) mNil)) mNil))) [7]) mNil)))))))
def f__law_body : DF := runDef 2 8 m__law_body
/-! _law_momentum -/
def m__law_momentum : DS :=
 (mSeq (mAsg (mTup (mCons (mDef 0 f__law_nought mNil) (mCons (mDef 0 f__law_nought mNil) mNil))) (bName 2))
 (mSeq (mFor (itSeq (mV 0)) (bTup 2 (bCons (bName 3) (bCons (bName 4) bNil)))
 (mAsg (mDef 2 f__law_screws_plus (mCons (mV 2) (mCons (mDef 2 f__law_line (mCons (mV 3) (mCons (mDef 2 f__law_times (mCons (mDef 2 f__law_speed (mCons (mV 1) (mCons (mV 3) mNil))) (mCons (mV 4) mNil))) mNil))) mNil))) (bName 2)))
 (mRet (mV 2))))
def f__law_momentum : DF := runDef 2 5 m__law_momentum
/-! _law_right -/
def g_blown_0_blow_body {β : Type} : List β → List β → List β
  | [], [w0, w1] => [w1, w0]
  | _, _ => []
def m__law_right : DS :=
 (mSeq (mPar3 1 2 3 (mCons (mDef 2 f__law_body (mCons (mV 0) (mCons (mC (.int 6)) mNil))) (mCons (mDef 1 f__law_screw (mCons (mV 0) mNil)) (mCons (mDef 1 f__law_screw (mCons (mV 0) mNil)) mNil))))
 (mSeq (mAsg (mDef 2 f__law_momentum (mCons (mV 1) (mCons (mV 2) mNil))) (bName 4))
 (mSeq (mIfS (mTst (mOp (dEq true) (mCall cRepr (mCons (mLst newLst (mCons (mDef 2 f_blown (mCons (mV 1) (mCons (mV 4) mNil))) (mCons (mDefK 0 2 @g_blown_0_blow_body f_blown mNil (mCons (mV 4) (mCons (mV 1) mNil))) mNil))) mNil)) (mCall cRepr (mCons (mLst newLst (mCons (mV 2) (mCons (mV 2) mNil))) mNil))))
 (mRet (mC (.bl false)))
 mNx)
 (mSeq (mAsg (mDef 2 f_blown (mCons (mV 1) (mCons (mV 3) mNil))) (bName 5))
 (mSeq (mIfS (mOrT (mNotT (mTst (mDef 1 f__law_is_screw (mCons (mV 5) mNil)))) (mTst (mOp (dEq true) (mDef 2 f__law_momentum (mCons (mV 1) (mCons (mV 5) mNil))) (mV 3))))
 (mRet (mC (.bl false)))
 mNx)
 (mSeq (mIfS (mTst (mOp (dEq true) (mCall cRepr (mCons (mDef 2 f_energy (mCons (mV 1) (mCons (mV 5) mNil))) mNil)) (mCall cRepr (mCons (mDef 2 f__law_power (mCons (mV 3) (mCons (mV 5) mNil))) mNil))))
 (mRet (mC (.bl false)))
 mNx)
 (mSeq (mAsg (mDef 1 f__law_fraction (mCons (mV 0) mNil)) (bName 6))
 (mSeq (mAsg (mDef 2 f__law_screws_plus (mCons (mDef 2 f__law_screw_times (mCons (mV 3) (mCons (mV 6) mNil))) (mCons (mV 4) mNil))) (bName 7))
 (mSeq (mIfS (mTst (mOp (dEq true) (mCall cRepr (mCons (mDef 2 f_blown (mCons (mV 1) (mCons (mV 7) mNil))) mNil)) (mCall cRepr (mCons (mDef 2 f__law_screws_plus (mCons (mDef 2 f__law_screw_times (mCons (mV 5) (mCons (mV 6) mNil))) (mCons (mV 2) mNil))) mNil))))
 (mRet (mC (.bl false)))
 mNx)
 (mSeq (mAsg (mTup (mCons (mDef 1 f__law_turn (mCons (mV 0) mNil)) (mCons (mDef 1 f__law_spot (mCons (mV 0) mNil)) mNil))) (bName 8))
 (mSeq (mAsg (mCall cTuple (mCons (mLc newLst (itSeq (mV 1)) (bName 10) mYes (mTup (mCons (mDef 2 f__law_placed (mCons (mV 8) (mCons (mOp dIx (mV 10) (mC (.int 0))) mNil))) (mCons (mOp dIx (mV 10) (mC (.int 1))) mNil))) [10]) mNil)) (bName 9))
 (mSeq (mIfS (mTst (mOp (dEq true) (mCall cRepr (mCons (mDef 2 f_blown (mCons (mV 9) (mCons (mDef 2 f__law_led (mCons (mV 8) (mCons (mV 3) mNil))) mNil))) mNil)) (mCall cRepr (mCons (mDef 2 f__law_led (mCons (mV 8) (mCons (mV 5) mNil))) mNil))))
 (mRet (mC (.bl false)))
 mNx)
 (mRet (mAnd (mOp (dEq false) (mCall cRepr (mCons (mDef 2 f_blown (mCons (mRev newLst (mV 1)) (mCons (mV 3) mNil))) mNil)) (mCall cRepr (mCons (mV 5) mNil))) (mOp (dEq false) (mCall cRepr (mCons (mDef 2 f_blown (mCons (mV 1) (mCons (mV 3) mNil))) mNil)) (mCall cRepr (mCons (mV 5) mNil)))))))))))))))))
def f__law_right : DF := runDef 1 11 m__law_right
/-! law -/
def m_law : DS :=
 (mRet (mCall cAll (mCons (mLc newLst (itR1 (mCons (mCall cMax (mCons (mC (.int 2)) (mCons (mCall cMin (mCons (mCall cLen (mCons (mV 0) mNil)) (mCons (mC (.int 2)) mNil))) mNil))) mNil)) (bName 1) mYes (mDef 1 f__law_right (mCons (mDef 2 f__law_well (mCons (mV 0) (mCons (mV 1) mNil))) mNil)) [1]) mNil)))
def f_law : DF := runDef 1 2 m_law
end G86

set_option Elab.async false
set_option linter.all false
namespace G86
open DL
/-! ### sizes -/
def bt (n : Nat) (i : Int) : Prop := i.natAbs < 2 ^ n
theorem bt.mul {m n : Nat} {a b : Int} (h1 : bt m a) (h2 : bt n b) : bt (m + n) (a * b) := by
  unfold bt at *
  rw [Int.natAbs_mul, Nat.pow_add]
  exact Nat.mul_lt_mul_of_lt_of_le h1 (Nat.le_of_lt h2) (Nat.pos_of_ne_zero (by have := Nat.two_pow_pos n; omega))
theorem bt.add {n : Nat} {a b : Int} (h1 : bt n a) (h2 : bt n b) : bt (n + 1) (a + b) := by
  unfold bt at *
  have := Int.natAbs_add_le a b
  rw [Nat.pow_succ]
  omega
theorem bt.sub {n : Nat} {a b : Int} (h1 : bt n a) (h2 : bt n b) : bt (n + 1) (a - b) := by
  unfold bt at *
  have := Int.natAbs_sub_le a b
  rw [Nat.pow_succ]
  omega
theorem bt.neg {n : Nat} {a : Int} (h1 : bt n a) : bt n (-a) := by unfold bt at *; rw [Int.natAbs_neg]; exact h1
theorem bt.mono {m n : Nat} {a : Int} (h1 : bt m a) (h : m ≤ n := by omega) : bt n a := Nat.lt_of_lt_of_le h1 (Nat.pow_le_pow_right (by omega) h)
theorem bt.nat {n : Nat} {k : Nat} (h : k < 2 ^ n) : bt n (k : Int) := by unfold bt; rw [Int.natAbs_natCast]; exact h
theorem bt.mk {m n : Nat} {a b : Int} (h1 : bt m a) (h2 : bt n b) (h : m + n + 1 ≤ 134000000 := by omega) : mulOk a b = true :=
  mulOk_of (a := m + 1) (h1.mono (Nat.le_succ m)) h2 (by omega) (by omega)
theorem bt.one : bt 1 1 := by unfold bt; decide
theorem bt.two : bt 2 2 := by unfold bt; decide
theorem bt.neg1 : bt 1 (-1) := by unfold bt; decide
theorem bt.zero {n : Nat} : bt n 0 := by unfold bt; exact Nat.two_pow_pos n
end G86

set_option Elab.async false
set_option linter.all false
set_option maxRecDepth 100000
set_option maxHeartbeats 4000000
namespace G86
open DL RW
/-! ### rows of whole numbers -/
def rowD (m : Nat) (v : Nat → Int) : D := .lst (rl m fun j => .int (v j))
@[simp] theorem free_rowD {m : Nat} {v : Nat → Int} : locFree (rowD m v) = true := by rw [rowD, free_lst]; exact rl_frees fun i _ => by simp
instance {m : Nat} {v : Nat → Int} : Free (rowD m v) := ⟨free_rowD⟩
instance {m : Nat} {v : Nat → Int} : LstV (rowD m v) (rl m fun j => .int (v j)) := ⟨rfl⟩
instance {m : Nat} {v : Nat → Int} : Frees (rl m fun j => .int (v j)) := ⟨rl_frees fun i _ => by simp⟩
theorem rowD_congr {m : Nat} {v w : Nat → Int} (h : ∀ j, j < m → v j = w j) : rowD m v = rowD m w := by
  unfold rowD
  rw [rl_congr fun i hi => by rw [h i hi]]
def gcdR (v : Nat → Int) : Nat → Nat
  | 0 => 0
  | n + 1 => Nat.gcd (gcdR v n) (v n).natAbs
theorem gcdR_dvd {v : Nat → Int} : ∀ {n j : Nat}, j < n → gcdR v n ∣ (v j).natAbs
  | 0, j, h => absurd h (Nat.not_lt_zero _)
  | n + 1, j, h => by
    rw [gcdR]
    rcases Nat.lt_or_ge j n with z | z
    · exact Nat.dvd_trans (Nat.gcd_dvd_left _ _) (gcdR_dvd z)
    · obtain rfl : j = n := by omega
      exact Nat.gcd_dvd_right _ _
theorem dvd_gcdR {v : Nat → Int} {d : Nat} : ∀ {n : Nat}, (∀ j, j < n → d ∣ (v j).natAbs) → d ∣ gcdR v n
  | 0, _ => Nat.dvd_zero _
  | n + 1, h => Nat.dvd_gcd (dvd_gcdR fun j hj => h j (by omega)) (h n (by omega))
section
variable {M : Store} {Q : D → Store → Prop}
theorem common_w {m : Nat} {v : Nat → Int} (q : Q (.int (gcdR v m : Nat)) M) : Ok (f_common_part [rowD m v] M) Q := by
  refine w_run rfl ?_
  unfold m_common_part
  (repeat first | refine Step.e ?_ | (first | (refine ifk_t ?_ ?_; focus (first | omega | decide | (simp; done))) | (refine ifk_f ?_ ?_; focus (first | omega | decide | (simp; done)))))
  unfold rl
  refine go_inv (fun j : Nat => D.int (v j)) (fun p _ ρ M' => M' = M ∧ ∃ x2, ρ = [some (rowD m v), some (.int (gcdR v p.length : Nat)), x2]) (List.range m) (fun x p r ρ M' hp hI => ?_) (fun ρ M' hI => ?_) (List.range m) [] _ _ rfl ⟨rfl, none, rfl⟩
  · obtain ⟨rfl, x2, rfl⟩ := hI
    obtain ⟨rfl, hl⟩ := range_split hp
    (repeat first | refine Step.e ?_ | (first | (refine ifk_t ?_ ?_; focus (first | omega | decide | (simp; done))) | (refine ifk_f ?_ ?_; focus (first | omega | decide | (simp; done)))))
    exact ⟨rfl, _, by rw [List.length_append, List.length_singleton, gcdR, Int.natAbs_natCast]⟩
  · obtain ⟨rfl, x2, rfl⟩ := hI
    (repeat first | refine Step.e ?_ | (first | (refine ifk_t ?_ ?_; focus (first | omega | decide | (simp; done))) | (refine ifk_f ?_ ?_; focus (first | omega | decide | (simp; done)))))
    rw [List.length_range]
    exact q
theorem lowest_w {m n : Nat} {v : Nat → Int} (hm : m ≤ 1000) (hb : ∀ j, j < m → bt n (v j)) (hn : n ≤ 9000)
    (q : ∀ v' : Nat → Int, (∃ d : Int, 0 < d ∧ ∀ j, j < m → v j = d * v' j) → ((∃ j, j < m ∧ v j ≠ 0) → Prim m v') → (∀ j, j < m → bt n (v' j)) → Q (rowD m v') M) : Ok (f_lowest_row [rowD m v] M) Q := by
  have hg : ∀ {j}, j < m → (gcdR v m) ∣ (v j).natAbs := fun h => gcdR_dvd h
  refine w_run rfl ?_
  unfold m_lowest_row
  (repeat first | refine Step.e ?_ | (first | (refine ifk_t ?_ ?_; focus (first | omega | decide | (simp; done))) | (refine ifk_f ?_ ?_; focus (first | omega | decide | (simp; done)))))
  refine common_w ?_
  (repeat first | refine Step.e ?_ | (first | (refine ifk_t ?_ ?_; focus (first | omega | decide | (simp; done))) | (refine ifk_f ?_ ?_; focus (first | omega | decide | (simp; done)))))
  refine ifk_cases (fun h => ?_) (fun h => ?_)
  · (repeat first | refine Step.e ?_ | (first | (refine ifk_t ?_ ?_; focus (first | omega | decide | (simp; done))) | (refine ifk_f ?_ ?_; focus (first | omega | decide | (simp; done)))))
    refine new_lst (by rw [rl_len]; omega) ?_
    (repeat first | refine Step.e ?_ | (first | (refine ifk_t ?_ ?_; focus (first | omega | decide | (simp; done))) | (refine ifk_f ?_ ?_; focus (first | omega | decide | (simp; done)))))
    refine q v ⟨1, by decide, fun j _ => by omega⟩ (fun ⟨j, hj, hne⟩ d hd => ?_) hb
    have g1 : gcdR v m = 1 := by
      have h0 : gcdR v m ≠ 0 := fun z => by
        have := hg hj
        rw [z] at this
        have := Nat.eq_zero_of_zero_dvd this
        omega
      omega
    have := dvd_gcdR (n := m) fun j hj => Int.ofNat_dvd_left.mp (hd j hj)
    rw [g1] at this
    exact Nat.dvd_one.mp this
  · -- some entry is not 0
    have hne : ∃ j, j < m ∧ v j ≠ 0 := by
      rcases Classical.em (∃ j, j < m ∧ v j ≠ 0) with z | z
      · exact z
      · exfalso
        have : (0 : Nat) ∣ gcdR v m := dvd_gcdR fun j hj => by
          rcases Int.decEq (v j) 0 with w | w
          · exact absurd ⟨j, hj, w⟩ z
          · rw [w]; exact Nat.dvd_refl _
        have := Nat.eq_zero_of_zero_dvd this
        omega
    obtain ⟨j0, hj0, hv0⟩ := hne
    have gb : gcdR v m < 2 ^ n := Nat.lt_of_le_of_lt (Nat.le_of_dvd (by omega) (hg hj0)) (hb j0 hj0)
    have dv : divOk ((gcdR v m : Nat) : Int) = true := divOk_of (by omega) (by rw [Int.natAbs_natCast]; exact Nat.lt_of_lt_of_le gb (Nat.pow_le_pow_right (by omega) hn))
    have e : ∀ j, j < m → v j = ((gcdR v m : Nat) : Int) * (v j).fdiv (gcdR v m : Nat) := fun j hj => by
      rw [Int.mul_comm]; exact (Int.fdiv_mul_cancel (Int.ofNat_dvd_left.mpr (hg hj))).symm
    (repeat first | refine Step.e ?_ | (first | (refine ifk_t ?_ ?_; focus (first | omega | decide | (simp; done))) | (refine ifk_f ?_ ?_; focus (first | omega | decide | (simp; done)))))
    refine lck (by rw [rl_len]; omega) ?_
    unfold rl
    refine lcgo_map (fun j : Nat => D.int (v j)) (fun j => D.int ((v j).fdiv (gcdR v m : Nat))) (List.range m) (fun j hj => ?_) ?_
    · (repeat first | refine Step.e ?_ | (first | (refine ifk_t ?_ ?_; focus (first | omega | decide | (simp; done))) | (refine ifk_f ?_ ?_; focus (first | omega | decide | (simp; done)))))
      refine ⟨rfl, ?_⟩
      (repeat first | refine Step.e ?_ | (first | (refine ifk_t ?_ ?_; focus (first | omega | decide | (simp; done))) | (refine ifk_f ?_ ?_; focus (first | omega | decide | (simp; done)))))
      refine d_fdiv dv ⟨rfl, rfl⟩
    refine mkk_lst (by rw [List.length_map, List.length_range]; omega) ?_
    refine runk_rt0 (by rw [free_lst]; exact rl_frees (L := m) fun i _ => by simp) ?_
    refine q (fun j => (v j).fdiv (gcdR v m : Nat)) ⟨((gcdR v m : Nat) : Int), by omega, e⟩ (fun _ d hd => ?_) fun j hj => ?_
    · have : d * gcdR v m ∣ gcdR v m := dvd_gcdR fun j hj => by
        have h1 := Int.ofNat_dvd_left.mp (hd j hj)
        have h2 := congrArg Int.natAbs (e j hj)
        rw [Int.natAbs_mul, Int.natAbs_natCast] at h2
        rw [h2, Nat.mul_comm d]
        exact Nat.mul_dvd_mul_left _ h1
      have h3 := Nat.le_of_dvd (by omega) this
      have h4 : d * gcdR v m ≤ 1 * gcdR v m := by omega
      have h5 : d ≤ 1 := Nat.le_of_mul_le_mul_right h4 (by omega)
      have h6 : d ≠ 0 := fun z => by
        rw [z, Nat.zero_mul] at this
        have := Nat.eq_zero_of_zero_dvd this
        omega
      omega
    · have h2 := congrArg Int.natAbs (e j hj)
      rw [Int.natAbs_mul, Int.natAbs_natCast] at h2
      have h3 : ((v j).fdiv (gcdR v m : Nat)).natAbs ≤ (v j).natAbs := by
        rw [h2]; exact Nat.le_mul_of_pos_left _ (by omega)
      exact Nat.lt_of_le_of_lt h3 (hb j hj)
/-! the first place -/
def fpR (v : Nat → Int) : Nat → Nat → Option Nat
  | 0, _ => none
  | n + 1, j => if v j = 0 then fpR v n (j + 1) else some j
theorem fpR_some {v : Nat → Int} : ∀ {n j p : Nat}, fpR v n j = some p → j ≤ p ∧ p < j + n ∧ v p ≠ 0 ∧ ∀ i, j ≤ i → i < p → v i = 0
  | 0, _, _, h => by cases h
  | n + 1, j, p, h => by
    rw [fpR] at h
    by_cases z : v j = 0
    · rw [if_pos z] at h
      obtain ⟨a, b, c, d⟩ := fpR_some h
      refine ⟨by omega, by omega, c, fun i h1 h2 => ?_⟩
      rcases Nat.lt_or_ge j i with w | w
      · exact d i w h2
      · obtain rfl : i = j := by omega
        exact z
    · rw [if_neg z] at h
      cases h
      exact ⟨Nat.le_refl _, by omega, z, fun i h1 h2 => by omega⟩
theorem fpR_none {v : Nat → Int} : ∀ {n j : Nat}, fpR v n j = none → ∀ i, j ≤ i → i < j + n → v i = 0
  | 0, _, _, i, h1, h2 => by omega
  | n + 1, j, h, i, h1, h2 => by
    rw [fpR] at h
    by_cases z : v j = 0
    · rw [if_pos z] at h
      rcases Nat.lt_or_ge j i with w | w
      · exact fpR_none h i w (by omega)
      · obtain rfl : i = j := by omega
        exact z
    · rw [if_neg z] at h; cases h
theorem fpR_at {v : Nat → Int} {p : Nat} (hp : v p ≠ 0) : ∀ {n j : Nat}, j ≤ p → p < j + n → (∀ i, j ≤ i → i < p → v i = 0) → fpR v n j = some p
  | 0, j, h1, h2, _ => by omega
  | n + 1, j, h1, h2, h3 => by
    rw [fpR]
    by_cases z : j = p
    · subst z; rw [if_neg hp]
    · rw [if_pos (h3 j (Nat.le_refl _) (by omega))]
      exact fpR_at hp (by omega) (by omega) fun i a b => h3 i (by omega) b
def fpD : Option Nat → D
  | some p => .int (p : Nat)
  | none => .non
theorem fp_loop {x0 : Option D} {v : Nat → Int} {QS : Fl × Sl → Store → Prop} : ∀ (n j : Nat) (x1 x2 : Option D), (∀ p x1 x2, fpR v n j = some p → QS (.rt (.int (p : Nat)), [x0, x1, x2]) M) → (∀ x1 x2, fpR v n j = none → QS (.nx, [x0, x1, x2]) M) →
    Ok (mForGo (bTup 2 (bCons (bName 1) (bCons (bName 2) bNil))) (mIfS (mTst (mOp (dEq true) (mV 2) (mC (.int 0)))) (mRet (mV 1)) mNx) (enumD j ((List.range' j n).map fun i => D.int (v i))) [x0, x1, x2] M) QS
  | 0, j, x1, x2, _, h2 => go_nil (h2 x1 x2 rfl)
  | n + 1, j, x1, x2, h1, h2 => by
    rw [List.range'_succ, List.map_cons, enumD]
    refine go_cons ?_
    (repeat first | refine Step.e ?_ | (first | (refine ifk_t ?_ ?_; focus (first | omega | decide | (simp; done))) | (refine ifk_f ?_ ?_; focus (first | omega | decide | (simp; done)))))
    refine ifk_cases (fun h => ?_) (fun h => ?_)
    · (repeat first | refine Step.e ?_ | (first | (refine ifk_t ?_ ?_; focus (first | omega | decide | (simp; done))) | (refine ifk_f ?_ ?_; focus (first | omega | decide | (simp; done)))))
      exact fp_loop n (j + 1) _ _ (fun p x1 x2 e => h1 p x1 x2 (by rw [fpR, if_pos h]; exact e)) fun x1 x2 e => h2 x1 x2 (by rw [fpR, if_pos h]; exact e)
    · (repeat first | refine Step.e ?_ | (first | (refine ifk_t ?_ ?_; focus (first | omega | decide | (simp; done))) | (refine ifk_f ?_ ?_; focus (first | omega | decide | (simp; done)))))
      exact h1 j _ _ (by rw [fpR, if_neg h])
theorem fpD_free {o : Option Nat} : locFree (fpD o) = true := by cases o <;> simp [fpD, locFree]
theorem first_ev {m : Nat} {v : Nat → Int} : f_first_place [rowD m v] M = .ok (fpD (fpR v m 0)) M := by
  refine ok_eq ?_
  refine w_run rfl ?_
  unfold m_first_place
  (repeat first | refine Step.e ?_ | (first | (refine ifk_t ?_ ?_; focus (first | omega | decide | (simp; done))) | (refine ifk_f ?_ ?_; focus (first | omega | decide | (simp; done)))))
  unfold rl
  rw [List.range_eq_range']
  refine fp_loop m 0 _ _ (fun p x1 x2 e => ?_) fun x1 x2 e => ?_
  · (repeat first | refine Step.e ?_ | (first | (refine ifk_t ?_ ?_; focus (first | omega | decide | (simp; done))) | (refine ifk_f ?_ ?_; focus (first | omega | decide | (simp; done)))))
    rw [e]; exact ⟨rfl, rfl⟩
  · (repeat first | refine Step.e ?_ | (first | (refine ifk_t ?_ ?_; focus (first | omega | decide | (simp; done))) | (refine ifk_f ?_ ?_; focus (first | omega | decide | (simp; done)))))
    rw [e]; exact ⟨rfl, rfl⟩
theorem first_at {m p : Nat} {v : Nat → Int} (hp : p < m) (h0 : v p ≠ 0) (hz : ∀ j, j < p → v j = 0) : f_first_place [rowD m v] M = .ok (.int (p : Nat)) M := by
  rw [first_ev, fpR_at h0 (Nat.zero_le _) (by omega) fun i _ h => hz i h]
  rfl
/-! a row less a multiple of another one -/
theorem zip_rl {m : Nat} {f g : Nat → D} : zipD (rl m f) (rl m g) = rl m fun j => .tup [f j, g j] := by
  refine List.ext_getElem? fun i => ?_
  by_cases hi : i < m
  · rw [rl_get hi]
    exact List.getElem?_zipWith_eq_some.mpr ⟨_, _, rl_get hi, rl_get hi, rfl⟩
  · rw [List.getElem?_eq_none (by rw [zipD_length, rl_len, rl_len]; omega), List.getElem?_eq_none (by rw [rl_len]; omega)]
theorem cleared_w {m n φ p : Nat} {v f : Nat → Int} (hm : m ≤ 1000) (hp : p < m) (hb : ∀ j, j < m → bt n (v j)) (hf : ∀ j, j < m → bt φ (f j)) (h0 : f p ≠ 0) (hn : n + φ + 1 ≤ 9000)
    (q : ∀ v' : Nat → Int, (∃ d h t : Int, 0 < d ∧ 0 < h ∧ (∀ j, j < m → d * v' j = h * v j - t * f j) ∧ (v p = 0 → t = 0)) → v' p = 0 → ((v p = 0 ∧ Prim m v) ∨ v p ≠ 0 → (∃ j, j < m ∧ v' j ≠ 0) → Prim m v') → (∀ j, j < m → bt (n + φ + 1) (v' j)) → Q (rowD m v') M) :
    Ok (f_cleared [rowD m v, rowD m f, .int (p : Nat)] M) Q := by
  refine w_run rfl ?_
  unfold m_cleared
  (repeat first | refine Step.e ?_ | (first | (refine ifk_t ?_ ?_; focus (first | omega | decide | (simp; done))) | (refine ifk_f ?_ ?_; focus (first | omega | decide | (simp; done)))))
  refine d_ixL (rl_at hp) ?_
  (repeat first | refine Step.e ?_ | (first | (refine ifk_t ?_ ?_; focus (first | omega | decide | (simp; done))) | (refine ifk_f ?_ ?_; focus (first | omega | decide | (simp; done)))))
  refine d_ixL (rl_at hp) ?_
  (repeat first | refine Step.e ?_ | (first | (refine ifk_t ?_ ?_; focus (first | omega | decide | (simp; done))) | (refine ifk_f ?_ ?_; focus (first | omega | decide | (simp; done)))))
  refine ifk_cases (fun h => ?_) (fun h => ?_)
  · (repeat first | refine Step.e ?_ | (first | (refine ifk_t ?_ ?_; focus (first | omega | decide | (simp; done))) | (refine ifk_f ?_ ?_; focus (first | omega | decide | (simp; done)))))
    refine new_lst (by rw [rl_len]; omega) ?_
    (repeat first | refine Step.e ?_ | (first | (refine ifk_t ?_ ?_; focus (first | omega | decide | (simp; done))) | (refine ifk_f ?_ ?_; focus (first | omega | decide | (simp; done)))))
    refine q v ⟨1, 1, 0, by decide, by decide, fun j _ => by omega, fun _ => rfl⟩ h (fun hpr _ => ?_) fun j hj => (hb j hj).mono
    rcases hpr with z | z
    · exact z.2
    · exact absurd h z
  · (repeat first | refine Step.e ?_ | (first | (refine ifk_t ?_ ?_; focus (first | omega | decide | (simp; done))) | (refine ifk_f ?_ ?_; focus (first | omega | decide | (simp; done)))))
    let s : Int := if f p > 0 then 1 else -1
    have hs : s = 1 ∧ f p > 0 ∨ s = -1 ∧ f p < 0 := by
      show (if f p > 0 then (1 : Int) else -1) = 1 ∧ _ ∨ (if f p > 0 then (1 : Int) else -1) = -1 ∧ _
      by_cases z : f p > 0
      · rw [if_pos z]; exact .inl ⟨rfl, z⟩
      · rw [if_neg z]; exact .inr ⟨rfl, by omega⟩
    refine ifk_join (M' := M) (.int s) (fun h => ?_) (fun h => ?_) ?_
    · have h := of_decide_eq_true h
      (repeat first | refine Step.e ?_ | (first | (refine ifk_t ?_ ?_; focus (first | omega | decide | (simp; done))) | (refine ifk_f ?_ ?_; focus (first | omega | decide | (simp; done)))))
      exact ⟨by show D.int 1 = D.int s; rw [show s = 1 by omega], rfl⟩
    · have h := of_decide_eq_false h
      (repeat first | refine Step.e ?_ | (first | (refine ifk_t ?_ ?_; focus (first | omega | decide | (simp; done))) | (refine ifk_f ?_ ?_; focus (first | omega | decide | (simp; done)))))
      exact ⟨by show D.int (-1) = D.int s; rw [show s = -1 by omega], rfl⟩
    (repeat first | refine Step.e ?_ | (first | (refine ifk_t ?_ ?_; focus (first | omega | decide | (simp; done))) | (refine ifk_f ?_ ?_; focus (first | omega | decide | (simp; done)))))
    refine zip_ll ?_
    rw [zip_rl]
    refine lck (by rw [rl_len]; omega) ?_
    have hbn : ∀ j, j < m → mulOk (v j) (f p) = true ∧ mulOk (f j) (v p) = true ∧ mulOk s (v j * f p - f j * v p) = true ∧ bt (n + φ + 1) (s * (v j * f p - f j * v p)) := by
      intro j hj
      have b1 := (hb j hj).mul (hf p hp)
      have b2 := (hf j hj).mul (hb p hp)
      have b3 : bt (n + φ + 1) (v j * f p - f j * v p) := b1.sub (b2.mono (n := n + φ))
      refine ⟨(hb j hj).mk (hf p hp), (hf j hj).mk (hb p hp), ?_, ?_⟩
      · have : bt 1 s := by unfold bt; rcases hs with ⟨e, _⟩ | ⟨e, _⟩ <;> rw [e] <;> decide
        exact this.mk b3
      · rcases hs with ⟨e, _⟩ | ⟨e, _⟩
        · rw [e, Int.one_mul]; exact b3
        · rw [e, Int.neg_mul, Int.one_mul]; exact b3.neg
    unfold rl
    refine lcgo_map (fun j : Nat => D.tup [.int (v j), .int (f j)]) (fun j => D.int (s * (v j * f p - f j * v p))) (List.range m) (fun j hj => ?_) ?_
    · obtain ⟨c1, c2, c3, _⟩ := hbn j (List.mem_range.mp hj)
      (repeat first | refine Step.e ?_ | (first | (refine ifk_t ?_ ?_; focus (first | omega | decide | (simp; done))) | (refine ifk_f ?_ ?_; focus (first | omega | decide | (simp; done)))))
      refine ⟨rfl, ?_⟩
      (repeat first | refine Step.e ?_ | (first | (refine ifk_t ?_ ?_; focus (first | omega | decide | (simp; done))) | (refine ifk_f ?_ ?_; focus (first | omega | decide | (simp; done)))))
      refine d_mul c1 ?_
      (repeat first | refine Step.e ?_ | (first | (refine ifk_t ?_ ?_; focus (first | omega | decide | (simp; done))) | (refine ifk_f ?_ ?_; focus (first | omega | decide | (simp; done)))))
      refine d_mul c2 ?_
      (repeat first | refine Step.e ?_ | (first | (refine ifk_t ?_ ?_; focus (first | omega | decide | (simp; done))) | (refine ifk_f ?_ ?_; focus (first | omega | decide | (simp; done)))))
      exact d_mul c3 ⟨rfl, rfl⟩
    refine mkk_lst (by rw [List.length_map, List.length_range]; omega) ?_
    (repeat first | refine Step.e ?_ | (first | (refine ifk_t ?_ ?_; focus (first | omega | decide | (simp; done))) | (refine ifk_f ?_ ?_; focus (first | omega | decide | (simp; done)))))
    refine lowest_w (v := fun j => s * (v j * f p - f j * v p)) (n := n + φ + 1) hm (fun j hj => (hbn j hj).2.2.2) hn fun v' hd hpr hbt => ?_
    (repeat first | refine Step.e ?_ | (first | (refine ifk_t ?_ ?_; focus (first | omega | decide | (simp; done))) | (refine ifk_f ?_ ?_; focus (first | omega | decide | (simp; done)))))
    obtain ⟨d, hd0, hd⟩ := hd
    have hz : v' p = 0 := by
      have e := hd p hp
      rw [Int.mul_comm (v p), Int.sub_self, Int.mul_zero] at e
      rcases Int.mul_eq_zero.mp e.symm with z | z
      · omega
      · exact z
    refine q v' ⟨d, s * f p, s * v p, hd0, ?_, fun j hj => ?_, fun z => absurd z h⟩ hz (fun _ hne => ?_) hbt
    · rcases hs with ⟨e, h⟩ | ⟨e, h⟩
      · rw [e, Int.one_mul]; exact h
      · rw [e]; omega
    · rw [← hd j hj]; grind
    · obtain ⟨j, hj, hj0⟩ := hne
      refine hpr ⟨j, hj, fun z => hj0 ?_⟩
      have e := hd j hj
      rw [z] at e
      rcases Int.mul_eq_zero.mp e.symm with w | w
      · omega
      · exact w
end
end G86

set_option Elab.async false
set_option linter.all false
set_option maxRecDepth 100000
set_option maxHeartbeats 4000000
namespace G86
open DL RW
section
variable {M : Store} {Q : D → Store → Prop}
instance {neg : Bool} {i : Int} : Step (Ok (dIs neg (.int i) .non M) Q) (Q (.bl neg) M) := ⟨fun q => by cases neg <;> exact q⟩
theorem w_sortK {mk : List D → Store → Res D} {f : DF} {a : DA} {ρ : Sl} (h : Ok (a ρ M) fun ds M1 => ∃ ls ks M2, ds = [.lst ls] ∧ keysGo f ls M1 = .ok ks M2 ∧ ks.Nodup ∧ Ok (mk (sortD ks ls) M2) Q) : Ok (mSortK mk f a ρ M) Q := by
  refine ok_bind (ok_imp h fun ds M1 h => ?_)
  obtain ⟨ls, ks, M2, rfl, e, nd, h⟩ := h
  show Ok ((noErr (keysGo f ls M1)).bind _) Q
  rw [e]
  show Ok (if ks.Nodup then mk (sortD ks ls) M2 else .stuck) Q
  rw [if_pos nd]; exact h
theorem keysGo_map {f : DF} {g : Nat → D} {k : Nat → Int} : ∀ {l : List Nat}, (∀ i ∈ l, f [g i] M = .ok (.int (k i)) M) → keysGo f (l.map g) M = .ok (l.map k) M
  | [], _ => rfl
  | i :: l, h => by
    rw [List.map_cons, keysGo, h i List.mem_cons_self]
    show (Res.bind (keysGo f (l.map g) M) _) = _
    rw [keysGo_map fun j hj => h j (List.mem_cons_of_mem _ hj)]
    rfl
/-- a row as far as it is cleared -/
structure Lft (m r k n : Nat) (f : Nat → Nat → Int) (p : Nat → Nat) (a v : Nat → Int) : Prop where
  sp : ∃ h : Rat, h ≠ 0 ∧ In m r (cr f) (fun j => (v j : Rat) - h * (a j : Rat))
  z : ∀ l, l < k → v (p l) = 0
  b : ∀ j, j < m → bt n (v j)
  pr : (∃ j, j < m ∧ v j ≠ 0) → Prim m v
theorem Lft.step {m r k n φ : Nat} {f : Nat → Nat → Int} {p : Nat → Nat} {a v v' : Nat → Int} (s : Lft m r k n f p a v) (hpv : Piv m r f p) (hk : k < r)
    (h1 : ∃ d h t : Int, 0 < d ∧ 0 < h ∧ (∀ j, j < m → d * v' j = h * v j - t * f k j) ∧ (v (p k) = 0 → t = 0)) (h2 : v' (p k) = 0) (h3 : (v (p k) = 0 ∧ Prim m v) ∨ v (p k) ≠ 0 → (∃ j, j < m ∧ v' j ≠ 0) → Prim m v') (h4 : ∀ j, j < m → bt (n + φ + 1) (v' j)) :
    Lft m r (k + 1) (n + φ + 1) f p a v' := by
  obtain ⟨d, h, t, hd, hh, hl, ht⟩ := h1
  have hd' := c_ne (show d ≠ 0 by omega)
  have hh' := c_ne (show h ≠ 0 by omega)
  refine ⟨?_, fun l hlk => ?_, h4, fun hne => ?_⟩
  · obtain ⟨g, hg, hin⟩ := s.sp
    refine ⟨(h : Rat) / d * g, ?_, ((hin.mul ((h : Rat) / d)).sub ((In.gen (m := m) (F := cr f) hk).mul ((t : Rat) / d))).congr fun j hj => ?_⟩
    · intro z
      rcases Rat.mul_eq_zero.mp z with w | w
      · rw [Rat.div_def] at w
        rcases Rat.mul_eq_zero.mp w with w | w
        · exact hh' w
        · have : (d : Rat) * (d : Rat)⁻¹ = 1 := Rat.mul_inv_cancel _ hd'
          rw [w, Rat.mul_zero] at this
          exact absurd this (by decide)
      · exact hg w
    · have e1 := congrArg (fun z : Int => (z : Rat)) (hl j hj)
      simp only [Rat.intCast_mul, Rat.intCast_sub] at e1
      show ((v' j : Int) : Rat) - (h : Rat) / d * g * (a j : Rat) = (h : Rat) / d * ((v j : Rat) - g * (a j : Rat)) - (t : Rat) / d * (f k j : Rat)
      grind
  · by_cases z : l = k
    · subst z; exact h2
    · have hl' : l < k := by omega
      obtain ⟨p1, _, _, p4⟩ := hpv l (by omega)
      have e := hl _ p1
      rw [s.z l hl', p4 k hk (by omega), Int.mul_zero, Int.mul_zero] at e
      have e : d * v' (p l) = 0 := by omega
      rcases Int.mul_eq_zero.mp e with w | w
      · omega
      · exact w
  · refine h3 ?_ hne
    by_cases z : v (p k) = 0
    · refine .inl ⟨z, s.pr ?_⟩
      obtain ⟨j, hj, hj0⟩ := hne
      refine ⟨j, hj, fun w => hj0 ?_⟩
      have e := hl j hj
      rw [ht z, w] at e
      have e : d * v' j = 0 := by omega
      rcases Int.mul_eq_zero.mp e with w | w
      · omega
      · exact w
    · exact .inr z
def foundD (m r : Nat) (f : Nat → Nat → Int) : D := .lst (rl r fun k => rowD m (f k))
instance {m r : Nat} {f : Nat → Nat → Int} : LstV (foundD m r f) (rl r fun k => rowD m (f k)) := ⟨rfl⟩
@[simp] theorem free_found {m r : Nat} {f : Nat → Nat → Int} : locFree (foundD m r f) = true := by rw [foundD, free_lst]; exact rl_frees fun i _ => free_rowD
instance {m r : Nat} {f : Nat → Nat → Int} : Free (foundD m r f) := ⟨free_found⟩
theorem stairs_w {m L b c Φ : Nat} {rows : List (Nat → Int)} (hm : m ≤ 100) (hL : rows.length ≤ L) (hL2 : L ≤ 100) (hb : ∀ v ∈ rows, ∀ j, j < m → bt b (v j)) (hc : 2 * L ≤ 2 ^ c) (hΦ : Φ = (c + b) * L + 1) (hsz : b + (L + 1) * (Φ + 1) + 1 ≤ 9000) (hb1 : 1 ≤ b)
    (q : ∀ (r : Nat) (f : Nat → Nat → Int) (p : Nat → Nat), Stn m rows r f p → (∀ k, k < r → ∀ j, j < m → bt Φ (f k j)) → Q (foundD m r f) M) : Ok (f_stairs_of [.lst (rows.map (rowD m))] M) Q := by
  have fb : ∀ {dn : List (Nat → Int)} {r : Nat} {A f : Nat → Nat → Int} {p : Nat → Nat}, Stf m (2 ^ b) dn r A f p → dn.length ≤ L → ∀ k, k < r → ∀ j, j < m → bt Φ (f k j) := by
    intro dn r A f p s hdn k hk j hj
    have h1 := s.bound (Nat.one_le_two_pow) hk j hj
    have hr : r ≤ L := Nat.le_trans s.len hdn
    have h2 : r * ((2 * r * 2 ^ b) ^ (r - 1) * 2 ^ b) ≤ 2 ^ ((c + b) * L) := by
      have e1 : 2 * r * 2 ^ b ≤ 2 ^ (c + b) := by rw [Nat.pow_add]; exact Nat.mul_le_mul_right _ (by omega)
      have e2 : (2 * r * 2 ^ b) ^ (r - 1) ≤ (2 ^ (c + b)) ^ (r - 1) := Nat.pow_le_pow_left e1 _
      have e3 : r * 2 ^ b ≤ 2 ^ (c + b) := Nat.le_trans (Nat.mul_le_mul_right _ (by omega)) e1
      have e4 : r * ((2 * r * 2 ^ b) ^ (r - 1) * 2 ^ b) = (2 * r * 2 ^ b) ^ (r - 1) * (r * 2 ^ b) := by rw [Nat.mul_left_comm]
      rw [e4]
      refine Nat.le_trans (Nat.mul_le_mul e2 e3) ?_
      rw [← Nat.pow_succ, ← Nat.pow_mul]
      exact Nat.pow_le_pow_right (by decide) (Nat.mul_le_mul_left _ (by omega))
    have h3 : 2 ^ ((c + b) * L) < 2 ^ Φ := Nat.pow_lt_pow_right (by decide) (by omega)
    unfold bt
    omega
  refine w_run rfl ?_
  unfold m_stairs_of
  (repeat first | refine Step.e ?_ | (first | (refine ifk_t ?_ ?_; focus (first | omega | decide | (simp; done))) | (refine ifk_f ?_ ?_; focus (first | omega | decide | (simp; done)))))
  let I : List (Nat → Int) → List (Nat → Int) → Sl → Store → Prop := fun dn _ ρ M' => M' = M ∧ ∃ (r : Nat) (A f : Nat → Nat → Int) (p : Nat → Nat) (x2 x3 x4 x5 : Option D), Stf m (2 ^ b) dn r A f p ∧ ρ = [some (.lst (rows.map (rowD m))), some (foundD m r f), x2, x3, x4, x5]
  refine go_inv (rowD m) I rows (fun a dn rest ρ M' hsp hI => ?_) (fun ρ M' hI => ?_) rows [] _ _ rfl ⟨rfl, 0, fun _ _ => 0, fun _ _ => 0, fun _ => 0, _, _, _, _, Stf.start, rfl⟩
  · obtain ⟨rfl, r, A, f, p, x2, x3, x4, x5, s, rfl⟩ := hI
    have hdn : dn.length + 1 ≤ L := by
      have := congrArg List.length hsp
      rw [List.length_append, List.length_cons] at this
      omega
    have hr : r ≤ dn.length := s.len
    have ha := hb a (by rw [← hsp]; exact List.mem_append_right _ List.mem_cons_self)
    have hfb := fb s (by omega)
    have hmul : ∀ k, k ≤ L → k * (Φ + 1) ≤ L * (Φ + 1) := fun k hk => Nat.mul_le_mul_right _ hk
    have hL1 : (L + 1) * (Φ + 1) = L * (Φ + 1) + (Φ + 1) := by rw [Nat.add_mul, Nat.one_mul]
    (repeat first | refine Step.e ?_ | (first | (refine ifk_t ?_ ?_; focus (first | omega | decide | (simp; done))) | (refine ifk_f ?_ ?_; focus (first | omega | decide | (simp; done)))))
    refine lowest_w (by omega) ha (by omega) fun v0 hd0 hp0 hb0 => ?_
    obtain ⟨d0, hd0, hv0⟩ := hd0
    have l0 : Lft m r 0 (b + 0 * (Φ + 1)) f p a v0 := by
      have hd0' := c_ne (show d0 ≠ 0 by omega)
      refine ⟨⟨1 / (d0 : Rat), ?_, In.zero.congr fun j hj => ?_⟩, fun l hl => absurd hl (Nat.not_lt_zero _), fun j hj => (hb0 j hj).mono, fun ⟨j, hj, hne⟩ => hp0 ⟨j, hj, fun z => hne ?_⟩⟩
      · intro z
        have : (d0 : Rat) * (1 / (d0 : Rat)) = 1 := by grind
        rw [z, Rat.mul_zero] at this
        exact absurd this (by decide)
      · have e1 := congrArg (fun z : Int => (z : Rat)) (hv0 j hj)
        simp only [Rat.intCast_mul] at e1
        show ((v0 j : Int) : Rat) - 1 / (d0 : Rat) * (a j : Rat) = 0
        grind
      · have e := hv0 j hj
        rw [z] at e
        rcases Int.mul_eq_zero.mp e.symm with w | w
        · omega
        · exact w
    (repeat first | refine Step.e ?_ | (first | (refine ifk_t ?_ ?_; focus (first | omega | decide | (simp; done))) | (refine ifk_f ?_ ?_; focus (first | omega | decide | (simp; done)))))
    -- cleared by all that are found
    let J : List Nat → List Nat → Sl → Store → Prop := fun k _ ρ M'' => M'' = M' ∧ ∃ (v : Nat → Int) (x4 : Option D), Lft m r k.length (b + k.length * (Φ + 1)) f p a v ∧ ρ = [some (.lst (rows.map (rowD m))), some (foundD m r f), some (rowD m a), some (rowD m v), x4, x5]
    unfold rl
    refine go_inv (fun k => rowD m (f k)) J (List.range r) (fun k ks ks' ρ M'' hks hJ => ?_) (fun ρ M'' hJ => ?_) (List.range r) [] _ _ rfl ⟨rfl, v0, _, l0, rfl⟩
    · obtain ⟨rfl, v, x4, l, rfl⟩ := hJ
      obtain ⟨rfl, hk⟩ := range_split hks
      obtain ⟨p1, p2, p3, p4⟩ := s.piv ks.length hk
      have := hmul ks.length (by omega)
      (repeat first | refine Step.e ?_ | (first | (refine ifk_t ?_ ?_; focus (first | omega | decide | (simp; done))) | (refine ifk_f ?_ ?_; focus (first | omega | decide | (simp; done)))))
      refine ok_of (first_at p1 p2 p3) ?_
      (repeat first | refine Step.e ?_ | (first | (refine ifk_t ?_ ?_; focus (first | omega | decide | (simp; done))) | (refine ifk_f ?_ ?_; focus (first | omega | decide | (simp; done)))))
      refine cleared_w (n := b + ks.length * (Φ + 1)) (φ := Φ) (by omega) p1 l.b (hfb _ hk) p2 (by omega) fun v' h1 h2 h3 h4 => ?_
      (repeat first | refine Step.e ?_ | (first | (refine ifk_t ?_ ?_; focus (first | omega | decide | (simp; done))) | (refine ifk_f ?_ ?_; focus (first | omega | decide | (simp; done)))))
      refine ⟨rfl, v', _, ?_, rfl⟩
      have st := l.step s.piv hk h1 h2 h3 h4
      rw [List.length_append, List.length_singleton]
      rw [show b + (ks.length + 1) * (Φ + 1) = b + ks.length * (Φ + 1) + Φ + 1 by rw [Nat.add_mul]; omega]
      exact st
    · obtain ⟨rfl, v, x4, l, rfl⟩ := hJ
      rw [List.length_range] at l
      have := hmul r (by omega)
      (repeat first | refine Step.e ?_ | (first | (refine ifk_t ?_ ?_; focus (first | omega | decide | (simp; done))) | (refine ifk_f ?_ ?_; focus (first | omega | decide | (simp; done)))))
      refine ok_of first_ev ?_
      (repeat first | refine Step.e ?_ | (first | (refine ifk_t ?_ ?_; focus (first | omega | decide | (simp; done))) | (refine ifk_f ?_ ?_; focus (first | omega | decide | (simp; done)))))
      cases hfp : fpR v m 0 with
      | none =>
        have vz : ∀ j, j < m → v j = 0 := fun j hj => fpR_none hfp j (Nat.zero_le _) (by omega)
        show Ok (dIs true .non .non _) _
        (repeat first | refine Step.e ?_ | (first | (refine ifk_t ?_ ?_; focus (first | omega | decide | (simp; done))) | (refine ifk_f ?_ ?_; focus (first | omega | decide | (simp; done)))))
        refine ⟨rfl, r, A, f, p, _, _, _, _, s.old ?_, rfl⟩
        obtain ⟨h, hh, hin⟩ := l.sp
        refine (hin.mul (-1 / h)).congr fun j hj => ?_
        show ((a j : Int) : Rat) = -1 / h * ((v j : Rat) - h * (a j : Rat))
        rw [vz j hj]
        have : ((0 : Int) : Rat) = 0 := rfl
        rw [this]; grind
      | some g =>
        obtain ⟨_, g1, g2, g3⟩ := fpR_some hfp
        have g1 : g < m := by omega
        have gp := l.pr ⟨g, g1, g2⟩
        show Ok (dIs true (.int (g : Nat)) .non _) _
        (repeat first | refine Step.e ?_ | (first | (refine ifk_t ?_ ?_; focus (first | omega | decide | (simp; done))) | (refine ifk_f ?_ ?_; focus (first | omega | decide | (simp; done)))))
        refine lck (by rw [rl_len]; omega) ?_
        unfold rl
        refine lcgo_rel (fun k => rowD m (f k)) (fun k d => ∃ v' : Nat → Int, d = rowD m v' ∧ (∃ d e t : Int, 0 < d ∧ 0 < e ∧ (∀ j, j < m → d * v' j = e * f k j - t * v j) ∧ v' g = 0 ∧ (f k g = 0 → t = 0) ∧ ((∃ j, j < m ∧ v' j ≠ 0) → Prim m v'))) (fun _ M3 => M3 = M'') (List.range r) 0 M'' rfl (fun k i M3 hk hM3 => ?_) (fun ys M3 hR hM3 => ?_)
        · subst hM3
          have hk := List.mem_range.mp hk
          (repeat first | refine Step.e ?_ | (first | (refine ifk_t ?_ ?_; focus (first | omega | decide | (simp; done))) | (refine ifk_f ?_ ?_; focus (first | omega | decide | (simp; done)))))
          refine ⟨rfl, ?_⟩
          (repeat first | refine Step.e ?_ | (first | (refine ifk_t ?_ ?_; focus (first | omega | decide | (simp; done))) | (refine ifk_f ?_ ?_; focus (first | omega | decide | (simp; done)))))
          show Ok (f_cleared [rowD m (f k), rowD m v, .int (g : Nat)] M3) _
          refine cleared_w (n := Φ) (φ := b + r * (Φ + 1)) (by omega) g1 (hfb k hk) l.b g2 (by omega) fun v' h1 h2 h3 h4 => ⟨⟨v', rfl, ?_⟩, rfl⟩
          obtain ⟨d, e, t, hd, he, hl, ht⟩ := h1
          refine ⟨d, e, t, hd, he, hl, h2, ht, fun hne => h3 ?_ hne⟩
          by_cases z : f k g = 0
          · exact .inl ⟨z, s.prim k hk⟩
          · exact .inr z
        subst hM3
        obtain ⟨f', rfl, hf'⟩ := rel_rl (rowD m) (fun k v' => ∃ d e t : Int, 0 < d ∧ 0 < e ∧ (∀ j, j < m → d * v' j = e * f k j - t * v j) ∧ v' g = 0 ∧ (f k g = 0 → t = 0) ∧ ((∃ j, j < m ∧ v' j ≠ 0) → Prim m v')) (fun k d h => h) hR
        rw [List.length_range] at hf' ⊢
        refine mkk_lst (by rw [rl_len]; omega) ?_
        (repeat first | refine Step.e ?_ | (first | (refine ifk_t ?_ ?_; focus (first | omega | decide | (simp; done))) | (refine ifk_f ?_ ?_; focus (first | omega | decide | (simp; done)))))
        refine d_addL (by rw [rl_len]; show r + 1 ≤ _; omega) (new_lst (by rw [List.length_append, rl_len]; show r + 1 ≤ _; omega) ?_)
        (repeat first | refine Step.e ?_ | (first | (refine ifk_t ?_ ?_; focus (first | omega | decide | (simp; done))) | (refine ifk_f ?_ ?_; focus (first | omega | decide | (simp; done)))))
        obtain ⟨h, hh, hin⟩ := l.sp
        have s' := s.new (f' := f') (q := g) (fun j hj => Nat.le_of_lt (ha j hj)) hh hin l.z g1 g2 (fun j hj => g3 j (Nat.zero_le _) hj) gp (fun k hk => by
          have := hf' k hk
          rw [List.getD_eq_getElem?_getD, List.getElem?_range hk] at this
          exact this)
        have hfd : foundD m (r + 1) (put f' r v) = .lst ((rl r fun i => rowD m (f' i)) ++ [rowD m v]) := by
          unfold foundD rl
          rw [List.range_succ, List.map_append, List.map_singleton, put_at]
          congr 2
          exact List.map_congr_left fun k hk => by rw [put_ne (List.mem_range.mp hk)]
        rw [← hfd]
        exact ⟨rfl, r + 1, _, _, _, _, _, _, _, s', rfl⟩
  · obtain ⟨rfl, r, A, f, p, x2, x3, x4, x5, s, rfl⟩ := hI
    have hfb := fb s hL
    have hr : r ≤ rows.length := s.len
    (repeat first | refine Step.e ?_ | (first | (refine ifk_t ?_ ?_; focus (first | omega | decide | (simp; done))) | (refine ifk_f ?_ ?_; focus (first | omega | decide | (simp; done)))))
    refine w_sortK ?_
    (repeat first | refine Step.e ?_ | (first | (refine ifk_t ?_ ?_; focus (first | omega | decide | (simp; done))) | (refine ifk_f ?_ ?_; focus (first | omega | decide | (simp; done)))))
    refine ⟨_, _, _, rfl, keysGo_map (k := fun k => ((p k : Nat) : Int)) (fun k hk => ?_), keys_nodup s, ?_⟩
    · obtain ⟨p1, p2, p3, _⟩ := s.piv k (List.mem_range.mp hk)
      exact first_at p1 p2 p3
    · have := sortD_rl (r := r) (p := p) (g := fun k => rowD m (f k))
      rw [this]
      refine new_lst (by rw [rl_len]; omega) ?_
      refine runk_rt0 (by rw [free_lst]; exact rl_frees (L := r) fun i _ => free_rowD) ?_
      exact q r _ _ s.sorted fun k hk j hj => hfb _ (srt_get hk).2 j hj
end
end G86

set_option Elab.async false
set_option linter.all false
set_option maxRecDepth 100000
set_option maxHeartbeats 4000000
namespace G86
open DL
/-! ### sizes -/
/-! ### fractions of the program -/
def rD (q : Rat) : D := .tup [.int q.num, .int (q.den : Int)]
def sm (q : Rat) : Prop := bt 20000 q.num ∧ bt 4400 (q.den : Int)
section
variable {M : Store}
theorem is_whole_int {i : Int} : f_is_whole [.int i] M = .ok (.bl true) M := by
  simp [f_is_whole, m_is_whole, runDef, sl0, mSeq, mAsg, mDef, mCall, mCons, mRet, mLc, itSeq, seqF, wipeD, mLcGo, mOp, noErr, s_newLst, cTuple, seqOf, s_newTup, cutR, locFree, locFrees, mTup, mLst, mIf, mIfS, mTst, mNot, mNotT, mAnd, mOr, mAndT, mOrT, mFor, mForGo, cIsI, tyS, DL.isInt, mUn, dNeg, dIx, L2.atI, L2.ixN, mPar2, mPar3, mDrop, dGt, dLt, dGe, dLe, itZip, s_bTup, s_bTupL, cGcd]
theorem common2 {a b : Int} : f_common_part [.lst [.int a, .int b]] M = .ok (.int (Nat.gcd a.natAbs b.natAbs : Nat)) M := by
  simp [f_common_part, m_common_part, runDef, sl0, mSeq, mAsg, mDef, mCall, mCons, mRet, mLc, itSeq, seqF, wipeD, mLcGo, mOp, noErr, s_newLst, cTuple, seqOf, s_newTup, cutR, locFree, locFrees, mTup, mLst, mIf, mIfS, mTst, mNot, mNotT, mAnd, mOr, mAndT, mOrT, mFor, mForGo, cIsI, tyS, DL.isInt, mUn, dNeg, dIx, L2.atI, L2.ixN, mPar2, mPar3, mDrop, dGt, dLt, dGe, dLe, itZip, s_bTup, s_bTupL, cGcd]
theorem common2t {a b : Int} : f_common_part [.tup [.int a, .int b]] M = .ok (.int (Nat.gcd a.natAbs b.natAbs : Nat)) M := by
  simp [f_common_part, m_common_part, runDef, sl0, mSeq, mAsg, mDef, mCall, mCons, mRet, mLc, itSeq, seqF, wipeD, mLcGo, mOp, noErr, s_newLst, cTuple, seqOf, s_newTup, cutR, locFree, locFrees, mTup, mLst, mIf, mIfS, mTst, mNot, mNotT, mAnd, mOr, mAndT, mOrT, mFor, mForGo, cIsI, tyS, DL.isInt, mUn, dNeg, dIx, L2.atI, L2.ixN, mPar2, mPar3, mDrop, dGt, dLt, dGe, dLe, itZip, s_bTup, s_bTupL, cGcd]
theorem gcd_ok {a b : Int} (hb : b ≠ 0) (hs : bt 8999 b) : divOk ((Nat.gcd a.natAbs b.natAbs : Nat) : Int) = true := by
  refine divOk_of ?_ ?_
  · have : Nat.gcd a.natAbs b.natAbs ≠ 0 := fun z => by have := Nat.gcd_eq_zero_iff.mp z; omega
    omega
  · exact (bt.nat (Nat.lt_of_le_of_lt (Nat.gcd_le_right _ (by omega)) hs)).mono
theorem lowest2 {a b : Int} (hb : b ≠ 0) (hs : bt 8999 b) : f_lowest [.lst [.int a, .int b]] M = .ok (.tup [.int (a.fdiv (Nat.gcd a.natAbs b.natAbs : Nat)), .int (b.fdiv (Nat.gcd a.natAbs b.natAbs : Nat))]) M := by
  have hd := gcd_ok (a := a) hb hs
  simp [f_lowest, m_lowest, common2, dFdiv, hd, runDef, sl0, mSeq, mAsg, mDef, mCall, mCons, mRet, mLc, itSeq, seqF, wipeD, mLcGo, mOp, noErr, s_newLst, cTuple, seqOf, s_newTup, cutR, locFree, locFrees, mTup, mLst, mIf, mIfS, mTst, mNot, mNotT, mAnd, mOr, mAndT, mOrT, mFor, mForGo, cIsI, tyS, DL.isInt, mUn, dNeg, dIx, L2.atI, L2.ixN, mPar2, mPar3, mDrop, dGt, dLt, dGe, dLe, itZip, s_bTup, s_bTupL, cGcd]
/-- the parts of a quotient of whole numbers -/
theorem divInt_parts {t b : Int} (hb : b ≠ 0) (f : Int) (hf : f = if b > 0 then 1 else -1) : (Rat.divInt t b).num = (f * t).fdiv (Nat.gcd t.natAbs b.natAbs : Nat) ∧ ((Rat.divInt t b).den : Int) = (f * b).fdiv (Nat.gcd t.natAbs b.natAbs : Nat) := by
  rw [Rat.num_divInt, Rat.den_divInt, if_neg hb, Int.fdiv_eq_ediv_of_nonneg _ (Int.natCast_nonneg _), Int.fdiv_eq_ediv_of_nonneg _ (Int.natCast_nonneg _)]
  have g : Int.gcd b t = Nat.gcd t.natAbs b.natAbs := Nat.gcd_comm _ _
  rw [g]
  rcases Int.lt_or_gt_of_ne hb with h | h
  · have hf' : f = -1 := by rw [hf, if_neg (by omega)]
    subst hf'
    rw [Int.sign_eq_neg_one_of_neg h]
    refine ⟨rfl, ?_⟩
    rw [Int.natCast_ediv]
    congr 1
    omega
  · have hf' : f = 1 := by rw [hf, if_pos (by omega)]
    subst hf'
    rw [Int.sign_eq_one_of_pos h]
    refine ⟨rfl, ?_⟩
    rw [Int.natCast_ediv]
    congr 1
    omega
theorem ratio_ev {t b : Int} (hb : b ≠ 0) (ht : bt 60000 t) (hs : bt 8999 b) : f_ratio [.int t, .int b] M = .ok (rD (Rat.divInt t b)) M := by
  have h1 := @divInt_parts t b hb
  by_cases h : b > 0
  · have m1 : mulOk 1 t = true := bt.one.mk ht
    have m2 : mulOk 1 b = true := bt.one.mk hs
    obtain ⟨e1, e2⟩ := h1 1 (by rw [if_pos h])
    simp only [Int.one_mul] at e1 e2
    simp [f_ratio, m_ratio, f_lowest_over, m_lowest_over, dMul, dAdd, lstOf, m1, m2, h, lowest2 hb hs, rD, e1, e2, runDef, sl0, mSeq, mAsg, mDef, mCall, mCons, mRet, mLc, itSeq, seqF, wipeD, mLcGo, mOp, noErr, s_newLst, cTuple, seqOf, s_newTup, cutR, locFree, locFrees, mTup, mLst, mIf, mIfS, mTst, mNot, mNotT, mAnd, mOr, mAndT, mOrT, mFor, mForGo, cIsI, tyS, DL.isInt, mUn, dNeg, dIx, L2.atI, L2.ixN, mPar2, mPar3, mDrop, dGt, dLt, dGe, dLe, itZip, s_bTup, s_bTupL, cGcd]
  · have m1 : mulOk (-1) t = true := bt.neg1.mk ht
    have m2 : mulOk (-1) b = true := bt.neg1.mk hs
    obtain ⟨e1, e2⟩ := h1 (-1) (by rw [if_neg h])
    have l := @lowest2 M (-t) (-b) (by omega) hs.neg
    simp at e1 e2 l
    simp [f_ratio, m_ratio, f_lowest_over, m_lowest_over, dMul, dAdd, lstOf, m1, m2, h, l, rD, e1, e2, runDef, sl0, mSeq, mAsg, mDef, mCall, mCons, mRet, mLc, itSeq, seqF, wipeD, mLcGo, mOp, noErr, s_newLst, cTuple, seqOf, s_newTup, cutR, locFree, locFrees, mTup, mLst, mIf, mIfS, mTst, mNot, mNotT, mAnd, mOr, mAndT, mOrT, mFor, mForGo, cIsI, tyS, DL.isInt, mUn, dNeg, dIx, L2.atI, L2.ixN, mPar2, mPar3, mDrop, dGt, dLt, dGe, dLe, itZip, s_bTup, s_bTupL, cGcd]
theorem den_ne (p : Rat) : (p.den : Int) ≠ 0 := by have := p.den_pos; omega
theorem den_mul_ne (p q : Rat) : (p.den : Int) * q.den ≠ 0 := Int.mul_ne_zero (den_ne p) (den_ne q)
theorem add_parts (p q : Rat) : Rat.divInt (p.num * q.den + q.num * p.den) (p.den * q.den) = p + q := by
  rw [← Rat.divInt_add_divInt _ _ (den_ne p) (den_ne q), Rat.num_divInt_den, Rat.num_divInt_den]
theorem sub_parts (p q : Rat) : Rat.divInt (p.num * q.den - q.num * p.den) (p.den * q.den) = p - q := by
  rw [← Rat.divInt_sub_divInt _ _ (den_ne p) (den_ne q), Rat.num_divInt_den, Rat.num_divInt_den]
theorem mul_parts (p q : Rat) : Rat.divInt (p.num * q.num) (p.den * q.den) = p * q := by
  rw [← Rat.divInt_mul_divInt, Rat.num_divInt_den, Rat.num_divInt_den]
theorem plus_ev {p q : Rat} (hp : sm p) (hq : sm q) : f_plus [rD p, rD q] M = .ok (rD (p + q)) M := by
  have m1 : mulOk p.num q.den = true := hp.1.mk hq.2
  have m2 : mulOk q.num p.den = true := hq.1.mk hp.2
  have m3 : mulOk p.den q.den = true := hp.2.mk hq.2
  have r := @ratio_ev M (p.num * q.den + q.num * p.den) (p.den * q.den) (den_mul_ne p q) ((hp.1.mul hq.2).add (hq.1.mul hp.2)).mono (hp.2.mul hq.2).mono
  rw [add_parts] at r
  unfold f_plus m_plus rD
  simp [dMul, dAdd, m1, m2, m3, r, runDef, sl0, mSeq, mAsg, mDef, mCall, mCons, mRet, mLc, itSeq, seqF, wipeD, mLcGo, mOp, noErr, s_newLst, cTuple, seqOf, s_newTup, cutR, locFree, locFrees, mTup, mLst, mIf, mIfS, mTst, mNot, mNotT, mAnd, mOr, mAndT, mOrT, mFor, mForGo, cIsI, tyS, DL.isInt, mUn, dNeg, dIx, L2.atI, L2.ixN, mPar2, mPar3, mDrop, dGt, dLt, dGe, dLe, itZip, s_bTup, s_bTupL, cGcd]
  simp [rD, locFree, locFrees]
theorem minus_ev {p q : Rat} (hp : sm p) (hq : sm q) : f_minus [rD p, rD q] M = .ok (rD (p - q)) M := by
  have m1 : mulOk p.num q.den = true := hp.1.mk hq.2
  have m2 : mulOk q.num p.den = true := hq.1.mk hp.2
  have m3 : mulOk p.den q.den = true := hp.2.mk hq.2
  have r := @ratio_ev M (p.num * q.den - q.num * p.den) (p.den * q.den) (den_mul_ne p q) ((hp.1.mul hq.2).sub (hq.1.mul hp.2)).mono (hp.2.mul hq.2).mono
  rw [sub_parts] at r
  unfold f_minus m_minus rD
  simp [dMul, dSub, m1, m2, m3, r, runDef, sl0, mSeq, mAsg, mDef, mCall, mCons, mRet, mLc, itSeq, seqF, wipeD, mLcGo, mOp, noErr, s_newLst, cTuple, seqOf, s_newTup, cutR, locFree, locFrees, mTup, mLst, mIf, mIfS, mTst, mNot, mNotT, mAnd, mOr, mAndT, mOrT, mFor, mForGo, cIsI, tyS, DL.isInt, mUn, dNeg, dIx, L2.atI, L2.ixN, mPar2, mPar3, mDrop, dGt, dLt, dGe, dLe, itZip, s_bTup, s_bTupL, cGcd]
  simp [rD, locFree, locFrees]
theorem times_ev {p q : Rat} (hp : sm p) (hq : sm q) : f_times [rD p, rD q] M = .ok (rD (p * q)) M := by
  have m1 : mulOk p.num q.num = true := hp.1.mk hq.1
  have m3 : mulOk p.den q.den = true := hp.2.mk hq.2
  have r := @ratio_ev M (p.num * q.num) (p.den * q.den) (den_mul_ne p q) (hp.1.mul hq.1).mono (hp.2.mul hq.2).mono
  rw [mul_parts] at r
  unfold f_times m_times rD
  simp [dMul, m1, m3, r, runDef, sl0, mSeq, mAsg, mDef, mCall, mCons, mRet, mLc, itSeq, seqF, wipeD, mLcGo, mOp, noErr, s_newLst, cTuple, seqOf, s_newTup, cutR, locFree, locFrees, mTup, mLst, mIf, mIfS, mTst, mNot, mNotT, mAnd, mOr, mAndT, mOrT, mFor, mForGo, cIsI, tyS, DL.isInt, mUn, dNeg, dIx, L2.atI, L2.ixN, mPar2, mPar3, mDrop, dGt, dLt, dGe, dLe, itZip, s_bTup, s_bTupL, cGcd]
  simp [rD, locFree, locFrees]
/-! ### fractions of the law -/
theorem gcd_loop (c : DT) (body : DS) (hc : c = mTst (mOp dGt (mV 1) (mC (.int 0)))) (hbd : body = mPar2 0 1 (mCons (mV 1) (mCons (mOp dMod (mCall cInt (mCons (mV 0) mNil)) (mV 1)) mNil))) :
    ∀ (k a b : Nat), b < k → mWhileN c body k [some (.int (a : Int)), some (.int (b : Int))] M = .ok (.nx, [some (.int (Nat.gcd a b : Nat)), some (.int 0)]) M
  | 0, a, b, h => absurd h (Nat.not_lt_zero _)
  | k + 1, a, b, h => by
    subst hc hbd
    unfold mWhileN
    by_cases hb : b = 0
    · subst hb
      simp [runDef, sl0, mSeq, mAsg, mDef, mCall, mCons, mRet, mLc, itSeq, seqF, wipeD, mLcGo, mOp, noErr, s_newLst, cTuple, seqOf, s_newTup, cutR, locFree, locFrees, mTup, mLst, mIf, mIfS, mTst, mNot, mNotT, mAnd, mOr, mAndT, mOrT, mFor, mForGo, cIsI, tyS, DL.isInt, mUn, dNeg, dIx, L2.atI, L2.ixN, mPar2, mPar3, mDrop, dGt, dLt, dGe, dLe, itZip, s_bTup, s_bTupL, cGcd]
    · have hb' : 0 < b := by omega
      have ih := gcd_loop _ _ rfl rfl k b (a % b) (by have := Nat.mod_lt a hb'; omega)
      simp [hb', hb, dMod, cInt, runDef, sl0, mSeq, mAsg, mDef, mCall, mCons, mRet, mLc, itSeq, seqF, wipeD, mLcGo, mOp, noErr, s_newLst, cTuple, seqOf, s_newTup, cutR, locFree, locFrees, mTup, mLst, mIf, mIfS, mTst, mNot, mNotT, mAnd, mOr, mAndT, mOrT, mFor, mForGo, cIsI, tyS, DL.isInt, mUn, dNeg, dIx, L2.atI, L2.ixN, mPar2, mPar3, mDrop, dGt, dLt, dGe, dLe, itZip, s_bTup, s_bTupL, cGcd]
      rw [Int.fmod_eq_emod_of_nonneg _ (by omega), show ((a : Int) % (b : Int)) = ((a % b : Nat) : Int) from rfl, ih]
      rw [show Nat.gcd b (a % b) = Nat.gcd a b by rw [Nat.gcd_comm, ← Nat.gcd_rec, Nat.gcd_comm]]
theorem lgcd_ev {a b : Int} : f__law_gcd [.int a, .int b] M = .ok (.int (Nat.gcd a.natAbs b.natAbs : Nat)) M := by
  have abs : ∀ i : Int, (if i < 0 then -i else i) = (i.natAbs : Int) := fun i => by split <;> omega
  have l := gcd_loop (M := M) _ _ rfl rfl (b.natAbs + 1) a.natAbs b.natAbs (Nat.lt_succ_self _)
  have s1 : mPar2 0 1 (mCons (mCall cAbs (mCons (mV 0) mNil)) (mCons (mCall cAbs (mCons (mV 1) mNil)) mNil)) (sl0 2 [.int a, .int b]) M = .ok (.nx, [some (.int (a.natAbs : Int)), some (.int (b.natAbs : Int))]) M := by
    simp [cAbs, abs, runDef, sl0, mSeq, mAsg, mDef, mCall, mCons, mRet, mLc, itSeq, seqF, wipeD, mLcGo, mOp, noErr, s_newLst, cTuple, seqOf, s_newTup, cutR, locFree, locFrees, mTup, mLst, mIf, mIfS, mTst, mNot, mNotT, mAnd, mOr, mAndT, mOrT, mFor, mForGo, cIsI, tyS, DL.isInt, mUn, dNeg, dIx, L2.atI, L2.ixN, mPar2, mPar3, mDrop, dGt, dLt, dGe, dLe, itZip, s_bTup, s_bTupL, cGcd]
  refine run_rt (ρ1 := [some (.int (Nat.gcd a.natAbs b.natAbs : Nat)), some (.int 0)]) rfl ?_ (by simp [locFree])
  unfold m__law_gcd
  rw [seq_nx s1]
  refine (seq_nx (M1 := M) (ρ1 := [some (.int (Nat.gcd a.natAbs b.natAbs : Nat)), some (.int 0)]) ?_).trans ?_
  · unfold mWhile
    exact l
  · rfl
theorem low_ev {t b : Int} (hb : b ≠ 0) (hs : bt 8999 b) : f__law_low [.int t, .int b] M = .ok (rD (Rat.divInt t b)) M := by
  have h1 := @divInt_parts t b hb
  have hd := gcd_ok (a := t) hb hs
  have hd' : divOk (0 - ((Nat.gcd t.natAbs b.natAbs : Nat) : Int)) = true := by
    unfold divOk at hd ⊢
    simp at hd ⊢
    exact hd
  by_cases h : b > 0
  · obtain ⟨e1, e2⟩ := h1 1 (by rw [if_pos h])
    simp only [Int.one_mul] at e1 e2
    simp [f__law_low, m__law_low, lgcd_ev, dFdiv, dSub, hd, h, rD, e1, e2, runDef, sl0, mSeq, mAsg, mDef, mCall, mCons, mRet, mLc, itSeq, seqF, wipeD, mLcGo, mOp, noErr, s_newLst, cTuple, seqOf, s_newTup, cutR, locFree, locFrees, mTup, mLst, mIf, mIfS, mTst, mNot, mNotT, mAnd, mOr, mAndT, mOrT, mFor, mForGo, cIsI, tyS, DL.isInt, mUn, dNeg, dIx, L2.atI, L2.ixN, mPar2, mPar3, mDrop, dGt, dLt, dGe, dLe, itZip, s_bTup, s_bTupL, cGcd]
  · obtain ⟨e1, e2⟩ := h1 (-1) (by rw [if_neg h])
    have g : ∀ i : Int, (-1 * i).fdiv ((Nat.gcd t.natAbs b.natAbs : Nat) : Int) = i.fdiv (0 - ((Nat.gcd t.natAbs b.natAbs : Nat) : Int)) := fun i => by
      have hg : ((Nat.gcd t.natAbs b.natAbs : Nat) : Int) ≠ 0 := by
        unfold divOk at hd
        simp only [Bool.and_eq_true, decide_eq_true_eq] at hd
        exact hd.1
      rw [Int.zero_sub, Int.neg_mul, Int.one_mul, ← Int.neg_fdiv_neg, Int.neg_neg]
    rw [g] at e1 e2
    simp only [Int.zero_sub] at e1 e2 hd'
    simp [f__law_low, m__law_low, lgcd_ev, dFdiv, dSub, hd', h, rD, e1, e2, runDef, sl0, mSeq, mAsg, mDef, mCall, mCons, mRet, mLc, itSeq, seqF, wipeD, mLcGo, mOp, noErr, s_newLst, cTuple, seqOf, s_newTup, cutR, locFree, locFrees, mTup, mLst, mIf, mIfS, mTst, mNot, mNotT, mAnd, mOr, mAndT, mOrT, mFor, mForGo, cIsI, tyS, DL.isInt, mUn, dNeg, dIx, L2.atI, L2.ixN, mPar2, mPar3, mDrop, dGt, dLt, dGe, dLe, itZip, s_bTup, s_bTupL, cGcd]
theorem ladd_ev {p q : Rat} (hp : sm p) (hq : sm q) : f__law_add [rD p, rD q] M = .ok (rD (p + q)) M := by
  have m1 : mulOk p.num q.den = true := hp.1.mk hq.2
  have m2 : mulOk q.num p.den = true := hq.1.mk hp.2
  have m3 : mulOk p.den q.den = true := hp.2.mk hq.2
  have r := @low_ev M (p.num * q.den + q.num * p.den) (p.den * q.den) (den_mul_ne p q) (hp.2.mul hq.2).mono
  rw [add_parts] at r
  unfold f__law_add m__law_add rD
  simp [dMul, dAdd, m1, m2, m3, r, runDef, sl0, mSeq, mAsg, mDef, mCall, mCons, mRet, mLc, itSeq, seqF, wipeD, mLcGo, mOp, noErr, s_newLst, cTuple, seqOf, s_newTup, cutR, locFree, locFrees, mTup, mLst, mIf, mIfS, mTst, mNot, mNotT, mAnd, mOr, mAndT, mOrT, mFor, mForGo, cIsI, tyS, DL.isInt, mUn, dNeg, dIx, L2.atI, L2.ixN, mPar2, mPar3, mDrop, dGt, dLt, dGe, dLe, itZip, s_bTup, s_bTupL, cGcd]
  simp [rD, locFree, locFrees]
theorem lmul_ev {p q : Rat} (hp : sm p) (hq : sm q) : f__law_mul [rD p, rD q] M = .ok (rD (p * q)) M := by
  have m1 : mulOk p.num q.num = true := hp.1.mk hq.1
  have m3 : mulOk p.den q.den = true := hp.2.mk hq.2
  have r := @low_ev M (p.num * q.num) (p.den * q.den) (den_mul_ne p q) (hp.2.mul hq.2).mono
  rw [mul_parts] at r
  unfold f__law_mul m__law_mul rD
  simp [dMul, m1, m3, r, runDef, sl0, mSeq, mAsg, mDef, mCall, mCons, mRet, mLc, itSeq, seqF, wipeD, mLcGo, mOp, noErr, s_newLst, cTuple, seqOf, s_newTup, cutR, locFree, locFrees, mTup, mLst, mIf, mIfS, mTst, mNot, mNotT, mAnd, mOr, mAndT, mOrT, mFor, mForGo, cIsI, tyS, DL.isInt, mUn, dNeg, dIx, L2.atI, L2.ixN, mPar2, mPar3, mDrop, dGt, dLt, dGe, dLe, itZip, s_bTup, s_bTupL, cGcd]
  simp [rD, locFree, locFrees]
theorem div_parts (p q : Rat) : Rat.divInt (p.num * q.den) (p.den * q.num) = p / q := by
  rw [← Rat.divInt_mul_divInt, Rat.num_divInt_den, Rat.div_def, Rat.inv_def]
theorem lover_ev {p q : Rat} (hp : sm p) (hq : sm q) (hq2 : bt 4400 q.num) (h0 : q ≠ 0) : f__law_over [rD p, rD q] M = .ok (rD (p / q)) M := by
  have m1 : mulOk p.num q.den = true := hp.1.mk hq.2
  have m3 : mulOk p.den q.num = true := hp.2.mk hq.1
  have hn : q.num ≠ 0 := fun z => h0 (Rat.num_eq_zero.mp z)
  have r := @low_ev M (p.num * q.den) (p.den * q.num) (Int.mul_ne_zero (den_ne p) hn) (hp.2.mul hq2).mono
  rw [div_parts] at r
  unfold f__law_over m__law_over rD
  simp [dMul, m1, m3, r, runDef, sl0, mSeq, mAsg, mDef, mCall, mCons, mRet, mLc, itSeq, seqF, wipeD, mLcGo, mOp, noErr, s_newLst, cTuple, seqOf, s_newTup, cutR, locFree, locFrees, mTup, mLst, mIf, mIfS, mTst, mNot, mNotT, mAnd, mOr, mAndT, mOrT, mFor, mForGo, cIsI, tyS, DL.isInt, mUn, dNeg, dIx, L2.atI, L2.ixN, mPar2, mPar3, mDrop, dGt, dLt, dGe, dLe, itZip, s_bTup, s_bTupL, cGcd]
  simp [rD, locFree, locFrees]
/-- an unreduced quotient -/
def uD (a b : Int) : D := .tup [.int a, .int b]
theorem ltotal2 {a b c d : Int} {s1 s2 : Nat} (hb : b ≠ 0) (hd : d ≠ 0) (ha : bt 60000 a) (hc : bt 60000 c) (sb : bt s1 b) (sd : bt s2 d) (hs : s1 + s2 ≤ 8999) : f__law_total [.lst [uD a b, uD c d]] M = .ok (rD (Rat.divInt a b + Rat.divInt c d)) M := by
  have r := @low_ev M (a * d + c * b) (b * d) (Int.mul_ne_zero hb hd) (sb.mul sd).mono
  rw [← Rat.divInt_add_divInt _ _ hb hd] at r
  have m1 : mulOk 0 b = true := (bt.zero (n := 1)).mk sb
  have m2 : mulOk a 1 = true := ha.mk bt.one
  have m3 : mulOk 1 b = true := bt.one.mk sb
  have m4 : mulOk a d = true := ha.mk sd
  have m5 : mulOk c b = true := hc.mk sb
  have m6 : mulOk b d = true := sb.mk sd
  simp [f__law_total, m__law_total, uD, dMul, dAdd, m1, m2, m3, m4, m5, m6, r, runDef, sl0, mSeq, mAsg, mDef, mCall, mCons, mRet, mLc, itSeq, seqF, wipeD, mLcGo, mOp, noErr, s_newLst, cTuple, seqOf, s_newTup, cutR, locFree, locFrees, mTup, mLst, mIf, mIfS, mTst, mNot, mNotT, mAnd, mOr, mAndT, mOrT, mFor, mForGo, cIsI, tyS, DL.isInt, mUn, dNeg, dIx, L2.atI, L2.ixN, mPar2, mPar3, mDrop, dGt, dLt, dGe, dLe, itZip, s_bTup, s_bTupL, cGcd]
  simp [rD, locFree, locFrees]
theorem ltotal3 {a b c d e f : Int} {s1 s2 s3 : Nat} (hb : b ≠ 0) (hd : d ≠ 0) (hf : f ≠ 0) (ha : bt 60000 a) (hc : bt 60000 c) (he : bt 60000 e) (sb : bt s1 b) (sd : bt s2 d) (sf : bt s3 f) (hs : s1 + s2 + s3 ≤ 8999) :
    f__law_total [.lst [uD a b, uD c d, uD e f]] M = .ok (rD (Rat.divInt a b + Rat.divInt c d + Rat.divInt e f)) M := by
  have hbd := Int.mul_ne_zero hb hd
  have r := @low_ev M ((a * d + c * b) * f + e * (b * d)) (b * d * f) (Int.mul_ne_zero hbd hf) ((sb.mul sd).mul sf).mono
  rw [← Rat.divInt_add_divInt _ _ hbd hf, ← Rat.divInt_add_divInt _ _ hb hd] at r
  have m1 : mulOk 0 b = true := (bt.zero (n := 1)).mk sb
  have m2 : mulOk a 1 = true := ha.mk bt.one
  have m3 : mulOk 1 b = true := bt.one.mk sb
  have m4 : mulOk a d = true := ha.mk sd
  have m5 : mulOk c b = true := hc.mk sb
  have m6 : mulOk b d = true := sb.mk sd
  have m7 : mulOk (a * d + c * b) f = true := ((ha.mul sd).mono (n := 69000) |>.add ((hc.mul sb).mono (n := 69000))).mk sf
  have m8 : mulOk e (b * d) = true := he.mk (sb.mul sd)
  have m9 : mulOk (b * d) f = true := (sb.mul sd).mk sf
  simp [f__law_total, m__law_total, uD, dMul, dAdd, m1, m2, m3, m4, m5, m6, m7, m8, m9, r, runDef, sl0, mSeq, mAsg, mDef, mCall, mCons, mRet, mLc, itSeq, seqF, wipeD, mLcGo, mOp, noErr, s_newLst, cTuple, seqOf, s_newTup, cutR, locFree, locFrees, mTup, mLst, mIf, mIfS, mTst, mNot, mNotT, mAnd, mOr, mAndT, mOrT, mFor, mForGo, cIsI, tyS, DL.isInt, mUn, dNeg, dIx, L2.atI, L2.ixN, mPar2, mPar3, mDrop, dGt, dLt, dGe, dLe, itZip, s_bTup, s_bTupL, cGcd]
  simp [rD, locFree, locFrees]
end
end G86

set_option Elab.async false
set_option linter.all false
set_option maxRecDepth 100000
set_option maxHeartbeats 4000000
namespace G86
open DL
/-! ### levels over a base: q * (E * CC^k) is whole -/
structure Bs where
  E : Nat
  R : Nat
def CC : Nat := 720720000
theorem CC_lt (k : Nat) : CC ^ k ≤ 2 ^ (30 * k) := by
  rw [Nat.pow_mul]
  exact Nat.pow_le_pow_left (by decide) k
theorem CC_pos (k : Nat) : 0 < CC ^ k := Nat.pow_pos (by decide)
theorem CC_mono {j k : Nat} (h : j ≤ k) : CC ^ j ≤ CC ^ k := Nat.pow_le_pow_right (by decide) h
class Bas (B : Bs) (m1 : outParam Nat) : Prop where
  e : 1 ≤ B.E
  n1 : B.R * CC ^ (2 * m1) < 2 ^ 20000
  d1 : B.E * CC ^ m1 < 2 ^ 4400
def U : Bs := ⟨1, 1⟩
instance : Bas U 140 := ⟨by decide, by rw [show U.R = 1 from rfl, Nat.one_mul]; exact Nat.lt_of_le_of_lt (CC_lt _) (Nat.pow_lt_pow_right (by omega) (by omega)), by rw [show U.E = 1 from rfl, Nat.one_mul]; exact Nat.lt_of_le_of_lt (CC_lt _) (Nat.pow_lt_pow_right (by omega) (by omega))⟩
def lv (B : Bs) (k : Nat) (q : Rat) : Prop := ∃ z : Int, q * ((B.E * CC ^ k : Nat) : Int) = z ∧ z.natAbs ≤ B.R * CC ^ (2 * k)
class Mu (A B : Bs) (C : outParam Bs) : Prop where
  E : C.E = A.E * B.E
  R : C.R = A.R * B.R
instance (priority := low) muB {B : Bs} : Mu B U B := ⟨(Nat.mul_one _).symm, (Nat.mul_one _).symm⟩
instance muU {B : Bs} : Mu U B B := ⟨(Nat.one_mul _).symm, (Nat.one_mul _).symm⟩
section
variable {B : Bs} {m1 : Nat}
theorem lv.mono {j k : Nat} {q : Rat} (h : lv B j q) (hk : j ≤ k := by omega) : lv B k q := by
  obtain ⟨z, h1, h2⟩ := h
  obtain ⟨d, rfl⟩ := Nat.exists_eq_add_of_le hk
  refine ⟨z * ((CC ^ d : Nat) : Int), ?_, ?_⟩
  · rw [Nat.pow_add, ← Nat.mul_assoc, Int.natCast_mul, Rat.intCast_mul, Rat.intCast_mul, ← Rat.mul_assoc, h1]
  · rw [Int.natAbs_mul, Int.natAbs_natCast]
    have e : CC ^ (2 * (j + d)) = CC ^ (2 * j) * (CC ^ d * CC ^ d) := by rw [← Nat.pow_add, ← Nat.pow_add]; congr 1; omega
    rw [e, ← Nat.mul_assoc]
    exact Nat.mul_le_mul h2 (Nat.le_mul_of_pos_right _ (CC_pos d))
theorem lv.mul {A C : Bs} [mu : Mu A B C] {j k : Nat} {p q : Rat} (h : lv A j p) (g : lv B k q) : lv C (j + k) (p * q) := by
  obtain ⟨y, h1, h2⟩ := h
  obtain ⟨z, g1, g2⟩ := g
  refine ⟨y * z, ?_, ?_⟩
  · rw [mu.E, Nat.pow_add, show A.E * B.E * (CC ^ j * CC ^ k) = (A.E * CC ^ j) * (B.E * CC ^ k) by rw [Nat.mul_assoc, Nat.mul_assoc, Nat.mul_left_comm B.E], Int.natCast_mul, Rat.intCast_mul, Rat.intCast_mul, ← h1, ← g1]
    grind
  · rw [mu.R, Int.natAbs_mul, show 2 * (j + k) = 2 * j + 2 * k by omega, Nat.pow_add, show A.R * B.R * (CC ^ (2 * j) * CC ^ (2 * k)) = (A.R * CC ^ (2 * j)) * (B.R * CC ^ (2 * k)) by rw [Nat.mul_assoc, Nat.mul_assoc, Nat.mul_left_comm B.R]]
    exact Nat.mul_le_mul h2 g2
theorem lv.add0 {k : Nat} {p q : Rat} (h : lv B k p) (g : lv B k q) : lv B (k + 1) (p + q) := by
  obtain ⟨y, h1, h2⟩ := h
  obtain ⟨z, g1, g2⟩ := g
  refine ⟨(y + z) * ((CC : Nat) : Int), ?_, ?_⟩
  · rw [Nat.pow_succ, ← Nat.mul_assoc, Int.natCast_mul, Rat.intCast_mul, Rat.intCast_mul, Rat.intCast_add, ← h1, ← g1]
    grind
  · rw [Int.natAbs_mul, Int.natAbs_natCast]
    have a := Int.natAbs_add_le y z
    have e : B.R * CC ^ (2 * (k + 1)) = (B.R * CC ^ (2 * k) * CC) * CC := by rw [show 2 * (k + 1) = 2 * k + 1 + 1 by omega, Nat.pow_succ, Nat.pow_succ, Nat.mul_assoc, Nat.mul_assoc, Nat.mul_assoc]
    rw [e]
    refine Nat.mul_le_mul_right _ (Nat.le_trans a ?_)
    have : B.R * CC ^ (2 * k) * 2 ≤ B.R * CC ^ (2 * k) * CC := Nat.mul_le_mul_left _ (by decide)
    omega
theorem lv.neg {k : Nat} {p : Rat} (h : lv B k p) : lv B k (-p) := by
  obtain ⟨y, h1, h2⟩ := h
  exact ⟨-y, by rw [Rat.neg_mul, h1, Rat.intCast_neg], by rw [Int.natAbs_neg]; exact h2⟩
theorem lv.add {j k m : Nat} {p q : Rat} (h : lv B j p) (g : lv B k q) (h1 : j < m := by omega) (h2 : k < m := by omega) : lv B m (p + q) := by
  cases m with
  | zero => omega
  | succ m => exact (h.mono (k := m)).add0 (g.mono (k := m))
theorem lv.sub {j k m : Nat} {p q : Rat} (h : lv B j p) (g : lv B k q) (h1 : j < m := by omega) (h2 : k < m := by omega) : lv B m (p - q) := by
  rw [Rat.sub_eq_add_neg]
  exact h.add g.neg
theorem lv.zero {k : Nat} : lv B k 0 := ⟨0, by rw [Rat.zero_mul]; rfl, Nat.zero_le _⟩
theorem lv.int {i : Int} (h : i.natAbs ≤ 1) : lv U 0 i := ⟨i, by simp [U], by simpa [U] using h⟩
end
section
variable {B : Bs} {m1 : Nat} [hB : Bas B m1]
include hB
theorem B_pos (k : Nat) : 0 < B.E * CC ^ k := Nat.mul_pos (by have := hB.e; omega) (CC_pos k)
theorem lv.divInt {k : Nat} {q : Rat} {z : Int} (h : q * ((B.E * CC ^ k : Nat) : Int) = z) : q = Rat.divInt z ((B.E * CC ^ k : Nat) : Int) := by
  have hc : (((B.E * CC ^ k : Nat) : Int) : Rat) ≠ 0 := by
    have := B_pos (B := B) k
    exact fun e => by have := Rat.intCast_eq_zero_iff.mp e; omega
  rw [Rat.divInt_eq_div, ← h]
  grind
theorem lv.parts {k : Nat} {q : Rat} (h : lv B k q) : q.num.natAbs ≤ B.R * CC ^ (2 * k) ∧ q.den ≤ B.E * CC ^ k := by
  obtain ⟨z, h1, h2⟩ := h
  have e := lv.divInt h1
  have hp := B_pos (B := B) k
  rw [e]
  refine ⟨?_, ?_⟩
  · rw [Rat.num_divInt, Int.sign_eq_one_of_pos (by omega), Int.one_mul]
    exact Nat.le_trans (Int.natAbs_ediv_le_natAbs _ _) h2
  · rw [Rat.den_divInt, if_neg (by omega), Int.natAbs_natCast]
    exact Nat.div_le_self _ _
theorem lv.sm {k : Nat} {q : Rat} (h : lv B k q) (hk : k ≤ m1 := by omega) : sm q := by
  obtain ⟨h1, h2⟩ := h.parts
  exact ⟨Nat.lt_of_le_of_lt (Nat.le_trans h1 (Nat.mul_le_mul_left _ (CC_mono (by omega)))) hB.n1, bt.nat (Nat.lt_of_le_of_lt (Nat.le_trans h2 (Nat.mul_le_mul_left _ (CC_mono hk))) hB.d1)⟩
end
/-! ### triples -/
structure V3 where
  x : Rat
  y : Rat
  z : Rat
theorem V3.ext' {u v : V3} (h1 : u.x = v.x) (h2 : u.y = v.y) (h3 : u.z = v.z) : u = v := by
  cases u; cases v; cases h1; cases h2; cases h3; rfl
def V3.add (u v : V3) : V3 := ⟨u.x + v.x, u.y + v.y, u.z + v.z⟩
def V3.sub (u v : V3) : V3 := ⟨u.x - v.x, u.y - v.y, u.z - v.z⟩
def V3.mul (u : V3) (c : Rat) : V3 := ⟨u.x * c, u.y * c, u.z * c⟩
def V3.dot (u v : V3) : Rat := u.x * v.x + u.y * v.y + u.z * v.z
def V3.cross (u v : V3) : V3 := ⟨u.y * v.z - u.z * v.y, u.z * v.x - u.x * v.z, u.x * v.y - u.y * v.x⟩
def V3.nil : V3 := ⟨0, 0, 0⟩
def tD (u : V3) : D := .tup [rD u.x, rD u.y, rD u.z]
def lw (B : Bs) (k : Nat) (u : V3) : Prop := lv B k u.x ∧ lv B k u.y ∧ lv B k u.z
section
variable {A B C : Bs}
theorem lw.mono {j k : Nat} {u : V3} (h : lw B j u) (hk : j ≤ k := by omega) : lw B k u := ⟨h.1.mono, h.2.1.mono, h.2.2.mono⟩
theorem lw.add {j k m : Nat} {u v : V3} (h : lw B j u) (g : lw B k v) (h1 : j < m := by omega) (h2 : k < m := by omega) : lw B m (u.add v) := ⟨h.1.add g.1, h.2.1.add g.2.1, h.2.2.add g.2.2⟩
theorem lw.sub {j k m : Nat} {u v : V3} (h : lw B j u) (g : lw B k v) (h1 : j < m := by omega) (h2 : k < m := by omega) : lw B m (u.sub v) := ⟨h.1.sub g.1, h.2.1.sub g.2.1, h.2.2.sub g.2.2⟩
theorem lw.mul [Mu A B C] {j k : Nat} {u : V3} {c : Rat} (h : lw A j u) (g : lv B k c) : lw C (j + k) (u.mul c) := ⟨h.1.mul g, h.2.1.mul g, h.2.2.mul g⟩
theorem lw.cross [Mu A B C] {j k m : Nat} {u v : V3} (h : lw A j u) (g : lw B k v) (hm : j + k < m := by omega) : lw C m (u.cross v) :=
  ⟨(h.2.1.mul g.2.2).sub (h.2.2.mul g.2.1), (h.2.2.mul g.1).sub (h.1.mul g.2.2), (h.1.mul g.2.1).sub (h.2.1.mul g.1)⟩
theorem lw.dot [Mu A B C] {j k m : Nat} {u v : V3} (h : lw A j u) (g : lw B k v) (hm : j + k + 1 < m := by omega) : lv C m (u.dot v) :=
  ((h.1.mul g.1).add (h.2.1.mul g.2.1) (m := j + k + 1)).add (h.2.2.mul g.2.2)
end
def szw (n d : Nat) (u : V3) : Prop := (bt n u.x.num ∧ bt d (u.x.den : Int)) ∧ (bt n u.y.num ∧ bt d (u.y.den : Int)) ∧ bt n u.z.num ∧ bt d (u.z.den : Int)
theorem szw.mono {n d n' d' : Nat} {u : V3} (h : szw n d u) (hn : n ≤ n' := by omega) (hd : d ≤ d' := by omega) : szw n' d' u := ⟨⟨h.1.1.mono, h.1.2.mono⟩, ⟨h.2.1.1.mono, h.2.1.2.mono⟩, h.2.2.1.mono, h.2.2.2.mono⟩
@[simp] theorem free_rD {q : Rat} : locFree (rD q) = true := by simp [rD, locFree, locFrees]
@[simp] theorem free_tD {u : V3} : locFree (tD u) = true := by simp [tD, locFree, locFrees]
section
variable {M : Store} {A B C : Bs} {m1 m2 m3 : Nat} [hB : Bas B m1]
include hB
theorem summed_ev {j k : Nat} {u v : V3} (h : lw B j u) (g : lw B k v) (hj : j ≤ m1 := by omega) (hk : k ≤ m1 := by omega) : f_summed [tD u, tD v] M = .ok (tD (u.add v)) M := by
  have e1 := @plus_ev M _ _ h.1.sm g.1.sm
  have e2 := @plus_ev M _ _ h.2.1.sm g.2.1.sm
  have e3 := @plus_ev M _ _ h.2.2.sm g.2.2.sm
  simp [f_summed, m_summed, tD, V3.add, e1, e2, e3, runDef, sl0, mSeq, mAsg, mDef, mCall, mCons, mRet, mLc, itSeq, seqF, wipeD, mLcGo, mOp, noErr, s_newLst, cTuple, seqOf, s_newTup, cutR, locFree, locFrees, mTup, mLst, mIf, mIfS, mTst, mNot, mNotT, mAnd, mOr, mAndT, mOrT, mFor, mForGo, cIsI, tyS, DL.isInt, mUn, dNeg, dIx, L2.atI, L2.ixN, mPar2, mPar3, mDrop, dGt, dLt, dGe, dLe, itZip, s_bTup, s_bTupL, cGcd]
theorem lessened_ev {j k : Nat} {u v : V3} (h : lw B j u) (g : lw B k v) (hj : j ≤ m1 := by omega) (hk : k ≤ m1 := by omega) : f_lessened [tD u, tD v] M = .ok (tD (u.sub v)) M := by
  have e1 := @minus_ev M _ _ h.1.sm g.1.sm
  have e2 := @minus_ev M _ _ h.2.1.sm g.2.1.sm
  have e3 := @minus_ev M _ _ h.2.2.sm g.2.2.sm
  simp [f_lessened, m_lessened, tD, V3.sub, e1, e2, e3, runDef, sl0, mSeq, mAsg, mDef, mCall, mCons, mRet, mLc, itSeq, seqF, wipeD, mLcGo, mOp, noErr, s_newLst, cTuple, seqOf, s_newTup, cutR, locFree, locFrees, mTup, mLst, mIf, mIfS, mTst, mNot, mNotT, mAnd, mOr, mAndT, mOrT, mFor, mForGo, cIsI, tyS, DL.isInt, mUn, dNeg, dIx, L2.atI, L2.ixN, mPar2, mPar3, mDrop, dGt, dLt, dGe, dLe, itZip, s_bTup, s_bTupL, cGcd]
theorem scaled_ev [hA : Bas A m2] {j k : Nat} {u : V3} {c : Rat} (h : lw A j u) (g : lv B k c) (hj : j ≤ m2 := by omega) (hk : k ≤ m1 := by omega) : f_scaled [tD u, rD c] M = .ok (tD (u.mul c)) M := by
  have e1 := @times_ev M _ _ h.1.sm g.sm
  have e2 := @times_ev M _ _ h.2.1.sm g.sm
  have e3 := @times_ev M _ _ h.2.2.sm g.sm
  simp [f_scaled, m_scaled, tD, V3.mul, e1, e2, e3, runDef, sl0, mSeq, mAsg, mDef, mCall, mCons, mRet, mLc, itSeq, seqF, wipeD, mLcGo, mOp, noErr, s_newLst, cTuple, seqOf, s_newTup, cutR, locFree, locFrees, mTup, mLst, mIf, mIfS, mTst, mNot, mNotT, mAnd, mOr, mAndT, mOrT, mFor, mForGo, cIsI, tyS, DL.isInt, mUn, dNeg, dIx, L2.atI, L2.ixN, mPar2, mPar3, mDrop, dGt, dLt, dGe, dLe, itZip, s_bTup, s_bTupL, cGcd]
omit hB in
theorem rD_zero : rD 0 = .tup [.int 0, .int 1] := rfl
theorem total3_ev {j : Nat} {a b c : Rat} (ha : lv B j a) (hb : lv B j b) (hc : lv B j c) (hj : j + 2 ≤ m1 := by omega) : f_total [.lst [rD a, rD b, rD c]] M = .ok (rD (a + b + c)) M := by
  have z : lv B 0 0 := lv.zero
  have e1 := @plus_ev M _ _ z.sm (ha.sm)
  rw [Rat.zero_add] at e1
  have e2 := @plus_ev M _ _ ha.sm hb.sm
  have e3 := @plus_ev M _ _ (ha.add hb (m := j + 1)).sm hc.sm
  rw [rD_zero] at e1
  simp [f_total, m_total, c_NOUGHT_fracs, e1, e2, e3, runDef, sl0, mSeq, mAsg, mDef, mCall, mCons, mRet, mLc, itSeq, seqF, wipeD, mLcGo, mOp, noErr, s_newLst, cTuple, seqOf, s_newTup, cutR, locFree, locFrees, mTup, mLst, mIf, mIfS, mTst, mNot, mNotT, mAnd, mOr, mAndT, mOrT, mFor, mForGo, cIsI, tyS, DL.isInt, mUn, dNeg, dIx, L2.atI, L2.ixN, mPar2, mPar3, mDrop, dGt, dLt, dGe, dLe, itZip, s_bTup, s_bTupL, cGcd]
theorem dot_ev [hA : Bas A m2] [hC : Bas C m3] [Mu A B C] {j k : Nat} {u v : V3} (h : lw A j u) (g : lw B k v) (hj : j ≤ m2 := by omega) (hk : k ≤ m1 := by omega) (hs : j + k + 2 ≤ m3 := by omega) : f_dot_of [tD u, tD v] M = .ok (rD (u.dot v)) M := by
  have e1 := @times_ev M _ _ h.1.sm g.1.sm
  have e2 := @times_ev M _ _ h.2.1.sm g.2.1.sm
  have e3 := @times_ev M _ _ h.2.2.sm g.2.2.sm
  have e4 := @total3_ev M C _ _ (j + k) _ _ _ (h.1.mul g.1) (h.2.1.mul g.2.1) (h.2.2.mul g.2.2) hs
  simp [f_dot_of, m_dot_of, tD, V3.dot, e1, e2, e3, e4, runDef, sl0, mSeq, mAsg, mDef, mCall, mCons, mRet, mLc, itSeq, seqF, wipeD, mLcGo, mOp, noErr, s_newLst, cTuple, seqOf, s_newTup, cutR, locFree, locFrees, mTup, mLst, mIf, mIfS, mTst, mNot, mNotT, mAnd, mOr, mAndT, mOrT, mFor, mForGo, cIsI, tyS, DL.isInt, mUn, dNeg, dIx, L2.atI, L2.ixN, mPar2, mPar3, mDrop, dGt, dLt, dGe, dLe, itZip, s_bTup, s_bTupL, cGcd]
theorem crossed_ev [hA : Bas A m2] [hC : Bas C m3] [Mu A B C] {j k : Nat} {u v : V3} (h : lw A j u) (g : lw B k v) (hj : j ≤ m2 := by omega) (hk : k ≤ m1 := by omega) (hs : j + k ≤ m3 := by omega) : f_crossed [tD u, tD v] M = .ok (tD (u.cross v)) M := by
  have e1 := @times_ev M _ _ h.2.1.sm g.2.2.sm
  have e2 := @times_ev M _ _ h.2.2.sm g.2.1.sm
  have e3 := @times_ev M _ _ h.2.2.sm g.1.sm
  have e4 := @times_ev M _ _ h.1.sm g.2.2.sm
  have e5 := @times_ev M _ _ h.1.sm g.2.1.sm
  have e6 := @times_ev M _ _ h.2.1.sm g.1.sm
  have f1 := @minus_ev M _ _ (h.2.1.mul g.2.2).sm (h.2.2.mul g.2.1).sm
  have f2 := @minus_ev M _ _ (h.2.2.mul g.1).sm (h.1.mul g.2.2).sm
  have f3 := @minus_ev M _ _ (h.1.mul g.2.1).sm (h.2.1.mul g.1).sm
  simp [f_crossed, m_crossed, tD, V3.cross, e1, e2, e3, e4, e5, e6, f1, f2, f3, runDef, sl0, mSeq, mAsg, mDef, mCall, mCons, mRet, mLc, itSeq, seqF, wipeD, mLcGo, mOp, noErr, s_newLst, cTuple, seqOf, s_newTup, cutR, locFree, locFrees, mTup, mLst, mIf, mIfS, mTst, mNot, mNotT, mAnd, mOr, mAndT, mOrT, mFor, mForGo, cIsI, tyS, DL.isInt, mUn, dNeg, dIx, L2.atI, L2.ixN, mPar2, mPar3, mDrop, dGt, dLt, dGe, dLe, itZip, s_bTup, s_bTupL, cGcd]
/-! the law's -/
theorem lplus_ev {j k : Nat} {u v : V3} (h : lw B j u) (g : lw B k v) (hj : j ≤ m1 := by omega) (hk : k ≤ m1 := by omega) : f__law_plus [tD u, tD v] M = .ok (tD (u.add v)) M := by
  have e1 := @ladd_ev M _ _ h.1.sm g.1.sm
  have e2 := @ladd_ev M _ _ h.2.1.sm g.2.1.sm
  have e3 := @ladd_ev M _ _ h.2.2.sm g.2.2.sm
  simp [f__law_plus, m__law_plus, tD, V3.add, e1, e2, e3, runDef, sl0, mSeq, mAsg, mDef, mCall, mCons, mRet, mLc, itSeq, seqF, wipeD, mLcGo, mOp, noErr, s_newLst, cTuple, seqOf, s_newTup, cutR, locFree, locFrees, mTup, mLst, mIf, mIfS, mTst, mNot, mNotT, mAnd, mOr, mAndT, mOrT, mFor, mForGo, cIsI, tyS, DL.isInt, mUn, dNeg, dIx, L2.atI, L2.ixN, mPar2, mPar3, mDrop, dGt, dLt, dGe, dLe, itZip, s_bTup, s_bTupL, cGcd]
theorem ltimes_ev [hA : Bas A m2] {j k : Nat} {u : V3} {c : Rat} (h : lw A j u) (g : lv B k c) (hj : j ≤ m2 := by omega) (hk : k ≤ m1 := by omega) : f__law_times [tD u, rD c] M = .ok (tD (u.mul c)) M := by
  have e1 := @lmul_ev M _ _ h.1.sm g.sm
  have e2 := @lmul_ev M _ _ h.2.1.sm g.sm
  have e3 := @lmul_ev M _ _ h.2.2.sm g.sm
  simp [f__law_times, m__law_times, tD, V3.mul, e1, e2, e3, runDef, sl0, mSeq, mAsg, mDef, mCall, mCons, mRet, mLc, itSeq, seqF, wipeD, mLcGo, mOp, noErr, s_newLst, cTuple, seqOf, s_newTup, cutR, locFree, locFrees, mTup, mLst, mIf, mIfS, mTst, mNot, mNotT, mAnd, mOr, mAndT, mOrT, mFor, mForGo, cIsI, tyS, DL.isInt, mUn, dNeg, dIx, L2.atI, L2.ixN, mPar2, mPar3, mDrop, dGt, dLt, dGe, dLe, itZip, s_bTup, s_bTupL, cGcd]
omit hB in
theorem neg_parts (p q : Rat) : Rat.divInt (0 - p.num * q.num) (p.den * q.den) = -(p * q) := by
  rw [Int.zero_sub, ← Rat.neg_divInt, mul_parts]
omit hB in
theorem ldot_sz {n1 d1 n2 d2 : Nat} {u v : V3} (h : szw n1 d1 u) (g : szw n2 d2 v) (hn : n1 + n2 ≤ 60000) (hd : 3 * (d1 + d2) ≤ 8999) : f__law_dot [tD u, tD v] M = .ok (rD (u.dot v)) M := by
  have a1 := h.1
  have a2 := h.2.1
  have a3 := h.2.2
  have b1 := g.1
  have b2 := g.2.1
  have b3 := g.2.2
  have t := @ltotal3 M _ _ _ _ _ _ _ _ _ (den_mul_ne u.x v.x) (den_mul_ne u.y v.y) (den_mul_ne u.z v.z) (a1.1.mul b1.1).mono (a2.1.mul b2.1).mono (a3.1.mul b3.1).mono (a1.2.mul b1.2) (a2.2.mul b2.2) (a3.2.mul b3.2) (by omega)
  rw [mul_parts, mul_parts, mul_parts] at t
  have m1 : mulOk u.x.num v.x.num = true := a1.1.mk b1.1
  have m2 : mulOk u.y.num v.y.num = true := a2.1.mk b2.1
  have m3 : mulOk u.z.num v.z.num = true := a3.1.mk b3.1
  have n1 : mulOk u.x.den v.x.den = true := a1.2.mk b1.2
  have n2 : mulOk u.y.den v.y.den = true := a2.2.mk b2.2
  have n3 : mulOk u.z.den v.z.den = true := a3.2.mk b3.2
  unfold uD at t
  simp [f__law_dot, m__law_dot, tD, rD, dMul, m1, m2, m3, n1, n2, n3, t, runDef, sl0, mSeq, mAsg, mDef, mCall, mCons, mRet, mLc, itSeq, seqF, wipeD, mLcGo, mOp, noErr, s_newLst, cTuple, seqOf, s_newTup, cutR, locFree, locFrees, mTup, mLst, mIf, mIfS, mTst, mNot, mNotT, mAnd, mOr, mAndT, mOrT, mFor, mForGo, cIsI, tyS, DL.isInt, mUn, dNeg, dIx, L2.atI, L2.ixN, mPar2, mPar3, mDrop, dGt, dLt, dGe, dLe, itZip, s_bTup, s_bTupL, cGcd]
  simp [V3.dot, rD, locFree, locFrees]
def lcBody : DS := (mApp (mV 9) (mDef 1 f__law_total (mCons (mLst newLst (mCons (mTup (mCons (mOp (dMul newLst) (mOp dIx (mV 10) (mC (.int 0))) (mOp dIx (mV 11) (mC (.int 0)))) (mCons (mOp (dMul newLst) (mOp dIx (mV 10) (mC (.int 1))) (mOp dIx (mV 11) (mC (.int 1)))) mNil))) (mCons (mTup (mCons (mOp dSub (mC (.int 0)) (mOp (dMul newLst) (mOp dIx (mV 12) (mC (.int 0))) (mOp dIx (mV 13) (mC (.int 0))))) (mCons (mOp (dMul newLst) (mOp dIx (mV 12) (mC (.int 1))) (mOp dIx (mV 13) (mC (.int 1)))) mNil))) mNil))) mNil)))
omit hB in
theorem lcross_sz {n1 d1 n2 d2 : Nat} {u v : V3} (h : szw n1 d1 u) (g : szw n2 d2 v) (hn : n1 + n2 ≤ 60000) (hd : 2 * (d1 + d2) ≤ 8999) : f__law_cross [tD u, tD v] M = .ok (tD (u.cross v)) M := by
  have a1 := h.1
  have a2 := h.2.1
  have a3 := h.2.2
  have b1 := g.1
  have b2 := g.2.1
  have b3 := g.2.2
  have st : ∀ (p q r s : Rat), bt n1 p.num ∧ bt d1 (p.den : Int) → bt n2 q.num ∧ bt d2 (q.den : Int) → bt n1 r.num ∧ bt d1 (r.den : Int) → bt n2 s.num ∧ bt d2 (s.den : Int) →
      ∀ (x0 x1 x2 x3 x4 x5 x6 x7 x8 x10 x11 x12 x13 : Option D) (acc ds : List D), acc.length < 100 →
      mForGo (bTup 4 (bCons (bName 10) (bCons (bName 11) (bCons (bName 12) (bCons (bName 13) bNil))))) lcBody (.lst [rD p, rD q, rD r, rD s] :: ds) [x0, x1, x2, x3, x4, x5, x6, x7, x8, some (.loc M.length), x10, x11, x12, x13] (M ++ [some acc])
        = mForGo (bTup 4 (bCons (bName 10) (bCons (bName 11) (bCons (bName 12) (bCons (bName 13) bNil))))) lcBody ds [x0, x1, x2, x3, x4, x5, x6, x7, x8, some (.loc M.length), some (rD p), some (rD q), some (rD r), some (rD s)] (M ++ [some (acc ++ [rD (p * q - r * s)])]) := by
    intro p q r s hp hq hr hs x0 x1 x2 x3 x4 x5 x6 x7 x8 x10 x11 x12 x13 acc ds hacc
    refine for_cons (ρ1 := [x0, x1, x2, x3, x4, x5, x6, x7, x8, some (.loc M.length), some (rD p), some (rD q), some (rD r), some (rD s)]) ((s_bTupL (n := 4) rfl).trans rfl) ?_
    have t := @ltotal2 (M ++ [some acc]) (p.num * q.num) (p.den * q.den) (0 - r.num * s.num) (r.den * s.den) _ _ (den_mul_ne p q) (den_mul_ne r s) (hp.1.mul hq.1).mono (by rw [Int.zero_sub]; exact (hr.1.mul hs.1).neg.mono) (hp.2.mul hq.2) (hr.2.mul hs.2) (by omega)
    rw [mul_parts, neg_parts, ← Rat.sub_eq_add_neg] at t
    unfold uD at t
    simp only [Int.zero_sub] at t
    have m1 : mulOk p.num q.num = true := hp.1.mk hq.1
    have m2 : mulOk p.den q.den = true := hp.2.mk hq.2
    have m3 : mulOk r.num s.num = true := hr.1.mk hs.1
    have m4 : mulOk r.den s.den = true := hr.2.mk hs.2
    have ap := @app_snoc M acc (rD (p * q - r * s)) (by omega) (by simp)
    unfold lcBody mApp
    simp [rD, dMul, dSub, m1, m2, m3, m4, t, runDef, sl0, mSeq, mAsg, mDef, mCall, mCons, mRet, mLc, itSeq, seqF, wipeD, mLcGo, mOp, noErr, s_newLst, cTuple, seqOf, s_newTup, cutR, locFree, locFrees, mTup, mLst, mIf, mIfS, mTst, mNot, mNotT, mAnd, mOr, mAndT, mOrT, mFor, mForGo, cIsI, tyS, DL.isInt, mUn, dNeg, dIx, L2.atI, L2.ixN, mPar2, mPar3, mDrop, dGt, dLt, dGe, dLe, itZip, s_bTup, s_bTupL, cGcd]
    simp only [rD] at ap
    rw [ap]
  have s1 : (mAsg (mTup (mCons (mV 0) (mCons (mV 1) mNil))) (bTup 2 (bCons (bTup 3 (bCons (bName 2) (bCons (bName 3) (bCons (bName 4) bNil)))) (bCons (bTup 3 (bCons (bName 5) (bCons (bName 6) (bCons (bName 7) bNil)))) bNil)))) (sl0 14 [tD u, tD v]) M
      = .ok (.nx, [some (tD u), some (tD v), some (rD u.x), some (rD u.y), some (rD u.z), some (rD v.x), some (rD v.y), some (rD v.z), none, none, none, none, none, none]) M := by
    simp [tD, runDef, sl0, mSeq, mAsg, mDef, mCall, mCons, mRet, mLc, itSeq, seqF, wipeD, mLcGo, mOp, noErr, s_newLst, cTuple, seqOf, s_newTup, cutR, locFree, locFrees, mTup, mLst, mIf, mIfS, mTst, mNot, mNotT, mAnd, mOr, mAndT, mOrT, mFor, mForGo, cIsI, tyS, DL.isInt, mUn, dNeg, dIx, L2.atI, L2.ixN, mPar2, mPar3, mDrop, dGt, dLt, dGe, dLe, itZip, s_bTup, s_bTupL, cGcd]
  refine (run_rt' (d := tD (u.cross v)) (M1 := M ++ [some [rD (u.y * v.z - u.z * v.y), rD (u.z * v.x - u.x * v.z), rD (u.x * v.y - u.y * v.x)]]) (ρ1 := [some (tD u), some (tD v), some (rD u.x), some (rD u.y), some (rD u.z), some (rD v.x), some (rD v.y), some (rD v.z), some (.lst [.lst [rD u.y, rD v.z, rD u.z, rD v.y], .lst [rD u.z, rD v.x, rD u.x, rD v.z], .lst [rD u.x, rD v.y, rD u.y, rD v.x]]), some (.loc M.length), some (rD u.x), some (rD v.y), some (rD u.y), some (rD v.x)]) rfl ?_ free_tD).trans (by rw [take_snoc])
  unfold m__law_cross
  rw [seq_nx s1]
  rw [seq_nx (M1 := M) (ρ1 := [some (tD u), some (tD v), some (rD u.x), some (rD u.y), some (rD u.z), some (rD v.x), some (rD v.y), some (rD v.z), some (.lst [.lst [rD u.y, rD v.z, rD u.z, rD v.y], .lst [rD u.z, rD v.x, rD u.x, rD v.z], .lst [rD u.x, rD v.y, rD u.y, rD v.x]]), none, none, none, none, none]) (by simp [runDef, sl0, mSeq, mAsg, mDef, mCall, mCons, mRet, mLc, itSeq, seqF, wipeD, mLcGo, mOp, noErr, s_newLst, cTuple, seqOf, s_newTup, cutR, locFree, locFrees, mTup, mLst, mIf, mIfS, mTst, mNot, mNotT, mAnd, mOr, mAndT, mOrT, mFor, mForGo, cIsI, tyS, DL.isInt, mUn, dNeg, dIx, L2.atI, L2.ixN, mPar2, mPar3, mDrop, dGt, dLt, dGe, dLe, itZip, s_bTup, s_bTupL, cGcd])]
  rw [seq_nx (M1 := M ++ [some []]) (ρ1 := [some (tD u), some (tD v), some (rD u.x), some (rD u.y), some (rD u.z), some (rD v.x), some (rD v.y), some (rD v.z), some (.lst [.lst [rD u.y, rD v.z, rD u.z, rD v.y], .lst [rD u.z, rD v.x, rD u.x, rD v.z], .lst [rD u.x, rD v.y, rD u.y, rD v.x]]), some (.loc M.length), none, none, none, none]) (by simp [runDef, sl0, mSeq, mAsg, mDef, mCall, mCons, mRet, mLc, itSeq, seqF, wipeD, mLcGo, mOp, noErr, s_newLst, cTuple, seqOf, s_newTup, cutR, locFree, locFrees, mTup, mLst, mIf, mIfS, mTst, mNot, mNotT, mAnd, mOr, mAndT, mOrT, mFor, mForGo, cIsI, tyS, DL.isInt, mUn, dNeg, dIx, L2.atI, L2.ixN, mPar2, mPar3, mDrop, dGt, dLt, dGe, dLe, itZip, s_bTup, s_bTupL, cGcd])]
  rw [seq_nx (M1 := M ++ [some [rD (u.y * v.z - u.z * v.y), rD (u.z * v.x - u.x * v.z), rD (u.x * v.y - u.y * v.x)]]) (ρ1 := [some (tD u), some (tD v), some (rD u.x), some (rD u.y), some (rD u.z), some (rD v.x), some (rD v.y), some (rD v.z), some (.lst [.lst [rD u.y, rD v.z, rD u.z, rD v.y], .lst [rD u.z, rD v.x, rD u.x, rD v.z], .lst [rD u.x, rD v.y, rD u.y, rD v.x]]), some (.loc M.length), some (rD u.x), some (rD v.y), some (rD u.y), some (rD v.x)]) (by
    refine (for_ev (M1 := M ++ [some []]) (xs := [.lst [rD u.y, rD v.z, rD u.z, rD v.y], .lst [rD u.z, rD v.x, rD u.x, rD v.z], .lst [rD u.x, rD v.y, rD u.y, rD v.x]]) rfl).trans ?_
    exact (st _ _ _ _ a2 b3 a3 b2 _ _ _ _ _ _ _ _ _ _ _ _ _ [] _ (by decide)).trans ((st _ _ _ _ a3 b1 a1 b3 _ _ _ _ _ _ _ _ _ _ _ _ _ [rD (u.y * v.z - u.z * v.y)] _ (by show 1 < 100; decide)).trans ((st _ _ _ _ a1 b2 a2 b1 _ _ _ _ _ _ _ _ _ _ _ _ _ [rD (u.y * v.z - u.z * v.y), rD (u.z * v.x - u.x * v.z)] _ (by show 2 < 100; decide)).trans for_nil)))]
  simp [mRet, mCall, mCons, cTuple, seqOf, s_newTup, tD, V3.cross]
theorem lw.sz {k : Nat} {u : V3} (h : lw B k u) (hk : k ≤ m1 := by omega) : szw 20000 4400 u := ⟨h.1.sm, h.2.1.sm, h.2.2.sm⟩
omit hB in
theorem lv.szU {k n d : Nat} {q : Rat} (h : lv U k q) (hn : 60 * k < n := by omega) (hd : 30 * k < d := by omega) : bt n q.num ∧ bt d (q.den : Int) := by
  obtain ⟨h1, h2⟩ := h.parts
  rw [show U.R = 1 from rfl, Nat.one_mul] at h1
  rw [show U.E = 1 from rfl, Nat.one_mul] at h2
  exact ⟨Nat.lt_of_le_of_lt (Nat.le_trans h1 (CC_lt _)) (Nat.pow_lt_pow_right (by omega) (by omega)), bt.nat (Nat.lt_of_le_of_lt (Nat.le_trans h2 (CC_lt _)) (Nat.pow_lt_pow_right (by omega) (by omega)))⟩
omit hB in
theorem lw.szU {k n d : Nat} {u : V3} (h : lw U k u) (hn : 60 * k < n := by omega) (hd : 30 * k < d := by omega) : szw n d u := ⟨h.1.szU, h.2.1.szU, h.2.2.szU⟩
omit hB in
theorem lcross_ev {j k : Nat} {u v : V3} (h : lw U j u) (g : lw U k v) (hj : j ≤ 48 := by omega) (hk : k ≤ 48 := by omega) : f__law_cross [tD u, tD v] M = .ok (tD (u.cross v)) M :=
  lcross_sz (h.szU (n := 2900) (d := 1441)) (g.szU (n := 2900) (d := 1441)) (by omega) (by omega)
omit hB in
theorem ldot_ev {j k : Nat} {u v : V3} (h : lw U j u) (g : lw U k v) (hj : j ≤ 48 := by omega) (hk : k ≤ 48 := by omega) : f__law_dot [tD u, tD v] M = .ok (rD (u.dot v)) M :=
  ldot_sz (h.szU (n := 2900) (d := 1441)) (g.szU (n := 2900) (d := 1441)) (by omega) (by omega)
/-- a small triple with any one -/
theorem lcross_ub {j k : Nat} {u v : V3} (h : lw U j u) (g : lw B k v) (hj : j ≤ 3 := by omega) (hk : k ≤ m1 := by omega) : f__law_cross [tD u, tD v] M = .ok (tD (u.cross v)) M :=
  lcross_sz (h.szU (n := 2900) (d := 91)) g.sz (by omega) (by omega)
theorem lcross_bu {j k : Nat} {u v : V3} (h : lw B j u) (g : lw U k v) (hj : j ≤ m1 := by omega) (hk : k ≤ 3 := by omega) : f__law_cross [tD u, tD v] M = .ok (tD (u.cross v)) M :=
  lcross_sz h.sz (g.szU (n := 2900) (d := 91)) (by omega) (by omega)
end
end G86

set_option Elab.async false
set_option linter.all false
set_option maxRecDepth 100000
set_option maxHeartbeats 4000000
namespace G86
open DL
section
variable {M : Store} {A B C : Bs} {m1 m2 m3 : Nat} [hB : Bas B m1]
include hB
omit hB in
@[simp] theorem eq_int {neg : Bool} {a b : Int} : dEq neg (.int a) (.int b) M = .ok (.bl (neg ^^ decide (a = b))) M := by
  simp [dEq, dEq0, der, okD, eqD, toP, PySem.PyData.eqv]
  rfl
omit hB in
@[simp] theorem len_tup {xs : List D} : cLen [.tup xs] M = .ok (.int xs.length) M := by simp [cLen, seqOf]
omit hB in
@[simp] theorem len_lst {xs : List D} : cLen [.lst xs] M = .ok (.int xs.length) M := by simp [cLen, seqOf]
omit hB in
@[simp] theorem eq_nil {neg : Bool} : dEq neg (.lst []) (.lst []) M = .ok (.bl (!neg)) M := by
  simp [dEq, dEq0, der, okD, okDs, eqD, toP, toPs, PySem.PyData.eqv, PySem.PyData.eqvAll]
omit hB in
theorem is_fraction_ev {q : Rat} : f_is_fraction [rD q] M = .ok (.bl true) M := by
  have hd : (q.den : Int) > 0 := by have := q.den_pos; omega
  have hg : Nat.gcd q.num.natAbs q.den = 1 := q.reduced
  simp [f_is_fraction, m_is_fraction, rD, is_whole_int, common2t, hd, hg, q.den_pos, runDef, sl0, mSeq, mAsg, mDef, mCall, mCons, mRet, mLc, itSeq, seqF, wipeD, mLcGo, mOp, noErr, s_newLst, cTuple, seqOf, s_newTup, cutR, locFree, locFrees, mTup, mLst, mIf, mIfS, mTst, mNot, mNotT, mAnd, mOr, mAndT, mOrT, mFor, mForGo, cIsI, tyS, DL.isInt, mUn, dNeg, dIx, L2.atI, L2.ixN, mPar2, mPar3, mDrop, dGt, dLt, dGe, dLe, itZip, s_bTup, s_bTupL, cGcd]
omit hB in
theorem are_fractions3 {u : V3} : f_are_fractions [tD u, .int 3] M = .ok (.bl true) M := by
  simp [f_are_fractions, m_are_fractions, tD, is_fraction_ev, runDef, sl0, mSeq, mAsg, mDef, mCall, mCons, mRet, mLc, itSeq, seqF, wipeD, mLcGo, mOp, noErr, s_newLst, cTuple, seqOf, s_newTup, cutR, locFree, locFrees, mTup, mLst, mIf, mIfS, mTst, mNot, mNotT, mAnd, mOr, mAndT, mOrT, mFor, mForGo, cIsI, tyS, DL.isInt, mUn, dNeg, dIx, L2.atI, L2.ixN, mPar2, mPar3, mDrop, dGt, dLt, dGe, dLe, itZip, s_bTup, s_bTupL, cGcd]
omit hB in
theorem is_triple_ev {u : V3} : f_is_triple [tD u] M = .ok (.bl true) M := by
  simp [f_is_triple, m_is_triple, are_fractions3, runDef, sl0, mSeq, mAsg, mDef, mCall, mCons, mRet, mLc, itSeq, seqF, wipeD, mLcGo, mOp, noErr, s_newLst, cTuple, seqOf, s_newTup, cutR, locFree, locFrees, mTup, mLst, mIf, mIfS, mTst, mNot, mNotT, mAnd, mOr, mAndT, mOrT, mFor, mForGo, cIsI, tyS, DL.isInt, mUn, dNeg, dIx, L2.atI, L2.ixN, mPar2, mPar3, mDrop, dGt, dLt, dGe, dLe, itZip, s_bTup, s_bTupL, cGcd]
def sD (a b : V3) : D := .tup [tD a, tD b]
omit hB in
@[simp] theorem free_sD {a b : V3} : locFree (sD a b) = true := by simp [sD]
omit hB in
theorem check_screw_ev {a b : V3} : f_check_screw [sD a b] M = .ok .non M := by
  simp [f_check_screw, m_check_screw, f_is_screw, m_is_screw, sD, is_triple_ev, runDef, sl0, mSeq, mAsg, mDef, mCall, mCons, mRet, mLc, itSeq, seqF, wipeD, mLcGo, mOp, noErr, s_newLst, cTuple, seqOf, s_newTup, cutR, locFree, locFrees, mTup, mLst, mIf, mIfS, mTst, mNot, mNotT, mAnd, mOr, mAndT, mOrT, mFor, mForGo, cIsI, tyS, DL.isInt, mUn, dNeg, dIx, L2.atI, L2.ixN, mPar2, mPar3, mDrop, dGt, dLt, dGe, dLe, itZip, s_bTup, s_bTupL, cGcd]
theorem moment_ev {j k : Nat} {a b p : V3} (h : lw B j a) (h2 : lw B j b) (g : lw U k p) (hj : j + k + 1 ≤ m1 := by omega) (hk : k ≤ 140 := by omega) : f_moment_by [sD a b, tD p] M = .ok (tD (b.add (a.cross p))) M := by
  have e1 := crossed_ev (M := M) h g (by omega) (by omega) (by omega)
  have e2 := summed_ev (M := M) h2 (h.cross g (m := j + k + 1)) (by omega) (by omega)
  simp [f_moment_by, m_moment_by, sD, e1, e2, runDef, sl0, mSeq, mAsg, mDef, mCall, mCons, mRet, mLc, itSeq, seqF, wipeD, mLcGo, mOp, noErr, s_newLst, cTuple, seqOf, s_newTup, cutR, locFree, locFrees, mTup, mLst, mIf, mIfS, mTst, mNot, mNotT, mAnd, mOr, mAndT, mOrT, mFor, mForGo, cIsI, tyS, DL.isInt, mUn, dNeg, dIx, L2.atI, L2.ixN, mPar2, mPar3, mDrop, dGt, dLt, dGe, dLe, itZip, s_bTup, s_bTupL, cGcd]
theorem sum_of_ev {j k : Nat} {a b c d : V3} (h1 : lw B j a) (h2 : lw B j b) (g1 : lw B k c) (g2 : lw B k d) (hj : j ≤ m1 := by omega) (hk : k ≤ m1 := by omega) : f_sum_of [sD a b, sD c d] M = .ok (sD (a.add c) (b.add d)) M := by
  have e1 := summed_ev (M := M) h1 g1 hj hk
  have e2 := summed_ev (M := M) h2 g2 hj hk
  simp [f_sum_of, m_sum_of, sD, e1, e2, runDef, sl0, mSeq, mAsg, mDef, mCall, mCons, mRet, mLc, itSeq, seqF, wipeD, mLcGo, mOp, noErr, s_newLst, cTuple, seqOf, s_newTup, cutR, locFree, locFrees, mTup, mLst, mIf, mIfS, mTst, mNot, mNotT, mAnd, mOr, mAndT, mOrT, mFor, mForGo, cIsI, tyS, DL.isInt, mUn, dNeg, dIx, L2.atI, L2.ixN, mPar2, mPar3, mDrop, dGt, dLt, dGe, dLe, itZip, s_bTup, s_bTupL, cGcd]
theorem powered_ev [hA : Bas A m2] [hC : Bas C m3] [Mu A B C] {j k : Nat} {a b c d : V3} (h1 : lw A j a) (h2 : lw A j b) (g1 : lw B k c) (g2 : lw B k d) (hj : j ≤ m2 := by omega) (hk : k ≤ m1 := by omega) (hs : j + k + 3 ≤ m3 := by omega) : f_powered [sD a b, sD c d] M = .ok (rD (a.dot d + b.dot c)) M := by
  have e1 := dot_ev (M := M) h1 g2 (by omega) (by omega) (by omega)
  have e2 := dot_ev (M := M) h2 g1 (by omega) (by omega) (by omega)
  have e3 := @plus_ev M _ _ (h1.dot g2 (m := j + k + 2)).sm (h2.dot g1 (m := j + k + 2)).sm
  simp [f_powered, m_powered, sD, e1, e2, e3, runDef, sl0, mSeq, mAsg, mDef, mCall, mCons, mRet, mLc, itSeq, seqF, wipeD, mLcGo, mOp, noErr, s_newLst, cTuple, seqOf, s_newTup, cutR, locFree, locFrees, mTup, mLst, mIf, mIfS, mTst, mNot, mNotT, mAnd, mOr, mAndT, mOrT, mFor, mForGo, cIsI, tyS, DL.isInt, mUn, dNeg, dIx, L2.atI, L2.ixN, mPar2, mPar3, mDrop, dGt, dLt, dGe, dLe, itZip, s_bTup, s_bTupL, cGcd]
omit hB in
theorem num_pos {c : Rat} (hc : 0 < c) : 0 < c.num := by
  have h1 : 0 ≤ c.num := Rat.num_nonneg.mpr (Rat.le_of_lt hc)
  have h2 : c.num ≠ 0 := fun z => by
    have e := Rat.num_eq_zero.mp z
    rw [e] at hc
    exact absurd hc (Rat.lt_irrefl)
  omega
omit hB in
theorem is_mass_ev {p : V3} {c : Rat} (hc : 0 < c) : f_is_mass [.tup [tD p, rD c]] M = .ok (.bl true) M := by
  have hn : 0 < c.num := num_pos hc
  have e := @is_fraction_ev M c
  simp only [rD] at e
  simp [f_is_mass, m_is_mass, is_triple_ev, rD, e, hn, runDef, sl0, mSeq, mAsg, mDef, mCall, mCons, mRet, mLc, itSeq, seqF, wipeD, mLcGo, mOp, noErr, s_newLst, cTuple, seqOf, s_newTup, cutR, locFree, locFrees, mTup, mLst, mIf, mIfS, mTst, mNot, mNotT, mAnd, mOr, mAndT, mOrT, mFor, mForGo, cIsI, tyS, DL.isInt, mUn, dNeg, dIx, L2.atI, L2.ixN, mPar2, mPar3, mDrop, dGt, dLt, dGe, dLe, itZip, s_bTup, s_bTupL, cGcd]
/-! ### bodies -/
abbrev Bod := List (V3 × Rat)
def pD (p : V3 × Rat) : D := .tup [tD p.1, rD p.2]
def bD (l : Bod) : D := .tup (l.map pD)
omit hB in
@[simp] theorem free_pD {p : V3 × Rat} : locFree (pD p) = true := by simp [pD]
omit hB in
theorem frees_map {β : Type} {f : β → D} (h : ∀ x, locFree (f x) = true) : ∀ l : List β, locFrees (l.map f) = true
  | [] => by simp
  | x :: l => by rw [List.map_cons, frees_cons, h, frees_map h l]; rfl
omit hB in
@[simp] theorem free_bD {l : Bod} : locFree (bD l) = true := by rw [bD, free_tup]; exact frees_map (fun _ => free_pD) l
/-- momentum, one body more -/
def mstep (a b : V3) (f : V3 × V3) (p : V3 × Rat) : V3 × V3 :=
  (f.1.add ((b.add (a.cross p.1)).mul p.2), f.2.add (p.1.cross ((b.add (a.cross p.1)).mul p.2)))
def mom (l : Bod) (a b : V3) : V3 × V3 := l.foldl (mstep a b) (V3.nil, V3.nil)
def lb (k : Nat) (l : Bod) : Prop := ∀ p ∈ l, lw U k p.1 ∧ lv U k p.2
omit hB in
theorem lb.cons {k : Nat} {p : V3 × Rat} {l : Bod} (h : lb k (p :: l)) : (lw U k p.1 ∧ lv U k p.2) ∧ lb k l := ⟨h p List.mem_cons_self, fun q hq => h q (List.mem_cons_of_mem _ hq)⟩
omit hB in
theorem lw.nil {k : Nat} : lw B k V3.nil := ⟨lv.zero, lv.zero, lv.zero⟩
omit hB in
/-- the level of a force's moment -/
theorem mstep_lw {j k n : Nat} {a b : V3} {f : V3 × V3} {p : V3 × Rat} (h1 : lw B j a) (h2 : lw B j b) (hp : lw U k p.1 ∧ lv U k p.2) (hf : lw B n f.1 ∧ lw B n f.2) (hn : j + 3 * k + 3 ≤ n := by omega) : lw B (n + 1) (mstep a b f p).1 ∧ lw B (n + 1) (mstep a b f p).2 := by
  have hforce : lw B (j + k + 2 + k) ((b.add (a.cross p.1)).mul p.2) := (h2.add (h1.cross hp.1 (m := j + k + 1)) (m := j + k + 2)).mul hp.2
  exact ⟨hf.1.add hforce, hf.2.add (hp.1.cross hforce (m := n))⟩
theorem momentum_by_ev {j k : Nat} {l : Bod} {a b : V3} (h1 : lw B j a) (h2 : lw B j b) (hl : lb k l) (hn : j + 3 * k + 3 + l.length ≤ m1) (hk : k ≤ 40) : f_momentum_by [bD l, sD a b] M = .ok (sD (mom l a b).1 (mom l a b).2) M ∧ lw B (j + 3 * k + 3 + l.length) (mom l a b).1 ∧ lw B (j + 3 * k + 3 + l.length) (mom l a b).2 := by
  let P : Nat → V3 × V3 → Sl → Prop := fun i f ρ => (∃ x3 x4 x5, ρ = [some (bD l), some (sD a b), some (sD f.1 f.2), x3, x4, x5]) ∧ (lw B (j + 3 * k + 3 + i) f.1 ∧ lw B (j + 3 * k + 3 + i) f.2)
  obtain ⟨ρ', g1, ⟨x3, x4, x5, rfl⟩, g3⟩ := for_rel (b := bTup 2 (bCons (bName 3) (bCons (bName 4) bNil)))
    (body := mSeq (mAsg (mDef 2 f_scaled (mCons (mDef 2 f_moment_by (mCons (mV 1) (mCons (mV 3) mNil))) (mCons (mV 4) mNil))) (bName 5))
      (mAsg (mDef 2 f_sum_of (mCons (mV 2) (mCons (mTup (mCons (mV 5) (mCons (mDef 2 f_crossed (mCons (mV 3) (mCons (mV 5) mNil))) mNil))) mNil))) (bName 2)))
    (M := M) (f := pD) P (mstep a b) l.length (l := l) (fun i f ρ p hi hp hP => by
      obtain ⟨⟨x3, x4, x5, rfl⟩, hf⟩ := hP
      have hq := hl p hp
      have hforce : lw B (j + k + 2 + k) ((b.add (a.cross p.1)).mul p.2) := (h2.add (h1.cross hq.1 (m := j + k + 1)) (m := j + k + 2)).mul hq.2
      have e1 := moment_ev (M := M) h1 h2 hq.1 (by omega) (by omega)
      have e2 := scaled_ev (M := M) (h2.add (h1.cross hq.1 (m := j + k + 1)) (m := j + k + 2)) hq.2 (by omega) (by omega)
      have e3 := crossed_ev (M := M) hq.1 hforce (by omega) (by omega) (by omega)
      have e4 := sum_of_ev (M := M) (j := j + 3 * k + 3 + i) (k := j + 3 * k + 3) hf.1 hf.2 hforce.mono (hq.1.cross hforce) (by omega) (by omega)
      refine ⟨[some (bD l), some (sD a b), some (sD f.1 f.2), some (tD p.1), some (rD p.2), x5], [some (bD l), some (sD a b), some (sD (mstep a b f p).1 (mstep a b f p).2), some (tD p.1), some (rD p.2), some (tD ((b.add (a.cross p.1)).mul p.2))], ?_, ?_, ⟨⟨_, _, _, rfl⟩, ?_⟩⟩
      · exact (s_bTup (n := 2) rfl).trans rfl
      · rw [show sD ((b.add (a.cross p.1)).mul p.2) (p.1.cross ((b.add (a.cross p.1)).mul p.2)) = D.tup [tD ((b.add (a.cross p.1)).mul p.2), tD (p.1.cross ((b.add (a.cross p.1)).mul p.2))] from rfl] at e4
        simp [e1, e2, e3, e4, mstep, runDef, sl0, mSeq, mAsg, mDef, mCall, mCons, mRet, mLc, itSeq, seqF, wipeD, mLcGo, mOp, noErr, s_newLst, cTuple, seqOf, s_newTup, cutR, locFree, locFrees, mTup, mLst, mIf, mIfS, mTst, mNot, mNotT, mAnd, mOr, mAndT, mOrT, mFor, mForGo, cIsI, tyS, DL.isInt, mUn, dNeg, dIx, L2.atI, L2.ixN, mPar2, mPar3, mDrop, dGt, dLt, dGe, dLe, itZip, s_bTup, s_bTupL, cGcd]
      · have := mstep_lw (n := j + 3 * k + 3 + i) h1 h2 hq hf (by omega)
        exact this)
    0 (V3.nil, V3.nil) [some (bD l), some (sD a b), some (sD V3.nil V3.nil), none, none, none] (by omega) ⟨⟨_, _, _, rfl⟩, lw.nil, lw.nil⟩
  rw [Nat.zero_add] at g3
  refine ⟨?_, g3⟩
  refine run_rt (ρ1 := [some (bD l), some (sD a b), some (sD (mom l a b).1 (mom l a b).2), x3, x4, x5]) rfl ?_ free_sD
  unfold m_momentum_by
  rw [seq_nx (M1 := M) (ρ1 := [some (bD l), some (sD a b), some (sD V3.nil V3.nil), none, none, none]) (by rfl)]
  rw [seq_nx (M1 := M) (ρ1 := [some (bD l), some (sD a b), some (sD (mom l a b).1 (mom l a b).2), x3, x4, x5]) (by exact (for_ev rfl).trans g1)]
  rfl
end
end G86

set_option Elab.async false
set_option linter.all false
set_option maxRecDepth 100000
set_option maxHeartbeats 4000000
namespace G86
open DL
section
variable {M : Store} {A B C : Bs} {m1 m2 m3 : Nat} [hB : Bas B m1]
include hB
omit hB in
theorem lnought_ev : f__law_nought [] M = .ok (tD V3.nil) M := by
  simp [f__law_nought, m__law_nought, tD, V3.nil, rD, runDef, sl0, mSeq, mAsg, mDef, mCall, mCons, mRet, mLc, itSeq, seqF, wipeD, mLcGo, mOp, noErr, s_newLst, cTuple, seqOf, s_newTup, cutR, locFree, locFrees, mTup, mLst, mIf, mIfS, mTst, mNot, mNotT, mAnd, mOr, mAndT, mOrT, mFor, mForGo, cIsI, tyS, DL.isInt, mUn, dNeg, dIx, L2.atI, L2.ixN, mPar2, mPar3, mDrop, dGt, dLt, dGe, dLe, itZip, s_bTup, s_bTupL, cGcd]
theorem lspeed_ev {j k : Nat} {a b p : V3} (h : lw B j a) (h2 : lw B j b) (g : lw U k p) (hj : j + k + 1 ≤ m1 := by omega) (hk : k ≤ 3 := by omega) : f__law_speed [sD a b, tD p] M = .ok (tD (b.add (a.cross p))) M := by
  have e1 := lcross_bu (M := M) h g (by omega) (by omega)
  have e2 := lplus_ev (M := M) h2 (h.cross g (m := j + k + 1)) (by omega) (by omega)
  simp [f__law_speed, m__law_speed, sD, e1, e2, runDef, sl0, mSeq, mAsg, mDef, mCall, mCons, mRet, mLc, itSeq, seqF, wipeD, mLcGo, mOp, noErr, s_newLst, cTuple, seqOf, s_newTup, cutR, locFree, locFrees, mTup, mLst, mIf, mIfS, mTst, mNot, mNotT, mAnd, mOr, mAndT, mOrT, mFor, mForGo, cIsI, tyS, DL.isInt, mUn, dNeg, dIx, L2.atI, L2.ixN, mPar2, mPar3, mDrop, dGt, dLt, dGe, dLe, itZip, s_bTup, s_bTupL, cGcd]
theorem lline_ev {j k : Nat} {a p : V3} (h : lw B j a) (g : lw U k p) (hj : j ≤ m1 := by omega) (hk : k ≤ 3 := by omega) : f__law_line [tD p, tD a] M = .ok (sD a (p.cross a)) M := by
  have e1 := lcross_ub (M := M) g h (by omega) (by omega)
  simp [f__law_line, m__law_line, sD, e1, runDef, sl0, mSeq, mAsg, mDef, mCall, mCons, mRet, mLc, itSeq, seqF, wipeD, mLcGo, mOp, noErr, s_newLst, cTuple, seqOf, s_newTup, cutR, locFree, locFrees, mTup, mLst, mIf, mIfS, mTst, mNot, mNotT, mAnd, mOr, mAndT, mOrT, mFor, mForGo, cIsI, tyS, DL.isInt, mUn, dNeg, dIx, L2.atI, L2.ixN, mPar2, mPar3, mDrop, dGt, dLt, dGe, dLe, itZip, s_bTup, s_bTupL, cGcd]
theorem lsplus_ev {j k : Nat} {a b c d : V3} (h1 : lw B j a) (h2 : lw B j b) (g1 : lw B k c) (g2 : lw B k d) (hj : j ≤ m1 := by omega) (hk : k ≤ m1 := by omega) : f__law_screws_plus [sD a b, sD c d] M = .ok (sD (a.add c) (b.add d)) M := by
  have e1 := lplus_ev (M := M) h1 g1 hj hk
  have e2 := lplus_ev (M := M) h2 g2 hj hk
  simp [f__law_screws_plus, m__law_screws_plus, sD, e1, e2, runDef, sl0, mSeq, mAsg, mDef, mCall, mCons, mRet, mLc, itSeq, seqF, wipeD, mLcGo, mOp, noErr, s_newLst, cTuple, seqOf, s_newTup, cutR, locFree, locFrees, mTup, mLst, mIf, mIfS, mTst, mNot, mNotT, mAnd, mOr, mAndT, mOrT, mFor, mForGo, cIsI, tyS, DL.isInt, mUn, dNeg, dIx, L2.atI, L2.ixN, mPar2, mPar3, mDrop, dGt, dLt, dGe, dLe, itZip, s_bTup, s_bTupL, cGcd]
theorem lmomentum_ev {j k : Nat} {l : Bod} {a b : V3} (h1 : lw B j a) (h2 : lw B j b) (hl : lb k l) (hn : j + 3 * k + 3 + l.length ≤ m1) (hk : k ≤ 3 := by omega) : f__law_momentum [bD l, sD a b] M = .ok (sD (mom l a b).1 (mom l a b).2) M := by
  let P : Nat → V3 × V3 → Sl → Prop := fun i f ρ => (∃ x3 x4, ρ = [some (bD l), some (sD a b), some (sD f.1 f.2), x3, x4]) ∧ (lw B (j + 3 * k + 3 + i) f.1 ∧ lw B (j + 3 * k + 3 + i) f.2)
  obtain ⟨ρ', g1, ⟨x3, x4, rfl⟩, g3⟩ := for_rel (b := bTup 2 (bCons (bName 3) (bCons (bName 4) bNil)))
    (body := mAsg (mDef 2 f__law_screws_plus (mCons (mV 2) (mCons (mDef 2 f__law_line (mCons (mV 3) (mCons (mDef 2 f__law_times (mCons (mDef 2 f__law_speed (mCons (mV 1) (mCons (mV 3) mNil))) (mCons (mV 4) mNil))) mNil))) mNil))) (bName 2))
    (M := M) (f := pD) P (mstep a b) l.length (l := l) (fun i f ρ p hi hp hP => by
      obtain ⟨⟨x3, x4, rfl⟩, hf⟩ := hP
      have hq := hl p hp
      have hsp : lw B (j + k + 2) (b.add (a.cross p.1)) := h2.add (h1.cross hq.1 (m := j + k + 1))
      have hforce : lw B (j + k + 2 + k) ((b.add (a.cross p.1)).mul p.2) := hsp.mul hq.2
      have e1 := lspeed_ev (M := M) h1 h2 hq.1 (by omega)
      have e2 := ltimes_ev (M := M) hsp hq.2 (by omega) (by omega)
      have e3 := lline_ev (M := M) hforce hq.1 (by omega)
      have e4 := lsplus_ev (M := M) (j := j + 3 * k + 3 + i) (k := j + 3 * k + 3) hf.1 hf.2 hforce.mono (hq.1.cross hforce) (by omega) (by omega)
      refine ⟨[some (bD l), some (sD a b), some (sD f.1 f.2), some (tD p.1), some (rD p.2)], [some (bD l), some (sD a b), some (sD (mstep a b f p).1 (mstep a b f p).2), some (tD p.1), some (rD p.2)], ?_, ?_, ⟨⟨_, _, rfl⟩, ?_⟩⟩
      · exact (s_bTup (n := 2) rfl).trans rfl
      · simp [e1, e2, e3, e4, mstep, runDef, sl0, mSeq, mAsg, mDef, mCall, mCons, mRet, mLc, itSeq, seqF, wipeD, mLcGo, mOp, noErr, s_newLst, cTuple, seqOf, s_newTup, cutR, locFree, locFrees, mTup, mLst, mIf, mIfS, mTst, mNot, mNotT, mAnd, mOr, mAndT, mOrT, mFor, mForGo, cIsI, tyS, DL.isInt, mUn, dNeg, dIx, L2.atI, L2.ixN, mPar2, mPar3, mDrop, dGt, dLt, dGe, dLe, itZip, s_bTup, s_bTupL, cGcd]
      · exact mstep_lw (n := j + 3 * k + 3 + i) h1 h2 hq hf (by omega))
    0 (V3.nil, V3.nil) [some (bD l), some (sD a b), some (sD V3.nil V3.nil), none, none] (by omega) ⟨⟨_, _, rfl⟩, lw.nil, lw.nil⟩
  refine run_rt (ρ1 := [some (bD l), some (sD a b), some (sD (mom l a b).1 (mom l a b).2), x3, x4]) rfl ?_ free_sD
  unfold m__law_momentum
  rw [seq_nx (M1 := M) (ρ1 := [some (bD l), some (sD a b), some (sD V3.nil V3.nil), none, none]) (by simp [lnought_ev, sD, runDef, sl0, mSeq, mAsg, mDef, mCall, mCons, mRet, mLc, itSeq, seqF, wipeD, mLcGo, mOp, noErr, s_newLst, cTuple, seqOf, s_newTup, cutR, locFree, locFrees, mTup, mLst, mIf, mIfS, mTst, mNot, mNotT, mAnd, mOr, mAndT, mOrT, mFor, mForGo, cIsI, tyS, DL.isInt, mUn, dNeg, dIx, L2.atI, L2.ixN, mPar2, mPar3, mDrop, dGt, dLt, dGe, dLe, itZip, s_bTup, s_bTupL, cGcd])]
  rw [seq_nx (M1 := M) (ρ1 := [some (bD l), some (sD a b), some (sD (mom l a b).1 (mom l a b).2), x3, x4]) (by exact (for_ev rfl).trans g1)]
  rfl
/-- energy, one body more -/
def estep (a b : V3) (e : Rat) (p : V3 × Rat) : Rat := e + p.2 * (b.add (a.cross p.1)).dot (b.add (a.cross p.1))
def enr (l : Bod) (a b : V3) : Rat := l.foldl (estep a b) 0
/-! the power of the momentum on the move -/
omit hB in
theorem power_step (a b : V3) (f : V3 × V3) (p : V3 × Rat) : (mstep a b f p).1.dot b + (mstep a b f p).2.dot a = (f.1.dot b + f.2.dot a) + p.2 * (b.add (a.cross p.1)).dot (b.add (a.cross p.1)) := by
  simp only [mstep, V3.dot, V3.add, V3.mul, V3.cross]
  grind
omit hB in
theorem power_mom (a b : V3) : ∀ (l : Bod) (f : V3 × V3) (e : Rat), f.1.dot b + f.2.dot a = e → (l.foldl (mstep a b) f).1.dot b + (l.foldl (mstep a b) f).2.dot a = l.foldl (estep a b) e
  | [], _, _, h => h
  | p :: l, f, e, h => by
    rw [List.foldl_cons, List.foldl_cons]
    refine power_mom a b l _ _ ?_
    rw [power_step, h]
    rfl
omit hB in
theorem power_eq (l : Bod) (a b : V3) : (mom l a b).1.dot b + (mom l a b).2.dot a = enr l a b := power_mom a b l _ _ (by simp only [V3.dot, V3.nil]; grind)
end
end G86

set_option Elab.async false
set_option linter.all false
set_option maxRecDepth 100000
set_option maxHeartbeats 4000000
namespace G86
open DL
instance : DecidableEq V3 := fun u v =>
  if h : u.x = v.x ∧ u.y = v.y ∧ u.z = v.z then .isTrue (V3.ext' h.1 h.2.1 h.2.2) else .isFalse fun e => h (by rw [e]; exact ⟨rfl, rfl, rfl⟩)
/-! ### pairs -/
theorem nx_all {n a b i j : Nat} (hij : i < j) (hj : j < n) (hab : a < b) (hb : b < n) (h : a < i ∨ (a = i ∧ b < j)) : ∃ p, nx n a b = some p ∧ (p.1 < i ∨ (p.1 = i ∧ p.2 ≤ j)) := by
  unfold nx
  by_cases h1 : b + 1 < n
  · rw [if_pos h1]
    exact ⟨_, rfl, by show a < i ∨ (a = i ∧ b + 1 ≤ j); omega⟩
  · rw [if_neg h1]
    have h2 : a + 2 < n := by omega
    rw [if_pos h2]
    exact ⟨_, rfl, by show a + 1 < i ∨ (a + 1 = i ∧ a + 2 ≤ j); omega⟩
theorem cs_all {n i j : Nat} (hij : i < j) (hj : j < n) : ∀ (k : Nat) {a b : Nat}, (n - a) * (n + 1) + (n - b) ≤ k → a < b → b < n → (a < i ∨ (a = i ∧ b ≤ j)) → (i, j) ∈ cs n a b
  | 0, a, b, hk, hab, hb, _ => by exfalso; omega
  | k + 1, a, b, hk, hab, hb, h => by
    rw [cs_eq]
    by_cases e : a = i ∧ b = j
    · rw [e.1, e.2]; exact List.mem_cons_self
    · obtain ⟨p, h1, h2⟩ := nx_all hij hj hab hb (by omega)
      rw [csT_some h1]
      refine List.mem_cons_of_mem _ (cs_all hij hj k ?_ (nx_in h1 hab hb).1 (nx_in h1 hab hb).2 h2)
      unfold nx at h1
      by_cases c1 : b + 1 < n
      · rw [if_pos c1] at h1; cases h1
        show (n - a) * (n + 1) + (n - (b + 1)) ≤ k
        omega
      · rw [if_neg c1] at h1
        by_cases c2 : a + 2 < n
        · rw [if_pos c2] at h1; cases h1
          show (n - (a + 1)) * (n + 1) + (n - (a + 2)) ≤ k
          have e : n - a = (n - (a + 1)) + 1 := by omega
          rw [e, Nat.add_mul] at hk
          omega
        · rw [if_neg c2] at h1; cases h1
theorem pairIx_all {n i j : Nat} (hij : i < j) (hj : j < n) : (i, j) ∈ pairIx n := by
  unfold pairIx
  rw [if_pos (by omega)]
  exact cs_all hij hj _ (Nat.le_refl _) (by omega) (by omega) (by omega)
/-! ### all points on one line -/
theorem rat_ext {p q : Rat} (h1 : p.num = q.num) (h2 : p.den = q.den) : p = q := Rat.ext h1 h2
theorem eqv_rD (p q : Rat) : PySem.PyData.eqv (toP (rD p)) (toP (rD q)) = decide (p = q) := by
  simp only [rD, toP, toPs, PySem.PyData.eqv, PySem.PyData.eqvAll, Bool.and_true]
  by_cases h : p = q
  · subst h; simp
  · have : ¬ (p.num = q.num ∧ p.den = q.den) := fun e => h (rat_ext e.1 e.2)
    simp [h]
    intro e1 e2
    exact this ⟨e1, by omega⟩
theorem eqv_tD (u v : V3) : PySem.PyData.eqv (toP (tD u)) (toP (tD v)) = decide (u = v) := by
  simp only [tD, toP, toPs, PySem.PyData.eqv, PySem.PyData.eqvAll, Bool.and_true, eqv_rD]
  by_cases h : u = v
  · subst h; simp
  · have : ¬ (u.x = v.x ∧ u.y = v.y ∧ u.z = v.z) := fun e => h (V3.ext' e.1 e.2.1 e.2.2)
    simp [h]
    intro e1 e2 e3
    exact this ⟨e1, e2, e3⟩
section
variable {M : Store}
theorem ok_rD {q : Rat} {n : Nat} (h : 1 ≤ n) : okD (rD q) n = true := by simp [rD, okD, okDs]; omega
theorem ok_tD {u : V3} {n : Nat} (h : 2 ≤ n) : okD (tD u) n = true := by
  simp [tD, okD, okDs, ok_rD (show 1 ≤ n - 1 by omega)]; omega
theorem eq_tD {neg : Bool} {u v : V3} : dEq neg (tD u) (tD v) M = .ok (.bl (neg ^^ decide (u = v))) M := by
  show dEq0 neg (tD u) (tD v) M = _
  unfold dEq0
  rw [show der M (tD u) = some (tD u) from rfl, show der M (tD v) = some (tD v) from rfl]
  show (if (okD (tD u) 60 && okD (tD v) 60) = true then Res.ok (D.bl (neg ^^ eqD (tD u) (tD v))) M else .stuck) = _
  rw [ok_tD (by decide), ok_tD (by decide), if_pos (by decide)]
  unfold eqD
  rw [eqv_tD]
def steps (ps : List V3) (p0 : V3) : List V3 := (ps.drop 1).map fun p => p.sub p0
def lineB (ss : List V3) : Bool := (pairIx ss.length).all fun p => decide ((ss.getD p.1 V3.nil).cross (ss.getD p.2 V3.nil) = V3.nil)
theorem getD_map {ss : List V3} {i : Nat} (h : i < ss.length) : (ss.map tD).getD i .non = tD (ss.getD i V3.nil) := by
  rw [List.getD_eq_getElem?_getD, List.getD_eq_getElem?_getD, List.getElem?_map, List.getElem?_eq_getElem h]
  rfl
theorem on_line_ev {k : Nat} {ps : List V3} {p0 : V3} (h0 : ps[0]? = some p0) (hl : ∀ p ∈ ps, lw U k p) (hk : 2 * k + 3 ≤ 140) (hlen : ps.length ≤ 100) : f_are_on_line [.lst (ps.map tD)] M = .ok (.bl (lineB (steps ps p0))) M := by
  have hp0 := hl p0 (List.mem_of_getElem? h0)
  have hs : ∀ s ∈ steps ps p0, lw U (k + 1) s := fun s h => by
    obtain ⟨p, hp, rfl⟩ := List.mem_map.mp h
    exact (hl p (List.mem_of_mem_drop hp)).sub hp0
  have hat : ∀ i, i < (steps ps p0).length → lw U (k + 1) ((steps ps p0).getD i V3.nil) := fun i hi => by
    rw [List.getD_eq_getElem?_getD, List.getElem?_eq_getElem hi]
    exact hs _ (List.getElem_mem hi)
  have hix : L2.atI (ps.map tD) 0 = some (tD p0) := by
    have hpos : 0 < ps.length := by
      rcases Nat.eq_zero_or_pos ps.length with z | z
      · rw [List.length_eq_zero_iff.mp z] at h0; cases h0
      · exact z
    unfold L2.atI L2.ixN
    rw [if_pos (by decide), List.length_map, if_pos (by omega)]
    show (ps.map tD)[0]? = _
    rw [List.getElem?_map, h0]
    rfl
  have hcut : cutD (ps.map tD) (some 1) none = (ps.drop 1).map tD := by
    rw [show (some 1 : Option Int) = some ((1 : Nat) : Int) from rfl, cut_drop, List.map_drop]
  have hsl : (ps.drop 1).length ≤ 100 := by rw [List.length_drop]; omega
  have l1 : mLcGo (bName 2) mYes (mDef 2 f_lessened (mCons (mV 2) (mCons (mOp dIx (mV 0) (mC (.int 0))) mNil))) ((ps.drop 1).map tD) [some (.lst (ps.map tD)), none, none, none, none] M = .ok ((steps ps p0).map tD) M := by
    have q := lc_map (b := bName 2) (tt := mYes) (me := mDef 2 f_lessened (mCons (mV 2) (mCons (mOp dIx (mV 0) (mC (.int 0))) mNil))) (ρ := [some (.lst (ps.map tD)), none, none, none, none]) (M := M) (f := tD) (e := fun p => tD (p.sub p0)) (t := fun _ => true) (l := ps.drop 1) (fun p hp => by
      refine ⟨[some (.lst (ps.map tD)), none, some (tD p), none, none], rfl, rfl, fun _ => ?_⟩
      have e1 := lessened_ev (M := M) (hl p (List.mem_of_mem_drop hp)) hp0 (by omega) (by omega)
      simp [mDef, mCall, mCons, mOp, dIx, seqOf, hix, e1])
    rw [q, show (ps.drop 1).filter (fun _ => true) = ps.drop 1 from List.filter_eq_self.mpr fun _ _ => rfl]
    unfold steps
    rw [List.map_map]
    rfl
  have l2 : mLcGo (bTup 2 (bCons (bName 3) (bCons (bName 4) bNil))) (mTst (mOp (dEq true) (mDef 2 f_crossed (mCons (mV 3) (mCons (mV 4) mNil))) (mC c_NOUGHT_TRIPLE))) (mC (.int 1)) (pairsD ((steps ps p0).map tD)) [some (.lst (ps.map tD)), some (.lst ((steps ps p0).map tD)), none, none, none] M
      = .ok (((pairIx (steps ps p0).length).filter fun p => !decide (((steps ps p0).getD p.1 V3.nil).cross ((steps ps p0).getD p.2 V3.nil) = V3.nil)).map fun _ => .int 1) M := by
    unfold pairsD
    rw [List.length_map]
    refine lc_map fun p hp => ?_
    obtain ⟨h1, h2⟩ := pairIx_in hp
    refine ⟨[some (.lst (ps.map tD)), some (.lst ((steps ps p0).map tD)), none, some (tD ((steps ps p0).getD p.1 V3.nil)), some (tD ((steps ps p0).getD p.2 V3.nil))], ?_, ?_, fun _ => rfl⟩
    · rw [getD_map (by omega), getD_map h2]
      exact (s_bTup (n := 2) rfl).trans rfl
    · have e1 := crossed_ev (M := M) (hat p.1 (by omega)) (hat p.2 h2) (by omega) (by omega) (by omega)
      have e2 : c_NOUGHT_TRIPLE = tD V3.nil := rfl
      generalize (steps ps p0).getD p.1 V3.nil = u at e1 ⊢
      generalize (steps ps p0).getD p.2 V3.nil = v at e1 ⊢
      simp [mTst, mOp, mDef, mCall, mCons, e1, e2, eq_tD]
  unfold f_are_on_line
  refine run_rt (ρ1 := [some (.lst (ps.map tD)), some (.lst ((steps ps p0).map tD)), none, none, none]) rfl ?_ (by simp [locFree])
  unfold m_are_on_line
  have hsteps : (steps ps p0).length ≤ 100 := by unfold steps; rw [List.length_map]; exact hsl
  have hpairs : (pairsD ((steps ps p0).map tD)).length ≤ 16777216 := by
    unfold pairsD
    rw [List.length_map, List.length_map]
    exact pairIx_len hsteps
  have a1 : mLc newLst (itSeq (mSl newLst (mV 0) (mPart (mC (.int 1))) mNoP)) (bName 2) mYes (mDef 2 f_lessened (mCons (mV 2) (mCons (mOp dIx (mV 0) (mC (.int 0))) mNil))) [2] (sl0 5 [.lst (ps.map tD)]) M = .ok (.lst ((steps ps p0).map tD)) M := by
    refine (mLc_ev (xs := (ps.drop 1).map tD) (M1 := M) (M2 := M) ?_ (by rw [List.length_map]; omega) l1).trans (s_newLst (by rw [List.length_map]; omega))
    simp [itSeq, mSl, dSl, mPart, mNoP, seqOf, seqF, hcut, sl0]
    rw [s_newLst (by simp at hsl ⊢; omega)]
    simp
  have a2 : mLc newLst (itComb (mCons (mV 1) (mCons (mC (.int 2)) mNil))) (bTup 2 (bCons (bName 3) (bCons (bName 4) bNil))) (mTst (mOp (dEq true) (mDef 2 f_crossed (mCons (mV 3) (mCons (mV 4) mNil))) (mC c_NOUGHT_TRIPLE))) (mC (.int 1)) [3, 4] [some (.lst (ps.map tD)), some (.lst ((steps ps p0).map tD)), none, none, none] M
      = .ok (.lst (((pairIx (steps ps p0).length).filter fun p => !decide (((steps ps p0).getD p.1 V3.nil).cross ((steps ps p0).getD p.2 V3.nil) = V3.nil)).map fun _ => .int 1)) M := by
    refine (mLc_ev (xs := pairsD ((steps ps p0).map tD)) (M1 := M) (M2 := M) ?_ hpairs l2).trans (s_newLst ?_)
    · simp [itComb, mCons, seqF]
    · rw [List.length_map]
      refine Nat.le_trans (List.length_filter_le _ _) ?_
      unfold pairsD at hpairs
      rw [List.length_map, List.length_map] at hpairs
      exact hpairs
  rw [seq_nx (M1 := M) (ρ1 := [some (.lst (ps.map tD)), some (.lst ((steps ps p0).map tD)), none, none, none]) (by exact asg_ev a1)]
  have a3 : ∀ ρ, mLst newLst mNil ρ M = .ok (.lst []) M := fun ρ => by simp [mLst, s_newLst]
  refine ret_ev ((op_ev a2 (a3 _)).trans ?_)
  cases q : ((pairIx (steps ps p0).length).filter fun p => !decide (((steps ps p0).getD p.1 V3.nil).cross ((steps ps p0).getD p.2 V3.nil) = V3.nil)) with
  | nil =>
    have e : lineB (steps ps p0) = true := by
      unfold lineB
      rw [List.all_eq_true]
      intro p hp
      have := List.filter_eq_nil_iff.mp q p hp
      simpa using this
    rw [e]
    exact eq_nil
  | cons p r =>
    have e : lineB (steps ps p0) = false := by
      unfold lineB
      rw [List.all_eq_false]
      have hm : p ∈ (pairIx (steps ps p0).length).filter fun p => !decide (((steps ps p0).getD p.1 V3.nil).cross ((steps ps p0).getD p.2 V3.nil) = V3.nil) := by rw [q]; exact List.mem_cons_self
      obtain ⟨h1, h2⟩ := List.mem_filter.mp hm
      exact ⟨p, h1, by simpa using h2⟩
    rw [e]
    have ok1 : ∀ (l : List (Nat × Nat)) (n : Nat), okDs (l.map fun _ => D.int 1) n = true := fun l n => by
      induction l with
      | nil => simp [okDs]
      | cons x l ih => rw [List.map_cons, okDs, ih]; simp [okD]
    rw [List.map_cons]
    show dEq0 false (.lst (.int 1 :: r.map fun _ => .int 1)) (.lst []) M = _
    unfold dEq0
    show (if (okD (.lst (.int 1 :: r.map fun _ => .int 1)) 60 && okD (.lst []) 60) = true then _ else _) = _
    rw [if_pos (by simp [okD, okDs, ok1])]
    simp [eqD, toP, toPs, PySem.PyData.eqv, PySem.PyData.eqvAll]
end
end G86

set_option Elab.async false
set_option linter.all false
set_option maxRecDepth 100000
set_option maxHeartbeats 4000000
namespace G86
open DL
theorem enum_map {γ : Type} {f : γ → D} : ∀ {l : List γ} {j : Nat}, enumD j (l.map f) = (l.zipIdx j).map fun x => .tup [.int (x.2 : Nat), f x.1]
  | [], j => rfl
  | x :: l, j => by rw [List.map_cons, enumD, List.zipIdx_cons, List.map_cons, enum_map]
/-- three points not on one line -/
def tri (ps : List V3) : Prop := ∃ p q r, p ∈ ps ∧ q ∈ ps ∧ r ∈ ps ∧ (q.sub p).cross (r.sub p) ≠ V3.nil
theorem cross_anti (u v : V3) (h : u.cross v = V3.nil) : v.cross u = V3.nil := by
  have h1 := congrArg V3.x h
  have h2 := congrArg V3.y h
  have h3 := congrArg V3.z h
  simp only [V3.cross, V3.nil] at h1 h2 h3
  refine V3.ext' ?_ ?_ ?_ <;> simp only [V3.cross, V3.nil] <;> grind
theorem cross_self (u : V3) : u.cross u = V3.nil := by
  refine V3.ext' ?_ ?_ ?_ <;> simp only [V3.cross, V3.nil] <;> grind
theorem cross_diff {a b c : V3} (h1 : a.cross b = V3.nil) (h2 : a.cross c = V3.nil) (h3 : b.cross c = V3.nil) : (b.sub a).cross (c.sub a) = V3.nil := by
  have := congrArg V3.x h1
  have := congrArg V3.y h1
  have := congrArg V3.z h1
  have := congrArg V3.x h2
  have := congrArg V3.y h2
  have := congrArg V3.z h2
  have := congrArg V3.x h3
  have := congrArg V3.y h3
  have := congrArg V3.z h3
  simp only [V3.cross, V3.nil] at *
  refine V3.ext' ?_ ?_ ?_ <;> simp only [V3.cross, V3.nil, V3.sub] <;> grind
theorem sub_sub_sub (p q o : V3) : (q.sub o).sub (p.sub o) = q.sub p := by
  refine V3.ext' ?_ ?_ ?_ <;> simp only [V3.sub] <;> grind
theorem sub_self (p : V3) : p.sub p = V3.nil := by
  refine V3.ext' ?_ ?_ ?_ <;> simp only [V3.sub, V3.nil] <;> grind
theorem nil_cross (u : V3) : V3.nil.cross u = V3.nil := by
  refine V3.ext' ?_ ?_ ?_ <;> simp only [V3.cross, V3.nil] <;> grind
theorem line_false {ps : List V3} {p0 : V3} (h0 : ps[0]? = some p0) (h : tri ps) : lineB (steps ps p0) = false := by
  cases e : lineB (steps ps p0) with
  | false => rfl
  | true =>
    exfalso
    unfold lineB at e
    rw [List.all_eq_true] at e
    -- all differences from the first point are along one another
    have key : ∀ s t, s ∈ steps ps p0 → t ∈ steps ps p0 → s.cross t = V3.nil := by
      intro s t hs ht
      obtain ⟨i, hi, rfl⟩ := List.mem_iff_getElem.mp hs
      obtain ⟨j, hj, rfl⟩ := List.mem_iff_getElem.mp ht
      have gd : ∀ k (hk : k < (steps ps p0).length), (steps ps p0).getD k V3.nil = (steps ps p0)[k] := fun k hk => by
        rw [List.getD_eq_getElem?_getD, List.getElem?_eq_getElem hk]; rfl
      rcases Nat.lt_trichotomy i j with h | h | h
      · have := of_decide_eq_true (e (i, j) (pairIx_all h hj))
        rw [gd i hi, gd j hj] at this
        exact this
      · subst h; exact cross_self _
      · have := of_decide_eq_true (e (j, i) (pairIx_all h hi))
        rw [gd i hi, gd j hj] at this
        exact cross_anti _ _ this
    have all : ∀ p, p ∈ ps → p.sub p0 ∈ steps ps p0 ∨ p.sub p0 = V3.nil := by
      intro p hp
      cases ps with
      | nil => cases hp
      | cons x ps =>
        have h0 : x = p0 := Option.some.inj h0
        subst h0
        rcases List.mem_cons.mp hp with rfl | hp
        · exact .inr (sub_self _)
        · exact .inl (List.mem_map.mpr ⟨p, hp, rfl⟩)
    have par : ∀ p q, p ∈ ps → q ∈ ps → (p.sub p0).cross (q.sub p0) = V3.nil := by
      intro p q hp hq
      rcases all p hp with a | a
      · rcases all q hq with b | b
        · exact key _ _ a b
        · rw [b]; exact cross_anti _ _ (nil_cross _)
      · rw [a]; exact nil_cross _
    obtain ⟨p, q, r, hp, hq, hr, hne⟩ := h
    have := cross_diff (par p q hp hq) (par p r hp hr) (par q r hq hr)
    rw [sub_sub_sub, sub_sub_sub] at this
    exact hne this
structure Good (k : Nat) (l : Bod) : Prop where
  lb : lb k l
  lo : 3 ≤ l.length
  hi : l.length ≤ 8
  pos : ∀ p ∈ l, 0 < p.2
  tri : tri (l.map (·.1))
section
variable {M : Store}
theorem wrong_ev {k : Nat} {l : Bod} (g : Good k l) (hk : 2 * k + 3 ≤ 140 := by omega) : f_wrong_mass [bD l] M = .ok .non M := by
  have hlo := g.lo
  have hhi := g.hi
  let P : Nat → Unit → Sl → Prop := fun i f ρ => ∃ x1 x2, ρ = [some (bD l), x1, x2]
  obtain ⟨ρ', g1, ⟨x1, x2, rfl⟩⟩ := for_rel (b := bTup 2 (bCons (bName 1) (bCons (bName 2) bNil)))
    (body := mIfS (mOrT (mTst (mOp (dEq false) (mV 1) (mC c_MOST_MASSES))) (mNotT (mTst (mDef 1 f_is_mass (mCons (mV 2) mNil)))))
      (mRet (mTup (mCons (mV 1) mNil))) mNx)
    (M := M) (f := fun x : (V3 × Rat) × Nat => D.tup [.int (x.2 : Nat), pD x.1]) P (fun _ _ => ()) 8 (l := l.zipIdx) (fun i f ρ x hi hx hP => by
      obtain ⟨x1, x2, rfl⟩ := hP
      have hm := List.mem_zipIdx' hx
      have h8 : ¬ ((x.2 : Int) = 8) := by have := hm.1; omega
      have e1 := @is_mass_ev M x.1.1 x.1.2 (g.pos _ (by rw [hm.2]; exact List.getElem_mem _))
      refine ⟨[some (bD l), some (.int (x.2 : Nat)), some (pD x.1)], [some (bD l), some (.int (x.2 : Nat)), some (pD x.1)], (s_bTup (n := 2) rfl).trans rfl, ?_, ⟨_, _, rfl⟩⟩
      rw [show pD x.1 = D.tup [tD x.1.1, rD x.1.2] from rfl]
      simp [c_MOST_MASSES, h8, e1, runDef, sl0, mSeq, mAsg, mDef, mCall, mCons, mRet, mLc, itSeq, seqF, wipeD, mLcGo, mOp, noErr, s_newLst, cTuple, seqOf, s_newTup, cutR, locFree, locFrees, mTup, mLst, mIf, mIfS, mTst, mNot, mNotT, mAnd, mOr, mAndT, mOrT, mFor, mForGo, cIsI, tyS, DL.isInt, mUn, dNeg, dIx, L2.atI, L2.ixN, mPar2, mPar3, mDrop, dGt, dLt, dGe, dLe, itZip, s_bTup, s_bTupL, cGcd])
    0 () [some (bD l), none, none] (by rw [List.length_zipIdx]; omega) ⟨_, _, rfl⟩
  have hp : ∃ p0, (l.map (·.1))[0]? = some p0 := by
    cases l with
    | nil => simp at hlo
    | cons x l => exact ⟨_, rfl⟩
  obtain ⟨p0, hp0⟩ := hp
  have e2 := @on_line_ev M k (l.map (·.1)) p0 hp0 (fun p hp => by obtain ⟨q, hq, rfl⟩ := List.mem_map.mp hp; exact (g.lb q hq).1) (by omega) (by rw [List.length_map]; omega)
  rw [line_false hp0 g.tri] at e2
  have l1 : mLc newLst (itSeq (mV 0)) (bName 2) mYes (mOp dIx (mV 2) (mC (.int 0))) [2] [some (bD l), x1, x2] M = .ok (.lst ((l.map (·.1)).map tD)) M := by
    refine (mLc_ev (xs := l.map pD) (ys := (l.map (·.1)).map tD) (M1 := M) (M2 := M) rfl (by rw [List.length_map]; omega) ?_).trans (s_newLst (by rw [List.length_map, List.length_map]; omega))
    have q := lc_map (b := bName 2) (tt := mYes) (me := mOp dIx (mV 2) (mC (.int 0))) (ρ := [some (bD l), x1, none]) (M := M) (f := pD) (e := fun p => tD p.1) (t := fun _ => true) (l := l) (fun p hp => ⟨[some (bD l), x1, some (pD p)], rfl, rfl, fun _ => by simp [pD, runDef, sl0, mSeq, mAsg, mDef, mCall, mCons, mRet, mLc, itSeq, seqF, wipeD, mLcGo, mOp, noErr, s_newLst, cTuple, seqOf, s_newTup, cutR, locFree, locFrees, mTup, mLst, mIf, mIfS, mTst, mNot, mNotT, mAnd, mOr, mAndT, mOrT, mFor, mForGo, cIsI, tyS, DL.isInt, mUn, dNeg, dIx, L2.atI, L2.ixN, mPar2, mPar3, mDrop, dGt, dLt, dGe, dLe, itZip, s_bTup, s_bTupL, cGcd]⟩)
    rw [show l.filter (fun _ => true) = l from List.filter_eq_self.mpr fun _ _ => rfl] at q
    rw [List.map_map]
    exact q
  refine run_rt (ρ1 := [some (bD l), x1, x2]) rfl ?_ (by simp [locFree])
  unfold m_wrong_mass
  rw [seq_nx (M1 := M) (ρ1 := [some (bD l), none, none]) (by
    have h3 : ¬ ((l.length : Int) < 3) := by omega
    have h4 : (3 : Int) ≤ (l.length : Int) := by omega
    simp [bD, c_LEAST_MASSES, h3, h4, runDef, sl0, mSeq, mAsg, mDef, mCall, mCons, mRet, mLc, itSeq, seqF, wipeD, mLcGo, mOp, noErr, s_newLst, cTuple, seqOf, s_newTup, cutR, locFree, locFrees, mTup, mLst, mIf, mIfS, mTst, mNot, mNotT, mAnd, mOr, mAndT, mOrT, mFor, mForGo, cIsI, tyS, DL.isInt, mUn, dNeg, dIx, L2.atI, L2.ixN, mPar2, mPar3, mDrop, dGt, dLt, dGe, dLe, itZip, s_bTup, s_bTupL, cGcd])]
  rw [seq_nx (M1 := M) (ρ1 := [some (bD l), x1, x2]) (by
    refine (for_ev (xs := enumD 0 (l.map pD)) (M1 := M) ?_).trans ?_
    · simp [itEnum, mCons, sl0, bD, seqF]
    · rw [enum_map]; exact g1)]
  refine ret_ev ?_
  have t1 : mTst (mDef 1 f_are_on_line (mCons (mLc newLst (itSeq (mV 0)) (bName 2) mYes (mOp dIx (mV 2) (mC (.int 0))) [2]) mNil)) [some (bD l), x1, x2] M = .ok false M := by
    unfold mTst
    rw [def_ev (n := 1) (ds := [.lst ((l.map (·.1)).map tD)]) (M1 := M) (cons_ev l1 (by rfl)) (by rfl), e2]
    rfl
  unfold mIf
  rw [t1]
  rfl
theorem check_body_ev {k : Nat} {l : Bod} (g : Good k l) (hk : 2 * k + 3 ≤ 140 := by omega) : f_check_body [bD l] M = .ok .non M := by
  have e := wrong_ev (M := M) g hk
  simp [f_check_body, m_check_body, e, dIs, isNon, runDef, sl0, mSeq, mAsg, mDef, mCall, mCons, mRet, mLc, itSeq, seqF, wipeD, mLcGo, mOp, noErr, s_newLst, cTuple, seqOf, s_newTup, cutR, locFree, locFrees, mTup, mLst, mIf, mIfS, mTst, mNot, mNotT, mAnd, mOr, mAndT, mOrT, mFor, mForGo, cIsI, tyS, DL.isInt, mUn, dNeg, dIx, L2.atI, L2.ixN, mPar2, mPar3, mDrop, dGt, dLt, dGe, dLe, itZip, s_bTup, s_bTupL, cGcd]
end
end G86

set_option Elab.async false
set_option linter.all false
set_option maxRecDepth 100000
set_option maxHeartbeats 4000000
namespace G86
open DL PySem
/-! ### texts of data -/
structure Txt (d : D) (dep wt : Nat) : Prop where
  ok : ∀ n, dep ≤ n → okD d n = true
  sh : PyData.showable (toP d) = true
  lay : (toP d).canLay0 = true
  short : (toP d).intsShort 2000 = true
  wt : (toP d).bulk ≤ wt
structure Txts (ds : List D) (dep wt : Nat) : Prop where
  ok : ∀ n, dep ≤ n → okDs ds n = true
  sh : PyData.showableAll (toPs ds) = true
  lay : PyData.canLayAll0 (toPs ds) = true
  short : PyData.intsShortAll 2000 (toPs ds) = true
  wt : PyData.bulkAll (toPs ds) ≤ wt
theorem txt_int {i : Int} (h : bt 1900 i) : Txt (.int i) 0 0 := by
  have hl : i.natAbs.log2 < 1900 := by
    by_cases z : i.natAbs = 0
    · rw [z]; decide
    · exact (Nat.log2_lt z).mpr h
  refine ⟨fun n _ => by simp [okD], ?_, by simp [toP, PyData.canLay0], ?_, by simp [toP, PyData.bulk]⟩
  · simp only [toP, PyData.showable]
    exact decide_eq_true (by omega)
  · simp only [toP, PyData.intsShort, PyData.shown]
    refine decide_eq_true ?_
    have e := int_text_length_le (a := i) (k := 1900) (by decide) hl
    show (Str.ofString (toString i)).length ≤ 2000
    rw [ofString_length]
    omega
theorem txt_bl {b : Bool} : Txt (.bl b) 0 0 :=
  ⟨fun n _ => by simp [okD], by simp [toP, PyData.showable], by simp [toP, PyData.canLay0], by simp [toP, PyData.intsShort], by simp [toP, PyData.bulk]⟩
theorem txts_nil : Txts [] 0 0 := ⟨fun _ _ => by simp [okDs], by simp [toPs, PyData.showableAll], by simp [toPs, PyData.canLayAll0], by simp [toPs, PyData.intsShortAll], by simp [toPs, PyData.bulkAll]⟩
theorem txts_cons {d : D} {ds : List D} {j k a b : Nat} (h : Txt d j a) (g : Txts ds k b) : Txts (d :: ds) (max j k) (a + 1 + b) := by
  refine ⟨fun n hn => ?_, ?_, ?_, ?_, ?_⟩
  · rw [okDs, h.ok n (by omega), g.ok n (by omega)]; rfl
  · rw [toPs, PyData.showableAll, h.sh, g.sh]; rfl
  · rw [toPs, PyData.canLayAll0, h.lay, g.lay]; rfl
  · rw [toPs, PyData.intsShortAll, h.short, g.short]; rfl
  · rw [toPs, PyData.bulkAll]; have := h.wt; have := g.wt; omega
theorem txt_tup {ds : List D} {j a : Nat} (h : Txts ds j a) : Txt (.tup ds) (j + 1) a := by
  refine ⟨fun n hn => ?_, ?_, ?_, ?_, ?_⟩
  · rw [okD, h.ok (n - 1) (by omega), decide_eq_true (by omega)]; rfl
  · rw [toP, PyData.showable]; exact h.sh
  · rw [toP, PyData.canLay0]; exact h.lay
  · rw [toP, PyData.intsShort]; exact h.short
  · rw [toP, PyData.bulk]; exact h.wt
theorem txt_lst {ds : List D} {j a : Nat} (h : Txts ds j a) : Txt (.lst ds) (j + 1) a := by
  refine ⟨fun n hn => ?_, ?_, ?_, ?_, ?_⟩
  · rw [okD, h.ok (n - 1) (by omega), decide_eq_true (by omega)]; rfl
  · rw [toP, PyData.showable]; exact h.sh
  · rw [toP, PyData.canLay0]; exact h.lay
  · rw [toP, PyData.intsShort]; exact h.short
  · rw [toP, PyData.bulk]; exact h.wt
def tx (q : Rat) : Prop := bt 1900 q.num ∧ bt 1900 (q.den : Int)
def tv (u : V3) : Prop := tx u.x ∧ tx u.y ∧ tx u.z
theorem txt_rD {q : Rat} (h : tx q) : Txt (rD q) 1 2 := txt_tup (txts_cons (txt_int h.1) (txts_cons (txt_int h.2) txts_nil))
theorem txt_tD {u : V3} (h : tv u) : Txt (tD u) 2 9 := txt_tup (txts_cons (txt_rD h.1) (txts_cons (txt_rD h.2.1) (txts_cons (txt_rD h.2.2) txts_nil)))
theorem txt_sD {a b : V3} (h : tv a) (g : tv b) : Txt (sD a b) 3 20 := txt_tup (txts_cons (txt_tD h) (txts_cons (txt_tD g) txts_nil))
/-- the text of a list -/
theorem repr_ev {ds : List D} {j a : Nat} {M : Store} (h : Txt (.lst ds) j a) (hj : j ≤ 60 := by omega) (ha : a ≤ 1000 := by omega) : cRepr [.lst ds] M = .ok (.str (toP (.lst ds)).shown) M := by
  show reprD (.lst ds) M = _
  unfold reprD
  rw [if_pos]
  refine ⟨by rw [h.ok 60 hj, h.sh]; rfl, ?_⟩
  have e := PyData.shown_le_bulk 2000 (by decide) (toP (.lst ds)) (PyData.leavesShort_of_canLay0 2000 _ h.lay h.short)
  have := h.wt
  have e2 : (2000 + 2) * (toP (.lst ds)).bulk ≤ 2002 * 1000 := Nat.mul_le_mul (Nat.le_refl _) (by omega)
  omega
theorem same_text {ds : List D} {j a : Nat} {M : Store} {ρ : Sl} {x y : DA} (h : Txt (.lst ds) j a) (h1 : x ρ M = .ok [.lst ds] M) (h2 : y ρ M = .ok [.lst ds] M) (hj : j ≤ 60 := by omega) (ha : a ≤ 1000 := by omega) (neg : Bool) : mOp (dEq neg) (mCall cRepr x) (mCall cRepr y) ρ M = .ok (.bl (!neg)) M := by
  refine (op_ev ((call_ev h1).trans (repr_ev h hj ha)) ((call_ev h2).trans (repr_ev h hj ha))).trans ?_
  show Res.ok (D.bl (neg ^^ decide ((toP (.lst ds)).shown = (toP (.lst ds)).shown))) M = _
  rw [decide_eq_true rfl, Bool.xor_true]
end G86

set_option Elab.async false
set_option linter.all false
set_option maxRecDepth 100000
set_option maxHeartbeats 4000000
namespace G86
open DL
theorem sm_one : sm 1 := ⟨by unfold bt; exact Nat.one_lt_two_pow (by decide), by unfold bt; exact Nat.one_lt_two_pow (by decide)⟩
/-- a turn: four whole numbers from -2 to 2, not all 0 -/
structure Tn where
  w : Int
  x : Int
  y : Int
  z : Int
def Tn.D (t : Tn) : DL.D := .tup [.int t.w, .int t.x, .int t.y, .int t.z]
def Tn.v (t : Tn) : V3 := ⟨t.x, t.y, t.z⟩
def Tn.n (t : Tn) : Rat := (t.w : Rat) * t.w + t.v.dot t.v
def Tn.R (t : Tn) (u : V3) : V3 :=
  (((u.mul ((t.w : Rat) * t.w + -(t.v.dot t.v))).add (t.v.mul (2 * t.v.dot u))).add ((t.v.cross u).mul (2 * (t.w : Rat)))).mul (1 / t.n)
structure Tn.Ok (t : Tn) : Prop where
  w : lv U 1 (t.w : Rat)
  v : lw U 1 t.v
  k : lv U 1 (1 / t.n)
  n : t.n ≠ 0
  nb : bt 4400 t.n.num
theorem rD_int (i : Int) : rD (i : Rat) = .tup [.int i, .int 1] := by
  unfold rD
  rw [Rat.num_intCast, Rat.den_intCast]
  rfl
theorem rD_neg (q : Rat) : rD (-q) = .tup [.int (0 - q.num), .int (q.den : Int)] := by
  unfold rD
  rw [Rat.neg_num, Rat.neg_den, Int.zero_sub]
section
variable {M : Store} {B : Bs} {m1 : Nat} [hB : Bas B m1]
include hB
theorem turned_ev {j : Nat} {t : Tn} {u : V3} (ht : t.Ok) (h : lw B j u) (hu : szw 2900 1441 u) (h2 : lv U 1 2) (hj : j + 10 ≤ m1 := by omega) : f__law_turned [t.D, tD u] M = .ok (tD (t.R u)) M ∧ lw B (j + 10) (t.R u) := by
  have e1 := ldot_ev (M := M) ht.v ht.v (by omega) (by omega)
  have d1 : lv U 4 (t.v.dot t.v) := ht.v.dot ht.v
  have ww := ht.w.mul ht.w
  have e2 := lmul_ev (M := M) ht.w.sm ht.w.sm
  have e3 := ladd_ev (M := M) ww.sm d1.neg.sm
  have a1 : lv U 5 ((t.w : Rat) * t.w + -(t.v.dot t.v)) := ww.add d1.neg
  have e4 := ltimes_ev (M := M) h a1 (by omega) (by omega)
  have f1 := h.mul a1
  have e5 := ldot_sz (M := M) (ht.v.szU (n := 61) (d := 31)) hu (by omega) (by omega)
  have d2 : lv B (j + 3) (t.v.dot u) := ht.v.dot h
  have e6 := lmul_ev (M := M) h2.sm d2.sm
  have a2 := h2.mul d2
  have e7 := ltimes_ev (M := M) ht.v a2 (by omega) (by omega)
  have f2 := ht.v.mul a2
  have e8 := lplus_ev (M := M) f1 f2 (by omega) (by omega)
  have f3 : lw B (j + 7) ((u.mul ((t.w : Rat) * t.w + -(t.v.dot t.v))).add (t.v.mul (2 * t.v.dot u))) := f1.add f2
  have e9 := lcross_ub (M := M) ht.v h (by omega) (by omega)
  have c1 : lw B (j + 2) (t.v.cross u) := ht.v.cross h
  have e10 := lmul_ev (M := M) h2.sm ht.w.sm
  have a3 := h2.mul ht.w
  have e11 := ltimes_ev (M := M) c1 a3 (by omega) (by omega)
  have f4 := c1.mul a3
  have e12 := lplus_ev (M := M) f3 f4 (by omega) (by omega)
  have f5 : lw B (j + 8) (((u.mul ((t.w : Rat) * t.w + -(t.v.dot t.v))).add (t.v.mul (2 * t.v.dot u))).add ((t.v.cross u).mul (2 * (t.w : Rat)))) := f3.add f4
  have e13 := ladd_ev (M := M) ww.sm d1.sm
  have a4 : lv U 5 ((t.w : Rat) * t.w + t.v.dot t.v) := ww.add d1
  have e14 := lover_ev (M := M) (p := 1) sm_one a4.sm ht.nb ht.n
  have e15 := ltimes_ev (M := M) f5 ht.k (by omega) (by omega)
  have f6 : lw B (j + 10) (t.R u) := (f5.mul ht.k).mono
  refine ⟨?_, f6⟩
  have hv : tD t.v = .tup [.tup [.int t.x, .int 1], .tup [.int t.y, .int 1], .tup [.int t.z, .int 1]] := by
    show D.tup [rD (t.x : Rat), rD (t.y : Rat), rD (t.z : Rat)] = _
    rw [rD_int, rD_int, rD_int]
  have hcut : cutD [.int t.w, .int t.x, .int t.y, .int t.z] (some 1) none = [.int t.x, .int t.y, .int t.z] := cut_drop (k := 1)
  refine run_rt (ρ1 := [some t.D, some (tD u), some (rD (t.w : Rat)), some (tD t.v), some (rD (t.v.dot t.v)), some (tD (((u.mul ((t.w : Rat) * t.w + -(t.v.dot t.v))).add (t.v.mul (2 * t.v.dot u))).add ((t.v.cross u).mul (2 * (t.w : Rat))))), none]) rfl ?_ free_tD
  unfold m__law_turned
  rw [seq_nx (M1 := M) (ρ1 := [some t.D, some (tD u), some (rD (t.w : Rat)), some (tD t.v), none, none, none]) (by
    rw [hv, rD_int]
    simp [Tn.D, mSl, dSl, mPart, mNoP, hcut, runDef, sl0, mSeq, mAsg, mDef, mCall, mCons, mRet, mLc, itSeq, seqF, wipeD, mLcGo, mOp, noErr, s_newLst, cTuple, seqOf, s_newTup, cutR, locFree, locFrees, mTup, mLst, mIf, mIfS, mTst, mNot, mNotT, mAnd, mOr, mAndT, mOrT, mFor, mForGo, cIsI, tyS, DL.isInt, mUn, dNeg, dIx, L2.atI, L2.ixN, mPar2, mPar3, mDrop, dGt, dLt, dGe, dLe, itZip, s_bTup, s_bTupL, cGcd])]
  rw [seq_nx (M1 := M) (ρ1 := [some t.D, some (tD u), some (rD (t.w : Rat)), some (tD t.v), some (rD (t.v.dot t.v)), none, none]) (by
    exact asg_ev ((def_ev (n := 2) (ds := [tD t.v, tD t.v]) (M1 := M) rfl rfl).trans e1))]
  rw [seq_nx (M1 := M) (ρ1 := [some t.D, some (tD u), some (rD (t.w : Rat)), some (tD t.v), some (rD (t.v.dot t.v)), some (tD (u.mul ((t.w : Rat) * t.w + -(t.v.dot t.v)))), none]) (by
    refine asg_ev ((def_ev (n := 2) (ds := [tD u, rD ((t.w : Rat) * t.w + -(t.v.dot t.v))]) (M1 := M) ?_ rfl).trans e4)
    refine cons_ev rfl (one_ev ((def_ev (n := 2) (ds := [rD ((t.w : Rat) * t.w), rD (-(t.v.dot t.v))]) (M1 := M) ?_ rfl).trans e3))
    refine cons_ev ((def_ev (n := 2) (ds := [rD (t.w : Rat), rD (t.w : Rat)]) (M1 := M) rfl rfl).trans e2) (one_ev ?_)
    rw [rD_neg]
    simp [rD, dSub, runDef, sl0, mSeq, mAsg, mDef, mCall, mCons, mRet, mLc, itSeq, seqF, wipeD, mLcGo, mOp, noErr, s_newLst, cTuple, seqOf, s_newTup, cutR, locFree, locFrees, mTup, mLst, mIf, mIfS, mTst, mNot, mNotT, mAnd, mOr, mAndT, mOrT, mFor, mForGo, cIsI, tyS, DL.isInt, mUn, dNeg, dIx, L2.atI, L2.ixN, mPar2, mPar3, mDrop, dGt, dLt, dGe, dLe, itZip, s_bTup, s_bTupL, cGcd])]
  rw [seq_nx (M1 := M) (ρ1 := [some t.D, some (tD u), some (rD (t.w : Rat)), some (tD t.v), some (rD (t.v.dot t.v)), some (tD ((u.mul ((t.w : Rat) * t.w + -(t.v.dot t.v))).add (t.v.mul (2 * t.v.dot u)))), none]) (by
    refine asg_ev ((def_ev (n := 2) (ds := [_, tD (t.v.mul (2 * t.v.dot u))]) (M1 := M) (cons_ev rfl (one_ev ?_)) rfl).trans e8)
    refine (def_ev (n := 2) (ds := [tD t.v, rD (2 * t.v.dot u)]) (M1 := M) (cons_ev rfl (one_ev ?_)) rfl).trans e7
    exact (def_ev (n := 2) (ds := [rD 2, rD (t.v.dot u)]) (M1 := M) (cons_ev rfl (one_ev ((def_ev (n := 2) (ds := [tD t.v, tD u]) (M1 := M) rfl rfl).trans e5))) rfl).trans e6)]
  rw [seq_nx (M1 := M) (ρ1 := [some t.D, some (tD u), some (rD (t.w : Rat)), some (tD t.v), some (rD (t.v.dot t.v)), some (tD (((u.mul ((t.w : Rat) * t.w + -(t.v.dot t.v))).add (t.v.mul (2 * t.v.dot u))).add ((t.v.cross u).mul (2 * (t.w : Rat))))), none]) (by
    refine asg_ev ((def_ev (n := 2) (ds := [_, tD ((t.v.cross u).mul (2 * (t.w : Rat)))]) (M1 := M) (cons_ev rfl (one_ev ?_)) rfl).trans e12)
    refine (def_ev (n := 2) (ds := [tD (t.v.cross u), rD (2 * (t.w : Rat))]) (M1 := M) (cons_ev ((def_ev (n := 2) (ds := [tD t.v, tD u]) (M1 := M) rfl rfl).trans e9) (one_ev ?_)) rfl).trans e11
    exact (def_ev (n := 2) (ds := [rD 2, rD (t.w : Rat)]) (M1 := M) rfl rfl).trans e10)]
  refine ret_ev ((def_ev (n := 2) (ds := [_, rD (1 / t.n)]) (M1 := M) (cons_ev rfl (one_ev ?_)) rfl).trans e15)
  refine (def_ev (n := 2) (ds := [rD 1, rD t.n]) (M1 := M) (cons_ev rfl (one_ev ?_)) rfl).trans e14
  exact (def_ev (n := 2) (ds := [rD ((t.w : Rat) * t.w), rD (t.v.dot t.v)]) (M1 := M) (cons_ev ((def_ev (n := 2) (ds := [rD (t.w : Rat), rD (t.w : Rat)]) (M1 := M) rfl rfl).trans e2) (one_ev rfl)) rfl).trans e13
end
end G86

set_option Elab.async false
set_option linter.all false
set_option maxRecDepth 100000
set_option maxHeartbeats 4000000
namespace G86
open DL
/-! ### a turn keeps products -/
def Rp (w x y z : Rat) (u : V3) : V3 :=
  ((u.mul (w * w + -((⟨x, y, z⟩ : V3).dot ⟨x, y, z⟩))).add ((⟨x, y, z⟩ : V3).mul (2 * (⟨x, y, z⟩ : V3).dot u))).add (((⟨x, y, z⟩ : V3).cross u).mul (2 * w))
theorem Rp_cross_x (w x y z a b c d e f : Rat) : ((Rp w x y z ⟨a, b, c⟩).cross (Rp w x y z ⟨d, e, f⟩)).x = (w * w + (x * x + y * y + z * z)) * (Rp w x y z ((⟨a, b, c⟩ : V3).cross ⟨d, e, f⟩)).x := by
  simp only [Rp, V3.add, V3.mul, V3.dot, V3.cross]
  grind
theorem Rp_cross_y (w x y z a b c d e f : Rat) : ((Rp w x y z ⟨a, b, c⟩).cross (Rp w x y z ⟨d, e, f⟩)).y = (w * w + (x * x + y * y + z * z)) * (Rp w x y z ((⟨a, b, c⟩ : V3).cross ⟨d, e, f⟩)).y := by
  simp only [Rp, V3.add, V3.mul, V3.dot, V3.cross]
  grind
theorem Rp_cross_z (w x y z a b c d e f : Rat) : ((Rp w x y z ⟨a, b, c⟩).cross (Rp w x y z ⟨d, e, f⟩)).z = (w * w + (x * x + y * y + z * z)) * (Rp w x y z ((⟨a, b, c⟩ : V3).cross ⟨d, e, f⟩)).z := by
  simp only [Rp, V3.add, V3.mul, V3.dot, V3.cross]
  grind
theorem Rp_dot (w x y z : Rat) (u v : V3) : (Rp w x y z u).dot (Rp w x y z v) = (w * w + (x * x + y * y + z * z)) * (w * w + (x * x + y * y + z * z)) * u.dot v := by
  simp only [Rp, V3.add, V3.mul, V3.dot, V3.cross]
  grind
theorem R_eq (t : Tn) (u : V3) : t.R u = (Rp t.w t.x t.y t.z u).mul (1 / t.n) := rfl
theorem n_eq (t : Tn) : t.n = (t.w : Rat) * t.w + ((t.x : Rat) * t.x + (t.y : Rat) * t.y + (t.z : Rat) * t.z) := rfl
theorem inv_n (t : Tn) (h : t.n ≠ 0) : 1 / t.n * t.n = 1 := by grind
theorem V3.mul_cross (u v : V3) (k : Rat) : (u.mul k).cross (v.mul k) = (u.cross v).mul (k * k) := by
  refine V3.ext' ?_ ?_ ?_ <;> simp only [V3.mul, V3.cross] <;> grind
theorem R_cross (t : Tn) (u v : V3) (h : t.n ≠ 0) : (t.R u).cross (t.R v) = t.R (u.cross v) := by
  have hk := inv_n t h
  rw [R_eq, R_eq, R_eq, V3.mul_cross]
  generalize 1 / t.n = k at hk
  rw [n_eq] at hk
  have e1 := Rp_cross_x t.w t.x t.y t.z u.x u.y u.z v.x v.y v.z
  have e2 := Rp_cross_y t.w t.x t.y t.z u.x u.y u.z v.x v.y v.z
  have e3 := Rp_cross_z t.w t.x t.y t.z u.x u.y u.z v.x v.y v.z
  generalize (t.w : Rat) * t.w + ((t.x : Rat) * t.x + (t.y : Rat) * t.y + (t.z : Rat) * t.z) = n at *
  refine V3.ext' ?_ ?_ ?_
  · show ((Rp t.w t.x t.y t.z u).cross (Rp t.w t.x t.y t.z v)).x * (k * k) = (Rp t.w t.x t.y t.z (u.cross v)).x * k
    rw [show ((Rp t.w t.x t.y t.z u).cross (Rp t.w t.x t.y t.z v)).x = _ from e1]
    generalize (Rp t.w t.x t.y t.z ((⟨u.x, u.y, u.z⟩ : V3).cross ⟨v.x, v.y, v.z⟩)).x = q
    show n * q * (k * k) = q * k
    grind
  · show ((Rp t.w t.x t.y t.z u).cross (Rp t.w t.x t.y t.z v)).y * (k * k) = (Rp t.w t.x t.y t.z (u.cross v)).y * k
    rw [show ((Rp t.w t.x t.y t.z u).cross (Rp t.w t.x t.y t.z v)).y = _ from e2]
    generalize (Rp t.w t.x t.y t.z ((⟨u.x, u.y, u.z⟩ : V3).cross ⟨v.x, v.y, v.z⟩)).y = q
    show n * q * (k * k) = q * k
    grind
  · show ((Rp t.w t.x t.y t.z u).cross (Rp t.w t.x t.y t.z v)).z * (k * k) = (Rp t.w t.x t.y t.z (u.cross v)).z * k
    rw [show ((Rp t.w t.x t.y t.z u).cross (Rp t.w t.x t.y t.z v)).z = _ from e3]
    generalize (Rp t.w t.x t.y t.z ((⟨u.x, u.y, u.z⟩ : V3).cross ⟨v.x, v.y, v.z⟩)).z = q
    show n * q * (k * k) = q * k
    grind
theorem R_dot (t : Tn) (u v : V3) (h : t.n ≠ 0) : (t.R u).dot (t.R v) = u.dot v := by
  have hk := inv_n t h
  have e := Rp_dot t.w t.x t.y t.z u v
  rw [R_eq, R_eq]
  generalize 1 / t.n = k at hk
  rw [n_eq] at hk
  have m : ((Rp t.w t.x t.y t.z u).mul k).dot ((Rp t.w t.x t.y t.z v).mul k) = (k * k) * (Rp t.w t.x t.y t.z u).dot (Rp t.w t.x t.y t.z v) := by
    simp only [V3.mul, V3.dot]; grind
  rw [m, e]
  generalize (t.w : Rat) * t.w + ((t.x : Rat) * t.x + (t.y : Rat) * t.y + (t.z : Rat) * t.z) = n at *
  generalize u.dot v = q
  grind
theorem R_add (t : Tn) (u v : V3) : t.R (u.add v) = (t.R u).add (t.R v) := by
  simp only [R_eq]
  generalize 1 / t.n = k
  refine V3.ext' ?_ ?_ ?_ <;> simp only [Rp, V3.add, V3.mul, V3.dot, V3.cross] <;> grind
theorem R_mul (t : Tn) (u : V3) (c : Rat) : t.R (u.mul c) = (t.R u).mul c := by
  simp only [R_eq]
  generalize 1 / t.n = k
  refine V3.ext' ?_ ?_ ?_ <;> simp only [Rp, V3.add, V3.mul, V3.dot, V3.cross] <;> grind
end G86

set_option Elab.async false
set_option linter.all false
set_option maxRecDepth 100000
set_option maxHeartbeats 4000000
namespace G86
open DL
theorem V3.add_assoc (u v w : V3) : (u.add v).add w = u.add (v.add w) := by
  refine V3.ext' ?_ ?_ ?_ <;> simp only [V3.add] <;> grind
theorem V3.add_comm (u v : V3) : u.add v = v.add u := by
  refine V3.ext' ?_ ?_ ?_ <;> simp only [V3.add] <;> grind
theorem V3.add_nil (u : V3) : u.add V3.nil = u := by
  refine V3.ext' ?_ ?_ ?_ <;> simp only [V3.add, V3.nil] <;> grind
theorem V3.nil_add (u : V3) : V3.nil.add u = u := by
  refine V3.ext' ?_ ?_ ?_ <;> simp only [V3.add, V3.nil] <;> grind
/-! ### sums of bodies -/
def padd (f g : V3 × V3) : V3 × V3 := (f.1.add g.1, f.2.add g.2)
theorem padd_assoc (f g h : V3 × V3) : padd (padd f g) h = padd f (padd g h) := by
  unfold padd; rw [V3.add_assoc, V3.add_assoc]
theorem padd_comm (f g : V3 × V3) : padd f g = padd g f := by
  unfold padd; rw [V3.add_comm f.1, V3.add_comm f.2]
/-- one point's part -/
def pt (a b : V3) (p : V3 × Rat) : V3 × V3 := ((b.add (a.cross p.1)).mul p.2, p.1.cross ((b.add (a.cross p.1)).mul p.2))
theorem mstep_eq (a b : V3) (f : V3 × V3) (p : V3 × Rat) : mstep a b f p = padd f (pt a b p) := rfl
theorem mom_from (a b : V3) : ∀ (l : Bod) (f : V3 × V3), l.foldl (mstep a b) f = padd f (mom l a b)
  | [], f => by unfold mom padd; rw [List.foldl_nil, List.foldl_nil, V3.add_nil, V3.add_nil]
  | p :: l, f => by
    unfold mom
    rw [List.foldl_cons, List.foldl_cons, mom_from a b l, mom_from a b l (mstep a b _ p), mstep_eq, mstep_eq, padd_assoc]
    congr 1
    congr 1
    unfold padd
    rw [V3.nil_add, V3.nil_add]
theorem mom_cons (a b : V3) (p : V3 × Rat) (l : Bod) : mom (p :: l) a b = padd (pt a b p) (mom l a b) := by
  have := mom_from a b l (mstep a b (V3.nil, V3.nil) p)
  unfold mom at this ⊢
  rw [List.foldl_cons, this, mstep_eq]
  congr 1
  unfold padd
  rw [V3.nil_add, V3.nil_add]
theorem mom_append (a b : V3) : ∀ (l m : Bod), mom (l ++ m) a b = padd (mom l a b) (mom m a b)
  | [], m => by
    show mom m a b = _
    unfold padd
    rw [show (mom [] a b) = (V3.nil, V3.nil) from rfl, V3.nil_add, V3.nil_add]
  | p :: l, m => by rw [List.cons_append, mom_cons, mom_append a b l m, mom_cons, padd_assoc]
def ept (a b : V3) (p : V3 × Rat) : Rat := p.2 * (b.add (a.cross p.1)).dot (b.add (a.cross p.1))
theorem enr_from (a b : V3) : ∀ (l : Bod) (e : Rat), l.foldl (estep a b) e = e + enr l a b
  | [], e => by unfold enr; rw [List.foldl_nil, List.foldl_nil]; grind
  | p :: l, e => by
    unfold enr
    rw [List.foldl_cons, List.foldl_cons, enr_from a b l, enr_from a b l (estep a b 0 p)]
    unfold estep
    grind
theorem enr_cons (a b : V3) (p : V3 × Rat) (l : Bod) : enr (p :: l) a b = ept a b p + enr l a b := by
  have := enr_from a b l (estep a b 0 p)
  unfold enr at this ⊢
  rw [List.foldl_cons, this]
  unfold estep ept
  grind
theorem enr_append (a b : V3) : ∀ (l m : Bod), enr (l ++ m) a b = enr l a b + enr m a b
  | [], m => by
    show enr m a b = 0 + _
    grind
  | p :: l, m => by rw [List.cons_append, enr_cons, enr_append a b l m, enr_cons]; grind
/-! the first point behind the others; in two halves -/
theorem mom_rot (a b : V3) (p : V3 × Rat) (l : Bod) : mom (l ++ [p]) a b = mom (p :: l) a b := by
  rw [mom_append, mom_cons, mom_cons, padd_comm]
  congr 1
  unfold padd
  rw [show (mom [] a b) = (V3.nil, V3.nil) from rfl, V3.add_nil, V3.add_nil]
theorem enr_rot (a b : V3) (p : V3 × Rat) (l : Bod) : enr (l ++ [p]) a b = enr (p :: l) a b := by
  rw [enr_append, enr_cons, enr_cons, show enr [] a b = 0 from rfl]; grind
/-! ### placed -/
def plB (t : Tn) (s : V3) (l : Bod) : Bod := l.map fun p => ((t.R p.1).add s, p.2)
theorem speed_pl (t : Tn) (s a b p : V3) (h : t.n ≠ 0) : ((t.R b).add (s.cross (t.R a))).add ((t.R a).cross ((t.R p).add s)) = t.R (b.add (a.cross p)) := by
  rw [R_add, ← R_cross t a p h]
  generalize t.R a = u
  generalize t.R b = v
  generalize t.R p = w
  refine V3.ext' ?_ ?_ ?_ <;> simp only [V3.add, V3.cross] <;> grind
theorem R_nil (t : Tn) : t.R V3.nil = V3.nil := by
  rw [R_eq]
  generalize 1 / t.n = k
  refine V3.ext' ?_ ?_ ?_ <;> simp only [Rp, V3.add, V3.mul, V3.dot, V3.cross, V3.nil] <;> grind
theorem mom_pl (t : Tn) (s a b : V3) (h : t.n ≠ 0) : ∀ l : Bod, mom (plB t s l) (t.R a) ((t.R b).add (s.cross (t.R a))) = (t.R (mom l a b).1, (t.R (mom l a b).2).add (s.cross (t.R (mom l a b).1)))
  | [] => by
    show (V3.nil, V3.nil) = (t.R V3.nil, (t.R V3.nil).add (s.cross (t.R V3.nil)))
    rw [R_nil, V3.nil_add, cross_anti _ _ (nil_cross s)]
  | p :: l => by
    show mom (((t.R p.1).add s, p.2) :: plB t s l) _ _ = _
    rw [mom_cons, mom_pl t s a b h l, mom_cons]
    unfold padd pt
    rw [speed_pl t s a b p.1 h, ← R_mul]
    generalize (b.add (a.cross p.1)).mul p.2 = f
    rw [R_add, R_add, ← R_cross t p.1 f h]
    generalize t.R (mom l a b).1 = u
    generalize t.R (mom l a b).2 = v
    generalize t.R f = g
    generalize t.R p.1 = w
    refine Prod.ext rfl ?_
    refine V3.ext' ?_ ?_ ?_ <;> simp only [V3.add, V3.cross] <;> grind
theorem enr_pl (t : Tn) (s a b : V3) (h : t.n ≠ 0) : ∀ l : Bod, enr (plB t s l) (t.R a) ((t.R b).add (s.cross (t.R a))) = enr l a b
  | [] => rfl
  | p :: l => by
    show enr (((t.R p.1).add s, p.2) :: plB t s l) _ _ = _
    rw [enr_cons, enr_pl t s a b h l, enr_cons]
    unfold ept
    rw [speed_pl t s a b p.1 h, R_dot t _ _ h]
/-! at rest -/
theorem mom_rest : ∀ l : Bod, mom l V3.nil V3.nil = (V3.nil, V3.nil)
  | [] => rfl
  | p :: l => by
    rw [mom_cons, mom_rest l]
    unfold padd pt
    refine Prod.ext ?_ ?_ <;> refine V3.ext' ?_ ?_ ?_ <;> simp only [V3.add, V3.mul, V3.cross, V3.nil] <;> grind
theorem enr_rest : ∀ l : Bod, enr l V3.nil V3.nil = 0
  | [] => rfl
  | p :: l => by
    rw [enr_cons, enr_rest l]
    simp only [ept, V3.add, V3.dot, V3.cross, V3.nil]
    grind
end G86

set_option Elab.async false
set_option linter.all false
set_option maxRecDepth 100000
set_option maxHeartbeats 4000000
namespace G86
open DL
/-! ### draws: the n-th cell is a well; at most m draws so far -/
def wellC (a b c : Int) (d : Bool) : List D := [.int a, .int b, .int c, .bl d]
def Wl (n m : Nat) (M : Store) : Prop := ∃ a b c d, M[n]? = some (some (wellC a b c d)) ∧ 0 ≤ a ∧ (0 ≤ b ∧ b < 2147483648) ∧ 0 ≤ c ∧ c ≤ m
structure Up (n : Nat) (M M' : Store) : Prop where
  len : M'.length = M.length
  same : ∀ i, i ≠ n → M'[i]? = M[i]?
theorem Up.refl {n : Nat} {M : Store} : Up n M M := ⟨rfl, fun _ _ => rfl⟩
theorem Up.trans {n : Nat} {M M1 M2 : Store} (a : Up n M M1) (b : Up n M1 M2) : Up n M M2 := ⟨b.len.trans a.len, fun i h => (b.same i h).trans (a.same i h)⟩
theorem up_set {n : Nat} {M : Store} {x : Option (List D)} : Up n M (M.set n x) := ⟨by simp, fun i h => List.getElem?_set_ne (Ne.symm h)⟩
theorem cell_of {n : Nat} {M : Store} {ds : List D} (h : M[n]? = some (some ds)) : cellAt M n = some ds := by unfold cellAt; rw [h]; rfl
theorem set_at {n : Nat} {M : Store} {x : Option (List D)} {ds : List D} (h : M[n]? = some (some ds)) : (M.set n x)[n]? = some x := by
  have hl : n < M.length := by
    rcases Nat.lt_or_ge n M.length with z | z
    · exact z
    · rw [List.getElem?_eq_none z] at h; cases h
  exact List.getElem?_set_self hl
theorem get_at {n : Nat} {M : Store} {ds : List D} {i : Int} {k : Nat} {d : D} (h : M[n]? = some (some ds)) (hk : L2.ixN ds.length i = some k) (hd : ds[k]? = some d) : dIx (.loc n) (.int i) M = .ok d M := by
  show (match cellAt M n with | some xs => (match L2.atI xs i with | some x => Res.ok x M | none => .stuck) | none => .stuck) = _
  rw [cell_of h]
  show (match L2.atI ds i with | some x => Res.ok x M | none => .stuck) = _
  unfold L2.atI
  rw [hk]
  show (match ds[k]? with | some x => Res.ok x M | none => .stuck) = _
  rw [hd]
theorem put_at {n : Nat} {M : Store} {ds : List D} {i : Int} {k : Nat} {d : D} (h : M[n]? = some (some ds)) (hk : L2.ixN ds.length i = some k) (hf : locFree d = true) : setAt M n i d = some (M.set n (some (ds.set k d))) := by
  unfold setAt
  rw [cell_of h]
  show (if locFree d = true then (L2.ixN ds.length i).map _ else none) = _
  rw [if_pos hf, hk]
  rfl
theorem mul_ok {i j : Int} {M : Store} {mk : List D → Store → Res D} (h : mulOk i j = true) : dMul mk (.int i) (.int j) M = .ok (.int (i * j)) M := if_pos h
theorem div_ok {i j : Int} {M : Store} (h : divOk j = true) : dFdiv (.int i) (.int j) M = .ok (.int (i.fdiv j)) M := if_pos h
theorem int_ev {e : DE} {ρ : Sl} {M : Store} {i : Int} (h : e ρ M = .ok (.int i) M) : mCall cInt (mCons e mNil) ρ M = .ok (.int i) M := call_ev (one_ev h)
section
variable {M : Store} {n m : Nat} {a b c : Int} {d : Bool}
theorem g0 (h : M[n]? = some (some (wellC a b c d))) : dIx (.loc n) (.int 0) M = .ok (.int a) M := get_at h (k := 0) (show L2.ixN 4 0 = some 0 by decide) rfl
theorem g1 (h : M[n]? = some (some (wellC a b c d))) : dIx (.loc n) (.int 1) M = .ok (.int b) M := get_at h (k := 1) (show L2.ixN 4 1 = some 1 by decide) rfl
theorem g2 (h : M[n]? = some (some (wellC a b c d))) : dIx (.loc n) (.int 2) M = .ok (.int c) M := get_at h (k := 2) (show L2.ixN 4 2 = some 2 by decide) rfl
theorem g3 (h : M[n]? = some (some (wellC a b c d))) : dIx (.loc n) (.int 3) M = .ok (.bl d) M := get_at h (k := 3) (show L2.ixN 4 3 = some 3 by decide) rfl
theorem p0 (h : M[n]? = some (some (wellC a b c d))) (i : Int) : setAt M n 0 (.int i) = some (M.set n (some (wellC i b c d))) := put_at h (k := 0) (show L2.ixN 4 0 = some 0 by decide) (by simp)
theorem p1 (h : M[n]? = some (some (wellC a b c d))) (i : Int) : setAt M n 1 (.int i) = some (M.set n (some (wellC a i c d))) := put_at h (k := 1) (show L2.ixN 4 1 = some 1 by decide) (by simp)
theorem p2 (h : M[n]? = some (some (wellC a b c d))) (i : Int) : setAt M n 2 (.int i) = some (M.set n (some (wellC a b i d))) := put_at h (k := 2) (show L2.ixN 4 2 = some 2 by decide) (by simp)
theorem draw_ev {size : Int} (hw : Wl n m M) (hs : 0 < size) (hs2 : size < 2 ^ 60) (hm : m ≤ 1000000) : ∃ (r : Int) (M' : Store), f__law_draw [.loc n, .int size] M = .ok (.int r) M' ∧ 0 ≤ r ∧ r < size ∧ Wl n (m + 1) M' ∧ Up n M M' := by
  obtain ⟨a, b, c, d, h, ha, ⟨hb0, hb1⟩, hc0, hc1⟩ := hw
  have hlen : ∀ x : Option (List D), (M.set n x).length = M.length := fun x => by simp
  by_cases hp : a > 0
  · -- digits of the number that is told
    have dv : divOk size = true := divOk_of (by omega) (Nat.lt_of_lt_of_le (show size.natAbs < 2 ^ 60 by omega) (Nat.pow_le_pow_right (by omega) (by omega)))
    refine ⟨a.fmod size, M.set n (some (wellC (a.fdiv size) b c d)), ?_, Int.fmod_nonneg_of_pos _ hs, Int.fmod_lt_of_pos _ hs, ⟨a.fdiv size, b, c, d, set_at h, ?_, ⟨hb0, hb1⟩, hc0, by omega⟩, up_set⟩
    · have e0 : ¬ (size = 0) := by omega
      have q1 := g0 h
      have q2 := p0 h (a.fdiv size)
      have hr : m__law_draw (sl0 4 [.loc n, .int size]) M = .ok (.rt (.int (a.fmod size)), [some (.loc n), some (.int size), some (.int (a.fmod size)), none]) (M.set n (some (wellC (a.fdiv size) b c d))) := by
        unfold m__law_draw
        refine seq_rt ?_
        refine (ifs_yes (M1 := M) ?_).trans ?_
        · refine tst_ev ((op_ev (op_ev rfl rfl |>.trans q1) rfl).trans ?_)
          show Res.ok (D.bl (decide (a > 0))) M = _
          rw [decide_eq_true hp]
        · rw [seq_nx (M1 := M) (ρ1 := [some (.loc n), some (.int size), some (.int (a.fmod size)), none]) (by
            refine asg_ev ((op_ev (call_ev (one_ev ((op_ev rfl rfl).trans q1))) rfl).trans ?_)
            show (if size = 0 then Res.stuck else Res.ok (D.int (a.fmod size)) M) = _
            rw [if_neg e0])]
          rw [seq_nx (M1 := M.set n (some (wellC (a.fdiv size) b c d))) (ρ1 := [some (.loc n), some (.int size), some (.int (a.fmod size)), none]) (by
            have v : mOp dFdiv (mOp dIx (mV 0) (mC (.int 0))) (mV 1) [some (.loc n), some (.int size), some (.int (a.fmod size)), none] M = .ok (.int (a.fdiv size)) M := by
              refine (op_ev ((op_ev rfl rfl).trans q1) rfl).trans ?_
              show (if divOk size = true then Res.ok (D.int (a.fdiv size)) M else .stuck) = _
              rw [if_pos dv]
            unfold mAsg
            rw [v]
            show (Res.bind (bSub (mV 0) (mC (.int 0)) (.int (a.fdiv size)) _ M) _) = _
            unfold bSub
            show (Res.bind (match setAt M n 0 (.int (a.fdiv size)) with | some M3 => Res.ok _ M3 | none => .stuck) _) = _
            rw [q2]
            rfl)]
          rfl
      refine (run_rt' rfl hr (by simp)).trans ?_
      rw [List.take_of_length_le (by rw [hlen]; exact Nat.le_refl _)]
    · exact Int.fdiv_nonneg ha (by omega)
  · have h0 : ¬ (a > 0) := hp
    let c' := c + 1
    let b' := (b * 48271 + 69621 * c' + 7).fmod 2147483587
    let tw := (b' * (b'.fdiv 11 + 5 * c') + 13).fmod 2147483579
    have hb' : 0 ≤ b' ∧ b' < 2147483587 := ⟨Int.fmod_nonneg_of_pos _ (by decide), Int.fmod_lt_of_pos _ (by decide)⟩
    let M1 := M.set n (some (wellC a b c' d))
    have h1 : M1[n]? = some (some (wellC a b c' d)) := set_at h
    let M2 := M1.set n (some (wellC a b' c' d))
    have h2 : M2[n]? = some (some (wellC a b' c' d)) := set_at h1
    refine ⟨(tw.fdiv 37).fmod size, M2, ?_, Int.fmod_nonneg_of_pos _ hs, Int.fmod_lt_of_pos _ hs, ⟨a, b', c', d, h2, ha, ⟨hb'.1, by omega⟩, by show 0 ≤ c + 1; omega, by show c + 1 ≤ _; omega⟩, up_set.trans up_set⟩
    have k1 : bt 40 b := by unfold bt; omega
    have k2 : bt 40 c' := by show (c + 1).natAbs < 2 ^ 40; omega
    have k3 : bt 40 b' := by unfold bt; omega
    have k5 : bt 100 (b'.fdiv 11 + 5 * c') := by
      have e1 : b'.fdiv 11 ≤ b' := by rw [Int.fdiv_eq_ediv_of_nonneg _ (by decide)]; exact Int.ediv_le_self _ hb'.1
      have e2 : 0 ≤ b'.fdiv 11 := Int.fdiv_nonneg hb'.1 (by decide)
      have e3 : c' = c + 1 := rfl
      unfold bt; omega
    have l1 : mulOk b 48271 = true := k1.mk (show bt 20 48271 by unfold bt; decide)
    have l2 : mulOk 69621 c' = true := (show bt 20 69621 by unfold bt; decide).mk k2
    have l3 : mulOk 5 c' = true := (show bt 20 5 by unfold bt; decide).mk k2
    have l4 : mulOk b' (b'.fdiv 11 + 5 * c') = true := k3.mk k5
    have o1 : divOk 11 = true := by decide
    have o2 : divOk 37 = true := by decide
    have e0 : ¬ (size = 0) := by omega
    have hr : m__law_draw (sl0 4 [.loc n, .int size]) M = .ok (.rt (.int ((tw.fdiv 37).fmod size)), [some (.loc n), some (.int size), none, some (.int tw)]) M2 := by
      unfold m__law_draw
      rw [seq_nx (M1 := M) (ρ1 := [some (.loc n), some (.int size), none, none]) (by
        refine ifs_no (tst_ev ((op_ev (op_ev rfl rfl |>.trans (g0 h)) rfl).trans ?_))
        show Res.ok (D.bl (decide (a > 0))) M = _
        rw [decide_eq_false h0])]
      rw [seq_nx (M1 := M1) (ρ1 := [some (.loc n), some (.int size), none, none]) (by
        have v : mOp (dAdd newLst) (mOp dIx (mV 0) (mC (.int 2))) (mC (.int 1)) [some (.loc n), some (.int size), none, none] M = .ok (.int c') M := (op_ev ((op_ev rfl rfl).trans (g2 h)) rfl).trans rfl
        unfold mAsg
        rw [v]
        show (Res.bind (match setAt M n 2 (.int c') with | some M3 => Res.ok _ M3 | none => .stuck) _) = _
        rw [p2 h]
        rfl)]
      rw [seq_nx (M1 := M2) (ρ1 := [some (.loc n), some (.int size), none, none]) (by
        have v1 : mOp (dMul newLst) (mOp dIx (mV 0) (mC (.int 1))) (mC (.int 48271)) [some (.loc n), some (.int size), none, none] M1 = .ok (.int (b * 48271)) M1 := (op_ev ((op_ev rfl rfl).trans (g1 h1)) rfl).trans (mul_ok l1)
        have v2 : mOp (dMul newLst) (mC (.int 69621)) (mOp dIx (mV 0) (mC (.int 2))) [some (.loc n), some (.int size), none, none] M1 = .ok (.int (69621 * c')) M1 := (op_ev rfl ((op_ev rfl rfl).trans (g2 h1))).trans (mul_ok l2)
        have v3 := op_ev (f := dAdd newLst) (op_ev (f := dAdd newLst) v1 v2 |>.trans rfl) (show mC (.int 7) [some (.loc n), some (.int size), none, none] M1 = .ok (.int 7) M1 from rfl)
        unfold mAsg
        rw [op_ev (int_ev (v3.trans rfl)) rfl]
        show (Res.bind (match setAt M1 n 1 (.int b') with | some M3 => Res.ok _ M3 | none => .stuck) _) = _
        rw [p1 h1]
        rfl)]
      rw [seq_nx (M1 := M2) (ρ1 := [some (.loc n), some (.int size), none, some (.int tw)]) (by
        have v1 : mOp dFdiv (mOp dIx (mV 0) (mC (.int 1))) (mC (.int 11)) [some (.loc n), some (.int size), none, none] M2 = .ok (.int (b'.fdiv 11)) M2 := (op_ev ((op_ev rfl rfl).trans (g1 h2)) rfl).trans (div_ok o1)
        have v2 : mOp (dMul newLst) (mC (.int 5)) (mOp dIx (mV 0) (mC (.int 2))) [some (.loc n), some (.int size), none, none] M2 = .ok (.int (5 * c')) M2 := (op_ev rfl ((op_ev rfl rfl).trans (g2 h2))).trans (mul_ok l3)
        have v3 : mOp (dMul newLst) (mOp dIx (mV 0) (mC (.int 1))) (mOp (dAdd newLst) (mOp dFdiv (mOp dIx (mV 0) (mC (.int 1))) (mC (.int 11))) (mOp (dMul newLst) (mC (.int 5)) (mOp dIx (mV 0) (mC (.int 2))))) [some (.loc n), some (.int size), none, none] M2 = .ok (.int (b' * (b'.fdiv 11 + 5 * c'))) M2 := (op_ev ((op_ev rfl rfl).trans (g1 h2)) ((op_ev v1 v2).trans rfl)).trans (mul_ok l4)
        refine asg_ev ((op_ev (int_ev ((op_ev (f := dAdd newLst) v3 rfl).trans rfl)) rfl).trans ?_)
        rfl)]
      refine ret_ev ((op_ev (int_ev ((op_ev rfl rfl).trans (div_ok o2))) rfl).trans ?_)
      show (if size = 0 then Res.stuck else Res.ok (D.int ((tw.fdiv 37).fmod size)) M2) = _
      rw [if_neg e0]
    refine (run_rt' rfl hr (by simp)).trans ?_
    rw [List.take_of_length_le (by show M2.length ≤ M.length; simp [M2, M1])]
end
end G86

set_option Elab.async false
set_option linter.all false
set_option maxRecDepth 100000
set_option maxHeartbeats 4000000
namespace G86
open DL
theorem run_up {a N : Nat} {f : DS} {ds : List D} {d : D} {ρ1 : Sl} {n : Nat} {M M1 : Store} (hl : ds.length = a) (h : f (sl0 N ds) M = .ok (.rt d, ρ1) M1) (hf : locFree d = true) (hu : Up n M M1) : runDef a N f ds M = .ok d M1 := by
  refine (run_rt' hl h hf).trans ?_
  rw [List.take_of_length_le (by rw [hu.len]; exact Nat.le_refl _)]
theorem at_nat {ds : List D} {r : Int} (h0 : 0 ≤ r) (h1 : r < ds.length) : ∃ d, d ∈ ds ∧ L2.atI ds r = some d := by
  have hk : r.toNat < ds.length := by omega
  refine ⟨ds[r.toNat], List.getElem_mem hk, ?_⟩
  unfold L2.atI L2.ixN
  rw [if_pos h0, if_pos h1]
  exact List.getElem?_eq_getElem hk
/-- what a draw gives: a value with P, the well moved on by k draws at most -/
def Dr (n m k : Nat) (M : Store) (r : Res D) (P : D → Prop) : Prop := ∃ d M', r = .ok d M' ∧ P d ∧ Wl n (m + k) M' ∧ Up n M M'
theorem Wl.more {n m k : Nat} {M : Store} (h : Wl n m M) (hk : m ≤ k := by omega) : Wl n k M := by
  obtain ⟨a, b, c, d, h1, h2, h3, h4, h5⟩ := h
  exact ⟨a, b, c, d, h1, h2, h3, h4, by omega⟩
section
variable {M : Store} {n m : Nat}
theorem pick_ev {ds : List D} (hw : Wl n m M) (hd : 0 < ds.length) (hd2 : ds.length < 1000) (hf : locFrees ds = true) (hm : m ≤ 1000000 := by omega) : Dr n m 1 M (f__law_pick [.loc n, .lst ds] M) (fun d => d ∈ ds) := by
  obtain ⟨r, M1, h1, h2, h3, h4, h5⟩ := draw_ev (size := ds.length) hw (by omega) (by omega) hm
  obtain ⟨d, hd1, hd2⟩ := at_nat h2 h3
  refine ⟨d, M1, ?_, hd1, h4, h5⟩
  refine run_up (ρ1 := [some (.loc n), some (.lst ds)]) rfl ?_ (locFrees_iff.mp hf d hd1) h5
  unfold m__law_pick
  refine ret_ev ((op_ev (x := .lst ds) (M1 := M) rfl ((def_ev (n := 2) (ds := [.loc n, .int (ds.length : Nat)]) (M1 := M) (cons_ev rfl (one_ev (call_ev (one_ev rfl) |>.trans len_lst))) rfl).trans h1)).trans ?_)
  show (match L2.atI ds r with | some x => Res.ok x M1 | none => .stuck) = _
  rw [hd2]
theorem low_lv {t u : Int} (hu : u ≠ 0) (hs : bt 8999 u) : f__law_low [.int t, .int u] M = .ok (rD (Rat.divInt t u)) M := low_ev hu hs
/-! ### tight sizes -/
/-- q * N is whole and small -/
def la (N r : Nat) (q : Rat) : Prop := ∃ z : Int, q * (N : Rat) = (z : Rat) ∧ bt r z
theorem la.mono {N r s : Nat} {q : Rat} (h : la N r q) (hs : r ≤ s := by omega) : la N s q := let ⟨z, h1, h2⟩ := h; ⟨z, h1, h2.mono⟩
theorem la.mul {N K r s : Nat} {p q : Rat} (h : la N r p) (g : la K s q) : la (N * K) (r + s) (p * q) := by
  obtain ⟨y, h1, h2⟩ := h
  obtain ⟨z, g1, g2⟩ := g
  refine ⟨y * z, ?_, h2.mul g2⟩
  rw [Rat.natCast_mul, Rat.intCast_mul, ← h1, ← g1]
  grind
theorem la.up {N r : Nat} {q : Rat} (h : la N r q) (K s : Nat) (hK : K ≤ 2 ^ s := by decide) : la (N * K) (r + s) q := by
  obtain ⟨z, h1, h2⟩ := h
  refine ⟨z * (K : Nat), by rw [Rat.natCast_mul, Rat.intCast_mul, ← h1, Rat.intCast_natCast]; grind, ?_⟩
  unfold bt at *
  rw [Int.natAbs_mul, Int.natAbs_natCast, Nat.pow_add]
  exact Nat.mul_lt_mul_of_lt_of_le h2 hK (Nat.two_pow_pos _)
theorem la.add {N r : Nat} {p q : Rat} (h : la N r p) (g : la N r q) : la N (r + 1) (p + q) := by
  obtain ⟨y, h1, h2⟩ := h
  obtain ⟨z, g1, g2⟩ := g
  exact ⟨y + z, by rw [Rat.intCast_add, ← h1, ← g1]; grind, h2.add g2⟩
theorem la.sub {N r : Nat} {p q : Rat} (h : la N r p) (g : la N r q) : la N (r + 1) (p - q) := by
  obtain ⟨y, h1, h2⟩ := h
  obtain ⟨z, g1, g2⟩ := g
  exact ⟨y - z, by rw [Rat.intCast_sub, ← h1, ← g1]; grind, h2.sub g2⟩
theorem la.zero {N r : Nat} : la N r 0 := ⟨0, by rw [Rat.zero_mul]; rfl, bt.zero⟩
theorem la.cast {N K r s : Nat} {q : Rat} (h : la N r q) (e : N = K := by decide) (hs : r ≤ s := by decide) : la K s q := by subst e; exact h.mono hs
def lt3 (N r : Nat) (u : V3) : Prop := la N r u.x ∧ la N r u.y ∧ la N r u.z
theorem lt3.mono {N r s : Nat} {u : V3} (h : lt3 N r u) (hs : r ≤ s := by omega) : lt3 N s u := ⟨h.1.mono, h.2.1.mono, h.2.2.mono⟩
theorem lt3.up {N r : Nat} {u : V3} (h : lt3 N r u) (K s : Nat) (hK : K ≤ 2 ^ s := by decide) : lt3 (N * K) (r + s) u := ⟨h.1.up K s hK, h.2.1.up K s hK, h.2.2.up K s hK⟩
theorem lt3.add {N r : Nat} {u v : V3} (h : lt3 N r u) (g : lt3 N r v) : lt3 N (r + 1) (u.add v) := ⟨h.1.add g.1, h.2.1.add g.2.1, h.2.2.add g.2.2⟩
theorem lt3.mul {N K r s : Nat} {u : V3} {c : Rat} (h : lt3 N r u) (g : la K s c) : lt3 (N * K) (r + s) (u.mul c) := ⟨h.1.mul g, h.2.1.mul g, h.2.2.mul g⟩
theorem lt3.cross {N K r s : Nat} {u v : V3} (h : lt3 N r u) (g : lt3 K s v) : lt3 (N * K) (r + s + 1) (u.cross v) :=
  ⟨(h.2.1.mul g.2.2).sub (h.2.2.mul g.2.1), (h.2.2.mul g.1).sub (h.1.mul g.2.2), (h.1.mul g.2.1).sub (h.2.1.mul g.1)⟩
theorem lt3.dot {N K r s : Nat} {u v : V3} (h : lt3 N r u) (g : lt3 K s v) : la (N * K) (r + s + 2) (u.dot v) :=
  ((h.1.mul g.1).add (h.2.1.mul g.2.1)).add ((h.2.2.mul g.2.2).mono)
theorem lt3.nil {N r : Nat} : lt3 N r V3.nil := ⟨la.zero, la.zero, la.zero⟩
theorem lt3.cast {N K r s : Nat} {u : V3} (h : lt3 N r u) (e : N = K := by decide) (hs : r ≤ s := by decide) : lt3 K s u := ⟨h.1.cast e hs, h.2.1.cast e hs, h.2.2.cast e hs⟩
theorem divInt_mul {t u k N : Int} (hu : u ≠ 0) (h : k * u = N) : Rat.divInt t u * (N : Rat) = ((t * k : Int) : Rat) := by
  subst h
  have : (u : Rat) ≠ 0 := RW.c_ne hu
  rw [Rat.divInt_eq_div, Rat.intCast_mul, Rat.intCast_mul]
  grind
/-- a level told with CC itself -/
def lc1 (q : Rat) : Prop := ∃ z : Int, q * ((CC ^ 1 : Nat) : Int) = z ∧ z.natAbs ≤ CC ^ (2 * 1)
theorem lc1.u {q : Rat} (h : lc1 q) : lv U 1 q := by
  obtain ⟨z, h1, h2⟩ := h
  exact ⟨z, by rw [show U.E = 1 from rfl, Nat.one_mul]; exact h1, by rw [show U.R = 1 from rfl, Nat.one_mul]; exact h2⟩
/-- a coordinate: at most 50, over 1, 2 or 3 -/
def cor (q : Rat) : Prop := ∃ (t u : Int), q = Rat.divInt t u ∧ -50 ≤ t ∧ t ≤ 50 ∧ 1 ≤ u ∧ u ≤ 3
theorem cor.tg {q : Rat} (h : cor q) : la 6 9 q := by
  obtain ⟨t, u, rfl, h1, h2, h3, h4⟩ := h
  have e : ∀ k : Int, k * u = 6 → k.natAbs ≤ 6 → la 6 9 (Rat.divInt t u) := fun k hk hk2 => ⟨t * k, by
    rw [show ((6 : Nat) : Rat) = ((6 : Int) : Rat) from rfl]; exact divInt_mul (by omega) hk, by
    unfold bt
    rw [Int.natAbs_mul]
    exact Nat.lt_of_le_of_lt (Nat.mul_le_mul (show t.natAbs ≤ 50 by omega) hk2) (by decide)⟩
  rcases (show u = 1 ∨ u = 2 ∨ u = 3 by omega) with rfl | rfl | rfl
  · exact e 6 (by decide) (by decide)
  · exact e 3 (by decide) (by decide)
  · exact e 2 (by decide) (by decide)
def spo (u : V3) : Prop := cor u.x ∧ cor u.y ∧ cor u.z
theorem small_in {i : Int} {l : List Int} {d : D} (h : d ∈ l.map D.int) : ∃ i ∈ l, d = .int i := by
  obtain ⟨i, h1, h2⟩ := List.mem_map.mp h
  exact ⟨i, h1, h2.symm⟩
theorem spot_ev (hw : Wl n m M) (hm : m ≤ 900000) : Dr n m 5 M (f__law_spot [.loc n] M) (fun d => ∃ u, d = tD u ∧ spo u) := by
  obtain ⟨d1, M1, e1, p1, w1, u1⟩ := pick_ev (ds := [.int 1, .int 2, .int 2, .int 3, .int 3, .int 5, .int 50]) hw (by decide) (by decide) (by simp)
  obtain ⟨d2, M2, e2, p2, w2, u2⟩ := pick_ev (ds := [.int 1, .int 1, .int 1, .int 2, .int 3]) w1 (by decide) (by decide) (by simp)
  obtain ⟨wd, rfl, hwd⟩ : ∃ wd : Int, d1 = .int wd ∧ (1 ≤ wd ∧ wd ≤ 50) := by
    simp at p1
    rcases p1 with h | h | h | h | h <;> exact ⟨_, h, by omega⟩
  obtain ⟨un, rfl, hun⟩ : ∃ un : Int, d2 = .int un ∧ (1 ≤ un ∧ un ≤ 3) := by
    simp at p2
    rcases p2 with h | h | h <;> exact ⟨_, h, by omega⟩
  -- one coordinate
  have one : ∀ (M : Store) (k : Nat) (x : Option D), Wl n k M → k ≤ 1000000 → ∃ q M', mDef 2 f__law_low (mCons (mOp dSub (mDef 2 f__law_draw (mCons (mV 0) (mCons (mOp (dAdd newLst) (mOp (dMul newLst) (mC (.int 2)) (mV 1)) (mC (.int 1))) mNil))) (mV 1)) (mCons (mV 2) mNil)) [some (.loc n), some (.int wd), some (.int un), x] M = .ok (rD q) M' ∧ cor q ∧ Wl n (k + 1) M' ∧ Up n M M' := by
    intro M k x hk hk2
    obtain ⟨r, M', h1, h2, h3, h4, h5⟩ := draw_ev (size := 2 * wd + 1) hk (by omega) (by omega) hk2
    have mo : mulOk 2 wd = true := bt.two.mk (show bt 20 wd by unfold bt; omega)
    refine ⟨Rat.divInt (r - wd) un, M', ?_, ⟨r - wd, un, rfl, by omega, by omega, hun.1, hun.2⟩, h4, h5⟩
    refine (def_ev (n := 2) (ds := [.int (r - wd), .int un]) (M1 := M') (cons_ev ((op_ev (x := .int r) (y := .int wd) ((def_ev (n := 2) (ds := [.loc n, .int (2 * wd + 1)]) (M1 := M) (cons_ev rfl (one_ev ((op_ev ((op_ev rfl rfl).trans (mul_ok mo)) rfl).trans rfl))) rfl).trans h1) rfl).trans rfl) rfl) rfl).trans ?_
    exact low_ev (by omega) (by unfold bt; exact Nat.lt_of_lt_of_le (show un.natAbs < 2 ^ 2 by omega) (Nat.pow_le_pow_right (by omega) (by omega)))
  obtain ⟨q1, M3, a1, a2, a3, a4⟩ := one M2 _ (some (.int (0 : Nat))) w2 (by omega)
  obtain ⟨q2, M4, b1, b2, b3, b4⟩ := one M3 _ (some (.int (1 : Nat))) a3 (by omega)
  obtain ⟨q3, M5, c1, c2, c3, c4⟩ := one M4 _ (some (.int (2 : Nat))) b3 (by omega)
  have up5 : Up n M M5 := (((u1.trans u2).trans a4).trans b4).trans c4
  refine ⟨tD ⟨q1, q2, q3⟩, M5, ?_, ⟨_, rfl, a2, b2, c2⟩, c3.more, up5⟩
  refine run_up (ρ1 := [some (.loc n), some (.int wd), some (.int un), none]) rfl ?_ free_tD up5
  unfold m__law_spot
  rw [seq_nx (M1 := M2) (ρ1 := [some (.loc n), some (.int wd), some (.int un), none]) (by
    have v : mTup (mCons (mDef 2 f__law_pick (mCons (mV 0) (mCons (mLst newLst (mCons (mC (.int 1)) (mCons (mC (.int 2)) (mCons (mC (.int 2)) (mCons (mC (.int 3)) (mCons (mC (.int 3)) (mCons (mC (.int 5)) (mCons (mC (.int 50)) mNil)))))))) mNil))) (mCons (mDef 2 f__law_pick (mCons (mV 0) (mCons (mLst newLst (mCons (mC (.int 1)) (mCons (mC (.int 1)) (mCons (mC (.int 1)) (mCons (mC (.int 2)) (mCons (mC (.int 3)) mNil)))))) mNil))) mNil)) (sl0 4 [.loc n]) M = .ok (.tup [.int wd, .int un]) M2 := by
      refine (tup_ev (cons_ev ((def_ev (n := 2) (ds := [.loc n, .lst [.int 1, .int 2, .int 2, .int 3, .int 3, .int 5, .int 50]]) (M1 := M) rfl rfl).trans e1) (one_ev ((def_ev (n := 2) (ds := [.loc n, .lst [.int 1, .int 1, .int 1, .int 2, .int 3]]) (M1 := M1) rfl rfl).trans e2)))).trans (s_newTup (by show 2 ≤ _; omega))
    unfold mAsg
    rw [v]
    rw [s_bind, s_bTup (n := 2) rfl]
    rfl)]
  have lc : mLcGo (bName 3) mYes (mDef 2 f__law_low (mCons (mOp dSub (mDef 2 f__law_draw (mCons (mV 0) (mCons (mOp (dAdd newLst) (mOp (dMul newLst) (mC (.int 2)) (mV 1)) (mC (.int 1))) mNil))) (mV 1)) (mCons (mV 2) mNil))) [.int (0 : Nat), .int (1 : Nat), .int (2 : Nat)] [some (.loc n), some (.int wd), some (.int un), none] M2 = .ok [rD q1, rD q2, rD q3] M5 := by
    simp only [mLcGo, s_bName, s_bind, s_mYes, if_true, List.set_cons_succ, List.set_cons_zero]
    rw [a1]
    simp only [s_bind]
    rw [b1]
    simp only [s_bind]
    rw [c1]
    rfl
  refine ret_ev ((call_ev (one_ev ((mLc_ev (xs := [.int (0 : Nat), .int (1 : Nat), .int (2 : Nat)]) (M1 := M2) (M2 := M5) rfl (by show 3 ≤ _; omega) lc).trans (s_newLst (by show 3 ≤ _; omega))))).trans ?_)
  exact s_newTup (by show 3 ≤ _; omega)
end
end G86

set_option Elab.async false
set_option linter.all false
set_option maxRecDepth 100000
set_option maxHeartbeats 4000000
namespace G86
open DL
theorem mif_yes {c : DT} {a b : DE} {ρ : Sl} {M M1 : Store} (h : c ρ M = .ok true M1) : mIf c a b ρ M = a ρ M1 := by
  unfold mIf; rw [h]; rfl
theorem mif_no {c : DT} {a b : DE} {ρ : Sl} {M M1 : Store} (h : c ρ M = .ok false M1) : mIf c a b ρ M = b ρ M1 := by
  unfold mIf; rw [h]; rfl
theorem run_pure {a N : Nat} {f : DS} {ds : List D} {d : D} {ρ1 : Sl} {M : Store} (hl : ds.length = a) (h : f (sl0 N ds) M = .ok (.rt d, ρ1) M) (hf : locFree d = true) : runDef a N f ds M = .ok d M := run_rt hl h hf
def ax (i : Nat) : V3 := ⟨if i = 0 then 1 else 0, if i = 1 then 1 else 0, if i = 2 then 1 else 0⟩
theorem axis_ev {M : Store} {i : Int} (h0 : 0 ≤ i) (h3 : i < 3) : f__law_axis [.int i] M = .ok (tD (ax i.toNat)) M := by
  rcases (show i = 0 ∨ i = 1 ∨ i = 2 by omega) with rfl | rfl | rfl <;> exact run_rt (ρ1 := [some (.int _), none]) rfl rfl rfl
theorem cor_int {i : Int} (h1 : -50 ≤ i) (h2 : i ≤ 50) : cor i := ⟨i, 1, by rw [Rat.divInt_eq_div]; grind, h1, h2, by omega, by omega⟩
theorem spo_ax {i : Nat} : spo (ax i) := by
  refine ⟨?_, ?_, ?_⟩ <;> simp only [ax] <;> split <;> first | exact cor_int (i := 1) (by decide) (by decide) | exact cor_int (i := 0) (by decide) (by decide)
theorem ax_ne {i : Int} (h0 : 0 ≤ i) (h3 : i < 3) : ax i.toNat ≠ V3.nil := by
  rcases (show i = 0 ∨ i = 1 ∨ i = 2 by omega) with rfl | rfl | rfl <;> decide
theorem cor_lc {q : Rat} (h : cor q) : lc1 q := by
  obtain ⟨t, u, rfl, h1, h2, h3, h4⟩ := h
  have e : ∀ k : Int, k * u = ((CC ^ 1 : Nat) : Int) → lc1 (Rat.divInt t u) := by
    intro k hk
    refine ⟨t * k, ?_, ?_⟩
    · rw [← hk, Rat.divInt_eq_div]
      have : (u : Rat) ≠ 0 := by
        intro e
        have := Rat.intCast_inj.mp (e.trans Rat.intCast_zero.symm)
        omega
      rw [Rat.intCast_mul, Rat.intCast_mul]
      grind
    · have hc : (CC ^ 1 : Nat) = 720720000 := by decide
      have hc2 : CC ^ (2 * 1) = 720720000 * 720720000 := by decide
      rw [hc] at hk
      rw [hc2]
      rcases (show u = 1 ∨ u = 2 ∨ u = 3 by omega) with rfl | rfl | rfl
      · have : k = 720720000 := by omega
        subst this; omega
      · have : k = 360360000 := by omega
        subst this; omega
      · have : k = 240240000 := by omega
        subst this; omega
  rcases (show u = 1 ∨ u = 2 ∨ u = 3 by omega) with rfl | rfl | rfl
  · exact e 720720000 (by decide)
  · exact e 360360000 (by decide)
  · exact e 240240000 (by decide)
theorem cor_lv {q : Rat} (h : cor q) : lv U 1 q := (cor_lc h).u
theorem spo_lw {u : V3} (h : spo u) : lw U 1 u := ⟨cor_lv h.1, cor_lv h.2.1, cor_lv h.2.2⟩
theorem spo.tg {u : V3} (h : spo u) : lt3 6 9 u := ⟨h.1.tg, h.2.1.tg, h.2.2.tg⟩
/-- a point of a body -/
def pp (u : V3) : Prop := lw U 2 u ∧ lt3 6 10 u
theorem spo_pp {u : V3} (h : spo u) : pp u := ⟨(spo_lw h).mono, h.tg.mono⟩
theorem spo_pp2 {u v : V3} (h : spo u) (g : spo v) : pp (u.add v) := ⟨(spo_lw h).add (spo_lw g), h.tg.add g.tg⟩
section
variable {M : Store} {n m : Nat}
theorem way_ev (hw : Wl n m M) (hm : m ≤ 900000) : Dr n m 6 M (f__law_way [.loc n] M) (fun d => ∃ u, d = tD u ∧ spo u ∧ u ≠ V3.nil) := by
  obtain ⟨d, M1, e1, ⟨u, rfl, hu⟩, w1, u1⟩ := spot_ev hw hm
  have t1 : mTst (mOp (dEq true) (mV 1) (mDef 0 f__law_nought mNil)) [some (.loc n), some (tD u)] M1 = .ok (!decide (u = V3.nil)) M1 :=
    tst_ev ((op_ev rfl ((def_ev rfl rfl).trans lnought_ev)).trans (eq_tD.trans (by simp)))
  by_cases hz : u = V3.nil
  · obtain ⟨i, M2, f1, f2, f3, f4, f5⟩ := draw_ev (size := 3) w1 (by decide) (by decide) (by omega)
    refine ⟨tD (ax i.toNat), M2, ?_, ⟨_, rfl, spo_ax, ax_ne f2 f3⟩, f4.more, u1.trans f5⟩
    refine run_up (ρ1 := [some (.loc n), some (tD u)]) rfl ?_ free_tD (u1.trans f5)
    unfold m__law_way
    rw [seq_nx (asg_ev ((def_ev (n := 1) (ds := [.loc n]) (M1 := M) rfl rfl).trans e1))]
    refine ret_ev ((mif_no (M1 := M1) (t1.trans (by simp [hz]))).trans ?_)
    exact (def_ev (n := 1) (ds := [.int i]) (M1 := M2) (one_ev ((def_ev (n := 2) (ds := [.loc n, .int 3]) (M1 := M1) rfl rfl).trans f1)) rfl).trans (axis_ev f2 f3)
  · refine ⟨tD u, M1, ?_, ⟨_, rfl, hu, hz⟩, w1.more, u1⟩
    refine run_up (ρ1 := [some (.loc n), some (tD u)]) rfl ?_ free_tD u1
    unfold m__law_way
    rw [seq_nx (asg_ev ((def_ev (n := 1) (ds := [.loc n]) (M1 := M) rfl rfl).trans e1))]
    exact ret_ev ((mif_yes (M1 := M1) (t1.trans (by simp [hz]))).trans rfl)
end
end G86

set_option Elab.async false
set_option linter.all false
set_option maxRecDepth 100000
set_option maxHeartbeats 4000000
namespace G86
open DL
section
variable {M : Store} {n m : Nat}
theorem other_fin {v : V3} (hv : v ≠ V3.nil) (h0 : (ax 0).cross v = V3.nil) : (ax 1).cross v ≠ V3.nil := by
  intro h1
  apply hv
  have a1 := congrArg V3.x h0
  have a2 := congrArg V3.y h0
  have a3 := congrArg V3.z h0
  have b1 := congrArg V3.x h1
  have b2 := congrArg V3.y h1
  have b3 := congrArg V3.z h1
  simp [V3.cross, V3.nil, ax] at a1 a2 a3 b1 b2 b3
  refine V3.ext' ?_ ?_ ?_ <;> simp only [V3.nil] <;> grind
theorem other_way_ev {v : V3} (hw : Wl n m M) (hm : m ≤ 900000) (hv : v ≠ V3.nil) (hs : spo v) : Dr n m 6 M (f__law_other_way [.loc n, tD v] M) (fun d => ∃ u, d = tD u ∧ spo u ∧ u.cross v ≠ V3.nil) := by
  obtain ⟨d, M1, e1, ⟨u, rfl, hu, hz⟩, w1, u1⟩ := way_ev hw hm
  let ρ := fun (w : V3) (x : Option D) => ([some (.loc n), some (tD v), some (tD w), x] : Sl)
  let stp := fun (w : V3) (i : Nat) => if w.cross v = V3.nil then ax i else w
  have step : ∀ (w : V3) (i : Nat), spo w → i < 3 → (mIfS (mTst (mOp (dEq false) (mDef 2 f__law_cross (mCons (mV 2) (mCons (mV 1) mNil))) (mDef 0 f__law_nought mNil))) (mAsg (mDef 1 f__law_axis (mCons (mV 3) mNil)) (bName 2)) mNx) (ρ w (some (.int (i : Nat)))) M1 = .ok (.nx, ρ (stp w i) (some (.int (i : Nat)))) M1 := by
    intro w i hw hi
    have cr : f__law_cross [tD w, tD v] M1 = .ok (tD (w.cross v)) M1 := lcross_ev (M := M1) (spo_lw hw) (spo_lw hs) (by decide) (by decide)
    have t1 : mTst (mOp (dEq false) (mDef 2 f__law_cross (mCons (mV 2) (mCons (mV 1) mNil))) (mDef 0 f__law_nought mNil)) (ρ w (some (.int (i : Nat)))) M1 = .ok (decide (w.cross v = V3.nil)) M1 :=
      tst_ev ((op_ev ((def_ev (n := 2) (ds := [tD w, tD v]) (M1 := M1) rfl rfl).trans cr) ((def_ev rfl rfl).trans lnought_ev)).trans (eq_tD.trans (by simp)))
    by_cases h : w.cross v = V3.nil
    · have es : stp w i = ax i := if_pos h
      rw [es]
      refine (ifs_yes (M1 := M1) (t1.trans (by simp [h]))).trans ?_
      have := @axis_ev M1 (i : Int) (by omega) (by omega)
      exact asg_ev ((def_ev (n := 1) (ds := [.int (i : Nat)]) (M1 := M1) rfl rfl).trans this)
    · have es : stp w i = w := if_neg h
      rw [es]
      exact ifs_no (t1.trans (by simp [h]))
  have sp : ∀ w i, spo w → spo (stp w i) := by
    intro w i h
    show spo (if _ then _ else _)
    split
    · exact spo_ax
    · exact h
  let w3 := stp (stp (stp u 0) 1) 2
  have hw3 : spo w3 := sp _ _ (sp _ _ (sp _ _ hu))
  have fin : w3.cross v ≠ V3.nil := by
    by_cases h : u.cross v = V3.nil
    · have e0 : stp u 0 = ax 0 := if_pos h
      by_cases h0 : (ax 0).cross v = V3.nil
      · have e1 : stp (ax 0) 1 = ax 1 := if_pos h0
        have h1 := other_fin hv h0
        have e2 : stp (ax 1) 2 = ax 1 := if_neg h1
        show (stp (stp (stp u 0) 1) 2).cross v ≠ _
        rw [e0, e1, e2]; exact h1
      · have e1 : stp (ax 0) 1 = ax 0 := if_neg h0
        have e2 : stp (ax 0) 2 = ax 0 := if_neg h0
        show (stp (stp (stp u 0) 1) 2).cross v ≠ _
        rw [e0, e1, e2]; exact h0
    · have e0 : ∀ i, stp u i = u := fun i => if_neg h
      show (stp (stp (stp u 0) 1) 2).cross v ≠ _
      rw [e0, e0, e0]; exact h
  refine ⟨tD w3, M1, ?_, ⟨_, rfl, hw3, fin⟩, w1, u1⟩
  refine run_up (ρ1 := ρ w3 (some (.int (2 : Nat)))) rfl ?_ free_tD u1
  unfold m__law_other_way
  rw [seq_nx (M1 := M1) (ρ1 := ρ u none) (asg_ev ((def_ev (n := 1) (ds := [.loc n]) (M1 := M) rfl rfl).trans e1))]
  rw [seq_nx (M1 := M1) (ρ1 := ρ w3 (some (.int (2 : Nat)))) (by
    refine (for_ev (xs := [.int (0 : Nat), .int (1 : Nat), .int (2 : Nat)]) (M1 := M1) rfl).trans ?_
    rw [for_cons (ρ1 := ρ u (some (.int (0 : Nat)))) (M1 := M1) rfl (step u 0 hu (by decide))]
    rw [for_cons (ρ1 := ρ (stp u 0) (some (.int (1 : Nat)))) (M1 := M1) rfl (step _ 1 (sp _ _ hu) (by decide))]
    rw [for_cons (ρ1 := ρ (stp (stp u 0) 1) (some (.int (2 : Nat)))) (M1 := M1) rfl (step _ 2 (sp _ _ (sp _ _ hu)) (by decide))]
    exact for_nil)]
  exact ret_ev rfl
/-- a mass: above 0, at most 1000003, over 1, 2, 3 or 5 -/
def mas (q : Rat) : Prop := ∃ (t u : Int), q = Rat.divInt t u ∧ 1 ≤ t ∧ t ≤ 1000003 ∧ (u = 1 ∨ u = 2 ∨ u = 3 ∨ u = 5)
theorem mas_lc {q : Rat} (h : mas q) : lc1 q := by
  obtain ⟨t, u, rfl, h1, h2, h4⟩ := h
  have hc : (CC ^ 1 : Nat) = 720720000 := by decide
  have hc2 : CC ^ (2 * 1) = 720720000 * 720720000 := by decide
  have e : ∀ k : Int, k * u = 720720000 → 1 ≤ k → k ≤ 720720000 → lc1 (Rat.divInt t u) := by
    intro k hk k1 k2
    refine ⟨t * k, ?_, ?_⟩
    · rw [hc, show ((720720000 : Nat) : Int) = 720720000 from rfl, ← hk, Rat.divInt_eq_div]
      have : (u : Rat) ≠ 0 := by
        intro e
        have := Rat.intCast_inj.mp (e.trans Rat.intCast_zero.symm)
        omega
      rw [Rat.intCast_mul, Rat.intCast_mul]
      grind
    · rw [hc2, Int.natAbs_mul]
      exact Nat.mul_le_mul (by omega) (by omega)
  rcases h4 with rfl | rfl | rfl | rfl
  · exact e 720720000 (by decide) (by decide) (by decide)
  · exact e 360360000 (by decide) (by decide) (by decide)
  · exact e 240240000 (by decide) (by decide) (by decide)
  · exact e 144144000 (by decide) (by decide) (by decide)
theorem mas_lv {q : Rat} (h : mas q) : lv U 1 q := (mas_lc h).u
theorem mas.tg {q : Rat} (h : mas q) : la 30 25 q := by
  obtain ⟨t, u, rfl, h1, h2, h4⟩ := h
  have e : ∀ k : Int, k * u = 30 → k.natAbs ≤ 30 → la 30 25 (Rat.divInt t u) := fun k hk hk2 => ⟨t * k, by
    rw [show ((30 : Nat) : Rat) = ((30 : Int) : Rat) from rfl]; exact divInt_mul (by omega) hk, by
    unfold bt
    rw [Int.natAbs_mul]
    exact Nat.lt_of_le_of_lt (Nat.mul_le_mul (show t.natAbs ≤ 1000003 by omega) hk2) (by decide)⟩
  rcases h4 with rfl | rfl | rfl | rfl
  · exact e 30 (by decide) (by decide)
  · exact e 15 (by decide) (by decide)
  · exact e 10 (by decide) (by decide)
  · exact e 6 (by decide) (by decide)
theorem mas_pos {q : Rat} (h : mas q) : 0 < q := by
  obtain ⟨t, u, rfl, h1, h2, h4⟩ := h
  have hu : 0 < u := by omega
  rw [Rat.divInt_eq_div, Rat.div_def]
  exact Rat.mul_pos (Rat.intCast_pos.mpr (by omega)) (Rat.inv_pos.mpr (Rat.intCast_pos.mpr hu))
theorem flag_ev (hw : Wl n m M) : ∃ b, dIx (.loc n) (.int 3) M = .ok (.bl b) M := by
  obtain ⟨a, b, c, d, h, _⟩ := hw
  exact ⟨d, g3 h⟩
theorem amount_ev (hw : Wl n m M) (hm : m ≤ 900000) : Dr n m 3 M (f__law_amount [.loc n] M) (fun d => ∃ q, d = rD q ∧ mas q) := by
  obtain ⟨b, hb⟩ := flag_ev hw
  let z : Int := if b = true then 1000003 else 9
  have hz : z = 1000003 ∨ z = 9 := by
    show (if _ then _ else _) = _ ∨ (if _ then _ else _) = _
    cases b <;> simp
  obtain ⟨d1, M1, e1, p1, w1, u1⟩ := pick_ev (ds := [.int 2, .int 5, .int 9, .int z]) hw (by show 0 < 4; decide) (by show 4 < 1000; decide) (by simp)
  obtain ⟨s, rfl, hs⟩ : ∃ s : Int, d1 = .int s ∧ (1 ≤ s ∧ s ≤ 1000003) := by
    simp at p1
    rcases p1 with h | h | h | h <;> exact ⟨_, h, by omega⟩
  obtain ⟨r, M2, f1, f2, f3, f4, f5⟩ := draw_ev (size := s) w1 (by omega) (by omega) (by omega)
  obtain ⟨d2, M3, e3, p3, w3, u3⟩ := pick_ev (ds := [.int 1, .int 1, .int 2, .int 3, .int 5]) f4 (by show 0 < 5; decide) (by show 5 < 1000; decide) (by simp)
  obtain ⟨u, rfl, hu⟩ : ∃ u : Int, d2 = .int u ∧ (u = 1 ∨ u = 2 ∨ u = 3 ∨ u = 5) := by
    simp at p3
    rcases p3 with h | h | h | h <;> exact ⟨_, h, by omega⟩
  have up : Up n M M3 := (u1.trans f5).trans u3
  refine ⟨rD (Rat.divInt (1 + r) u), M3, ?_, ⟨_, rfl, 1 + r, u, rfl, by omega, by omega, hu⟩, w3.more, up⟩
  refine run_up (ρ1 := [some (.loc n), some (.int s)]) rfl ?_ free_rD up
  unfold m__law_amount
  rw [seq_nx (M1 := M1) (ρ1 := [some (.loc n), some (.int s)]) (by
    refine asg_ev ((def_ev (n := 2) (ds := [.loc n, .lst [.int 2, .int 5, .int 9, .int z]]) (M1 := M) (cons_ev rfl (one_ev ((lst_ev (cons_ev rfl (cons_ev rfl (cons_ev rfl (one_ev (d := .int z) ?_))))).trans (s_newLst (by show 4 ≤ _; omega))))) rfl).trans e1)
    have t : mTst (mOp dIx (mV 0) (mC (.int 3))) (sl0 2 [.loc n]) M = .ok b M := tst_ev ((op_ev rfl rfl).trans hb)
    cases b with
    | true => exact (mif_yes t).trans rfl
    | false => exact (mif_no t).trans rfl)]
  refine ret_ev ((def_ev (n := 2) (ds := [.int (1 + r), .int u]) (M1 := M3) (cons_ev (M1 := M2) ((op_ev rfl ((def_ev (n := 2) (ds := [.loc n, .int s]) (M1 := M1) rfl rfl).trans f1)).trans rfl) (one_ev ((def_ev (n := 2) (ds := [.loc n, .lst [.int 1, .int 1, .int 2, .int 3, .int 5]]) (M1 := M2) rfl rfl).trans e3))) rfl).trans ?_)
  exact low_ev (by omega) (by unfold bt; exact Nat.lt_of_lt_of_le (show u.natAbs < 2 ^ 3 by omega) (Nat.pow_le_pow_right (by omega) (by omega)))
theorem screw_ev (hw : Wl n m M) (hm : m ≤ 800000) : Dr n m 12 M (f__law_screw [.loc n] M) (fun d => ∃ a b, d = sD a b ∧ (lw U 3 a ∧ lw U 3 b) ∧ lt3 36 19 a ∧ lt3 36 19 b) := by
  obtain ⟨r, M1, f1, f2, f3, f4, f5⟩ := draw_ev (size := 8) hw (by decide) (by decide) (by omega)
  have first : (mAsg (mDef 2 f__law_draw (mCons (mV 0) (mCons (mC (.int 8)) mNil))) (bName 1)) (sl0 2 [.loc n]) M = .ok (.nx, [some (.loc n), some (.int r)]) M1 := asg_ev ((def_ev (n := 2) (ds := [.loc n, .int 8]) (M1 := M) rfl rfl).trans f1)
  have tt : ∀ k : Int, mTst (mOp (dEq false) (mV 1) (mC (.int k))) [some (.loc n), some (.int r)] M1 = .ok (decide (r = k)) M1 := fun k => tst_ev ((op_ev rfl rfl).trans (eq_int.trans (by simp)))
  have sp : ∀ {M : Store}, mDef 1 f__law_spot (mCons (mV 0) mNil) [some (.loc n), some (.int r)] M = f__law_spot [.loc n] M := def_ev (n := 1) (ds := [.loc n]) rfl rfl
  have wy : ∀ {M : Store}, mDef 1 f__law_way (mCons (mV 0) mNil) [some (.loc n), some (.int r)] M = f__law_way [.loc n] M := def_ev (n := 1) (ds := [.loc n]) rfl rfl
  by_cases h0 : r = 0
  · obtain ⟨d, M2, e1, ⟨u, rfl, hu⟩, w2, u2⟩ := spot_ev f4 (by omega)
    refine ⟨sD V3.nil u, M2, ?_, ⟨_, _, rfl, ⟨lw.nil, (spo_lw hu).mono⟩, lt3.nil, (hu.tg.up 6 3).cast⟩, w2.more, f5.trans u2⟩
    refine run_up (ρ1 := [some (.loc n), some (.int r)]) rfl ?_ free_sD (f5.trans u2)
    unfold m__law_screw
    rw [seq_nx first]
    refine seq_rt ((ifs_yes (M1 := M1) ((tt 0).trans (by simp [h0]))).trans ?_)
    exact ret_ev ((tup_ev (cons_ev ((def_ev rfl rfl).trans lnought_ev) (one_ev (sp.trans e1)))).trans (s_newTup (by show 2 ≤ _; omega)))
  · by_cases h1 : r = 1
    · obtain ⟨d, M2, e1, ⟨p, rfl, hp⟩, w2, u2⟩ := spot_ev f4 (by omega)
      obtain ⟨d, M3, e2, ⟨a, rfl, ha, _⟩, w3, u3⟩ := way_ev w2 (by omega)
      have up := (f5.trans u2).trans u3
      refine ⟨sD a (p.cross a), M3, ?_, ⟨_, _, rfl, ⟨(spo_lw ha).mono, (spo_lw hp).cross (spo_lw ha)⟩, (ha.tg.up 6 3).cast, (hp.tg.cross ha.tg).cast⟩, w3.more, up⟩
      refine run_up (ρ1 := [some (.loc n), some (.int r)]) rfl ?_ free_sD up
      unfold m__law_screw
      rw [seq_nx first]
      rw [seq_nx (ifs_no (M1 := M1) ((tt 0).trans (by simp [h0])))]
      refine seq_rt ((ifs_yes (M1 := M1) ((tt 1).trans (by simp [h1]))).trans ?_)
      refine ret_ev ((def_ev (n := 2) (ds := [tD p, tD a]) (M1 := M3) (cons_ev (sp.trans e1) (one_ev (wy.trans e2))) rfl).trans ?_)
      exact lline_ev (M := M3) (spo_lw ha) (spo_lw hp)
    · obtain ⟨d, M2, e1, ⟨p, rfl, hp⟩, w2, u2⟩ := spot_ev f4 (by omega)
      obtain ⟨d, M3, e2, ⟨a, rfl, ha⟩, w3, u3⟩ := spot_ev w2 (by omega)
      have up := (f5.trans u2).trans u3
      refine ⟨sD p a, M3, ?_, ⟨_, _, rfl, ⟨(spo_lw hp).mono, (spo_lw ha).mono⟩, (hp.tg.up 6 3).cast, (ha.tg.up 6 3).cast⟩, w3.more, up⟩
      refine run_up (ρ1 := [some (.loc n), some (.int r)]) rfl ?_ free_sD up
      unfold m__law_screw
      rw [seq_nx first]
      rw [seq_nx (ifs_no (M1 := M1) ((tt 0).trans (by simp [h0])))]
      rw [seq_nx (ifs_no (M1 := M1) ((tt 1).trans (by simp [h1])))]
      exact ret_ev ((tup_ev (cons_ev (sp.trans e1) (one_ev (sp.trans e2)))).trans (s_newTup (by show 2 ≤ _; omega)))
end
end G86

set_option Elab.async false
set_option linter.all false
set_option maxRecDepth 100000
set_option maxHeartbeats 4000000
namespace G86
open DL
structure Tn.Sm (t : Tn) : Prop where
  w : -2 ≤ t.w ∧ t.w ≤ 2
  x : -2 ≤ t.x ∧ t.x ≤ 2
  y : -2 ≤ t.y ∧ t.y ≤ 2
  z : -2 ≤ t.z ∧ t.z ≤ 2
  n : ¬ (t.w = 0 ∧ t.x = 0 ∧ t.y = 0 ∧ t.z = 0)
theorem int_lc {i : Int} (h : i.natAbs ≤ 720720000) : lc1 (i : Rat) := by
  refine ⟨i * 720720000, ?_, ?_⟩
  · rw [show ((CC ^ 1 : Nat) : Int) = 720720000 from by decide, Rat.intCast_mul]
  · rw [show CC ^ (2 * 1) = 720720000 * 720720000 from by decide, Int.natAbs_mul]
    exact Nat.mul_le_mul h (by decide)
theorem int_lv {i : Int} (h : i.natAbs ≤ 720720000) : lv U 1 (i : Rat) := (int_lc h).u
theorem inv_lc {N k : Int} (h : N * k = 720720000) (hk : k.natAbs ≤ 720720000) : lc1 (1 / (N : Rat)) := by
  refine ⟨k, ?_, ?_⟩
  · rw [show ((CC ^ 1 : Nat) : Int) = 720720000 from by decide, ← h, Rat.intCast_mul]
    have : (N : Rat) ≠ 0 := by
      intro e
      have := Rat.intCast_inj.mp (e.trans Rat.intCast_zero.symm)
      subst this
      simp at h
    grind
  · rw [show CC ^ (2 * 1) = 720720000 * 720720000 from by decide]
    omega
theorem inv_lv {N k : Int} (h : N * k = 720720000) (hk : k.natAbs ≤ 720720000) : lv U 1 (1 / (N : Rat)) := (inv_lc h hk).u
theorem sq_range {i : Int} (h : -2 ≤ i ∧ i ≤ 2) : i * i = 0 ∧ i = 0 ∨ i * i = 1 ∨ i * i = 4 := by
  rcases (show i = -2 ∨ i = -1 ∨ i = 0 ∨ i = 1 ∨ i = 2 by omega) with rfl | rfl | rfl | rfl | rfl <;> decide
theorem Tn.Sm.hr {t : Tn} (h : t.Sm) : ∃ N : Int, t.n = (N : Rat) ∧ 1 ≤ N ∧ N ≤ 16 := by
  have hn : t.n = ((t.w * t.w + (t.x * t.x + t.y * t.y + t.z * t.z) : Int) : Rat) := by
    simp only [Tn.n, Tn.v, V3.dot, Rat.intCast_add, Rat.intCast_mul]
  refine ⟨_, hn, ?_, ?_⟩
  · have a := sq_range h.w
    have b := sq_range h.x
    have c := sq_range h.y
    have d := sq_range h.z
    have e := h.n
    omega
  · have a := sq_range h.w
    have b := sq_range h.x
    have c := sq_range h.y
    have d := sq_range h.z
    omega
theorem Tn.Sm.ok {t : Tn} (h : t.Sm) : t.Ok := by
  obtain ⟨N, e, h1, h2⟩ := h.hr
  refine ⟨int_lv (by have := h.w; omega), ⟨int_lv (by have := h.x; omega), int_lv (by have := h.y; omega), int_lv (by have := h.z; omega)⟩, ?_, ?_, ?_⟩
  · rw [e]
    obtain ⟨k, k1, k2⟩ : ∃ k : Int, N * k = 720720000 ∧ k.natAbs ≤ 720720000 := ⟨720720000 / N, by rcases (show N = 1 ∨ N = 2 ∨ N = 3 ∨ N = 4 ∨ N = 5 ∨ N = 6 ∨ N = 7 ∨ N = 8 ∨ N = 9 ∨ N = 10 ∨ N = 11 ∨ N = 12 ∨ N = 13 ∨ N = 14 ∨ N = 15 ∨ N = 16 by omega) with rfl | rfl | rfl | rfl | rfl | rfl | rfl | rfl | rfl | rfl | rfl | rfl | rfl | rfl | rfl | rfl <;> decide⟩
    exact inv_lv k1 k2
  · rw [e]
    intro z
    have := Rat.intCast_inj.mp (z.trans Rat.intCast_zero.symm)
    omega
  · rw [e, Rat.num_intCast]
    unfold bt
    exact Nat.lt_of_lt_of_le (show N.natAbs < 2 ^ 5 by omega) (Nat.pow_le_pow_right (by omega) (by omega))
theorem fdiv_small {x s : Int} (h : -2 ≤ x ∧ x ≤ 2) (hs : s = 1 ∨ s = -1 ∨ s = 2 ∨ s = -2) : -2 ≤ x.fdiv s ∧ x.fdiv s ≤ 2 := by
  rcases (show x = -2 ∨ x = -1 ∨ x = 0 ∨ x = 1 ∨ x = 2 by omega) with rfl | rfl | rfl | rfl | rfl <;> rcases hs with rfl | rfl | rfl | rfl <;> decide
theorem fdiv_zero {x s : Int} (hs : s ≠ 0) (hd : s ∣ x) (h : x.fdiv s = 0) : x = 0 := by
  have := Int.fdiv_mul_cancel hd
  rw [h] at this
  omega
section
variable {M : Store} {n : Nat}
theorem quad_eq {a b c d : Int} : dEq true (.lst [.int a, .int b, .int c, .int d]) (.lst [.int 0, .int 0, .int 0, .int 0]) M = .ok (.bl (!decide (a = 0 ∧ b = 0 ∧ c = 0 ∧ d = 0))) M := by
  show dEq0 true (.lst [.int a, .int b, .int c, .int d]) (.lst [.int 0, .int 0, .int 0, .int 0]) M = _
  unfold dEq0
  rw [show der M (.lst [.int a, .int b, .int c, .int d]) = some (.lst [.int a, .int b, .int c, .int d]) from rfl, show der M (.lst [.int 0, .int 0, .int 0, .int 0]) = some (.lst [.int 0, .int 0, .int 0, .int 0]) from rfl]
  show (if (okD (.lst [.int a, .int b, .int c, .int d]) 60 && okD (.lst [.int 0, .int 0, .int 0, .int 0]) 60) = true then Res.ok (D.bl (true ^^ eqD (.lst [.int a, .int b, .int c, .int d]) (.lst [.int 0, .int 0, .int 0, .int 0]))) M else .stuck) = _
  rw [if_pos (by simp [okD, okDs])]
  unfold eqD
  simp only [toP, toPs, PySem.PyData.eqv, PySem.PyData.eqvAll, Bool.and_true, Bool.true_bne, Bool.true_xor]
  congr 2
  by_cases h1 : a = 0 <;> by_cases h2 : b = 0 <;> by_cases h3 : c = 0 <;> by_cases h4 : d = 0 <;> simp [h1, h2, h3, h4]
end
end G86

set_option Elab.async false
set_option linter.all false
set_option maxRecDepth 100000
set_option maxHeartbeats 4000000
namespace G86
open DL
def q4 (t : Tn) : D := .lst [.int t.w, .int t.x, .int t.y, .int t.z]
def Tn.g (t : Tn) : Nat := Nat.gcd (Nat.gcd t.w.natAbs t.x.natAbs) (Nat.gcd t.y.natAbs t.z.natAbs)
theorem Tn.Sm.g {t : Tn} (h : t.Sm) : (t.g = 1 ∨ t.g = 2) ∧ t.g ∣ t.w.natAbs ∧ t.g ∣ t.x.natAbs ∧ t.g ∣ t.y.natAbs ∧ t.g ∣ t.z.natAbs := by
  have a : t.g ∣ t.w.natAbs := Nat.dvd_trans (Nat.gcd_dvd_left _ _) (Nat.gcd_dvd_left _ _)
  have b : t.g ∣ t.x.natAbs := Nat.dvd_trans (Nat.gcd_dvd_left _ _) (Nat.gcd_dvd_right _ _)
  have c : t.g ∣ t.y.natAbs := Nat.dvd_trans (Nat.gcd_dvd_right _ _) (Nat.gcd_dvd_left _ _)
  have d : t.g ∣ t.z.natAbs := Nat.dvd_trans (Nat.gcd_dvd_right _ _) (Nat.gcd_dvd_right _ _)
  refine ⟨?_, a, b, c, d⟩
  have k : ∀ i : Int, -2 ≤ i ∧ i ≤ 2 → i ≠ 0 → t.g ∣ i.natAbs → t.g = 1 ∨ t.g = 2 := by
    intro i h1 h2 h3
    have := Nat.le_of_dvd (by omega) h3
    have : t.g ≠ 0 := by
      intro z
      rw [z] at h3
      have := Nat.eq_zero_of_zero_dvd h3
      omega
    omega
  have hn := h.n
  by_cases e1 : t.w = 0
  · by_cases e2 : t.x = 0
    · by_cases e3 : t.y = 0
      · by_cases e4 : t.z = 0
        · exact absurd ⟨e1, e2, e3, e4⟩ hn
        · exact k _ h.z e4 d
      · exact k _ h.y e3 c
    · exact k _ h.x e2 b
  · exact k _ h.w e1 a
def Tn.by (t : Tn) (s : Int) : Tn := ⟨t.w.fdiv s, t.x.fdiv s, t.y.fdiv s, t.z.fdiv s⟩
theorem Tn.Sm.by {t : Tn} {s : Int} (h : t.Sm) (hs : s = (t.g : Int) ∨ s = 0 - (t.g : Int)) : (t.by s).Sm ∧ (s = 1 ∨ s = -1 ∨ s = 2 ∨ s = -2) := by
  obtain ⟨g, a, b, c, d⟩ := h.g
  have hs1 : s = 1 ∨ s = -1 ∨ s = 2 ∨ s = -2 := by omega
  have hs0 : s ≠ 0 := by omega
  have dv : ∀ i : Int, t.g ∣ i.natAbs → s ∣ i := by
    intro i hi
    have : (t.g : Int) ∣ i := Int.ofNat_dvd_left.mpr hi
    rcases hs with rfl | rfl
    · exact this
    · rw [Int.zero_sub]; exact Int.neg_dvd.mpr this
  refine ⟨⟨fdiv_small h.w hs1, fdiv_small h.x hs1, fdiv_small h.y hs1, fdiv_small h.z hs1, ?_⟩, hs1⟩
  rintro ⟨e1, e2, e3, e4⟩
  exact h.n ⟨fdiv_zero hs0 (dv _ a) e1, fdiv_zero hs0 (dv _ b) e2, fdiv_zero hs0 (dv _ c) e3, fdiv_zero hs0 (dv _ d) e4⟩
section
variable {M : Store} {n m : Nat}
theorem turn_ev (hw : Wl n m M) (hm : m ≤ 800000) : Dr n m 4 M (f__law_turn [.loc n] M) (fun d => ∃ t : Tn, d = t.D ∧ t.Sm) := by
  have one : ∀ (M : Store) (k : Nat) (x : Option D), Wl n k M → k ≤ 1000000 → ∃ (i : Int) (M' : Store), (mOp dSub (mDef 2 f__law_draw (mCons (mV 0) (mCons (mC (.int 5)) mNil))) (mC (.int 2))) [some (.loc n), none, none, none, x, none] M = .ok (.int i) M' ∧ (-2 ≤ i ∧ i ≤ 2) ∧ Wl n (k + 1) M' ∧ Up n M M' := by
    intro M k x hk hk2
    obtain ⟨r, M', h1, h2, h3, h4, h5⟩ := draw_ev (size := 5) hk (by omega) (by omega) hk2
    refine ⟨r - 2, M', ?_, by omega, h4, h5⟩
    exact (op_ev ((def_ev (n := 2) (ds := [.loc n, .int 5]) (M1 := M) rfl rfl).trans h1) rfl).trans rfl
  obtain ⟨a, M1, a1, a2, a3, a4⟩ := one M _ (some (.int (0 : Nat))) hw (by omega)
  obtain ⟨b, M2, b1, b2, b3, b4⟩ := one M1 _ (some (.int (1 : Nat))) a3 (by omega)
  obtain ⟨c, M3, c1, c2, c3, c4⟩ := one M2 _ (some (.int (2 : Nat))) b3 (by omega)
  obtain ⟨d, M4, d1, d2, d3, d4⟩ := one M3 _ (some (.int (3 : Nat))) c3 (by omega)
  have up : Up n M M4 := ((a4.trans b4).trans c4).trans d4
  let t : Tn := if a = 0 ∧ b = 0 ∧ c = 0 ∧ d = 0 then ⟨1, 0, 0, 0⟩ else ⟨a, b, c, d⟩
  have ht : t.Sm := by
    by_cases z : a = 0 ∧ b = 0 ∧ c = 0 ∧ d = 0
    · rw [show t = ⟨1, 0, 0, 0⟩ from if_pos z]
      exact ⟨by decide, by decide, by decide, by decide, by decide⟩
    · rw [show t = ⟨a, b, c, d⟩ from if_neg z]
      exact ⟨a2, b2, c2, d2, z⟩
  -- the first element that is not 0
  let nz : Int → Bool := fun x => !decide (x = 0)
  let l : List Int := [t.w, t.x, t.y, t.z]
  have hne : 0 < (l.filter nz).length := by
    rcases Nat.eq_zero_or_pos (l.filter nz).length with z | z
    · exfalso
      have := List.filter_eq_nil_iff.mp (List.length_eq_zero_iff.mp z)
      apply ht.n
      have q : ∀ x ∈ l, x = 0 := fun x hx => by have := this x hx; simpa [nz] using this
      exact ⟨q _ (by simp [l]), q _ (by simp [l]), q _ (by simp [l]), q _ (by simp [l])⟩
    · exact z
  obtain ⟨fd, m1, m2⟩ := at_nat (ds := (l.filter nz).map D.int) (r := 0) (by omega) (by rw [List.length_map]; omega)
  obtain ⟨f0, _, rfl⟩ := @small_in 0 _ _ m1
  let s : Int := if f0 > 0 then (t.g : Int) else 0 - (t.g : Int)
  have hs : s = (t.g : Int) ∨ s = 0 - (t.g : Int) := by
    show (if _ then _ else _) = _ ∨ (if _ then _ else _) = _
    by_cases z : f0 > 0 <;> simp [z]
  obtain ⟨hb, hs1⟩ := ht.by hs
  have dv : divOk s = true := by rcases hs1 with h | h | h | h <;> rw [h] <;> decide
  refine ⟨(t.by s).D, M4, ?_, ⟨_, rfl, hb⟩, d3.more, up⟩
  refine run_up (ρ1 := [some (.loc n), some (q4 t), some (.int (t.g : Int)), some (.int f0), none, none]) rfl ?_ (by simp [Tn.D]) up
  unfold m__law_turn
  rw [seq_nx (M1 := M4) (ρ1 := [some (.loc n), some (q4 ⟨a, b, c, d⟩), none, none, none, none]) (by
    have lc : mLcGo (bName 4) mYes (mOp dSub (mDef 2 f__law_draw (mCons (mV 0) (mCons (mC (.int 5)) mNil))) (mC (.int 2))) [.int (0 : Nat), .int (1 : Nat), .int (2 : Nat), .int (3 : Nat)] [some (.loc n), none, none, none, none, none] M = .ok [.int a, .int b, .int c, .int d] M4 := by
      simp only [mLcGo, s_bName, s_bind, s_mYes, if_true, List.set_cons_succ, List.set_cons_zero]
      rw [a1]
      simp only [s_bind]
      rw [b1]
      simp only [s_bind]
      rw [c1]
      simp only [s_bind]
      rw [d1]
      rfl
    exact asg_ev ((mLc_ev (xs := [.int (0 : Nat), .int (1 : Nat), .int (2 : Nat), .int (3 : Nat)]) (M1 := M) (M2 := M4) rfl (by show 4 ≤ _; omega) lc).trans (s_newLst (by show 4 ≤ _; omega))))]
  rw [seq_nx (M1 := M4) (ρ1 := [some (.loc n), some (q4 t), none, none, none, none]) (by
    have tt : mTst (mOp (dEq true) (mV 1) (mLst newLst (mCons (mC (.int 0)) (mCons (mC (.int 0)) (mCons (mC (.int 0)) (mCons (mC (.int 0)) mNil)))))) [some (.loc n), some (q4 ⟨a, b, c, d⟩), none, none, none, none] M4 = .ok (!decide (a = 0 ∧ b = 0 ∧ c = 0 ∧ d = 0)) M4 :=
      tst_ev ((op_ev rfl ((lst_ev (ds := [.int 0, .int 0, .int 0, .int 0]) (M1 := M4) rfl).trans (s_newLst (by show 4 ≤ _; omega)))).trans quad_eq)
    refine asg_ev (d := q4 t) ?_
    by_cases z : a = 0 ∧ b = 0 ∧ c = 0 ∧ d = 0
    · rw [show t = ⟨1, 0, 0, 0⟩ from if_pos z]
      refine (mif_no (M1 := M4) (tt.trans (by simp [z]))).trans ?_
      exact (lst_ev (ds := [.int 1, .int 0, .int 0, .int 0]) (M1 := M4) rfl).trans (s_newLst (by show 4 ≤ _; omega))
    · rw [show t = ⟨a, b, c, d⟩ from if_neg z]
      exact (mif_yes (M1 := M4) (tt.trans (by simp [z]))).trans rfl)]
  rw [seq_nx (M1 := M4) (ρ1 := [some (.loc n), some (q4 t), some (.int (t.g : Int)), none, none, none]) (by
    refine asg_ev (d := .int (t.g : Int)) ?_
    have g1 : mDef 2 f__law_gcd (mCons (mOp dIx (mV 1) (mC (.int 0))) (mCons (mOp dIx (mV 1) (mC (.int 1))) mNil)) [some (.loc n), some (q4 t), none, none, none, none] M4 = .ok (.int (Nat.gcd t.w.natAbs t.x.natAbs : Nat)) M4 :=
      (def_ev (n := 2) (ds := [.int t.w, .int t.x]) (M1 := M4) rfl rfl).trans lgcd_ev
    have g2 : mDef 2 f__law_gcd (mCons (mOp dIx (mV 1) (mC (.int 2))) (mCons (mOp dIx (mV 1) (mC (.int 3))) mNil)) [some (.loc n), some (q4 t), none, none, none, none] M4 = .ok (.int (Nat.gcd t.y.natAbs t.z.natAbs : Nat)) M4 :=
      (def_ev (n := 2) (ds := [.int t.y, .int t.z]) (M1 := M4) rfl rfl).trans lgcd_ev
    exact (def_ev (cons_ev g1 (one_ev g2)) rfl).trans lgcd_ev)]
  rw [seq_nx (M1 := M4) (ρ1 := [some (.loc n), some (q4 t), some (.int (t.g : Int)), some (.int f0), none, none]) (by
    refine asg_ev (d := .int f0) ?_
    have lc : mLcGo (bName 5) (mTst (mOp (dEq true) (mV 5) (mC (.int 0)))) (mV 5) (l.map D.int) [some (.loc n), some (q4 t), some (.int (t.g : Int)), none, none, none] M4 = .ok ((l.filter nz).map D.int) M4 := by
      refine lc_map (t := nz) (e := D.int) ?_
      intro x _
      exact ⟨[some (.loc n), some (q4 t), some (.int (t.g : Int)), none, none, some (.int x)], rfl, tst_ev ((op_ev rfl rfl).trans (eq_int.trans (by simp [nz]))), fun _ => rfl⟩
    refine (op_ev ((mLc_ev (xs := l.map D.int) (M1 := M4) (M2 := M4) rfl (by show 4 ≤ _; omega) lc).trans (s_newLst (by
      rw [List.length_map]
      have := List.length_filter_le nz l
      have : l.length = 4 := rfl
      omega))) rfl).trans ?_
    show (match L2.atI ((l.filter nz).map D.int) 0 with | some x => Res.ok x M4 | none => .stuck) = _
    rw [m2])]
  have lc2 : mLcGo (bName 5) mYes (mOp dFdiv (mV 5) (mIf (mTst (mOp dGt (mV 3) (mC (.int 0)))) (mV 2) (mOp dSub (mC (.int 0)) (mV 2)))) (l.map D.int) [some (.loc n), some (q4 t), some (.int (t.g : Int)), some (.int f0), none, none] M4 = .ok ((l.filter fun _ => true).map fun x : Int => D.int (x.fdiv s)) M4 := by
    refine lc_map (t := fun _ => true) (e := fun x : Int => D.int (x.fdiv s)) ?_
    intro x _
    refine ⟨[some (.loc n), some (q4 t), some (.int (t.g : Int)), some (.int f0), none, some (.int x)], rfl, rfl, fun _ => ?_⟩
    refine (op_ev (y := .int s) (M2 := M4) rfl ?_).trans (div_ok dv)
    have tt : mTst (mOp dGt (mV 3) (mC (.int 0))) [some (.loc n), some (q4 t), some (.int (t.g : Int)), some (.int f0), none, some (.int x)] M4 = .ok (decide (f0 > 0)) M4 := tst_ev ((op_ev rfl rfl).trans rfl)
    by_cases z : f0 > 0
    · rw [show s = (t.g : Int) from if_pos z]
      exact (mif_yes (M1 := M4) (tt.trans (by simp [z]))).trans rfl
    · rw [show s = 0 - (t.g : Int) from if_neg z]
      exact (mif_no (M1 := M4) (tt.trans (by simp [z]))).trans ((op_ev rfl rfl).trans rfl)
  refine ret_ev ((call_ev (one_ev ((mLc_ev (xs := l.map D.int) (M1 := M4) (M2 := M4) rfl (by show 4 ≤ _; omega) lc2).trans (s_newLst (by show 4 ≤ _; omega))))).trans ?_)
  exact s_newTup (by show 4 ≤ _; omega)
end
end G86

set_option Elab.async false
set_option linter.all false
set_option maxRecDepth 100000
set_option maxHeartbeats 4000000
namespace G86
open DL
/-- a store with one cell more: the k-th, with points; the n-th is the well -/
structure St (n m k : Nat) (M0 M : Store) (ps : List V3) : Prop where
  w : Wl n m M
  len : M.length = k + 1
  cell : M[k]? = some (some (ps.map tD))
  same : ∀ i, i ≠ n → i < k → M[i]? = M0[i]?
theorem St.up {n m m' k : Nat} {M0 M M' : Store} {ps : List V3} (h : St n m k M0 M ps) (hn : n < k) (w : Wl n m' M') (u : Up n M M') : St n m' k M0 M' ps :=
  ⟨w, u.len.trans h.len, (u.same k (by omega)).trans h.cell, fun i hi hk => (u.same i hi).trans (h.same i hi hk)⟩
theorem St.end {n m k : Nat} {M0 M : Store} {ps : List V3} (h : St n m k M0 M ps) (hn : n < k) (hk : M0.length = k) : Wl n m (M.take k) ∧ Up n M0 (M.take k) := by
  constructor
  · obtain ⟨a, b, c, d, h1, h2⟩ := h.w
    exact ⟨a, b, c, d, by rw [List.getElem?_take_of_lt hn]; exact h1, h2⟩
  · refine ⟨by rw [List.length_take, h.len]; omega, fun i hi => ?_⟩
    rcases Nat.lt_or_ge i k with z | z
    · rw [List.getElem?_take_of_lt z]; exact h.same i hi z
    · rw [List.getElem?_eq_none (by rw [List.length_take]; omega), List.getElem?_eq_none (by omega)]
theorem free_tDs {ps : List V3} : locFrees (ps.map tD) = true := frees_map (fun _ => free_tD) ps
theorem St.app {n m k : Nat} {M0 M : Store} {ps : List V3} {p : V3} (h : St n m k M0 M ps) (hn : n < k) (hl : ps.length < 1000) : appAt M k (tD p) = some (M.set k (some ((ps ++ [p]).map tD))) ∧ St n m k M0 (M.set k (some ((ps ++ [p]).map tD))) (ps ++ [p]) := by
  constructor
  · unfold appAt
    rw [cell_of h.cell]
    show (if _ then _ else _) = _
    rw [if_pos ⟨free_tD, by rw [List.length_map]; omega⟩, List.map_append]
    rfl
  · refine ⟨?_, by rw [List.length_set]; exact h.len, set_at h.cell, fun i hi hk => ?_⟩
    · obtain ⟨a, b, c, d, h1, h2⟩ := h.w
      exact ⟨a, b, c, d, by rw [List.getElem?_set_ne (by omega)]; exact h1, h2⟩
    · rw [List.getElem?_set_ne (by omega)]; exact h.same i hi hk
section
variable {M : Store} {n m : Nat}
theorem len_loc {k : Nat} {ds : List D} (h : M[k]? = some (some ds)) : cLen [.loc k] M = .ok (.int ds.length) M := by
  show (match cellAt M k with | some xs => Res.ok (D.int xs.length) M | none => .stuck) = _
  rw [cell_of h]
theorem pickL_ev {k : Nat} {ds : List D} (hw : Wl n m M) (hk : k ≠ n) (h : M[k]? = some (some ds)) (hd : 0 < ds.length) (hd2 : ds.length < 1000) (hf : locFrees ds = true) (hm : m ≤ 1000000) : Dr n m 1 M (f__law_pick [.loc n, .loc k] M) (fun d => d ∈ ds) := by
  obtain ⟨r, M1, h1, h2, h3, h4, h5⟩ := draw_ev (size := ds.length) hw (by omega) (by omega) hm
  obtain ⟨d, hd1, hd2⟩ := at_nat h2 h3
  refine ⟨d, M1, ?_, hd1, h4, h5⟩
  refine run_up (ρ1 := [some (.loc n), some (.loc k)]) rfl ?_ (locFrees_iff.mp hf d hd1) h5
  unfold m__law_pick
  refine ret_ev ((op_ev (x := .loc k) (M1 := M) rfl ((def_ev (n := 2) (ds := [.loc n, .int (ds.length : Nat)]) (M1 := M) (cons_ev rfl (one_ev ((call_ev (ds := [.loc k]) (M1 := M) rfl).trans (len_loc h)))) rfl).trans h1)).trans ?_)
  show (match cellAt M1 k with | some xs => (match L2.atI xs r with | some x => Res.ok x M1 | none => .stuck) | none => .stuck) = _
  rw [cell_of ((h5.same k hk).trans h)]
  show (match L2.atI ds r with | some x => Res.ok x M1 | none => .stuck) = _
  rw [hd2]
theorem app_ev {o e : DE} {ρ : Sl} {M2 M3 : Store} {k : Nat} {d : D} {ds : List D} (ho : o ρ M = .ok (.loc k) M) (hc : cellAt M k = some ds) (he : e ρ M = .ok d M2) (ha : appAt M2 k d = some M3) : mApp o e ρ M = .ok (.nx, ρ) M3 := by
  unfold mApp
  rw [ho]
  simp only [s_bind, hc, Option.isSome_some, if_true, he, ha]
abbrev bρ (n k : Nat) (s : Int) (a w : V3) (x : Option D) : Sl := [some (.loc n), some (.int s), some (tD a), some (tD w), some (.loc k), x, none, none]
theorem body_loop {M0 : Store} {k : Nat} {s : Int} {a w : V3} (hn : n < k) : ∀ (xs : List D) (m : Nat) (ps : List V3) (M : Store) (x : Option D), St n m k M0 M ps → (∀ p ∈ ps, pp p) → 0 < ps.length → ps.length + xs.length ≤ 100 → m + 6 * xs.length ≤ 800000 → ∃ (qs : List V3) (M' : Store) (x' : Option D),
    mForGo (bName 5) (mApp (mV 4) (mIf (mTst (mOp (dEq false) (mDef 2 f__law_draw (mCons (mV 0) (mCons (mC (.int 4)) mNil))) (mC (.int 0)))) (mDef 2 f__law_pick (mCons (mV 0) (mCons (mV 4) mNil))) (mDef 1 f__law_spot (mCons (mV 0) mNil)))) xs (bρ n k s a w x) M = .ok (.nx, bρ n k s a w x') M' ∧ St n (m + 6 * xs.length) k M0 M' (ps ++ qs) ∧ qs.length = xs.length ∧ ∀ p ∈ ps ++ qs, pp p
  | [], m, ps, M, x, h, hp, h0, h1, h2 => ⟨[], M, x, for_nil, by rw [List.append_nil]; exact h, rfl, by rw [List.append_nil]; exact hp⟩
  | y :: xs, m, ps, M, x, h, hp, h0, h1, h2 => by
    rw [List.length_cons] at h1 h2
    obtain ⟨r, M1, f1, f2, f3, f4, f5⟩ := draw_ev (size := 4) h.w (by decide) (by decide) (by omega)
    have s1 := h.up hn f4 f5
    have tt : mTst (mOp (dEq false) (mDef 2 f__law_draw (mCons (mV 0) (mCons (mC (.int 4)) mNil))) (mC (.int 0))) (bρ n k s a w (some y)) M = .ok (decide (r = 0)) M1 :=
      tst_ev ((op_ev ((def_ev (n := 2) (ds := [.loc n, .int 4]) (M1 := M) rfl rfl).trans f1) rfl).trans (eq_int.trans (by simp)))
    obtain ⟨p, M2, hp1, hp2, s2⟩ : ∃ (p : V3) (M2 : Store), mIf (mTst (mOp (dEq false) (mDef 2 f__law_draw (mCons (mV 0) (mCons (mC (.int 4)) mNil))) (mC (.int 0)))) (mDef 2 f__law_pick (mCons (mV 0) (mCons (mV 4) mNil))) (mDef 1 f__law_spot (mCons (mV 0) mNil)) (bρ n k s a w (some y)) M = .ok (tD p) M2 ∧ pp p ∧ St n (m + 6) k M0 M2 ps := by
      by_cases z : r = 0
      · obtain ⟨d, M2, e1, e2, e3, e4⟩ := pickL_ev (k := k) (ds := ps.map tD) f4 (by omega) s1.cell (by rw [List.length_map]; exact h0) (by rw [List.length_map]; omega) free_tDs (by omega)
        obtain ⟨p, q1, rfl⟩ := List.mem_map.mp e2
        refine ⟨p, M2, ?_, hp p q1, s1.up hn e3.more e4⟩
        exact (mif_yes (M1 := M1) (tt.trans (by simp [z]))).trans ((def_ev (n := 2) (ds := [.loc n, .loc k]) (M1 := M1) rfl rfl).trans e1)
      · obtain ⟨d, M2, e1, ⟨p, rfl, e2⟩, e3, e4⟩ := spot_ev f4 (by omega)
        refine ⟨p, M2, ?_, spo_pp e2, s1.up hn e3.more e4⟩
        exact (mif_no (M1 := M1) (tt.trans (by simp [z]))).trans ((def_ev (n := 1) (ds := [.loc n]) (M1 := M1) rfl rfl).trans e1)
    obtain ⟨a1, s3⟩ := s2.app (p := p) hn (by omega)
    have hq : ∀ q ∈ ps ++ [p], pp q := by
      intro q hq
      rcases List.mem_append.mp hq with c | c
      · exact hp q c
      · rw [List.mem_singleton.mp c]; exact hp2
    obtain ⟨qs, M', x', g1, g2, g3, g4⟩ := body_loop (s := s) (a := a) (w := w) hn xs (m + 6) (ps ++ [p]) _ (some y) s3 hq (by rw [List.length_append]; omega) (by rw [List.length_append, List.length_singleton]; omega) (by omega)
    refine ⟨p :: qs, M', x', ?_, ?_, by rw [List.length_cons, List.length_cons, g3], ?_⟩
    · refine (for_cons (ρ1 := bρ n k s a w (some y)) (M1 := M) rfl ?_).trans g1
      exact app_ev rfl (cell_of h.cell) hp1 a1
    · rw [List.append_assoc] at g2
      rw [List.length_cons, show m + 6 * (xs.length + 1) = m + 6 + 6 * xs.length by omega]
      exact g2
    · rw [List.append_assoc] at g4
      exact g4
end
end G86

set_option Elab.async false
set_option linter.all false
set_option maxRecDepth 100000
set_option maxHeartbeats 4000000
namespace G86
open DL
theorem new_at {M : Store} {k : Nat} {xs : List D} (hk : M.length = k) (h : xs.length ≤ 16777216) (hf : locFrees xs = true) : newLoc xs M = .ok (.loc k) (M ++ [some xs]) := by
  subst hk; exact s_newLoc h hf
theorem St.new {n m k : Nat} {M : Store} {ps : List V3} (hw : Wl n m M) (hk : M.length = k) (hn : n < k) : St n m k M (M ++ [some (ps.map tD)]) ps := by
  subst hk
  refine ⟨?_, by simp, by simp, fun i hi hl => List.getElem?_append_left hl⟩
  obtain ⟨a, b, c, d, h1, h2⟩ := hw
  exact ⟨a, b, c, d, by rw [List.getElem?_append_left hn]; exact h1, h2⟩
theorem Wl.lt {n m : Nat} {M : Store} (h : Wl n m M) : n < M.length := by
  obtain ⟨a, b, c, d, h1, _⟩ := h
  rcases Nat.lt_or_ge n M.length with z | z
  · exact z
  · rw [List.getElem?_eq_none z] at h1; cases h1
section
variable {M : Store} {n m : Nat}
theorem sl_lo {k : Nat} {ds : List D} {ρ : Sl} {i : Nat} {v : Nat} {j : Nat} (h0 : ρ[v]? = some (some (.loc k))) (h1 : ρ[i]? = some (some (.int (j : Nat)))) (hc : M[k]? = some (some ds)) (hl : ds.length ≤ 1000) : mSl newLst (mV v) (mPart (mV i)) mNoP ρ M = .ok (.lst (ds.drop j)) M := by
  unfold mSl mPart mNoP
  rw [s_mV h0, s_bind, s_mV h1]
  show (match cellAt M k with | some xs => newLst (cutD xs (some (j : Int)) none) M | none => .stuck) = _
  rw [cell_of hc]
  show newLst (cutD ds (some (j : Int)) none) M = _
  rw [cut_drop]
  exact s_newLst (by rw [List.length_drop]; omega)
theorem sl_hi {k : Nat} {ds : List D} {ρ : Sl} {i : Nat} {v : Nat} {j : Nat} (h0 : ρ[v]? = some (some (.loc k))) (h1 : ρ[i]? = some (some (.int (j : Nat)))) (hc : M[k]? = some (some ds)) (hl : ds.length ≤ 1000) : mSl newLst (mV v) mNoP (mPart (mV i)) ρ M = .ok (.lst (ds.take j)) M := by
  unfold mSl mPart mNoP
  rw [s_mV h0, s_bind, s_bind, s_mV h1]
  show (match cellAt M k with | some xs => newLst (cutD xs none (some (j : Int))) M | none => .stuck) = _
  rw [cell_of hc]
  show newLst (cutD ds none (some (j : Int))) M = _
  rw [cut_take]
  exact s_newLst (by rw [List.length_take]; omega)
theorem amounts {x1 x2 x3 x4 x5 x6 x7 : Option D} : ∀ (ps : List V3) (m : Nat) (M : Store), Wl n m M → m + 3 * ps.length ≤ 800000 → ∃ (l : Bod) (M' : Store),
    mLcGo (bName 7) mYes (mTup (mCons (mV 7) (mCons (mDef 1 f__law_amount (mCons (mV 0) mNil)) mNil))) (ps.map tD) [some (.loc n), x1, x2, x3, x4, x5, x6, x7] M = .ok (l.map pD) M' ∧ l.map (·.1) = ps ∧ (∀ p ∈ l, mas p.2) ∧ Wl n (m + 3 * ps.length) M' ∧ Up n M M'
  | [], m, M, h, _ => ⟨[], M, rfl, rfl, (fun p hp => nomatch hp), h, Up.refl⟩
  | p :: ps, m, M, h, h2 => by
    rw [List.length_cons] at h2
    obtain ⟨d, M1, e1, ⟨q, rfl, hq⟩, w1, u1⟩ := amount_ev h (by omega)
    obtain ⟨l, M', g1, g2, g3, g4, g5⟩ := amounts (x1 := x1) (x2 := x2) (x3 := x3) (x4 := x4) (x5 := x5) (x6 := x6) (x7 := x7) ps (m + 3) M1 w1 (by omega)
    refine ⟨(p, q) :: l, M', ?_, by rw [List.map_cons, g2], ?_, by rw [List.length_cons, show m + 3 * (ps.length + 1) = m + 3 + 3 * ps.length by omega]; exact g4, u1.trans g5⟩
    · have el : mTup (mCons (mV 7) (mCons (mDef 1 f__law_amount (mCons (mV 0) mNil)) mNil)) [some (.loc n), x1, x2, x3, x4, x5, x6, some (tD p)] M = .ok (pD (p, q)) M1 :=
        (tup_ev (cons_ev rfl (one_ev ((def_ev (n := 1) (ds := [.loc n]) (M1 := M) rfl rfl).trans e1)))).trans (s_newTup (by show 2 ≤ _; omega))
      rw [List.map_cons, mLcGo]
      simp only [s_bName, s_bind, s_mYes, if_true, List.set_cons_succ, List.set_cons_zero]
      rw [el]
      simp only [s_bind]
      rw [g1]
      rfl
    · intro z hz
      rcases List.mem_cons.mp hz with rfl | hz
      · exact hq
      · exact g3 z hz
theorem add_sub (p a : V3) : (p.add a).sub p = a := by
  refine V3.ext' ?_ ?_ ?_ <;> simp only [V3.add, V3.sub] <;> grind
theorem range_ev {a : DE} {ρ : Sl} {M1 : Store} {r : Int} (h : a ρ M = .ok (.int r) M1) (h0 : 0 ≤ r) (h1 : r < 1000) : itR1 (mCons a mNil) ρ M = .ok ((List.range r.toNat).map fun i => .int (i : Nat)) M1 := by
  unfold itR1
  rw [one_ev h]
  show (if _ then _ else _) = _
  exact if_pos ⟨by omega, by omega⟩
theorem body_ev {s : Int} (hw : Wl n m M) (hs : 3 ≤ s) (hs2 : s ≤ 8) (hm : m ≤ 700000) : Dr n m 100 M (f__law_body [.loc n, .int s] M) (fun d => ∃ l, d = bD l ∧ Good 2 l ∧ ∀ p ∈ l, mas p.2 ∧ lt3 6 10 p.1) := by
  have hn := hw.lt
  obtain ⟨d, M1, e1, ⟨p, rfl, hp⟩, w1, u1⟩ := spot_ev hw (by omega)
  obtain ⟨d, M2, e2, ⟨a, rfl, ha, hz⟩, w2, u2⟩ := way_ev w1 (by omega)
  obtain ⟨d, M3, e3, ⟨w, rfl, hw3, hc⟩, w3, u3⟩ := other_way_ev w2 (by omega) hz ha
  have lp := spo_lw hp
  have la := spo_lw ha
  have lww := spo_lw hw3
  have p1 := fun M : Store => lplus_ev (M := M) lp la
  have p2 := fun M : Store => lplus_ev (M := M) lp lww
  have u03 := (u1.trans u2).trans u3
  have hk3 : M3.length = M.length := u03.len
  let ps : List V3 := [p, p.add a, p.add w]
  have st0 := St.new (ps := ps) w3 hk3 hn
  have ps2 : ∀ q ∈ ps, pp q := by
    intro q hq
    simp only [ps, List.mem_cons, List.not_mem_nil, or_false] at hq
    rcases hq with rfl | rfl | rfl
    · exact spo_pp hp
    · exact spo_pp2 hp ha
    · exact spo_pp2 hp hw3
  obtain ⟨r, M4, f1, f2, f3, f4, f5⟩ := draw_ev (size := s - 2) st0.w (by omega) (by omega) (by omega)
  have st1 := st0.up hn f4 f5
  have hxs : ((List.range r.toNat).map fun i => D.int (i : Nat)).length = r.toNat := by rw [List.length_map, List.length_range]
  obtain ⟨qs, M5, x5, g1, g2, g3, g4⟩ := body_loop (s := s) (a := p) (w := a) hn ((List.range r.toNat).map fun i => D.int (i : Nat)) _ ps M4 none st1 ps2 (by show 0 < 3; decide) (by rw [hxs]; show 3 + _ ≤ _; omega) (by rw [hxs]; omega)
  rw [hxs] at g2 g3
  have hlen : (ps ++ qs).length = 3 + r.toNat := by rw [List.length_append, g3]; rfl
  have hlen2 : ((ps ++ qs).map tD).length = 3 + r.toNat := by rw [List.length_map, hlen]
  obtain ⟨j, M6, j1, j2, j3, j4, j5⟩ := draw_ev (size := (((ps ++ qs).map tD).length : Nat)) g2.w (by omega) (by omega) (by omega)
  have st2 := g2.up hn j4 j5
  obtain ⟨j, rfl⟩ : ∃ i : Nat, j = (i : Int) := ⟨j.toNat, by omega⟩
  let rs : List V3 := (ps ++ qs).drop j ++ (ps ++ qs).take j
  have mem : ∀ q, q ∈ rs ↔ q ∈ ps ++ qs := by
    intro q
    show q ∈ List.drop j (ps ++ qs) ++ List.take j (ps ++ qs) ↔ _
    rw [List.mem_append, or_comm, ← List.mem_append, List.take_append_drop]
  have rlen : rs.length = 3 + r.toNat := by
    show (List.drop j (ps ++ qs) ++ List.take j (ps ++ qs)).length = _
    rw [List.length_append, Nat.add_comm, ← List.length_append, List.take_append_drop, hlen]
  obtain ⟨l, M7, k1, k2, k3, k4, k5⟩ := amounts (n := n) (x1 := some (.int s)) (x2 := some (tD p)) (x3 := some (tD a)) (x4 := some (.loc M.length)) (x5 := x5) (x6 := some (.int (j : Nat))) (x7 := none) rs _ M6 j4 (by rw [rlen]; omega)
  have st3 := st2.up hn k4 k5
  obtain ⟨z1, z2⟩ := st3.end hn hk3
  have llen : l.length = 3 + r.toNat := by rw [← rlen, ← k2, List.length_map]
  have hin : ∀ q ∈ l, q.1 ∈ rs := fun q hq => by rw [← k2]; exact List.mem_map.mpr ⟨q, hq, rfl⟩
  have good : Good 2 l := by
    refine ⟨fun q hq => ⟨(g4 q.1 ((mem _).mp (hin q hq))).1, (mas_lv (k3 q hq)).mono⟩, by omega, by omega, fun q hq => mas_pos (k3 q hq), ?_⟩
    · rw [k2]
      refine ⟨p, p.add a, p.add w, (mem _).mpr (by simp [ps]), (mem _).mpr (by simp [ps]), (mem _).mpr (by simp [ps]), ?_⟩
      rw [add_sub, add_sub]
      exact fun z => hc (cross_anti _ _ z)
  refine ⟨bD l, M7.take M.length, ?_, ⟨l, rfl, good, fun q hq => ⟨k3 q hq, (g4 q.1 ((mem _).mp (hin q hq))).2⟩⟩, z1.more (by have := rlen; omega), u03.trans z2⟩
  refine run_rt' (M1 := M7) (ρ1 := [some (.loc n), some (.int s), some (tD p), some (tD a), some (.loc M.length), x5, some (.int (j : Nat)), none]) rfl ?_ free_bD
  unfold m__law_body
  rw [seq_nx (M1 := M2) (ρ1 := [some (.loc n), some (.int s), some (tD p), some (tD a), none, none, none, none]) (by
    unfold mPar2
    rw [cons_ev (M1 := M1) ((def_ev (n := 1) (ds := [.loc n]) (M1 := M) rfl rfl).trans e1) (one_ev ((def_ev (n := 1) (ds := [.loc n]) (M1 := M1) rfl rfl).trans e2))]
    rfl)]
  rw [seq_nx (M1 := M3 ++ [some (ps.map tD)]) (ρ1 := bρ n M.length s p a none) (by
    refine asg_ev (d := .loc M.length) ?_
    exact (lst_ev (ds := ps.map tD) (M1 := M3) (cons_ev rfl (cons_ev ((def_ev (n := 2) (ds := [tD p, tD a]) (M1 := M2) rfl rfl).trans (p1 M2)) (one_ev ((def_ev (n := 2) (ds := [tD p, tD w]) (M1 := M3) (cons_ev rfl (one_ev ((def_ev (n := 2) (ds := [.loc n, tD a]) (M1 := M2) rfl rfl).trans e3))) rfl).trans (p2 M3)))))).trans (new_at hk3 (by show 3 ≤ _; omega) free_tDs))]
  rw [seq_nx (M1 := M5) (ρ1 := bρ n M.length s p a x5) (by
    exact (for_ev (range_ev ((def_ev (n := 2) (ds := [.loc n, .int (s - 2)]) (M1 := M3 ++ [some (ps.map tD)]) (cons_ev rfl (one_ev ((op_ev rfl rfl).trans rfl))) rfl).trans f1) f2 (by omega))).trans g1)]
  rw [seq_nx (M1 := M6) (ρ1 := [some (.loc n), some (.int s), some (tD p), some (tD a), some (.loc M.length), x5, some (.int (j : Nat)), none]) (by
    refine asg_ev (d := .int (j : Nat)) ?_
    exact (def_ev (n := 2) (M1 := M5) (cons_ev rfl (one_ev ((call_ev (ds := [.loc M.length]) (M1 := M5) rfl).trans (len_loc g2.cell)))) rfl).trans j1)]
  have it : itSeq (mOp (dAdd newLst) (mSl newLst (mV 4) (mPart (mV 6)) mNoP) (mSl newLst (mV 4) mNoP (mPart (mV 6)))) [some (.loc n), some (.int s), some (tD p), some (tD a), some (.loc M.length), x5, some (.int (j : Nat)), none] M6 = .ok (rs.map tD) M6 := by
    unfold itSeq
    rw [op_ev (sl_lo (k := M.length) (j := j) rfl rfl st2.cell (by omega)) (sl_hi (k := M.length) (j := j) rfl rfl st2.cell (by omega))]
    show (Res.bind (if (((ps ++ qs).map tD).drop j).length + (((ps ++ qs).map tD).take j).length ≤ 16777216 then newLst (((ps ++ qs).map tD).drop j ++ ((ps ++ qs).map tD).take j) M6 else .stuck) _) = _
    rw [if_pos (by rw [List.length_drop, List.length_take]; omega), s_newLst (by rw [List.length_append, List.length_drop, List.length_take]; omega)]
    show Res.ok (((ps ++ qs).map tD).drop j ++ ((ps ++ qs).map tD).take j) M6 = _
    rw [show rs.map tD = ((ps ++ qs).map tD).drop j ++ ((ps ++ qs).map tD).take j by rw [List.map_append, List.map_drop, List.map_take]]
  refine ret_ev ((call_ev (one_ev ((mLc_ev (xs := rs.map tD) (M1 := M6) (M2 := M7) it (by rw [List.length_map]; omega) k1).trans (s_newLst (by rw [List.length_map]; omega))))).trans ?_)
  exact s_newTup (by rw [List.length_map]; omega)
end
end G86

set_option Elab.async false
set_option linter.all false
set_option maxRecDepth 100000
set_option maxHeartbeats 4000000
namespace G86
open DL
section
variable {M : Store}
theorem mod_ok {i j : Int} {M : Store} (h : j ≠ 0) : dMod (.int i) (.int j) M = .ok (.int (i.fmod j)) M := if_neg h
theorem pow_ok : dPow (.int 10) (.int 18) M = .ok (.int (10 ^ 18)) M := by
  show (if (0 : Int) ≤ 18 ∧ (18 : Int) ≤ 1000 ∧ (10 : Int).natAbs < 1000000000 then Res.ok (D.int (10 ^ (18 : Int).toNat)) M else .stuck) = _
  rw [if_pos (by decide)]
  rfl
theorem ints_map : ∀ ns : List Int, intsOf (ns.map D.int) = some ns
  | [] => rfl
  | x :: ns => by
    rw [List.map_cons, intsOf, ints_map ns]
    rfl
theorem well_loop {x0 x1 x2 : Option D} : ∀ (xs : List Int) (z : Int) (x4 : Option D), 0 ≤ z → z < 2147483648 → ∃ z' x4', mForGo (bName 4) (mAsg (mOp dMod (mCall cInt (mCons (mOp (dAdd newLst) (mOp (dAdd newLst) (mOp (dMul newLst) (mV 3) (mC (.int 69069))) (mOp dMod (mCall cInt (mCons (mV 4) mNil)) (mC (.int 2147483563)))) (mC (.int 11))) mNil)) (mC (.int 2147483629))) (bName 3)) (xs.map D.int) [x0, x1, x2, some (.int z), x4] M = .ok (.nx, [x0, x1, x2, some (.int z'), x4']) M ∧ 0 ≤ z' ∧ z' < 2147483648
  | [], z, x4, h0, h1 => ⟨z, x4, for_nil, h0, h1⟩
  | x :: xs, z, x4, h0, h1 => by
    let z1 := (z * 69069 + x.fmod 2147483563 + 11).fmod 2147483629
    have b0 : 0 ≤ z1 := Int.fmod_nonneg_of_pos _ (by decide)
    have b1 : z1 < 2147483629 := Int.fmod_lt_of_pos _ (by decide)
    obtain ⟨z', x4', g1, g2, g3⟩ := well_loop (x0 := x0) (x1 := x1) (x2 := x2) xs z1 (some (.int x)) b0 (by omega)
    refine ⟨z', x4', ?_, g2, g3⟩
    have mo : mulOk z 69069 = true := (show bt 40 z by unfold bt; omega).mk (show bt 20 69069 by unfold bt; decide)
    have v1 : mOp (dMul newLst) (mV 3) (mC (.int 69069)) [x0, x1, x2, some (.int z), some (.int x)] M = .ok (.int (z * 69069)) M := (op_ev rfl rfl).trans (mul_ok mo)
    have v2 : mOp dMod (mCall cInt (mCons (mV 4) mNil)) (mC (.int 2147483563)) [x0, x1, x2, some (.int z), some (.int x)] M = .ok (.int (x.fmod 2147483563)) M := (op_ev (int_ev rfl) rfl).trans (mod_ok (by decide))
    rw [List.map_cons]
    refine (for_cons (ρ1 := [x0, x1, x2, some (.int z), some (.int x)]) (M1 := M) (ρ2 := [x0, x1, x2, some (.int z1), some (.int x)]) (M2 := M) rfl ?_).trans g1
    exact asg_ev ((op_ev (int_ev ((op_ev ((op_ev v1 v2).trans rfl) rfl).trans rfl)) rfl).trans (mod_ok (by decide)))
theorem well_ev {ns : List Int} {i : Int} (hl : ns.length ≤ 63) (h0 : 0 ≤ i) (h1 : i < 3) : ∃ M', f__law_well [.rol (ns.map D.int), .int i] M = .ok (.loc M.length) M' ∧ M'.length = M.length + 1 ∧ Wl M.length 1 M' ∧ M'.take M.length = M := by
  have v2 : ∃ y : Int, (mIf (mTst (mOp dLt (mV 1) (mCall cLen (mCons (mV 0) mNil)))) (mCall cInt (mCons (mOp dIx (mV 0) (mV 1)) mNil)) (mOp (dAdd newLst) (mOp (dAdd newLst) (mOp (dMul newLst) (mC (.int 7919)) (mV 1)) (mC (.int 31))) (mOp dMod (mCall cInt (mCons (mCall cSum (mCons (mSl newLst (mV 0) mNoP (mPart (mC (.int 2)))) mNil)) mNil)) (mC (.int 1000003))))) (sl0 5 [.rol (ns.map D.int), .int i]) M = .ok (.int y) M := by
    have tt : mTst (mOp dLt (mV 1) (mCall cLen (mCons (mV 0) mNil))) (sl0 5 [.rol (ns.map D.int), .int i]) M = .ok (decide (i < ((ns.map D.int).length : Nat))) M :=
      tst_ev ((op_ev rfl ((call_ev (ds := [.rol (ns.map D.int)]) (M1 := M) rfl).trans rfl)).trans rfl)
    by_cases z : i < ((ns.map D.int).length : Nat)
    · obtain ⟨d, m1, m2⟩ := at_nat h0 z
      obtain ⟨y, _, rfl⟩ := @small_in 0 _ _ m1
      refine ⟨y, (mif_yes (M1 := M) (tt.trans (by rw [decide_eq_true z]))).trans (int_ev ((op_ev rfl rfl).trans ?_))⟩
      show (match L2.atI (ns.map D.int) i with | some x => Res.ok x M | none => .stuck) = _
      rw [m2]
    · have mo : mulOk 7919 i = true := (show bt 20 7919 by unfold bt; decide).mk (show bt 20 i by unfold bt; omega)
      have w1 : mOp (dMul newLst) (mC (.int 7919)) (mV 1) (sl0 5 [.rol (ns.map D.int), .int i]) M = .ok (.int (7919 * i)) M := (op_ev rfl rfl).trans (mul_ok mo)
      have w2 : mSl newLst (mV 0) mNoP (mPart (mC (.int 2))) (sl0 5 [.rol (ns.map D.int), .int i]) M = .ok (.lst ((ns.take 2).map D.int)) M := by
        show newLst (cutD (ns.map D.int) none (some ((2 : Nat) : Int))) M = _
        rw [cut_take, s_newLst (by rw [List.length_take]; omega), List.map_take]
      have w3 : cSum [.lst ((ns.take 2).map D.int)] M = .ok (.int (ns.take 2).sum) M := by
        show (match intsOf ((ns.take 2).map D.int) with | some ns => Res.ok (D.int ns.sum) M | none => .stuck) = _
        rw [ints_map]
      refine ⟨_, (mif_no (M1 := M) (tt.trans (by rw [decide_eq_false z]))).trans ((op_ev ((op_ev w1 rfl).trans rfl) ((op_ev (int_ev ((call_ev (one_ev w2)).trans w3)) rfl).trans (mod_ok (by decide)))).trans rfl)⟩
  obtain ⟨y, hy⟩ := v2
  obtain ⟨z, x4, g1, g2, g3⟩ := well_loop (M := M) (x0 := some (.rol (ns.map D.int))) (x1 := some (.int i)) (x2 := some (.int y)) (ns.take 7 ++ [y]) (40009 + 613 * i) none (by omega) (by omega)
  let ρ : Sl := [some (.rol (ns.map D.int)), some (.int i), some (.int y), some (.int z), x4]
  obtain ⟨a, ha, a0⟩ : ∃ a : Int, (mIf (mOrT (mTst (mOp dLt (mV 2) (mC (.int 0)))) (mTst (mOp dGe (mV 2) (mOp dPow (mC (.int 10)) (mC (.int 18)))))) (mCall cAbs (mCons (mV 2) mNil)) (mC (.int 0))) ρ M = .ok (.int a) M ∧ 0 ≤ a := by
    have t1 : mTst (mOp dLt (mV 2) (mC (.int 0))) ρ M = .ok (decide (y < 0)) M := tst_ev ((op_ev rfl rfl).trans rfl)
    have t2 : mTst (mOp dGe (mV 2) (mOp dPow (mC (.int 10)) (mC (.int 18)))) ρ M = .ok (decide (y ≥ 10 ^ 18)) M := tst_ev ((op_ev rfl ((op_ev rfl rfl).trans pow_ok)).trans rfl)
    have ab : mCall cAbs (mCons (mV 2) mNil) ρ M = .ok (.int (if y < 0 then -y else y)) M := (call_ev (ds := [.int y]) (M1 := M) rfl).trans rfl
    obtain ⟨b, hb⟩ : ∃ b, mOrT (mTst (mOp dLt (mV 2) (mC (.int 0)))) (mTst (mOp dGe (mV 2) (mOp dPow (mC (.int 10)) (mC (.int 18))))) ρ M = .ok b M := by
      unfold mOrT
      rw [t1, s_bind]
      by_cases w : decide (y < 0) = true
      · exact ⟨true, by rw [if_pos w]⟩
      · exact ⟨_, by rw [if_neg w]; exact t2⟩
    cases b with
    | true => exact ⟨_, (mif_yes hb).trans ab, by split <;> omega⟩
    | false => exact ⟨0, (mif_no hb).trans rfl, by omega⟩
  have fl : mOp (dEq false) (mOp dMod (mCall cInt (mCons (mOp dFdiv (mV 3) (mC (.int 16))) mNil)) (mC (.int 8))) (mC (.int 0)) ρ M = .ok (.bl (false ^^ decide ((z.fdiv 16).fmod 8 = 0))) M :=
    (op_ev ((op_ev (int_ev ((op_ev rfl rfl).trans (div_ok (by decide)))) rfl).trans (mod_ok (by decide))) rfl).trans eq_int
  have fin : mLst newLoc (mCons (mIf (mOrT (mTst (mOp dLt (mV 2) (mC (.int 0)))) (mTst (mOp dGe (mV 2) (mOp dPow (mC (.int 10)) (mC (.int 18)))))) (mCall cAbs (mCons (mV 2) mNil)) (mC (.int 0))) (mCons (mV 3) (mCons (mC (.int 1)) (mCons (mOp (dEq false) (mOp dMod (mCall cInt (mCons (mOp dFdiv (mV 3) (mC (.int 16))) mNil)) (mC (.int 8))) (mC (.int 0))) mNil)))) ρ M = .ok (.loc M.length) (M ++ [some (wellC a z 1 (false ^^ decide ((z.fdiv 16).fmod 8 = 0)))]) :=
    (lst_ev (cons_ev ha (cons_ev rfl (cons_ev rfl (one_ev fl))))).trans (s_newLoc (by show 4 ≤ _; omega) (by simp [locFree]))
  refine ⟨M ++ [some (wellC a z 1 (false ^^ decide ((z.fdiv 16).fmod 8 = 0)))], ?_, by simp, ⟨a, z, 1, (false ^^ decide ((z.fdiv 16).fmod 8 = 0)), by rw [List.getElem?_append_right (Nat.le_refl _), Nat.sub_self]; rfl, a0, ⟨g2, g3⟩, by decide, by decide⟩, take_snoc⟩
  have mo : mulOk 613 i = true := (show bt 20 613 by unfold bt; decide).mk (show bt 20 i by unfold bt; omega)
  have w1 : mOp (dAdd newLst) (mC (.int 40009)) (mOp (dMul newLst) (mC (.int 613)) (mV 1)) [some (.rol (ns.map D.int)), some (.int i), some (.int y), none, none] M = .ok (.int (40009 + 613 * i)) M := (op_ev rfl ((op_ev rfl rfl).trans (mul_ok mo))).trans rfl
  have it : itSeq (mOp (dAdd newLst) (mSl newLst (mV 0) mNoP (mPart (mC (.int 7)))) (mLst newLst (mCons (mV 2) mNil))) [some (.rol (ns.map D.int)), some (.int i), some (.int y), some (.int (40009 + 613 * i)), none] M = .ok ((ns.take 7 ++ [y]).map D.int) M := by
    have w2 : mSl newLst (mV 0) mNoP (mPart (mC (.int 7))) [some (.rol (ns.map D.int)), some (.int i), some (.int y), some (.int (40009 + 613 * i)), none] M = .ok (.lst ((ns.take 7).map D.int)) M := by
      show newLst (cutD (ns.map D.int) none (some ((7 : Nat) : Int))) M = _
      rw [cut_take, s_newLst (by rw [List.length_take]; omega), List.map_take]
    have w3 : mLst newLst (mCons (mV 2) mNil) [some (.rol (ns.map D.int)), some (.int i), some (.int y), some (.int (40009 + 613 * i)), none] M = .ok (.lst [.int y]) M := (lst_ev (one_ev rfl)).trans (s_newLst (by show 1 ≤ _; omega))
    unfold itSeq
    rw [op_ev w2 w3]
    show (Res.bind (if ((ns.take 7).map D.int).length + 1 ≤ 16777216 then newLst ((ns.take 7).map D.int ++ [.int y]) M else .stuck) _) = _
    rw [if_pos (by rw [List.length_map, List.length_take]; omega), s_newLst (by rw [List.length_append, List.length_map, List.length_take, List.length_singleton]; omega), List.map_append]
    rfl
  show keepR (m__law_well (sl0 5 [.rol (ns.map D.int), .int i]) M) = _
  have hr : m__law_well (sl0 5 [.rol (ns.map D.int), .int i]) M = .ok (.rt (.loc M.length), ρ) (M ++ [some (wellC a z 1 (false ^^ decide ((z.fdiv 16).fmod 8 = 0)))]) := by
    unfold m__law_well
    rw [seq_nx (M1 := M) (ρ1 := [some (.rol (ns.map D.int)), some (.int i), some (.int y), none, none]) (asg_ev hy)]
    rw [seq_nx (M1 := M) (ρ1 := [some (.rol (ns.map D.int)), some (.int i), some (.int y), some (.int (40009 + 613 * i)), none]) (asg_ev w1)]
    rw [seq_nx (M1 := M) (ρ1 := ρ) ((for_ev it).trans g1)]
    exact ret_ev fin
  rw [hr]
  rfl
end
end G86

set_option Elab.async false
set_option linter.all false
set_option maxRecDepth 100000
set_option maxHeartbeats 4000000
namespace G86
open DL
def plD (t : Tn) (s : V3) : D := .tup [t.D, tD s]
section
variable {M : Store} {B : Bs} {m1 : Nat} [hB : Bas B m1]
include hB
theorem placed_ev {i j : Nat} {t : Tn} {s u : V3} (ht : t.Ok) (hs : lw B i s) (h : lw B j u) (hu : szw 2900 1441 u) (h2 : lv U 1 2) (hj : j + 10 ≤ m1 := by omega) (hi : i ≤ m1 := by omega) : f__law_placed [plD t s, tD u] M = .ok (tD ((t.R u).add s)) M := by
  obtain ⟨e1, l1⟩ := turned_ev (M := M) ht h hu h2 hj
  have e2 := lplus_ev (M := M) l1 hs (by omega) (by omega)
  refine run_rt (ρ1 := [some (plD t s), some (tD u)]) rfl ?_ free_tD
  unfold m__law_placed
  exact ret_ev ((def_ev (n := 2) (ds := [tD (t.R u), tD s]) (M1 := M) (cons_ev ((def_ev (n := 2) (ds := [t.D, tD u]) (M1 := M) rfl rfl).trans e1) rfl) rfl).trans e2)
theorem led_ev {i j : Nat} {t : Tn} {s a b : V3} (ht : t.Ok) (hs : lw U i s) (ha : lw B j a) (hb : lw B j b) (sa : szw 2900 1441 a) (sb : szw 2900 1441 b) (h2 : lv U 1 2) (hj : i + j + 11 ≤ m1 := by omega) (hi : i ≤ 3 := by omega) : f__law_led [plD t s, sD a b] M = .ok (sD (t.R a) ((t.R b).add (s.cross (t.R a)))) M := by
  obtain ⟨e1, l1⟩ := turned_ev (M := M) ht ha sa h2 (by omega)
  obtain ⟨e2, l2⟩ := turned_ev (M := M) ht hb sb h2 (by omega)
  have e3 := lcross_ub (M := M) hs l1 (by omega) (by omega)
  have l3 : lw B (i + (j + 10) + 1) (s.cross (t.R a)) := hs.cross l1
  have e4 := lplus_ev (M := M) l2 l3 (by omega) (by omega)
  refine run_rt (ρ1 := [some (plD t s), some (sD a b), some (tD (t.R a))]) rfl ?_ free_sD
  unfold m__law_led
  rw [seq_nx (M1 := M) (ρ1 := [some (plD t s), some (sD a b), some (tD (t.R a))]) (asg_ev ((def_ev (n := 2) (ds := [t.D, tD a]) (M1 := M) rfl rfl).trans e1))]
  refine ret_ev ((tup_ev (ds := [tD (t.R a), tD ((t.R b).add (s.cross (t.R a)))]) (M1 := M) (cons_ev rfl (one_ev ?_))).trans (s_newTup (by show 2 ≤ _; omega)))
  exact (def_ev (n := 2) (ds := [tD (t.R b), tD (s.cross (t.R a))]) (M1 := M) (cons_ev ((def_ev (n := 2) (ds := [t.D, tD b]) (M1 := M) rfl rfl).trans e2) (one_ev ((def_ev (n := 2) (ds := [tD s, tD (t.R a)]) (M1 := M) rfl rfl).trans e3))) rfl).trans e4
end
end G86

set_option Elab.async false
set_option linter.all false
set_option maxRecDepth 100000
set_option maxHeartbeats 4000000
namespace G86
open DL RW
instance : Inhabited V3 := ⟨V3.nil⟩
section
variable {M : Store} {Q : D → Store → Prop} {QL : List D → Store → Prop}
instance {u : V3} : TupV (tD u) [rD u.x, rD u.y, rD u.z] := ⟨rfl⟩
instance {p : Rat} : TupV (rD p) [.int p.num, .int (p.den : Int)] := ⟨rfl⟩
instance {a b : V3} : TupV (sD a b) [tD a, tD b] := ⟨rfl⟩
instance {p : V3 × Rat} : TupV (pD p) [tD p.1, rD p.2] := ⟨rfl⟩
instance {l : Bod} : TupV (bD l) (l.map pD) := ⟨rfl⟩
instance {a b : V3} : Free (sD a b) := ⟨free_sD⟩
instance {p : V3 × Rat} : Free (pD p) := ⟨free_pD⟩
instance {l : Bod} : Free (bD l) := ⟨free_bD⟩
instance {p : Rat} : Free (rD p) := ⟨free_rD⟩
instance {u : V3} : Free (tD u) := ⟨free_tD⟩
theorem c_lcm {a b : Nat} (ha : a < 2 ^ 9000) (hb : b < 2 ^ 9000) (q : Q (.int (Nat.lcm a b : Nat)) M) : Ok (cLcm [.int (a : Int), .int (b : Int)] M) Q := by
  have lg : ∀ c : Nat, c < 2 ^ 9000 → c.log2 < 13000 := fun c h => by
    by_cases z : c = 0
    · rw [z]; decide
    · exact Nat.lt_trans ((Nat.log2_lt z).mpr h) (by decide)
  show Ok (if (a : Int).natAbs.log2 < 13000 ∧ (b : Int).natAbs.log2 < 13000 then _ else _) Q
  rw [Int.natAbs_natCast, Int.natAbs_natCast, if_pos ⟨lg a ha, lg b hb⟩, Nat.lcm_one_left]
  exact q
end
/-- q over a whole number that its den divides -/
theorem mul_den (q : Rat) : q * (q.den : Rat) = (q.num : Rat) := by
  have := Rat.num_divInt_den q
  rw [Rat.divInt_eq_div, Rat.intCast_natCast] at this
  have hd0 : (q.den : Rat) ≠ 0 := by
    intro z
    have := q.den_nz
    exact this (Rat.natCast_inj.mp (z.trans (show (0 : Rat) = ((0 : Nat) : Rat) from rfl)))
  grind
theorem clear_num {q : Rat} {u : Nat} (h : q.den ∣ u) : ((q.num * ((u / q.den : Nat) : Int) : Int) : Rat) = q * (u : Rat) := by
  obtain ⟨k, rfl⟩ := h
  rw [Nat.mul_div_cancel_left _ q.den_pos, Rat.intCast_mul, Rat.intCast_natCast, Rat.natCast_mul, ← Rat.mul_assoc, mul_den]
theorem la.den {N r : Nat} {q : Rat} (h : la N r q) : q.den ∣ N := by
  obtain ⟨z, h1, _⟩ := h
  have e : q.num * (N : Int) = z * (q.den : Int) := by
    refine Rat.intCast_inj.mp ?_
    rw [Rat.intCast_mul, Rat.intCast_mul, ← mul_den, ← h1, Rat.intCast_natCast, Rat.intCast_natCast]
    grind
  have e2 := congrArg Int.natAbs e
  rw [Int.natAbs_mul, Int.natAbs_mul, Int.natAbs_natCast, Int.natAbs_natCast] at e2
  exact (Nat.Coprime.symm q.reduced).dvd_of_dvd_mul_left ⟨z.natAbs, by rw [e2, Nat.mul_comm]⟩
theorem la.num {N r : Nat} {q : Rat} (h : la N r q) (hN : 0 < N) : bt r q.num := by
  obtain ⟨k, hk⟩ := h.den
  obtain ⟨z, h1, h2⟩ := h
  have e : z = q.num * (k : Int) := by
    refine Rat.intCast_inj.mp ?_
    rw [← h1, hk, Rat.intCast_mul, ← mul_den, Rat.natCast_mul, Rat.intCast_natCast]
    grind
  have hk0 : 0 < k := by
    rcases Nat.eq_zero_or_pos k with z | z
    · rw [z, Nat.mul_zero] at hk; omega
    · exact z
  have : q.num.natAbs ≤ z.natAbs := by
    rw [e, Int.natAbs_mul, Int.natAbs_natCast]
    exact Nat.le_mul_of_pos_right _ hk0
  unfold bt at *
  omega
theorem la.times {N r c : Nat} {q : Rat} (h : la N r q) (hN : 0 < N) (hc : q.den ∣ c) (hcN : c ∣ N) : bt r (q.num * ((c / q.den : Nat) : Int)) := by
  obtain ⟨z, h1, h2⟩ := h
  obtain ⟨k, hk⟩ := hcN
  have e : z = (q.num * ((c / q.den : Nat) : Int)) * (k : Int) := by
    refine Rat.intCast_inj.mp ?_
    rw [← h1, hk, Rat.intCast_mul, clear_num hc, Rat.natCast_mul, Rat.intCast_natCast]
    grind
  have hk0 : 0 < k := by
    rcases Nat.eq_zero_or_pos k with z | z
    · rw [z, Nat.mul_zero] at hk; omega
    · exact z
  have : (q.num * ((c / q.den : Nat) : Int)).natAbs ≤ z.natAbs := by
    rw [e, Int.natAbs_mul _ (k : Int), Int.natAbs_natCast]
    exact Nat.le_mul_of_pos_right _ hk0
  unfold bt at *
  omega
def lcmR (v : Nat → Rat) : Nat → Nat
  | 0 => 1
  | n + 1 => Nat.lcm (lcmR v n) (v n).den
theorem lcmR_pos {v : Nat → Rat} : ∀ {n : Nat}, 0 < lcmR v n
  | 0 => Nat.one_pos
  | n + 1 => Nat.lcm_pos lcmR_pos (v n).den_pos
theorem dvd_lcmR {v : Nat → Rat} : ∀ {n j : Nat}, j < n → (v j).den ∣ lcmR v n
  | 0, j, h => absurd h (Nat.not_lt_zero _)
  | n + 1, j, h => by
    rw [lcmR]
    rcases Nat.lt_or_ge j n with z | z
    · exact Nat.dvd_trans (dvd_lcmR z) (Nat.dvd_lcm_left _ _)
    · obtain rfl : j = n := by omega
      exact Nat.dvd_lcm_right _ _
theorem lcmR_dvd {v : Nat → Rat} {N : Nat} : ∀ {n : Nat}, (∀ j, j < n → (v j).den ∣ N) → lcmR v n ∣ N
  | 0, _ => Nat.one_dvd _
  | n + 1, h => Nat.lcm_dvd (lcmR_dvd fun j hj => h j (by omega)) (h n (by omega))
section
variable {M : Store} {Q : D → Store → Prop}
def fracsD (m : Nat) (v : Nat → Rat) : D := .lst (rl m fun j => rD (v j))
instance {m : Nat} {v : Nat → Rat} : LstV (fracsD m v) (rl m fun j => rD (v j)) := ⟨rfl⟩
@[simp] theorem free_fracs {m : Nat} {v : Nat → Rat} : locFree (fracsD m v) = true := by rw [fracsD, free_lst]; exact rl_frees fun i _ => free_rD
instance {m : Nat} {v : Nat → Rat} : Free (fracsD m v) := ⟨free_fracs⟩
theorem over_w {m b s N : Nat} {v : Nat → Rat} (hm : m ≤ 1000) (hN : 0 < N) (hs : N < 2 ^ s) (hs2 : s ≤ 8000) (hb : b ≤ 8000) (hv : ∀ j, j < m → la N b (v j))
    (q : ∀ (w : Nat → Int) (c : Nat), 0 < c → (∀ j, j < m → (w j : Rat) = v j * (c : Rat)) → (∀ j, j < m → bt b (w j)) → Q (.tup [rowD m w, .int (c : Nat)]) M) : Ok (f_over_one [fracsD m v] M) Q := by
  have cN : lcmR v m ∣ N := lcmR_dvd fun j hj => (hv j hj).den
  have cl : lcmR v m < 2 ^ s := Nat.lt_of_le_of_lt (Nat.le_of_dvd hN cN) hs
  refine w_run rfl ?_
  unfold m_over_one
  (repeat first | refine Step.e ?_ | (first | (refine ifk_t ?_ ?_; focus (first | omega | decide | (simp; done))) | (refine ifk_f ?_ ?_; focus (first | omega | decide | (simp; done)))))
  unfold rl
  refine go_inv (fun j : Nat => rD (v j)) (fun p _ ρ M' => M' = M ∧ ∃ x2, ρ = [some (fracsD m v), some (.int (lcmR v p.length : Nat)), x2]) (List.range m) (fun x p r ρ M' hp hI => ?_) (fun ρ M' hI => ?_) (List.range m) [] _ _ rfl ⟨rfl, none, rfl⟩
  · obtain ⟨rfl, x2, rfl⟩ := hI
    obtain ⟨rfl, hl⟩ := range_split hp
    have cl' : ∀ {c : Nat}, c ∣ N → c < 2 ^ 9000 := fun h => Nat.lt_of_le_of_lt (Nat.le_of_dvd hN h) (Nat.lt_of_lt_of_le hs (Nat.pow_le_pow_right (by omega) (by omega)))
    (repeat first | refine Step.e ?_ | (first | (refine ifk_t ?_ ?_; focus (first | omega | decide | (simp; done))) | (refine ifk_f ?_ ?_; focus (first | omega | decide | (simp; done)))))
    refine c_lcm (cl' (lcmR_dvd fun j hj => (hv j (by omega)).den)) (cl' (hv _ hl).den) ?_
    (repeat first | refine Step.e ?_ | (first | (refine ifk_t ?_ ?_; focus (first | omega | decide | (simp; done))) | (refine ifk_f ?_ ?_; focus (first | omega | decide | (simp; done)))))
    exact ⟨rfl, _, by rw [List.length_append, List.length_singleton, lcmR]⟩
  · obtain ⟨rfl, x2, rfl⟩ := hI
    rw [List.length_range]
    (repeat first | refine Step.e ?_ | (first | (refine ifk_t ?_ ?_; focus (first | omega | decide | (simp; done))) | (refine ifk_f ?_ ?_; focus (first | omega | decide | (simp; done)))))
    refine lck (by rw [rl_len]; omega) ?_
    unfold rl
    refine lcgo_map (fun j : Nat => rD (v j)) (fun j => D.int ((v j).num * ((lcmR v m / (v j).den : Nat) : Int))) (List.range m) (fun j hj => ?_) ?_
    · have hj := List.mem_range.mp hj
      have bj := (hv j hj).times hN (dvd_lcmR hj) cN
      (repeat first | refine Step.e ?_ | (first | (refine ifk_t ?_ ?_; focus (first | omega | decide | (simp; done))) | (refine ifk_f ?_ ?_; focus (first | omega | decide | (simp; done)))))
      refine ⟨rfl, ?_⟩
      (repeat first | refine Step.e ?_ | (first | (refine ifk_t ?_ ?_; focus (first | omega | decide | (simp; done))) | (refine ifk_f ?_ ?_; focus (first | omega | decide | (simp; done)))))
      have hd := (v j).den_pos
      have ef : ((lcmR v m : Nat) : Int).fdiv ((v j).den : Int) = ((lcmR v m / (v j).den : Nat) : Int) := by
        rw [Int.fdiv_eq_ediv_of_nonneg _ (by omega), Int.natCast_ediv]
      refine d_fdiv (divOk_of (by omega) ?_) ?_
      · rw [Int.natAbs_natCast]
        exact Nat.lt_of_le_of_lt (Nat.le_of_dvd lcmR_pos (dvd_lcmR hj)) (Nat.lt_of_lt_of_le cl (Nat.pow_le_pow_right (by omega) (by omega)))
      rw [ef]
      refine d_mul ?_ ⟨rfl, rfl⟩
      exact ((hv j hj).num hN).mk (bt.nat (Nat.lt_of_le_of_lt (Nat.div_le_self _ _) cl))
    refine mkk_lst (by rw [List.length_map, List.length_range]; omega) ?_
    (repeat first | refine Step.e ?_ | (first | (refine ifk_t ?_ ?_; focus (first | omega | decide | (simp; done))) | (refine ifk_f ?_ ?_; focus (first | omega | decide | (simp; done)))))
    refine runk_rt0 (by rw [free_tup, frees_cons, frees_cons, free_lst]; rw [show locFrees (List.map (fun j => D.int ((v j).num * ((lcmR v m / (v j).den : Nat) : Int))) (List.range m)) = true from rl_frees (L := m) fun i _ => by simp]; simp [locFree]) ?_
    exact q (fun j => (v j).num * ((lcmR v m / (v j).den : Nat) : Int)) (lcmR v m) lcmR_pos (fun j hj => clear_num (dvd_lcmR hj)) fun j hj => (hv j hj).times hN (dvd_lcmR hj) cN
theorem whole_row_w {m b s N : Nat} {v : Nat → Rat} (hm : m ≤ 1000) (hN : 0 < N) (hs : N < 2 ^ s) (hs2 : s ≤ 8000) (hb : b ≤ 8000) (hv : ∀ j, j < m → la N b (v j))
    (q : ∀ w : Nat → Int, (∃ h : Rat, h ≠ 0 ∧ ∀ j, j < m → (w j : Rat) = h * v j) → (∀ j, j < m → bt b (w j)) → Q (rowD m w) M) : Ok (f_whole_row [fracsD m v] M) Q := by
  refine w_run rfl ?_
  unfold m_whole_row
  (repeat first | refine Step.e ?_ | (first | (refine ifk_t ?_ ?_; focus (first | omega | decide | (simp; done))) | (refine ifk_f ?_ ?_; focus (first | omega | decide | (simp; done)))))
  refine over_w hm hN hs hs2 hb hv fun w c hc hw hbw => ?_
  (repeat first | refine Step.e ?_ | (first | (refine ifk_t ?_ ?_; focus (first | omega | decide | (simp; done))) | (refine ifk_f ?_ ?_; focus (first | omega | decide | (simp; done)))))
  refine lowest_w hm hbw (by omega) fun w' hd _ hb' => ?_
  (repeat first | refine Step.e ?_ | (first | (refine ifk_t ?_ ?_; focus (first | omega | decide | (simp; done))) | (refine ifk_f ?_ ?_; focus (first | omega | decide | (simp; done)))))
  obtain ⟨d, hd0, hd⟩ := hd
  have hd' : (d : Rat) ≠ 0 := c_ne (by omega)
  have hc' : (c : Rat) ≠ 0 := fun z => by
    have := Rat.natCast_inj.mp (z.trans (show (0 : Rat) = ((0 : Nat) : Rat) from rfl))
    omega
  refine q w' ⟨(c : Rat) / d, ?_, fun j hj => ?_⟩ hb'
  · intro z
    have : (c : Rat) / d * d = c := by grind
    rw [z, Rat.zero_mul] at this
    exact hc' this.symm
  · have e1 := congrArg (fun z : Int => (z : Rat)) (hd j hj)
    simp only [Rat.intCast_mul, hw j hj] at e1
    grind
end
end G86

set_option Elab.async false
set_option linter.all false
set_option maxRecDepth 100000
set_option maxHeartbeats 4000000
namespace G86
open DL RW
/-! ### shares: a solution from stairs -/
/-- a row of the system: n columns and the goal -/
def rowR (n : Nat) (T : Nat → Nat → Rat) (y : Nat → Rat) (j : Nat) : Nat → Rat := fun i => if i < n then T i j else y j
/-- goals that no relation of the rows contradicts -/
def Cons (n L : Nat) (T : Nat → Nat → Rat) (y : Nat → Rat) : Prop := ∀ c : Nat → Rat, (∀ i, i < n → Sg L (fun j => c j * T i j) = 0) → Sg L (fun j => c j * y j) = 0
def solR (n : Nat) (f : Nat → Nat → Int) (p : Nat → Nat) : Nat → Nat → Rat
  | 0 => fun _ => 0
  | k + 1 => fun i => if i = p k then (f k n : Rat) / (f k (p k) : Rat) else solR n f p k i
section
variable {n L r : Nat} {T : Nat → Nat → Rat} {y : Nat → Rat} {W f : Nat → Nat → Int} {p : Nat → Nat}
theorem getD_W {j : Nat} (hj : j < L) : ((List.range L).map W).getD j (fun _ => 0) = W j := by
  rw [List.getD_eq_getElem?_getD, List.getElem?_map, List.getElem?_range hj]
  rfl
theorem piv_lt (s : Stn (n + 1) ((List.range L).map W) r f p) (hW : ∀ j, j < L → ∃ h : Rat, h ≠ 0 ∧ ∀ i, i < n + 1 → (W j i : Rat) = h * rowR n T y j i) (hc : Cons n L T y) {k : Nat} (hk : k < r) : p k < n := by
  obtain ⟨p1, p2, p3, _⟩ := s.piv k hk
  rcases Nat.lt_or_ge (p k) n with z | z
  · exact z
  · exfalso
    have hp : p k = n := by omega
    obtain ⟨e, he⟩ := s.fd k hk
    rw [List.length_map, List.length_range] at he
    obtain ⟨hh, hhW⟩ : ∃ hh : Nat → Rat, ∀ j, j < L → ∀ i, i < n + 1 → (W j i : Rat) = hh j * rowR n T y j i := by
      refine ⟨fun j => if h : j < L then (hW j h).choose else 0, fun j hj i hi => ?_⟩
      have := (hW j hj).choose_spec.2 i hi
      show (W j i : Rat) = (if h : j < L then (hW j h).choose else 0) * _
      rw [dif_pos hj]; exact this
    have key : ∀ i, i < n + 1 → (f k i : Rat) = Sg L (fun j => (e j * hh j) * rowR n T y j i) := fun i hi => by
      rw [show (f k i : Rat) = RW.cs (f k) i from rfl, he i hi]
      refine Sg_congr fun j hj => ?_
      show e j * RW.cs (((List.range L).map W).getD j fun _ => 0) i = _
      rw [getD_W hj]
      show e j * (W j i : Rat) = _
      rw [hhW j hj i hi, Rat.mul_assoc]
    have z0 := hc (fun j => e j * hh j) fun i hi => by
      have e1 := key i (by omega)
      rw [p3 i (by omega)] at e1
      rw [show Sg L (fun j => e j * hh j * T i j) = Sg L (fun j => (e j * hh j) * rowR n T y j i) from Sg_congr fun j _ => by unfold rowR; rw [if_pos hi], ← e1]
      rfl
    have e2 := key n (by omega)
    rw [show Sg L (fun j => (e j * hh j) * rowR n T y j n) = Sg L (fun j => e j * hh j * y j) from Sg_congr fun j _ => by unfold rowR; rw [if_neg (Nat.lt_irrefl n)], z0] at e2
    rw [hp] at p2
    exact p2 (c_zero e2)
theorem solR_no {i : Nat} : ∀ {k : Nat}, (∀ l, l < k → p l ≠ i) → solR n f p k i = 0
  | 0, _ => rfl
  | k + 1, h => by
    show (if i = p k then _ else solR n f p k i) = 0
    rw [if_neg (fun e => h k (by omega) e.symm)]
    exact solR_no fun l hl => h l (by omega)
theorem solR_at {l : Nat} : ∀ {k : Nat}, (∀ a b, a < b → b < k → p a < p b) → l < k → solR n f p k (p l) = (f l n : Rat) / (f l (p l) : Rat)
  | 0, _, h => absurd h (Nat.not_lt_zero _)
  | k + 1, hi, h => by
    show (if p l = p k then (f k n : Rat) / (f k (p k) : Rat) else solR n f p k (p l)) = _
    by_cases e : l = k
    · subst e; rw [if_pos rfl]
    · have := hi l k (by omega) (by omega)
      rw [if_neg (by omega)]
      exact solR_at (fun a b h1 h2 => hi a b h1 (by omega)) (by omega)
theorem solR_row (s : Stn (n + 1) ((List.range L).map W) r f p) (hp : ∀ k, k < r → p k < n) {k : Nat} (hk : k < r) : Sg n (fun i => solR n f p r i * (f k i : Rat)) = (f k n : Rat) := by
  obtain ⟨_, p2, _, _⟩ := s.piv k hk
  rw [Sg_one (hp k hk) fun i hi hne => ?_]
  · show solR n f p r (p k) * (f k (p k) : Rat) = _
    rw [solR_at s.inc hk]
    have := c_ne p2
    grind
  · by_cases z : ∃ l, l < r ∧ p l = i
    · obtain ⟨l, hl, rfl⟩ := z
      obtain ⟨_, _, _, q4⟩ := s.piv l hl
      have : k ≠ l := fun e => hne (by rw [e])
      show _ * ((f k (p l) : Int) : Rat) = 0
      rw [q4 k hk this]
      exact Rat.mul_zero _
    · show solR n f p r i * _ = 0
      rw [solR_no fun l hl e => z ⟨l, hl, e⟩, Rat.zero_mul]
theorem solR_ok (s : Stn (n + 1) ((List.range L).map W) r f p) (hp : ∀ k, k < r → p k < n) (hW : ∀ j, j < L → ∃ h : Rat, h ≠ 0 ∧ ∀ i, i < n + 1 → (W j i : Rat) = h * rowR n T y j i) {j : Nat} (hj : j < L) : Sg n (fun i => solR n f p r i * T i j) = y j := by
  obtain ⟨h, h0, hh⟩ := hW j hj
  obtain ⟨c, hc⟩ := s.Ad (W j) (List.mem_map.mpr ⟨j, List.mem_range.mpr hj, rfl⟩)
  have e1 : Sg n (fun i => solR n f p r i * (W j i : Rat)) = (W j n : Rat) := by
    rw [show (W j n : Rat) = RW.cs (W j) n from rfl, hc n (by omega)]
    rw [show Sg n (fun i => solR n f p r i * (W j i : Rat)) = Sg n (fun i => Sg r (fun k => c k * (solR n f p r i * (f k i : Rat)))) from Sg_congr fun i hi => by
      rw [show (W j i : Rat) = RW.cs (W j) i from rfl, hc i (by omega), ← Sg_mul]
      exact Sg_congr fun k _ => by show _ * (c k * (f k i : Rat)) = _; grind]
    rw [Sg_swap]
    refine Sg_congr fun k hk => ?_
    rw [Sg_mul, solR_row s hp hk]
  have e2 : Sg n (fun i => solR n f p r i * (W j i : Rat)) = h * Sg n (fun i => solR n f p r i * T i j) := by
    rw [← Sg_mul]
    refine Sg_congr fun i hi => ?_
    rw [hh i (by omega)]
    unfold rowR
    rw [if_pos hi]; grind
  have e3 := hh n (by omega)
  unfold rowR at e3
  rw [if_neg (Nat.lt_irrefl n)] at e3
  rw [e1, e3] at e2
  have : h * (Sg n (fun i => solR n f p r i * T i j) - y j) = 0 := by grind
  rcases Rat.mul_eq_zero.mp this with w | w
  · exact absurd w h0
  · grind
theorem divInt_sz {a b : Int} {Φ : Nat} (hb : b ≠ 0) (h1 : bt Φ a) (h2 : bt Φ b) : bt Φ (Rat.divInt a b).num ∧ bt Φ ((Rat.divInt a b).den : Int) := by
  have hg : 0 < Int.gcd b a := Int.gcd_pos_of_ne_zero_left _ hb
  refine ⟨?_, ?_⟩
  · rw [Rat.num_divInt]
    have : (b.sign * a / (Int.gcd b a : Int)).natAbs ≤ a.natAbs := by
      refine Nat.le_trans (Int.natAbs_ediv_le_natAbs _ _) ?_
      rw [Int.natAbs_mul]
      have : b.sign.natAbs ≤ 1 := by
        rcases Int.lt_or_gt_of_ne hb with z | z
        · rw [Int.sign_eq_neg_one_of_neg z]; decide
        · rw [Int.sign_eq_one_of_pos z]; decide
      calc b.sign.natAbs * a.natAbs ≤ 1 * a.natAbs := Nat.mul_le_mul_right _ this
        _ = a.natAbs := Nat.one_mul _
    unfold bt at *
    omega
  · rw [Rat.den_divInt, if_neg hb]
    have := Nat.div_le_self b.natAbs (Int.gcd b a)
    unfold bt at *
    rw [Int.natAbs_natCast]
    omega
theorem solR_sz {Φ : Nat} (hΦ : 1 ≤ Φ) : ∀ {k : Nat}, (∀ l, l < k → p l < n + 1 ∧ f l (p l) ≠ 0 ∧ ∀ j, j < n + 1 → bt Φ (f l j)) → ∀ i, bt Φ (solR n f p k i).num ∧ bt Φ ((solR n f p k i).den : Int)
  | 0, _, i => by
    show bt Φ (0 : Rat).num ∧ bt Φ ((0 : Rat).den : Int)
    refine ⟨bt.zero, bt.one.mono⟩
  | k + 1, h, i => by
    show bt Φ (if i = p k then _ else _ : Rat).num ∧ bt Φ ((if i = p k then _ else _ : Rat).den : Int)
    by_cases e : i = p k
    · rw [if_pos e]
      obtain ⟨h1, h2, h3⟩ := h k (by omega)
      have := divInt_sz h2 (h3 n (by omega)) (h3 (p k) h1)
      rw [Rat.divInt_eq_div] at this
      exact this
    · rw [if_neg e]
      exact solR_sz hΦ (fun l hl => h l (by omega)) i
end
end G86

set_option Elab.async false
set_option linter.all false
set_option maxRecDepth 100000
set_option maxHeartbeats 4000000
namespace G86
open DL RW
section
variable {M : Store} {Q : D → Store → Prop}
theorem c_tupC {n : Nat} {xs : List D} (hc : cellAt M n = some xs) (hl : xs.length ≤ 16777216) (q : Q (.tup xs) M) : Ok (cTuple [.loc n] M) Q := by
  show Ok (match seqOf M (.loc n) with | some xs => newTup xs M | none => .stuck) Q
  rw [show seqOf M (.loc n) = some xs from hc]
  exact new_tup hl q
theorem d_ixV {d e : D} {xs : List D} {i : Int} [h : LstV d xs] (hx : L2.atI xs i = some e) (q : Q e M) : Ok (dIx d (.int i) M) Q := by
  rw [h.e]; exact d_ixL hx q
theorem d_mulC {x : D} {i : Int} {k : Nat} (hi : i = (k : Int)) (hk : k ≤ 1000) (hf : locFree x = true) (q : Q (.loc M.length) (M ++ [some (rl k fun _ => x)])) : Ok (dMul newLoc (.lst [x]) (.int i) M) Q := by
  subst hi
  show Ok (if (k : Int) < 1000000 ∧ [x].length * (k : Int).toNat ≤ 16777216 ∧ (-1000000 : Int) < k then newLoc (List.replicate (k : Int).toNat [x]).flatten M else .stuck) Q
  rw [if_pos ⟨by omega, by show 1 * _ ≤ _; omega, by omega⟩]
  have e : (List.replicate (k : Int).toNat [x]).flatten = rl k fun _ => x := by
    rw [show (k : Int).toNat = k by omega]
    unfold rl
    refine List.ext_getElem? fun i => ?_
    rw [List.getElem?_map, show (List.replicate k [x]).flatten = List.replicate k x by
      clear q
      clear hk
      induction k with
      | zero => rfl
      | succ k ih => rw [List.replicate_succ, List.replicate_succ, List.flatten_cons, ih]; rfl]
    rw [List.getElem?_replicate]
    by_cases h : i < k
    · rw [if_pos h, List.getElem?_range h]; rfl
    · rw [if_neg h, List.getElem?_eq_none (by rw [List.length_range]; omega)]; rfl
  rw [e]
  exact new_loc (by rw [rl_len]; omega) (rl_frees fun _ _ => hf) q
theorem shares_for_w {n L b s c Φ : Nat} {T : Nat → Nat → Rat} {y : Nat → Rat} {P Y : D} [hP : LstV P (rl n fun i => fracsD L (T i))] [hY : LstV Y (rl L fun j => rD (y j))] (hn : n ≤ 99) (hL : L ≤ 99) (hrow : ∀ j, j < L → ∃ N, 0 < N ∧ N < 2 ^ s ∧ ∀ i, i < n + 1 → la N b (rowR n T y j i)) (hs : s ≤ 8000)
    (hc : 2 * L ≤ 2 ^ c) (hΦ : Φ = (c + b) * L + 1) (hsz : b + (L + 1) * (Φ + 1) + 1 ≤ 8000) (hb1 : 1 ≤ b) (hcons : Cons n L T y)
    (q : ∀ x : Nat → Rat, (∀ j, j < L → Sg n (fun i => x i * T i j) = y j) → (∀ i, bt Φ (x i).num ∧ bt Φ ((x i).den : Int)) → Q (.tup (rl n fun i => rD (x i))) M) :
    Ok (f_shares_for [P, Y] M) Q := by
  have hb : b ≤ 8000 := by omega
  have hΦ2 : Φ ≤ 8000 := by
    have : 1 * (Φ + 1) ≤ (L + 1) * (Φ + 1) := Nat.mul_le_mul_right _ (by omega)
    omega
  refine w_run rfl ?_
  unfold m_shares_for
  (repeat first | refine Step.e ?_ | (first | (refine ifk_t ?_ ?_; focus (first | omega | decide | (simp; done))) | (refine ifk_f ?_ ?_; focus (first | omega | decide | (simp; done)))))
  generalize hnn : (((rl n fun i => fracsD L (T i)).length : Nat) : Int) = nn
  rw [rl_len] at hnn
  generalize hll : (((rl L fun j => rD (y j)).length : Nat) : Int) = ll
  rw [rl_len] at hll
  (repeat first | refine Step.e ?_ | (first | (refine ifk_t ?_ ?_; focus (first | omega | decide | (simp; done))) | (refine ifk_f ?_ ?_; focus (first | omega | decide | (simp; done)))))
  refine r1k (by omega) (by omega) ?_
  rw [show ll.toNat = L by omega]
  refine lck (by rw [List.length_map, List.length_range]; omega) ?_
  refine lcgo_rel (fun j : Nat => D.int (j : Int)) (fun j d => ∃ w : Nat → Int, d = rowD (n + 1) w ∧ ((∃ h : Rat, h ≠ 0 ∧ ∀ i, i < n + 1 → (w i : Rat) = h * rowR n T y j i) ∧ ∀ i, i < n + 1 → bt b (w i))) (fun _ M' => M' = M) (List.range L) 0 M rfl (fun j k M' hj hM => ?_) (fun ys M' hR hM => ?_)
  · subst hM
    have hj := List.mem_range.mp hj
    obtain ⟨N, hN, hNs, hla⟩ := hrow j hj
    (repeat first | refine Step.e ?_ | (first | (refine ifk_t ?_ ?_; focus (first | omega | decide | (simp; done))) | (refine ifk_f ?_ ?_; focus (first | omega | decide | (simp; done)))))
    refine ⟨rfl, ?_⟩
    (repeat first | refine Step.e ?_ | (first | (refine ifk_t ?_ ?_; focus (first | omega | decide | (simp; done))) | (refine ifk_f ?_ ?_; focus (first | omega | decide | (simp; done)))))
    refine lck (by rw [rl_len]; omega) ?_
    unfold rl
    refine lcgo_map (fun i : Nat => fracsD L (T i)) (fun i => rD (T i j)) (List.range n) (fun i hi => ?_) ?_
    · (repeat first | refine Step.e ?_ | (first | (refine ifk_t ?_ ?_; focus (first | omega | decide | (simp; done))) | (refine ifk_f ?_ ?_; focus (first | omega | decide | (simp; done)))))
      refine ⟨rfl, ?_⟩
      (repeat first | refine Step.e ?_ | (first | (refine ifk_t ?_ ?_; focus (first | omega | decide | (simp; done))) | (refine ifk_f ?_ ?_; focus (first | omega | decide | (simp; done)))))
      exact d_ixL (rl_at hj) ⟨rfl, rfl⟩
    refine mkk_lst (by rw [List.length_map, List.length_range]; omega) ?_
    (repeat first | refine Step.e ?_ | (first | (refine ifk_t ?_ ?_; focus (first | omega | decide | (simp; done))) | (refine ifk_f ?_ ?_; focus (first | omega | decide | (simp; done)))))
    refine d_ixV (rl_at hj) ?_
    (repeat first | refine Step.e ?_ | (first | (refine ifk_t ?_ ?_; focus (first | omega | decide | (simp; done))) | (refine ifk_f ?_ ?_; focus (first | omega | decide | (simp; done)))))
    have el : List.map (fun i => rD (T i j)) (List.range n) ++ [rD (y j)] = rl (n + 1) fun i => rD (rowR n T y j i) := by
      unfold rl
      rw [List.range_succ, List.map_append, List.map_singleton]
      congr 1
      · refine List.map_congr_left fun i hi => ?_
        have := List.mem_range.mp hi
        show _ = rD (if i < n then _ else _)
        rw [if_pos this]
      · show _ = [rD (if n < n then _ else _)]
        rw [if_neg (Nat.lt_irrefl n)]
    refine d_addL (by rw [List.length_map, List.length_range]; show n + 1 ≤ _; omega) ?_
    rw [el]
    refine new_lst (by rw [rl_len]; omega) ?_
    (repeat first | refine Step.e ?_ | (first | (refine ifk_t ?_ ?_; focus (first | omega | decide | (simp; done))) | (refine ifk_f ?_ ?_; focus (first | omega | decide | (simp; done)))))
    show Ok (f_whole_row [fracsD (n + 1) (rowR n T y j)] M') _
    exact whole_row_w (by omega) hN hNs hs hb hla fun w h1 h2 => ⟨⟨w, rfl, h1, h2⟩, rfl⟩
  subst hM
  obtain ⟨W, rfl, hW⟩ := rel_rl (rowD (n + 1)) (fun j w => (∃ h : Rat, h ≠ 0 ∧ ∀ i, i < n + 1 → (w i : Rat) = h * rowR n T y j i) ∧ ∀ i, i < n + 1 → bt b (w i)) (fun j d h => h) hR
  rw [List.length_range] at hW ⊢
  have hW : ∀ j, j < L → (∃ h : Rat, h ≠ 0 ∧ ∀ i, i < n + 1 → (W j i : Rat) = h * rowR n T y j i) ∧ ∀ i, i < n + 1 → bt b (W j i) := fun j hj => by
    have := hW j hj
    rw [List.getD_eq_getElem?_getD, List.getElem?_range hj] at this
    exact this
  have hlg : ∀ g : Nat → D, (rl L g).length ≤ 16777216 := fun g => Nat.le_trans (Nat.le_of_eq rl_len) (by omega)
  refine mkk_lst (hlg _) ?_
  (repeat first | refine Step.e ?_ | (first | (refine ifk_t ?_ ?_; focus (first | omega | decide | (simp; done))) | (refine ifk_f ?_ ?_; focus (first | omega | decide | (simp; done)))))
  refine d_mulC hnn.symm (by omega) (by simp [locFree, locFrees]) ?_
  (repeat first | refine Step.e ?_ | (first | (refine ifk_t ?_ ?_; focus (first | omega | decide | (simp; done))) | (refine ifk_f ?_ ?_; focus (first | omega | decide | (simp; done)))))
  rw [show (rl L fun i => rowD (n + 1) (W i)) = ((List.range L).map W).map (rowD (n + 1)) by rw [List.map_map]; rfl]
  refine stairs_w (L := L) (b := b) (c := c) (Φ := Φ) (by omega) (by rw [List.length_map, List.length_range]; omega) (by omega) (fun v hv i hi => ?_) hc hΦ (by omega) hb1 fun r f p st hf => ?_
  · obtain ⟨j, hj, rfl⟩ := List.mem_map.mp hv
    exact (hW j (List.mem_range.mp hj)).2 i hi
  have hp : ∀ k, k < r → p k < n := fun k hk => piv_lt st (fun j hj => (hW j hj).1) hcons hk
  (repeat first | refine Step.e ?_ | (first | (refine ifk_t ?_ ?_; focus (first | omega | decide | (simp; done))) | (refine ifk_f ?_ ?_; focus (first | omega | decide | (simp; done)))))
  unfold rl
  refine go_inv (fun k => rowD (n + 1) (f k)) (fun dn _ ρ M1 => M1 = M' ++ [some (rl n fun i => rD (solR n f p dn.length i))] ∧ ∃ x5 x6 x7 x8, ρ = [some P, some Y, some (.int nn), some (.lst (((List.range L).map W).map (rowD (n + 1)))), some (.loc M'.length), x5, x6, x7, x8]) (List.range r) (fun k dn rest ρ M1 hsp hI => ?_) (fun ρ M1 hI => ?_) (List.range r) [] _ _ rfl ⟨rfl, _, _, _, _, rfl⟩
  · obtain ⟨rfl, x5, x6, x7, x8, rfl⟩ := hI
    obtain ⟨rfl, hk⟩ := range_split hsp
    obtain ⟨p1, p2, p3, _⟩ := st.piv dn.length hk
    have hpk := hp _ hk
    (repeat first | refine Step.e ?_ | (first | (refine ifk_t ?_ ?_; focus (first | omega | decide | (simp; done))) | (refine ifk_f ?_ ?_; focus (first | omega | decide | (simp; done)))))
    refine ok_of (first_at p1 p2 p3) ?_
    (repeat first | refine Step.e ?_ | (first | (refine ifk_t ?_ ?_; focus (first | omega | decide | (simp; done))) | (refine ifk_f ?_ ?_; focus (first | omega | decide | (simp; done)))))
    refine d_ixL (by rw [← hnn]; exact rl_at (Nat.lt_succ_self n)) ?_
    (repeat first | refine Step.e ?_ | (first | (refine ifk_t ?_ ?_; focus (first | omega | decide | (simp; done))) | (refine ifk_f ?_ ?_; focus (first | omega | decide | (simp; done)))))
    refine d_ixL (rl_at p1) ?_
    (repeat first | refine Step.e ?_ | (first | (refine ifk_t ?_ ?_; focus (first | omega | decide | (simp; done))) | (refine ifk_f ?_ ?_; focus (first | omega | decide | (simp; done)))))
    refine ok_of (ratio_ev p2 (hf _ hk n (by omega)).mono (hf _ hk (p dn.length) p1).mono) ?_
    (repeat first | refine Step.e ?_ | (first | (refine ifk_t ?_ ?_; focus (first | omega | decide | (simp; done))) | (refine ifk_f ?_ ?_; focus (first | omega | decide | (simp; done)))))
    refine sub_rl hpk free_rD ?_
    refine ⟨?_, _, _, _, _, rfl⟩
    rw [List.length_append, List.length_singleton]
    congr 3
    refine rl_congr fun i hi => ?_
    show _ = rD (if i = p dn.length then _ else _)
    by_cases e : i = p dn.length
    · rw [if_pos e, if_pos e, Rat.divInt_eq_div]
    · rw [if_neg e, if_neg e]
  · obtain ⟨rfl, x5, x6, x7, x8, rfl⟩ := hI
    rw [List.length_range]
    (repeat first | refine Step.e ?_ | (first | (refine ifk_t ?_ ?_; focus (first | omega | decide | (simp; done))) | (refine ifk_f ?_ ?_; focus (first | omega | decide | (simp; done)))))
    refine c_tupC (CellIs.c inferInstance) (by rw [rl_len]; omega) ?_
    (repeat first | refine Step.e ?_ | (first | (refine ifk_t ?_ ?_; focus (first | omega | decide | (simp; done))) | (refine ifk_f ?_ ?_; focus (first | omega | decide | (simp; done)))))
    refine runk_rt (by rw [free_tup]; exact rl_frees (L := n) fun i _ => free_rD) ?_
    rw [List.take_left]
    exact q _ (fun j hj => solR_ok st hp (fun j hj => (hW j hj).1) hj) fun i => solR_sz (by omega) (fun l hl => ⟨(st.piv l hl).1, (st.piv l hl).2.1, hf l hl⟩) i
end
end G86

set_option Elab.async false
set_option linter.all false
set_option maxRecDepth 100000
set_option maxHeartbeats 4000000
namespace G86
open DL RW
abbrev smw (u : V3) : Prop := szw 20000 4400 u
theorem szw.sm {u : V3} (h : smw u) : sm u.x ∧ sm u.y ∧ sm u.z := h
section
variable {M : Store} {Q : D → Store → Prop} {QL : List D → Store → Prop}
theorem summed_sz {u v : V3} (h : smw u) (g : smw v) : f_summed [tD u, tD v] M = .ok (tD (u.add v)) M := by
  have e1 := @plus_ev M _ _ h.1 g.1
  have e2 := @plus_ev M _ _ h.2.1 g.2.1
  have e3 := @plus_ev M _ _ h.2.2 g.2.2
  simp [f_summed, m_summed, tD, V3.add, e1, e2, e3, runDef, sl0, mSeq, mAsg, mDef, mCall, mCons, mRet, mLc, itSeq, seqF, wipeD, mLcGo, mOp, noErr, s_newLst, cTuple, seqOf, s_newTup, cutR, locFree, locFrees, mTup, mLst, mIf, mIfS, mTst, mNot, mNotT, mAnd, mOr, mAndT, mOrT, mFor, mForGo, cIsI, tyS, DL.isInt, mUn, dNeg, dIx, L2.atI, L2.ixN, mPar2, mPar3, mDrop, dGt, dLt, dGe, dLe, itZip, s_bTup, s_bTupL, cGcd]
theorem scaled_sz {u : V3} {c : Rat} (h : smw u) (g : sm c) : f_scaled [tD u, rD c] M = .ok (tD (u.mul c)) M := by
  have e1 := @times_ev M _ _ h.1 g
  have e2 := @times_ev M _ _ h.2.1 g
  have e3 := @times_ev M _ _ h.2.2 g
  simp [f_scaled, m_scaled, tD, V3.mul, e1, e2, e3, runDef, sl0, mSeq, mAsg, mDef, mCall, mCons, mRet, mLc, itSeq, seqF, wipeD, mLcGo, mOp, noErr, s_newLst, cTuple, seqOf, s_newTup, cutR, locFree, locFrees, mTup, mLst, mIf, mIfS, mTst, mNot, mNotT, mAnd, mOr, mAndT, mOrT, mFor, mForGo, cIsI, tyS, DL.isInt, mUn, dNeg, dIx, L2.atI, L2.ixN, mPar2, mPar3, mDrop, dGt, dLt, dGe, dLe, itZip, s_bTup, s_bTupL, cGcd]
theorem sum_of_sz {a b c d : V3} (h1 : smw a) (h2 : smw b) (g1 : smw c) (g2 : smw d) : f_sum_of [sD a b, sD c d] M = .ok (sD (a.add c) (b.add d)) M := by
  have e1 := summed_sz (M := M) h1 g1
  have e2 := summed_sz (M := M) h2 g2
  simp [f_sum_of, m_sum_of, sD, e1, e2, runDef, sl0, mSeq, mAsg, mDef, mCall, mCons, mRet, mLc, itSeq, seqF, wipeD, mLcGo, mOp, noErr, s_newLst, cTuple, seqOf, s_newTup, cutR, locFree, locFrees, mTup, mLst, mIf, mIfS, mTst, mNot, mNotT, mAnd, mOr, mAndT, mOrT, mFor, mForGo, cIsI, tyS, DL.isInt, mUn, dNeg, dIx, L2.atI, L2.ixN, mPar2, mPar3, mDrop, dGt, dLt, dGe, dLe, itZip, s_bTup, s_bTupL, cGcd]
theorem times_of_sz {a b : V3} {c : Rat} (h1 : smw a) (h2 : smw b) (g : sm c) : f_times_of [sD a b, rD c] M = .ok (sD (a.mul c) (b.mul c)) M := by
  have e1 := scaled_sz (M := M) h1 g
  have e2 := scaled_sz (M := M) h2 g
  simp [f_times_of, m_times_of, sD, e1, e2, runDef, sl0, mSeq, mAsg, mDef, mCall, mCons, mRet, mLc, itSeq, seqF, wipeD, mLcGo, mOp, noErr, s_newLst, cTuple, seqOf, s_newTup, cutR, locFree, locFrees, mTup, mLst, mIf, mIfS, mTst, mNot, mNotT, mAnd, mOr, mAndT, mOrT, mFor, mForGo, cIsI, tyS, DL.isInt, mUn, dNeg, dIx, L2.atI, L2.ixN, mPar2, mPar3, mDrop, dGt, dLt, dGe, dLe, itZip, s_bTup, s_bTupL, cGcd]
theorem mkk_lstV {ds : List D} (hl : ds.length ≤ 16777216) (q : ∀ d, LstV d ds → locFree d = locFrees ds → Q d M) : MkK newLst Q ds M := mkk_lst hl (q _ ⟨rfl⟩ (by rw [free_lst]))
theorem zip_V {d e : D} {xs ys : List D} [h : TupV d xs] [g : TupV e ys] (q : QL (zipD xs ys) M) : ZipK QL [d, e] M := by rw [h.e, g.e]; exact zip_tt q
/-- the power of two screws -/
def pw (f g : V3 × V3) : Rat := f.1.dot g.2 + f.2.dot g.1
abbrev scD (f : V3 × V3) : D := sD f.1 f.2
def smul (f : V3 × V3) (c : Rat) : V3 × V3 := (f.1.mul c, f.2.mul c)
/-- a weighed sum of screws -/
def wsc (u : Nat → V3 × V3) (x : Nat → Rat) : Nat → V3 × V3
  | 0 => (V3.nil, V3.nil)
  | k + 1 => padd (wsc u x k) (smul (u k) (x k))
abbrev smp (f : V3 × V3) : Prop := smw f.1 ∧ smw f.2
theorem weighed_w {n : Nat} {u : Nat → V3 × V3} {x : Nat → Rat} {S A : D} [hS : TupV S (rl n fun i => rD (x i))] [hA : TupV A (rl n fun i => scD (u i))]
    (hu : ∀ i, i < n → smp (u i)) (hx : ∀ i, i < n → sm (x i)) (hp : ∀ i, i < n → smp (smul (u i) (x i))) (hw : ∀ i, i < n → smp (wsc u x i)) (q : Q (scD (wsc u x n)) M) : Ok (f_weighed_screws [S, A] M) Q := by
  refine w_run rfl ?_
  unfold m_weighed_screws
  (repeat first | refine Step.e ?_ | (first | (refine ifk_t ?_ ?_; focus (first | omega | decide | (simp; done))) | (refine ifk_f ?_ ?_; focus (first | omega | decide | (simp; done)))))
  refine zip_V ?_
  rw [zip_rl]
  unfold rl
  refine go_inv (fun i : Nat => D.tup [rD (x i), scD (u i)]) (fun dn _ ρ M1 => M1 = M ∧ ∃ x3 x4, ρ = [some S, some A, some (scD (wsc u x dn.length)), x3, x4]) (List.range n) (fun k dn rest ρ M1 hsp hI => ?_) (fun ρ M1 hI => ?_) (List.range n) [] _ _ rfl ⟨rfl, none, none, rfl⟩
  · obtain ⟨rfl, x3, x4, rfl⟩ := hI
    obtain ⟨rfl, hk⟩ := range_split hsp
    (repeat first | refine Step.e ?_ | (first | (refine ifk_t ?_ ?_; focus (first | omega | decide | (simp; done))) | (refine ifk_f ?_ ?_; focus (first | omega | decide | (simp; done)))))
    refine ok_of (times_of_sz (hu _ hk).1 (hu _ hk).2 (hx _ hk)) ?_
    (repeat first | refine Step.e ?_ | (first | (refine ifk_t ?_ ?_; focus (first | omega | decide | (simp; done))) | (refine ifk_f ?_ ?_; focus (first | omega | decide | (simp; done)))))
    refine ok_of (sum_of_sz (hw _ hk).1 (hw _ hk).2 (hp _ hk).1 (hp _ hk).2) ?_
    (repeat first | refine Step.e ?_ | (first | (refine ifk_t ?_ ?_; focus (first | omega | decide | (simp; done))) | (refine ifk_f ?_ ?_; focus (first | omega | decide | (simp; done)))))
    exact ⟨rfl, _, _, by rw [List.length_append, List.length_singleton]; rfl⟩
  · obtain ⟨rfl, x3, x4, rfl⟩ := hI
    rw [List.length_range]
    (repeat first | refine Step.e ?_ | (first | (refine ifk_t ?_ ?_; focus (first | omega | decide | (simp; done))) | (refine ifk_f ?_ ?_; focus (first | omega | decide | (simp; done)))))
    exact q
theorem kept_w {n k ku kb b s c Φ : Nat} {l : Bod} {u : Nat → V3 × V3} {g : V3 × V3} {A : D} [hA : TupV A (rl n fun i => scD (u i))]
    (hl : lb k l) (hu : ∀ i, i < n → lw U ku (u i).1 ∧ lw U ku (u i).2) (hg : lw U kb g.1 ∧ lw U kb g.2) (hk : ku + 3 * k + 3 + l.length + ku + 3 ≤ 140) (hk2 : kb + ku + 3 ≤ 140) (hk3 : k ≤ 40)
    (hn : n ≤ 99) (hrow : ∀ j, j < n → ∃ N, 0 < N ∧ N < 2 ^ s ∧ ∀ i, i < n + 1 → la N b (rowR n (fun i j => pw (mom l (u i).1 (u i).2) (u j)) (fun j => pw g (u j)) j i)) (hs : s ≤ 8000)
    (hc : 2 * n ≤ 2 ^ c) (hΦ : Φ = (c + b) * n + 1) (hsz : b + (n + 1) * (Φ + 1) + 1 ≤ 8000) (hb1 : 1 ≤ b) (hΦ2 : Φ ≤ 4400) (hcons : Cons n n (fun i j => pw (mom l (u i).1 (u i).2) (u j)) (fun j => pw g (u j)))
    (hw : ∀ x : Nat → Rat, (∀ i, bt Φ (x i).num ∧ bt Φ ((x i).den : Int)) → (∀ i, i < n → smp (smul (u i) (x i))) ∧ ∀ i, i < n → smp (wsc u x i))
    (q : ∀ x : Nat → Rat, (∀ j, j < n → Sg n (fun i => x i * pw (mom l (u i).1 (u i).2) (u j)) = pw g (u j)) → (∀ i, bt Φ (x i).num ∧ bt Φ ((x i).den : Int)) → Q (scD (wsc u x n)) M) :
    Ok (f_kept_by [bD l, A, scD g] M) Q := by
  have hln : ∀ {h : Nat → D}, (List.map h (List.range n)).length ≤ 16777216 := fun {h} => by rw [List.length_map, List.length_range]; omega
  have hrl : ∀ {h : Nat → D}, (rl n h).length ≤ 16777216 := hln
  refine w_run rfl ?_
  unfold m_kept_by
  (repeat first | refine Step.e ?_ | (first | (refine ifk_t ?_ ?_; focus (first | omega | decide | (simp; done))) | (refine ifk_f ?_ ?_; focus (first | omega | decide | (simp; done)))))
  refine lck hrl ?_
  unfold rl
  refine lcgo_map (fun i : Nat => scD (u i)) (fun i => scD (mom l (u i).1 (u i).2)) (List.range n) (fun i hi => ?_) ?_
  · have hi := List.mem_range.mp hi
    obtain ⟨e1, _⟩ := momentum_by_ev (M := M) (hu i hi).1 (hu i hi).2 hl (by omega) hk3
    (repeat first | refine Step.e ?_ | (first | (refine ifk_t ?_ ?_; focus (first | omega | decide | (simp; done))) | (refine ifk_f ?_ ?_; focus (first | omega | decide | (simp; done)))))
    refine ⟨rfl, ?_⟩
    (repeat first | refine Step.e ?_ | (first | (refine ifk_t ?_ ?_; focus (first | omega | decide | (simp; done))) | (refine ifk_f ?_ ?_; focus (first | omega | decide | (simp; done)))))
    exact ok_of e1 ⟨rfl, rfl⟩
  refine mkk_lstV hln fun d1 i1 f1 => ?_
  (repeat first | refine Step.e ?_ | (first | (refine ifk_t ?_ ?_; focus (first | omega | decide | (simp; done))) | (refine ifk_f ?_ ?_; focus (first | omega | decide | (simp; done)))))
  refine lck hln ?_
  refine lcgo_map (fun i : Nat => scD (mom l (u i).1 (u i).2)) (fun i => fracsD n fun j => pw (mom l (u i).1 (u i).2) (u j)) (List.range n) (fun i hi => ?_) ?_
  · have hi := List.mem_range.mp hi
    obtain ⟨_, z1, z2⟩ := momentum_by_ev (M := M) (hu i hi).1 (hu i hi).2 hl (by omega) hk3
    (repeat first | refine Step.e ?_ | (first | (refine ifk_t ?_ ?_; focus (first | omega | decide | (simp; done))) | (refine ifk_f ?_ ?_; focus (first | omega | decide | (simp; done)))))
    refine ⟨rfl, ?_⟩
    (repeat first | refine Step.e ?_ | (first | (refine ifk_t ?_ ?_; focus (first | omega | decide | (simp; done))) | (refine ifk_f ?_ ?_; focus (first | omega | decide | (simp; done)))))
    refine lck hrl ?_
    unfold rl
    refine lcgo_map (fun j : Nat => scD (u j)) (fun j => rD (pw (mom l (u i).1 (u i).2) (u j))) (List.range n) (fun j hj => ?_) ?_
    · have hj := List.mem_range.mp hj
      (repeat first | refine Step.e ?_ | (first | (refine ifk_t ?_ ?_; focus (first | omega | decide | (simp; done))) | (refine ifk_f ?_ ?_; focus (first | omega | decide | (simp; done)))))
      refine ⟨rfl, ?_⟩
      (repeat first | refine Step.e ?_ | (first | (refine ifk_t ?_ ?_; focus (first | omega | decide | (simp; done))) | (refine ifk_f ?_ ?_; focus (first | omega | decide | (simp; done)))))
      exact ok_of (powered_ev (M := M) z1 z2 (hu j hj).1 (hu j hj).2 (by omega) (by omega) (by omega)) ⟨rfl, rfl⟩
    exact mkk_lst hln ⟨rfl, rfl⟩
  refine mkk_lstV hln fun d2 i2 f2 => ?_
  (repeat first | refine Step.e ?_ | (first | (refine ifk_t ?_ ?_; focus (first | omega | decide | (simp; done))) | (refine ifk_f ?_ ?_; focus (first | omega | decide | (simp; done)))))
  refine lck hrl ?_
  unfold rl
  refine lcgo_map (fun j : Nat => scD (u j)) (fun j => rD (pw g (u j))) (List.range n) (fun j hj => ?_) ?_
  · have hj := List.mem_range.mp hj
    (repeat first | refine Step.e ?_ | (first | (refine ifk_t ?_ ?_; focus (first | omega | decide | (simp; done))) | (refine ifk_f ?_ ?_; focus (first | omega | decide | (simp; done)))))
    refine ⟨rfl, ?_⟩
    (repeat first | refine Step.e ?_ | (first | (refine ifk_t ?_ ?_; focus (first | omega | decide | (simp; done))) | (refine ifk_f ?_ ?_; focus (first | omega | decide | (simp; done)))))
    exact ok_of (powered_ev (M := M) hg.1 hg.2 (hu j hj).1 (hu j hj).2 (by omega) (by omega) (by omega)) ⟨rfl, rfl⟩
  refine mkk_lstV hln fun d3 i3 f3 => ?_
  haveI j2 : LstV d2 (rl n fun i => fracsD n fun j => pw (mom l (u i).1 (u i).2) (u j)) := ⟨i2.e⟩
  haveI j3 : LstV d3 (rl n fun j => rD (pw g (u j))) := ⟨i3.e⟩
  (repeat first | refine Step.e ?_ | (first | (refine ifk_t ?_ ?_; focus (first | omega | decide | (simp; done))) | (refine ifk_f ?_ ?_; focus (first | omega | decide | (simp; done)))))
  refine shares_for_w (n := n) (L := n) (b := b) (s := s) (c := c) (Φ := Φ) (T := fun i j => pw (mom l (u i).1 (u i).2) (u j)) (y := fun j => pw g (u j)) hn (by omega) hrow hs hc hΦ hsz hb1 hcons fun x hx hxs => ?_
  obtain ⟨w1, w2⟩ := hw x hxs
  (repeat first | refine Step.e ?_ | (first | (refine ifk_t ?_ ?_; focus (first | omega | decide | (simp; done))) | (refine ifk_f ?_ ?_; focus (first | omega | decide | (simp; done)))))
  refine weighed_w (n := n) (u := u) (x := x) (fun i hi => ⟨(hu i hi).1.sz (by omega), (hu i hi).2.sz (by omega)⟩) (fun i _ => ⟨(hxs i).1.mono, (hxs i).2.mono⟩) w1 w2 ?_
  (repeat first | refine Step.e ?_ | (first | (refine ifk_t ?_ ?_; focus (first | omega | decide | (simp; done))) | (refine ifk_f ?_ ?_; focus (first | omega | decide | (simp; done)))))
  exact q x hx hxs
end
end G86

set_option Elab.async false
set_option linter.all false
set_option maxRecDepth 100000
set_option maxHeartbeats 4000000
namespace G86
open DL RW
/-! ### momentum is linear, symmetric and definite -/
abbrev momS (l : Bod) (f : V3 × V3) : V3 × V3 := mom l f.1 f.2
theorem pt_add (a b a' b' : V3) (p : V3 × Rat) : pt (a.add a') (b.add b') p = padd (pt a b p) (pt a' b' p) := by
  unfold padd pt
  refine Prod.ext ?_ ?_ <;> refine V3.ext' ?_ ?_ ?_ <;> simp only [V3.add, V3.mul, V3.cross] <;> grind
theorem pt_mul (a b : V3) (c : Rat) (p : V3 × Rat) : pt (a.mul c) (b.mul c) p = smul (pt a b p) c := by
  unfold smul pt
  refine Prod.ext ?_ ?_ <;> refine V3.ext' ?_ ?_ ?_ <;> simp only [V3.add, V3.mul, V3.cross] <;> grind
theorem padd4 (f g h k : V3 × V3) : padd (padd f g) (padd h k) = padd (padd f h) (padd g k) := by
  unfold padd
  refine Prod.ext ?_ ?_ <;> refine V3.ext' ?_ ?_ ?_ <;> simp only [V3.add] <;> grind
theorem mom_nil (f : V3 × V3) : momS [] f = (V3.nil, V3.nil) := rfl
theorem mom_add (f g : V3 × V3) : ∀ l : Bod, momS l (padd f g) = padd (momS l f) (momS l g)
  | [] => by rw [mom_nil, mom_nil, mom_nil]; unfold padd; rw [V3.add_nil]
  | p :: l => by
    have ih := mom_add f g l
    unfold momS at *
    rw [mom_cons, mom_cons, mom_cons, ih, padd4]
    congr 1
    exact pt_add _ _ _ _ _
theorem smul_padd (f g : V3 × V3) (c : Rat) : smul (padd f g) c = padd (smul f c) (smul g c) := by
  unfold smul padd
  refine Prod.ext ?_ ?_ <;> refine V3.ext' ?_ ?_ ?_ <;> simp only [V3.add, V3.mul] <;> grind
theorem smul_nil (c : Rat) : smul (V3.nil, V3.nil) c = (V3.nil, V3.nil) := by
  unfold smul
  refine Prod.ext ?_ ?_ <;> refine V3.ext' ?_ ?_ ?_ <;> simp only [V3.mul, V3.nil] <;> grind
theorem mom_smul (f : V3 × V3) (c : Rat) : ∀ l : Bod, momS l (smul f c) = smul (momS l f) c
  | [] => by rw [mom_nil, mom_nil, smul_nil]
  | p :: l => by
    have ih := mom_smul f c l
    unfold momS at *
    rw [mom_cons, mom_cons, ih, smul_padd]
    congr 1
    exact pt_mul _ _ _ _
abbrev spd (f : V3 × V3) (p : V3) : V3 := f.2.add (f.1.cross p)
def bil (f g : V3 × V3) : Bod → Rat
  | [] => 0
  | p :: l => p.2 * (spd f p.1).dot (spd g p.1) + bil f g l
theorem pw_add (f g h : V3 × V3) : pw (padd f g) h = pw f h + pw g h := by
  simp only [pw, padd, V3.add, V3.dot]; grind
theorem pw_addr (f g h : V3 × V3) : pw h (padd f g) = pw h f + pw h g := by
  simp only [pw, padd, V3.add, V3.dot]; grind
theorem pw_smul (f h : V3 × V3) (c : Rat) : pw (smul f c) h = c * pw f h := by
  simp only [pw, smul, V3.mul, V3.dot]; grind
theorem pw_smulr (f h : V3 × V3) (c : Rat) : pw h (smul f c) = c * pw h f := by
  simp only [pw, smul, V3.mul, V3.dot]; grind
theorem pw_comm (f g : V3 × V3) : pw f g = pw g f := by
  simp only [pw, V3.dot]; grind
theorem pw_mom (f g : V3 × V3) : ∀ l : Bod, pw (momS l f) g = bil f g l
  | [] => by rw [mom_nil]; simp only [pw, V3.nil, V3.dot, bil]; grind
  | p :: l => by
    have ih := pw_mom f g l
    unfold momS at *
    rw [mom_cons, pw_add, ih, bil]
    congr 1
    simp only [pw, pt, spd, V3.dot, V3.add, V3.mul, V3.cross]
    grind
theorem bil_comm (f g : V3 × V3) : ∀ l : Bod, bil f g l = bil g f l
  | [] => rfl
  | p :: l => by
    rw [bil, bil, bil_comm f g l]
    congr 2
    simp only [V3.dot]; grind
theorem mom_sym (l : Bod) (f g : V3 × V3) : pw (momS l f) g = pw (momS l g) f := by rw [pw_mom, pw_mom, bil_comm]
theorem sq_nonneg (x : Rat) : 0 ≤ x * x := by
  rcases Rat.le_total (a := 0) (b := x) with h | h
  · exact Rat.mul_nonneg h h
  · have h2 : 0 ≤ -x := by grind
    have := Rat.mul_nonneg h2 h2
    grind
theorem dot_nonneg (u : V3) : 0 ≤ u.dot u := by
  have a := sq_nonneg u.x
  have b := sq_nonneg u.y
  have c := sq_nonneg u.z
  simp only [V3.dot]; grind
theorem sq_zero {x : Rat} (h : x * x = 0) : x = 0 := by
  rcases Rat.mul_eq_zero.mp h with z | z <;> exact z
theorem dot_zero {u : V3} (h : u.dot u = 0) : u = V3.nil := by
  have a := sq_nonneg u.x
  have b := sq_nonneg u.y
  have c := sq_nonneg u.z
  simp only [V3.dot] at h
  exact V3.ext' (sq_zero (by grind)) (sq_zero (by grind)) (sq_zero (by grind))
theorem bil_nonneg (f : V3 × V3) : ∀ l : Bod, (∀ p ∈ l, 0 < p.2) → 0 ≤ bil f f l
  | [], _ => Rat.le_refl
  | p :: l, h => by
    have a := bil_nonneg f l fun q hq => h q (List.mem_cons_of_mem _ hq)
    have b := Rat.mul_nonneg (Rat.le_of_lt (h p List.mem_cons_self)) (dot_nonneg (spd f p.1))
    rw [bil]; grind
theorem bil_zero (f : V3 × V3) : ∀ l : Bod, (∀ p ∈ l, 0 < p.2) → bil f f l = 0 → ∀ p ∈ l, spd f p.1 = V3.nil
  | [], _, _, p, h => by cases h
  | q :: l, h, e, p, hp => by
    have a := bil_nonneg f l fun q hq => h q (List.mem_cons_of_mem _ hq)
    have hq := h q List.mem_cons_self
    have b := Rat.mul_nonneg (Rat.le_of_lt hq) (dot_nonneg (spd f q.1))
    rw [bil] at e
    rcases List.mem_cons.mp hp with rfl | hp
    · have e1 : p.2 * (spd f p.1).dot (spd f p.1) = 0 := by grind
      rcases Rat.mul_eq_zero.mp e1 with z | z
      · rw [z] at hq; exact absurd hq Rat.lt_irrefl
      · exact dot_zero z
    · exact bil_zero f l (fun q hq => h q (List.mem_cons_of_mem _ hq)) (by grind) p hp
theorem along_two {a u v : V3} (h1 : a.cross u = V3.nil) (h2 : a.cross v = V3.nil) (h : u.cross v ≠ V3.nil) : a = V3.nil := by
  have e1 := congrArg V3.x h1
  have e2 := congrArg V3.y h1
  have e3 := congrArg V3.z h1
  have e4 := congrArg V3.x h2
  have e5 := congrArg V3.y h2
  have e6 := congrArg V3.z h2
  simp only [V3.cross, V3.nil] at e1 e2 e3 e4 e5 e6
  have k : ∀ c : Rat, (c = (u.cross v).x ∨ c = (u.cross v).y ∨ c = (u.cross v).z) → c * a.x = 0 ∧ c * a.y = 0 ∧ c * a.z = 0 := by
    rintro c (rfl | rfl | rfl) <;> simp only [V3.cross] <;> refine ⟨?_, ?_, ?_⟩ <;> grind
  by_cases z1 : (u.cross v).x = 0
  · by_cases z2 : (u.cross v).y = 0
    · by_cases z3 : (u.cross v).z = 0
      · exact absurd (V3.ext' z1 z2 z3) h
      · obtain ⟨k1, k2, k3⟩ := k _ (.inr (.inr rfl))
        exact V3.ext' ((Rat.mul_eq_zero.mp k1).resolve_left z3) ((Rat.mul_eq_zero.mp k2).resolve_left z3) ((Rat.mul_eq_zero.mp k3).resolve_left z3)
    · obtain ⟨k1, k2, k3⟩ := k _ (.inr (.inl rfl))
      exact V3.ext' ((Rat.mul_eq_zero.mp k1).resolve_left z2) ((Rat.mul_eq_zero.mp k2).resolve_left z2) ((Rat.mul_eq_zero.mp k3).resolve_left z2)
  · obtain ⟨k1, k2, k3⟩ := k _ (.inl rfl)
    exact V3.ext' ((Rat.mul_eq_zero.mp k1).resolve_left z1) ((Rat.mul_eq_zero.mp k2).resolve_left z1) ((Rat.mul_eq_zero.mp k3).resolve_left z1)
theorem spd_zero {l : Bod} (ht : tri (l.map (·.1))) {f : V3 × V3} (h : ∀ p ∈ l, spd f p.1 = V3.nil) : f = (V3.nil, V3.nil) := by
  obtain ⟨p, q, r, hp, hq, hr, hne⟩ := ht
  have at' : ∀ p, p ∈ l.map (·.1) → spd f p = V3.nil := fun p hp => by
    obtain ⟨x, hx, rfl⟩ := List.mem_map.mp hp
    exact h x hx
  have df : ∀ q, q ∈ l.map (·.1) → f.1.cross (q.sub p) = V3.nil := fun q hq => by
    have a := at' p hp
    have b := at' q hq
    have a1 := congrArg V3.x a
    have a2 := congrArg V3.y a
    have a3 := congrArg V3.z a
    have b1 := congrArg V3.x b
    have b2 := congrArg V3.y b
    have b3 := congrArg V3.z b
    simp only [spd, V3.add, V3.cross, V3.nil] at a1 a2 a3 b1 b2 b3
    refine V3.ext' ?_ ?_ ?_ <;> simp only [V3.cross, V3.sub, V3.nil] <;> grind
  have f1 : f.1 = V3.nil := along_two (df q hq) (df r hr) hne
  have f2 : f.2 = V3.nil := by
    have a := at' p hp
    rw [spd, f1, nil_cross, V3.add_nil] at a
    exact a
  exact Prod.ext f1 f2
theorem mom_zero {l : Bod} (ht : tri (l.map (·.1))) (hp : ∀ p ∈ l, 0 < p.2) {f : V3 × V3} (h : momS l f = (V3.nil, V3.nil)) : f = (V3.nil, V3.nil) := by
  refine spd_zero ht (bil_zero f l hp ?_)
  rw [← pw_mom, h]
  simp only [pw, V3.nil, V3.dot]; grind
theorem mom_inj {l : Bod} (ht : tri (l.map (·.1))) (hp : ∀ p ∈ l, 0 < p.2) {f g : V3 × V3} (h : momS l f = momS l g) : f = g := by
  have e : padd f (smul g (-1)) = (V3.nil, V3.nil) := mom_zero ht hp (by
    rw [mom_add, mom_smul, h]
    unfold padd smul
    refine Prod.ext ?_ ?_ <;> refine V3.ext' ?_ ?_ ?_ <;> simp only [V3.add, V3.mul, V3.nil] <;> grind)
  have e1 := congrArg Prod.fst e
  have e2 := congrArg Prod.snd e
  simp only [padd, smul] at e1 e2
  have a1 := congrArg V3.x e1
  have a2 := congrArg V3.y e1
  have a3 := congrArg V3.z e1
  have b1 := congrArg V3.x e2
  have b2 := congrArg V3.y e2
  have b3 := congrArg V3.z e2
  simp only [V3.add, V3.mul, V3.nil] at a1 a2 a3 b1 b2 b3
  refine Prod.ext ?_ ?_ <;> refine V3.ext' ?_ ?_ ?_ <;> grind
/-! ### the six unit screws -/
def uni (i : Nat) : V3 × V3 := (ax i, ⟨if i = 3 then 1 else 0, if i = 4 then 1 else 0, if i = 5 then 1 else 0⟩)
def ofx (x : Nat → Rat) : V3 × V3 := (⟨x 0, x 1, x 2⟩, ⟨x 3, x 4, x 5⟩)
/-- the screws of the first so many shares -/
def wk (x : Nat → Rat) (k : Nat) : V3 × V3 := (⟨if 0 < k then x 0 else 0, if 1 < k then x 1 else 0, if 2 < k then x 2 else 0⟩, ⟨if 3 < k then x 3 else 0, if 4 < k then x 4 else 0, if 5 < k then x 5 else 0⟩)
theorem wsc_uni (x : Nat → Rat) : ∀ k, k ≤ 6 → wsc uni x k = wk x k
  | 0, _ => rfl
  | k + 1, h => by
    rw [wsc, wsc_uni x k (by omega)]
    rcases (show k = 0 ∨ k = 1 ∨ k = 2 ∨ k = 3 ∨ k = 4 ∨ k = 5 by omega) with rfl | rfl | rfl | rfl | rfl | rfl <;>
      refine Prod.ext ?_ ?_ <;> refine V3.ext' ?_ ?_ ?_ <;> simp [wk, padd, smul, uni, ax, V3.add, V3.mul] <;> grind
theorem wk6 (x : Nat → Rat) : wk x 6 = ofx x := rfl
theorem pw_wsc (f : V3 × V3) (x : Nat → Rat) (u : Nat → V3 × V3) : ∀ n, pw f (wsc u x n) = Sg n fun i => x i * pw f (u i)
  | 0 => by show pw f (V3.nil, V3.nil) = 0; simp only [pw, V3.nil, V3.dot]; grind
  | n + 1 => by
    show pw f (padd (wsc u x n) (smul (u n) (x n))) = Sg n _ + x n * pw f (u n)
    rw [pw_addr, pw_wsc f x u n, pw_smulr]
theorem mom_wsc (l : Bod) (x : Nat → Rat) (u : Nat → V3 × V3) (g : V3 × V3) : ∀ n, pw (momS l (wsc u x n)) g = Sg n fun i => x i * pw (momS l (u i)) g
  | 0 => by
    show pw (momS l (V3.nil, V3.nil)) g = 0
    rw [show momS l (V3.nil, V3.nil) = (V3.nil, V3.nil) from mom_rest l]
    simp only [pw, V3.nil, V3.dot]; grind
  | n + 1 => by
    show pw (momS l (padd (wsc u x n) (smul (u n) (x n)))) g = Sg n _ + x n * pw (momS l (u n)) g
    rw [mom_add, pw_add, mom_wsc l x u g n, mom_smul, pw_smul]
theorem pw_uni {f g : V3 × V3} (h : ∀ j, j < 6 → pw f (uni j) = pw g (uni j)) : f = g := by
  have h0 := h 0 (by decide)
  have h1 := h 1 (by decide)
  have h2 := h 2 (by decide)
  have h3 := h 3 (by decide)
  have h4 := h 4 (by decide)
  have h5 := h 5 (by decide)
  simp [pw, uni, ax, V3.dot] at h0 h1 h2 h3 h4 h5
  refine Prod.ext ?_ ?_ <;> refine V3.ext' ?_ ?_ ?_ <;> grind
theorem cons_uni {l : Bod} (ht : tri (l.map (·.1))) (hp : ∀ p ∈ l, 0 < p.2) (g : V3 × V3) : Cons 6 6 (fun i j => pw (momS l (uni i)) (uni j)) (fun j => pw g (uni j)) := by
  intro c hc
  have z : ofx c = (V3.nil, V3.nil) := mom_zero ht hp (pw_uni fun i hi => by
    have e := hc i hi
    rw [← pw_wsc, mom_sym, wsc_uni c 6 (by decide), wk6] at e
    rw [e]
    simp only [pw, V3.nil, V3.dot]; grind)
  rw [← pw_wsc, wsc_uni c 6 (by decide), wk6, z]
  simp only [pw, V3.nil, V3.dot]; grind
theorem sol_uni {l : Bod} {x : Nat → Rat} {g : V3 × V3} (h : ∀ j, j < 6 → Sg 6 (fun i => x i * pw (momS l (uni i)) (uni j)) = pw g (uni j)) : momS l (wsc uni x 6) = g :=
  pw_uni fun j hj => by rw [mom_wsc]; exact h j hj
end G86

set_option Elab.async false
set_option linter.all false
set_option maxRecDepth 100000
set_option maxHeartbeats 4000000
namespace G86
open DL RW
/-! ### sizes of the table and of the goals -/
abbrev lts (N r : Nat) (f : V3 × V3) : Prop := lt3 N r f.1 ∧ lt3 N r f.2
theorem la_one : la 1 1 1 := ⟨1, by rw [Rat.one_mul]; rfl, bt.one⟩
theorem la_if {P : Prop} [Decidable P] : la 1 1 (if P then 1 else 0) := by
  by_cases h : P
  · rw [if_pos h]; exact la_one
  · rw [if_neg h]; exact la.zero
theorem uni_lts {i : Nat} : lts 1 1 (uni i) := ⟨⟨la_if, la_if, la_if⟩, la_if, la_if, la_if⟩
theorem lv_if {P : Prop} [Decidable P] : lv U 0 (if P then 1 else 0) := by
  by_cases h : P
  · rw [if_pos h]; exact lv.int (i := 1) (by decide)
  · rw [if_neg h]; exact lv.zero
theorem uni_lw {i : Nat} : lw U 0 (uni i).1 ∧ lw U 0 (uni i).2 := ⟨⟨lv_if, lv_if, lv_if⟩, lv_if, lv_if, lv_if⟩
theorem la.comm {N K r : Nat} {q : Rat} (h : la (N * K) r q) : la (K * N) r q := by rw [Nat.mul_comm]; exact h
theorem la.cg {N K r : Nat} {q : Rat} (h : la N r q) (e : N = K) : la K r q := e ▸ h
theorem lt3.cg {N K r : Nat} {u : V3} (h : lt3 N r u) (e : N = K) : lt3 K r u := e ▸ h
/-- a body with small points and masses -/
structure Tight (N r : Nat) (l : Bod) : Prop where
  pos : 0 < N
  p : ∀ p ∈ l, lt3 N r p.1
  m : ∀ p ∈ l, la 30 25 p.2
section
variable {N r s L t : Nat} {l : Bod} {f : V3 × V3}
/-- one point's part of the momentum -/
theorem pt_lts {p : V3 × Rat} (hp : lt3 N r p.1) (hm : la 30 25 p.2) (hN : N ≤ 2 ^ s) (hs : s ≤ r) (h : lts L t f) : lts (30 * N * N * L) (t + 2 * r + 30) (pt f.1 f.2 p) := by
  have a1 : lt3 (L * N) (t + r + 1) (f.1.cross p.1) := h.1.cross hp
  have a2 : lt3 (L * N) (t + r + 1) f.2 := (h.2.up N s hN).mono
  have a3 := a2.add a1
  have a4 : lt3 (L * N * 30) (t + r + 1 + 1 + 25) ((f.2.add (f.1.cross p.1)).mul p.2) := a3.mul hm
  have a5 : lt3 (N * (L * N * 30)) (r + (t + r + 1 + 1 + 25) + 1) (p.1.cross ((f.2.add (f.1.cross p.1)).mul p.2)) := hp.cross a4
  have e : N * (L * N * 30) = 30 * N * N * L := by
    rw [Nat.mul_comm (L * N) 30, Nat.mul_comm L N, ← Nat.mul_assoc, ← Nat.mul_assoc, Nat.mul_comm N 30]
  refine ⟨((a4.up N s hN).mono (s := t + 2 * r + 30)).cg ?_, (a5.mono (s := t + 2 * r + 30)).cg e⟩
  rw [Nat.mul_comm _ N, e]
theorem mom_lts (hN : N ≤ 2 ^ s) (hs : s ≤ r) (h : lts L t f) : ∀ l : Bod, (∀ p ∈ l, lt3 N r p.1) → (∀ p ∈ l, la 30 25 p.2) → lts (30 * N * N * L) (t + 2 * r + 30 + l.length) (momS l f)
  | [], _, _ => ⟨lt3.nil, lt3.nil⟩
  | p :: l, h1, h2 => by
    have a := pt_lts (h1 p List.mem_cons_self) (h2 p List.mem_cons_self) hN hs h
    have b := mom_lts hN hs h l (fun q hq => h1 q (List.mem_cons_of_mem _ hq)) fun q hq => h2 q (List.mem_cons_of_mem _ hq)
    unfold momS at *
    rw [mom_cons, List.length_cons]
    exact ⟨((a.1.mono (s := t + 2 * r + 30 + l.length)).add b.1).mono, ((a.2.mono (s := t + 2 * r + 30 + l.length)).add b.2).mono⟩
theorem pw_la {K a b : Nat} {f g : V3 × V3} (h : lts N a f) (k : lts K b g) : la (N * K) (a + b + 3) (pw f g) := (h.1.dot k.2).add (h.2.dot k.1)
end
section
variable {M : Store} {Q : D → Store → Prop}
theorem blown_rows {N r s Ny ry sy b : Nat} {l : Bod} {g : V3 × V3} (tg : Tight N r l) (hN : N ≤ 2 ^ s) (hs : s ≤ r) (hl : l.length ≤ 8) (hy : lts Ny ry g) (hNy : 0 < Ny) (hNy2 : Ny ≤ 2 ^ sy) (hb1 : 2 * r + 43 + sy ≤ b) (hb2 : ry + 9 + 2 * s ≤ b)
    (hs2 : 5 + 2 * s + sy < 8000) (j : Nat) : ∃ K, 0 < K ∧ K < 2 ^ (6 + 2 * s + sy) ∧ ∀ i, i < 7 → la K b (rowR 6 (fun i j => pw (momS l (uni i)) (uni j)) (fun j => pw g (uni j)) j i) := by
  have p30 : 30 * N * N ≤ 2 ^ (5 + 2 * s) := by
    rw [show 5 + 2 * s = 5 + s + s by omega, Nat.pow_add, Nat.pow_add]
    exact Nat.mul_le_mul (Nat.mul_le_mul (by decide) hN) hN
  refine ⟨30 * N * N * Ny, Nat.mul_pos (Nat.mul_pos (Nat.mul_pos (by decide) tg.pos) tg.pos) hNy, ?_, fun i hi => ?_⟩
  · refine Nat.lt_of_le_of_lt (Nat.mul_le_mul p30 hNy2) ?_
    rw [← Nat.pow_add]
    exact Nat.pow_lt_pow_right (by decide) (by omega)
  · unfold rowR
    by_cases h : i < 6
    · rw [if_pos h]
      have a := mom_lts (l := l) hN hs (uni_lts (i := i)) tg.p tg.m
      have c := pw_la a (uni_lts (i := j))
      have d := c.up Ny sy hNy2
      exact (d.mono (s := b)).cg (by rw [Nat.mul_one, Nat.mul_one])
    · rw [if_neg h]
      have c := pw_la hy (uni_lts (i := j))
      have d := c.up (30 * N * N) (5 + 2 * s) p30
      exact (d.mono (s := b)).cg (by rw [Nat.mul_one, Nat.mul_comm])
/-- what a blown move has for sizes -/
def told0 (f : V3 × V3) : Prop := szw 601 601 f.1 ∧ szw 601 601 f.2
theorem sz_zero {n d : Nat} (h : 1 ≤ d) : bt n (0 : Rat).num ∧ bt d ((0 : Rat).den : Int) := ⟨bt.zero, bt.one.mono⟩
theorem uni_eq : c_UNITS = .tup (rl 6 fun i => scD (uni i)) := rfl
theorem wk_sz {x : Nat → Rat} {n : Nat} (hn : 1 ≤ n) (hx : ∀ i, bt n (x i).num ∧ bt n ((x i).den : Int)) (k : Nat) : szw n n (wk x k).1 ∧ szw n n (wk x k).2 := by
  have one : ∀ (P : Prop) [Decidable P] (i : Nat), bt n (if P then x i else 0 : Rat).num ∧ bt n ((if P then x i else 0 : Rat).den : Int) := fun P _ i => by
    by_cases h : P
    · rw [if_pos h]; exact hx i
    · rw [if_neg h]; exact sz_zero hn
  exact ⟨⟨one _ _, one _ _, one _ _⟩, one _ _, one _ _, one _ _⟩
theorem smul_uni_sz {x : Rat} {n i : Nat} (hn : 1 ≤ n) (hx : bt n x.num ∧ bt n (x.den : Int)) : szw n n (smul (uni i) x).1 ∧ szw n n (smul (uni i) x).2 := by
  have one : ∀ (P : Prop) [Decidable P], bt n ((if P then (1 : Rat) else 0) * x).num ∧ bt n (((if P then (1 : Rat) else 0) * x).den : Int) := fun P _ => by
    by_cases h : P
    · rw [if_pos h, Rat.one_mul]; exact hx
    · rw [if_neg h, Rat.zero_mul]; exact sz_zero hn
  exact ⟨⟨one _, one _, one _⟩, one _, one _, one _⟩
theorem blown_w {N r s Ny ry sy k kb : Nat} {l : Bod} {g : V3 × V3} (gd : Good k l) (tg : Tight N r l) (hN : N ≤ 2 ^ s) (hs : s ≤ r) (hy : lts Ny ry g) (hNy : 0 < Ny) (hNy2 : Ny ≤ 2 ^ sy) (hb1 : 2 * r + 43 + sy ≤ 96) (hb2 : ry + 9 + 2 * s ≤ 96)
    (hg : lw U kb g.1 ∧ lw U kb g.2) (hk : 3 * k + 14 ≤ 134) (hk2 : kb + 3 ≤ 140) (q : ∀ f : V3 × V3, momS l f = g → told0 f → Q (scD f) M) : Ok (f_blown [bD l, scD g] M) Q := by
  have hlen := gd.hi
  refine w_run rfl ?_
  unfold m_blown
  (repeat first | refine Step.e ?_ | (first | (refine ifk_t ?_ ?_; focus (first | omega | decide | (simp; done))) | (refine ifk_f ?_ ?_; focus (first | omega | decide | (simp; done)))))
  refine ok_of (check_body_ev gd) ?_
  (repeat first | refine Step.e ?_ | (first | (refine ifk_t ?_ ?_; focus (first | omega | decide | (simp; done))) | (refine ifk_f ?_ ?_; focus (first | omega | decide | (simp; done)))))
  refine ok_of check_screw_ev ?_
  (repeat first | refine Step.e ?_ | (first | (refine ifk_t ?_ ?_; focus (first | omega | decide | (simp; done))) | (refine ifk_f ?_ ?_; focus (first | omega | decide | (simp; done)))))
  haveI : TupV c_UNITS (rl 6 fun i => scD (uni i)) := ⟨uni_eq⟩
  refine kept_w (n := 6) (k := k) (ku := 0) (kb := kb) (b := 96) (s := 6 + 2 * s + sy) (c := 4) (Φ := 601) (u := uni) gd.lb (fun i _ => uni_lw) hg (by omega) (by omega) (by omega) (by decide)
    (fun j _ => blown_rows tg hN hs hlen hy hNy hNy2 hb1 hb2 (by omega) j) (by omega) (by decide) (by decide) (by decide) (by decide) (by decide) (cons_uni gd.tri gd.pos g) (fun x hx => ⟨fun i _ => ?_, fun i hi => ?_⟩) fun x hx hxs => ?_
  · have := smul_uni_sz (i := i) (by decide) (hx i)
    exact ⟨this.1.mono, this.2.mono⟩
  · rw [wsc_uni x i (by omega)]
    have := wk_sz (by decide) hx i
    exact ⟨this.1.mono, this.2.mono⟩
  · (repeat first | refine Step.e ?_ | (first | (refine ifk_t ?_ ?_; focus (first | omega | decide | (simp; done))) | (refine ifk_f ?_ ?_; focus (first | omega | decide | (simp; done)))))
    refine q _ (sol_uni hx) ?_
    rw [wsc_uni x 6 (by decide)]
    exact wk_sz (by decide) hxs 6
end
end G86

set_option Elab.async false
set_option linter.all false
set_option maxRecDepth 100000
set_option maxHeartbeats 4000000
namespace G86
open DL RW
/-! ### the law's sums -/
def sumR (l : List (Int × Int)) : Rat := l.foldl (fun s p => s + Rat.divInt p.1 p.2) 0
theorem sumR_snoc (l : List (Int × Int)) (p : Int × Int) : sumR (l ++ [p]) = sumR l + Rat.divInt p.1 p.2 := by
  unfold sumR; rw [List.foldl_append]; rfl
section
variable {M : Store} {Q : D → Store → Prop}
instance {a b : Int} : TupV (uD a b) [.int a, .int b] := ⟨rfl⟩
theorem ltotal_w {l : List (Int × Int)} {n d : Nat} (h : ∀ p ∈ l, p.2 ≠ 0 ∧ bt n p.1 ∧ bt d p.2) (hn : n ≤ 50000) (hl : l.length ≤ 1000) (hd : 1 + d * l.length ≤ 8999) (q : Q (rD (sumR l)) M) : Ok (f__law_total [.lst (l.map fun p => uD p.1 p.2)] M) Q := by
  refine w_run rfl ?_
  unfold m__law_total
  (repeat first | refine Step.e ?_ | (first | (refine ifk_t ?_ ?_; focus (first | omega | decide | (simp; done))) | (refine ifk_f ?_ ?_; focus (first | omega | decide | (simp; done)))))
  refine go_inv (fun p : Int × Int => uD p.1 p.2) (fun dn _ ρ M' => M' = M ∧ ∃ (o u : Int) (x3 : Option D), ρ = [some (.lst (l.map fun p => uD p.1 p.2)), some (.int o), some (.int u), x3] ∧ u ≠ 0 ∧ bt (n + d * dn.length + dn.length + 1) o ∧ bt (1 + d * dn.length) u ∧ Rat.divInt o u = sumR dn) l (fun p dn rest ρ M' hsp hI => ?_) (fun ρ M' hI => ?_) l [] _ _ rfl ⟨rfl, 0, 1, none, rfl, by decide, bt.zero, bt.one.mono, rfl⟩
  · obtain ⟨rfl, o, u, x3, rfl, hu, ho, hub, hs⟩ := hI
    obtain ⟨h1, h2, h3⟩ := h p (by rw [← hsp]; exact List.mem_append_right _ List.mem_cons_self)
    have hlen : dn.length + 1 ≤ l.length := by
      have := congrArg List.length hsp
      rw [List.length_append, List.length_cons] at this
      omega
    have hdl : d * dn.length + d ≤ d * l.length := by rw [← Nat.mul_succ]; exact Nat.mul_le_mul_left _ hlen
    (repeat first | refine Step.e ?_ | (first | (refine ifk_t ?_ ?_; focus (first | omega | decide | (simp; done))) | (refine ifk_f ?_ ?_; focus (first | omega | decide | (simp; done)))))
    refine d_mul (ho.mk h3 (by omega)) ?_
    (repeat first | refine Step.e ?_ | (first | (refine ifk_t ?_ ?_; focus (first | omega | decide | (simp; done))) | (refine ifk_f ?_ ?_; focus (first | omega | decide | (simp; done)))))
    refine d_mul (h2.mk hub (by omega)) ?_
    (repeat first | refine Step.e ?_ | (first | (refine ifk_t ?_ ?_; focus (first | omega | decide | (simp; done))) | (refine ifk_f ?_ ?_; focus (first | omega | decide | (simp; done)))))
    refine d_mul (hub.mk h3 (by omega)) ?_
    (repeat first | refine Step.e ?_ | (first | (refine ifk_t ?_ ?_; focus (first | omega | decide | (simp; done))) | (refine ifk_f ?_ ?_; focus (first | omega | decide | (simp; done)))))
    refine ⟨rfl, _, _, _, rfl, Int.mul_ne_zero hu h1, ?_, ?_, ?_⟩
    · rw [List.length_append, List.length_singleton, Nat.mul_succ]
      exact ((ho.mul h3).mono (n := n + d * dn.length + dn.length + 1 + d) |>.add ((h2.mul hub).mono (n := n + d * dn.length + dn.length + 1 + d))).mono
    · rw [List.length_append, List.length_singleton, Nat.mul_succ]
      exact (hub.mul h3).mono
    · rw [sumR_snoc, ← hs, Rat.divInt_add_divInt _ _ hu h1]
  · obtain ⟨rfl, o, u, x3, rfl, hu, ho, hub, hs⟩ := hI
    (repeat first | refine Step.e ?_ | (first | (refine ifk_t ?_ ?_; focus (first | omega | decide | (simp; done))) | (refine ifk_f ?_ ?_; focus (first | omega | decide | (simp; done)))))
    refine ok_of (low_ev hu hub.mono) ?_
    (repeat first | refine Step.e ?_ | (first | (refine ifk_t ?_ ?_; focus (first | omega | decide | (simp; done))) | (refine ifk_f ?_ ?_; focus (first | omega | decide | (simp; done)))))
    rw [hs]; exact q
instance {mk : List D → Store → Res D} {u v : V3} : Step (Ok (dAdd mk (tD u) (tD v) M) Q) (Q (.tup [rD u.x, rD u.y, rD u.z, rD v.x, rD v.y, rD v.z]) M) := ⟨fun q => d_addT (xs := [rD u.x, rD u.y, rD u.z]) (ys := [rD v.x, rD v.y, rD v.z]) (by show 6 ≤ _; omega) q⟩
abbrev scz (n d : Nat) (f : V3 × V3) : Prop := szw n d f.1 ∧ szw n d f.2
theorem lpower_w {n1 d1 n2 d2 : Nat} {f g : V3 × V3} (hf : scz n1 d1 f) (hg : scz n2 d2 g) (hn : n1 + n2 ≤ 40000) (hd : 1 + (d1 + d2) * 6 ≤ 8999) (q : Q (rD (pw f g)) M) : Ok (f__law_power [scD f, scD g] M) Q := by
  obtain ⟨⟨f1, f2, f3⟩, f4, f5, f6⟩ := hf
  obtain ⟨⟨g1, g2, g3⟩, g4, g5, g6⟩ := hg
  refine w_run rfl ?_
  unfold m__law_power
  (repeat first | refine Step.e ?_ | (first | (refine ifk_t ?_ ?_; focus (first | omega | decide | (simp; done))) | (refine ifk_f ?_ ?_; focus (first | omega | decide | (simp; done)))))
  refine w_run rfl ?_
  unfold m__law_dot
  (repeat first | refine Step.e ?_ | (first | (refine ifk_t ?_ ?_; focus (first | omega | decide | (simp; done))) | (refine ifk_f ?_ ?_; focus (first | omega | decide | (simp; done)))))
  refine d_mul (f1.1.mk g4.1 (by omega)) ?_
  (repeat first | refine Step.e ?_ | (first | (refine ifk_t ?_ ?_; focus (first | omega | decide | (simp; done))) | (refine ifk_f ?_ ?_; focus (first | omega | decide | (simp; done)))))
  refine d_mul (f1.2.mk g4.2 (by omega)) ?_
  (repeat first | refine Step.e ?_ | (first | (refine ifk_t ?_ ?_; focus (first | omega | decide | (simp; done))) | (refine ifk_f ?_ ?_; focus (first | omega | decide | (simp; done)))))
  refine d_mul (f2.1.mk g5.1 (by omega)) ?_
  (repeat first | refine Step.e ?_ | (first | (refine ifk_t ?_ ?_; focus (first | omega | decide | (simp; done))) | (refine ifk_f ?_ ?_; focus (first | omega | decide | (simp; done)))))
  refine d_mul (f2.2.mk g5.2 (by omega)) ?_
  (repeat first | refine Step.e ?_ | (first | (refine ifk_t ?_ ?_; focus (first | omega | decide | (simp; done))) | (refine ifk_f ?_ ?_; focus (first | omega | decide | (simp; done)))))
  refine d_mul (f3.1.mk g6.1 (by omega)) ?_
  (repeat first | refine Step.e ?_ | (first | (refine ifk_t ?_ ?_; focus (first | omega | decide | (simp; done))) | (refine ifk_f ?_ ?_; focus (first | omega | decide | (simp; done)))))
  refine d_mul (f3.2.mk g6.2 (by omega)) ?_
  (repeat first | refine Step.e ?_ | (first | (refine ifk_t ?_ ?_; focus (first | omega | decide | (simp; done))) | (refine ifk_f ?_ ?_; focus (first | omega | decide | (simp; done)))))
  refine d_mul (f4.1.mk g1.1 (by omega)) ?_
  (repeat first | refine Step.e ?_ | (first | (refine ifk_t ?_ ?_; focus (first | omega | decide | (simp; done))) | (refine ifk_f ?_ ?_; focus (first | omega | decide | (simp; done)))))
  refine d_mul (f4.2.mk g1.2 (by omega)) ?_
  (repeat first | refine Step.e ?_ | (first | (refine ifk_t ?_ ?_; focus (first | omega | decide | (simp; done))) | (refine ifk_f ?_ ?_; focus (first | omega | decide | (simp; done)))))
  refine d_mul (f5.1.mk g2.1 (by omega)) ?_
  (repeat first | refine Step.e ?_ | (first | (refine ifk_t ?_ ?_; focus (first | omega | decide | (simp; done))) | (refine ifk_f ?_ ?_; focus (first | omega | decide | (simp; done)))))
  refine d_mul (f5.2.mk g2.2 (by omega)) ?_
  (repeat first | refine Step.e ?_ | (first | (refine ifk_t ?_ ?_; focus (first | omega | decide | (simp; done))) | (refine ifk_f ?_ ?_; focus (first | omega | decide | (simp; done)))))
  refine d_mul (f6.1.mk g3.1 (by omega)) ?_
  (repeat first | refine Step.e ?_ | (first | (refine ifk_t ?_ ?_; focus (first | omega | decide | (simp; done))) | (refine ifk_f ?_ ?_; focus (first | omega | decide | (simp; done)))))
  refine d_mul (f6.2.mk g3.2 (by omega)) ?_
  (repeat first | refine Step.e ?_ | (first | (refine ifk_t ?_ ?_; focus (first | omega | decide | (simp; done))) | (refine ifk_f ?_ ?_; focus (first | omega | decide | (simp; done)))))
  let pr (a b : Rat) : Int × Int := (a.num * b.num, (a.den : Int) * b.den)
  have one : ∀ {a b : Rat}, bt n1 a.num ∧ bt d1 (a.den : Int) → bt n2 b.num ∧ bt d2 (b.den : Int) → (pr a b).2 ≠ 0 ∧ bt (n1 + n2) (pr a b).1 ∧ bt (d1 + d2) (pr a b).2 := fun {a b} h k => ⟨den_mul_ne a b, h.1.mul k.1, h.2.mul k.2⟩
  refine ltotal_w (l := [pr f.1.x g.2.x, pr f.1.y g.2.y, pr f.1.z g.2.z, pr f.2.x g.1.x, pr f.2.y g.1.y, pr f.2.z g.1.z]) (n := n1 + n2) (d := d1 + d2) (fun p hp => ?_) (by omega) (by show 6 ≤ _; omega) hd ?_
  · simp only [List.mem_cons, List.not_mem_nil, or_false] at hp
    rcases hp with rfl | rfl | rfl | rfl | rfl | rfl
    · exact one f1 g4
    · exact one f2 g5
    · exact one f3 g6
    · exact one f4 g1
    · exact one f5 g2
    · exact one f6 g3
  (repeat first | refine Step.e ?_ | (first | (refine ifk_t ?_ ?_; focus (first | omega | decide | (simp; done))) | (refine ifk_f ?_ ?_; focus (first | omega | decide | (simp; done)))))
  have e : sumR [pr f.1.x g.2.x, pr f.1.y g.2.y, pr f.1.z g.2.z, pr f.2.x g.1.x, pr f.2.y g.1.y, pr f.2.z g.1.z] = pw f g := by
    simp only [sumR, List.foldl_cons, List.foldl_nil, pr, mul_parts, pw, V3.dot]
    grind
  rw [e]; exact q
/-! ### a move with one small number below -/
def told (f : V3 × V3) : Prop := ∃ D : Nat, 0 < D ∧ D < 2 ^ 601 ∧ lts D 601 f
theorem la.sz {N r d : Nat} {q : Rat} (h : la N r q) (h0 : 0 < N) (hd : N < 2 ^ d) : bt r q.num ∧ bt d (q.den : Int) :=
  ⟨h.num h0, bt.nat (Nat.lt_of_le_of_lt (Nat.le_of_dvd h0 h.den) hd)⟩
theorem lts.sz {N r d : Nat} {f : V3 × V3} (h : lts N r f) (h0 : 0 < N) (hd : N < 2 ^ d) : scz r d f :=
  ⟨⟨h.1.1.sz h0 hd, h.1.2.1.sz h0 hd, h.1.2.2.sz h0 hd⟩, h.2.1.sz h0 hd, h.2.2.1.sz h0 hd, h.2.2.2.sz h0 hd⟩
theorem told.sz {f : V3 × V3} (h : told f) : scz 601 601 f := let ⟨_, h1, h2, h3⟩ := h; h3.sz h1 h2
theorem la.lv {D r : Nat} {q : Rat} (h : la D r q) : lv ⟨D, 2 ^ r⟩ 0 q := by
  obtain ⟨z, h1, h2⟩ := h
  refine ⟨z, ?_, ?_⟩
  · show q * (((D * CC ^ 0 : Nat) : Int) : Rat) = z
    rw [Nat.pow_zero, Nat.mul_one, Rat.intCast_natCast]; exact h1
  · show z.natAbs ≤ 2 ^ r * CC ^ (2 * 0)
    rw [Nat.mul_zero, Nat.pow_zero, Nat.mul_one]
    exact Nat.le_of_lt h2
theorem told_lv {f : V3 × V3} (h : told f) : ∃ T : Bs, Bas T 126 ∧ lw T 0 f.1 ∧ lw T 0 f.2 := by
  obtain ⟨D, h1, h2, h3, h4⟩ := h
  refine ⟨⟨D, 2 ^ 601⟩, ⟨h1, ?_, ?_⟩, ⟨h3.1.lv, h3.2.1.lv, h3.2.2.lv⟩, h4.1.lv, h4.2.1.lv, h4.2.2.lv⟩
  · refine Nat.lt_of_le_of_lt (Nat.mul_le_mul_left _ (CC_lt _)) ?_
    show 2 ^ 601 * 2 ^ (30 * (2 * 126)) < _
    rw [← Nat.pow_add]
    exact Nat.pow_lt_pow_right (by decide) (by decide)
  · refine Nat.lt_of_lt_of_le (Nat.mul_lt_mul_of_lt_of_le h2 (CC_lt 126) (Nat.two_pow_pos _)) ?_
    rw [← Nat.pow_add]
    exact Nat.pow_le_pow_right (by decide) (by decide)
/-- a small solution -/
theorem small_sol {l : Bod} {g : V3 × V3} (ht : tri (l.map (·.1))) (hp : ∀ p ∈ l, 0 < p.2) (hr : ∀ j, ∃ K, 0 < K ∧ ∀ i, i < 7 → la K 96 (rowR 6 (fun i j => pw (momS l (uni i)) (uni j)) (fun j => pw g (uni j)) j i)) : ∃ x, momS l x = g ∧ told x := by
  obtain ⟨K, hK⟩ := Classical.skolem.mp hr
  have hz : ∀ j, ∃ z : Nat → Int, ∀ i, i < 7 → rowR 6 (fun i j => pw (momS l (uni i)) (uni j)) (fun j => pw g (uni j)) j i * (K j : Rat) = (z i : Rat) ∧ bt 96 (z i) := fun j =>
    ⟨fun i => if h : i < 7 then ((hK j).2 i h).choose else 0, fun i hi => by
      show _ = ((if h : i < 7 then ((hK j).2 i h).choose else 0 : Int) : Rat) ∧ bt 96 (if h : i < 7 then ((hK j).2 i h).choose else 0)
      rw [dif_pos hi]
      exact ((hK j).2 i hi).choose_spec⟩
  obtain ⟨z, hz⟩ := Classical.skolem.mp hz
  obtain ⟨c, ⟨i0, hi0, hc0⟩, hcb, hcs⟩ := siegel (r := 7) (B := 2 ^ 96) (by decide) (by decide) (fun i j => z j i) (fun i j hi hj => Nat.le_of_lt (hz j i hi).2)
  have hcb : ∀ i, i < 7 → bt 601 (c i) := fun i hi => Nat.lt_of_le_of_lt (hcb i hi) (by decide)
  -- the relation told with the table itself
  have rel : ∀ j, j < 6 → Sg 6 (fun i => (c i : Rat) * pw (momS l (uni i)) (uni j)) + (c 6 : Rat) * pw g (uni j) = 0 := fun j hj => by
    have e := congrArg (fun k : Int => (k : Rat)) (hcs j hj)
    rw [Sg_cast] at e
    have k0 : (K j : Rat) ≠ 0 := fun w => by
      have := Rat.natCast_inj.mp (w.trans (show (0 : Rat) = ((0 : Nat) : Rat) from rfl))
      have := (hK j).1
      omega
    have e2 : Sg 7 (fun i => ((c i * z j i : Int) : Rat)) = Sg 7 (fun i => ((c i : Rat) * rowR 6 (fun i j => pw (momS l (uni i)) (uni j)) (fun j => pw g (uni j)) j i) * (K j : Rat)) := Sg_congr fun i hi => by
      rw [Rat.intCast_mul, ← (hz j i hi).1, Rat.mul_assoc]
    have e3 : Sg 7 (fun i => (c i : Rat) * rowR 6 (fun i j => pw (momS l (uni i)) (uni j)) (fun j => pw g (uni j)) j i) * (K j : Rat) = 0 := by
      rw [← Sg_mulr, ← e2]; exact e
    have e4 := (Rat.mul_eq_zero.mp e3).resolve_right k0
    rw [Sg_snoc] at e4
    rw [← e4]
    congr 1
  have c6 : c 6 ≠ 0 := fun w => by
    have z0 : wsc uni (fun i => (c i : Rat)) 6 = (V3.nil, V3.nil) := mom_zero ht hp (pw_uni fun j hj => by
      have e := rel j hj
      rw [w] at e
      rw [mom_wsc]
      have e1 : pw (V3.nil, V3.nil) (uni j) = 0 := by simp only [pw, V3.nil, V3.dot]; grind
      rw [e1]
      have : ((0 : Int) : Rat) = 0 := rfl
      rw [this] at e
      grind)
    rw [wsc_uni _ 6 (by decide), wk6] at z0
    have p1 := congrArg Prod.fst z0
    have p2 := congrArg Prod.snd z0
    have q0 := c_zero (congrArg V3.x p1)
    have q1 := c_zero (congrArg V3.y p1)
    have q2 := c_zero (congrArg V3.z p1)
    have q3 := c_zero (congrArg V3.x p2)
    have q4 := c_zero (congrArg V3.y p2)
    have q5 := c_zero (congrArg V3.z p2)
    rcases (show i0 = 0 ∨ i0 = 1 ∨ i0 = 2 ∨ i0 = 3 ∨ i0 = 4 ∨ i0 = 5 ∨ i0 = 6 by omega) with rfl | rfl | rfl | rfl | rfl | rfl | rfl
    · exact hc0 q0
    · exact hc0 q1
    · exact hc0 q2
    · exact hc0 q3
    · exact hc0 q4
    · exact hc0 q5
    · exact hc0 w
  have c6' : (c 6 : Rat) ≠ 0 := c_ne c6
  let x : Nat → Rat := fun i => -(c i : Rat) / (c 6 : Rat)
  refine ⟨wsc uni x 6, sol_uni fun j hj => ?_, (c 6).natAbs, by omega, hcb 6 (by decide), ?_⟩
  · have e := rel j hj
    have e1 : Sg 6 (fun i => x i * pw (momS l (uni i)) (uni j)) = (-1 / (c 6 : Rat)) * Sg 6 (fun i => (c i : Rat) * pw (momS l (uni i)) (uni j)) := by
      rw [← Sg_mul]
      exact Sg_congr fun i _ => by show -(c i : Rat) / (c 6 : Rat) * _ = _; grind
    rw [e1]
    grind
  · have ab : ((c 6).natAbs : Rat) = (c 6 : Rat) ∨ ((c 6).natAbs : Rat) = -(c 6 : Rat) := by
      rw [← Rat.intCast_natCast]
      rcases Int.natAbs_eq (c 6) with h | h
      · left; congr 1; omega
      · right; rw [← Rat.intCast_neg]; congr 1; omega
    have one : ∀ i, i < 6 → la (c 6).natAbs 601 (x i) := fun i hi => by
      rcases ab with h | h
      · refine ⟨-c i, ?_, (hcb i (by omega)).neg⟩
        rw [h, Rat.intCast_neg]
        show -(c i : Rat) / (c 6 : Rat) * _ = _
        grind
      · refine ⟨c i, ?_, hcb i (by omega)⟩
        rw [h]
        show -(c i : Rat) / (c 6 : Rat) * _ = _
        grind
    rw [wsc_uni x 6 (by decide), wk6]
    exact ⟨⟨one 0 (by decide), one 1 (by decide), one 2 (by decide)⟩, one 3 (by decide), one 4 (by decide), one 5 (by decide)⟩
theorem blown_ev {N r s Ny ry sy k kb : Nat} {l : Bod} {g : V3 × V3} (gd : Good k l) (tg : Tight N r l) (hN : N ≤ 2 ^ s) (hs : s ≤ r) (hy : lts Ny ry g) (hNy : 0 < Ny) (hNy2 : Ny ≤ 2 ^ sy) (hb1 : 2 * r + 43 + sy ≤ 96) (hb2 : ry + 9 + 2 * s ≤ 96)
    (hg : lw U kb g.1 ∧ lw U kb g.2) (hk : 3 * k + 14 ≤ 134) (hk2 : kb + 3 ≤ 140) : ∃ x, momS l x = g ∧ told x ∧ ∀ M, f_blown [bD l, scD g] M = .ok (scD x) M := by
  have hlen := gd.hi
  obtain ⟨x, hx, ht⟩ := small_sol gd.tri gd.pos fun j => by
    obtain ⟨K, h1, _, h2⟩ := blown_rows (b := 96) tg hN hs hlen hy hNy hNy2 hb1 hb2 (by omega) j
    exact ⟨K, h1, h2⟩
  refine ⟨x, hx, ht, fun M => ok_eq ?_⟩
  refine blown_w gd tg hN hs hy hNy hNy2 hb1 hb2 hg hk hk2 fun f hf _ => ?_
  rw [mom_inj gd.tri gd.pos (hf.trans hx.symm)]
  exact ⟨rfl, rfl⟩
end
end G86

set_option Elab.async false
set_option linter.all false
set_option maxRecDepth 100000
set_option maxHeartbeats 4000000
namespace G86
open DL RW
theorem pr_range {i j : Int} (h : -2 ≤ i ∧ i ≤ 2) (g : -2 ≤ j ∧ j ≤ 2) : -4 ≤ i * j ∧ i * j ≤ 4 := by
  rcases (show i = -2 ∨ i = -1 ∨ i = 0 ∨ i = 1 ∨ i = 2 by omega) with rfl | rfl | rfl | rfl | rfl <;> omega
theorem row_lv {j : Nat} {t : Tn} {u : V3} {a b c : Int} {r : Rat} (ht : t.Sm) (hu : lw U j u) (ha : a.natAbs ≤ 100) (hb : b.natAbs ≤ 100) (hc : c.natAbs ≤ 100) (hr : r = u.x * ((a : Rat) * (1 / t.n)) + u.y * ((b : Rat) * (1 / t.n)) + u.z * ((c : Rat) * (1 / t.n))) : lv U (j + 4) r := by
  have k := ht.ok.k
  rw [hr]
  have e1 := hu.1.mul ((int_lv (i := a) (by omega)).mul k)
  have e2 := hu.2.1.mul ((int_lv (i := b) (by omega)).mul k)
  have e3 := hu.2.2.mul ((int_lv (i := c) (by omega)).mul k)
  have e4 : lv U (j + 3) _ := e1.add e2
  exact e4.add e3
theorem row_la {N r n : Nat} {t : Tn} {u : V3} {a b c : Int} {q : Rat} (hn : t.n = (n : Rat)) (h0 : 0 < n) (hu : lt3 N r u) (ha : a.natAbs < 32) (hb : b.natAbs < 32) (hc : c.natAbs < 32) (hr : q = u.x * ((a : Rat) * (1 / t.n)) + u.y * ((b : Rat) * (1 / t.n)) + u.z * ((c : Rat) * (1 / t.n))) : la (N * n) (r + 7) q := by
  have n0 : (n : Rat) ≠ 0 := fun z => by
    have := Rat.natCast_inj.mp (z.trans (show (0 : Rat) = ((0 : Nat) : Rat) from rfl))
    omega
  have one : ∀ {i : Int}, i.natAbs < 32 → la n 5 ((i : Rat) * (1 / t.n)) := fun {i} h => ⟨i, by rw [hn]; grind, h⟩
  rw [hr]
  exact (((hu.1.mul (one ha)).add (hu.2.1.mul (one hb))).add ((hu.2.2.mul (one hc)).mono)).mono
/-- a turn moves the level by 4 alone -/
theorem R_tight {j : Nat} {t : Tn} {u : V3} (ht : t.Sm) (hu : lw U j u) : lw U (j + 4) (t.R u) := by
  have ww := pr_range ht.w ht.w
  have xx := pr_range ht.x ht.x
  have yy := pr_range ht.y ht.y
  have zz := pr_range ht.z ht.z
  have wx := pr_range ht.w ht.x
  have wy := pr_range ht.w ht.y
  have wz := pr_range ht.w ht.z
  have xy := pr_range ht.x ht.y
  have xz := pr_range ht.x ht.z
  have yz := pr_range ht.y ht.z
  refine ⟨row_lv (a := t.w * t.w + t.x * t.x - t.y * t.y - t.z * t.z) (b := 2 * (t.x * t.y) - 2 * (t.w * t.z)) (c := 2 * (t.x * t.z) + 2 * (t.w * t.y)) ht hu (by omega) (by omega) (by omega) ?_, row_lv (a := 2 * (t.x * t.y) + 2 * (t.w * t.z)) (b := t.w * t.w - t.x * t.x + t.y * t.y - t.z * t.z) (c := 2 * (t.y * t.z) - 2 * (t.w * t.x)) ht hu (by omega) (by omega) (by omega) ?_, row_lv (a := 2 * (t.x * t.z) - 2 * (t.w * t.y)) (b := 2 * (t.y * t.z) + 2 * (t.w * t.x)) (c := t.w * t.w - t.x * t.x - t.y * t.y + t.z * t.z) ht hu (by omega) (by omega) (by omega) ?_⟩
  all_goals
    simp only [Tn.R, V3.add, V3.mul, V3.dot, V3.cross, Tn.v, Rat.intCast_add, Rat.intCast_sub, Rat.intCast_mul, show ((2 : Int) : Rat) = 2 from rfl]
    generalize 1 / t.n = k
    grind
theorem R_la {N r n : Nat} {t : Tn} {u : V3} (ht : t.Sm) (hn : t.n = (n : Rat)) (h0 : 0 < n) (hu : lt3 N r u) : lt3 (N * n) (r + 7) (t.R u) := by
  have ww := pr_range ht.w ht.w
  have xx := pr_range ht.x ht.x
  have yy := pr_range ht.y ht.y
  have zz := pr_range ht.z ht.z
  have wx := pr_range ht.w ht.x
  have wy := pr_range ht.w ht.y
  have wz := pr_range ht.w ht.z
  have xy := pr_range ht.x ht.y
  have xz := pr_range ht.x ht.z
  have yz := pr_range ht.y ht.z
  refine ⟨row_la (a := t.w * t.w + t.x * t.x - t.y * t.y - t.z * t.z) (b := 2 * (t.x * t.y) - 2 * (t.w * t.z)) (c := 2 * (t.x * t.z) + 2 * (t.w * t.y)) hn h0 hu (by omega) (by omega) (by omega) ?_, row_la (a := 2 * (t.x * t.y) + 2 * (t.w * t.z)) (b := t.w * t.w - t.x * t.x + t.y * t.y - t.z * t.z) (c := 2 * (t.y * t.z) - 2 * (t.w * t.x)) hn h0 hu (by omega) (by omega) (by omega) ?_, row_la (a := 2 * (t.x * t.z) - 2 * (t.w * t.y)) (b := 2 * (t.y * t.z) + 2 * (t.w * t.x)) (c := t.w * t.w - t.x * t.x - t.y * t.y + t.z * t.z) hn h0 hu (by omega) (by omega) (by omega) ?_⟩
  all_goals
    simp only [Tn.R, V3.add, V3.mul, V3.dot, V3.cross, Tn.v, Rat.intCast_add, Rat.intCast_sub, Rat.intCast_mul, show ((2 : Int) : Rat) = 2 from rfl]
    generalize 1 / t.n = k
    grind
theorem R_sub (t : Tn) (s p q : V3) : ((t.R q).add s).sub ((t.R p).add s) = t.R (q.sub p) := by
  refine V3.ext' ?_ ?_ ?_ <;> simp only [Tn.R, V3.add, V3.sub, V3.mul, V3.dot, V3.cross] <;> generalize 1 / t.n = k <;> grind
theorem R_ne {t : Tn} {u : V3} (h : t.n ≠ 0) (hu : u ≠ V3.nil) : t.R u ≠ V3.nil := by
  intro e
  have d := R_dot t u u h
  rw [e] at d
  have z : V3.nil.dot V3.nil = (0 : Rat) := by simp only [V3.dot, V3.nil]; grind
  exact hu (dot_zero (d.symm.trans z))
/-- a placed body is a body -/
theorem good_pl {t : Tn} {s : V3} {l : Bod} (ht : t.Sm) (hs : lw U 1 s) (g : Good 2 l) : Good 7 (plB t s l) := by
  refine ⟨?_, by rw [plB, List.length_map]; exact g.lo, by rw [plB, List.length_map]; exact g.hi, ?_, ?_⟩
  · intro q hq
    obtain ⟨p, hp, rfl⟩ := List.mem_map.mp hq
    have := g.lb p hp
    have e : lw U 6 (t.R p.1) := R_tight ht this.1
    exact ⟨e.add hs, this.2.mono⟩
  · intro q hq
    obtain ⟨p, hp, rfl⟩ := List.mem_map.mp hq
    exact g.pos p hp
  · obtain ⟨p, q, r, hp, hq, hr, hc⟩ := g.tri
    have mem : ∀ p, p ∈ l.map (·.1) → (t.R p).add s ∈ (plB t s l).map (·.1) := by
      intro p hp
      obtain ⟨x, hx, rfl⟩ := List.mem_map.mp hp
      exact List.mem_map.mpr ⟨_, List.mem_map.mpr ⟨x, hx, rfl⟩, rfl⟩
    refine ⟨_, _, _, mem p hp, mem q hq, mem r hr, ?_⟩
    rw [R_sub, R_sub, R_cross t _ _ ht.ok.n]
    exact R_ne ht.ok.n hc
/-- a placed body's sizes -/
theorem Tn.Sm.nat {t : Tn} (h : t.Sm) : ∃ n : Nat, t.n = (n : Rat) ∧ 0 < n ∧ n ≤ 16 := by
  obtain ⟨N, e, h1, h2⟩ := h.hr
  refine ⟨N.toNat, ?_, by omega, by omega⟩
  rw [e, ← Rat.intCast_natCast, show ((N.toNat : Nat) : Int) = N by omega]
theorem tight_pl {n : Nat} {t : Tn} {s : V3} {l : Bod} (ht : t.Sm) (hn : t.n = (n : Rat)) (h0 : 0 < n) (h16 : n ≤ 16) (hs : lt3 6 9 s) (g : Tight 6 10 l) : Tight (6 * n) 18 (plB t s l) := by
  refine ⟨Nat.mul_pos (by decide) h0, fun q hq => ?_, fun q hq => ?_⟩
  · obtain ⟨p, hp, rfl⟩ := List.mem_map.mp hq
    have a := R_la ht hn h0 (g.p p hp)
    have b := hs.up n 4 h16
    exact a.add b.mono
  · obtain ⟨p, hp, rfl⟩ := List.mem_map.mp hq
    exact g.m p hp
/-- a screw led by a placing -/
def leds (t : Tn) (s : V3) (f : V3 × V3) : V3 × V3 := (t.R f.1, (t.R f.2).add (s.cross (t.R f.1)))
theorem leds_lts {N r n : Nat} {t : Tn} {s : V3} {f : V3 × V3} (ht : t.Sm) (hn : t.n = (n : Rat)) (h0 : 0 < n) (hs : lt3 6 9 s) (h : lts N r f) : lts (6 * (N * n)) (r + 18) (leds t s f) := by
  have a := R_la ht hn h0 h.1
  have b := R_la ht hn h0 h.2
  have c := hs.cross a
  have a' := a.up 6 3
  have b' := b.up 6 3
  rw [Nat.mul_comm] at a' b'
  exact ⟨a'.mono, ((b'.mono (s := r + 17)).add (c.mono))⟩
theorem mom_leds (t : Tn) (s : V3) (h : t.n ≠ 0) (l : Bod) (f : V3 × V3) : momS (plB t s l) (leds t s f) = leds t s (momS l f) := mom_pl t s f.1 f.2 h l
end G86

set_option Elab.async false
set_option linter.all false
set_option maxRecDepth 100000
set_option maxHeartbeats 4000000
namespace G86
open DL RW
theorem two_lv : lv U 1 2 := int_lv (i := 2) (by decide)
section
variable {M : Store} {n m : Nat}
theorem dr_w {n m k : Nat} {r : Res D} {P : D → Prop} {Q : D → Store → Prop} (h : Dr n m k M r P) (q : ∀ d M', P d → Wl n (m + k) M' → Up n M M' → Q d M') : Ok r Q := by
  obtain ⟨d, M', e, p, w, u⟩ := h
  exact ok_of e (q d M' p w u)
/-- a factor: at most 1000003, over 1, 2, 3 or 7 -/
def fct (q : Rat) : Prop := ∃ (t u : Int), q = Rat.divInt t u ∧ t.natAbs ≤ 1000003 ∧ (u = 1 ∨ u = 2 ∨ u = 3 ∨ u = 7)
theorem fct_lv {q : Rat} (h : fct q) : lv U 1 q := by
  obtain ⟨t, u, rfl, h1, h4⟩ := h
  have e : ∀ k : Int, k * u = 720720000 → 1 ≤ k → k ≤ 720720000 → lc1 (Rat.divInt t u) := by
    intro k hk k1 k2
    refine ⟨t * k, ?_, ?_⟩
    · rw [show ((CC ^ 1 : Nat) : Int) = 720720000 from by decide]
      exact divInt_mul (by omega) hk
    · rw [show CC ^ (2 * 1) = 720720000 * 720720000 from by decide, Int.natAbs_mul]
      exact Nat.mul_le_mul (by omega) (by omega)
  rcases h4 with rfl | rfl | rfl | rfl
  · exact (e 720720000 (by decide) (by decide) (by decide)).u
  · exact (e 360360000 (by decide) (by decide) (by decide)).u
  · exact (e 240240000 (by decide) (by decide) (by decide)).u
  · exact (e 102960000 (by decide) (by decide) (by decide)).u
theorem fct_la {q : Rat} (h : fct q) : la 42 26 q := by
  obtain ⟨t, u, rfl, h1, h4⟩ := h
  have e : ∀ k : Int, k * u = 42 → k.natAbs ≤ 42 → la 42 26 (Rat.divInt t u) := fun k hk hk2 => ⟨t * k, by
    rw [show ((42 : Nat) : Rat) = ((42 : Int) : Rat) from rfl]; exact divInt_mul (by omega) hk, by
    unfold bt
    rw [Int.natAbs_mul]
    exact Nat.lt_of_le_of_lt (Nat.mul_le_mul h1 hk2) (by decide)⟩
  rcases h4 with rfl | rfl | rfl | rfl
  · exact e 42 (by decide) (by decide)
  · exact e 21 (by decide) (by decide)
  · exact e 14 (by decide) (by decide)
  · exact e 6 (by decide) (by decide)
theorem fraction_ev (hw : Wl n m M) (hm : m ≤ 900000) : Dr n m 3 M (f__law_fraction [.loc n] M) (fun d => ∃ q, d = rD q ∧ fct q) := by
  obtain ⟨b, hb⟩ := flag_ev hw
  let z : Int := if b = true then 1000003 else 40
  have hz : z = 1000003 ∨ z = 40 := by
    show (if _ then _ else _) = _ ∨ (if _ then _ else _) = _
    cases b <;> simp
  obtain ⟨d1, M1, e1, p1, w1, u1⟩ := pick_ev (ds := [.int 2, .int 3, .int 3, .int 5, .int 9, .int z]) hw (by show 0 < 6; decide) (by show 6 < 1000; decide) (by simp)
  obtain ⟨s, rfl, hs⟩ : ∃ s : Int, d1 = .int s ∧ (1 ≤ s ∧ s ≤ 1000003) := by
    simp at p1
    rcases p1 with h | h | h | h | h <;> exact ⟨_, h, by omega⟩
  obtain ⟨r, M2, f1, f2, f3, f4, f5⟩ := draw_ev (size := 2 * s + 1) w1 (by omega) (by omega) (by omega)
  obtain ⟨d2, M3, e3, p3, w3, u3⟩ := pick_ev (ds := [.int 1, .int 1, .int 1, .int 2, .int 3, .int 7]) f4 (by show 0 < 6; decide) (by show 6 < 1000; decide) (by simp)
  obtain ⟨u, rfl, hu⟩ : ∃ u : Int, d2 = .int u ∧ (u = 1 ∨ u = 2 ∨ u = 3 ∨ u = 7) := by
    simp at p3
    rcases p3 with h | h | h | h <;> exact ⟨_, h, by omega⟩
  have up : Up n M M3 := (u1.trans f5).trans u3
  have mo : mulOk 2 s = true := bt.two.mk (show bt 30 s by unfold bt; omega)
  refine ⟨rD (Rat.divInt (r - s) u), M3, ?_, ⟨_, rfl, r - s, u, rfl, by omega, hu⟩, w3.more, up⟩
  refine run_up (ρ1 := [some (.loc n), some (.int s)]) rfl ?_ free_rD up
  unfold m__law_fraction
  rw [seq_nx (M1 := M1) (ρ1 := [some (.loc n), some (.int s)]) (by
    refine asg_ev ((def_ev (n := 2) (ds := [.loc n, .lst [.int 2, .int 3, .int 3, .int 5, .int 9, .int z]]) (M1 := M) (cons_ev rfl (one_ev ((lst_ev (cons_ev rfl (cons_ev rfl (cons_ev rfl (cons_ev rfl (cons_ev rfl (one_ev (d := .int z) ?_))))))).trans (s_newLst (by show 6 ≤ _; omega))))) rfl).trans e1)
    have t : mTst (mOp dIx (mV 0) (mC (.int 3))) (sl0 2 [.loc n]) M = .ok b M := tst_ev ((op_ev rfl rfl).trans hb)
    cases b with
    | true => exact (mif_yes t).trans rfl
    | false => exact (mif_no t).trans rfl)]
  refine ret_ev ((def_ev (n := 2) (ds := [.int (r - s), .int u]) (M1 := M3) (cons_ev (M1 := M2) ((op_ev ((def_ev (n := 2) (ds := [.loc n, .int (2 * s + 1)]) (M1 := M1) (cons_ev rfl (one_ev ((op_ev ((op_ev rfl rfl).trans (mul_ok mo)) rfl).trans rfl))) rfl).trans f1) rfl).trans rfl) (one_ev ((def_ev (n := 2) (ds := [.loc n, .lst [.int 1, .int 1, .int 1, .int 2, .int 3, .int 7]]) (M1 := M2) rfl rfl).trans e3))) rfl).trans ?_)
  exact low_ev (by omega) (by unfold bt; exact Nat.lt_of_lt_of_le (show u.natAbs < 2 ^ 3 by omega) (Nat.pow_le_pow_right (by omega) (by omega)))
end
section
variable {M : Store} {Q : D → Store → Prop}
theorem lplus_sz {u v : V3} (h : smw u) (g : smw v) : f__law_plus [tD u, tD v] M = .ok (tD (u.add v)) M := by
  have e1 := @ladd_ev M _ _ h.1 g.1
  have e2 := @ladd_ev M _ _ h.2.1 g.2.1
  have e3 := @ladd_ev M _ _ h.2.2 g.2.2
  simp [f__law_plus, m__law_plus, tD, V3.add, e1, e2, e3, runDef, sl0, mSeq, mAsg, mDef, mCall, mCons, mRet, mLc, itSeq, seqF, wipeD, mLcGo, mOp, noErr, s_newLst, cTuple, seqOf, s_newTup, cutR, locFree, locFrees, mTup, mLst, mIf, mIfS, mTst, mNot, mNotT, mAnd, mOr, mAndT, mOrT, mFor, mForGo, cIsI, tyS, DL.isInt, mUn, dNeg, dIx, L2.atI, L2.ixN, mPar2, mPar3, mDrop, dGt, dLt, dGe, dLe, itZip, s_bTup, s_bTupL, cGcd]
theorem ltimes_sz {u : V3} {c : Rat} (h : smw u) (g : sm c) : f__law_times [tD u, rD c] M = .ok (tD (u.mul c)) M := by
  have e1 := @lmul_ev M _ _ h.1 g
  have e2 := @lmul_ev M _ _ h.2.1 g
  have e3 := @lmul_ev M _ _ h.2.2 g
  simp [f__law_times, m__law_times, tD, V3.mul, e1, e2, e3, runDef, sl0, mSeq, mAsg, mDef, mCall, mCons, mRet, mLc, itSeq, seqF, wipeD, mLcGo, mOp, noErr, s_newLst, cTuple, seqOf, s_newTup, cutR, locFree, locFrees, mTup, mLst, mIf, mIfS, mTst, mNot, mNotT, mAnd, mOr, mAndT, mOrT, mFor, mForGo, cIsI, tyS, DL.isInt, mUn, dNeg, dIx, L2.atI, L2.ixN, mPar2, mPar3, mDrop, dGt, dLt, dGe, dLe, itZip, s_bTup, s_bTupL, cGcd]
theorem lsplus_sz {f g : V3 × V3} (h : smp f) (k : smp g) : f__law_screws_plus [scD f, scD g] M = .ok (scD (padd f g)) M := by
  have e1 := lplus_sz (M := M) h.1 k.1
  have e2 := lplus_sz (M := M) h.2 k.2
  simp [f__law_screws_plus, m__law_screws_plus, sD, e1, e2, padd, runDef, sl0, mSeq, mAsg, mDef, mCall, mCons, mRet, mLc, itSeq, seqF, wipeD, mLcGo, mOp, noErr, s_newLst, cTuple, seqOf, s_newTup, cutR, locFree, locFrees, mTup, mLst, mIf, mIfS, mTst, mNot, mNotT, mAnd, mOr, mAndT, mOrT, mFor, mForGo, cIsI, tyS, DL.isInt, mUn, dNeg, dIx, L2.atI, L2.ixN, mPar2, mPar3, mDrop, dGt, dLt, dGe, dLe, itZip, s_bTup, s_bTupL, cGcd]
theorem lstimes_sz {f : V3 × V3} {c : Rat} (h : smp f) (k : sm c) : f__law_screw_times [scD f, rD c] M = .ok (scD (smul f c)) M := by
  have e1 := ltimes_sz (M := M) h.1 k
  have e2 := ltimes_sz (M := M) h.2 k
  simp [f__law_screw_times, m__law_screw_times, sD, e1, e2, smul, runDef, sl0, mSeq, mAsg, mDef, mCall, mCons, mRet, mLc, itSeq, seqF, wipeD, mLcGo, mOp, noErr, s_newLst, cTuple, seqOf, s_newTup, cutR, locFree, locFrees, mTup, mLst, mIf, mIfS, mTst, mNot, mNotT, mAnd, mOr, mAndT, mOrT, mFor, mForGo, cIsI, tyS, DL.isInt, mUn, dNeg, dIx, L2.atI, L2.ixN, mPar2, mPar3, mDrop, dGt, dLt, dGe, dLe, itZip, s_bTup, s_bTupL, cGcd]
theorem lis_whole_int {i : Int} : f__law_is_whole [.int i] M = .ok (.bl true) M := by
  simp [f__law_is_whole, m__law_is_whole, runDef, sl0, mSeq, mAsg, mDef, mCall, mCons, mRet, mLc, itSeq, seqF, wipeD, mLcGo, mOp, noErr, s_newLst, cTuple, seqOf, s_newTup, cutR, locFree, locFrees, mTup, mLst, mIf, mIfS, mTst, mNot, mNotT, mAnd, mOr, mAndT, mOrT, mFor, mForGo, cIsI, tyS, DL.isInt, mUn, dNeg, dIx, L2.atI, L2.ixN, mPar2, mPar3, mDrop, dGt, dLt, dGe, dLe, itZip, s_bTup, s_bTupL, cGcd]
theorem lis_fraction_w {q : Rat} (k : Q (.bl true) M) : Ok (f__law_is_fraction [rD q] M) Q := by
  refine w_run rfl ?_
  unfold m__law_is_fraction
  (repeat first | refine Step.e ?_ | (first | (refine ifk_t ?_ ?_; focus (first | omega | decide | (simp; done))) | (refine ifk_f ?_ ?_; focus (first | omega | decide | (simp; done)))))
  refine ok_of lis_whole_int ?_
  (repeat first | refine Step.e ?_ | (first | (refine ifk_t ?_ ?_; focus (first | omega | decide | (simp; done))) | (refine ifk_f ?_ ?_; focus (first | omega | decide | (simp; done)))))
  refine ok_of lis_whole_int ?_
  (repeat first | refine Step.e ?_ | (first | (refine ifk_t ?_ ?_; focus (first | omega | decide | (simp; done))) | (refine ifk_f ?_ ?_; focus (first | omega | decide | (simp; done)))))
  have hd := q.den_pos
  refine ⟨fun _ => ?_, fun h => absurd (of_decide_eq_false h) (fun z => z (by omega))⟩
  (repeat first | refine Step.e ?_ | (first | (refine ifk_t ?_ ?_; focus (first | omega | decide | (simp; done))) | (refine ifk_f ?_ ?_; focus (first | omega | decide | (simp; done)))))
  refine ok_of lgcd_ev ?_
  rw [Int.natAbs_natCast, show Nat.gcd q.num.natAbs q.den = 1 from q.reduced]
  (repeat first | refine Step.e ?_ | (first | (refine ifk_t ?_ ?_; focus (first | omega | decide | (simp; done))) | (refine ifk_f ?_ ?_; focus (first | omega | decide | (simp; done)))))
  exact k
theorem lare3_w {u : V3} (k : Q (.bl true) M) : Ok (f__law_are_fractions [tD u, .int 3] M) Q := by
  refine w_run rfl ?_
  unfold m__law_are_fractions
  (repeat first | refine Step.e ?_ | (first | (refine ifk_t ?_ ?_; focus (first | omega | decide | (simp; done))) | (refine ifk_f ?_ ?_; focus (first | omega | decide | (simp; done)))))
  refine lis_fraction_w ?_
  (repeat first | refine Step.e ?_ | (first | (refine ifk_t ?_ ?_; focus (first | omega | decide | (simp; done))) | (refine ifk_f ?_ ?_; focus (first | omega | decide | (simp; done)))))
  refine lis_fraction_w ?_
  (repeat first | refine Step.e ?_ | (first | (refine ifk_t ?_ ?_; focus (first | omega | decide | (simp; done))) | (refine ifk_f ?_ ?_; focus (first | omega | decide | (simp; done)))))
  refine lis_fraction_w ?_
  (repeat first | refine Step.e ?_ | (first | (refine ifk_t ?_ ?_; focus (first | omega | decide | (simp; done))) | (refine ifk_f ?_ ?_; focus (first | omega | decide | (simp; done)))))
  exact k
theorem lis_screw_w {f : V3 × V3} (k : Q (.bl true) M) : Ok (f__law_is_screw [scD f] M) Q := by
  refine w_run rfl ?_
  unfold m__law_is_screw
  (repeat first | refine Step.e ?_ | (first | (refine ifk_t ?_ ?_; focus (first | omega | decide | (simp; done))) | (refine ifk_f ?_ ?_; focus (first | omega | decide | (simp; done)))))
  refine lare3_w ?_
  (repeat first | refine Step.e ?_ | (first | (refine ifk_t ?_ ?_; focus (first | omega | decide | (simp; done))) | (refine ifk_f ?_ ?_; focus (first | omega | decide | (simp; done)))))
  refine lare3_w ?_
  (repeat first | refine Step.e ?_ | (first | (refine ifk_t ?_ ?_; focus (first | omega | decide | (simp; done))) | (refine ifk_f ?_ ?_; focus (first | omega | decide | (simp; done)))))
  exact k
theorem eqv_sD (f g : V3 × V3) : PySem.PyData.eqv (toP (scD f)) (toP (scD g)) = decide (f = g) := by
  simp only [scD, sD, toP, toPs, PySem.PyData.eqv, PySem.PyData.eqvAll, Bool.and_true, eqv_tD]
  by_cases h : f = g
  · subst h; simp
  · have : ¬ (f.1 = g.1 ∧ f.2 = g.2) := fun e => h (Prod.ext e.1 e.2)
    simp [h]
    intro e1 e2
    exact this ⟨e1, e2⟩
theorem eq_sD {neg : Bool} {f g : V3 × V3} : dEq neg (scD f) (scD g) M = .ok (.bl (neg ^^ decide (f = g))) M := by
  have okk : ∀ h : V3 × V3, okD (scD h) 60 = true := fun h => by
    simp [scD, sD, okD, okDs, ok_tD (show 2 ≤ 59 by decide)]
  show dEq0 neg (scD f) (scD g) M = _
  unfold dEq0
  rw [show der M (scD f) = some (scD f) from rfl, show der M (scD g) = some (scD g) from rfl]
  show (if (okD (scD f) 60 && okD (scD g) 60) = true then Res.ok (D.bl (neg ^^ eqD (scD f) (scD g))) M else .stuck) = _
  rw [okk, okk, if_pos (by decide)]
  unfold eqD
  rw [eqv_sD]
theorem reprT_ev {d : D} {ds : List D} {j a : Nat} (hd : d = .tup ds) (h : Txt d j a) (hj : j ≤ 60 := by omega) (ha : a ≤ 1000 := by omega) : cRepr [d] M = .ok (.str (toP d).shown) M := by
  subst hd
  show reprD (.tup ds) M = _
  unfold reprD
  rw [if_pos]
  refine ⟨by rw [h.ok 60 hj, h.sh]; rfl, ?_⟩
  have e := PySem.PyData.shown_le_bulk 2000 (by decide) (toP (.tup ds)) (PySem.PyData.leavesShort_of_canLay0 2000 _ h.lay h.short)
  have := h.wt
  have e2 : (2000 + 2) * (toP (.tup ds)).bulk ≤ 2002 * 1000 := Nat.mul_le_mul (Nat.le_refl _) (by omega)
  omega
theorem szw.tv {n d : Nat} {u : V3} (h : szw n d u) (hn : n ≤ 1900 := by omega) (hd : d ≤ 1900 := by omega) : tv u := ⟨⟨h.1.1.mono, h.1.2.mono⟩, ⟨h.2.1.1.mono, h.2.1.2.mono⟩, h.2.2.1.mono, h.2.2.2.mono⟩
theorem told.tx {f : V3 × V3} (h : told f) : Txt (scD f) 3 20 := txt_sD h.sz.1.tv h.sz.2.tv
theorem mom_rev (f : V3 × V3) : ∀ l : Bod, momS l.reverse f = momS l f
  | [] => rfl
  | p :: l => by
    have ih := mom_rev f l
    unfold momS at *
    rw [List.reverse_cons, mom_append, ih, mom_cons, mom_cons, padd_comm]
    congr 1
    unfold padd
    rw [show (mom [] f.1 f.2) = (V3.nil, V3.nil) from rfl, V3.add_nil, V3.add_nil]
theorem tri_of {ps qs : List V3} (h : tri ps) (hs : ∀ p ∈ ps, p ∈ qs) : tri qs := by
  obtain ⟨p, q, r, h1, h2, h3, h4⟩ := h
  exact ⟨p, q, r, hs _ h1, hs _ h2, hs _ h3, h4⟩
theorem good_rev {k : Nat} {l : Bod} (g : Good k l) : Good k l.reverse :=
  ⟨fun p hp => g.lb p (List.mem_reverse.mp hp), by rw [List.length_reverse]; exact g.lo, by rw [List.length_reverse]; exact g.hi, fun p hp => g.pos p (List.mem_reverse.mp hp), tri_of g.tri fun p hp => by rw [List.map_reverse]; exact List.mem_reverse.mpr hp⟩
theorem tight_rev {N r : Nat} {l : Bod} (g : Tight N r l) : Tight N r l.reverse := ⟨g.pos, fun p hp => g.p p (List.mem_reverse.mp hp), fun p hp => g.m p (List.mem_reverse.mp hp)⟩
end
end G86

set_option Elab.async false
set_option linter.all false
set_option maxRecDepth 100000
set_option maxHeartbeats 4000000
namespace G86
open DL RW
section
variable {M : Store} {Q : D → Store → Prop}
/-- the energy of a told move -/
theorem energy_w {kb : Nat} {l : Bod} {x g : V3 × V3} (gd : Good 2 l) (hx : told x) (hm : momS l x = g) (hg : lw U kb g.1 ∧ lw U kb g.2) (hk : kb ≤ 100) (q : Q (rD (pw g x)) M) : Ok (f_energy [bD l, scD x] M) Q := by
  obtain ⟨T, bT, t1, t2⟩ := told_lv hx
  have hlen := gd.hi
  obtain ⟨e1, _⟩ := momentum_by_ev (M := M) t1 t2 gd.lb (by omega) (by decide)
  rw [show mom l x.1 x.2 = g from hm] at e1
  refine w_run rfl ?_
  unfold m_energy
  (repeat first | refine Step.e ?_ | (first | (refine ifk_t ?_ ?_; focus (first | omega | decide | (simp; done))) | (refine ifk_f ?_ ?_; focus (first | omega | decide | (simp; done)))))
  refine ok_of (check_body_ev gd) ?_
  (repeat first | refine Step.e ?_ | (first | (refine ifk_t ?_ ?_; focus (first | omega | decide | (simp; done))) | (refine ifk_f ?_ ?_; focus (first | omega | decide | (simp; done)))))
  refine ok_of check_screw_ev ?_
  (repeat first | refine Step.e ?_ | (first | (refine ifk_t ?_ ?_; focus (first | omega | decide | (simp; done))) | (refine ifk_f ?_ ?_; focus (first | omega | decide | (simp; done)))))
  refine ok_of e1 ?_
  (repeat first | refine Step.e ?_ | (first | (refine ifk_t ?_ ?_; focus (first | omega | decide | (simp; done))) | (refine ifk_f ?_ ?_; focus (first | omega | decide | (simp; done)))))
  refine ok_of (powered_ev (M := M) hg.1 hg.2 t1 t2 (by omega) (by omega) (by omega)) ?_
  (repeat first | refine Step.e ?_ | (first | (refine ifk_t ?_ ?_; focus (first | omega | decide | (simp; done))) | (refine ifk_f ?_ ?_; focus (first | omega | decide | (simp; done)))))
  exact q
theorem lmom_told {l : Bod} {x g : V3 × V3} (gd : Good 2 l) (hx : told x) (hm : momS l x = g) : f__law_momentum [bD l, scD x] M = .ok (scD g) M := by
  obtain ⟨T, bT, t1, t2⟩ := told_lv hx
  have hlen := gd.hi
  have e := lmomentum_ev (M := M) t1 t2 gd.lb (by omega) (by decide)
  rw [show mom l x.1 x.2 = g from hm] at e
  exact e
theorem smp_told {x : V3 × V3} (h : told x) : smp x := ⟨h.sz.1.mono, h.sz.2.mono⟩
/-- placed: one point -/
theorem pl_point {t : Tn} {s : V3} {p : V3} (ht : t.Sm) (hs : spo s) (hp : lw U 2 p) : f__law_placed [plD t s, tD p] M = .ok (tD ((t.R p).add s)) M :=
  placed_ev (M := M) (i := 1) (j := 2) ht.ok (spo_lw hs) hp (hp.szU (by omega) (by omega)) two_lv (by omega) (by omega)
theorem right_w {n m : Nat} (hw : Wl n m M) (hm : m ≤ 1000) (q : ∀ M', Q (.bl true) M') : Ok (f__law_right [.loc n] M) Q := by
  refine w_run rfl ?_
  unfold m__law_right
  (repeat first | refine Step.e ?_ | (first | (refine ifk_t ?_ ?_; focus (first | omega | decide | (simp; done))) | (refine ifk_f ?_ ?_; focus (first | omega | decide | (simp; done)))))
  refine dr_w (body_ev hw (by decide) (by decide) (by omega)) fun d M1 ⟨l, hd, g, hmas⟩ w1 u1 => ?_
  subst hd
  (repeat first | refine Step.e ?_ | (first | (refine ifk_t ?_ ?_; focus (first | omega | decide | (simp; done))) | (refine ifk_f ?_ ?_; focus (first | omega | decide | (simp; done)))))
  refine dr_w (screw_ev w1 (by omega)) fun d M2 ⟨a, b, hd, ha, hb, hb'⟩ w2 u2 => ?_
  obtain ⟨sw, rfl, rfl⟩ : ∃ sw : V3 × V3, sw.1 = a ∧ sw.2 = b := ⟨(a, b), rfl, rfl⟩
  subst hd
  have ta : lts 36 19 sw := ⟨hb, hb'⟩
  clear hb hb'
  (repeat first | refine Step.e ?_ | (first | (refine ifk_t ?_ ?_; focus (first | omega | decide | (simp; done))) | (refine ifk_f ?_ ?_; focus (first | omega | decide | (simp; done)))))
  refine dr_w (screw_ev w2 (by omega)) fun d M3 ⟨a, b, hd, hk, hb, hb'⟩ w3 u3 => ?_
  obtain ⟨kn, rfl, rfl⟩ : ∃ kn : V3 × V3, kn.1 = a ∧ kn.2 = b := ⟨(a, b), rfl, rfl⟩
  subst hd
  have tk : lts 36 19 kn := ⟨hb, hb'⟩
  clear hb hb'
  have hlo := g.lo
  have hhi := g.hi
  have tg : Tight 6 10 l := ⟨by decide, fun p hp => (hmas p hp).2, fun p hp => (hmas p hp).1.tg⟩
  haveI : Sh (l.map pD) := ⟨by rw [List.length_map]; omega⟩
  -- the momentum of the first move
  have em := fun M : Store => lmomentum_ev (M := M) ha.1 ha.2 g.lb (by omega) (by decide)
  have lp := (momentum_by_ev (M := M) ha.1 ha.2 g.lb (by omega) (by decide)).2
  have lp : lw U 20 (momS l sw).1 ∧ lw U 20 (momS l sw).2 := ⟨lp.1.mono, lp.2.mono⟩
  have tp : lts 38880 77 (momS l sw) := by
    have h := mom_lts (s := 3) (by decide) (by decide) ta l tg.p tg.m
    exact ⟨(h.1.mono (s := 77)).cg (by decide), (h.2.mono (s := 77)).cg (by decide)⟩
  obtain ⟨x1, hx1, told1, b1⟩ := blown_ev (s := 3) (sy := 16) g tg (by decide) (by decide) tp (by decide) (by decide) (by decide) (by decide) lp (by decide) (by decide)
  obtain rfl : x1 = sw := mom_inj g.tri g.pos hx1
  -- any blow
  obtain ⟨x, hx, toldx, b2⟩ := blown_ev (s := 3) (sy := 6) g tg (by decide) (by decide) tk (by decide) (by decide) (by decide) (by decide) hk (by decide) (by decide)
  have T1 : Txt (.lst [scD x1, scD x1]) 4 42 := txt_lst (txts_cons told1.tx (txts_cons told1.tx txts_nil))
  (repeat first | refine Step.e ?_ | (first | (refine ifk_t ?_ ?_; focus (first | omega | decide | (simp; done))) | (refine ifk_f ?_ ?_; focus (first | omega | decide | (simp; done)))))
  refine ok_of (em _) ?_
  (repeat first | refine Step.e ?_ | (first | (refine ifk_t ?_ ?_; focus (first | omega | decide | (simp; done))) | (refine ifk_f ?_ ?_; focus (first | omega | decide | (simp; done)))))
  refine ok_of (b1 _) ?_
  (repeat first | refine Step.e ?_ | (first | (refine ifk_t ?_ ?_; focus (first | omega | decide | (simp; done))) | (refine ifk_f ?_ ?_; focus (first | omega | decide | (simp; done)))))
  refine ok_of (b1 _) ?_
  (repeat first | refine Step.e ?_ | (first | (refine ifk_t ?_ ?_; focus (first | omega | decide | (simp; done))) | (refine ifk_f ?_ ?_; focus (first | omega | decide | (simp; done)))))
  refine ok_of (repr_ev T1) ?_
  (repeat first | refine Step.e ?_ | (first | (refine ifk_t ?_ ?_; focus (first | omega | decide | (simp; done))) | (refine ifk_f ?_ ?_; focus (first | omega | decide | (simp; done)))))
  refine ok_of (repr_ev T1) ?_
  (repeat first | refine Step.e ?_ | (first | (refine ifk_t ?_ ?_; focus (first | omega | decide | (simp; done))) | (refine ifk_f ?_ ?_; focus (first | omega | decide | (simp; done)))))
  refine ok_of (b2 _) ?_
  (repeat first | refine Step.e ?_ | (first | (refine ifk_t ?_ ?_; focus (first | omega | decide | (simp; done))) | (refine ifk_f ?_ ?_; focus (first | omega | decide | (simp; done)))))
  refine lis_screw_w ?_
  (repeat first | refine Step.e ?_ | (first | (refine ifk_t ?_ ?_; focus (first | omega | decide | (simp; done))) | (refine ifk_f ?_ ?_; focus (first | omega | decide | (simp; done)))))
  refine ok_of (lmom_told g toldx hx) ?_
  (repeat first | refine Step.e ?_ | (first | (refine ifk_t ?_ ?_; focus (first | omega | decide | (simp; done))) | (refine ifk_f ?_ ?_; focus (first | omega | decide | (simp; done)))))
  refine ok_of eq_sD ?_
  rw [decide_eq_true rfl]
  (repeat first | refine Step.e ?_ | (first | (refine ifk_t ?_ ?_; focus (first | omega | decide | (simp; done))) | (refine ifk_f ?_ ?_; focus (first | omega | decide | (simp; done)))))
  -- its energy
  have T2 : Txt (rD (pw kn x)) 1 2 := by
    obtain ⟨D, d1, d2, d3⟩ := toldx
    have h := (pw_la tk d3).sz (d := 607) (Nat.mul_pos (by decide) d1) (by omega)
    exact txt_rD ⟨h.1.mono, h.2.mono⟩
  refine energy_w g toldx hx hk (by decide) ?_
  (repeat first | refine Step.e ?_ | (first | (refine ifk_t ?_ ?_; focus (first | omega | decide | (simp; done))) | (refine ifk_f ?_ ?_; focus (first | omega | decide | (simp; done)))))
  refine ok_of (reprT_ev rfl T2) ?_
  (repeat first | refine Step.e ?_ | (first | (refine ifk_t ?_ ?_; focus (first | omega | decide | (simp; done))) | (refine ifk_f ?_ ?_; focus (first | omega | decide | (simp; done)))))
  refine lpower_w (n1 := 200) (d1 := 91) (n2 := 601) (d2 := 601) ⟨hk.1.szU (by omega) (by omega), hk.2.szU (by omega) (by omega)⟩ toldx.sz (by decide) (by decide) ?_
  (repeat first | refine Step.e ?_ | (first | (refine ifk_t ?_ ?_; focus (first | omega | decide | (simp; done))) | (refine ifk_f ?_ ?_; focus (first | omega | decide | (simp; done)))))
  refine ok_of (reprT_ev rfl T2) ?_
  (repeat first | refine Step.e ?_ | (first | (refine ifk_t ?_ ?_; focus (first | omega | decide | (simp; done))) | (refine ifk_f ?_ ?_; focus (first | omega | decide | (simp; done)))))
  -- blows add up
  refine dr_w (fraction_ev w3 (by omega)) fun d M4 ⟨c, hd, hc⟩ w4 u4 => ?_
  subst hd
  have lc := fct_lv hc
  have tc := fct_la hc
  have lkc : lw U 4 (smul kn c).1 ∧ lw U 4 (smul kn c).2 := ⟨hk.1.mul lc, hk.2.mul lc⟩
  have lbo : lw U 21 (padd (smul kn c) (momS l x1)).1 ∧ lw U 21 (padd (smul kn c) (momS l x1)).2 := ⟨lkc.1.add lp.1, lkc.2.add lp.2⟩
  have tbo : lts 272160 81 (padd (smul kn c) (momS l x1)) := by
    have a1 := ((tk.1.mul tc).up 180 8).cast (K := 272160) (s := 80)
    have a2 := ((tk.2.mul tc).up 180 8).cast (K := 272160) (s := 80)
    have c1 := (tp.1.up 7 3).cast (K := 272160) (s := 80)
    have c2 := (tp.2.up 7 3).cast (K := 272160) (s := 80)
    exact ⟨a1.add c1, a2.add c2⟩
  obtain ⟨y, hy, toldy, b3⟩ := blown_ev (s := 3) (sy := 19) g tg (by decide) (by decide) tbo (by decide) (by decide) (by decide) (by decide) lbo (by decide) (by decide)
  obtain rfl : y = padd (smul x c) x1 := mom_inj g.tri g.pos (by rw [hy, mom_add, mom_smul, hx])
  have sx : smp (smul x c) := by
    obtain ⟨T, bT, t1, t2⟩ := told_lv toldx
    have z1 : lw T 1 (x.1.mul c) := t1.mul lc
    have z2 : lw T 1 (x.2.mul c) := t2.mul lc
    exact ⟨z1.sz (by omega), z2.sz (by omega)⟩
  have T3 := toldy.tx
  (repeat first | refine Step.e ?_ | (first | (refine ifk_t ?_ ?_; focus (first | omega | decide | (simp; done))) | (refine ifk_f ?_ ?_; focus (first | omega | decide | (simp; done)))))
  refine ok_of (lstimes_sz ⟨hk.1.sz (by omega), hk.2.sz (by omega)⟩ (lc.sm (by omega))) ?_
  (repeat first | refine Step.e ?_ | (first | (refine ifk_t ?_ ?_; focus (first | omega | decide | (simp; done))) | (refine ifk_f ?_ ?_; focus (first | omega | decide | (simp; done)))))
  refine ok_of (lsplus_sz ⟨lkc.1.sz (by omega), lkc.2.sz (by omega)⟩ ⟨lp.1.sz (by omega), lp.2.sz (by omega)⟩) ?_
  (repeat first | refine Step.e ?_ | (first | (refine ifk_t ?_ ?_; focus (first | omega | decide | (simp; done))) | (refine ifk_f ?_ ?_; focus (first | omega | decide | (simp; done)))))
  refine ok_of (b3 _) ?_
  (repeat first | refine Step.e ?_ | (first | (refine ifk_t ?_ ?_; focus (first | omega | decide | (simp; done))) | (refine ifk_f ?_ ?_; focus (first | omega | decide | (simp; done)))))
  refine ok_of (reprT_ev rfl T3) ?_
  (repeat first | refine Step.e ?_ | (first | (refine ifk_t ?_ ?_; focus (first | omega | decide | (simp; done))) | (refine ifk_f ?_ ?_; focus (first | omega | decide | (simp; done)))))
  refine ok_of (lstimes_sz (smp_told toldx) (lc.sm (by omega))) ?_
  (repeat first | refine Step.e ?_ | (first | (refine ifk_t ?_ ?_; focus (first | omega | decide | (simp; done))) | (refine ifk_f ?_ ?_; focus (first | omega | decide | (simp; done)))))
  refine ok_of (lsplus_sz sx (smp_told told1)) ?_
  (repeat first | refine Step.e ?_ | (first | (refine ifk_t ?_ ?_; focus (first | omega | decide | (simp; done))) | (refine ifk_f ?_ ?_; focus (first | omega | decide | (simp; done)))))
  refine ok_of (reprT_ev rfl T3) ?_
  (repeat first | refine Step.e ?_ | (first | (refine ifk_t ?_ ?_; focus (first | omega | decide | (simp; done))) | (refine ifk_f ?_ ?_; focus (first | omega | decide | (simp; done)))))
  -- all placed
  refine dr_w (turn_ev w4 (by omega)) fun d M5 ⟨t, hd, ht⟩ w5 u5 => ?_
  subst hd
  (repeat first | refine Step.e ?_ | (first | (refine ifk_t ?_ ?_; focus (first | omega | decide | (simp; done))) | (refine ifk_f ?_ ?_; focus (first | omega | decide | (simp; done)))))
  refine dr_w (spot_ev w5 (by omega)) fun d M6 ⟨s, hd, hs⟩ w6 u6 => ?_
  subst hd
  obtain ⟨N, hN, hN0, hN16⟩ := ht.nat
  have gp := good_pl ht (spo_lw hs) g
  have tgp := tight_pl ht hN hN0 hN16 hs.tg tg
  have tl : lts (6 * (36 * N)) 37 (leds t s kn) := leds_lts ht hN hN0 hs.tg tk
  have r1 : lw U 7 (t.R kn.1) := R_tight ht hk.1
  have r2 : lw U 7 (t.R kn.2) := R_tight ht hk.2
  have ll : lw U 10 (leds t s kn).1 ∧ lw U 10 (leds t s kn).2 := ⟨r1.mono, r2.add ((spo_lw hs).cross r1 (m := 9))⟩
  obtain ⟨z, hz, toldz, b4⟩ := blown_ev (s := 7) (sy := 12) gp tgp (by omega) (by decide) tl (by omega) (by omega) (by decide) (by decide) ll (by decide) (by decide)
  obtain rfl : z = leds t s x := mom_inj gp.tri gp.pos (by rw [hz, mom_leds t s ht.ok.n, hx])
  have T4 := toldz.tx
  have e1 : ∀ M : Store, f__law_led [plD t s, scD kn] M = .ok (scD (leds t s kn)) M := fun M => led_ev (M := M) (i := 1) (j := 3) ht.ok (spo_lw hs) hk.1 hk.2 (hk.1.szU (by omega) (by omega)) (hk.2.szU (by omega) (by omega)) two_lv (by omega) (by omega)
  have e2 : ∀ M : Store, f__law_led [plD t s, scD x] M = .ok (scD (leds t s x)) M := fun M => by
    obtain ⟨T, bT, t1, t2⟩ := told_lv toldx
    exact led_ev (M := M) (i := 1) (j := 0) ht.ok (spo_lw hs) t1 t2 toldx.sz.1.mono toldx.sz.2.mono two_lv (by omega) (by omega)
  (repeat first | refine Step.e ?_ | (first | (refine ifk_t ?_ ?_; focus (first | omega | decide | (simp; done))) | (refine ifk_f ?_ ?_; focus (first | omega | decide | (simp; done)))))
  refine lcgo_map pD (fun q => pD ((t.R q.1).add s, q.2)) l (fun q hq => ?_) ?_
  · (repeat first | refine Step.e ?_ | (first | (refine ifk_t ?_ ?_; focus (first | omega | decide | (simp; done))) | (refine ifk_f ?_ ?_; focus (first | omega | decide | (simp; done)))))
    refine ⟨rfl, ?_⟩
    (repeat first | refine Step.e ?_ | (first | (refine ifk_t ?_ ?_; focus (first | omega | decide | (simp; done))) | (refine ifk_f ?_ ?_; focus (first | omega | decide | (simp; done)))))
    refine ok_of (pl_point ht hs (g.lb q hq).1) ?_
    (repeat first | refine Step.e ?_ | (first | (refine ifk_t ?_ ?_; focus (first | omega | decide | (simp; done))) | (refine ifk_f ?_ ?_; focus (first | omega | decide | (simp; done)))))
    exact ⟨rfl, rfl⟩
  refine mkk_lst (by rw [List.length_map]; omega) ?_
  (repeat first | refine Step.e ?_ | (first | (refine ifk_t ?_ ?_; focus (first | omega | decide | (simp; done))) | (refine ifk_f ?_ ?_; focus (first | omega | decide | (simp; done)))))
  refine c_tupL (by rw [List.length_map]; omega) ?_
  rw [show D.tup (l.map fun q => pD ((t.R q.1).add s, q.2)) = bD (plB t s l) by unfold bD plB; rw [List.map_map]; rfl]
  (repeat first | refine Step.e ?_ | (first | (refine ifk_t ?_ ?_; focus (first | omega | decide | (simp; done))) | (refine ifk_f ?_ ?_; focus (first | omega | decide | (simp; done)))))
  refine ok_of (e1 _) ?_
  (repeat first | refine Step.e ?_ | (first | (refine ifk_t ?_ ?_; focus (first | omega | decide | (simp; done))) | (refine ifk_f ?_ ?_; focus (first | omega | decide | (simp; done)))))
  refine ok_of (b4 _) ?_
  (repeat first | refine Step.e ?_ | (first | (refine ifk_t ?_ ?_; focus (first | omega | decide | (simp; done))) | (refine ifk_f ?_ ?_; focus (first | omega | decide | (simp; done)))))
  refine ok_of (reprT_ev rfl T4) ?_
  (repeat first | refine Step.e ?_ | (first | (refine ifk_t ?_ ?_; focus (first | omega | decide | (simp; done))) | (refine ifk_f ?_ ?_; focus (first | omega | decide | (simp; done)))))
  refine ok_of (e2 _) ?_
  (repeat first | refine Step.e ?_ | (first | (refine ifk_t ?_ ?_; focus (first | omega | decide | (simp; done))) | (refine ifk_f ?_ ?_; focus (first | omega | decide | (simp; done)))))
  refine ok_of (reprT_ev rfl T4) ?_
  (repeat first | refine Step.e ?_ | (first | (refine ifk_t ?_ ?_; focus (first | omega | decide | (simp; done))) | (refine ifk_f ?_ ?_; focus (first | omega | decide | (simp; done)))))
  -- told otherwise, asked again
  obtain ⟨v, hv, toldv, b5⟩ := blown_ev (s := 3) (sy := 6) (good_rev g) (tight_rev tg) (by decide) (by decide) tk (by decide) (by decide) (by decide) (by decide) hk (by decide) (by decide)
  obtain rfl : v = x := mom_inj g.tri g.pos (by rw [← mom_rev v l, hv, hx])
  have T5 := toldv.tx
  rw [← List.map_reverse]
  refine ok_of (b5 _) ?_
  (repeat first | refine Step.e ?_ | (first | (refine ifk_t ?_ ?_; focus (first | omega | decide | (simp; done))) | (refine ifk_f ?_ ?_; focus (first | omega | decide | (simp; done)))))
  refine ok_of (reprT_ev rfl T5) ?_
  (repeat first | refine Step.e ?_ | (first | (refine ifk_t ?_ ?_; focus (first | omega | decide | (simp; done))) | (refine ifk_f ?_ ?_; focus (first | omega | decide | (simp; done)))))
  refine ok_of (reprT_ev rfl T5) ?_
  (repeat first | refine Step.e ?_ | (first | (refine ifk_t ?_ ?_; focus (first | omega | decide | (simp; done))) | (refine ifk_f ?_ ?_; focus (first | omega | decide | (simp; done)))))
  refine ok_of (b2 _) ?_
  (repeat first | refine Step.e ?_ | (first | (refine ifk_t ?_ ?_; focus (first | omega | decide | (simp; done))) | (refine ifk_f ?_ ?_; focus (first | omega | decide | (simp; done)))))
  refine ok_of (reprT_ev rfl T5) ?_
  (repeat first | refine Step.e ?_ | (first | (refine ifk_t ?_ ?_; focus (first | omega | decide | (simp; done))) | (refine ifk_f ?_ ?_; focus (first | omega | decide | (simp; done)))))
  refine ok_of (reprT_ev rfl T5) ?_
  (repeat first | refine Step.e ?_ | (first | (refine ifk_t ?_ ?_; focus (first | omega | decide | (simp; done))) | (refine ifk_f ?_ ?_; focus (first | omega | decide | (simp; done)))))
  exact runk_rt (by simp [locFree]) (q _)
end
end G86

set_option Elab.async false
set_option linter.all false
set_option maxRecDepth 100000
set_option maxHeartbeats 4000000
namespace G86
open DL
theorem law_ok : ∀ ns : List Int, ns.length ≤ 63 → f_law [.rol (ns.map D.int)] [] = .ok (.bl true) [] := by
  intro ns hns
  refine ok_eq ?_
  refine w_run rfl ?_
  unfold m_law
  (repeat first | refine Step.e ?_ | (first | (refine ifk_t ?_ ?_; focus (first | omega | decide | (simp; done))) | (refine ifk_f ?_ ?_; focus (first | omega | decide | (simp; done)))))
  rw [List.length_map]
  have hmm : ∀ k : Int, k = (if (if (2 : Int) < ((ns.length : Nat) : Int) then 2 else ((ns.length : Nat) : Int)) > 2 then (if (2 : Int) < ((ns.length : Nat) : Int) then 2 else ((ns.length : Nat) : Int)) else 2) → k = 2 := by
    intro k hk
    rw [hk]
    split <;> (try split) <;> omega
  generalize hk : (if (if (2 : Int) < ((ns.length : Nat) : Int) then 2 else ((ns.length : Nat) : Int)) > 2 then (if (2 : Int) < ((ns.length : Nat) : Int) then 2 else ((ns.length : Nat) : Int)) else 2) = k
  obtain rfl := hmm k hk.symm
  (repeat first | refine Step.e ?_ | (first | (refine ifk_t ?_ ?_; focus (first | omega | decide | (simp; done))) | (refine ifk_f ?_ ?_; focus (first | omega | decide | (simp; done)))))
  obtain ⟨N0, e0, _, w0, _⟩ := well_ev (M := []) (i := 0) hns (by decide) (by decide)
  refine ok_of e0 ?_
  (repeat first | refine Step.e ?_ | (first | (refine ifk_t ?_ ?_; focus (first | omega | decide | (simp; done))) | (refine ifk_f ?_ ?_; focus (first | omega | decide | (simp; done)))))
  refine right_w w0 (by decide) fun M0 => ?_
  (repeat first | refine Step.e ?_ | (first | (refine ifk_t ?_ ?_; focus (first | omega | decide | (simp; done))) | (refine ifk_f ?_ ?_; focus (first | omega | decide | (simp; done)))))
  obtain ⟨N1, e1, _, w1, _⟩ := well_ev (M := M0) (i := 1) hns (by decide) (by decide)
  refine ok_of e1 ?_
  (repeat first | refine Step.e ?_ | (first | (refine ifk_t ?_ ?_; focus (first | omega | decide | (simp; done))) | (refine ifk_f ?_ ?_; focus (first | omega | decide | (simp; done)))))
  refine right_w w1 (by decide) fun M1 => ?_
  (repeat first | refine Step.e ?_ | (first | (refine ifk_t ?_ ?_; focus (first | omega | decide | (simp; done))) | (refine ifk_f ?_ ?_; focus (first | omega | decide | (simp; done)))))
  exact runk_rt (by simp [locFree]) ⟨rfl, rfl⟩
end G86

set_option Elab.async false
set_option linter.all false
set_option maxRecDepth 100000
set_option maxHeartbeats 4000000
namespace G86
open PySem PySem.Spec PyProof.Rows L2 DL
def top (i : Nat) : Stmt := PySem.Challenge.pw_bodypushes_k86_whole_free_bodies.main.body.getD i (.Pass ⟨0, 0, 0, 0⟩)
structure Fc (Γ : GG) : Prop where
  fn_is_whole : (∃ fd, FunD Γ.K "is_whole" "is_whole" (defArgs (top 7)) (defBody (top 7)) (defScope (top 7)) [] [] (He.fAd Γ.K ("is_whole", none)) fd) ∧ Γ.mg "is_whole" = some (.ref (He.fAd Γ.K ("is_whole", none)))
  fn_common_part : (∃ fd, FunD Γ.K "common_part" "common_part" (defArgs (top 8)) (defBody (top 8)) (defScope (top 8)) [] [] (He.fAd Γ.K ("common_part", none)) fd) ∧ Γ.mg "common_part" = some (.ref (He.fAd Γ.K ("common_part", none)))
  fn_lowest : (∃ fd, FunD Γ.K "lowest" "lowest" (defArgs (top 9)) (defBody (top 9)) (defScope (top 9)) [] [] (He.fAd Γ.K ("lowest", none)) fd) ∧ Γ.mg "lowest" = some (.ref (He.fAd Γ.K ("lowest", none)))
  fn_lowest_over : (∃ fd, FunD Γ.K "lowest_over" "lowest_over" (defArgs (top 10)) (defBody (top 10)) (defScope (top 10)) [] [] (He.fAd Γ.K ("lowest_over", none)) fd) ∧ Γ.mg "lowest_over" = some (.ref (He.fAd Γ.K ("lowest_over", none)))
  fn_ratio : (∃ fd, FunD Γ.K "ratio" "ratio" (defArgs (top 11)) (defBody (top 11)) (defScope (top 11)) [] [] (He.fAd Γ.K ("ratio", none)) fd) ∧ Γ.mg "ratio" = some (.ref (He.fAd Γ.K ("ratio", none)))
  fn_plus : (∃ fd, FunD Γ.K "plus" "plus" (defArgs (top 14)) (defBody (top 14)) (defScope (top 14)) [] [] (He.fAd Γ.K ("plus", none)) fd) ∧ Γ.mg "plus" = some (.ref (He.fAd Γ.K ("plus", none)))
  fn_minus : (∃ fd, FunD Γ.K "minus" "minus" (defArgs (top 15)) (defBody (top 15)) (defScope (top 15)) [] [] (He.fAd Γ.K ("minus", none)) fd) ∧ Γ.mg "minus" = some (.ref (He.fAd Γ.K ("minus", none)))
  fn_times : (∃ fd, FunD Γ.K "times" "times" (defArgs (top 16)) (defBody (top 16)) (defScope (top 16)) [] [] (He.fAd Γ.K ("times", none)) fd) ∧ Γ.mg "times" = some (.ref (He.fAd Γ.K ("times", none)))
  fn_total : (∃ fd, FunD Γ.K "total" "total" (defArgs (top 17)) (defBody (top 17)) (defScope (top 17)) [] [] (He.fAd Γ.K ("total", none)) fd) ∧ Γ.mg "total" = some (.ref (He.fAd Γ.K ("total", none)))
  fn_over_one : (∃ fd, FunD Γ.K "over_one" "over_one" (defArgs (top 18)) (defBody (top 18)) (defScope (top 18)) [] [] (He.fAd Γ.K ("over_one", none)) fd) ∧ Γ.mg "over_one" = some (.ref (He.fAd Γ.K ("over_one", none)))
  fn_is_fraction : (∃ fd, FunD Γ.K "is_fraction" "is_fraction" (defArgs (top 21)) (defBody (top 21)) (defScope (top 21)) [] [] (He.fAd Γ.K ("is_fraction", none)) fd) ∧ Γ.mg "is_fraction" = some (.ref (He.fAd Γ.K ("is_fraction", none)))
  fn_are_fractions : (∃ fd, FunD Γ.K "are_fractions" "are_fractions" (defArgs (top 22)) (defBody (top 22)) (defScope (top 22)) [] [] (He.fAd Γ.K ("are_fractions", none)) fd) ∧ Γ.mg "are_fractions" = some (.ref (He.fAd Γ.K ("are_fractions", none)))
  fn_is_triple : (∃ fd, FunD Γ.K "is_triple" "is_triple" (defArgs (top 23)) (defBody (top 23)) (defScope (top 23)) [] [] (He.fAd Γ.K ("is_triple", none)) fd) ∧ Γ.mg "is_triple" = some (.ref (He.fAd Γ.K ("is_triple", none)))
  fn_summed : (∃ fd, FunD Γ.K "summed" "summed" (defArgs (top 24)) (defBody (top 24)) (defScope (top 24)) [] [] (He.fAd Γ.K ("summed", none)) fd) ∧ Γ.mg "summed" = some (.ref (He.fAd Γ.K ("summed", none)))
  fn_lessened : (∃ fd, FunD Γ.K "lessened" "lessened" (defArgs (top 25)) (defBody (top 25)) (defScope (top 25)) [] [] (He.fAd Γ.K ("lessened", none)) fd) ∧ Γ.mg "lessened" = some (.ref (He.fAd Γ.K ("lessened", none)))
  fn_scaled : (∃ fd, FunD Γ.K "scaled" "scaled" (defArgs (top 26)) (defBody (top 26)) (defScope (top 26)) [] [] (He.fAd Γ.K ("scaled", none)) fd) ∧ Γ.mg "scaled" = some (.ref (He.fAd Γ.K ("scaled", none)))
  fn_dot_of : (∃ fd, FunD Γ.K "dot_of" "dot_of" (defArgs (top 27)) (defBody (top 27)) (defScope (top 27)) [] [] (He.fAd Γ.K ("dot_of", none)) fd) ∧ Γ.mg "dot_of" = some (.ref (He.fAd Γ.K ("dot_of", none)))
  fn_crossed : (∃ fd, FunD Γ.K "crossed" "crossed" (defArgs (top 28)) (defBody (top 28)) (defScope (top 28)) [] [] (He.fAd Γ.K ("crossed", none)) fd) ∧ Γ.mg "crossed" = some (.ref (He.fAd Γ.K ("crossed", none)))
  fn_is_screw : (∃ fd, FunD Γ.K "is_screw" "is_screw" (defArgs (top 31)) (defBody (top 31)) (defScope (top 31)) [] [] (He.fAd Γ.K ("is_screw", none)) fd) ∧ Γ.mg "is_screw" = some (.ref (He.fAd Γ.K ("is_screw", none)))
  fn_check_screw : (∃ fd, FunD Γ.K "check_screw" "check_screw" (defArgs (top 32)) (defBody (top 32)) (defScope (top 32)) [] [] (He.fAd Γ.K ("check_screw", none)) fd) ∧ Γ.mg "check_screw" = some (.ref (He.fAd Γ.K ("check_screw", none)))
  fn_sum_of : (∃ fd, FunD Γ.K "sum_of" "sum_of" (defArgs (top 33)) (defBody (top 33)) (defScope (top 33)) [] [] (He.fAd Γ.K ("sum_of", none)) fd) ∧ Γ.mg "sum_of" = some (.ref (He.fAd Γ.K ("sum_of", none)))
  fn_times_of : (∃ fd, FunD Γ.K "times_of" "times_of" (defArgs (top 34)) (defBody (top 34)) (defScope (top 34)) [] [] (He.fAd Γ.K ("times_of", none)) fd) ∧ Γ.mg "times_of" = some (.ref (He.fAd Γ.K ("times_of", none)))
  fn_weighed_screws : (∃ fd, FunD Γ.K "weighed_screws" "weighed_screws" (defArgs (top 35)) (defBody (top 35)) (defScope (top 35)) [] [] (He.fAd Γ.K ("weighed_screws", none)) fd) ∧ Γ.mg "weighed_screws" = some (.ref (He.fAd Γ.K ("weighed_screws", none)))
  fn_powered : (∃ fd, FunD Γ.K "powered" "powered" (defArgs (top 36)) (defBody (top 36)) (defScope (top 36)) [] [] (He.fAd Γ.K ("powered", none)) fd) ∧ Γ.mg "powered" = some (.ref (He.fAd Γ.K ("powered", none)))
  fn_moment_by : (∃ fd, FunD Γ.K "moment_by" "moment_by" (defArgs (top 37)) (defBody (top 37)) (defScope (top 37)) [] [] (He.fAd Γ.K ("moment_by", none)) fd) ∧ Γ.mg "moment_by" = some (.ref (He.fAd Γ.K ("moment_by", none)))
  fn_lowest_row : (∃ fd, FunD Γ.K "lowest_row" "lowest_row" (defArgs (top 39)) (defBody (top 39)) (defScope (top 39)) [] [] (He.fAd Γ.K ("lowest_row", none)) fd) ∧ Γ.mg "lowest_row" = some (.ref (He.fAd Γ.K ("lowest_row", none)))
  fn_whole_row : (∃ fd, FunD Γ.K "whole_row" "whole_row" (defArgs (top 40)) (defBody (top 40)) (defScope (top 40)) [] [] (He.fAd Γ.K ("whole_row", none)) fd) ∧ Γ.mg "whole_row" = some (.ref (He.fAd Γ.K ("whole_row", none)))
  fn_first_place : (∃ fd, FunD Γ.K "first_place" "first_place" (defArgs (top 41)) (defBody (top 41)) (defScope (top 41)) [] [] (He.fAd Γ.K ("first_place", none)) fd) ∧ Γ.mg "first_place" = some (.ref (He.fAd Γ.K ("first_place", none)))
  fn_cleared : (∃ fd, FunD Γ.K "cleared" "cleared" (defArgs (top 42)) (defBody (top 42)) (defScope (top 42)) [] [] (He.fAd Γ.K ("cleared", none)) fd) ∧ Γ.mg "cleared" = some (.ref (He.fAd Γ.K ("cleared", none)))
  fn_stairs_of : (∃ fd, FunD Γ.K "stairs_of" "stairs_of" (defArgs (top 43)) (defBody (top 43)) (defScope (top 43)) [] [] (He.fAd Γ.K ("stairs_of", none)) fd) ∧ Γ.mg "stairs_of" = some (.ref (He.fAd Γ.K ("stairs_of", none)))
  fn_shares_for : (∃ fd, FunD Γ.K "shares_for" "shares_for" (defArgs (top 44)) (defBody (top 44)) (defScope (top 44)) [] [] (He.fAd Γ.K ("shares_for", none)) fd) ∧ Γ.mg "shares_for" = some (.ref (He.fAd Γ.K ("shares_for", none)))
  fn_is_mass : (∃ fd, FunD Γ.K "is_mass" "is_mass" (defArgs (top 49)) (defBody (top 49)) (defScope (top 49)) [] [] (He.fAd Γ.K ("is_mass", none)) fd) ∧ Γ.mg "is_mass" = some (.ref (He.fAd Γ.K ("is_mass", none)))
  fn_are_on_line : (∃ fd, FunD Γ.K "are_on_line" "are_on_line" (defArgs (top 50)) (defBody (top 50)) (defScope (top 50)) [] [] (He.fAd Γ.K ("are_on_line", none)) fd) ∧ Γ.mg "are_on_line" = some (.ref (He.fAd Γ.K ("are_on_line", none)))
  fn_wrong_mass : (∃ fd, FunD Γ.K "wrong_mass" "wrong_mass" (defArgs (top 51)) (defBody (top 51)) (defScope (top 51)) [] [] (He.fAd Γ.K ("wrong_mass", none)) fd) ∧ Γ.mg "wrong_mass" = some (.ref (He.fAd Γ.K ("wrong_mass", none)))
  fn_check_body : (∃ fd, FunD Γ.K "check_body" "check_body" (defArgs (top 52)) (defBody (top 52)) (defScope (top 52)) [] [] (He.fAd Γ.K ("check_body", none)) fd) ∧ Γ.mg "check_body" = some (.ref (He.fAd Γ.K ("check_body", none)))
  fn_momentum_by : (∃ fd, FunD Γ.K "momentum_by" "momentum_by" (defArgs (top 53)) (defBody (top 53)) (defScope (top 53)) [] [] (He.fAd Γ.K ("momentum_by", none)) fd) ∧ Γ.mg "momentum_by" = some (.ref (He.fAd Γ.K ("momentum_by", none)))
  fn_kept_by : (∃ fd, FunD Γ.K "kept_by" "kept_by" (defArgs (top 54)) (defBody (top 54)) (defScope (top 54)) [] [] (He.fAd Γ.K ("kept_by", none)) fd) ∧ Γ.mg "kept_by" = some (.ref (He.fAd Γ.K ("kept_by", none)))
  fn_energy : (∃ fd, FunD Γ.K "energy" "energy" (defArgs (top 55)) (defBody (top 55)) (defScope (top 55)) [] [] (He.fAd Γ.K ("energy", none)) fd) ∧ Γ.mg "energy" = some (.ref (He.fAd Γ.K ("energy", none)))
  fn_blown : (∃ fd, FunD Γ.K "blown" "blown" (defArgs (top 56)) (defBody (top 56)) (defScope (top 56)) [] [] (He.fAd Γ.K ("blown", none)) fd) ∧ Γ.mg "blown" = some (.ref (He.fAd Γ.K ("blown", none)))
  fn__law_well : (∃ fd, FunD Γ.K "_law_well" "_law_well" (defArgs (top 58)) (defBody (top 58)) (defScope (top 58)) [] [] (He.fAd Γ.K ("_law_well", none)) fd) ∧ Γ.mg "_law_well" = some (.ref (He.fAd Γ.K ("_law_well", none)))
  fn__law_draw : (∃ fd, FunD Γ.K "_law_draw" "_law_draw" (defArgs (top 59)) (defBody (top 59)) (defScope (top 59)) [] [] (He.fAd Γ.K ("_law_draw", none)) fd) ∧ Γ.mg "_law_draw" = some (.ref (He.fAd Γ.K ("_law_draw", none)))
  fn__law_pick : (∃ fd, FunD Γ.K "_law_pick" "_law_pick" (defArgs (top 60)) (defBody (top 60)) (defScope (top 60)) [] [] (He.fAd Γ.K ("_law_pick", none)) fd) ∧ Γ.mg "_law_pick" = some (.ref (He.fAd Γ.K ("_law_pick", none)))
  fn__law_gcd : (∃ fd, FunD Γ.K "_law_gcd" "_law_gcd" (defArgs (top 61)) (defBody (top 61)) (defScope (top 61)) [] [] (He.fAd Γ.K ("_law_gcd", none)) fd) ∧ Γ.mg "_law_gcd" = some (.ref (He.fAd Γ.K ("_law_gcd", none)))
  fn__law_low : (∃ fd, FunD Γ.K "_law_low" "_law_low" (defArgs (top 62)) (defBody (top 62)) (defScope (top 62)) [] [] (He.fAd Γ.K ("_law_low", none)) fd) ∧ Γ.mg "_law_low" = some (.ref (He.fAd Γ.K ("_law_low", none)))
  fn__law_add : (∃ fd, FunD Γ.K "_law_add" "_law_add" (defArgs (top 63)) (defBody (top 63)) (defScope (top 63)) [] [] (He.fAd Γ.K ("_law_add", none)) fd) ∧ Γ.mg "_law_add" = some (.ref (He.fAd Γ.K ("_law_add", none)))
  fn__law_mul : (∃ fd, FunD Γ.K "_law_mul" "_law_mul" (defArgs (top 64)) (defBody (top 64)) (defScope (top 64)) [] [] (He.fAd Γ.K ("_law_mul", none)) fd) ∧ Γ.mg "_law_mul" = some (.ref (He.fAd Γ.K ("_law_mul", none)))
  fn__law_over : (∃ fd, FunD Γ.K "_law_over" "_law_over" (defArgs (top 65)) (defBody (top 65)) (defScope (top 65)) [] [] (He.fAd Γ.K ("_law_over", none)) fd) ∧ Γ.mg "_law_over" = some (.ref (He.fAd Γ.K ("_law_over", none)))
  fn__law_total : (∃ fd, FunD Γ.K "_law_total" "_law_total" (defArgs (top 66)) (defBody (top 66)) (defScope (top 66)) [] [] (He.fAd Γ.K ("_law_total", none)) fd) ∧ Γ.mg "_law_total" = some (.ref (He.fAd Γ.K ("_law_total", none)))
  fn__law_dot : (∃ fd, FunD Γ.K "_law_dot" "_law_dot" (defArgs (top 67)) (defBody (top 67)) (defScope (top 67)) [] [] (He.fAd Γ.K ("_law_dot", none)) fd) ∧ Γ.mg "_law_dot" = some (.ref (He.fAd Γ.K ("_law_dot", none)))
  fn__law_cross : (∃ fd, FunD Γ.K "_law_cross" "_law_cross" (defArgs (top 68)) (defBody (top 68)) (defScope (top 68)) [] [] (He.fAd Γ.K ("_law_cross", none)) fd) ∧ Γ.mg "_law_cross" = some (.ref (He.fAd Γ.K ("_law_cross", none)))
  fn__law_plus : (∃ fd, FunD Γ.K "_law_plus" "_law_plus" (defArgs (top 69)) (defBody (top 69)) (defScope (top 69)) [] [] (He.fAd Γ.K ("_law_plus", none)) fd) ∧ Γ.mg "_law_plus" = some (.ref (He.fAd Γ.K ("_law_plus", none)))
  fn__law_times : (∃ fd, FunD Γ.K "_law_times" "_law_times" (defArgs (top 70)) (defBody (top 70)) (defScope (top 70)) [] [] (He.fAd Γ.K ("_law_times", none)) fd) ∧ Γ.mg "_law_times" = some (.ref (He.fAd Γ.K ("_law_times", none)))
  fn__law_nought : (∃ fd, FunD Γ.K "_law_nought" "_law_nought" (defArgs (top 71)) (defBody (top 71)) (defScope (top 71)) [] [] (He.fAd Γ.K ("_law_nought", none)) fd) ∧ Γ.mg "_law_nought" = some (.ref (He.fAd Γ.K ("_law_nought", none)))
  fn__law_axis : (∃ fd, FunD Γ.K "_law_axis" "_law_axis" (defArgs (top 72)) (defBody (top 72)) (defScope (top 72)) [] [] (He.fAd Γ.K ("_law_axis", none)) fd) ∧ Γ.mg "_law_axis" = some (.ref (He.fAd Γ.K ("_law_axis", none)))
  fn__law_screws_plus : (∃ fd, FunD Γ.K "_law_screws_plus" "_law_screws_plus" (defArgs (top 73)) (defBody (top 73)) (defScope (top 73)) [] [] (He.fAd Γ.K ("_law_screws_plus", none)) fd) ∧ Γ.mg "_law_screws_plus" = some (.ref (He.fAd Γ.K ("_law_screws_plus", none)))
  fn__law_screw_times : (∃ fd, FunD Γ.K "_law_screw_times" "_law_screw_times" (defArgs (top 74)) (defBody (top 74)) (defScope (top 74)) [] [] (He.fAd Γ.K ("_law_screw_times", none)) fd) ∧ Γ.mg "_law_screw_times" = some (.ref (He.fAd Γ.K ("_law_screw_times", none)))
  fn__law_line : (∃ fd, FunD Γ.K "_law_line" "_law_line" (defArgs (top 75)) (defBody (top 75)) (defScope (top 75)) [] [] (He.fAd Γ.K ("_law_line", none)) fd) ∧ Γ.mg "_law_line" = some (.ref (He.fAd Γ.K ("_law_line", none)))
  fn__law_power : (∃ fd, FunD Γ.K "_law_power" "_law_power" (defArgs (top 76)) (defBody (top 76)) (defScope (top 76)) [] [] (He.fAd Γ.K ("_law_power", none)) fd) ∧ Γ.mg "_law_power" = some (.ref (He.fAd Γ.K ("_law_power", none)))
  fn__law_speed : (∃ fd, FunD Γ.K "_law_speed" "_law_speed" (defArgs (top 77)) (defBody (top 77)) (defScope (top 77)) [] [] (He.fAd Γ.K ("_law_speed", none)) fd) ∧ Γ.mg "_law_speed" = some (.ref (He.fAd Γ.K ("_law_speed", none)))
  fn__law_is_whole : (∃ fd, FunD Γ.K "_law_is_whole" "_law_is_whole" (defArgs (top 78)) (defBody (top 78)) (defScope (top 78)) [] [] (He.fAd Γ.K ("_law_is_whole", none)) fd) ∧ Γ.mg "_law_is_whole" = some (.ref (He.fAd Γ.K ("_law_is_whole", none)))
  fn__law_is_fraction : (∃ fd, FunD Γ.K "_law_is_fraction" "_law_is_fraction" (defArgs (top 79)) (defBody (top 79)) (defScope (top 79)) [] [] (He.fAd Γ.K ("_law_is_fraction", none)) fd) ∧ Γ.mg "_law_is_fraction" = some (.ref (He.fAd Γ.K ("_law_is_fraction", none)))
  fn__law_are_fractions : (∃ fd, FunD Γ.K "_law_are_fractions" "_law_are_fractions" (defArgs (top 80)) (defBody (top 80)) (defScope (top 80)) [] [] (He.fAd Γ.K ("_law_are_fractions", none)) fd) ∧ Γ.mg "_law_are_fractions" = some (.ref (He.fAd Γ.K ("_law_are_fractions", none)))
  fn__law_is_screw : (∃ fd, FunD Γ.K "_law_is_screw" "_law_is_screw" (defArgs (top 81)) (defBody (top 81)) (defScope (top 81)) [] [] (He.fAd Γ.K ("_law_is_screw", none)) fd) ∧ Γ.mg "_law_is_screw" = some (.ref (He.fAd Γ.K ("_law_is_screw", none)))
  fn__law_fraction : (∃ fd, FunD Γ.K "_law_fraction" "_law_fraction" (defArgs (top 82)) (defBody (top 82)) (defScope (top 82)) [] [] (He.fAd Γ.K ("_law_fraction", none)) fd) ∧ Γ.mg "_law_fraction" = some (.ref (He.fAd Γ.K ("_law_fraction", none)))
  fn__law_amount : (∃ fd, FunD Γ.K "_law_amount" "_law_amount" (defArgs (top 83)) (defBody (top 83)) (defScope (top 83)) [] [] (He.fAd Γ.K ("_law_amount", none)) fd) ∧ Γ.mg "_law_amount" = some (.ref (He.fAd Γ.K ("_law_amount", none)))
  fn__law_spot : (∃ fd, FunD Γ.K "_law_spot" "_law_spot" (defArgs (top 84)) (defBody (top 84)) (defScope (top 84)) [] [] (He.fAd Γ.K ("_law_spot", none)) fd) ∧ Γ.mg "_law_spot" = some (.ref (He.fAd Γ.K ("_law_spot", none)))
  fn__law_way : (∃ fd, FunD Γ.K "_law_way" "_law_way" (defArgs (top 85)) (defBody (top 85)) (defScope (top 85)) [] [] (He.fAd Γ.K ("_law_way", none)) fd) ∧ Γ.mg "_law_way" = some (.ref (He.fAd Γ.K ("_law_way", none)))
  fn__law_other_way : (∃ fd, FunD Γ.K "_law_other_way" "_law_other_way" (defArgs (top 86)) (defBody (top 86)) (defScope (top 86)) [] [] (He.fAd Γ.K ("_law_other_way", none)) fd) ∧ Γ.mg "_law_other_way" = some (.ref (He.fAd Γ.K ("_law_other_way", none)))
  fn__law_screw : (∃ fd, FunD Γ.K "_law_screw" "_law_screw" (defArgs (top 87)) (defBody (top 87)) (defScope (top 87)) [] [] (He.fAd Γ.K ("_law_screw", none)) fd) ∧ Γ.mg "_law_screw" = some (.ref (He.fAd Γ.K ("_law_screw", none)))
  fn__law_turn : (∃ fd, FunD Γ.K "_law_turn" "_law_turn" (defArgs (top 88)) (defBody (top 88)) (defScope (top 88)) [] [] (He.fAd Γ.K ("_law_turn", none)) fd) ∧ Γ.mg "_law_turn" = some (.ref (He.fAd Γ.K ("_law_turn", none)))
  fn__law_turned : (∃ fd, FunD Γ.K "_law_turned" "_law_turned" (defArgs (top 89)) (defBody (top 89)) (defScope (top 89)) [] [] (He.fAd Γ.K ("_law_turned", none)) fd) ∧ Γ.mg "_law_turned" = some (.ref (He.fAd Γ.K ("_law_turned", none)))
  fn__law_placed : (∃ fd, FunD Γ.K "_law_placed" "_law_placed" (defArgs (top 90)) (defBody (top 90)) (defScope (top 90)) [] [] (He.fAd Γ.K ("_law_placed", none)) fd) ∧ Γ.mg "_law_placed" = some (.ref (He.fAd Γ.K ("_law_placed", none)))
  fn__law_led : (∃ fd, FunD Γ.K "_law_led" "_law_led" (defArgs (top 91)) (defBody (top 91)) (defScope (top 91)) [] [] (He.fAd Γ.K ("_law_led", none)) fd) ∧ Γ.mg "_law_led" = some (.ref (He.fAd Γ.K ("_law_led", none)))
  fn__law_body : (∃ fd, FunD Γ.K "_law_body" "_law_body" (defArgs (top 92)) (defBody (top 92)) (defScope (top 92)) [] [] (He.fAd Γ.K ("_law_body", none)) fd) ∧ Γ.mg "_law_body" = some (.ref (He.fAd Γ.K ("_law_body", none)))
  fn__law_momentum : (∃ fd, FunD Γ.K "_law_momentum" "_law_momentum" (defArgs (top 93)) (defBody (top 93)) (defScope (top 93)) [] [] (He.fAd Γ.K ("_law_momentum", none)) fd) ∧ Γ.mg "_law_momentum" = some (.ref (He.fAd Γ.K ("_law_momentum", none)))
  fn__law_right : (∃ fd, FunD Γ.K "_law_right" "_law_right" (defArgs (top 94)) (defBody (top 94)) (defScope (top 94)) [] [] (He.fAd Γ.K ("_law_right", none)) fd) ∧ Γ.mg "_law_right" = some (.ref (He.fAd Γ.K ("_law_right", none)))
  fn_law : (∃ fd, FunD Γ.K "law" "law" (defArgs (top 95)) (defBody (top 95)) (defScope (top 95)) [] [] (He.fAd Γ.K ("law", none)) fd) ∧ Γ.mg "law" = some (.ref (He.fAd Γ.K ("law", none)))
  free_abs : Γ.mg "abs" = none
  free_all : Γ.mg "all" = none
  free_bool : Γ.mg "bool" = none
  free_enumerate : Γ.mg "enumerate" = none
  free_int : Γ.mg "int" = none
  free_isinstance : Γ.mg "isinstance" = none
  free_len : Γ.mg "len" = none
  free_list : Γ.mg "list" = none
  free_max : Γ.mg "max" = none
  free_min : Γ.mg "min" = none
  free_range : Γ.mg "range" = none
  free_repr : Γ.mg "repr" = none
  free_sorted : Γ.mg "sorted" = none
  free_sum : Γ.mg "sum" = none
  free_tuple : Γ.mg "tuple" = none
  free_zip : Γ.mg "zip" = none
  mod_combinations : Γ.mg "combinations" = some (.type "itertools.combinations")
  mod_gcd : Γ.mg "gcd" = some (.builtin "math.gcd")
  mod_lcm : Γ.mg "lcm" = some (.builtin "math.lcm")
  cst_LEAST_MASSES : KRep Γ.K Γ.mg "LEAST_MASSES" c_LEAST_MASSES
  cst_MOST_MASSES : KRep Γ.K Γ.mg "MOST_MASSES" c_MOST_MASSES
  cst_NOUGHT_TRIPLE : KRep Γ.K Γ.mg "NOUGHT_TRIPLE" c_NOUGHT_TRIPLE
  cst_NOUGHT_fracs : KRep Γ.K Γ.mg "NOUGHT_fracs" c_NOUGHT_fracs
  cst_NOUGHT_screws : KRep Γ.K Γ.mg "NOUGHT_screws" c_NOUGHT_screws
  cst_UNITS : KRep Γ.K Γ.mg "UNITS" c_UNITS
variable {Γ : GG}
/-! is_whole -/
def d_is_whole : He.DefD := ⟨("is_whole", none), "is_whole", "is_whole", defArgs (top 7), defBody (top 7), defScope (top 7), [], []⟩
abbrev N_is_whole : List Str := ["value"]
theorem S_is_whole : FnScope N_is_whole ["value"] d_is_whole.scope := ⟨rfl, rfl, rfl, by decide +kernel, rfl, by decide +kernel, by decide +kernel⟩
theorem b_is_whole (F : Fc Γ) : Body Γ 0 N_is_whole d_is_whole m_is_whole := by
  intro f cd A outer s H E C
  have v0_value := fun p : Pos => pd_var (X := (bx Γ N_is_whole d_is_whole f cd A outer s H E)) (E := E) (i := 0) (x := "value") (pos := p) rfl (.inl rfl)
  exact (pdss_one (pds_ret (pd_and (pd_isi rfl F.free_isinstance rfl F.free_int rfl kit_int (v0_value _)) (pd_one (pd_not (pd_isi rfl F.free_isinstance rfl F.free_bool rfl kit_bool (v0_value _)))))))
theorem ok_is_whole (F : Fc Γ) : DefOk Γ 1 d_is_whole ["value"] f_is_whole := def_ok F.fn_is_whole.1 F.fn_is_whole.2 S_is_whole (fun _ _ _ _ _ _ us hl => match us, hl with | [_], _ => rfl) (b_is_whole F)
/-! common_part -/
def d_common_part : He.DefD := ⟨("common_part", none), "common_part", "common_part", defArgs (top 8), defBody (top 8), defScope (top 8), [], []⟩
abbrev N_common_part : List Str := ["numbers", "found", "number"]
theorem S_common_part : FnScope N_common_part ["numbers"] d_common_part.scope := ⟨rfl, rfl, rfl, by decide +kernel, rfl, by decide +kernel, by decide +kernel⟩
theorem b_common_part (F : Fc Γ) : Body Γ 0 N_common_part d_common_part m_common_part := by
  intro f cd A outer s H E C
  have v0_numbers := fun p : Pos => pd_var (X := (bx Γ N_common_part d_common_part f cd A outer s H E)) (E := E) (i := 0) (x := "numbers") (pos := p) rfl (.inl rfl)
  have v0_found := fun p : Pos => pd_var (X := (bx Γ N_common_part d_common_part f cd A outer s H E)) (E := E) (i := 1) (x := "found") (pos := p) rfl (.inl rfl)
  have v0_number := fun p : Pos => pd_var (X := (bx Γ N_common_part d_common_part f cd A outer s H E)) (E := E) (i := 2) (x := "number") (pos := p) rfl (.inl rfl)
  exact (pdss_cons (pds_set (i := 1) S_common_part.nd rfl (.inl rfl) (.inl rfl) pd_int)
 (pdss_cons (pds_for C (pid_seq (v0_numbers _)) (pgd_name (i := 2) (x := "number") S_common_part.nd rfl (.inl rfl) (.inl rfl))
 (pdss_one (pds_set (i := 1) S_common_part.nd rfl (.inl rfl) (.inl rfl) (pd_callM cd_gcd rfl F.mod_gcd (pda_cons (v0_found _) (pda_cons (v0_number _) pda_nil))))))
 (pdss_one (pds_ret (v0_found _)))))
theorem ok_common_part (F : Fc Γ) : DefOk Γ 1 d_common_part ["numbers"] f_common_part := def_ok F.fn_common_part.1 F.fn_common_part.2 S_common_part (fun _ _ _ _ _ _ us hl => match us, hl with | [_], _ => rfl) (b_common_part F)
/-! lowest -/
def d_lowest : He.DefD := ⟨("lowest", none), "lowest", "lowest", defArgs (top 9), defBody (top 9), defScope (top 9), [], []⟩
abbrev N_lowest : List Str := ["numbers", "part", "number"]
abbrev cs_lowest_0 : Scope := { kind := .function, names := [(".0", .local), ("number", .local), ("part", .free)], isGenerator := false, isCoroutine := false, more := [] }
theorem S_lowest : FnScope N_lowest ["numbers"] d_lowest.scope := ⟨rfl, rfl, rfl, by decide +kernel, rfl, by decide +kernel, by decide +kernel⟩
theorem b_lowest (F : Fc Γ) : Body Γ 1 N_lowest d_lowest m_lowest := by
  intro f cd A outer s H E C
  have v0_numbers := fun p : Pos => pd_var (X := (bx Γ N_lowest d_lowest f cd A outer s H E)) (E := E) (i := 0) (x := "numbers") (pos := p) rfl (.inl rfl)
  exact (pdss_cons (pds_set (i := 1) S_lowest.nd rfl (.inr rfl) (.inl rfl) (pd_def C (ok_common_part F) (by decide) rfl rfl (pda_cons (v0_numbers _) pda_nil)))
 (pdss_one (pds_ret (pd_callTy cd_tuple rfl F.free_tuple rfl (pda_cons (pd_lc (scope := cs_lowest_0) (own := [("number", 2)]) (vs := [2]) C mk_lst (pid_seq (v0_numbers _)) rfl (by decide) (fun s1 H1 A1 l1 p1 => (pgd_name (i := 2) (x := "number") S_lowest.nd rfl (.inl rfl) (.inr rfl))) (fun s1 H1 A1 l1 p1 => pdts_nil) (fun s1 H1 A1 l1 p1 => have v1_number := fun p : Pos => pd_var (X := ((bx Γ N_lowest d_lowest f cd A outer s H E).blk s1 H1 cs_lowest_0 (compEnvC cs_lowest_0 l1 A1 ((bx Γ N_lowest d_lowest f cd A outer s H E)).env) p1)) (E := DL.E0) (i := 2) (x := "number") (pos := p) rfl (.inl rfl); have v1_part := fun p : Pos => pd_var (X := ((bx Γ N_lowest d_lowest f cd A outer s H E).blk s1 H1 cs_lowest_0 (compEnvC cs_lowest_0 l1 A1 ((bx Γ N_lowest d_lowest f cd A outer s H E)).env) p1)) (E := DL.E0) (i := 1) (x := "part") (pos := p) rfl (.inr (.inl rfl)); (pd_op opd_fdiv (v1_number _) (v1_part _)))) pda_nil)))))
theorem ok_lowest (F : Fc Γ) : DefOk Γ 2 d_lowest ["numbers"] f_lowest := def_ok F.fn_lowest.1 F.fn_lowest.2 S_lowest (fun _ _ _ _ _ _ us hl => match us, hl with | [_], _ => rfl) (b_lowest F)
/-! lowest_over -/
def d_lowest_over : He.DefD := ⟨("lowest_over", none), "lowest_over", "lowest_over", defArgs (top 10), defBody (top 10), defScope (top 10), [], []⟩
abbrev N_lowest_over : List Str := ["numbers", "below", "factor", "number"]
abbrev cs_lowest_over_0 : Scope := { kind := .function, names := [(".0", .local), ("number", .local), ("factor", .free)], isGenerator := false, isCoroutine := false, more := [] }
theorem S_lowest_over : FnScope N_lowest_over ["numbers", "below"] d_lowest_over.scope := ⟨rfl, rfl, rfl, by decide +kernel, rfl, by decide +kernel, by decide +kernel⟩
theorem b_lowest_over (F : Fc Γ) : Body Γ 2 N_lowest_over d_lowest_over m_lowest_over := by
  intro f cd A outer s H E C
  have v0_numbers := fun p : Pos => pd_var (X := (bx Γ N_lowest_over d_lowest_over f cd A outer s H E)) (E := E) (i := 0) (x := "numbers") (pos := p) rfl (.inl rfl)
  have v0_below := fun p : Pos => pd_var (X := (bx Γ N_lowest_over d_lowest_over f cd A outer s H E)) (E := E) (i := 1) (x := "below") (pos := p) rfl (.inl rfl)
  have v0_factor := fun p : Pos => pd_var (X := (bx Γ N_lowest_over d_lowest_over f cd A outer s H E)) (E := E) (i := 2) (x := "factor") (pos := p) rfl (.inr (.inl rfl))
  exact (pdss_cons (pds_set (i := 2) S_lowest_over.nd rfl (.inr rfl) (.inl rfl) (pd_if (pdt_cmp opd_gt (v0_below _) pd_int) pd_int (pd_neg pd_int)))
 (pdss_one (pds_ret (pd_def C (ok_lowest F) (by decide) rfl rfl (pda_cons (pd_op (opd_add mk_lst) (pd_lc (scope := cs_lowest_over_0) (own := [("number", 3)]) (vs := [3]) C mk_lst (pid_seq (v0_numbers _)) rfl (by decide) (fun s1 H1 A1 l1 p1 => (pgd_name (i := 3) (x := "number") S_lowest_over.nd rfl (.inl rfl) (.inr rfl))) (fun s1 H1 A1 l1 p1 => pdts_nil) (fun s1 H1 A1 l1 p1 => have v1_number := fun p : Pos => pd_var (X := ((bx Γ N_lowest_over d_lowest_over f cd A outer s H E).blk s1 H1 cs_lowest_over_0 (compEnvC cs_lowest_over_0 l1 A1 ((bx Γ N_lowest_over d_lowest_over f cd A outer s H E)).env) p1)) (E := DL.E0) (i := 3) (x := "number") (pos := p) rfl (.inl rfl); have v1_factor := fun p : Pos => pd_var (X := ((bx Γ N_lowest_over d_lowest_over f cd A outer s H E).blk s1 H1 cs_lowest_over_0 (compEnvC cs_lowest_over_0 l1 A1 ((bx Γ N_lowest_over d_lowest_over f cd A outer s H E)).env) p1)) (E := DL.E0) (i := 2) (x := "factor") (pos := p) rfl (.inr (.inl rfl)); (pd_op (opd_mul mk_lst) (v1_factor _) (v1_number _)))) (pd_lst mk_lst (pda_cons (pd_op (opd_mul mk_lst) (v0_factor _) (v0_below _)) pda_nil))) pda_nil)))))
theorem ok_lowest_over (F : Fc Γ) : DefOk Γ 3 d_lowest_over ["numbers", "below"] f_lowest_over := def_ok F.fn_lowest_over.1 F.fn_lowest_over.2 S_lowest_over (fun _ _ _ _ _ _ us hl => match us, hl with | [_, _], _ => rfl) (b_lowest_over F)
/-! ratio -/
def d_ratio : He.DefD := ⟨("ratio", none), "ratio", "ratio", defArgs (top 11), defBody (top 11), defScope (top 11), [], []⟩
abbrev N_ratio : List Str := ["top", "below"]
theorem S_ratio : FnScope N_ratio ["top", "below"] d_ratio.scope := ⟨rfl, rfl, rfl, by decide +kernel, rfl, by decide +kernel, by decide +kernel⟩
theorem b_ratio (F : Fc Γ) : Body Γ 3 N_ratio d_ratio m_ratio := by
  intro f cd A outer s H E C
  have v0_top := fun p : Pos => pd_var (X := (bx Γ N_ratio d_ratio f cd A outer s H E)) (E := E) (i := 0) (x := "top") (pos := p) rfl (.inl rfl)
  have v0_below := fun p : Pos => pd_var (X := (bx Γ N_ratio d_ratio f cd A outer s H E)) (E := E) (i := 1) (x := "below") (pos := p) rfl (.inl rfl)
  exact (pdss_one (pds_ret (pd_def C (ok_lowest_over F) (by decide) rfl rfl (pda_cons (pd_lst mk_lst (pda_cons (v0_top _) pda_nil)) (pda_cons (v0_below _) pda_nil)))))
theorem ok_ratio (F : Fc Γ) : DefOk Γ 4 d_ratio ["top", "below"] f_ratio := def_ok F.fn_ratio.1 F.fn_ratio.2 S_ratio (fun _ _ _ _ _ _ us hl => match us, hl with | [_, _], _ => rfl) (b_ratio F)
/-! plus -/
def d_plus : He.DefD := ⟨("plus", none), "plus", "plus", defArgs (top 14), defBody (top 14), defScope (top 14), [], []⟩
abbrev N_plus : List Str := ["one", "other"]
theorem S_plus : FnScope N_plus ["one", "other"] d_plus.scope := ⟨rfl, rfl, rfl, by decide +kernel, rfl, by decide +kernel, by decide +kernel⟩
theorem b_plus (F : Fc Γ) : Body Γ 4 N_plus d_plus m_plus := by
  intro f cd A outer s H E C
  have v0_one := fun p : Pos => pd_var (X := (bx Γ N_plus d_plus f cd A outer s H E)) (E := E) (i := 0) (x := "one") (pos := p) rfl (.inl rfl)
  have v0_other := fun p : Pos => pd_var (X := (bx Γ N_plus d_plus f cd A outer s H E)) (E := E) (i := 1) (x := "other") (pos := p) rfl (.inl rfl)
  exact (pdss_one (pds_ret (pd_def C (ok_ratio F) (by decide) rfl rfl (pda_cons (pd_op (opd_add mk_lst) (pd_op (opd_mul mk_lst) (pd_ix (v0_one _) pd_int (fun _ _ => rfl)) (pd_ix (v0_other _) pd_int (fun _ _ => rfl))) (pd_op (opd_mul mk_lst) (pd_ix (v0_other _) pd_int (fun _ _ => rfl)) (pd_ix (v0_one _) pd_int (fun _ _ => rfl)))) (pda_cons (pd_op (opd_mul mk_lst) (pd_ix (v0_one _) pd_int (fun _ _ => rfl)) (pd_ix (v0_other _) pd_int (fun _ _ => rfl))) pda_nil)))))
theorem ok_plus (F : Fc Γ) : DefOk Γ 5 d_plus ["one", "other"] f_plus := def_ok F.fn_plus.1 F.fn_plus.2 S_plus (fun _ _ _ _ _ _ us hl => match us, hl with | [_, _], _ => rfl) (b_plus F)
/-! minus -/
def d_minus : He.DefD := ⟨("minus", none), "minus", "minus", defArgs (top 15), defBody (top 15), defScope (top 15), [], []⟩
abbrev N_minus : List Str := ["one", "other"]
theorem S_minus : FnScope N_minus ["one", "other"] d_minus.scope := ⟨rfl, rfl, rfl, by decide +kernel, rfl, by decide +kernel, by decide +kernel⟩
theorem b_minus (F : Fc Γ) : Body Γ 4 N_minus d_minus m_minus := by
  intro f cd A outer s H E C
  have v0_one := fun p : Pos => pd_var (X := (bx Γ N_minus d_minus f cd A outer s H E)) (E := E) (i := 0) (x := "one") (pos := p) rfl (.inl rfl)
  have v0_other := fun p : Pos => pd_var (X := (bx Γ N_minus d_minus f cd A outer s H E)) (E := E) (i := 1) (x := "other") (pos := p) rfl (.inl rfl)
  exact (pdss_one (pds_ret (pd_def C (ok_ratio F) (by decide) rfl rfl (pda_cons (pd_op opd_sub (pd_op (opd_mul mk_lst) (pd_ix (v0_one _) pd_int (fun _ _ => rfl)) (pd_ix (v0_other _) pd_int (fun _ _ => rfl))) (pd_op (opd_mul mk_lst) (pd_ix (v0_other _) pd_int (fun _ _ => rfl)) (pd_ix (v0_one _) pd_int (fun _ _ => rfl)))) (pda_cons (pd_op (opd_mul mk_lst) (pd_ix (v0_one _) pd_int (fun _ _ => rfl)) (pd_ix (v0_other _) pd_int (fun _ _ => rfl))) pda_nil)))))
theorem ok_minus (F : Fc Γ) : DefOk Γ 5 d_minus ["one", "other"] f_minus := def_ok F.fn_minus.1 F.fn_minus.2 S_minus (fun _ _ _ _ _ _ us hl => match us, hl with | [_, _], _ => rfl) (b_minus F)
/-! times -/
def d_times : He.DefD := ⟨("times", none), "times", "times", defArgs (top 16), defBody (top 16), defScope (top 16), [], []⟩
abbrev N_times : List Str := ["one", "other"]
theorem S_times : FnScope N_times ["one", "other"] d_times.scope := ⟨rfl, rfl, rfl, by decide +kernel, rfl, by decide +kernel, by decide +kernel⟩
theorem b_times (F : Fc Γ) : Body Γ 4 N_times d_times m_times := by
  intro f cd A outer s H E C
  have v0_one := fun p : Pos => pd_var (X := (bx Γ N_times d_times f cd A outer s H E)) (E := E) (i := 0) (x := "one") (pos := p) rfl (.inl rfl)
  have v0_other := fun p : Pos => pd_var (X := (bx Γ N_times d_times f cd A outer s H E)) (E := E) (i := 1) (x := "other") (pos := p) rfl (.inl rfl)
  exact (pdss_one (pds_ret (pd_def C (ok_ratio F) (by decide) rfl rfl (pda_cons (pd_op (opd_mul mk_lst) (pd_ix (v0_one _) pd_int (fun _ _ => rfl)) (pd_ix (v0_other _) pd_int (fun _ _ => rfl))) (pda_cons (pd_op (opd_mul mk_lst) (pd_ix (v0_one _) pd_int (fun _ _ => rfl)) (pd_ix (v0_other _) pd_int (fun _ _ => rfl))) pda_nil)))))
theorem ok_times (F : Fc Γ) : DefOk Γ 5 d_times ["one", "other"] f_times := def_ok F.fn_times.1 F.fn_times.2 S_times (fun _ _ _ _ _ _ us hl => match us, hl with | [_, _], _ => rfl) (b_times F)
/-! total -/
def d_total : He.DefD := ⟨("total", none), "total", "total", defArgs (top 17), defBody (top 17), defScope (top 17), [], []⟩
abbrev N_total : List Str := ["parts", "found", "part"]
theorem S_total : FnScope N_total ["parts"] d_total.scope := ⟨rfl, rfl, rfl, by decide +kernel, rfl, by decide +kernel, by decide +kernel⟩
theorem b_total (F : Fc Γ) : Body Γ 5 N_total d_total m_total := by
  intro f cd A outer s H E C
  have v0_parts := fun p : Pos => pd_var (X := (bx Γ N_total d_total f cd A outer s H E)) (E := E) (i := 0) (x := "parts") (pos := p) rfl (.inl rfl)
  have v0_found := fun p : Pos => pd_var (X := (bx Γ N_total d_total f cd A outer s H E)) (E := E) (i := 1) (x := "found") (pos := p) rfl (.inl rfl)
  have v0_part := fun p : Pos => pd_var (X := (bx Γ N_total d_total f cd A outer s H E)) (E := E) (i := 2) (x := "part") (pos := p) rfl (.inl rfl)
  exact (pdss_cons (pds_set (i := 1) S_total.nd rfl (.inl rfl) (.inl rfl) (pd_glob rfl F.cst_NOUGHT_fracs))
 (pdss_cons (pds_for C (pid_seq (v0_parts _)) (pgd_name (i := 2) (x := "part") S_total.nd rfl (.inl rfl) (.inl rfl))
 (pdss_one (pds_set (i := 1) S_total.nd rfl (.inl rfl) (.inl rfl) (pd_def C (ok_plus F) (by decide) rfl rfl (pda_cons (v0_found _) (pda_cons (v0_part _) pda_nil))))))
 (pdss_one (pds_ret (v0_found _)))))
theorem ok_total (F : Fc Γ) : DefOk Γ 6 d_total ["parts"] f_total := def_ok F.fn_total.1 F.fn_total.2 S_total (fun _ _ _ _ _ _ us hl => match us, hl with | [_], _ => rfl) (b_total F)
/-! over_one -/
def d_over_one : He.DefD := ⟨("over_one", none), "over_one", "over_one", defArgs (top 18), defBody (top 18), defScope (top 18), [], []⟩
abbrev N_over_one : List Str := ["parts", "below", "part"]
abbrev cs_over_one_0 : Scope := { kind := .function, names := [(".0", .local), ("part", .local), ("below", .free)], isGenerator := false, isCoroutine := false, more := [] }
theorem S_over_one : FnScope N_over_one ["parts"] d_over_one.scope := ⟨rfl, rfl, rfl, by decide +kernel, rfl, by decide +kernel, by decide +kernel⟩
theorem b_over_one (F : Fc Γ) : Body Γ 0 N_over_one d_over_one m_over_one := by
  intro f cd A outer s H E C
  have v0_parts := fun p : Pos => pd_var (X := (bx Γ N_over_one d_over_one f cd A outer s H E)) (E := E) (i := 0) (x := "parts") (pos := p) rfl (.inl rfl)
  have v0_below := fun p : Pos => pd_var (X := (bx Γ N_over_one d_over_one f cd A outer s H E)) (E := E) (i := 1) (x := "below") (pos := p) rfl (.inr (.inl rfl))
  have v0_part := fun p : Pos => pd_var (X := (bx Γ N_over_one d_over_one f cd A outer s H E)) (E := E) (i := 2) (x := "part") (pos := p) rfl (.inl rfl)
  exact (pdss_cons (pds_set (i := 1) S_over_one.nd rfl (.inr rfl) (.inl rfl) pd_int)
 (pdss_cons (pds_for C (pid_seq (v0_parts _)) (pgd_name (i := 2) (x := "part") S_over_one.nd rfl (.inl rfl) (.inl rfl))
 (pdss_one (pds_set (i := 1) S_over_one.nd rfl (.inr rfl) (.inl rfl) (pd_callM cd_lcm rfl F.mod_lcm (pda_cons (v0_below _) (pda_cons (pd_ix (v0_part _) pd_int (fun _ _ => rfl)) pda_nil))))))
 (pdss_one (pds_ret (pd_tup (pda_cons (pd_lc (scope := cs_over_one_0) (own := [("part", 2)]) (vs := [2]) C mk_lst (pid_seq (v0_parts _)) rfl (by decide) (fun s1 H1 A1 l1 p1 => (pgd_name (i := 2) (x := "part") S_over_one.nd rfl (.inl rfl) (.inr rfl))) (fun s1 H1 A1 l1 p1 => pdts_nil) (fun s1 H1 A1 l1 p1 => have v1_part := fun p : Pos => pd_var (X := ((bx Γ N_over_one d_over_one f cd A outer s H E).blk s1 H1 cs_over_one_0 (compEnvC cs_over_one_0 l1 A1 ((bx Γ N_over_one d_over_one f cd A outer s H E)).env) p1)) (E := DL.E0) (i := 2) (x := "part") (pos := p) rfl (.inl rfl); have v1_below := fun p : Pos => pd_var (X := ((bx Γ N_over_one d_over_one f cd A outer s H E).blk s1 H1 cs_over_one_0 (compEnvC cs_over_one_0 l1 A1 ((bx Γ N_over_one d_over_one f cd A outer s H E)).env) p1)) (E := DL.E0) (i := 1) (x := "below") (pos := p) rfl (.inr (.inl rfl)); (pd_op (opd_mul mk_lst) (pd_ix (v1_part _) pd_int (fun _ _ => rfl)) (pd_op opd_fdiv (v1_below _) (pd_ix (v1_part _) pd_int (fun _ _ => rfl)))))) (pda_cons (v0_below _) pda_nil)))))))
theorem ok_over_one (F : Fc Γ) : DefOk Γ 1 d_over_one ["parts"] f_over_one := def_ok F.fn_over_one.1 F.fn_over_one.2 S_over_one (fun _ _ _ _ _ _ us hl => match us, hl with | [_], _ => rfl) (b_over_one F)
/-! is_fraction -/
def d_is_fraction : He.DefD := ⟨("is_fraction", none), "is_fraction", "is_fraction", defArgs (top 21), defBody (top 21), defScope (top 21), [], []⟩
abbrev N_is_fraction : List Str := ["value"]
theorem S_is_fraction : FnScope N_is_fraction ["value"] d_is_fraction.scope := ⟨rfl, rfl, rfl, by decide +kernel, rfl, by decide +kernel, by decide +kernel⟩
theorem b_is_fraction (F : Fc Γ) : Body Γ 1 N_is_fraction d_is_fraction m_is_fraction := by
  intro f cd A outer s H E C
  have v0_value := fun p : Pos => pd_var (X := (bx Γ N_is_fraction d_is_fraction f cd A outer s H E)) (E := E) (i := 0) (x := "value") (pos := p) rfl (.inl rfl)
  exact (pdss_cons (pds_if (pdt_w (pdw_or (pdt_not (pdt_val (pd_isi rfl F.free_isinstance rfl F.free_tuple rfl kit_tuple (v0_value _)))) (pdw_or (pdt_cmp (opd_ne C.eqU) (pd_callB cd_len rfl F.free_len rfl (pda_cons (v0_value _) pda_nil)) pd_int) (pdw_or (pdt_not (pdt_val (pd_def C (ok_is_whole F) (by decide) rfl rfl (pda_cons (pd_ix (v0_value _) pd_int (fun _ _ => rfl)) pda_nil)))) (pdw_or1 (pdt_not (pdt_val (pd_def C (ok_is_whole F) (by decide) rfl rfl (pda_cons (pd_ix (v0_value _) pd_int (fun _ _ => rfl)) pda_nil)))))))))
 (pdss_one (pds_ret pd_bl))
 pdss_nil)
 (pdss_one (pds_ret (pd_and (pd_cmp opd_gt (pd_ix (v0_value _) pd_int (fun _ _ => rfl)) pd_int) (pd_one (pd_cmp (opd_eq C.eqU) (pd_def C (ok_common_part F) (by decide) rfl rfl (pda_cons (v0_value _) pda_nil)) pd_int))))))
theorem ok_is_fraction (F : Fc Γ) : DefOk Γ 2 d_is_fraction ["value"] f_is_fraction := def_ok F.fn_is_fraction.1 F.fn_is_fraction.2 S_is_fraction (fun _ _ _ _ _ _ us hl => match us, hl with | [_], _ => rfl) (b_is_fraction F)
/-! are_fractions -/
def d_are_fractions : He.DefD := ⟨("are_fractions", none), "are_fractions", "are_fractions", defArgs (top 22), defBody (top 22), defScope (top 22), [], []⟩
abbrev N_are_fractions : List Str := ["value", "many", "part"]
abbrev cs_are_fractions_0 : Scope := { kind := .function, names := [(".0", .local), ("part", .local), ("is_fraction", .globalImplicit)], isGenerator := false, isCoroutine := false, more := [] }
theorem S_are_fractions : FnScope N_are_fractions ["value", "many"] d_are_fractions.scope := ⟨rfl, rfl, rfl, by decide +kernel, rfl, by decide +kernel, by decide +kernel⟩
theorem b_are_fractions (F : Fc Γ) : Body Γ 2 N_are_fractions d_are_fractions m_are_fractions := by
  intro f cd A outer s H E C
  have v0_value := fun p : Pos => pd_var (X := (bx Γ N_are_fractions d_are_fractions f cd A outer s H E)) (E := E) (i := 0) (x := "value") (pos := p) rfl (.inl rfl)
  have v0_many := fun p : Pos => pd_var (X := (bx Γ N_are_fractions d_are_fractions f cd A outer s H E)) (E := E) (i := 1) (x := "many") (pos := p) rfl (.inl rfl)
  exact (pdss_one (pds_ret (pd_and (pd_isi rfl F.free_isinstance rfl F.free_tuple rfl kit_tuple (v0_value _)) (pd_and (pd_cmp (opd_eq C.eqU) (pd_callB cd_len rfl F.free_len rfl (pda_cons (v0_value _) pda_nil)) (v0_many _)) (pd_one (pd_cmp (opd_eq C.eqU) (pd_lc (scope := cs_are_fractions_0) (own := [("part", 2)]) (vs := [2]) C mk_lst (pid_seq (v0_value _)) rfl (by decide) (fun s1 H1 A1 l1 p1 => (pgd_name (i := 2) (x := "part") S_are_fractions.nd rfl (.inl rfl) (.inr rfl))) (fun s1 H1 A1 l1 p1 => have v1_part := fun p : Pos => pd_var (X := ((bx Γ N_are_fractions d_are_fractions f cd A outer s H E).blk s1 H1 cs_are_fractions_0 (compEnvC cs_are_fractions_0 l1 A1 ((bx Γ N_are_fractions d_are_fractions f cd A outer s H E)).env) p1)) (E := DL.E0) (i := 2) (x := "part") (pos := p) rfl (.inl rfl); (pdts_one (pdt_not (pdt_val (pd_def (blk_ctx C) (ok_is_fraction F) (by decide) rfl rfl (pda_cons (v1_part _) pda_nil)))))) (fun s1 H1 A1 l1 p1 => have v1_part := fun p : Pos => pd_var (X := ((bx Γ N_are_fractions d_are_fractions f cd A outer s H E).blk s1 H1 cs_are_fractions_0 (compEnvC cs_are_fractions_0 l1 A1 ((bx Γ N_are_fractions d_are_fractions f cd A outer s H E)).env) p1)) (E := DL.E0) (i := 2) (x := "part") (pos := p) rfl (.inl rfl); (v1_part _))) (pd_lst mk_lst pda_nil)))))))
theorem ok_are_fractions (F : Fc Γ) : DefOk Γ 3 d_are_fractions ["value", "many"] f_are_fractions := def_ok F.fn_are_fractions.1 F.fn_are_fractions.2 S_are_fractions (fun _ _ _ _ _ _ us hl => match us, hl with | [_, _], _ => rfl) (b_are_fractions F)
/-! is_triple -/
def d_is_triple : He.DefD := ⟨("is_triple", none), "is_triple", "is_triple", defArgs (top 23), defBody (top 23), defScope (top 23), [], []⟩
abbrev N_is_triple : List Str := ["value"]
theorem S_is_triple : FnScope N_is_triple ["value"] d_is_triple.scope := ⟨rfl, rfl, rfl, by decide +kernel, rfl, by decide +kernel, by decide +kernel⟩
theorem b_is_triple (F : Fc Γ) : Body Γ 3 N_is_triple d_is_triple m_is_triple := by
  intro f cd A outer s H E C
  have v0_value := fun p : Pos => pd_var (X := (bx Γ N_is_triple d_is_triple f cd A outer s H E)) (E := E) (i := 0) (x := "value") (pos := p) rfl (.inl rfl)
  exact (pdss_one (pds_ret (pd_def C (ok_are_fractions F) (by decide) rfl rfl (pda_cons (v0_value _) (pda_cons pd_int pda_nil)))))
theorem ok_is_triple (F : Fc Γ) : DefOk Γ 4 d_is_triple ["value"] f_is_triple := def_ok F.fn_is_triple.1 F.fn_is_triple.2 S_is_triple (fun _ _ _ _ _ _ us hl => match us, hl with | [_], _ => rfl) (b_is_triple F)
/-! summed -/
def d_summed : He.DefD := ⟨("summed", none), "summed", "summed", defArgs (top 24), defBody (top 24), defScope (top 24), [], []⟩
abbrev N_summed : List Str := ["one", "other", "here", "there"]
abbrev cs_summed_0 : Scope := { kind := .function, names := [(".0", .local), ("here", .local), ("there", .local), ("plus", .globalImplicit)], isGenerator := false, isCoroutine := false, more := [] }
theorem S_summed : FnScope N_summed ["one", "other"] d_summed.scope := ⟨rfl, rfl, rfl, by decide +kernel, rfl, by decide +kernel, by decide +kernel⟩
theorem b_summed (F : Fc Γ) : Body Γ 5 N_summed d_summed m_summed := by
  intro f cd A outer s H E C
  have v0_one := fun p : Pos => pd_var (X := (bx Γ N_summed d_summed f cd A outer s H E)) (E := E) (i := 0) (x := "one") (pos := p) rfl (.inl rfl)
  have v0_other := fun p : Pos => pd_var (X := (bx Γ N_summed d_summed f cd A outer s H E)) (E := E) (i := 1) (x := "other") (pos := p) rfl (.inl rfl)
  exact (pdss_one (pds_ret (pd_callTy cd_tuple rfl F.free_tuple rfl (pda_cons (pd_lc (scope := cs_summed_0) (own := [("here", 2), ("there", 3)]) (vs := [2, 3]) C mk_lst (pid_zip (pda_cons (v0_one _) (pda_cons (v0_other _) pda_nil)) rfl F.free_zip) rfl (by decide) (fun s1 H1 A1 l1 p1 => (pgd_tup (blk_ctx C).calm (pgds_cons (pgd_name (i := 2) (x := "here") S_summed.nd rfl (.inl rfl) (.inr rfl)) (pgds_cons (pgd_name (i := 3) (x := "there") S_summed.nd rfl (.inl rfl) (.inr rfl)) pgds_nil)))) (fun s1 H1 A1 l1 p1 => pdts_nil) (fun s1 H1 A1 l1 p1 => have v1_here := fun p : Pos => pd_var (X := ((bx Γ N_summed d_summed f cd A outer s H E).blk s1 H1 cs_summed_0 (compEnvC cs_summed_0 l1 A1 ((bx Γ N_summed d_summed f cd A outer s H E)).env) p1)) (E := DL.E0) (i := 2) (x := "here") (pos := p) rfl (.inl rfl); have v1_there := fun p : Pos => pd_var (X := ((bx Γ N_summed d_summed f cd A outer s H E).blk s1 H1 cs_summed_0 (compEnvC cs_summed_0 l1 A1 ((bx Γ N_summed d_summed f cd A outer s H E)).env) p1)) (E := DL.E0) (i := 3) (x := "there") (pos := p) rfl (.inl rfl); (pd_def (blk_ctx C) (ok_plus F) (by decide) rfl rfl (pda_cons (v1_here _) (pda_cons (v1_there _) pda_nil))))) pda_nil))))
theorem ok_summed (F : Fc Γ) : DefOk Γ 6 d_summed ["one", "other"] f_summed := def_ok F.fn_summed.1 F.fn_summed.2 S_summed (fun _ _ _ _ _ _ us hl => match us, hl with | [_, _], _ => rfl) (b_summed F)
/-! lessened -/
def d_lessened : He.DefD := ⟨("lessened", none), "lessened", "lessened", defArgs (top 25), defBody (top 25), defScope (top 25), [], []⟩
abbrev N_lessened : List Str := ["one", "other", "here", "there"]
abbrev cs_lessened_0 : Scope := { kind := .function, names := [(".0", .local), ("here", .local), ("there", .local), ("minus", .globalImplicit)], isGenerator := false, isCoroutine := false, more := [] }
theorem S_lessened : FnScope N_lessened ["one", "other"] d_lessened.scope := ⟨rfl, rfl, rfl, by decide +kernel, rfl, by decide +kernel, by decide +kernel⟩
theorem b_lessened (F : Fc Γ) : Body Γ 5 N_lessened d_lessened m_lessened := by
  intro f cd A outer s H E C
  have v0_one := fun p : Pos => pd_var (X := (bx Γ N_lessened d_lessened f cd A outer s H E)) (E := E) (i := 0) (x := "one") (pos := p) rfl (.inl rfl)
  have v0_other := fun p : Pos => pd_var (X := (bx Γ N_lessened d_lessened f cd A outer s H E)) (E := E) (i := 1) (x := "other") (pos := p) rfl (.inl rfl)
  exact (pdss_one (pds_ret (pd_callTy cd_tuple rfl F.free_tuple rfl (pda_cons (pd_lc (scope := cs_lessened_0) (own := [("here", 2), ("there", 3)]) (vs := [2, 3]) C mk_lst (pid_zip (pda_cons (v0_one _) (pda_cons (v0_other _) pda_nil)) rfl F.free_zip) rfl (by decide) (fun s1 H1 A1 l1 p1 => (pgd_tup (blk_ctx C).calm (pgds_cons (pgd_name (i := 2) (x := "here") S_lessened.nd rfl (.inl rfl) (.inr rfl)) (pgds_cons (pgd_name (i := 3) (x := "there") S_lessened.nd rfl (.inl rfl) (.inr rfl)) pgds_nil)))) (fun s1 H1 A1 l1 p1 => pdts_nil) (fun s1 H1 A1 l1 p1 => have v1_here := fun p : Pos => pd_var (X := ((bx Γ N_lessened d_lessened f cd A outer s H E).blk s1 H1 cs_lessened_0 (compEnvC cs_lessened_0 l1 A1 ((bx Γ N_lessened d_lessened f cd A outer s H E)).env) p1)) (E := DL.E0) (i := 2) (x := "here") (pos := p) rfl (.inl rfl); have v1_there := fun p : Pos => pd_var (X := ((bx Γ N_lessened d_lessened f cd A outer s H E).blk s1 H1 cs_lessened_0 (compEnvC cs_lessened_0 l1 A1 ((bx Γ N_lessened d_lessened f cd A outer s H E)).env) p1)) (E := DL.E0) (i := 3) (x := "there") (pos := p) rfl (.inl rfl); (pd_def (blk_ctx C) (ok_minus F) (by decide) rfl rfl (pda_cons (v1_here _) (pda_cons (v1_there _) pda_nil))))) pda_nil))))
theorem ok_lessened (F : Fc Γ) : DefOk Γ 6 d_lessened ["one", "other"] f_lessened := def_ok F.fn_lessened.1 F.fn_lessened.2 S_lessened (fun _ _ _ _ _ _ us hl => match us, hl with | [_, _], _ => rfl) (b_lessened F)
/-! scaled -/
def d_scaled : He.DefD := ⟨("scaled", none), "scaled", "scaled", defArgs (top 26), defBody (top 26), defScope (top 26), [], []⟩
abbrev N_scaled : List Str := ["parts", "factor", "part"]
abbrev cs_scaled_0 : Scope := { kind := .function, names := [(".0", .local), ("part", .local), ("times", .globalImplicit), ("factor", .free)], isGenerator := false, isCoroutine := false, more := [] }
theorem S_scaled : FnScope N_scaled ["parts", "factor"] d_scaled.scope := ⟨rfl, rfl, rfl, by decide +kernel, rfl, by decide +kernel, by decide +kernel⟩
theorem b_scaled (F : Fc Γ) : Body Γ 5 N_scaled d_scaled m_scaled := by
  intro f cd A outer s H E C
  have v0_parts := fun p : Pos => pd_var (X := (bx Γ N_scaled d_scaled f cd A outer s H E)) (E := E) (i := 0) (x := "parts") (pos := p) rfl (.inl rfl)
  exact (pdss_one (pds_ret (pd_callTy cd_tuple rfl F.free_tuple rfl (pda_cons (pd_lc (scope := cs_scaled_0) (own := [("part", 2)]) (vs := [2]) C mk_lst (pid_seq (v0_parts _)) rfl (by decide) (fun s1 H1 A1 l1 p1 => (pgd_name (i := 2) (x := "part") S_scaled.nd rfl (.inl rfl) (.inr rfl))) (fun s1 H1 A1 l1 p1 => pdts_nil) (fun s1 H1 A1 l1 p1 => have v1_part := fun p : Pos => pd_var (X := ((bx Γ N_scaled d_scaled f cd A outer s H E).blk s1 H1 cs_scaled_0 (compEnvC cs_scaled_0 l1 A1 ((bx Γ N_scaled d_scaled f cd A outer s H E)).env) p1)) (E := DL.E0) (i := 2) (x := "part") (pos := p) rfl (.inl rfl); have v1_factor := fun p : Pos => pd_var (X := ((bx Γ N_scaled d_scaled f cd A outer s H E).blk s1 H1 cs_scaled_0 (compEnvC cs_scaled_0 l1 A1 ((bx Γ N_scaled d_scaled f cd A outer s H E)).env) p1)) (E := DL.E0) (i := 1) (x := "factor") (pos := p) rfl (.inr (.inl rfl)); (pd_def (blk_ctx C) (ok_times F) (by decide) rfl rfl (pda_cons (v1_part _) (pda_cons (v1_factor _) pda_nil))))) pda_nil))))
theorem ok_scaled (F : Fc Γ) : DefOk Γ 6 d_scaled ["parts", "factor"] f_scaled := def_ok F.fn_scaled.1 F.fn_scaled.2 S_scaled (fun _ _ _ _ _ _ us hl => match us, hl with | [_, _], _ => rfl) (b_scaled F)
/-! dot_of -/
def d_dot_of : He.DefD := ⟨("dot_of", none), "dot_of", "dot_of", defArgs (top 27), defBody (top 27), defScope (top 27), [], []⟩
abbrev N_dot_of : List Str := ["one", "other", "here", "there"]
abbrev cs_dot_of_0 : Scope := { kind := .function, names := [(".0", .local), ("here", .local), ("there", .local), ("times", .globalImplicit)], isGenerator := false, isCoroutine := false, more := [] }
theorem S_dot_of : FnScope N_dot_of ["one", "other"] d_dot_of.scope := ⟨rfl, rfl, rfl, by decide +kernel, rfl, by decide +kernel, by decide +kernel⟩
theorem b_dot_of (F : Fc Γ) : Body Γ 6 N_dot_of d_dot_of m_dot_of := by
  intro f cd A outer s H E C
  have v0_one := fun p : Pos => pd_var (X := (bx Γ N_dot_of d_dot_of f cd A outer s H E)) (E := E) (i := 0) (x := "one") (pos := p) rfl (.inl rfl)
  have v0_other := fun p : Pos => pd_var (X := (bx Γ N_dot_of d_dot_of f cd A outer s H E)) (E := E) (i := 1) (x := "other") (pos := p) rfl (.inl rfl)
  exact (pdss_one (pds_ret (pd_def C (ok_total F) (by decide) rfl rfl (pda_cons (pd_lc (scope := cs_dot_of_0) (own := [("here", 2), ("there", 3)]) (vs := [2, 3]) C mk_lst (pid_zip (pda_cons (v0_one _) (pda_cons (v0_other _) pda_nil)) rfl F.free_zip) rfl (by decide) (fun s1 H1 A1 l1 p1 => (pgd_tup (blk_ctx C).calm (pgds_cons (pgd_name (i := 2) (x := "here") S_dot_of.nd rfl (.inl rfl) (.inr rfl)) (pgds_cons (pgd_name (i := 3) (x := "there") S_dot_of.nd rfl (.inl rfl) (.inr rfl)) pgds_nil)))) (fun s1 H1 A1 l1 p1 => pdts_nil) (fun s1 H1 A1 l1 p1 => have v1_here := fun p : Pos => pd_var (X := ((bx Γ N_dot_of d_dot_of f cd A outer s H E).blk s1 H1 cs_dot_of_0 (compEnvC cs_dot_of_0 l1 A1 ((bx Γ N_dot_of d_dot_of f cd A outer s H E)).env) p1)) (E := DL.E0) (i := 2) (x := "here") (pos := p) rfl (.inl rfl); have v1_there := fun p : Pos => pd_var (X := ((bx Γ N_dot_of d_dot_of f cd A outer s H E).blk s1 H1 cs_dot_of_0 (compEnvC cs_dot_of_0 l1 A1 ((bx Γ N_dot_of d_dot_of f cd A outer s H E)).env) p1)) (E := DL.E0) (i := 3) (x := "there") (pos := p) rfl (.inl rfl); (pd_def (blk_ctx C) (ok_times F) (by decide) rfl rfl (pda_cons (v1_here _) (pda_cons (v1_there _) pda_nil))))) pda_nil))))
theorem ok_dot_of (F : Fc Γ) : DefOk Γ 7 d_dot_of ["one", "other"] f_dot_of := def_ok F.fn_dot_of.1 F.fn_dot_of.2 S_dot_of (fun _ _ _ _ _ _ us hl => match us, hl with | [_, _], _ => rfl) (b_dot_of F)
/-! crossed -/
def d_crossed : He.DefD := ⟨("crossed", none), "crossed", "crossed", defArgs (top 28), defBody (top 28), defScope (top 28), [], []⟩
abbrev N_crossed : List Str := ["one", "other", "a", "b", "c", "d", "e", "f"]
theorem S_crossed : FnScope N_crossed ["one", "other"] d_crossed.scope := ⟨rfl, rfl, rfl, by decide +kernel, rfl, by decide +kernel, by decide +kernel⟩
theorem b_crossed (F : Fc Γ) : Body Γ 5 N_crossed d_crossed m_crossed := by
  intro f cd A outer s H E C
  have v0_one := fun p : Pos => pd_var (X := (bx Γ N_crossed d_crossed f cd A outer s H E)) (E := E) (i := 0) (x := "one") (pos := p) rfl (.inl rfl)
  have v0_other := fun p : Pos => pd_var (X := (bx Γ N_crossed d_crossed f cd A outer s H E)) (E := E) (i := 1) (x := "other") (pos := p) rfl (.inl rfl)
  have v0_a := fun p : Pos => pd_var (X := (bx Γ N_crossed d_crossed f cd A outer s H E)) (E := E) (i := 2) (x := "a") (pos := p) rfl (.inl rfl)
  have v0_b := fun p : Pos => pd_var (X := (bx Γ N_crossed d_crossed f cd A outer s H E)) (E := E) (i := 3) (x := "b") (pos := p) rfl (.inl rfl)
  have v0_c := fun p : Pos => pd_var (X := (bx Γ N_crossed d_crossed f cd A outer s H E)) (E := E) (i := 4) (x := "c") (pos := p) rfl (.inl rfl)
  have v0_d := fun p : Pos => pd_var (X := (bx Γ N_crossed d_crossed f cd A outer s H E)) (E := E) (i := 5) (x := "d") (pos := p) rfl (.inl rfl)
  have v0_e := fun p : Pos => pd_var (X := (bx Γ N_crossed d_crossed f cd A outer s H E)) (E := E) (i := 6) (x := "e") (pos := p) rfl (.inl rfl)
  have v0_f := fun p : Pos => pd_var (X := (bx Γ N_crossed d_crossed f cd A outer s H E)) (E := E) (i := 7) (x := "f") (pos := p) rfl (.inl rfl)
  exact (pdss_cons (pds_asg (pd_tup (pda_cons (v0_one _) (pda_cons (v0_other _) pda_nil))) (pgd_tup C.calm (pgds_cons (pgd_tup C.calm (pgds_cons (pgd_name (i := 2) (x := "a") S_crossed.nd rfl (.inl rfl) (.inl rfl)) (pgds_cons (pgd_name (i := 3) (x := "b") S_crossed.nd rfl (.inl rfl) (.inl rfl)) (pgds_cons (pgd_name (i := 4) (x := "c") S_crossed.nd rfl (.inl rfl) (.inl rfl)) pgds_nil)))) (pgds_cons (pgd_tup C.calm (pgds_cons (pgd_name (i := 5) (x := "d") S_crossed.nd rfl (.inl rfl) (.inl rfl)) (pgds_cons (pgd_name (i := 6) (x := "e") S_crossed.nd rfl (.inl rfl) (.inl rfl)) (pgds_cons (pgd_name (i := 7) (x := "f") S_crossed.nd rfl (.inl rfl) (.inl rfl)) pgds_nil)))) pgds_nil))))
 (pdss_one (pds_ret (pd_tup (pda_cons (pd_def C (ok_minus F) (by decide) rfl rfl (pda_cons (pd_def C (ok_times F) (by decide) rfl rfl (pda_cons (v0_b _) (pda_cons (v0_f _) pda_nil))) (pda_cons (pd_def C (ok_times F) (by decide) rfl rfl (pda_cons (v0_c _) (pda_cons (v0_e _) pda_nil))) pda_nil))) (pda_cons (pd_def C (ok_minus F) (by decide) rfl rfl (pda_cons (pd_def C (ok_times F) (by decide) rfl rfl (pda_cons (v0_c _) (pda_cons (v0_d _) pda_nil))) (pda_cons (pd_def C (ok_times F) (by decide) rfl rfl (pda_cons (v0_a _) (pda_cons (v0_f _) pda_nil))) pda_nil))) (pda_cons (pd_def C (ok_minus F) (by decide) rfl rfl (pda_cons (pd_def C (ok_times F) (by decide) rfl rfl (pda_cons (v0_a _) (pda_cons (v0_e _) pda_nil))) (pda_cons (pd_def C (ok_times F) (by decide) rfl rfl (pda_cons (v0_b _) (pda_cons (v0_d _) pda_nil))) pda_nil))) pda_nil)))))))
theorem ok_crossed (F : Fc Γ) : DefOk Γ 6 d_crossed ["one", "other"] f_crossed := def_ok F.fn_crossed.1 F.fn_crossed.2 S_crossed (fun _ _ _ _ _ _ us hl => match us, hl with | [_, _], _ => rfl) (b_crossed F)
/-! is_screw -/
def d_is_screw : He.DefD := ⟨("is_screw", none), "is_screw", "is_screw", defArgs (top 31), defBody (top 31), defScope (top 31), [], []⟩
abbrev N_is_screw : List Str := ["value"]
theorem S_is_screw : FnScope N_is_screw ["value"] d_is_screw.scope := ⟨rfl, rfl, rfl, by decide +kernel, rfl, by decide +kernel, by decide +kernel⟩
theorem b_is_screw (F : Fc Γ) : Body Γ 4 N_is_screw d_is_screw m_is_screw := by
  intro f cd A outer s H E C
  have v0_value := fun p : Pos => pd_var (X := (bx Γ N_is_screw d_is_screw f cd A outer s H E)) (E := E) (i := 0) (x := "value") (pos := p) rfl (.inl rfl)
  exact (pdss_one (pds_ret (pd_and (pd_isi rfl F.free_isinstance rfl F.free_tuple rfl kit_tuple (v0_value _)) (pd_and (pd_cmp (opd_eq C.eqU) (pd_callB cd_len rfl F.free_len rfl (pda_cons (v0_value _) pda_nil)) pd_int) (pd_and (pd_def C (ok_is_triple F) (by decide) rfl rfl (pda_cons (pd_ix (v0_value _) pd_int (fun _ _ => rfl)) pda_nil)) (pd_one (pd_def C (ok_is_triple F) (by decide) rfl rfl (pda_cons (pd_ix (v0_value _) pd_int (fun _ _ => rfl)) pda_nil))))))))
theorem ok_is_screw (F : Fc Γ) : DefOk Γ 5 d_is_screw ["value"] f_is_screw := def_ok F.fn_is_screw.1 F.fn_is_screw.2 S_is_screw (fun _ _ _ _ _ _ us hl => match us, hl with | [_], _ => rfl) (b_is_screw F)
/-! check_screw -/
def d_check_screw : He.DefD := ⟨("check_screw", none), "check_screw", "check_screw", defArgs (top 32), defBody (top 32), defScope (top 32), [], []⟩
abbrev N_check_screw : List Str := ["value"]
theorem S_check_screw : FnScope N_check_screw ["value"] d_check_screw.scope := ⟨rfl, rfl, rfl, by decide +kernel, rfl, by decide +kernel, by decide +kernel⟩
theorem b_check_screw (F : Fc Γ) : Body Γ 5 N_check_screw d_check_screw m_check_screw := by
  intro f cd A outer s H E C
  have v0_value := fun p : Pos => pd_var (X := (bx Γ N_check_screw d_check_screw f cd A outer s H E)) (E := E) (i := 0) (x := "value") (pos := p) rfl (.inl rfl)
  exact (pdss_one (pds_if (pdt_not (pdt_val (pd_def C (ok_is_screw F) (by decide) rfl rfl (pda_cons (v0_value _) pda_nil))))
 (pdss_one pds_stop)
 pdss_nil))
theorem ok_check_screw (F : Fc Γ) : DefOk Γ 6 d_check_screw ["value"] f_check_screw := def_ok F.fn_check_screw.1 F.fn_check_screw.2 S_check_screw (fun _ _ _ _ _ _ us hl => match us, hl with | [_], _ => rfl) (b_check_screw F)
/-! sum_of -/
def d_sum_of : He.DefD := ⟨("sum_of", none), "sum_of", "sum_of", defArgs (top 33), defBody (top 33), defScope (top 33), [], []⟩
abbrev N_sum_of : List Str := ["screw", "other"]
theorem S_sum_of : FnScope N_sum_of ["screw", "other"] d_sum_of.scope := ⟨rfl, rfl, rfl, by decide +kernel, rfl, by decide +kernel, by decide +kernel⟩
theorem b_sum_of (F : Fc Γ) : Body Γ 6 N_sum_of d_sum_of m_sum_of := by
  intro f cd A outer s H E C
  have v0_screw := fun p : Pos => pd_var (X := (bx Γ N_sum_of d_sum_of f cd A outer s H E)) (E := E) (i := 0) (x := "screw") (pos := p) rfl (.inl rfl)
  have v0_other := fun p : Pos => pd_var (X := (bx Γ N_sum_of d_sum_of f cd A outer s H E)) (E := E) (i := 1) (x := "other") (pos := p) rfl (.inl rfl)
  exact (pdss_one (pds_ret (pd_tup (pda_cons (pd_def C (ok_summed F) (by decide) rfl rfl (pda_cons (pd_ix (v0_screw _) pd_int (fun _ _ => rfl)) (pda_cons (pd_ix (v0_other _) pd_int (fun _ _ => rfl)) pda_nil))) (pda_cons (pd_def C (ok_summed F) (by decide) rfl rfl (pda_cons (pd_ix (v0_screw _) pd_int (fun _ _ => rfl)) (pda_cons (pd_ix (v0_other _) pd_int (fun _ _ => rfl)) pda_nil))) pda_nil)))))
theorem ok_sum_of (F : Fc Γ) : DefOk Γ 7 d_sum_of ["screw", "other"] f_sum_of := def_ok F.fn_sum_of.1 F.fn_sum_of.2 S_sum_of (fun _ _ _ _ _ _ us hl => match us, hl with | [_, _], _ => rfl) (b_sum_of F)
/-! times_of -/
def d_times_of : He.DefD := ⟨("times_of", none), "times_of", "times_of", defArgs (top 34), defBody (top 34), defScope (top 34), [], []⟩
abbrev N_times_of : List Str := ["screw", "factor"]
theorem S_times_of : FnScope N_times_of ["screw", "factor"] d_times_of.scope := ⟨rfl, rfl, rfl, by decide +kernel, rfl, by decide +kernel, by decide +kernel⟩
theorem b_times_of (F : Fc Γ) : Body Γ 6 N_times_of d_times_of m_times_of := by
  intro f cd A outer s H E C
  have v0_screw := fun p : Pos => pd_var (X := (bx Γ N_times_of d_times_of f cd A outer s H E)) (E := E) (i := 0) (x := "screw") (pos := p) rfl (.inl rfl)
  have v0_factor := fun p : Pos => pd_var (X := (bx Γ N_times_of d_times_of f cd A outer s H E)) (E := E) (i := 1) (x := "factor") (pos := p) rfl (.inl rfl)
  exact (pdss_one (pds_ret (pd_tup (pda_cons (pd_def C (ok_scaled F) (by decide) rfl rfl (pda_cons (pd_ix (v0_screw _) pd_int (fun _ _ => rfl)) (pda_cons (v0_factor _) pda_nil))) (pda_cons (pd_def C (ok_scaled F) (by decide) rfl rfl (pda_cons (pd_ix (v0_screw _) pd_int (fun _ _ => rfl)) (pda_cons (v0_factor _) pda_nil))) pda_nil)))))
theorem ok_times_of (F : Fc Γ) : DefOk Γ 7 d_times_of ["screw", "factor"] f_times_of := def_ok F.fn_times_of.1 F.fn_times_of.2 S_times_of (fun _ _ _ _ _ _ us hl => match us, hl with | [_, _], _ => rfl) (b_times_of F)
/-! weighed_screws -/
def d_weighed_screws : He.DefD := ⟨("weighed_screws", none), "weighed_screws", "weighed_screws", defArgs (top 35), defBody (top 35), defScope (top 35), [], []⟩
abbrev N_weighed_screws : List Str := ["weights", "screws", "found", "weight", "screw"]
theorem S_weighed_screws : FnScope N_weighed_screws ["weights", "screws"] d_weighed_screws.scope := ⟨rfl, rfl, rfl, by decide +kernel, rfl, by decide +kernel, by decide +kernel⟩
theorem b_weighed_screws (F : Fc Γ) : Body Γ 7 N_weighed_screws d_weighed_screws m_weighed_screws := by
  intro f cd A outer s H E C
  have v0_weights := fun p : Pos => pd_var (X := (bx Γ N_weighed_screws d_weighed_screws f cd A outer s H E)) (E := E) (i := 0) (x := "weights") (pos := p) rfl (.inl rfl)
  have v0_screws := fun p : Pos => pd_var (X := (bx Γ N_weighed_screws d_weighed_screws f cd A outer s H E)) (E := E) (i := 1) (x := "screws") (pos := p) rfl (.inl rfl)
  have v0_found := fun p : Pos => pd_var (X := (bx Γ N_weighed_screws d_weighed_screws f cd A outer s H E)) (E := E) (i := 2) (x := "found") (pos := p) rfl (.inl rfl)
  have v0_weight := fun p : Pos => pd_var (X := (bx Γ N_weighed_screws d_weighed_screws f cd A outer s H E)) (E := E) (i := 3) (x := "weight") (pos := p) rfl (.inl rfl)
  have v0_screw := fun p : Pos => pd_var (X := (bx Γ N_weighed_screws d_weighed_screws f cd A outer s H E)) (E := E) (i := 4) (x := "screw") (pos := p) rfl (.inl rfl)
  exact (pdss_cons (pds_set (i := 2) S_weighed_screws.nd rfl (.inl rfl) (.inl rfl) (pd_glob rfl F.cst_NOUGHT_screws))
 (pdss_cons (pds_for C (pid_zip (pda_cons (v0_weights _) (pda_cons (v0_screws _) pda_nil)) rfl F.free_zip) (pgd_tup C.calm (pgds_cons (pgd_name (i := 3) (x := "weight") S_weighed_screws.nd rfl (.inl rfl) (.inl rfl)) (pgds_cons (pgd_name (i := 4) (x := "screw") S_weighed_screws.nd rfl (.inl rfl) (.inl rfl)) pgds_nil)))
 (pdss_one (pds_set (i := 2) S_weighed_screws.nd rfl (.inl rfl) (.inl rfl) (pd_def C (ok_sum_of F) (by decide) rfl rfl (pda_cons (v0_found _) (pda_cons (pd_def C (ok_times_of F) (by decide) rfl rfl (pda_cons (v0_screw _) (pda_cons (v0_weight _) pda_nil))) pda_nil))))))
 (pdss_one (pds_ret (v0_found _)))))
theorem ok_weighed_screws (F : Fc Γ) : DefOk Γ 8 d_weighed_screws ["weights", "screws"] f_weighed_screws := def_ok F.fn_weighed_screws.1 F.fn_weighed_screws.2 S_weighed_screws (fun _ _ _ _ _ _ us hl => match us, hl with | [_, _], _ => rfl) (b_weighed_screws F)
/-! powered -/
def d_powered : He.DefD := ⟨("powered", none), "powered", "powered", defArgs (top 36), defBody (top 36), defScope (top 36), [], []⟩
abbrev N_powered : List Str := ["screw", "other"]
theorem S_powered : FnScope N_powered ["screw", "other"] d_powered.scope := ⟨rfl, rfl, rfl, by decide +kernel, rfl, by decide +kernel, by decide +kernel⟩
theorem b_powered (F : Fc Γ) : Body Γ 7 N_powered d_powered m_powered := by
  intro f cd A outer s H E C
  have v0_screw := fun p : Pos => pd_var (X := (bx Γ N_powered d_powered f cd A outer s H E)) (E := E) (i := 0) (x := "screw") (pos := p) rfl (.inl rfl)
  have v0_other := fun p : Pos => pd_var (X := (bx Γ N_powered d_powered f cd A outer s H E)) (E := E) (i := 1) (x := "other") (pos := p) rfl (.inl rfl)
  exact (pdss_one (pds_ret (pd_def C (ok_plus F) (by decide) rfl rfl (pda_cons (pd_def C (ok_dot_of F) (by decide) rfl rfl (pda_cons (pd_ix (v0_screw _) pd_int (fun _ _ => rfl)) (pda_cons (pd_ix (v0_other _) pd_int (fun _ _ => rfl)) pda_nil))) (pda_cons (pd_def C (ok_dot_of F) (by decide) rfl rfl (pda_cons (pd_ix (v0_screw _) pd_int (fun _ _ => rfl)) (pda_cons (pd_ix (v0_other _) pd_int (fun _ _ => rfl)) pda_nil))) pda_nil)))))
theorem ok_powered (F : Fc Γ) : DefOk Γ 8 d_powered ["screw", "other"] f_powered := def_ok F.fn_powered.1 F.fn_powered.2 S_powered (fun _ _ _ _ _ _ us hl => match us, hl with | [_, _], _ => rfl) (b_powered F)
/-! moment_by -/
def d_moment_by : He.DefD := ⟨("moment_by", none), "moment_by", "moment_by", defArgs (top 37), defBody (top 37), defScope (top 37), [], []⟩
abbrev N_moment_by : List Str := ["screw", "point"]
theorem S_moment_by : FnScope N_moment_by ["screw", "point"] d_moment_by.scope := ⟨rfl, rfl, rfl, by decide +kernel, rfl, by decide +kernel, by decide +kernel⟩
theorem b_moment_by (F : Fc Γ) : Body Γ 6 N_moment_by d_moment_by m_moment_by := by
  intro f cd A outer s H E C
  have v0_screw := fun p : Pos => pd_var (X := (bx Γ N_moment_by d_moment_by f cd A outer s H E)) (E := E) (i := 0) (x := "screw") (pos := p) rfl (.inl rfl)
  have v0_point := fun p : Pos => pd_var (X := (bx Γ N_moment_by d_moment_by f cd A outer s H E)) (E := E) (i := 1) (x := "point") (pos := p) rfl (.inl rfl)
  exact (pdss_one (pds_ret (pd_def C (ok_summed F) (by decide) rfl rfl (pda_cons (pd_ix (v0_screw _) pd_int (fun _ _ => rfl)) (pda_cons (pd_def C (ok_crossed F) (by decide) rfl rfl (pda_cons (pd_ix (v0_screw _) pd_int (fun _ _ => rfl)) (pda_cons (v0_point _) pda_nil))) pda_nil)))))
theorem ok_moment_by (F : Fc Γ) : DefOk Γ 7 d_moment_by ["screw", "point"] f_moment_by := def_ok F.fn_moment_by.1 F.fn_moment_by.2 S_moment_by (fun _ _ _ _ _ _ us hl => match us, hl with | [_, _], _ => rfl) (b_moment_by F)
/-! lowest_row -/
def d_lowest_row : He.DefD := ⟨("lowest_row", none), "lowest_row", "lowest_row", defArgs (top 39), defBody (top 39), defScope (top 39), [], []⟩
abbrev N_lowest_row : List Str := ["row", "part", "number"]
abbrev cs_lowest_row_0 : Scope := { kind := .function, names := [(".0", .local), ("number", .local), ("part", .free)], isGenerator := false, isCoroutine := false, more := [] }
theorem S_lowest_row : FnScope N_lowest_row ["row"] d_lowest_row.scope := ⟨rfl, rfl, rfl, by decide +kernel, rfl, by decide +kernel, by decide +kernel⟩
theorem b_lowest_row (F : Fc Γ) : Body Γ 1 N_lowest_row d_lowest_row m_lowest_row := by
  intro f cd A outer s H E C
  have v0_row := fun p : Pos => pd_var (X := (bx Γ N_lowest_row d_lowest_row f cd A outer s H E)) (E := E) (i := 0) (x := "row") (pos := p) rfl (.inl rfl)
  have v0_part := fun p : Pos => pd_var (X := (bx Γ N_lowest_row d_lowest_row f cd A outer s H E)) (E := E) (i := 1) (x := "part") (pos := p) rfl (.inr (.inl rfl))
  exact (pdss_cons (pds_set (i := 1) S_lowest_row.nd rfl (.inr rfl) (.inl rfl) (pd_def C (ok_common_part F) (by decide) rfl rfl (pda_cons (v0_row _) pda_nil)))
 (pdss_one (pds_ret (pd_if (pdt_cmp opd_lt (v0_part _) pd_int) (pd_callTy (cd_list mk_lst) rfl F.free_list rfl (pda_cons (v0_row _) pda_nil)) (pd_lc (scope := cs_lowest_row_0) (own := [("number", 2)]) (vs := [2]) C mk_lst (pid_seq (v0_row _)) rfl (by decide) (fun s1 H1 A1 l1 p1 => (pgd_name (i := 2) (x := "number") S_lowest_row.nd rfl (.inl rfl) (.inr rfl))) (fun s1 H1 A1 l1 p1 => pdts_nil) (fun s1 H1 A1 l1 p1 => have v1_number := fun p : Pos => pd_var (X := ((bx Γ N_lowest_row d_lowest_row f cd A outer s H E).blk s1 H1 cs_lowest_row_0 (compEnvC cs_lowest_row_0 l1 A1 ((bx Γ N_lowest_row d_lowest_row f cd A outer s H E)).env) p1)) (E := DL.E0) (i := 2) (x := "number") (pos := p) rfl (.inl rfl); have v1_part := fun p : Pos => pd_var (X := ((bx Γ N_lowest_row d_lowest_row f cd A outer s H E).blk s1 H1 cs_lowest_row_0 (compEnvC cs_lowest_row_0 l1 A1 ((bx Γ N_lowest_row d_lowest_row f cd A outer s H E)).env) p1)) (E := DL.E0) (i := 1) (x := "part") (pos := p) rfl (.inr (.inl rfl)); (pd_op opd_fdiv (v1_number _) (v1_part _))))))))
theorem ok_lowest_row (F : Fc Γ) : DefOk Γ 2 d_lowest_row ["row"] f_lowest_row := def_ok F.fn_lowest_row.1 F.fn_lowest_row.2 S_lowest_row (fun _ _ _ _ _ _ us hl => match us, hl with | [_], _ => rfl) (b_lowest_row F)
/-! whole_row -/
def d_whole_row : He.DefD := ⟨("whole_row", none), "whole_row", "whole_row", defArgs (top 40), defBody (top 40), defScope (top 40), [], []⟩
abbrev N_whole_row : List Str := ["parts"]
theorem S_whole_row : FnScope N_whole_row ["parts"] d_whole_row.scope := ⟨rfl, rfl, rfl, by decide +kernel, rfl, by decide +kernel, by decide +kernel⟩
theorem b_whole_row (F : Fc Γ) : Body Γ 2 N_whole_row d_whole_row m_whole_row := by
  intro f cd A outer s H E C
  have v0_parts := fun p : Pos => pd_var (X := (bx Γ N_whole_row d_whole_row f cd A outer s H E)) (E := E) (i := 0) (x := "parts") (pos := p) rfl (.inl rfl)
  exact (pdss_one (pds_ret (pd_def C (ok_lowest_row F) (by decide) rfl rfl (pda_cons (pd_ix (pd_def C (ok_over_one F) (by decide) rfl rfl (pda_cons (v0_parts _) pda_nil)) pd_int (fun _ _ => rfl)) pda_nil))))
theorem ok_whole_row (F : Fc Γ) : DefOk Γ 3 d_whole_row ["parts"] f_whole_row := def_ok F.fn_whole_row.1 F.fn_whole_row.2 S_whole_row (fun _ _ _ _ _ _ us hl => match us, hl with | [_], _ => rfl) (b_whole_row F)
/-! first_place -/
def d_first_place : He.DefD := ⟨("first_place", none), "first_place", "first_place", defArgs (top 41), defBody (top 41), defScope (top 41), [], []⟩
abbrev N_first_place : List Str := ["row", "place", "number"]
theorem S_first_place : FnScope N_first_place ["row"] d_first_place.scope := ⟨rfl, rfl, rfl, by decide +kernel, rfl, by decide +kernel, by decide +kernel⟩
theorem b_first_place (F : Fc Γ) : Body Γ 0 N_first_place d_first_place m_first_place := by
  intro f cd A outer s H E C
  have v0_row := fun p : Pos => pd_var (X := (bx Γ N_first_place d_first_place f cd A outer s H E)) (E := E) (i := 0) (x := "row") (pos := p) rfl (.inl rfl)
  have v0_place := fun p : Pos => pd_var (X := (bx Γ N_first_place d_first_place f cd A outer s H E)) (E := E) (i := 1) (x := "place") (pos := p) rfl (.inl rfl)
  have v0_number := fun p : Pos => pd_var (X := (bx Γ N_first_place d_first_place f cd A outer s H E)) (E := E) (i := 2) (x := "number") (pos := p) rfl (.inl rfl)
  exact (pdss_cons (pds_for C (pid_enum (pda_cons (v0_row _) pda_nil) rfl F.free_enumerate) (pgd_tup C.calm (pgds_cons (pgd_name (i := 1) (x := "place") S_first_place.nd rfl (.inl rfl) (.inl rfl)) (pgds_cons (pgd_name (i := 2) (x := "number") S_first_place.nd rfl (.inl rfl) (.inl rfl)) pgds_nil)))
 (pdss_one (pds_if (pdt_cmp (opd_ne C.eqU) (v0_number _) pd_int)
 (pdss_one (pds_ret (v0_place _)))
 pdss_nil)))
 (pdss_one (pds_ret pd_non)))
theorem ok_first_place (F : Fc Γ) : DefOk Γ 1 d_first_place ["row"] f_first_place := def_ok F.fn_first_place.1 F.fn_first_place.2 S_first_place (fun _ _ _ _ _ _ us hl => match us, hl with | [_], _ => rfl) (b_first_place F)
/-! cleared -/
def d_cleared : He.DefD := ⟨("cleared", none), "cleared", "cleared", defArgs (top 42), defBody (top 42), defScope (top 42), [], []⟩
abbrev N_cleared : List Str := ["row", "step", "place", "here", "there", "factor", "one", "two"]
abbrev cs_cleared_0 : Scope := { kind := .function, names := [(".0", .local), ("one", .local), ("two", .local), ("factor", .free), ("here", .free), ("there", .free)], isGenerator := false, isCoroutine := false, more := [] }
theorem S_cleared : FnScope N_cleared ["row", "step", "place"] d_cleared.scope := ⟨rfl, rfl, rfl, by decide +kernel, rfl, by decide +kernel, by decide +kernel⟩
theorem b_cleared (F : Fc Γ) : Body Γ 2 N_cleared d_cleared m_cleared := by
  intro f cd A outer s H E C
  have v0_row := fun p : Pos => pd_var (X := (bx Γ N_cleared d_cleared f cd A outer s H E)) (E := E) (i := 0) (x := "row") (pos := p) rfl (.inl rfl)
  have v0_step := fun p : Pos => pd_var (X := (bx Γ N_cleared d_cleared f cd A outer s H E)) (E := E) (i := 1) (x := "step") (pos := p) rfl (.inl rfl)
  have v0_place := fun p : Pos => pd_var (X := (bx Γ N_cleared d_cleared f cd A outer s H E)) (E := E) (i := 2) (x := "place") (pos := p) rfl (.inl rfl)
  have v0_here := fun p : Pos => pd_var (X := (bx Γ N_cleared d_cleared f cd A outer s H E)) (E := E) (i := 3) (x := "here") (pos := p) rfl (.inr (.inl rfl))
  have v0_there := fun p : Pos => pd_var (X := (bx Γ N_cleared d_cleared f cd A outer s H E)) (E := E) (i := 4) (x := "there") (pos := p) rfl (.inr (.inl rfl))
  exact (pdss_cons (pds_asg (pd_tup (pda_cons (pd_ix (v0_step _) (v0_place _) (fun _ _ => rfl)) (pda_cons (pd_ix (v0_row _) (v0_place _) (fun _ _ => rfl)) pda_nil))) (pgd_tup C.calm (pgds_cons (pgd_name (i := 3) (x := "here") S_cleared.nd rfl (.inr rfl) (.inl rfl)) (pgds_cons (pgd_name (i := 4) (x := "there") S_cleared.nd rfl (.inr rfl) (.inl rfl)) pgds_nil))))
 (pdss_cons (pds_if (pdt_cmp (opd_eq C.eqU) (v0_there _) pd_int)
 (pdss_one (pds_ret (pd_callTy (cd_list mk_lst) rfl F.free_list rfl (pda_cons (v0_row _) pda_nil))))
 pdss_nil)
 (pdss_cons (pds_set (i := 5) S_cleared.nd rfl (.inr rfl) (.inl rfl) (pd_if (pdt_cmp opd_gt (v0_here _) pd_int) pd_int (pd_neg pd_int)))
 (pdss_one (pds_ret (pd_def C (ok_lowest_row F) (by decide) rfl rfl (pda_cons (pd_lc (scope := cs_cleared_0) (own := [("one", 6), ("two", 7)]) (vs := [6, 7]) C mk_lst (pid_zip (pda_cons (v0_row _) (pda_cons (v0_step _) pda_nil)) rfl F.free_zip) rfl (by decide) (fun s1 H1 A1 l1 p1 => (pgd_tup (blk_ctx C).calm (pgds_cons (pgd_name (i := 6) (x := "one") S_cleared.nd rfl (.inl rfl) (.inr rfl)) (pgds_cons (pgd_name (i := 7) (x := "two") S_cleared.nd rfl (.inl rfl) (.inr rfl)) pgds_nil)))) (fun s1 H1 A1 l1 p1 => pdts_nil) (fun s1 H1 A1 l1 p1 => have v1_one := fun p : Pos => pd_var (X := ((bx Γ N_cleared d_cleared f cd A outer s H E).blk s1 H1 cs_cleared_0 (compEnvC cs_cleared_0 l1 A1 ((bx Γ N_cleared d_cleared f cd A outer s H E)).env) p1)) (E := DL.E0) (i := 6) (x := "one") (pos := p) rfl (.inl rfl); have v1_two := fun p : Pos => pd_var (X := ((bx Γ N_cleared d_cleared f cd A outer s H E).blk s1 H1 cs_cleared_0 (compEnvC cs_cleared_0 l1 A1 ((bx Γ N_cleared d_cleared f cd A outer s H E)).env) p1)) (E := DL.E0) (i := 7) (x := "two") (pos := p) rfl (.inl rfl); have v1_factor := fun p : Pos => pd_var (X := ((bx Γ N_cleared d_cleared f cd A outer s H E).blk s1 H1 cs_cleared_0 (compEnvC cs_cleared_0 l1 A1 ((bx Γ N_cleared d_cleared f cd A outer s H E)).env) p1)) (E := DL.E0) (i := 5) (x := "factor") (pos := p) rfl (.inr (.inl rfl)); have v1_here := fun p : Pos => pd_var (X := ((bx Γ N_cleared d_cleared f cd A outer s H E).blk s1 H1 cs_cleared_0 (compEnvC cs_cleared_0 l1 A1 ((bx Γ N_cleared d_cleared f cd A outer s H E)).env) p1)) (E := DL.E0) (i := 3) (x := "here") (pos := p) rfl (.inr (.inl rfl)); have v1_there := fun p : Pos => pd_var (X := ((bx Γ N_cleared d_cleared f cd A outer s H E).blk s1 H1 cs_cleared_0 (compEnvC cs_cleared_0 l1 A1 ((bx Γ N_cleared d_cleared f cd A outer s H E)).env) p1)) (E := DL.E0) (i := 4) (x := "there") (pos := p) rfl (.inr (.inl rfl)); (pd_op (opd_mul mk_lst) (v1_factor _) (pd_op opd_sub (pd_op (opd_mul mk_lst) (v1_one _) (v1_here _)) (pd_op (opd_mul mk_lst) (v1_two _) (v1_there _)))))) pda_nil)))))))
theorem ok_cleared (F : Fc Γ) : DefOk Γ 3 d_cleared ["row", "step", "place"] f_cleared := def_ok F.fn_cleared.1 F.fn_cleared.2 S_cleared (fun _ _ _ _ _ _ us hl => match us, hl with | [_, _, _], _ => rfl) (b_cleared F)
/-! stairs_of -/
def d_stairs_of : He.DefD := ⟨("stairs_of", none), "stairs_of", "stairs_of", defArgs (top 43), defBody (top 43), defScope (top 43), [], []⟩
abbrev N_stairs_of : List Str := ["rows", "found", "row", "left", "step", "place"]
abbrev cs_stairs_of_0 : Scope := { kind := .function, names := [(".0", .local), ("step", .local), ("cleared", .globalImplicit), ("left", .free), ("place", .free)], isGenerator := false, isCoroutine := false, more := [] }
theorem S_stairs_of : FnScope N_stairs_of ["rows"] d_stairs_of.scope := ⟨rfl, rfl, rfl, by decide +kernel, rfl, by decide +kernel, by decide +kernel⟩
theorem b_stairs_of (F : Fc Γ) : Body Γ 3 N_stairs_of d_stairs_of m_stairs_of := by
  intro f cd A outer s H E C
  have v0_rows := fun p : Pos => pd_var (X := (bx Γ N_stairs_of d_stairs_of f cd A outer s H E)) (E := E) (i := 0) (x := "rows") (pos := p) rfl (.inl rfl)
  have v0_found := fun p : Pos => pd_var (X := (bx Γ N_stairs_of d_stairs_of f cd A outer s H E)) (E := E) (i := 1) (x := "found") (pos := p) rfl (.inl rfl)
  have v0_row := fun p : Pos => pd_var (X := (bx Γ N_stairs_of d_stairs_of f cd A outer s H E)) (E := E) (i := 2) (x := "row") (pos := p) rfl (.inl rfl)
  have v0_left := fun p : Pos => pd_var (X := (bx Γ N_stairs_of d_stairs_of f cd A outer s H E)) (E := E) (i := 3) (x := "left") (pos := p) rfl (.inr (.inl rfl))
  have v0_step := fun p : Pos => pd_var (X := (bx Γ N_stairs_of d_stairs_of f cd A outer s H E)) (E := E) (i := 4) (x := "step") (pos := p) rfl (.inl rfl)
  have v0_place := fun p : Pos => pd_var (X := (bx Γ N_stairs_of d_stairs_of f cd A outer s H E)) (E := E) (i := 5) (x := "place") (pos := p) rfl (.inr (.inl rfl))
  exact (pdss_cons (pds_set (i := 1) S_stairs_of.nd rfl (.inl rfl) (.inl rfl) (pd_lst mk_lst pda_nil))
 (pdss_cons (pds_for C (pid_seq (v0_rows _)) (pgd_name (i := 2) (x := "row") S_stairs_of.nd rfl (.inl rfl) (.inl rfl))
 (pdss_cons (pds_set (i := 3) S_stairs_of.nd rfl (.inr rfl) (.inl rfl) (pd_def C (ok_lowest_row F) (by decide) rfl rfl (pda_cons (v0_row _) pda_nil)))
 (pdss_cons (pds_for C (pid_seq (v0_found _)) (pgd_name (i := 4) (x := "step") S_stairs_of.nd rfl (.inl rfl) (.inl rfl))
 (pdss_one (pds_set (i := 3) S_stairs_of.nd rfl (.inr rfl) (.inl rfl) (pd_def C (ok_cleared F) (by decide) rfl rfl (pda_cons (v0_left _) (pda_cons (v0_step _) (pda_cons (pd_def C (ok_first_place F) (by decide) rfl rfl (pda_cons (v0_step _) pda_nil)) pda_nil)))))))
 (pdss_cons (pds_set (i := 5) S_stairs_of.nd rfl (.inr rfl) (.inl rfl) (pd_def C (ok_first_place F) (by decide) rfl rfl (pda_cons (v0_left _) pda_nil)))
 (pdss_one (pds_if (pdt_cmp opd_isnot (v0_place _) pd_non)
 (pdss_one (pds_set (i := 1) S_stairs_of.nd rfl (.inl rfl) (.inl rfl) (pd_op (opd_add mk_lst) (pd_lc (scope := cs_stairs_of_0) (own := [("step", 4)]) (vs := [4]) C mk_lst (pid_seq (v0_found _)) rfl (by decide) (fun s1 H1 A1 l1 p1 => (pgd_name (i := 4) (x := "step") S_stairs_of.nd rfl (.inl rfl) (.inr rfl))) (fun s1 H1 A1 l1 p1 => pdts_nil) (fun s1 H1 A1 l1 p1 => have v1_step := fun p : Pos => pd_var (X := ((bx Γ N_stairs_of d_stairs_of f cd A outer s H E).blk s1 H1 cs_stairs_of_0 (compEnvC cs_stairs_of_0 l1 A1 ((bx Γ N_stairs_of d_stairs_of f cd A outer s H E)).env) p1)) (E := DL.E0) (i := 4) (x := "step") (pos := p) rfl (.inl rfl); have v1_left := fun p : Pos => pd_var (X := ((bx Γ N_stairs_of d_stairs_of f cd A outer s H E).blk s1 H1 cs_stairs_of_0 (compEnvC cs_stairs_of_0 l1 A1 ((bx Γ N_stairs_of d_stairs_of f cd A outer s H E)).env) p1)) (E := DL.E0) (i := 3) (x := "left") (pos := p) rfl (.inr (.inl rfl)); have v1_place := fun p : Pos => pd_var (X := ((bx Γ N_stairs_of d_stairs_of f cd A outer s H E).blk s1 H1 cs_stairs_of_0 (compEnvC cs_stairs_of_0 l1 A1 ((bx Γ N_stairs_of d_stairs_of f cd A outer s H E)).env) p1)) (E := DL.E0) (i := 5) (x := "place") (pos := p) rfl (.inr (.inl rfl)); (pd_def (blk_ctx C) (ok_cleared F) (by decide) rfl rfl (pda_cons (v1_step _) (pda_cons (v1_left _) (pda_cons (v1_place _) pda_nil)))))) (pd_lst mk_lst (pda_cons (v0_left _) pda_nil)))))
 pdss_nil))))))
 (pdss_one (pds_ret (pd_sortK mk_lst C (ok_first_place F) (by decide) rfl rfl F.free_sorted rfl (pda_cons (v0_found _) pda_nil))))))
theorem ok_stairs_of (F : Fc Γ) : DefOk Γ 4 d_stairs_of ["rows"] f_stairs_of := def_ok F.fn_stairs_of.1 F.fn_stairs_of.2 S_stairs_of (fun _ _ _ _ _ _ us hl => match us, hl with | [_], _ => rfl) (b_stairs_of F)
/-! shares_for -/
def d_shares_for : He.DefD := ⟨("shares_for", none), "shares_for", "shares_for", defArgs (top 44), defBody (top 44), defScope (top 44), [], []⟩
abbrev N_shares_for : List Str := ["rows", "wanted", "many", "lines", "found", "step", "place", "at", "row"]
abbrev cs_shares_for_0 : Scope := { kind := .function, names := [(".0", .local), ("at", .cell), ("whole_row", .globalImplicit), ("rows", .free), ("wanted", .free)], isGenerator := false, isCoroutine := false, more := [] }
abbrev cs_shares_for_1 : Scope := { kind := .function, names := [(".0", .local), ("row", .local), ("at", .free)], isGenerator := false, isCoroutine := false, more := [] }
theorem S_shares_for : FnScope N_shares_for ["rows", "wanted"] d_shares_for.scope := ⟨rfl, rfl, rfl, by decide +kernel, rfl, by decide +kernel, by decide +kernel⟩
theorem b_shares_for (F : Fc Γ) : Body Γ 4 N_shares_for d_shares_for m_shares_for := by
  intro f cd A outer s H E C
  have v0_rows := fun p : Pos => pd_var (X := (bx Γ N_shares_for d_shares_for f cd A outer s H E)) (E := E) (i := 0) (x := "rows") (pos := p) rfl (.inr (.inl rfl))
  have v0_wanted := fun p : Pos => pd_var (X := (bx Γ N_shares_for d_shares_for f cd A outer s H E)) (E := E) (i := 1) (x := "wanted") (pos := p) rfl (.inr (.inl rfl))
  have v0_many := fun p : Pos => pd_var (X := (bx Γ N_shares_for d_shares_for f cd A outer s H E)) (E := E) (i := 2) (x := "many") (pos := p) rfl (.inl rfl)
  have v0_lines := fun p : Pos => pd_var (X := (bx Γ N_shares_for d_shares_for f cd A outer s H E)) (E := E) (i := 3) (x := "lines") (pos := p) rfl (.inl rfl)
  have v0_found := fun p : Pos => pd_var (X := (bx Γ N_shares_for d_shares_for f cd A outer s H E)) (E := E) (i := 4) (x := "found") (pos := p) rfl (.inl rfl)
  have v0_step := fun p : Pos => pd_var (X := (bx Γ N_shares_for d_shares_for f cd A outer s H E)) (E := E) (i := 5) (x := "step") (pos := p) rfl (.inl rfl)
  have v0_place := fun p : Pos => pd_var (X := (bx Γ N_shares_for d_shares_for f cd A outer s H E)) (E := E) (i := 6) (x := "place") (pos := p) rfl (.inl rfl)
  exact (pdss_cons (pds_set (i := 2) S_shares_for.nd rfl (.inl rfl) (.inl rfl) (pd_callB cd_len rfl F.free_len rfl (pda_cons (v0_rows _) pda_nil)))
 (pdss_cons (pds_setLc (i := 3) (scope := cs_shares_for_0) (own := [("at", 7)]) (vs := [7]) C rfl rfl rfl mk_lst (pid_r1 (pda_cons (pd_callB cd_len rfl F.free_len rfl (pda_cons (v0_wanted _) pda_nil)) pda_nil) rfl F.free_range) rfl (by decide) (fun s1 H1 A1 l1 p1 => (pgd_name (i := 7) (x := "at") S_shares_for.nd rfl (.inr rfl) (.inl rfl))) (fun s1 H1 A1 l1 p1 => pdts_nil) (fun s1 H1 A1 l1 p1 => have v1_at := fun p : Pos => pd_var (X := ((bx Γ N_shares_for d_shares_for f cd A outer s H E).blk s1 H1 cs_shares_for_0 (compEnvC cs_shares_for_0 l1 A1 ((bx Γ N_shares_for d_shares_for f cd A outer s H E)).env) p1)) (E := DL.E0) (i := 7) (x := "at") (pos := p) rfl (.inr (.inl rfl)); have v1_rows := fun p : Pos => pd_var (X := ((bx Γ N_shares_for d_shares_for f cd A outer s H E).blk s1 H1 cs_shares_for_0 (compEnvC cs_shares_for_0 l1 A1 ((bx Γ N_shares_for d_shares_for f cd A outer s H E)).env) p1)) (E := DL.E0) (i := 0) (x := "rows") (pos := p) rfl (.inr (.inl rfl)); have v1_wanted := fun p : Pos => pd_var (X := ((bx Γ N_shares_for d_shares_for f cd A outer s H E).blk s1 H1 cs_shares_for_0 (compEnvC cs_shares_for_0 l1 A1 ((bx Γ N_shares_for d_shares_for f cd A outer s H E)).env) p1)) (E := DL.E0) (i := 1) (x := "wanted") (pos := p) rfl (.inr (.inl rfl)); (pd_def (blk_ctx C) (ok_whole_row F) (by decide) rfl rfl (pda_cons (pd_op (opd_add mk_lst) (pd_lc (scope := cs_shares_for_1) (own := [("row", 8)]) (vs := [8]) (blk_ctx C) mk_lst (pid_seq (v1_rows _)) rfl (by decide) (fun s2 H2 A2 l2 p2 => (pgd_name (i := 8) (x := "row") S_shares_for.nd rfl (.inl rfl) (.inr rfl))) (fun s2 H2 A2 l2 p2 => pdts_nil) (fun s2 H2 A2 l2 p2 => have v2_row := fun p : Pos => pd_var (X := (((bx Γ N_shares_for d_shares_for f cd A outer s H E).blk s1 H1 cs_shares_for_0 (compEnvC cs_shares_for_0 l1 A1 ((bx Γ N_shares_for d_shares_for f cd A outer s H E)).env) p1).blk s2 H2 cs_shares_for_1 (compEnvC cs_shares_for_1 l2 A2 (((bx Γ N_shares_for d_shares_for f cd A outer s H E).blk s1 H1 cs_shares_for_0 (compEnvC cs_shares_for_0 l1 A1 ((bx Γ N_shares_for d_shares_for f cd A outer s H E)).env) p1)).env) p2)) (E := DL.E0) (i := 8) (x := "row") (pos := p) rfl (.inl rfl); have v2_at := fun p : Pos => pd_var (X := (((bx Γ N_shares_for d_shares_for f cd A outer s H E).blk s1 H1 cs_shares_for_0 (compEnvC cs_shares_for_0 l1 A1 ((bx Γ N_shares_for d_shares_for f cd A outer s H E)).env) p1).blk s2 H2 cs_shares_for_1 (compEnvC cs_shares_for_1 l2 A2 (((bx Γ N_shares_for d_shares_for f cd A outer s H E).blk s1 H1 cs_shares_for_0 (compEnvC cs_shares_for_0 l1 A1 ((bx Γ N_shares_for d_shares_for f cd A outer s H E)).env) p1)).env) p2)) (E := DL.E0) (i := 7) (x := "at") (pos := p) rfl (.inr (.inl rfl)); (pd_ix (v2_row _) (v2_at _) (fun _ _ => rfl)))) (pd_lst mk_lst (pda_cons (pd_ix (v1_wanted _) (v1_at _) (fun _ _ => rfl)) pda_nil))) pda_nil))))
 (pdss_cons (pds_set (i := 4) S_shares_for.nd rfl (.inl rfl) (.inl rfl) (pd_op (opd_mul mk_loc) (pd_lst mk_lst (pda_cons (pd_tup (pda_cons pd_int (pda_cons pd_int pda_nil))) pda_nil)) (v0_many _)))
 (pdss_cons (pds_for C (pid_seq (pd_def C (ok_stairs_of F) (by decide) rfl rfl (pda_cons (v0_lines _) pda_nil))) (pgd_name (i := 5) (x := "step") S_shares_for.nd rfl (.inl rfl) (.inl rfl))
 (pdss_cons (pds_set (i := 6) S_shares_for.nd rfl (.inl rfl) (.inl rfl) (pd_def C (ok_first_place F) (by decide) rfl rfl (pda_cons (v0_step _) pda_nil)))
 (pdss_cons (pds_if (pdt_cmp (opd_eq C.eqU) (v0_place _) (v0_many _))
 (pdss_one (pds_ret pd_non))
 pdss_nil)
 (pdss_one (pds_asg (pd_def C (ok_ratio F) (by decide) rfl rfl (pda_cons (pd_ix (v0_step _) (v0_many _) (fun _ _ => rfl)) (pda_cons (pd_ix (v0_step _) (v0_place _) (fun _ _ => rfl)) pda_nil))) (pgd_sub (v0_found _) (v0_place _)))))))
 (pdss_one (pds_ret (pd_callTy cd_tuple rfl F.free_tuple rfl (pda_cons (v0_found _) pda_nil))))))))
theorem ok_shares_for (F : Fc Γ) : DefOk Γ 5 d_shares_for ["rows", "wanted"] f_shares_for := def_ok F.fn_shares_for.1 F.fn_shares_for.2 S_shares_for (fun _ _ _ _ _ _ us hl => match us, hl with | [_, _], _ => rfl) (b_shares_for F)
/-! is_mass -/
def d_is_mass : He.DefD := ⟨("is_mass", none), "is_mass", "is_mass", defArgs (top 49), defBody (top 49), defScope (top 49), [], []⟩
abbrev N_is_mass : List Str := ["value"]
theorem S_is_mass : FnScope N_is_mass ["value"] d_is_mass.scope := ⟨rfl, rfl, rfl, by decide +kernel, rfl, by decide +kernel, by decide +kernel⟩
theorem b_is_mass (F : Fc Γ) : Body Γ 4 N_is_mass d_is_mass m_is_mass := by
  intro f cd A outer s H E C
  have v0_value := fun p : Pos => pd_var (X := (bx Γ N_is_mass d_is_mass f cd A outer s H E)) (E := E) (i := 0) (x := "value") (pos := p) rfl (.inl rfl)
  exact (pdss_cons (pds_if (pdt_w (pdw_or (pdt_not (pdt_val (pd_isi rfl F.free_isinstance rfl F.free_tuple rfl kit_tuple (v0_value _)))) (pdw_or (pdt_cmp (opd_ne C.eqU) (pd_callB cd_len rfl F.free_len rfl (pda_cons (v0_value _) pda_nil)) pd_int) (pdw_or1 (pdt_not (pdt_val (pd_def C (ok_is_triple F) (by decide) rfl rfl (pda_cons (pd_ix (v0_value _) pd_int (fun _ _ => rfl)) pda_nil))))))))
 (pdss_one (pds_ret pd_bl))
 pdss_nil)
 (pdss_one (pds_ret (pd_and (pd_def C (ok_is_fraction F) (by decide) rfl rfl (pda_cons (pd_ix (v0_value _) pd_int (fun _ _ => rfl)) pda_nil)) (pd_one (pd_cmp opd_gt (pd_ix (pd_ix (v0_value _) pd_int (fun _ _ => rfl)) pd_int (fun _ _ => rfl)) pd_int))))))
theorem ok_is_mass (F : Fc Γ) : DefOk Γ 5 d_is_mass ["value"] f_is_mass := def_ok F.fn_is_mass.1 F.fn_is_mass.2 S_is_mass (fun _ _ _ _ _ _ us hl => match us, hl with | [_], _ => rfl) (b_is_mass F)
/-! are_on_line -/
def d_are_on_line : He.DefD := ⟨("are_on_line", none), "are_on_line", "are_on_line", defArgs (top 50), defBody (top 50), defScope (top 50), [], []⟩
abbrev N_are_on_line : List Str := ["points", "steps", "point", "one", "two"]
abbrev cs_are_on_line_0 : Scope := { kind := .function, names := [(".0", .local), ("point", .local), ("lessened", .globalImplicit), ("points", .free)], isGenerator := false, isCoroutine := false, more := [] }
abbrev cs_are_on_line_1 : Scope := { kind := .function, names := [(".0", .local), ("one", .local), ("two", .local), ("crossed", .globalImplicit), ("NOUGHT_TRIPLE", .globalImplicit)], isGenerator := false, isCoroutine := false, more := [] }
theorem S_are_on_line : FnScope N_are_on_line ["points"] d_are_on_line.scope := ⟨rfl, rfl, rfl, by decide +kernel, rfl, by decide +kernel, by decide +kernel⟩
theorem b_are_on_line (F : Fc Γ) : Body Γ 6 N_are_on_line d_are_on_line m_are_on_line := by
  intro f cd A outer s H E C
  have v0_points := fun p : Pos => pd_var (X := (bx Γ N_are_on_line d_are_on_line f cd A outer s H E)) (E := E) (i := 0) (x := "points") (pos := p) rfl (.inr (.inl rfl))
  have v0_steps := fun p : Pos => pd_var (X := (bx Γ N_are_on_line d_are_on_line f cd A outer s H E)) (E := E) (i := 1) (x := "steps") (pos := p) rfl (.inl rfl)
  exact (pdss_cons (pds_setLc (i := 1) (scope := cs_are_on_line_0) (own := [("point", 2)]) (vs := [2]) C rfl rfl rfl mk_lst (pid_seq (pd_sl mk_lst (v0_points _) (pdo_some pd_int) pdo_none)) rfl (by decide) (fun s1 H1 A1 l1 p1 => (pgd_name (i := 2) (x := "point") S_are_on_line.nd rfl (.inl rfl) (.inr rfl))) (fun s1 H1 A1 l1 p1 => pdts_nil) (fun s1 H1 A1 l1 p1 => have v1_point := fun p : Pos => pd_var (X := ((bx Γ N_are_on_line d_are_on_line f cd A outer s H E).blk s1 H1 cs_are_on_line_0 (compEnvC cs_are_on_line_0 l1 A1 ((bx Γ N_are_on_line d_are_on_line f cd A outer s H E)).env) p1)) (E := DL.E0) (i := 2) (x := "point") (pos := p) rfl (.inl rfl); have v1_points := fun p : Pos => pd_var (X := ((bx Γ N_are_on_line d_are_on_line f cd A outer s H E).blk s1 H1 cs_are_on_line_0 (compEnvC cs_are_on_line_0 l1 A1 ((bx Γ N_are_on_line d_are_on_line f cd A outer s H E)).env) p1)) (E := DL.E0) (i := 0) (x := "points") (pos := p) rfl (.inr (.inl rfl)); (pd_def (blk_ctx C) (ok_lessened F) (by decide) rfl rfl (pda_cons (v1_point _) (pda_cons (pd_ix (v1_points _) pd_int (fun _ _ => rfl)) pda_nil)))))
 (pdss_one (pds_ret (pd_cmp (opd_eq C.eqU) (pd_lc (scope := cs_are_on_line_1) (own := [("one", 3), ("two", 4)]) (vs := [3, 4]) C mk_lst (pid_comb (pda_cons (v0_steps _) (pda_cons pd_int pda_nil)) rfl F.mod_combinations) rfl (by decide) (fun s1 H1 A1 l1 p1 => (pgd_tup (blk_ctx C).calm (pgds_cons (pgd_name (i := 3) (x := "one") S_are_on_line.nd rfl (.inl rfl) (.inr rfl)) (pgds_cons (pgd_name (i := 4) (x := "two") S_are_on_line.nd rfl (.inl rfl) (.inr rfl)) pgds_nil)))) (fun s1 H1 A1 l1 p1 => have v1_one := fun p : Pos => pd_var (X := ((bx Γ N_are_on_line d_are_on_line f cd A outer s H E).blk s1 H1 cs_are_on_line_1 (compEnvC cs_are_on_line_1 l1 A1 ((bx Γ N_are_on_line d_are_on_line f cd A outer s H E)).env) p1)) (E := DL.E0) (i := 3) (x := "one") (pos := p) rfl (.inl rfl); have v1_two := fun p : Pos => pd_var (X := ((bx Γ N_are_on_line d_are_on_line f cd A outer s H E).blk s1 H1 cs_are_on_line_1 (compEnvC cs_are_on_line_1 l1 A1 ((bx Γ N_are_on_line d_are_on_line f cd A outer s H E)).env) p1)) (E := DL.E0) (i := 4) (x := "two") (pos := p) rfl (.inl rfl); (pdts_one (pdt_cmp (opd_ne (blk_ctx C).eqU) (pd_def (blk_ctx C) (ok_crossed F) (by decide) rfl rfl (pda_cons (v1_one _) (pda_cons (v1_two _) pda_nil))) (pd_glob rfl F.cst_NOUGHT_TRIPLE)))) (fun s1 H1 A1 l1 p1 => pd_int)) (pd_lst mk_lst pda_nil)))))
theorem ok_are_on_line (F : Fc Γ) : DefOk Γ 7 d_are_on_line ["points"] f_are_on_line := def_ok F.fn_are_on_line.1 F.fn_are_on_line.2 S_are_on_line (fun _ _ _ _ _ _ us hl => match us, hl with | [_], _ => rfl) (b_are_on_line F)
/-! wrong_mass -/
def d_wrong_mass : He.DefD := ⟨("wrong_mass", none), "wrong_mass", "wrong_mass", defArgs (top 51), defBody (top 51), defScope (top 51), [], []⟩
abbrev N_wrong_mass : List Str := ["value", "index", "pair"]
abbrev cs_wrong_mass_0 : Scope := { kind := .function, names := [(".0", .local), ("pair", .local)], isGenerator := false, isCoroutine := false, more := [] }
theorem S_wrong_mass : FnScope N_wrong_mass ["value"] d_wrong_mass.scope := ⟨rfl, rfl, rfl, by decide +kernel, rfl, by decide +kernel, by decide +kernel⟩
theorem b_wrong_mass (F : Fc Γ) : Body Γ 7 N_wrong_mass d_wrong_mass m_wrong_mass := by
  intro f cd A outer s H E C
  have v0_value := fun p : Pos => pd_var (X := (bx Γ N_wrong_mass d_wrong_mass f cd A outer s H E)) (E := E) (i := 0) (x := "value") (pos := p) rfl (.inl rfl)
  have v0_index := fun p : Pos => pd_var (X := (bx Γ N_wrong_mass d_wrong_mass f cd A outer s H E)) (E := E) (i := 1) (x := "index") (pos := p) rfl (.inl rfl)
  have v0_pair := fun p : Pos => pd_var (X := (bx Γ N_wrong_mass d_wrong_mass f cd A outer s H E)) (E := E) (i := 2) (x := "pair") (pos := p) rfl (.inl rfl)
  exact (pdss_cons (pds_if (pdt_w (pdw_or (pdt_not (pdt_val (pd_isi rfl F.free_isinstance rfl F.free_tuple rfl kit_tuple (v0_value _)))) (pdw_or1 (pdt_cmp opd_lt (pd_callB cd_len rfl F.free_len rfl (pda_cons (v0_value _) pda_nil)) (pd_glob rfl F.cst_LEAST_MASSES)))))
 (pdss_one (pds_ret (pd_tup (pda_cons pd_non pda_nil))))
 pdss_nil)
 (pdss_cons (pds_for C (pid_enum (pda_cons (v0_value _) pda_nil) rfl F.free_enumerate) (pgd_tup C.calm (pgds_cons (pgd_name (i := 1) (x := "index") S_wrong_mass.nd rfl (.inl rfl) (.inl rfl)) (pgds_cons (pgd_name (i := 2) (x := "pair") S_wrong_mass.nd rfl (.inl rfl) (.inl rfl)) pgds_nil)))
 (pdss_one (pds_if (pdt_w (pdw_or (pdt_cmp (opd_eq C.eqU) (v0_index _) (pd_glob rfl F.cst_MOST_MASSES)) (pdw_or1 (pdt_not (pdt_val (pd_def C (ok_is_mass F) (by decide) rfl rfl (pda_cons (v0_pair _) pda_nil)))))))
 (pdss_one (pds_ret (pd_tup (pda_cons (v0_index _) pda_nil))))
 pdss_nil)))
 (pdss_one (pds_ret (pd_if (pdt_val (pd_def C (ok_are_on_line F) (by decide) rfl rfl (pda_cons (pd_lc (scope := cs_wrong_mass_0) (own := [("pair", 2)]) (vs := [2]) C mk_lst (pid_seq (v0_value _)) rfl (by decide) (fun s1 H1 A1 l1 p1 => (pgd_name (i := 2) (x := "pair") S_wrong_mass.nd rfl (.inl rfl) (.inr rfl))) (fun s1 H1 A1 l1 p1 => pdts_nil) (fun s1 H1 A1 l1 p1 => have v1_pair := fun p : Pos => pd_var (X := ((bx Γ N_wrong_mass d_wrong_mass f cd A outer s H E).blk s1 H1 cs_wrong_mass_0 (compEnvC cs_wrong_mass_0 l1 A1 ((bx Γ N_wrong_mass d_wrong_mass f cd A outer s H E)).env) p1)) (E := DL.E0) (i := 2) (x := "pair") (pos := p) rfl (.inl rfl); (pd_ix (v1_pair _) pd_int (fun _ _ => rfl)))) pda_nil))) (pd_tup (pda_cons (pd_callB cd_len rfl F.free_len rfl (pda_cons (v0_value _) pda_nil)) pda_nil)) pd_non)))))
theorem ok_wrong_mass (F : Fc Γ) : DefOk Γ 8 d_wrong_mass ["value"] f_wrong_mass := def_ok F.fn_wrong_mass.1 F.fn_wrong_mass.2 S_wrong_mass (fun _ _ _ _ _ _ us hl => match us, hl with | [_], _ => rfl) (b_wrong_mass F)
/-! check_body -/
def d_check_body : He.DefD := ⟨("check_body", none), "check_body", "check_body", defArgs (top 52), defBody (top 52), defScope (top 52), [], []⟩
abbrev N_check_body : List Str := ["value", "wrong"]
theorem S_check_body : FnScope N_check_body ["value"] d_check_body.scope := ⟨rfl, rfl, rfl, by decide +kernel, rfl, by decide +kernel, by decide +kernel⟩
theorem b_check_body (F : Fc Γ) : Body Γ 8 N_check_body d_check_body m_check_body := by
  intro f cd A outer s H E C
  have v0_value := fun p : Pos => pd_var (X := (bx Γ N_check_body d_check_body f cd A outer s H E)) (E := E) (i := 0) (x := "value") (pos := p) rfl (.inl rfl)
  have v0_wrong := fun p : Pos => pd_var (X := (bx Γ N_check_body d_check_body f cd A outer s H E)) (E := E) (i := 1) (x := "wrong") (pos := p) rfl (.inl rfl)
  exact (pdss_cons (pds_set (i := 1) S_check_body.nd rfl (.inl rfl) (.inl rfl) (pd_def C (ok_wrong_mass F) (by decide) rfl rfl (pda_cons (v0_value _) pda_nil)))
 (pdss_one (pds_if (pdt_cmp opd_isnot (v0_wrong _) pd_non)
 (pdss_one pds_stop)
 pdss_nil)))
theorem ok_check_body (F : Fc Γ) : DefOk Γ 9 d_check_body ["value"] f_check_body := def_ok F.fn_check_body.1 F.fn_check_body.2 S_check_body (fun _ _ _ _ _ _ us hl => match us, hl with | [_], _ => rfl) (b_check_body F)
/-! momentum_by -/
def d_momentum_by : He.DefD := ⟨("momentum_by", none), "momentum_by", "momentum_by", defArgs (top 53), defBody (top 53), defScope (top 53), [], []⟩
abbrev N_momentum_by : List Str := ["body", "move", "found", "point", "mass", "force"]
theorem S_momentum_by : FnScope N_momentum_by ["body", "move"] d_momentum_by.scope := ⟨rfl, rfl, rfl, by decide +kernel, rfl, by decide +kernel, by decide +kernel⟩
theorem b_momentum_by (F : Fc Γ) : Body Γ 7 N_momentum_by d_momentum_by m_momentum_by := by
  intro f cd A outer s H E C
  have v0_body := fun p : Pos => pd_var (X := (bx Γ N_momentum_by d_momentum_by f cd A outer s H E)) (E := E) (i := 0) (x := "body") (pos := p) rfl (.inl rfl)
  have v0_move := fun p : Pos => pd_var (X := (bx Γ N_momentum_by d_momentum_by f cd A outer s H E)) (E := E) (i := 1) (x := "move") (pos := p) rfl (.inl rfl)
  have v0_found := fun p : Pos => pd_var (X := (bx Γ N_momentum_by d_momentum_by f cd A outer s H E)) (E := E) (i := 2) (x := "found") (pos := p) rfl (.inl rfl)
  have v0_point := fun p : Pos => pd_var (X := (bx Γ N_momentum_by d_momentum_by f cd A outer s H E)) (E := E) (i := 3) (x := "point") (pos := p) rfl (.inl rfl)
  have v0_mass := fun p : Pos => pd_var (X := (bx Γ N_momentum_by d_momentum_by f cd A outer s H E)) (E := E) (i := 4) (x := "mass") (pos := p) rfl (.inl rfl)
  have v0_force := fun p : Pos => pd_var (X := (bx Γ N_momentum_by d_momentum_by f cd A outer s H E)) (E := E) (i := 5) (x := "force") (pos := p) rfl (.inl rfl)
  exact (pdss_cons (pds_set (i := 2) S_momentum_by.nd rfl (.inl rfl) (.inl rfl) (pd_glob rfl F.cst_NOUGHT_screws))
 (pdss_cons (pds_for C (pid_seq (v0_body _)) (pgd_tup C.calm (pgds_cons (pgd_name (i := 3) (x := "point") S_momentum_by.nd rfl (.inl rfl) (.inl rfl)) (pgds_cons (pgd_name (i := 4) (x := "mass") S_momentum_by.nd rfl (.inl rfl) (.inl rfl)) pgds_nil)))
 (pdss_cons (pds_set (i := 5) S_momentum_by.nd rfl (.inl rfl) (.inl rfl) (pd_def C (ok_scaled F) (by decide) rfl rfl (pda_cons (pd_def C (ok_moment_by F) (by decide) rfl rfl (pda_cons (v0_move _) (pda_cons (v0_point _) pda_nil))) (pda_cons (v0_mass _) pda_nil))))
 (pdss_one (pds_set (i := 2) S_momentum_by.nd rfl (.inl rfl) (.inl rfl) (pd_def C (ok_sum_of F) (by decide) rfl rfl (pda_cons (v0_found _) (pda_cons (pd_tup (pda_cons (v0_force _) (pda_cons (pd_def C (ok_crossed F) (by decide) rfl rfl (pda_cons (v0_point _) (pda_cons (v0_force _) pda_nil))) pda_nil))) pda_nil)))))))
 (pdss_one (pds_ret (v0_found _)))))
theorem ok_momentum_by (F : Fc Γ) : DefOk Γ 8 d_momentum_by ["body", "move"] f_momentum_by := def_ok F.fn_momentum_by.1 F.fn_momentum_by.2 S_momentum_by (fun _ _ _ _ _ _ us hl => match us, hl with | [_, _], _ => rfl) (b_momentum_by F)
/-! kept_by -/
def d_kept_by : He.DefD := ⟨("kept_by", none), "kept_by", "kept_by", defArgs (top 54), defBody (top 54), defScope (top 54), [], []⟩
abbrev N_kept_by : List Str := ["body", "screws", "blow", "momenta", "table", "shares", "screw", "one"]
abbrev cs_kept_by_0 : Scope := { kind := .function, names := [(".0", .local), ("screw", .local), ("momentum_by", .globalImplicit), ("body", .free)], isGenerator := false, isCoroutine := false, more := [] }
abbrev cs_kept_by_1 : Scope := { kind := .function, names := [(".0", .local), ("one", .cell), ("screws", .free)], isGenerator := false, isCoroutine := false, more := [] }
abbrev cs_kept_by_2 : Scope := { kind := .function, names := [(".0", .local), ("screw", .local), ("powered", .globalImplicit), ("one", .free)], isGenerator := false, isCoroutine := false, more := [] }
abbrev cs_kept_by_3 : Scope := { kind := .function, names := [(".0", .local), ("screw", .local), ("powered", .globalImplicit), ("blow", .free)], isGenerator := false, isCoroutine := false, more := [] }
theorem S_kept_by : FnScope N_kept_by ["body", "screws", "blow"] d_kept_by.scope := ⟨rfl, rfl, rfl, by decide +kernel, rfl, by decide +kernel, by decide +kernel⟩
theorem b_kept_by (F : Fc Γ) : Body Γ 8 N_kept_by d_kept_by m_kept_by := by
  intro f cd A outer s H E C
  have v0_screws := fun p : Pos => pd_var (X := (bx Γ N_kept_by d_kept_by f cd A outer s H E)) (E := E) (i := 1) (x := "screws") (pos := p) rfl (.inr (.inl rfl))
  have v0_momenta := fun p : Pos => pd_var (X := (bx Γ N_kept_by d_kept_by f cd A outer s H E)) (E := E) (i := 3) (x := "momenta") (pos := p) rfl (.inl rfl)
  have v0_table := fun p : Pos => pd_var (X := (bx Γ N_kept_by d_kept_by f cd A outer s H E)) (E := E) (i := 4) (x := "table") (pos := p) rfl (.inl rfl)
  have v0_shares := fun p : Pos => pd_var (X := (bx Γ N_kept_by d_kept_by f cd A outer s H E)) (E := E) (i := 5) (x := "shares") (pos := p) rfl (.inl rfl)
  exact (pdss_cons (pds_setLc (i := 3) (scope := cs_kept_by_0) (own := [("screw", 6)]) (vs := [6]) C rfl rfl rfl mk_lst (pid_seq (v0_screws _)) rfl (by decide) (fun s1 H1 A1 l1 p1 => (pgd_name (i := 6) (x := "screw") S_kept_by.nd rfl (.inl rfl) (.inr rfl))) (fun s1 H1 A1 l1 p1 => pdts_nil) (fun s1 H1 A1 l1 p1 => have v1_screw := fun p : Pos => pd_var (X := ((bx Γ N_kept_by d_kept_by f cd A outer s H E).blk s1 H1 cs_kept_by_0 (compEnvC cs_kept_by_0 l1 A1 ((bx Γ N_kept_by d_kept_by f cd A outer s H E)).env) p1)) (E := DL.E0) (i := 6) (x := "screw") (pos := p) rfl (.inl rfl); have v1_body := fun p : Pos => pd_var (X := ((bx Γ N_kept_by d_kept_by f cd A outer s H E).blk s1 H1 cs_kept_by_0 (compEnvC cs_kept_by_0 l1 A1 ((bx Γ N_kept_by d_kept_by f cd A outer s H E)).env) p1)) (E := DL.E0) (i := 0) (x := "body") (pos := p) rfl (.inr (.inl rfl)); (pd_def (blk_ctx C) (ok_momentum_by F) (by decide) rfl rfl (pda_cons (v1_body _) (pda_cons (v1_screw _) pda_nil)))))
 (pdss_cons (pds_setLc (i := 4) (scope := cs_kept_by_1) (own := [("one", 7)]) (vs := [7]) C rfl rfl rfl mk_lst (pid_seq (v0_momenta _)) rfl (by decide) (fun s1 H1 A1 l1 p1 => (pgd_name (i := 7) (x := "one") S_kept_by.nd rfl (.inr rfl) (.inl rfl))) (fun s1 H1 A1 l1 p1 => pdts_nil) (fun s1 H1 A1 l1 p1 => have v1_screws := fun p : Pos => pd_var (X := ((bx Γ N_kept_by d_kept_by f cd A outer s H E).blk s1 H1 cs_kept_by_1 (compEnvC cs_kept_by_1 l1 A1 ((bx Γ N_kept_by d_kept_by f cd A outer s H E)).env) p1)) (E := DL.E0) (i := 1) (x := "screws") (pos := p) rfl (.inr (.inl rfl)); (pd_lc (scope := cs_kept_by_2) (own := [("screw", 6)]) (vs := [6]) (blk_ctx C) mk_lst (pid_seq (v1_screws _)) rfl (by decide) (fun s2 H2 A2 l2 p2 => (pgd_name (i := 6) (x := "screw") S_kept_by.nd rfl (.inl rfl) (.inr rfl))) (fun s2 H2 A2 l2 p2 => pdts_nil) (fun s2 H2 A2 l2 p2 => have v2_screw := fun p : Pos => pd_var (X := (((bx Γ N_kept_by d_kept_by f cd A outer s H E).blk s1 H1 cs_kept_by_1 (compEnvC cs_kept_by_1 l1 A1 ((bx Γ N_kept_by d_kept_by f cd A outer s H E)).env) p1).blk s2 H2 cs_kept_by_2 (compEnvC cs_kept_by_2 l2 A2 (((bx Γ N_kept_by d_kept_by f cd A outer s H E).blk s1 H1 cs_kept_by_1 (compEnvC cs_kept_by_1 l1 A1 ((bx Γ N_kept_by d_kept_by f cd A outer s H E)).env) p1)).env) p2)) (E := DL.E0) (i := 6) (x := "screw") (pos := p) rfl (.inl rfl); have v2_one := fun p : Pos => pd_var (X := (((bx Γ N_kept_by d_kept_by f cd A outer s H E).blk s1 H1 cs_kept_by_1 (compEnvC cs_kept_by_1 l1 A1 ((bx Γ N_kept_by d_kept_by f cd A outer s H E)).env) p1).blk s2 H2 cs_kept_by_2 (compEnvC cs_kept_by_2 l2 A2 (((bx Γ N_kept_by d_kept_by f cd A outer s H E).blk s1 H1 cs_kept_by_1 (compEnvC cs_kept_by_1 l1 A1 ((bx Γ N_kept_by d_kept_by f cd A outer s H E)).env) p1)).env) p2)) (E := DL.E0) (i := 7) (x := "one") (pos := p) rfl (.inr (.inl rfl)); (pd_def (blk_ctx (blk_ctx C)) (ok_powered F) (by decide) rfl rfl (pda_cons (v2_one _) (pda_cons (v2_screw _) pda_nil)))))))
 (pdss_cons (pds_set (i := 5) S_kept_by.nd rfl (.inl rfl) (.inl rfl) (pd_def C (ok_shares_for F) (by decide) rfl rfl (pda_cons (v0_table _) (pda_cons (pd_lc (scope := cs_kept_by_3) (own := [("screw", 6)]) (vs := [6]) C mk_lst (pid_seq (v0_screws _)) rfl (by decide) (fun s1 H1 A1 l1 p1 => (pgd_name (i := 6) (x := "screw") S_kept_by.nd rfl (.inl rfl) (.inr rfl))) (fun s1 H1 A1 l1 p1 => pdts_nil) (fun s1 H1 A1 l1 p1 => have v1_screw := fun p : Pos => pd_var (X := ((bx Γ N_kept_by d_kept_by f cd A outer s H E).blk s1 H1 cs_kept_by_3 (compEnvC cs_kept_by_3 l1 A1 ((bx Γ N_kept_by d_kept_by f cd A outer s H E)).env) p1)) (E := DL.E0) (i := 6) (x := "screw") (pos := p) rfl (.inl rfl); have v1_blow := fun p : Pos => pd_var (X := ((bx Γ N_kept_by d_kept_by f cd A outer s H E).blk s1 H1 cs_kept_by_3 (compEnvC cs_kept_by_3 l1 A1 ((bx Γ N_kept_by d_kept_by f cd A outer s H E)).env) p1)) (E := DL.E0) (i := 2) (x := "blow") (pos := p) rfl (.inr (.inl rfl)); (pd_def (blk_ctx C) (ok_powered F) (by decide) rfl rfl (pda_cons (v1_blow _) (pda_cons (v1_screw _) pda_nil))))) pda_nil))))
 (pdss_one (pds_ret (pd_def C (ok_weighed_screws F) (by decide) rfl rfl (pda_cons (v0_shares _) (pda_cons (v0_screws _) pda_nil))))))))
theorem ok_kept_by (F : Fc Γ) : DefOk Γ 9 d_kept_by ["body", "screws", "blow"] f_kept_by := def_ok F.fn_kept_by.1 F.fn_kept_by.2 S_kept_by (fun _ _ _ _ _ _ us hl => match us, hl with | [_, _, _], _ => rfl) (b_kept_by F)
/-! energy -/
def d_energy : He.DefD := ⟨("energy", none), "energy", "energy", defArgs (top 55), defBody (top 55), defScope (top 55), [], []⟩
abbrev N_energy : List Str := ["body", "move"]
theorem S_energy : FnScope N_energy ["body", "move"] d_energy.scope := ⟨rfl, rfl, rfl, by decide +kernel, rfl, by decide +kernel, by decide +kernel⟩
theorem b_energy (F : Fc Γ) : Body Γ 9 N_energy d_energy m_energy := by
  intro f cd A outer s H E C
  have v0_body := fun p : Pos => pd_var (X := (bx Γ N_energy d_energy f cd A outer s H E)) (E := E) (i := 0) (x := "body") (pos := p) rfl (.inl rfl)
  have v0_move := fun p : Pos => pd_var (X := (bx Γ N_energy d_energy f cd A outer s H E)) (E := E) (i := 1) (x := "move") (pos := p) rfl (.inl rfl)
  exact (pdss_cons (pds_drop (pd_def C (ok_check_body F) (by decide) rfl rfl (pda_cons (v0_body _) pda_nil)))
 (pdss_cons (pds_drop (pd_def C (ok_check_screw F) (by decide) rfl rfl (pda_cons (v0_move _) pda_nil)))
 (pdss_one (pds_ret (pd_def C (ok_powered F) (by decide) rfl rfl (pda_cons (pd_def C (ok_momentum_by F) (by decide) rfl rfl (pda_cons (v0_body _) (pda_cons (v0_move _) pda_nil))) (pda_cons (v0_move _) pda_nil)))))))
theorem ok_energy (F : Fc Γ) : DefOk Γ 10 d_energy ["body", "move"] f_energy := def_ok F.fn_energy.1 F.fn_energy.2 S_energy (fun _ _ _ _ _ _ us hl => match us, hl with | [_, _], _ => rfl) (b_energy F)
/-! blown -/
def d_blown : He.DefD := ⟨("blown", none), "blown", "blown", defArgs (top 56), defBody (top 56), defScope (top 56), [], []⟩
abbrev N_blown : List Str := ["body", "blow"]
theorem S_blown : FnScope N_blown ["body", "blow"] d_blown.scope := ⟨rfl, rfl, rfl, by decide +kernel, rfl, by decide +kernel, by decide +kernel⟩
theorem b_blown (F : Fc Γ) : Body Γ 9 N_blown d_blown m_blown := by
  intro f cd A outer s H E C
  have v0_body := fun p : Pos => pd_var (X := (bx Γ N_blown d_blown f cd A outer s H E)) (E := E) (i := 0) (x := "body") (pos := p) rfl (.inl rfl)
  have v0_blow := fun p : Pos => pd_var (X := (bx Γ N_blown d_blown f cd A outer s H E)) (E := E) (i := 1) (x := "blow") (pos := p) rfl (.inl rfl)
  exact (pdss_cons (pds_drop (pd_def C (ok_check_body F) (by decide) rfl rfl (pda_cons (v0_body _) pda_nil)))
 (pdss_cons (pds_drop (pd_def C (ok_check_screw F) (by decide) rfl rfl (pda_cons (v0_blow _) pda_nil)))
 (pdss_one (pds_ret (pd_def C (ok_kept_by F) (by decide) rfl rfl (pda_cons (v0_body _) (pda_cons (pd_glob rfl F.cst_UNITS) (pda_cons (v0_blow _) pda_nil))))))))
theorem ok_blown (F : Fc Γ) : DefOk Γ 10 d_blown ["body", "blow"] f_blown := def_ok F.fn_blown.1 F.fn_blown.2 S_blown (fun _ _ _ _ _ _ us hl => match us, hl with | [_, _], _ => rfl) (b_blown F)
/-! _law_well -/
def d__law_well : He.DefD := ⟨("_law_well", none), "_law_well", "_law_well", defArgs (top 58), defBody (top 58), defScope (top 58), [], []⟩
abbrev N__law_well : List Str := ["script", "turn", "cell", "stirred", "each"]
theorem S__law_well : FnScope N__law_well ["script", "turn"] d__law_well.scope := ⟨rfl, rfl, rfl, by decide +kernel, rfl, by decide +kernel, by decide +kernel⟩
theorem b__law_well (F : Fc Γ) : Body Γ 0 N__law_well d__law_well m__law_well := by
  intro f cd A outer s H E C
  have v0_script := fun p : Pos => pd_var (X := (bx Γ N__law_well d__law_well f cd A outer s H E)) (E := E) (i := 0) (x := "script") (pos := p) rfl (.inl rfl)
  have v0_turn := fun p : Pos => pd_var (X := (bx Γ N__law_well d__law_well f cd A outer s H E)) (E := E) (i := 1) (x := "turn") (pos := p) rfl (.inl rfl)
  have v0_cell := fun p : Pos => pd_var (X := (bx Γ N__law_well d__law_well f cd A outer s H E)) (E := E) (i := 2) (x := "cell") (pos := p) rfl (.inl rfl)
  have v0_stirred := fun p : Pos => pd_var (X := (bx Γ N__law_well d__law_well f cd A outer s H E)) (E := E) (i := 3) (x := "stirred") (pos := p) rfl (.inl rfl)
  have v0_each := fun p : Pos => pd_var (X := (bx Γ N__law_well d__law_well f cd A outer s H E)) (E := E) (i := 4) (x := "each") (pos := p) rfl (.inl rfl)
  exact (pdss_cons (pds_set (i := 2) S__law_well.nd rfl (.inl rfl) (.inl rfl) (pd_if (pdt_cmp opd_lt (v0_turn _) (pd_callB cd_len rfl F.free_len rfl (pda_cons (v0_script _) pda_nil))) (pd_callTy cd_int rfl F.free_int rfl (pda_cons (pd_ix (v0_script _) (v0_turn _) (fun _ _ => rfl)) pda_nil)) (pd_op (opd_add mk_lst) (pd_op (opd_add mk_lst) (pd_op (opd_mul mk_lst) pd_int (v0_turn _)) pd_int) (pd_op opd_mod (pd_callTy cd_int rfl F.free_int rfl (pda_cons (pd_callB (cd_sum C.calm) rfl F.free_sum rfl (pda_cons (pd_sl mk_lst (v0_script _) pdo_none (pdo_some pd_int)) pda_nil)) pda_nil)) pd_int))))
 (pdss_cons (pds_set (i := 3) S__law_well.nd rfl (.inl rfl) (.inl rfl) (pd_op (opd_add mk_lst) pd_int (pd_op (opd_mul mk_lst) pd_int (v0_turn _))))
 (pdss_cons (pds_for C (pid_seq (pd_op (opd_add mk_lst) (pd_sl mk_lst (v0_script _) pdo_none (pdo_some pd_int)) (pd_lst mk_lst (pda_cons (v0_cell _) pda_nil)))) (pgd_name (i := 4) (x := "each") S__law_well.nd rfl (.inl rfl) (.inl rfl))
 (pdss_one (pds_set (i := 3) S__law_well.nd rfl (.inl rfl) (.inl rfl) (pd_op opd_mod (pd_callTy cd_int rfl F.free_int rfl (pda_cons (pd_op (opd_add mk_lst) (pd_op (opd_add mk_lst) (pd_op (opd_mul mk_lst) (v0_stirred _) pd_int) (pd_op opd_mod (pd_callTy cd_int rfl F.free_int rfl (pda_cons (v0_each _) pda_nil)) pd_int)) pd_int) pda_nil)) pd_int))))
 (pdss_one (pds_ret (pd_lst mk_loc (pda_cons (pd_if (pdt_w (pdw_or (pdt_cmp opd_lt (v0_cell _) pd_int) (pdw_or1 (pdt_cmp opd_ge (v0_cell _) (pd_op opd_pow pd_int pd_int))))) (pd_callB cd_abs rfl F.free_abs rfl (pda_cons (v0_cell _) pda_nil)) pd_int) (pda_cons (v0_stirred _) (pda_cons pd_int (pda_cons (pd_cmp (opd_eq C.eqU) (pd_op opd_mod (pd_callTy cd_int rfl F.free_int rfl (pda_cons (pd_op opd_fdiv (v0_stirred _) pd_int) pda_nil)) pd_int) pd_int) pda_nil))))))))))
theorem ok__law_well (F : Fc Γ) : DefOk Γ 1 d__law_well ["script", "turn"] f__law_well := def_okL F.fn__law_well.1 F.fn__law_well.2 S__law_well (fun _ _ _ _ _ _ us hl => match us, hl with | [_, _], _ => rfl) (b__law_well F)
/-! _law_draw -/
def d__law_draw : He.DefD := ⟨("_law_draw", none), "_law_draw", "_law_draw", defArgs (top 59), defBody (top 59), defScope (top 59), [], []⟩
abbrev N__law_draw : List Str := ["well", "size", "found", "twice"]
theorem S__law_draw : FnScope N__law_draw ["well", "size"] d__law_draw.scope := ⟨rfl, rfl, rfl, by decide +kernel, rfl, by decide +kernel, by decide +kernel⟩
theorem b__law_draw (F : Fc Γ) : Body Γ 0 N__law_draw d__law_draw m__law_draw := by
  intro f cd A outer s H E C
  have v0_well := fun p : Pos => pd_var (X := (bx Γ N__law_draw d__law_draw f cd A outer s H E)) (E := E) (i := 0) (x := "well") (pos := p) rfl (.inl rfl)
  have v0_size := fun p : Pos => pd_var (X := (bx Γ N__law_draw d__law_draw f cd A outer s H E)) (E := E) (i := 1) (x := "size") (pos := p) rfl (.inl rfl)
  have v0_found := fun p : Pos => pd_var (X := (bx Γ N__law_draw d__law_draw f cd A outer s H E)) (E := E) (i := 2) (x := "found") (pos := p) rfl (.inl rfl)
  have v0_twice := fun p : Pos => pd_var (X := (bx Γ N__law_draw d__law_draw f cd A outer s H E)) (E := E) (i := 3) (x := "twice") (pos := p) rfl (.inl rfl)
  exact (pdss_cons (pds_if (pdt_cmp opd_gt (pd_ix (v0_well _) pd_int (fun _ _ => rfl)) pd_int)
 (pdss_cons (pds_set (i := 2) S__law_draw.nd rfl (.inl rfl) (.inl rfl) (pd_op opd_mod (pd_callTy cd_int rfl F.free_int rfl (pda_cons (pd_ix (v0_well _) pd_int (fun _ _ => rfl)) pda_nil)) (v0_size _)))
 (pdss_cons (pds_asg (pd_op opd_fdiv (pd_ix (v0_well _) pd_int (fun _ _ => rfl)) (v0_size _)) (pgd_sub (v0_well _) pd_int))
 (pdss_one (pds_ret (v0_found _)))))
 pdss_nil)
 (pdss_cons (pds_asg (pd_op (opd_add mk_lst) (pd_ix (v0_well _) pd_int (fun _ _ => rfl)) pd_int) (pgd_sub (v0_well _) pd_int))
 (pdss_cons (pds_asg (pd_op opd_mod (pd_callTy cd_int rfl F.free_int rfl (pda_cons (pd_op (opd_add mk_lst) (pd_op (opd_add mk_lst) (pd_op (opd_mul mk_lst) (pd_ix (v0_well _) pd_int (fun _ _ => rfl)) pd_int) (pd_op (opd_mul mk_lst) pd_int (pd_ix (v0_well _) pd_int (fun _ _ => rfl)))) pd_int) pda_nil)) pd_int) (pgd_sub (v0_well _) pd_int))
 (pdss_cons (pds_set (i := 3) S__law_draw.nd rfl (.inl rfl) (.inl rfl) (pd_op opd_mod (pd_callTy cd_int rfl F.free_int rfl (pda_cons (pd_op (opd_add mk_lst) (pd_op (opd_mul mk_lst) (pd_ix (v0_well _) pd_int (fun _ _ => rfl)) (pd_op (opd_add mk_lst) (pd_op opd_fdiv (pd_ix (v0_well _) pd_int (fun _ _ => rfl)) pd_int) (pd_op (opd_mul mk_lst) pd_int (pd_ix (v0_well _) pd_int (fun _ _ => rfl))))) pd_int) pda_nil)) pd_int))
 (pdss_one (pds_ret (pd_op opd_mod (pd_callTy cd_int rfl F.free_int rfl (pda_cons (pd_op opd_fdiv (v0_twice _) pd_int) pda_nil)) (v0_size _))))))))
theorem ok__law_draw (F : Fc Γ) : DefOk Γ 1 d__law_draw ["well", "size"] f__law_draw := def_ok F.fn__law_draw.1 F.fn__law_draw.2 S__law_draw (fun _ _ _ _ _ _ us hl => match us, hl with | [_, _], _ => rfl) (b__law_draw F)
/-! _law_pick -/
def d__law_pick : He.DefD := ⟨("_law_pick", none), "_law_pick", "_law_pick", defArgs (top 60), defBody (top 60), defScope (top 60), [], []⟩
abbrev N__law_pick : List Str := ["well", "some"]
theorem S__law_pick : FnScope N__law_pick ["well", "some"] d__law_pick.scope := ⟨rfl, rfl, rfl, by decide +kernel, rfl, by decide +kernel, by decide +kernel⟩
theorem b__law_pick (F : Fc Γ) : Body Γ 1 N__law_pick d__law_pick m__law_pick := by
  intro f cd A outer s H E C
  have v0_well := fun p : Pos => pd_var (X := (bx Γ N__law_pick d__law_pick f cd A outer s H E)) (E := E) (i := 0) (x := "well") (pos := p) rfl (.inl rfl)
  have v0_some := fun p : Pos => pd_var (X := (bx Γ N__law_pick d__law_pick f cd A outer s H E)) (E := E) (i := 1) (x := "some") (pos := p) rfl (.inl rfl)
  exact (pdss_one (pds_ret (pd_ix (v0_some _) (pd_def C (ok__law_draw F) (by decide) rfl rfl (pda_cons (v0_well _) (pda_cons (pd_callB cd_len rfl F.free_len rfl (pda_cons (v0_some _) pda_nil)) pda_nil))) (fun _ _ => rfl))))
theorem ok__law_pick (F : Fc Γ) : DefOk Γ 2 d__law_pick ["well", "some"] f__law_pick := def_ok F.fn__law_pick.1 F.fn__law_pick.2 S__law_pick (fun _ _ _ _ _ _ us hl => match us, hl with | [_, _], _ => rfl) (b__law_pick F)
/-! _law_gcd -/
def d__law_gcd : He.DefD := ⟨("_law_gcd", none), "_law_gcd", "_law_gcd", defArgs (top 61), defBody (top 61), defScope (top 61), [], []⟩
abbrev N__law_gcd : List Str := ["one", "two"]
theorem S__law_gcd : FnScope N__law_gcd ["one", "two"] d__law_gcd.scope := ⟨rfl, rfl, rfl, by decide +kernel, rfl, by decide +kernel, by decide +kernel⟩
theorem b__law_gcd (F : Fc Γ) : Body Γ 0 N__law_gcd d__law_gcd m__law_gcd := by
  intro f cd A outer s H E C
  have v0_one := fun p : Pos => pd_var (X := (bx Γ N__law_gcd d__law_gcd f cd A outer s H E)) (E := E) (i := 0) (x := "one") (pos := p) rfl (.inl rfl)
  have v0_two := fun p : Pos => pd_var (X := (bx Γ N__law_gcd d__law_gcd f cd A outer s H E)) (E := E) (i := 1) (x := "two") (pos := p) rfl (.inl rfl)
  exact (pdss_cons (pds_par2 (i := 0) (j := 1) C.calm S__law_gcd.nd rfl rfl (by decide) rfl rfl (pda_cons (pd_callB cd_abs rfl F.free_abs rfl (pda_cons (v0_one _) pda_nil)) (pda_cons (pd_callB cd_abs rfl F.free_abs rfl (pda_cons (v0_two _) pda_nil)) pda_nil)) rfl)
 (pdss_cons (pds_while C (pdt_cmp opd_gt (v0_two _) pd_int)
 (pdss_one (pds_par2 (i := 0) (j := 1) C.calm S__law_gcd.nd rfl rfl (by decide) rfl rfl (pda_cons (v0_two _) (pda_cons (pd_op opd_mod (pd_callTy cd_int rfl F.free_int rfl (pda_cons (v0_one _) pda_nil)) (v0_two _)) pda_nil)) rfl)))
 (pdss_one (pds_ret (v0_one _)))))
theorem ok__law_gcd (F : Fc Γ) : DefOk Γ 1 d__law_gcd ["one", "two"] f__law_gcd := def_ok F.fn__law_gcd.1 F.fn__law_gcd.2 S__law_gcd (fun _ _ _ _ _ _ us hl => match us, hl with | [_, _], _ => rfl) (b__law_gcd F)
/-! _law_low -/
def d__law_low : He.DefD := ⟨("_law_low", none), "_law_low", "_law_low", defArgs (top 62), defBody (top 62), defScope (top 62), [], []⟩
abbrev N__law_low : List Str := ["over", "under", "common"]
theorem S__law_low : FnScope N__law_low ["over", "under"] d__law_low.scope := ⟨rfl, rfl, rfl, by decide +kernel, rfl, by decide +kernel, by decide +kernel⟩
theorem b__law_low (F : Fc Γ) : Body Γ 1 N__law_low d__law_low m__law_low := by
  intro f cd A outer s H E C
  have v0_over := fun p : Pos => pd_var (X := (bx Γ N__law_low d__law_low f cd A outer s H E)) (E := E) (i := 0) (x := "over") (pos := p) rfl (.inl rfl)
  have v0_under := fun p : Pos => pd_var (X := (bx Γ N__law_low d__law_low f cd A outer s H E)) (E := E) (i := 1) (x := "under") (pos := p) rfl (.inl rfl)
  have v0_common := fun p : Pos => pd_var (X := (bx Γ N__law_low d__law_low f cd A outer s H E)) (E := E) (i := 2) (x := "common") (pos := p) rfl (.inl rfl)
  exact (pdss_cons (pds_set (i := 2) S__law_low.nd rfl (.inl rfl) (.inl rfl) (pd_def C (ok__law_gcd F) (by decide) rfl rfl (pda_cons (v0_over _) (pda_cons (v0_under _) pda_nil))))
 (pdss_cons (pds_set (i := 2) S__law_low.nd rfl (.inl rfl) (.inl rfl) (pd_if (pdt_cmp opd_gt (v0_under _) pd_int) (v0_common _) (pd_op opd_sub pd_int (v0_common _))))
 (pdss_one (pds_ret (pd_tup (pda_cons (pd_op opd_fdiv (v0_over _) (v0_common _)) (pda_cons (pd_op opd_fdiv (v0_under _) (v0_common _)) pda_nil)))))))
theorem ok__law_low (F : Fc Γ) : DefOk Γ 2 d__law_low ["over", "under"] f__law_low := def_ok F.fn__law_low.1 F.fn__law_low.2 S__law_low (fun _ _ _ _ _ _ us hl => match us, hl with | [_, _], _ => rfl) (b__law_low F)
/-! _law_add -/
def d__law_add : He.DefD := ⟨("_law_add", none), "_law_add", "_law_add", defArgs (top 63), defBody (top 63), defScope (top 63), [], []⟩
abbrev N__law_add : List Str := ["one", "two"]
theorem S__law_add : FnScope N__law_add ["one", "two"] d__law_add.scope := ⟨rfl, rfl, rfl, by decide +kernel, rfl, by decide +kernel, by decide +kernel⟩
theorem b__law_add (F : Fc Γ) : Body Γ 2 N__law_add d__law_add m__law_add := by
  intro f cd A outer s H E C
  have v0_one := fun p : Pos => pd_var (X := (bx Γ N__law_add d__law_add f cd A outer s H E)) (E := E) (i := 0) (x := "one") (pos := p) rfl (.inl rfl)
  have v0_two := fun p : Pos => pd_var (X := (bx Γ N__law_add d__law_add f cd A outer s H E)) (E := E) (i := 1) (x := "two") (pos := p) rfl (.inl rfl)
  exact (pdss_one (pds_ret (pd_def C (ok__law_low F) (by decide) rfl rfl (pda_cons (pd_op (opd_add mk_lst) (pd_op (opd_mul mk_lst) (pd_ix (v0_one _) pd_int (fun _ _ => rfl)) (pd_ix (v0_two _) pd_int (fun _ _ => rfl))) (pd_op (opd_mul mk_lst) (pd_ix (v0_two _) pd_int (fun _ _ => rfl)) (pd_ix (v0_one _) pd_int (fun _ _ => rfl)))) (pda_cons (pd_op (opd_mul mk_lst) (pd_ix (v0_one _) pd_int (fun _ _ => rfl)) (pd_ix (v0_two _) pd_int (fun _ _ => rfl))) pda_nil)))))
theorem ok__law_add (F : Fc Γ) : DefOk Γ 3 d__law_add ["one", "two"] f__law_add := def_ok F.fn__law_add.1 F.fn__law_add.2 S__law_add (fun _ _ _ _ _ _ us hl => match us, hl with | [_, _], _ => rfl) (b__law_add F)
/-! _law_mul -/
def d__law_mul : He.DefD := ⟨("_law_mul", none), "_law_mul", "_law_mul", defArgs (top 64), defBody (top 64), defScope (top 64), [], []⟩
abbrev N__law_mul : List Str := ["one", "two"]
theorem S__law_mul : FnScope N__law_mul ["one", "two"] d__law_mul.scope := ⟨rfl, rfl, rfl, by decide +kernel, rfl, by decide +kernel, by decide +kernel⟩
theorem b__law_mul (F : Fc Γ) : Body Γ 2 N__law_mul d__law_mul m__law_mul := by
  intro f cd A outer s H E C
  have v0_one := fun p : Pos => pd_var (X := (bx Γ N__law_mul d__law_mul f cd A outer s H E)) (E := E) (i := 0) (x := "one") (pos := p) rfl (.inl rfl)
  have v0_two := fun p : Pos => pd_var (X := (bx Γ N__law_mul d__law_mul f cd A outer s H E)) (E := E) (i := 1) (x := "two") (pos := p) rfl (.inl rfl)
  exact (pdss_one (pds_ret (pd_def C (ok__law_low F) (by decide) rfl rfl (pda_cons (pd_op (opd_mul mk_lst) (pd_ix (v0_one _) pd_int (fun _ _ => rfl)) (pd_ix (v0_two _) pd_int (fun _ _ => rfl))) (pda_cons (pd_op (opd_mul mk_lst) (pd_ix (v0_one _) pd_int (fun _ _ => rfl)) (pd_ix (v0_two _) pd_int (fun _ _ => rfl))) pda_nil)))))
theorem ok__law_mul (F : Fc Γ) : DefOk Γ 3 d__law_mul ["one", "two"] f__law_mul := def_ok F.fn__law_mul.1 F.fn__law_mul.2 S__law_mul (fun _ _ _ _ _ _ us hl => match us, hl with | [_, _], _ => rfl) (b__law_mul F)
/-! _law_over -/
def d__law_over : He.DefD := ⟨("_law_over", none), "_law_over", "_law_over", defArgs (top 65), defBody (top 65), defScope (top 65), [], []⟩
abbrev N__law_over : List Str := ["one", "two"]
theorem S__law_over : FnScope N__law_over ["one", "two"] d__law_over.scope := ⟨rfl, rfl, rfl, by decide +kernel, rfl, by decide +kernel, by decide +kernel⟩
theorem b__law_over (F : Fc Γ) : Body Γ 2 N__law_over d__law_over m__law_over := by
  intro f cd A outer s H E C
  have v0_one := fun p : Pos => pd_var (X := (bx Γ N__law_over d__law_over f cd A outer s H E)) (E := E) (i := 0) (x := "one") (pos := p) rfl (.inl rfl)
  have v0_two := fun p : Pos => pd_var (X := (bx Γ N__law_over d__law_over f cd A outer s H E)) (E := E) (i := 1) (x := "two") (pos := p) rfl (.inl rfl)
  exact (pdss_one (pds_ret (pd_def C (ok__law_low F) (by decide) rfl rfl (pda_cons (pd_op (opd_mul mk_lst) (pd_ix (v0_one _) pd_int (fun _ _ => rfl)) (pd_ix (v0_two _) pd_int (fun _ _ => rfl))) (pda_cons (pd_op (opd_mul mk_lst) (pd_ix (v0_one _) pd_int (fun _ _ => rfl)) (pd_ix (v0_two _) pd_int (fun _ _ => rfl))) pda_nil)))))
theorem ok__law_over (F : Fc Γ) : DefOk Γ 3 d__law_over ["one", "two"] f__law_over := def_ok F.fn__law_over.1 F.fn__law_over.2 S__law_over (fun _ _ _ _ _ _ us hl => match us, hl with | [_, _], _ => rfl) (b__law_over F)
/-! _law_total -/
def d__law_total : He.DefD := ⟨("_law_total", none), "_law_total", "_law_total", defArgs (top 66), defBody (top 66), defScope (top 66), [], []⟩
abbrev N__law_total : List Str := ["some", "over", "under", "each"]
theorem S__law_total : FnScope N__law_total ["some"] d__law_total.scope := ⟨rfl, rfl, rfl, by decide +kernel, rfl, by decide +kernel, by decide +kernel⟩
theorem b__law_total (F : Fc Γ) : Body Γ 2 N__law_total d__law_total m__law_total := by
  intro f cd A outer s H E C
  have v0_some := fun p : Pos => pd_var (X := (bx Γ N__law_total d__law_total f cd A outer s H E)) (E := E) (i := 0) (x := "some") (pos := p) rfl (.inl rfl)
  have v0_over := fun p : Pos => pd_var (X := (bx Γ N__law_total d__law_total f cd A outer s H E)) (E := E) (i := 1) (x := "over") (pos := p) rfl (.inl rfl)
  have v0_under := fun p : Pos => pd_var (X := (bx Γ N__law_total d__law_total f cd A outer s H E)) (E := E) (i := 2) (x := "under") (pos := p) rfl (.inl rfl)
  have v0_each := fun p : Pos => pd_var (X := (bx Γ N__law_total d__law_total f cd A outer s H E)) (E := E) (i := 3) (x := "each") (pos := p) rfl (.inl rfl)
  exact (pdss_cons (pds_asg (pd_tup (pda_cons pd_int (pda_cons pd_int pda_nil))) (pgd_tup C.calm (pgds_cons (pgd_name (i := 1) (x := "over") S__law_total.nd rfl (.inl rfl) (.inl rfl)) (pgds_cons (pgd_name (i := 2) (x := "under") S__law_total.nd rfl (.inl rfl) (.inl rfl)) pgds_nil))))
 (pdss_cons (pds_for C (pid_seq (v0_some _)) (pgd_name (i := 3) (x := "each") S__law_total.nd rfl (.inl rfl) (.inl rfl))
 (pdss_one (pds_par2 (i := 1) (j := 2) C.calm S__law_total.nd rfl rfl (by decide) rfl rfl (pda_cons (pd_op (opd_add mk_lst) (pd_op (opd_mul mk_lst) (v0_over _) (pd_ix (v0_each _) pd_int (fun _ _ => rfl))) (pd_op (opd_mul mk_lst) (pd_ix (v0_each _) pd_int (fun _ _ => rfl)) (v0_under _))) (pda_cons (pd_op (opd_mul mk_lst) (v0_under _) (pd_ix (v0_each _) pd_int (fun _ _ => rfl))) pda_nil)) rfl)))
 (pdss_one (pds_ret (pd_def C (ok__law_low F) (by decide) rfl rfl (pda_cons (v0_over _) (pda_cons (v0_under _) pda_nil)))))))
theorem ok__law_total (F : Fc Γ) : DefOk Γ 3 d__law_total ["some"] f__law_total := def_ok F.fn__law_total.1 F.fn__law_total.2 S__law_total (fun _ _ _ _ _ _ us hl => match us, hl with | [_], _ => rfl) (b__law_total F)
/-! _law_dot -/
def d__law_dot : He.DefD := ⟨("_law_dot", none), "_law_dot", "_law_dot", defArgs (top 67), defBody (top 67), defScope (top 67), [], []⟩
abbrev N__law_dot : List Str := ["one", "two", "a", "b"]
abbrev cs__law_dot_0 : Scope := { kind := .function, names := [(".0", .local), ("a", .local), ("b", .local)], isGenerator := false, isCoroutine := false, more := [] }
theorem S__law_dot : FnScope N__law_dot ["one", "two"] d__law_dot.scope := ⟨rfl, rfl, rfl, by decide +kernel, rfl, by decide +kernel, by decide +kernel⟩
theorem b__law_dot (F : Fc Γ) : Body Γ 3 N__law_dot d__law_dot m__law_dot := by
  intro f cd A outer s H E C
  have v0_one := fun p : Pos => pd_var (X := (bx Γ N__law_dot d__law_dot f cd A outer s H E)) (E := E) (i := 0) (x := "one") (pos := p) rfl (.inl rfl)
  have v0_two := fun p : Pos => pd_var (X := (bx Γ N__law_dot d__law_dot f cd A outer s H E)) (E := E) (i := 1) (x := "two") (pos := p) rfl (.inl rfl)
  exact (pdss_one (pds_ret (pd_def C (ok__law_total F) (by decide) rfl rfl (pda_cons (pd_lc (scope := cs__law_dot_0) (own := [("a", 2), ("b", 3)]) (vs := [2, 3]) C mk_lst (pid_zip (pda_cons (v0_one _) (pda_cons (v0_two _) pda_nil)) rfl F.free_zip) rfl (by decide) (fun s1 H1 A1 l1 p1 => (pgd_tup (blk_ctx C).calm (pgds_cons (pgd_name (i := 2) (x := "a") S__law_dot.nd rfl (.inl rfl) (.inr rfl)) (pgds_cons (pgd_name (i := 3) (x := "b") S__law_dot.nd rfl (.inl rfl) (.inr rfl)) pgds_nil)))) (fun s1 H1 A1 l1 p1 => pdts_nil) (fun s1 H1 A1 l1 p1 => have v1_a := fun p : Pos => pd_var (X := ((bx Γ N__law_dot d__law_dot f cd A outer s H E).blk s1 H1 cs__law_dot_0 (compEnvC cs__law_dot_0 l1 A1 ((bx Γ N__law_dot d__law_dot f cd A outer s H E)).env) p1)) (E := DL.E0) (i := 2) (x := "a") (pos := p) rfl (.inl rfl); have v1_b := fun p : Pos => pd_var (X := ((bx Γ N__law_dot d__law_dot f cd A outer s H E).blk s1 H1 cs__law_dot_0 (compEnvC cs__law_dot_0 l1 A1 ((bx Γ N__law_dot d__law_dot f cd A outer s H E)).env) p1)) (E := DL.E0) (i := 3) (x := "b") (pos := p) rfl (.inl rfl); (pd_tup (pda_cons (pd_op (opd_mul mk_lst) (pd_ix (v1_a _) pd_int (fun _ _ => rfl)) (pd_ix (v1_b _) pd_int (fun _ _ => rfl))) (pda_cons (pd_op (opd_mul mk_lst) (pd_ix (v1_a _) pd_int (fun _ _ => rfl)) (pd_ix (v1_b _) pd_int (fun _ _ => rfl))) pda_nil))))) pda_nil))))
theorem ok__law_dot (F : Fc Γ) : DefOk Γ 4 d__law_dot ["one", "two"] f__law_dot := def_ok F.fn__law_dot.1 F.fn__law_dot.2 S__law_dot (fun _ _ _ _ _ _ us hl => match us, hl with | [_, _], _ => rfl) (b__law_dot F)
/-! _law_cross -/
def d__law_cross : He.DefD := ⟨("_law_cross", none), "_law_cross", "_law_cross", defArgs (top 68), defBody (top 68), defScope (top 68), [], []⟩
abbrev N__law_cross : List Str := ["one", "two", "a", "b", "c", "p", "q", "r", "rows", "found", "s", "t", "u", "v"]
theorem S__law_cross : FnScope N__law_cross ["one", "two"] d__law_cross.scope := ⟨rfl, rfl, rfl, by decide +kernel, rfl, by decide +kernel, by decide +kernel⟩
theorem b__law_cross (F : Fc Γ) : Body Γ 3 N__law_cross d__law_cross m__law_cross := by
  intro f cd A outer s H E C
  have v0_one := fun p : Pos => pd_var (X := (bx Γ N__law_cross d__law_cross f cd A outer s H E)) (E := E) (i := 0) (x := "one") (pos := p) rfl (.inl rfl)
  have v0_two := fun p : Pos => pd_var (X := (bx Γ N__law_cross d__law_cross f cd A outer s H E)) (E := E) (i := 1) (x := "two") (pos := p) rfl (.inl rfl)
  have v0_a := fun p : Pos => pd_var (X := (bx Γ N__law_cross d__law_cross f cd A outer s H E)) (E := E) (i := 2) (x := "a") (pos := p) rfl (.inl rfl)
  have v0_b := fun p : Pos => pd_var (X := (bx Γ N__law_cross d__law_cross f cd A outer s H E)) (E := E) (i := 3) (x := "b") (pos := p) rfl (.inl rfl)
  have v0_c := fun p : Pos => pd_var (X := (bx Γ N__law_cross d__law_cross f cd A outer s H E)) (E := E) (i := 4) (x := "c") (pos := p) rfl (.inl rfl)
  have v0_p := fun p : Pos => pd_var (X := (bx Γ N__law_cross d__law_cross f cd A outer s H E)) (E := E) (i := 5) (x := "p") (pos := p) rfl (.inl rfl)
  have v0_q := fun p : Pos => pd_var (X := (bx Γ N__law_cross d__law_cross f cd A outer s H E)) (E := E) (i := 6) (x := "q") (pos := p) rfl (.inl rfl)
  have v0_r := fun p : Pos => pd_var (X := (bx Γ N__law_cross d__law_cross f cd A outer s H E)) (E := E) (i := 7) (x := "r") (pos := p) rfl (.inl rfl)
  have v0_rows := fun p : Pos => pd_var (X := (bx Γ N__law_cross d__law_cross f cd A outer s H E)) (E := E) (i := 8) (x := "rows") (pos := p) rfl (.inl rfl)
  have v0_found := fun p : Pos => pd_var (X := (bx Γ N__law_cross d__law_cross f cd A outer s H E)) (E := E) (i := 9) (x := "found") (pos := p) rfl (.inl rfl)
  have v0_s := fun p : Pos => pd_var (X := (bx Γ N__law_cross d__law_cross f cd A outer s H E)) (E := E) (i := 10) (x := "s") (pos := p) rfl (.inl rfl)
  have v0_t := fun p : Pos => pd_var (X := (bx Γ N__law_cross d__law_cross f cd A outer s H E)) (E := E) (i := 11) (x := "t") (pos := p) rfl (.inl rfl)
  have v0_u := fun p : Pos => pd_var (X := (bx Γ N__law_cross d__law_cross f cd A outer s H E)) (E := E) (i := 12) (x := "u") (pos := p) rfl (.inl rfl)
  have v0_v := fun p : Pos => pd_var (X := (bx Γ N__law_cross d__law_cross f cd A outer s H E)) (E := E) (i := 13) (x := "v") (pos := p) rfl (.inl rfl)
  exact (pdss_cons (pds_asg (pd_tup (pda_cons (v0_one _) (pda_cons (v0_two _) pda_nil))) (pgd_tup C.calm (pgds_cons (pgd_tup C.calm (pgds_cons (pgd_name (i := 2) (x := "a") S__law_cross.nd rfl (.inl rfl) (.inl rfl)) (pgds_cons (pgd_name (i := 3) (x := "b") S__law_cross.nd rfl (.inl rfl) (.inl rfl)) (pgds_cons (pgd_name (i := 4) (x := "c") S__law_cross.nd rfl (.inl rfl) (.inl rfl)) pgds_nil)))) (pgds_cons (pgd_tup C.calm (pgds_cons (pgd_name (i := 5) (x := "p") S__law_cross.nd rfl (.inl rfl) (.inl rfl)) (pgds_cons (pgd_name (i := 6) (x := "q") S__law_cross.nd rfl (.inl rfl) (.inl rfl)) (pgds_cons (pgd_name (i := 7) (x := "r") S__law_cross.nd rfl (.inl rfl) (.inl rfl)) pgds_nil)))) pgds_nil))))
 (pdss_cons (pds_set (i := 8) S__law_cross.nd rfl (.inl rfl) (.inl rfl) (pd_lst mk_lst (pda_cons (pd_lst mk_lst (pda_cons (v0_b _) (pda_cons (v0_r _) (pda_cons (v0_c _) (pda_cons (v0_q _) pda_nil))))) (pda_cons (pd_lst mk_lst (pda_cons (v0_c _) (pda_cons (v0_p _) (pda_cons (v0_a _) (pda_cons (v0_r _) pda_nil))))) (pda_cons (pd_lst mk_lst (pda_cons (v0_a _) (pda_cons (v0_q _) (pda_cons (v0_b _) (pda_cons (v0_p _) pda_nil))))) pda_nil)))))
 (pdss_cons (pds_set (i := 9) S__law_cross.nd rfl (.inl rfl) (.inl rfl) (pd_lst mk_loc pda_nil))
 (pdss_cons (pds_for C (pid_seq (v0_rows _)) (pgd_tup C.calm (pgds_cons (pgd_name (i := 10) (x := "s") S__law_cross.nd rfl (.inl rfl) (.inl rfl)) (pgds_cons (pgd_name (i := 11) (x := "t") S__law_cross.nd rfl (.inl rfl) (.inl rfl)) (pgds_cons (pgd_name (i := 12) (x := "u") S__law_cross.nd rfl (.inl rfl) (.inl rfl)) (pgds_cons (pgd_name (i := 13) (x := "v") S__law_cross.nd rfl (.inl rfl) (.inl rfl)) pgds_nil)))))
 (pdss_one (pds_app (v0_found _) (pd_def C (ok__law_total F) (by decide) rfl rfl (pda_cons (pd_lst mk_lst (pda_cons (pd_tup (pda_cons (pd_op (opd_mul mk_lst) (pd_ix (v0_s _) pd_int (fun _ _ => rfl)) (pd_ix (v0_t _) pd_int (fun _ _ => rfl))) (pda_cons (pd_op (opd_mul mk_lst) (pd_ix (v0_s _) pd_int (fun _ _ => rfl)) (pd_ix (v0_t _) pd_int (fun _ _ => rfl))) pda_nil))) (pda_cons (pd_tup (pda_cons (pd_op opd_sub pd_int (pd_op (opd_mul mk_lst) (pd_ix (v0_u _) pd_int (fun _ _ => rfl)) (pd_ix (v0_v _) pd_int (fun _ _ => rfl)))) (pda_cons (pd_op (opd_mul mk_lst) (pd_ix (v0_u _) pd_int (fun _ _ => rfl)) (pd_ix (v0_v _) pd_int (fun _ _ => rfl))) pda_nil))) pda_nil))) pda_nil)))))
 (pdss_one (pds_ret (pd_callTy cd_tuple rfl F.free_tuple rfl (pda_cons (v0_found _) pda_nil))))))))
theorem ok__law_cross (F : Fc Γ) : DefOk Γ 4 d__law_cross ["one", "two"] f__law_cross := def_ok F.fn__law_cross.1 F.fn__law_cross.2 S__law_cross (fun _ _ _ _ _ _ us hl => match us, hl with | [_, _], _ => rfl) (b__law_cross F)
/-! _law_plus -/
def d__law_plus : He.DefD := ⟨("_law_plus", none), "_law_plus", "_law_plus", defArgs (top 69), defBody (top 69), defScope (top 69), [], []⟩
abbrev N__law_plus : List Str := ["one", "two", "a", "b"]
abbrev cs__law_plus_0 : Scope := { kind := .function, names := [(".0", .local), ("a", .local), ("b", .local), ("_law_add", .globalImplicit)], isGenerator := false, isCoroutine := false, more := [] }
theorem S__law_plus : FnScope N__law_plus ["one", "two"] d__law_plus.scope := ⟨rfl, rfl, rfl, by decide +kernel, rfl, by decide +kernel, by decide +kernel⟩
theorem b__law_plus (F : Fc Γ) : Body Γ 3 N__law_plus d__law_plus m__law_plus := by
  intro f cd A outer s H E C
  have v0_one := fun p : Pos => pd_var (X := (bx Γ N__law_plus d__law_plus f cd A outer s H E)) (E := E) (i := 0) (x := "one") (pos := p) rfl (.inl rfl)
  have v0_two := fun p : Pos => pd_var (X := (bx Γ N__law_plus d__law_plus f cd A outer s H E)) (E := E) (i := 1) (x := "two") (pos := p) rfl (.inl rfl)
  exact (pdss_one (pds_ret (pd_callTy cd_tuple rfl F.free_tuple rfl (pda_cons (pd_lc (scope := cs__law_plus_0) (own := [("a", 2), ("b", 3)]) (vs := [2, 3]) C mk_lst (pid_zip (pda_cons (v0_one _) (pda_cons (v0_two _) pda_nil)) rfl F.free_zip) rfl (by decide) (fun s1 H1 A1 l1 p1 => (pgd_tup (blk_ctx C).calm (pgds_cons (pgd_name (i := 2) (x := "a") S__law_plus.nd rfl (.inl rfl) (.inr rfl)) (pgds_cons (pgd_name (i := 3) (x := "b") S__law_plus.nd rfl (.inl rfl) (.inr rfl)) pgds_nil)))) (fun s1 H1 A1 l1 p1 => pdts_nil) (fun s1 H1 A1 l1 p1 => have v1_a := fun p : Pos => pd_var (X := ((bx Γ N__law_plus d__law_plus f cd A outer s H E).blk s1 H1 cs__law_plus_0 (compEnvC cs__law_plus_0 l1 A1 ((bx Γ N__law_plus d__law_plus f cd A outer s H E)).env) p1)) (E := DL.E0) (i := 2) (x := "a") (pos := p) rfl (.inl rfl); have v1_b := fun p : Pos => pd_var (X := ((bx Γ N__law_plus d__law_plus f cd A outer s H E).blk s1 H1 cs__law_plus_0 (compEnvC cs__law_plus_0 l1 A1 ((bx Γ N__law_plus d__law_plus f cd A outer s H E)).env) p1)) (E := DL.E0) (i := 3) (x := "b") (pos := p) rfl (.inl rfl); (pd_def (blk_ctx C) (ok__law_add F) (by decide) rfl rfl (pda_cons (v1_a _) (pda_cons (v1_b _) pda_nil))))) pda_nil))))
theorem ok__law_plus (F : Fc Γ) : DefOk Γ 4 d__law_plus ["one", "two"] f__law_plus := def_ok F.fn__law_plus.1 F.fn__law_plus.2 S__law_plus (fun _ _ _ _ _ _ us hl => match us, hl with | [_, _], _ => rfl) (b__law_plus F)
/-! _law_times -/
def d__law_times : He.DefD := ⟨("_law_times", none), "_law_times", "_law_times", defArgs (top 70), defBody (top 70), defScope (top 70), [], []⟩
abbrev N__law_times : List Str := ["one", "factor", "a"]
abbrev cs__law_times_0 : Scope := { kind := .function, names := [(".0", .local), ("a", .local), ("_law_mul", .globalImplicit), ("factor", .free)], isGenerator := false, isCoroutine := false, more := [] }
theorem S__law_times : FnScope N__law_times ["one", "factor"] d__law_times.scope := ⟨rfl, rfl, rfl, by decide +kernel, rfl, by decide +kernel, by decide +kernel⟩
theorem b__law_times (F : Fc Γ) : Body Γ 3 N__law_times d__law_times m__law_times := by
  intro f cd A outer s H E C
  have v0_one := fun p : Pos => pd_var (X := (bx Γ N__law_times d__law_times f cd A outer s H E)) (E := E) (i := 0) (x := "one") (pos := p) rfl (.inl rfl)
  exact (pdss_one (pds_ret (pd_callTy cd_tuple rfl F.free_tuple rfl (pda_cons (pd_lc (scope := cs__law_times_0) (own := [("a", 2)]) (vs := [2]) C mk_lst (pid_seq (v0_one _)) rfl (by decide) (fun s1 H1 A1 l1 p1 => (pgd_name (i := 2) (x := "a") S__law_times.nd rfl (.inl rfl) (.inr rfl))) (fun s1 H1 A1 l1 p1 => pdts_nil) (fun s1 H1 A1 l1 p1 => have v1_a := fun p : Pos => pd_var (X := ((bx Γ N__law_times d__law_times f cd A outer s H E).blk s1 H1 cs__law_times_0 (compEnvC cs__law_times_0 l1 A1 ((bx Γ N__law_times d__law_times f cd A outer s H E)).env) p1)) (E := DL.E0) (i := 2) (x := "a") (pos := p) rfl (.inl rfl); have v1_factor := fun p : Pos => pd_var (X := ((bx Γ N__law_times d__law_times f cd A outer s H E).blk s1 H1 cs__law_times_0 (compEnvC cs__law_times_0 l1 A1 ((bx Γ N__law_times d__law_times f cd A outer s H E)).env) p1)) (E := DL.E0) (i := 1) (x := "factor") (pos := p) rfl (.inr (.inl rfl)); (pd_def (blk_ctx C) (ok__law_mul F) (by decide) rfl rfl (pda_cons (v1_a _) (pda_cons (v1_factor _) pda_nil))))) pda_nil))))
theorem ok__law_times (F : Fc Γ) : DefOk Γ 4 d__law_times ["one", "factor"] f__law_times := def_ok F.fn__law_times.1 F.fn__law_times.2 S__law_times (fun _ _ _ _ _ _ us hl => match us, hl with | [_, _], _ => rfl) (b__law_times F)
/-! _law_nought -/
def d__law_nought : He.DefD := ⟨("_law_nought", none), "_law_nought", "_law_nought", defArgs (top 71), defBody (top 71), defScope (top 71), [], []⟩
abbrev N__law_nought : List Str := []
theorem S__law_nought : FnScope N__law_nought [] d__law_nought.scope := ⟨rfl, rfl, rfl, by decide +kernel, rfl, by decide +kernel, by decide +kernel⟩
theorem b__law_nought (F : Fc Γ) : Body Γ 0 N__law_nought d__law_nought m__law_nought := by
  intro f cd A outer s H E C
  exact (pdss_one (pds_ret (pd_tup (pda_cons (pd_tup (pda_cons pd_int (pda_cons pd_int pda_nil))) (pda_cons (pd_tup (pda_cons pd_int (pda_cons pd_int pda_nil))) (pda_cons (pd_tup (pda_cons pd_int (pda_cons pd_int pda_nil))) pda_nil))))))
theorem ok__law_nought (F : Fc Γ) : DefOk Γ 1 d__law_nought [] f__law_nought := def_ok F.fn__law_nought.1 F.fn__law_nought.2 S__law_nought (fun _ _ _ _ _ _ us hl => match us, hl with | [], _ => rfl) (b__law_nought F)
/-! _law_axis -/
def d__law_axis : He.DefD := ⟨("_law_axis", none), "_law_axis", "_law_axis", defArgs (top 72), defBody (top 72), defScope (top 72), [], []⟩
abbrev N__law_axis : List Str := ["at", "k"]
abbrev cs__law_axis_0 : Scope := { kind := .function, names := [(".0", .local), ("k", .local), ("at", .free)], isGenerator := false, isCoroutine := false, more := [] }
theorem S__law_axis : FnScope N__law_axis ["at"] d__law_axis.scope := ⟨rfl, rfl, rfl, by decide +kernel, rfl, by decide +kernel, by decide +kernel⟩
theorem b__law_axis (F : Fc Γ) : Body Γ 0 N__law_axis d__law_axis m__law_axis := by
  intro f cd A outer s H E C
  exact (pdss_one (pds_ret (pd_callTy cd_tuple rfl F.free_tuple rfl (pda_cons (pd_lc (scope := cs__law_axis_0) (own := [("k", 1)]) (vs := [1]) C mk_lst (pid_r1 (pda_cons pd_int pda_nil) rfl F.free_range) rfl (by decide) (fun s1 H1 A1 l1 p1 => (pgd_name (i := 1) (x := "k") S__law_axis.nd rfl (.inl rfl) (.inr rfl))) (fun s1 H1 A1 l1 p1 => pdts_nil) (fun s1 H1 A1 l1 p1 => have v1_k := fun p : Pos => pd_var (X := ((bx Γ N__law_axis d__law_axis f cd A outer s H E).blk s1 H1 cs__law_axis_0 (compEnvC cs__law_axis_0 l1 A1 ((bx Γ N__law_axis d__law_axis f cd A outer s H E)).env) p1)) (E := DL.E0) (i := 1) (x := "k") (pos := p) rfl (.inl rfl); have v1_at := fun p : Pos => pd_var (X := ((bx Γ N__law_axis d__law_axis f cd A outer s H E).blk s1 H1 cs__law_axis_0 (compEnvC cs__law_axis_0 l1 A1 ((bx Γ N__law_axis d__law_axis f cd A outer s H E)).env) p1)) (E := DL.E0) (i := 0) (x := "at") (pos := p) rfl (.inr (.inl rfl)); (pd_tup (pda_cons (pd_if (pdt_cmp (opd_eq (blk_ctx C).eqU) (v1_k _) (v1_at _)) pd_int pd_int) (pda_cons pd_int pda_nil))))) pda_nil))))
theorem ok__law_axis (F : Fc Γ) : DefOk Γ 1 d__law_axis ["at"] f__law_axis := def_ok F.fn__law_axis.1 F.fn__law_axis.2 S__law_axis (fun _ _ _ _ _ _ us hl => match us, hl with | [_], _ => rfl) (b__law_axis F)
/-! _law_screws_plus -/
def d__law_screws_plus : He.DefD := ⟨("_law_screws_plus", none), "_law_screws_plus", "_law_screws_plus", defArgs (top 73), defBody (top 73), defScope (top 73), [], []⟩
abbrev N__law_screws_plus : List Str := ["one", "two"]
theorem S__law_screws_plus : FnScope N__law_screws_plus ["one", "two"] d__law_screws_plus.scope := ⟨rfl, rfl, rfl, by decide +kernel, rfl, by decide +kernel, by decide +kernel⟩
theorem b__law_screws_plus (F : Fc Γ) : Body Γ 4 N__law_screws_plus d__law_screws_plus m__law_screws_plus := by
  intro f cd A outer s H E C
  have v0_one := fun p : Pos => pd_var (X := (bx Γ N__law_screws_plus d__law_screws_plus f cd A outer s H E)) (E := E) (i := 0) (x := "one") (pos := p) rfl (.inl rfl)
  have v0_two := fun p : Pos => pd_var (X := (bx Γ N__law_screws_plus d__law_screws_plus f cd A outer s H E)) (E := E) (i := 1) (x := "two") (pos := p) rfl (.inl rfl)
  exact (pdss_one (pds_ret (pd_tup (pda_cons (pd_def C (ok__law_plus F) (by decide) rfl rfl (pda_cons (pd_ix (v0_one _) pd_int (fun _ _ => rfl)) (pda_cons (pd_ix (v0_two _) pd_int (fun _ _ => rfl)) pda_nil))) (pda_cons (pd_def C (ok__law_plus F) (by decide) rfl rfl (pda_cons (pd_ix (v0_one _) pd_int (fun _ _ => rfl)) (pda_cons (pd_ix (v0_two _) pd_int (fun _ _ => rfl)) pda_nil))) pda_nil)))))
theorem ok__law_screws_plus (F : Fc Γ) : DefOk Γ 5 d__law_screws_plus ["one", "two"] f__law_screws_plus := def_ok F.fn__law_screws_plus.1 F.fn__law_screws_plus.2 S__law_screws_plus (fun _ _ _ _ _ _ us hl => match us, hl with | [_, _], _ => rfl) (b__law_screws_plus F)
/-! _law_screw_times -/
def d__law_screw_times : He.DefD := ⟨("_law_screw_times", none), "_law_screw_times", "_law_screw_times", defArgs (top 74), defBody (top 74), defScope (top 74), [], []⟩
abbrev N__law_screw_times : List Str := ["one", "factor"]
theorem S__law_screw_times : FnScope N__law_screw_times ["one", "factor"] d__law_screw_times.scope := ⟨rfl, rfl, rfl, by decide +kernel, rfl, by decide +kernel, by decide +kernel⟩
theorem b__law_screw_times (F : Fc Γ) : Body Γ 4 N__law_screw_times d__law_screw_times m__law_screw_times := by
  intro f cd A outer s H E C
  have v0_one := fun p : Pos => pd_var (X := (bx Γ N__law_screw_times d__law_screw_times f cd A outer s H E)) (E := E) (i := 0) (x := "one") (pos := p) rfl (.inl rfl)
  have v0_factor := fun p : Pos => pd_var (X := (bx Γ N__law_screw_times d__law_screw_times f cd A outer s H E)) (E := E) (i := 1) (x := "factor") (pos := p) rfl (.inl rfl)
  exact (pdss_one (pds_ret (pd_tup (pda_cons (pd_def C (ok__law_times F) (by decide) rfl rfl (pda_cons (pd_ix (v0_one _) pd_int (fun _ _ => rfl)) (pda_cons (v0_factor _) pda_nil))) (pda_cons (pd_def C (ok__law_times F) (by decide) rfl rfl (pda_cons (pd_ix (v0_one _) pd_int (fun _ _ => rfl)) (pda_cons (v0_factor _) pda_nil))) pda_nil)))))
theorem ok__law_screw_times (F : Fc Γ) : DefOk Γ 5 d__law_screw_times ["one", "factor"] f__law_screw_times := def_ok F.fn__law_screw_times.1 F.fn__law_screw_times.2 S__law_screw_times (fun _ _ _ _ _ _ us hl => match us, hl with | [_, _], _ => rfl) (b__law_screw_times F)
/-! _law_line -/
def d__law_line : He.DefD := ⟨("_law_line", none), "_law_line", "_law_line", defArgs (top 75), defBody (top 75), defScope (top 75), [], []⟩
abbrev N__law_line : List Str := ["spot", "way"]
theorem S__law_line : FnScope N__law_line ["spot", "way"] d__law_line.scope := ⟨rfl, rfl, rfl, by decide +kernel, rfl, by decide +kernel, by decide +kernel⟩
theorem b__law_line (F : Fc Γ) : Body Γ 4 N__law_line d__law_line m__law_line := by
  intro f cd A outer s H E C
  have v0_spot := fun p : Pos => pd_var (X := (bx Γ N__law_line d__law_line f cd A outer s H E)) (E := E) (i := 0) (x := "spot") (pos := p) rfl (.inl rfl)
  have v0_way := fun p : Pos => pd_var (X := (bx Γ N__law_line d__law_line f cd A outer s H E)) (E := E) (i := 1) (x := "way") (pos := p) rfl (.inl rfl)
  exact (pdss_one (pds_ret (pd_tup (pda_cons (v0_way _) (pda_cons (pd_def C (ok__law_cross F) (by decide) rfl rfl (pda_cons (v0_spot _) (pda_cons (v0_way _) pda_nil))) pda_nil)))))
theorem ok__law_line (F : Fc Γ) : DefOk Γ 5 d__law_line ["spot", "way"] f__law_line := def_ok F.fn__law_line.1 F.fn__law_line.2 S__law_line (fun _ _ _ _ _ _ us hl => match us, hl with | [_, _], _ => rfl) (b__law_line F)
/-! _law_power -/
def d__law_power : He.DefD := ⟨("_law_power", none), "_law_power", "_law_power", defArgs (top 76), defBody (top 76), defScope (top 76), [], []⟩
abbrev N__law_power : List Str := ["one", "two"]
theorem S__law_power : FnScope N__law_power ["one", "two"] d__law_power.scope := ⟨rfl, rfl, rfl, by decide +kernel, rfl, by decide +kernel, by decide +kernel⟩
theorem b__law_power (F : Fc Γ) : Body Γ 4 N__law_power d__law_power m__law_power := by
  intro f cd A outer s H E C
  have v0_one := fun p : Pos => pd_var (X := (bx Γ N__law_power d__law_power f cd A outer s H E)) (E := E) (i := 0) (x := "one") (pos := p) rfl (.inl rfl)
  have v0_two := fun p : Pos => pd_var (X := (bx Γ N__law_power d__law_power f cd A outer s H E)) (E := E) (i := 1) (x := "two") (pos := p) rfl (.inl rfl)
  exact (pdss_one (pds_ret (pd_def C (ok__law_dot F) (by decide) rfl rfl (pda_cons (pd_op (opd_add mk_lst) (pd_ix (v0_one _) pd_int (fun _ _ => rfl)) (pd_ix (v0_one _) pd_int (fun _ _ => rfl))) (pda_cons (pd_op (opd_add mk_lst) (pd_ix (v0_two _) pd_int (fun _ _ => rfl)) (pd_ix (v0_two _) pd_int (fun _ _ => rfl))) pda_nil)))))
theorem ok__law_power (F : Fc Γ) : DefOk Γ 5 d__law_power ["one", "two"] f__law_power := def_ok F.fn__law_power.1 F.fn__law_power.2 S__law_power (fun _ _ _ _ _ _ us hl => match us, hl with | [_, _], _ => rfl) (b__law_power F)
/-! _law_speed -/
def d__law_speed : He.DefD := ⟨("_law_speed", none), "_law_speed", "_law_speed", defArgs (top 77), defBody (top 77), defScope (top 77), [], []⟩
abbrev N__law_speed : List Str := ["sway", "spot"]
theorem S__law_speed : FnScope N__law_speed ["sway", "spot"] d__law_speed.scope := ⟨rfl, rfl, rfl, by decide +kernel, rfl, by decide +kernel, by decide +kernel⟩
theorem b__law_speed (F : Fc Γ) : Body Γ 4 N__law_speed d__law_speed m__law_speed := by
  intro f cd A outer s H E C
  have v0_sway := fun p : Pos => pd_var (X := (bx Γ N__law_speed d__law_speed f cd A outer s H E)) (E := E) (i := 0) (x := "sway") (pos := p) rfl (.inl rfl)
  have v0_spot := fun p : Pos => pd_var (X := (bx Γ N__law_speed d__law_speed f cd A outer s H E)) (E := E) (i := 1) (x := "spot") (pos := p) rfl (.inl rfl)
  exact (pdss_one (pds_ret (pd_def C (ok__law_plus F) (by decide) rfl rfl (pda_cons (pd_ix (v0_sway _) pd_int (fun _ _ => rfl)) (pda_cons (pd_def C (ok__law_cross F) (by decide) rfl rfl (pda_cons (pd_ix (v0_sway _) pd_int (fun _ _ => rfl)) (pda_cons (v0_spot _) pda_nil))) pda_nil)))))
theorem ok__law_speed (F : Fc Γ) : DefOk Γ 5 d__law_speed ["sway", "spot"] f__law_speed := def_ok F.fn__law_speed.1 F.fn__law_speed.2 S__law_speed (fun _ _ _ _ _ _ us hl => match us, hl with | [_, _], _ => rfl) (b__law_speed F)
/-! _law_is_whole -/
def d__law_is_whole : He.DefD := ⟨("_law_is_whole", none), "_law_is_whole", "_law_is_whole", defArgs (top 78), defBody (top 78), defScope (top 78), [], []⟩
abbrev N__law_is_whole : List Str := ["value"]
theorem S__law_is_whole : FnScope N__law_is_whole ["value"] d__law_is_whole.scope := ⟨rfl, rfl, rfl, by decide +kernel, rfl, by decide +kernel, by decide +kernel⟩
theorem b__law_is_whole (F : Fc Γ) : Body Γ 0 N__law_is_whole d__law_is_whole m__law_is_whole := by
  intro f cd A outer s H E C
  have v0_value := fun p : Pos => pd_var (X := (bx Γ N__law_is_whole d__law_is_whole f cd A outer s H E)) (E := E) (i := 0) (x := "value") (pos := p) rfl (.inl rfl)
  exact (pdss_one (pds_ret (pd_and (pd_isi rfl F.free_isinstance rfl F.free_int rfl kit_int (v0_value _)) (pd_one (pd_not (pd_isi rfl F.free_isinstance rfl F.free_bool rfl kit_bool (v0_value _)))))))
theorem ok__law_is_whole (F : Fc Γ) : DefOk Γ 1 d__law_is_whole ["value"] f__law_is_whole := def_ok F.fn__law_is_whole.1 F.fn__law_is_whole.2 S__law_is_whole (fun _ _ _ _ _ _ us hl => match us, hl with | [_], _ => rfl) (b__law_is_whole F)
/-! _law_is_fraction -/
def d__law_is_fraction : He.DefD := ⟨("_law_is_fraction", none), "_law_is_fraction", "_law_is_fraction", defArgs (top 79), defBody (top 79), defScope (top 79), [], []⟩
abbrev N__law_is_fraction : List Str := ["value"]
theorem S__law_is_fraction : FnScope N__law_is_fraction ["value"] d__law_is_fraction.scope := ⟨rfl, rfl, rfl, by decide +kernel, rfl, by decide +kernel, by decide +kernel⟩
theorem b__law_is_fraction (F : Fc Γ) : Body Γ 1 N__law_is_fraction d__law_is_fraction m__law_is_fraction := by
  intro f cd A outer s H E C
  have v0_value := fun p : Pos => pd_var (X := (bx Γ N__law_is_fraction d__law_is_fraction f cd A outer s H E)) (E := E) (i := 0) (x := "value") (pos := p) rfl (.inl rfl)
  exact (pdss_cons (pds_if (pdt_w (pdw_or (pdt_not (pdt_val (pd_isi rfl F.free_isinstance rfl F.free_tuple rfl kit_tuple (v0_value _)))) (pdw_or1 (pdt_cmp (opd_ne C.eqU) (pd_callB cd_len rfl F.free_len rfl (pda_cons (v0_value _) pda_nil)) pd_int))))
 (pdss_one (pds_ret pd_bl))
 pdss_nil)
 (pdss_cons (pds_if (pdt_w (pdw_or (pdt_not (pdt_val (pd_def C (ok__law_is_whole F) (by decide) rfl rfl (pda_cons (pd_ix (v0_value _) pd_int (fun _ _ => rfl)) pda_nil)))) (pdw_or1 (pdt_not (pdt_val (pd_def C (ok__law_is_whole F) (by decide) rfl rfl (pda_cons (pd_ix (v0_value _) pd_int (fun _ _ => rfl)) pda_nil)))))))
 (pdss_one (pds_ret pd_bl))
 pdss_nil)
 (pdss_one (pds_ret (pd_and (pd_cmp opd_gt (pd_ix (v0_value _) pd_int (fun _ _ => rfl)) pd_int) (pd_one (pd_cmp (opd_eq C.eqU) (pd_def C (ok__law_gcd F) (by decide) rfl rfl (pda_cons (pd_ix (v0_value _) pd_int (fun _ _ => rfl)) (pda_cons (pd_ix (v0_value _) pd_int (fun _ _ => rfl)) pda_nil))) pd_int)))))))
theorem ok__law_is_fraction (F : Fc Γ) : DefOk Γ 2 d__law_is_fraction ["value"] f__law_is_fraction := def_ok F.fn__law_is_fraction.1 F.fn__law_is_fraction.2 S__law_is_fraction (fun _ _ _ _ _ _ us hl => match us, hl with | [_], _ => rfl) (b__law_is_fraction F)
/-! _law_are_fractions -/
def d__law_are_fractions : He.DefD := ⟨("_law_are_fractions", none), "_law_are_fractions", "_law_are_fractions", defArgs (top 80), defBody (top 80), defScope (top 80), [], []⟩
abbrev N__law_are_fractions : List Str := ["value", "many", "each"]
abbrev cs__law_are_fractions_0 : Scope := { kind := .function, names := [(".0", .local), ("each", .local), ("_law_is_fraction", .globalImplicit)], isGenerator := false, isCoroutine := false, more := [] }
theorem S__law_are_fractions : FnScope N__law_are_fractions ["value", "many"] d__law_are_fractions.scope := ⟨rfl, rfl, rfl, by decide +kernel, rfl, by decide +kernel, by decide +kernel⟩
theorem b__law_are_fractions (F : Fc Γ) : Body Γ 2 N__law_are_fractions d__law_are_fractions m__law_are_fractions := by
  intro f cd A outer s H E C
  have v0_value := fun p : Pos => pd_var (X := (bx Γ N__law_are_fractions d__law_are_fractions f cd A outer s H E)) (E := E) (i := 0) (x := "value") (pos := p) rfl (.inl rfl)
  have v0_many := fun p : Pos => pd_var (X := (bx Γ N__law_are_fractions d__law_are_fractions f cd A outer s H E)) (E := E) (i := 1) (x := "many") (pos := p) rfl (.inl rfl)
  exact (pdss_one (pds_ret (pd_and (pd_isi rfl F.free_isinstance rfl F.free_tuple rfl kit_tuple (v0_value _)) (pd_and (pd_cmp (opd_eq C.eqU) (pd_callB cd_len rfl F.free_len rfl (pda_cons (v0_value _) pda_nil)) (v0_many _)) (pd_one (pd_callB (cd_all C.calm) rfl F.free_all rfl (pda_cons (pd_lc (scope := cs__law_are_fractions_0) (own := [("each", 2)]) (vs := [2]) C mk_lst (pid_seq (v0_value _)) rfl (by decide) (fun s1 H1 A1 l1 p1 => (pgd_name (i := 2) (x := "each") S__law_are_fractions.nd rfl (.inl rfl) (.inr rfl))) (fun s1 H1 A1 l1 p1 => pdts_nil) (fun s1 H1 A1 l1 p1 => have v1_each := fun p : Pos => pd_var (X := ((bx Γ N__law_are_fractions d__law_are_fractions f cd A outer s H E).blk s1 H1 cs__law_are_fractions_0 (compEnvC cs__law_are_fractions_0 l1 A1 ((bx Γ N__law_are_fractions d__law_are_fractions f cd A outer s H E)).env) p1)) (E := DL.E0) (i := 2) (x := "each") (pos := p) rfl (.inl rfl); (pd_def (blk_ctx C) (ok__law_is_fraction F) (by decide) rfl rfl (pda_cons (v1_each _) pda_nil)))) pda_nil)))))))
theorem ok__law_are_fractions (F : Fc Γ) : DefOk Γ 3 d__law_are_fractions ["value", "many"] f__law_are_fractions := def_ok F.fn__law_are_fractions.1 F.fn__law_are_fractions.2 S__law_are_fractions (fun _ _ _ _ _ _ us hl => match us, hl with | [_, _], _ => rfl) (b__law_are_fractions F)
/-! _law_is_screw -/
def d__law_is_screw : He.DefD := ⟨("_law_is_screw", none), "_law_is_screw", "_law_is_screw", defArgs (top 81), defBody (top 81), defScope (top 81), [], []⟩
abbrev N__law_is_screw : List Str := ["value"]
theorem S__law_is_screw : FnScope N__law_is_screw ["value"] d__law_is_screw.scope := ⟨rfl, rfl, rfl, by decide +kernel, rfl, by decide +kernel, by decide +kernel⟩
theorem b__law_is_screw (F : Fc Γ) : Body Γ 3 N__law_is_screw d__law_is_screw m__law_is_screw := by
  intro f cd A outer s H E C
  have v0_value := fun p : Pos => pd_var (X := (bx Γ N__law_is_screw d__law_is_screw f cd A outer s H E)) (E := E) (i := 0) (x := "value") (pos := p) rfl (.inl rfl)
  exact (pdss_cons (pds_if (pdt_w (pdw_or (pdt_not (pdt_val (pd_isi rfl F.free_isinstance rfl F.free_tuple rfl kit_tuple (v0_value _)))) (pdw_or1 (pdt_cmp (opd_ne C.eqU) (pd_callB cd_len rfl F.free_len rfl (pda_cons (v0_value _) pda_nil)) pd_int))))
 (pdss_one (pds_ret pd_bl))
 pdss_nil)
 (pdss_one (pds_ret (pd_and (pd_def C (ok__law_are_fractions F) (by decide) rfl rfl (pda_cons (pd_ix (v0_value _) pd_int (fun _ _ => rfl)) (pda_cons pd_int pda_nil))) (pd_one (pd_def C (ok__law_are_fractions F) (by decide) rfl rfl (pda_cons (pd_ix (v0_value _) pd_int (fun _ _ => rfl)) (pda_cons pd_int pda_nil))))))))
theorem ok__law_is_screw (F : Fc Γ) : DefOk Γ 4 d__law_is_screw ["value"] f__law_is_screw := def_ok F.fn__law_is_screw.1 F.fn__law_is_screw.2 S__law_is_screw (fun _ _ _ _ _ _ us hl => match us, hl with | [_], _ => rfl) (b__law_is_screw F)
/-! _law_fraction -/
def d__law_fraction : He.DefD := ⟨("_law_fraction", none), "_law_fraction", "_law_fraction", defArgs (top 82), defBody (top 82), defScope (top 82), [], []⟩
abbrev N__law_fraction : List Str := ["well", "wide"]
theorem S__law_fraction : FnScope N__law_fraction ["well"] d__law_fraction.scope := ⟨rfl, rfl, rfl, by decide +kernel, rfl, by decide +kernel, by decide +kernel⟩
theorem b__law_fraction (F : Fc Γ) : Body Γ 2 N__law_fraction d__law_fraction m__law_fraction := by
  intro f cd A outer s H E C
  have v0_well := fun p : Pos => pd_var (X := (bx Γ N__law_fraction d__law_fraction f cd A outer s H E)) (E := E) (i := 0) (x := "well") (pos := p) rfl (.inl rfl)
  have v0_wide := fun p : Pos => pd_var (X := (bx Γ N__law_fraction d__law_fraction f cd A outer s H E)) (E := E) (i := 1) (x := "wide") (pos := p) rfl (.inl rfl)
  exact (pdss_cons (pds_set (i := 1) S__law_fraction.nd rfl (.inl rfl) (.inl rfl) (pd_def C (ok__law_pick F) (by decide) rfl rfl (pda_cons (v0_well _) (pda_cons (pd_lst mk_lst (pda_cons pd_int (pda_cons pd_int (pda_cons pd_int (pda_cons pd_int (pda_cons pd_int (pda_cons (pd_if (pdt_val (pd_ix (v0_well _) pd_int (fun _ _ => rfl))) pd_int pd_int) pda_nil))))))) pda_nil))))
 (pdss_one (pds_ret (pd_def C (ok__law_low F) (by decide) rfl rfl (pda_cons (pd_op opd_sub (pd_def C (ok__law_draw F) (by decide) rfl rfl (pda_cons (v0_well _) (pda_cons (pd_op (opd_add mk_lst) (pd_op (opd_mul mk_lst) pd_int (v0_wide _)) pd_int) pda_nil))) (v0_wide _)) (pda_cons (pd_def C (ok__law_pick F) (by decide) rfl rfl (pda_cons (v0_well _) (pda_cons (pd_lst mk_lst (pda_cons pd_int (pda_cons pd_int (pda_cons pd_int (pda_cons pd_int (pda_cons pd_int (pda_cons pd_int pda_nil))))))) pda_nil))) pda_nil))))))
theorem ok__law_fraction (F : Fc Γ) : DefOk Γ 3 d__law_fraction ["well"] f__law_fraction := def_ok F.fn__law_fraction.1 F.fn__law_fraction.2 S__law_fraction (fun _ _ _ _ _ _ us hl => match us, hl with | [_], _ => rfl) (b__law_fraction F)
/-! _law_amount -/
def d__law_amount : He.DefD := ⟨("_law_amount", none), "_law_amount", "_law_amount", defArgs (top 83), defBody (top 83), defScope (top 83), [], []⟩
abbrev N__law_amount : List Str := ["well", "wide"]
theorem S__law_amount : FnScope N__law_amount ["well"] d__law_amount.scope := ⟨rfl, rfl, rfl, by decide +kernel, rfl, by decide +kernel, by decide +kernel⟩
theorem b__law_amount (F : Fc Γ) : Body Γ 2 N__law_amount d__law_amount m__law_amount := by
  intro f cd A outer s H E C
  have v0_well := fun p : Pos => pd_var (X := (bx Γ N__law_amount d__law_amount f cd A outer s H E)) (E := E) (i := 0) (x := "well") (pos := p) rfl (.inl rfl)
  have v0_wide := fun p : Pos => pd_var (X := (bx Γ N__law_amount d__law_amount f cd A outer s H E)) (E := E) (i := 1) (x := "wide") (pos := p) rfl (.inl rfl)
  exact (pdss_cons (pds_set (i := 1) S__law_amount.nd rfl (.inl rfl) (.inl rfl) (pd_def C (ok__law_pick F) (by decide) rfl rfl (pda_cons (v0_well _) (pda_cons (pd_lst mk_lst (pda_cons pd_int (pda_cons pd_int (pda_cons pd_int (pda_cons (pd_if (pdt_val (pd_ix (v0_well _) pd_int (fun _ _ => rfl))) pd_int pd_int) pda_nil))))) pda_nil))))
 (pdss_one (pds_ret (pd_def C (ok__law_low F) (by decide) rfl rfl (pda_cons (pd_op (opd_add mk_lst) pd_int (pd_def C (ok__law_draw F) (by decide) rfl rfl (pda_cons (v0_well _) (pda_cons (v0_wide _) pda_nil)))) (pda_cons (pd_def C (ok__law_pick F) (by decide) rfl rfl (pda_cons (v0_well _) (pda_cons (pd_lst mk_lst (pda_cons pd_int (pda_cons pd_int (pda_cons pd_int (pda_cons pd_int (pda_cons pd_int pda_nil)))))) pda_nil))) pda_nil))))))
theorem ok__law_amount (F : Fc Γ) : DefOk Γ 3 d__law_amount ["well"] f__law_amount := def_ok F.fn__law_amount.1 F.fn__law_amount.2 S__law_amount (fun _ _ _ _ _ _ us hl => match us, hl with | [_], _ => rfl) (b__law_amount F)
/-! _law_spot -/
def d__law_spot : He.DefD := ⟨("_law_spot", none), "_law_spot", "_law_spot", defArgs (top 84), defBody (top 84), defScope (top 84), [], []⟩
abbrev N__law_spot : List Str := ["well", "wide", "under", "k"]
abbrev cs__law_spot_0 : Scope := { kind := .function, names := [(".0", .local), ("k", .local), ("_law_low", .globalImplicit), ("_law_draw", .globalImplicit), ("under", .free), ("well", .free), ("wide", .free)], isGenerator := false, isCoroutine := false, more := [] }
theorem S__law_spot : FnScope N__law_spot ["well"] d__law_spot.scope := ⟨rfl, rfl, rfl, by decide +kernel, rfl, by decide +kernel, by decide +kernel⟩
theorem b__law_spot (F : Fc Γ) : Body Γ 2 N__law_spot d__law_spot m__law_spot := by
  intro f cd A outer s H E C
  have v0_well := fun p : Pos => pd_var (X := (bx Γ N__law_spot d__law_spot f cd A outer s H E)) (E := E) (i := 0) (x := "well") (pos := p) rfl (.inr (.inl rfl))
  exact (pdss_cons (pds_asg (pd_tup (pda_cons (pd_def C (ok__law_pick F) (by decide) rfl rfl (pda_cons (v0_well _) (pda_cons (pd_lst mk_lst (pda_cons pd_int (pda_cons pd_int (pda_cons pd_int (pda_cons pd_int (pda_cons pd_int (pda_cons pd_int (pda_cons pd_int pda_nil)))))))) pda_nil))) (pda_cons (pd_def C (ok__law_pick F) (by decide) rfl rfl (pda_cons (v0_well _) (pda_cons (pd_lst mk_lst (pda_cons pd_int (pda_cons pd_int (pda_cons pd_int (pda_cons pd_int (pda_cons pd_int pda_nil)))))) pda_nil))) pda_nil))) (pgd_tup C.calm (pgds_cons (pgd_name (i := 1) (x := "wide") S__law_spot.nd rfl (.inr rfl) (.inl rfl)) (pgds_cons (pgd_name (i := 2) (x := "under") S__law_spot.nd rfl (.inr rfl) (.inl rfl)) pgds_nil))))
 (pdss_one (pds_ret (pd_callTy cd_tuple rfl F.free_tuple rfl (pda_cons (pd_lc (scope := cs__law_spot_0) (own := [("k", 3)]) (vs := [3]) C mk_lst (pid_r1 (pda_cons pd_int pda_nil) rfl F.free_range) rfl (by decide) (fun s1 H1 A1 l1 p1 => (pgd_name (i := 3) (x := "k") S__law_spot.nd rfl (.inl rfl) (.inr rfl))) (fun s1 H1 A1 l1 p1 => pdts_nil) (fun s1 H1 A1 l1 p1 => have v1_under := fun p : Pos => pd_var (X := ((bx Γ N__law_spot d__law_spot f cd A outer s H E).blk s1 H1 cs__law_spot_0 (compEnvC cs__law_spot_0 l1 A1 ((bx Γ N__law_spot d__law_spot f cd A outer s H E)).env) p1)) (E := DL.E0) (i := 2) (x := "under") (pos := p) rfl (.inr (.inl rfl)); have v1_well := fun p : Pos => pd_var (X := ((bx Γ N__law_spot d__law_spot f cd A outer s H E).blk s1 H1 cs__law_spot_0 (compEnvC cs__law_spot_0 l1 A1 ((bx Γ N__law_spot d__law_spot f cd A outer s H E)).env) p1)) (E := DL.E0) (i := 0) (x := "well") (pos := p) rfl (.inr (.inl rfl)); have v1_wide := fun p : Pos => pd_var (X := ((bx Γ N__law_spot d__law_spot f cd A outer s H E).blk s1 H1 cs__law_spot_0 (compEnvC cs__law_spot_0 l1 A1 ((bx Γ N__law_spot d__law_spot f cd A outer s H E)).env) p1)) (E := DL.E0) (i := 1) (x := "wide") (pos := p) rfl (.inr (.inl rfl)); (pd_def (blk_ctx C) (ok__law_low F) (by decide) rfl rfl (pda_cons (pd_op opd_sub (pd_def (blk_ctx C) (ok__law_draw F) (by decide) rfl rfl (pda_cons (v1_well _) (pda_cons (pd_op (opd_add mk_lst) (pd_op (opd_mul mk_lst) pd_int (v1_wide _)) pd_int) pda_nil))) (v1_wide _)) (pda_cons (v1_under _) pda_nil))))) pda_nil)))))
theorem ok__law_spot (F : Fc Γ) : DefOk Γ 3 d__law_spot ["well"] f__law_spot := def_ok F.fn__law_spot.1 F.fn__law_spot.2 S__law_spot (fun _ _ _ _ _ _ us hl => match us, hl with | [_], _ => rfl) (b__law_spot F)
/-! _law_way -/
def d__law_way : He.DefD := ⟨("_law_way", none), "_law_way", "_law_way", defArgs (top 85), defBody (top 85), defScope (top 85), [], []⟩
abbrev N__law_way : List Str := ["well", "found"]
theorem S__law_way : FnScope N__law_way ["well"] d__law_way.scope := ⟨rfl, rfl, rfl, by decide +kernel, rfl, by decide +kernel, by decide +kernel⟩
theorem b__law_way (F : Fc Γ) : Body Γ 3 N__law_way d__law_way m__law_way := by
  intro f cd A outer s H E C
  have v0_well := fun p : Pos => pd_var (X := (bx Γ N__law_way d__law_way f cd A outer s H E)) (E := E) (i := 0) (x := "well") (pos := p) rfl (.inl rfl)
  have v0_found := fun p : Pos => pd_var (X := (bx Γ N__law_way d__law_way f cd A outer s H E)) (E := E) (i := 1) (x := "found") (pos := p) rfl (.inl rfl)
  exact (pdss_cons (pds_set (i := 1) S__law_way.nd rfl (.inl rfl) (.inl rfl) (pd_def C (ok__law_spot F) (by decide) rfl rfl (pda_cons (v0_well _) pda_nil)))
 (pdss_one (pds_ret (pd_if (pdt_cmp (opd_ne C.eqU) (v0_found _) (pd_def0 C (ok__law_nought F) (by decide) rfl rfl)) (v0_found _) (pd_def C (ok__law_axis F) (by decide) rfl rfl (pda_cons (pd_def C (ok__law_draw F) (by decide) rfl rfl (pda_cons (v0_well _) (pda_cons pd_int pda_nil))) pda_nil))))))
theorem ok__law_way (F : Fc Γ) : DefOk Γ 4 d__law_way ["well"] f__law_way := def_ok F.fn__law_way.1 F.fn__law_way.2 S__law_way (fun _ _ _ _ _ _ us hl => match us, hl with | [_], _ => rfl) (b__law_way F)
/-! _law_other_way -/
def d__law_other_way : He.DefD := ⟨("_law_other_way", none), "_law_other_way", "_law_other_way", defArgs (top 86), defBody (top 86), defScope (top 86), [], []⟩
abbrev N__law_other_way : List Str := ["well", "way", "found", "at"]
theorem S__law_other_way : FnScope N__law_other_way ["well", "way"] d__law_other_way.scope := ⟨rfl, rfl, rfl, by decide +kernel, rfl, by decide +kernel, by decide +kernel⟩
theorem b__law_other_way (F : Fc Γ) : Body Γ 4 N__law_other_way d__law_other_way m__law_other_way := by
  intro f cd A outer s H E C
  have v0_well := fun p : Pos => pd_var (X := (bx Γ N__law_other_way d__law_other_way f cd A outer s H E)) (E := E) (i := 0) (x := "well") (pos := p) rfl (.inl rfl)
  have v0_way := fun p : Pos => pd_var (X := (bx Γ N__law_other_way d__law_other_way f cd A outer s H E)) (E := E) (i := 1) (x := "way") (pos := p) rfl (.inl rfl)
  have v0_found := fun p : Pos => pd_var (X := (bx Γ N__law_other_way d__law_other_way f cd A outer s H E)) (E := E) (i := 2) (x := "found") (pos := p) rfl (.inl rfl)
  have v0_at := fun p : Pos => pd_var (X := (bx Γ N__law_other_way d__law_other_way f cd A outer s H E)) (E := E) (i := 3) (x := "at") (pos := p) rfl (.inl rfl)
  exact (pdss_cons (pds_set (i := 2) S__law_other_way.nd rfl (.inl rfl) (.inl rfl) (pd_def C (ok__law_way F) (by decide) rfl rfl (pda_cons (v0_well _) pda_nil)))
 (pdss_cons (pds_for C (pid_r1 (pda_cons pd_int pda_nil) rfl F.free_range) (pgd_name (i := 3) (x := "at") S__law_other_way.nd rfl (.inl rfl) (.inl rfl))
 (pdss_one (pds_if (pdt_cmp (opd_eq C.eqU) (pd_def C (ok__law_cross F) (by decide) rfl rfl (pda_cons (v0_found _) (pda_cons (v0_way _) pda_nil))) (pd_def0 C (ok__law_nought F) (by decide) rfl rfl))
 (pdss_one (pds_set (i := 2) S__law_other_way.nd rfl (.inl rfl) (.inl rfl) (pd_def C (ok__law_axis F) (by decide) rfl rfl (pda_cons (v0_at _) pda_nil))))
 pdss_nil)))
 (pdss_one (pds_ret (v0_found _)))))
theorem ok__law_other_way (F : Fc Γ) : DefOk Γ 5 d__law_other_way ["well", "way"] f__law_other_way := def_ok F.fn__law_other_way.1 F.fn__law_other_way.2 S__law_other_way (fun _ _ _ _ _ _ us hl => match us, hl with | [_, _], _ => rfl) (b__law_other_way F)
/-! _law_screw -/
def d__law_screw : He.DefD := ⟨("_law_screw", none), "_law_screw", "_law_screw", defArgs (top 87), defBody (top 87), defScope (top 87), [], []⟩
abbrev N__law_screw : List Str := ["well", "sort"]
theorem S__law_screw : FnScope N__law_screw ["well"] d__law_screw.scope := ⟨rfl, rfl, rfl, by decide +kernel, rfl, by decide +kernel, by decide +kernel⟩
theorem b__law_screw (F : Fc Γ) : Body Γ 5 N__law_screw d__law_screw m__law_screw := by
  intro f cd A outer s H E C
  have v0_well := fun p : Pos => pd_var (X := (bx Γ N__law_screw d__law_screw f cd A outer s H E)) (E := E) (i := 0) (x := "well") (pos := p) rfl (.inl rfl)
  have v0_sort := fun p : Pos => pd_var (X := (bx Γ N__law_screw d__law_screw f cd A outer s H E)) (E := E) (i := 1) (x := "sort") (pos := p) rfl (.inl rfl)
  exact (pdss_cons (pds_set (i := 1) S__law_screw.nd rfl (.inl rfl) (.inl rfl) (pd_def C (ok__law_draw F) (by decide) rfl rfl (pda_cons (v0_well _) (pda_cons pd_int pda_nil))))
 (pdss_cons (pds_if (pdt_cmp (opd_eq C.eqU) (v0_sort _) pd_int)
 (pdss_one (pds_ret (pd_tup (pda_cons (pd_def0 C (ok__law_nought F) (by decide) rfl rfl) (pda_cons (pd_def C (ok__law_spot F) (by decide) rfl rfl (pda_cons (v0_well _) pda_nil)) pda_nil)))))
 pdss_nil)
 (pdss_cons (pds_if (pdt_cmp (opd_eq C.eqU) (v0_sort _) pd_int)
 (pdss_one (pds_ret (pd_def C (ok__law_line F) (by decide) rfl rfl (pda_cons (pd_def C (ok__law_spot F) (by decide) rfl rfl (pda_cons (v0_well _) pda_nil)) (pda_cons (pd_def C (ok__law_way F) (by decide) rfl rfl (pda_cons (v0_well _) pda_nil)) pda_nil)))))
 pdss_nil)
 (pdss_one (pds_ret (pd_tup (pda_cons (pd_def C (ok__law_spot F) (by decide) rfl rfl (pda_cons (v0_well _) pda_nil)) (pda_cons (pd_def C (ok__law_spot F) (by decide) rfl rfl (pda_cons (v0_well _) pda_nil)) pda_nil))))))))
theorem ok__law_screw (F : Fc Γ) : DefOk Γ 6 d__law_screw ["well"] f__law_screw := def_ok F.fn__law_screw.1 F.fn__law_screw.2 S__law_screw (fun _ _ _ _ _ _ us hl => match us, hl with | [_], _ => rfl) (b__law_screw F)
/-! _law_turn -/
def d__law_turn : He.DefD := ⟨("_law_turn", none), "_law_turn", "_law_turn", defArgs (top 88), defBody (top 88), defScope (top 88), [], []⟩
abbrev N__law_turn : List Str := ["well", "some", "common", "head", "k", "each"]
abbrev cs__law_turn_0 : Scope := { kind := .function, names := [(".0", .local), ("k", .local), ("_law_draw", .globalImplicit), ("well", .free)], isGenerator := false, isCoroutine := false, more := [] }
abbrev cs__law_turn_1 : Scope := { kind := .function, names := [(".0", .local), ("each", .local)], isGenerator := false, isCoroutine := false, more := [] }
abbrev cs__law_turn_2 : Scope := { kind := .function, names := [(".0", .local), ("each", .local), ("common", .free), ("head", .free)], isGenerator := false, isCoroutine := false, more := [] }
theorem S__law_turn : FnScope N__law_turn ["well"] d__law_turn.scope := ⟨rfl, rfl, rfl, by decide +kernel, rfl, by decide +kernel, by decide +kernel⟩
theorem b__law_turn (F : Fc Γ) : Body Γ 1 N__law_turn d__law_turn m__law_turn := by
  intro f cd A outer s H E C
  have v0_some := fun p : Pos => pd_var (X := (bx Γ N__law_turn d__law_turn f cd A outer s H E)) (E := E) (i := 1) (x := "some") (pos := p) rfl (.inl rfl)
  exact (pdss_cons (pds_setLc (i := 1) (scope := cs__law_turn_0) (own := [("k", 4)]) (vs := [4]) C rfl rfl rfl mk_lst (pid_r1 (pda_cons pd_int pda_nil) rfl F.free_range) rfl (by decide) (fun s1 H1 A1 l1 p1 => (pgd_name (i := 4) (x := "k") S__law_turn.nd rfl (.inl rfl) (.inr rfl))) (fun s1 H1 A1 l1 p1 => pdts_nil) (fun s1 H1 A1 l1 p1 => have v1_well := fun p : Pos => pd_var (X := ((bx Γ N__law_turn d__law_turn f cd A outer s H E).blk s1 H1 cs__law_turn_0 (compEnvC cs__law_turn_0 l1 A1 ((bx Γ N__law_turn d__law_turn f cd A outer s H E)).env) p1)) (E := DL.E0) (i := 0) (x := "well") (pos := p) rfl (.inr (.inl rfl)); (pd_op opd_sub (pd_def (blk_ctx C) (ok__law_draw F) (by decide) rfl rfl (pda_cons (v1_well _) (pda_cons pd_int pda_nil))) pd_int)))
 (pdss_cons (pds_set (i := 1) S__law_turn.nd rfl (.inl rfl) (.inl rfl) (pd_if (pdt_cmp (opd_ne C.eqU) (v0_some _) (pd_lst mk_lst (pda_cons pd_int (pda_cons pd_int (pda_cons pd_int (pda_cons pd_int pda_nil)))))) (v0_some _) (pd_lst mk_lst (pda_cons pd_int (pda_cons pd_int (pda_cons pd_int (pda_cons pd_int pda_nil)))))))
 (pdss_cons (pds_set (i := 2) S__law_turn.nd rfl (.inr rfl) (.inl rfl) (pd_def C (ok__law_gcd F) (by decide) rfl rfl (pda_cons (pd_def C (ok__law_gcd F) (by decide) rfl rfl (pda_cons (pd_ix (v0_some _) pd_int (fun _ _ => rfl)) (pda_cons (pd_ix (v0_some _) pd_int (fun _ _ => rfl)) pda_nil))) (pda_cons (pd_def C (ok__law_gcd F) (by decide) rfl rfl (pda_cons (pd_ix (v0_some _) pd_int (fun _ _ => rfl)) (pda_cons (pd_ix (v0_some _) pd_int (fun _ _ => rfl)) pda_nil))) pda_nil))))
 (pdss_cons (pds_set (i := 3) S__law_turn.nd rfl (.inr rfl) (.inl rfl) (pd_ix (pd_lc (scope := cs__law_turn_1) (own := [("each", 5)]) (vs := [5]) C mk_lst (pid_seq (v0_some _)) rfl (by decide) (fun s1 H1 A1 l1 p1 => (pgd_name (i := 5) (x := "each") S__law_turn.nd rfl (.inl rfl) (.inr rfl))) (fun s1 H1 A1 l1 p1 => have v1_each := fun p : Pos => pd_var (X := ((bx Γ N__law_turn d__law_turn f cd A outer s H E).blk s1 H1 cs__law_turn_1 (compEnvC cs__law_turn_1 l1 A1 ((bx Γ N__law_turn d__law_turn f cd A outer s H E)).env) p1)) (E := DL.E0) (i := 5) (x := "each") (pos := p) rfl (.inl rfl); (pdts_one (pdt_cmp (opd_ne (blk_ctx C).eqU) (v1_each _) pd_int))) (fun s1 H1 A1 l1 p1 => have v1_each := fun p : Pos => pd_var (X := ((bx Γ N__law_turn d__law_turn f cd A outer s H E).blk s1 H1 cs__law_turn_1 (compEnvC cs__law_turn_1 l1 A1 ((bx Γ N__law_turn d__law_turn f cd A outer s H E)).env) p1)) (E := DL.E0) (i := 5) (x := "each") (pos := p) rfl (.inl rfl); (v1_each _))) pd_int (fun _ _ => rfl)))
 (pdss_one (pds_ret (pd_callTy cd_tuple rfl F.free_tuple rfl (pda_cons (pd_lc (scope := cs__law_turn_2) (own := [("each", 5)]) (vs := [5]) C mk_lst (pid_seq (v0_some _)) rfl (by decide) (fun s1 H1 A1 l1 p1 => (pgd_name (i := 5) (x := "each") S__law_turn.nd rfl (.inl rfl) (.inr rfl))) (fun s1 H1 A1 l1 p1 => pdts_nil) (fun s1 H1 A1 l1 p1 => have v1_each := fun p : Pos => pd_var (X := ((bx Γ N__law_turn d__law_turn f cd A outer s H E).blk s1 H1 cs__law_turn_2 (compEnvC cs__law_turn_2 l1 A1 ((bx Γ N__law_turn d__law_turn f cd A outer s H E)).env) p1)) (E := DL.E0) (i := 5) (x := "each") (pos := p) rfl (.inl rfl); have v1_common := fun p : Pos => pd_var (X := ((bx Γ N__law_turn d__law_turn f cd A outer s H E).blk s1 H1 cs__law_turn_2 (compEnvC cs__law_turn_2 l1 A1 ((bx Γ N__law_turn d__law_turn f cd A outer s H E)).env) p1)) (E := DL.E0) (i := 2) (x := "common") (pos := p) rfl (.inr (.inl rfl)); have v1_head := fun p : Pos => pd_var (X := ((bx Γ N__law_turn d__law_turn f cd A outer s H E).blk s1 H1 cs__law_turn_2 (compEnvC cs__law_turn_2 l1 A1 ((bx Γ N__law_turn d__law_turn f cd A outer s H E)).env) p1)) (E := DL.E0) (i := 3) (x := "head") (pos := p) rfl (.inr (.inl rfl)); (pd_op opd_fdiv (v1_each _) (pd_if (pdt_cmp opd_gt (v1_head _) pd_int) (v1_common _) (pd_op opd_sub pd_int (v1_common _)))))) pda_nil))))))))
theorem ok__law_turn (F : Fc Γ) : DefOk Γ 2 d__law_turn ["well"] f__law_turn := def_ok F.fn__law_turn.1 F.fn__law_turn.2 S__law_turn (fun _ _ _ _ _ _ us hl => match us, hl with | [_], _ => rfl) (b__law_turn F)
/-! _law_turned -/
def d__law_turned : He.DefD := ⟨("_law_turned", none), "_law_turned", "_law_turned", defArgs (top 89), defBody (top 89), defScope (top 89), [], []⟩
abbrev N__law_turned : List Str := ["turning", "spot", "w", "ways", "square", "found", "each"]
abbrev cs__law_turned_0 : Scope := { kind := .function, names := [(".0", .local), ("each", .local)], isGenerator := false, isCoroutine := false, more := [] }
theorem S__law_turned : FnScope N__law_turned ["turning", "spot"] d__law_turned.scope := ⟨rfl, rfl, rfl, by decide +kernel, rfl, by decide +kernel, by decide +kernel⟩
theorem b__law_turned (F : Fc Γ) : Body Γ 4 N__law_turned d__law_turned m__law_turned := by
  intro f cd A outer s H E C
  have v0_turning := fun p : Pos => pd_var (X := (bx Γ N__law_turned d__law_turned f cd A outer s H E)) (E := E) (i := 0) (x := "turning") (pos := p) rfl (.inl rfl)
  have v0_spot := fun p : Pos => pd_var (X := (bx Γ N__law_turned d__law_turned f cd A outer s H E)) (E := E) (i := 1) (x := "spot") (pos := p) rfl (.inl rfl)
  have v0_w := fun p : Pos => pd_var (X := (bx Γ N__law_turned d__law_turned f cd A outer s H E)) (E := E) (i := 2) (x := "w") (pos := p) rfl (.inl rfl)
  have v0_ways := fun p : Pos => pd_var (X := (bx Γ N__law_turned d__law_turned f cd A outer s H E)) (E := E) (i := 3) (x := "ways") (pos := p) rfl (.inl rfl)
  have v0_square := fun p : Pos => pd_var (X := (bx Γ N__law_turned d__law_turned f cd A outer s H E)) (E := E) (i := 4) (x := "square") (pos := p) rfl (.inl rfl)
  have v0_found := fun p : Pos => pd_var (X := (bx Γ N__law_turned d__law_turned f cd A outer s H E)) (E := E) (i := 5) (x := "found") (pos := p) rfl (.inl rfl)
  exact (pdss_cons (pds_par2 (i := 2) (j := 3) C.calm S__law_turned.nd rfl rfl (by decide) rfl rfl (pda_cons (pd_tup (pda_cons (pd_ix (v0_turning _) pd_int (fun _ _ => rfl)) (pda_cons pd_int pda_nil))) (pda_cons (pd_callTy cd_tuple rfl F.free_tuple rfl (pda_cons (pd_lc (scope := cs__law_turned_0) (own := [("each", 6)]) (vs := [6]) C mk_lst (pid_seq (pd_sl mk_lst (v0_turning _) (pdo_some pd_int) pdo_none)) rfl (by decide) (fun s1 H1 A1 l1 p1 => (pgd_name (i := 6) (x := "each") S__law_turned.nd rfl (.inl rfl) (.inr rfl))) (fun s1 H1 A1 l1 p1 => pdts_nil) (fun s1 H1 A1 l1 p1 => have v1_each := fun p : Pos => pd_var (X := ((bx Γ N__law_turned d__law_turned f cd A outer s H E).blk s1 H1 cs__law_turned_0 (compEnvC cs__law_turned_0 l1 A1 ((bx Γ N__law_turned d__law_turned f cd A outer s H E)).env) p1)) (E := DL.E0) (i := 6) (x := "each") (pos := p) rfl (.inl rfl); (pd_tup (pda_cons (v1_each _) (pda_cons pd_int pda_nil))))) pda_nil)) pda_nil)) rfl)
 (pdss_cons (pds_set (i := 4) S__law_turned.nd rfl (.inl rfl) (.inl rfl) (pd_def C (ok__law_dot F) (by decide) rfl rfl (pda_cons (v0_ways _) (pda_cons (v0_ways _) pda_nil))))
 (pdss_cons (pds_set (i := 5) S__law_turned.nd rfl (.inl rfl) (.inl rfl) (pd_def C (ok__law_times F) (by decide) rfl rfl (pda_cons (v0_spot _) (pda_cons (pd_def C (ok__law_add F) (by decide) rfl rfl (pda_cons (pd_def C (ok__law_mul F) (by decide) rfl rfl (pda_cons (v0_w _) (pda_cons (v0_w _) pda_nil))) (pda_cons (pd_tup (pda_cons (pd_op opd_sub pd_int (pd_ix (v0_square _) pd_int (fun _ _ => rfl))) (pda_cons (pd_ix (v0_square _) pd_int (fun _ _ => rfl)) pda_nil))) pda_nil))) pda_nil))))
 (pdss_cons (pds_set (i := 5) S__law_turned.nd rfl (.inl rfl) (.inl rfl) (pd_def C (ok__law_plus F) (by decide) rfl rfl (pda_cons (v0_found _) (pda_cons (pd_def C (ok__law_times F) (by decide) rfl rfl (pda_cons (v0_ways _) (pda_cons (pd_def C (ok__law_mul F) (by decide) rfl rfl (pda_cons (pd_tup (pda_cons pd_int (pda_cons pd_int pda_nil))) (pda_cons (pd_def C (ok__law_dot F) (by decide) rfl rfl (pda_cons (v0_ways _) (pda_cons (v0_spot _) pda_nil))) pda_nil))) pda_nil))) pda_nil))))
 (pdss_cons (pds_set (i := 5) S__law_turned.nd rfl (.inl rfl) (.inl rfl) (pd_def C (ok__law_plus F) (by decide) rfl rfl (pda_cons (v0_found _) (pda_cons (pd_def C (ok__law_times F) (by decide) rfl rfl (pda_cons (pd_def C (ok__law_cross F) (by decide) rfl rfl (pda_cons (v0_ways _) (pda_cons (v0_spot _) pda_nil))) (pda_cons (pd_def C (ok__law_mul F) (by decide) rfl rfl (pda_cons (pd_tup (pda_cons pd_int (pda_cons pd_int pda_nil))) (pda_cons (v0_w _) pda_nil))) pda_nil))) pda_nil))))
 (pdss_one (pds_ret (pd_def C (ok__law_times F) (by decide) rfl rfl (pda_cons (v0_found _) (pda_cons (pd_def C (ok__law_over F) (by decide) rfl rfl (pda_cons (pd_tup (pda_cons pd_int (pda_cons pd_int pda_nil))) (pda_cons (pd_def C (ok__law_add F) (by decide) rfl rfl (pda_cons (pd_def C (ok__law_mul F) (by decide) rfl rfl (pda_cons (v0_w _) (pda_cons (v0_w _) pda_nil))) (pda_cons (v0_square _) pda_nil))) pda_nil))) pda_nil))))))))))
theorem ok__law_turned (F : Fc Γ) : DefOk Γ 5 d__law_turned ["turning", "spot"] f__law_turned := def_ok F.fn__law_turned.1 F.fn__law_turned.2 S__law_turned (fun _ _ _ _ _ _ us hl => match us, hl with | [_, _], _ => rfl) (b__law_turned F)
/-! _law_placed -/
def d__law_placed : He.DefD := ⟨("_law_placed", none), "_law_placed", "_law_placed", defArgs (top 90), defBody (top 90), defScope (top 90), [], []⟩
abbrev N__law_placed : List Str := ["place", "spot"]
theorem S__law_placed : FnScope N__law_placed ["place", "spot"] d__law_placed.scope := ⟨rfl, rfl, rfl, by decide +kernel, rfl, by decide +kernel, by decide +kernel⟩
theorem b__law_placed (F : Fc Γ) : Body Γ 5 N__law_placed d__law_placed m__law_placed := by
  intro f cd A outer s H E C
  have v0_place := fun p : Pos => pd_var (X := (bx Γ N__law_placed d__law_placed f cd A outer s H E)) (E := E) (i := 0) (x := "place") (pos := p) rfl (.inl rfl)
  have v0_spot := fun p : Pos => pd_var (X := (bx Γ N__law_placed d__law_placed f cd A outer s H E)) (E := E) (i := 1) (x := "spot") (pos := p) rfl (.inl rfl)
  exact (pdss_one (pds_ret (pd_def C (ok__law_plus F) (by decide) rfl rfl (pda_cons (pd_def C (ok__law_turned F) (by decide) rfl rfl (pda_cons (pd_ix (v0_place _) pd_int (fun _ _ => rfl)) (pda_cons (v0_spot _) pda_nil))) (pda_cons (pd_ix (v0_place _) pd_int (fun _ _ => rfl)) pda_nil)))))
theorem ok__law_placed (F : Fc Γ) : DefOk Γ 6 d__law_placed ["place", "spot"] f__law_placed := def_ok F.fn__law_placed.1 F.fn__law_placed.2 S__law_placed (fun _ _ _ _ _ _ us hl => match us, hl with | [_, _], _ => rfl) (b__law_placed F)
/-! _law_led -/
def d__law_led : He.DefD := ⟨("_law_led", none), "_law_led", "_law_led", defArgs (top 91), defBody (top 91), defScope (top 91), [], []⟩
abbrev N__law_led : List Str := ["place", "screw", "line"]
theorem S__law_led : FnScope N__law_led ["place", "screw"] d__law_led.scope := ⟨rfl, rfl, rfl, by decide +kernel, rfl, by decide +kernel, by decide +kernel⟩
theorem b__law_led (F : Fc Γ) : Body Γ 5 N__law_led d__law_led m__law_led := by
  intro f cd A outer s H E C
  have v0_place := fun p : Pos => pd_var (X := (bx Γ N__law_led d__law_led f cd A outer s H E)) (E := E) (i := 0) (x := "place") (pos := p) rfl (.inl rfl)
  have v0_screw := fun p : Pos => pd_var (X := (bx Γ N__law_led d__law_led f cd A outer s H E)) (E := E) (i := 1) (x := "screw") (pos := p) rfl (.inl rfl)
  have v0_line := fun p : Pos => pd_var (X := (bx Γ N__law_led d__law_led f cd A outer s H E)) (E := E) (i := 2) (x := "line") (pos := p) rfl (.inl rfl)
  exact (pdss_cons (pds_set (i := 2) S__law_led.nd rfl (.inl rfl) (.inl rfl) (pd_def C (ok__law_turned F) (by decide) rfl rfl (pda_cons (pd_ix (v0_place _) pd_int (fun _ _ => rfl)) (pda_cons (pd_ix (v0_screw _) pd_int (fun _ _ => rfl)) pda_nil))))
 (pdss_one (pds_ret (pd_tup (pda_cons (v0_line _) (pda_cons (pd_def C (ok__law_plus F) (by decide) rfl rfl (pda_cons (pd_def C (ok__law_turned F) (by decide) rfl rfl (pda_cons (pd_ix (v0_place _) pd_int (fun _ _ => rfl)) (pda_cons (pd_ix (v0_screw _) pd_int (fun _ _ => rfl)) pda_nil))) (pda_cons (pd_def C (ok__law_cross F) (by decide) rfl rfl (pda_cons (pd_ix (v0_place _) pd_int (fun _ _ => rfl)) (pda_cons (v0_line _) pda_nil))) pda_nil))) pda_nil))))))
theorem ok__law_led (F : Fc Γ) : DefOk Γ 6 d__law_led ["place", "screw"] f__law_led := def_ok F.fn__law_led.1 F.fn__law_led.2 S__law_led (fun _ _ _ _ _ _ us hl => match us, hl with | [_, _], _ => rfl) (b__law_led F)
/-! _law_body -/
def d__law_body : He.DefD := ⟨("_law_body", none), "_law_body", "_law_body", defArgs (top 92), defBody (top 92), defScope (top 92), [], []⟩
abbrev N__law_body : List Str := ["well", "most", "spot", "way", "spots", "k", "cut", "each"]
abbrev cs__law_body_0 : Scope := { kind := .function, names := [(".0", .local), ("each", .local), ("_law_amount", .globalImplicit), ("well", .free)], isGenerator := false, isCoroutine := false, more := [] }
theorem S__law_body : FnScope N__law_body ["well", "most"] d__law_body.scope := ⟨rfl, rfl, rfl, by decide +kernel, rfl, by decide +kernel, by decide +kernel⟩
theorem b__law_body (F : Fc Γ) : Body Γ 5 N__law_body d__law_body m__law_body := by
  intro f cd A outer s H E C
  have v0_well := fun p : Pos => pd_var (X := (bx Γ N__law_body d__law_body f cd A outer s H E)) (E := E) (i := 0) (x := "well") (pos := p) rfl (.inr (.inl rfl))
  have v0_most := fun p : Pos => pd_var (X := (bx Γ N__law_body d__law_body f cd A outer s H E)) (E := E) (i := 1) (x := "most") (pos := p) rfl (.inl rfl)
  have v0_spot := fun p : Pos => pd_var (X := (bx Γ N__law_body d__law_body f cd A outer s H E)) (E := E) (i := 2) (x := "spot") (pos := p) rfl (.inl rfl)
  have v0_way := fun p : Pos => pd_var (X := (bx Γ N__law_body d__law_body f cd A outer s H E)) (E := E) (i := 3) (x := "way") (pos := p) rfl (.inl rfl)
  have v0_spots := fun p : Pos => pd_var (X := (bx Γ N__law_body d__law_body f cd A outer s H E)) (E := E) (i := 4) (x := "spots") (pos := p) rfl (.inl rfl)
  have v0_cut := fun p : Pos => pd_var (X := (bx Γ N__law_body d__law_body f cd A outer s H E)) (E := E) (i := 6) (x := "cut") (pos := p) rfl (.inl rfl)
  exact (pdss_cons (pds_par2 (i := 2) (j := 3) C.calm S__law_body.nd rfl rfl (by decide) rfl rfl (pda_cons (pd_def C (ok__law_spot F) (by decide) rfl rfl (pda_cons (v0_well _) pda_nil)) (pda_cons (pd_def C (ok__law_way F) (by decide) rfl rfl (pda_cons (v0_well _) pda_nil)) pda_nil)) rfl)
 (pdss_cons (pds_set (i := 4) S__law_body.nd rfl (.inl rfl) (.inl rfl) (pd_lst mk_loc (pda_cons (v0_spot _) (pda_cons (pd_def C (ok__law_plus F) (by decide) rfl rfl (pda_cons (v0_spot _) (pda_cons (v0_way _) pda_nil))) (pda_cons (pd_def C (ok__law_plus F) (by decide) rfl rfl (pda_cons (v0_spot _) (pda_cons (pd_def C (ok__law_other_way F) (by decide) rfl rfl (pda_cons (v0_well _) (pda_cons (v0_way _) pda_nil))) pda_nil))) pda_nil)))))
 (pdss_cons (pds_for C (pid_r1 (pda_cons (pd_def C (ok__law_draw F) (by decide) rfl rfl (pda_cons (v0_well _) (pda_cons (pd_op opd_sub (v0_most _) pd_int) pda_nil))) pda_nil) rfl F.free_range) (pgd_name (i := 5) (x := "k") S__law_body.nd rfl (.inl rfl) (.inl rfl))
 (pdss_one (pds_app (v0_spots _) (pd_if (pdt_cmp (opd_eq C.eqU) (pd_def C (ok__law_draw F) (by decide) rfl rfl (pda_cons (v0_well _) (pda_cons pd_int pda_nil))) pd_int) (pd_def C (ok__law_pick F) (by decide) rfl rfl (pda_cons (v0_well _) (pda_cons (v0_spots _) pda_nil))) (pd_def C (ok__law_spot F) (by decide) rfl rfl (pda_cons (v0_well _) pda_nil))))))
 (pdss_cons (pds_set (i := 6) S__law_body.nd rfl (.inl rfl) (.inl rfl) (pd_def C (ok__law_draw F) (by decide) rfl rfl (pda_cons (v0_well _) (pda_cons (pd_callB cd_len rfl F.free_len rfl (pda_cons (v0_spots _) pda_nil)) pda_nil))))
 (pdss_one (pds_ret (pd_callTy cd_tuple rfl F.free_tuple rfl (pda_cons (pd_lc (scope := cs__law_body_0) (own := [("each", 7)]) (vs := [7]) C mk_lst (pid_seq (pd_op (opd_add mk_lst) (pd_sl mk_lst (v0_spots _) (pdo_some (v0_cut _)) pdo_none) (pd_sl mk_lst (v0_spots _) pdo_none (pdo_some (v0_cut _))))) rfl (by decide) (fun s1 H1 A1 l1 p1 => (pgd_name (i := 7) (x := "each") S__law_body.nd rfl (.inl rfl) (.inr rfl))) (fun s1 H1 A1 l1 p1 => pdts_nil) (fun s1 H1 A1 l1 p1 => have v1_each := fun p : Pos => pd_var (X := ((bx Γ N__law_body d__law_body f cd A outer s H E).blk s1 H1 cs__law_body_0 (compEnvC cs__law_body_0 l1 A1 ((bx Γ N__law_body d__law_body f cd A outer s H E)).env) p1)) (E := DL.E0) (i := 7) (x := "each") (pos := p) rfl (.inl rfl); have v1_well := fun p : Pos => pd_var (X := ((bx Γ N__law_body d__law_body f cd A outer s H E).blk s1 H1 cs__law_body_0 (compEnvC cs__law_body_0 l1 A1 ((bx Γ N__law_body d__law_body f cd A outer s H E)).env) p1)) (E := DL.E0) (i := 0) (x := "well") (pos := p) rfl (.inr (.inl rfl)); (pd_tup (pda_cons (v1_each _) (pda_cons (pd_def (blk_ctx C) (ok__law_amount F) (by decide) rfl rfl (pda_cons (v1_well _) pda_nil)) pda_nil))))) pda_nil))))))))
theorem ok__law_body (F : Fc Γ) : DefOk Γ 6 d__law_body ["well", "most"] f__law_body := def_ok F.fn__law_body.1 F.fn__law_body.2 S__law_body (fun _ _ _ _ _ _ us hl => match us, hl with | [_, _], _ => rfl) (b__law_body F)
/-! _law_momentum -/
def d__law_momentum : He.DefD := ⟨("_law_momentum", none), "_law_momentum", "_law_momentum", defArgs (top 93), defBody (top 93), defScope (top 93), [], []⟩
abbrev N__law_momentum : List Str := ["bulk", "sway", "found", "spot", "mass"]
theorem S__law_momentum : FnScope N__law_momentum ["bulk", "sway"] d__law_momentum.scope := ⟨rfl, rfl, rfl, by decide +kernel, rfl, by decide +kernel, by decide +kernel⟩
theorem b__law_momentum (F : Fc Γ) : Body Γ 5 N__law_momentum d__law_momentum m__law_momentum := by
  intro f cd A outer s H E C
  have v0_bulk := fun p : Pos => pd_var (X := (bx Γ N__law_momentum d__law_momentum f cd A outer s H E)) (E := E) (i := 0) (x := "bulk") (pos := p) rfl (.inl rfl)
  have v0_sway := fun p : Pos => pd_var (X := (bx Γ N__law_momentum d__law_momentum f cd A outer s H E)) (E := E) (i := 1) (x := "sway") (pos := p) rfl (.inl rfl)
  have v0_found := fun p : Pos => pd_var (X := (bx Γ N__law_momentum d__law_momentum f cd A outer s H E)) (E := E) (i := 2) (x := "found") (pos := p) rfl (.inl rfl)
  have v0_spot := fun p : Pos => pd_var (X := (bx Γ N__law_momentum d__law_momentum f cd A outer s H E)) (E := E) (i := 3) (x := "spot") (pos := p) rfl (.inl rfl)
  have v0_mass := fun p : Pos => pd_var (X := (bx Γ N__law_momentum d__law_momentum f cd A outer s H E)) (E := E) (i := 4) (x := "mass") (pos := p) rfl (.inl rfl)
  exact (pdss_cons (pds_set (i := 2) S__law_momentum.nd rfl (.inl rfl) (.inl rfl) (pd_tup (pda_cons (pd_def0 C (ok__law_nought F) (by decide) rfl rfl) (pda_cons (pd_def0 C (ok__law_nought F) (by decide) rfl rfl) pda_nil))))
 (pdss_cons (pds_for C (pid_seq (v0_bulk _)) (pgd_tup C.calm (pgds_cons (pgd_name (i := 3) (x := "spot") S__law_momentum.nd rfl (.inl rfl) (.inl rfl)) (pgds_cons (pgd_name (i := 4) (x := "mass") S__law_momentum.nd rfl (.inl rfl) (.inl rfl)) pgds_nil)))
 (pdss_one (pds_set (i := 2) S__law_momentum.nd rfl (.inl rfl) (.inl rfl) (pd_def C (ok__law_screws_plus F) (by decide) rfl rfl (pda_cons (v0_found _) (pda_cons (pd_def C (ok__law_line F) (by decide) rfl rfl (pda_cons (v0_spot _) (pda_cons (pd_def C (ok__law_times F) (by decide) rfl rfl (pda_cons (pd_def C (ok__law_speed F) (by decide) rfl rfl (pda_cons (v0_sway _) (pda_cons (v0_spot _) pda_nil))) (pda_cons (v0_mass _) pda_nil))) pda_nil))) pda_nil))))))
 (pdss_one (pds_ret (v0_found _)))))
theorem ok__law_momentum (F : Fc Γ) : DefOk Γ 6 d__law_momentum ["bulk", "sway"] f__law_momentum := def_ok F.fn__law_momentum.1 F.fn__law_momentum.2 S__law_momentum (fun _ _ _ _ _ _ us hl => match us, hl with | [_, _], _ => rfl) (b__law_momentum F)
theorem ok_g_blown_0_blow_body : GOk 0 2 2 @g_blown_0_blow_body := by
  refine ⟨fun {β xs ys} h1 h2 => match xs, ys, h1, h2 with | [], [w0, w1], _, _ => rfl, fun {vs zs us ws} h1 h2 => ?_, fun {K H α M vs zs ds es} h1 h2 => ?_⟩
  ·
    cases h1 with
    | nil =>
      cases h2 with
      | nil =>
        exact .nil
      | cons w0 h2 =>
        cases h2 with
        | nil =>
          exact .nil
        | cons w1 h2 =>
          cases h2 with
          | nil =>
            exact (.cons w1 (.cons w0 .nil))
          | cons _ _ => exact .nil
    | cons _ _ => exact .nil
  ·
    cases h1 with
    | nil =>
      cases h2 with
      | nil =>
        exact .nil
      | cons w0 h2 =>
        cases h2 with
        | nil =>
          exact .nil
        | cons w1 h2 =>
          cases h2 with
          | nil =>
            exact (.cons w1 (.cons w0 .nil))
          | cons _ _ => exact .nil
    | cons _ _ => exact .nil
/-! _law_right -/
def d__law_right : He.DefD := ⟨("_law_right", none), "_law_right", "_law_right", defArgs (top 94), defBody (top 94), defScope (top 94), [], []⟩
abbrev N__law_right : List Str := ["well", "bulk", "sway", "knock", "push", "told", "factor", "both", "place", "placed", "each"]
abbrev cs__law_right_0 : Scope := { kind := .function, names := [(".0", .local), ("each", .local), ("_law_placed", .globalImplicit), ("place", .free)], isGenerator := false, isCoroutine := false, more := [] }
theorem S__law_right : FnScope N__law_right ["well"] d__law_right.scope := ⟨rfl, rfl, rfl, by decide +kernel, rfl, by decide +kernel, by decide +kernel⟩
theorem b__law_right (F : Fc Γ) : Body Γ 10 N__law_right d__law_right m__law_right := by
  intro f cd A outer s H E C
  have v0_well := fun p : Pos => pd_var (X := (bx Γ N__law_right d__law_right f cd A outer s H E)) (E := E) (i := 0) (x := "well") (pos := p) rfl (.inl rfl)
  have v0_bulk := fun p : Pos => pd_var (X := (bx Γ N__law_right d__law_right f cd A outer s H E)) (E := E) (i := 1) (x := "bulk") (pos := p) rfl (.inl rfl)
  have v0_sway := fun p : Pos => pd_var (X := (bx Γ N__law_right d__law_right f cd A outer s H E)) (E := E) (i := 2) (x := "sway") (pos := p) rfl (.inl rfl)
  have v0_knock := fun p : Pos => pd_var (X := (bx Γ N__law_right d__law_right f cd A outer s H E)) (E := E) (i := 3) (x := "knock") (pos := p) rfl (.inl rfl)
  have v0_push := fun p : Pos => pd_var (X := (bx Γ N__law_right d__law_right f cd A outer s H E)) (E := E) (i := 4) (x := "push") (pos := p) rfl (.inl rfl)
  have v0_told := fun p : Pos => pd_var (X := (bx Γ N__law_right d__law_right f cd A outer s H E)) (E := E) (i := 5) (x := "told") (pos := p) rfl (.inl rfl)
  have v0_factor := fun p : Pos => pd_var (X := (bx Γ N__law_right d__law_right f cd A outer s H E)) (E := E) (i := 6) (x := "factor") (pos := p) rfl (.inl rfl)
  have v0_both := fun p : Pos => pd_var (X := (bx Γ N__law_right d__law_right f cd A outer s H E)) (E := E) (i := 7) (x := "both") (pos := p) rfl (.inl rfl)
  have v0_place := fun p : Pos => pd_var (X := (bx Γ N__law_right d__law_right f cd A outer s H E)) (E := E) (i := 8) (x := "place") (pos := p) rfl (.inr (.inl rfl))
  have v0_placed := fun p : Pos => pd_var (X := (bx Γ N__law_right d__law_right f cd A outer s H E)) (E := E) (i := 9) (x := "placed") (pos := p) rfl (.inl rfl)
  exact (pdss_cons (pds_par3 (i := 1) (j := 2) (l := 3) C.calm S__law_right.nd rfl rfl rfl (by decide) (by decide) (by decide) rfl rfl rfl (pda_cons (pd_def C (ok__law_body F) (by decide) rfl rfl (pda_cons (v0_well _) (pda_cons pd_int pda_nil))) (pda_cons (pd_def C (ok__law_screw F) (by decide) rfl rfl (pda_cons (v0_well _) pda_nil)) (pda_cons (pd_def C (ok__law_screw F) (by decide) rfl rfl (pda_cons (v0_well _) pda_nil)) pda_nil))) rfl)
 (pdss_cons (pds_set (i := 4) S__law_right.nd rfl (.inl rfl) (.inl rfl) (pd_def C (ok__law_momentum F) (by decide) rfl rfl (pda_cons (v0_bulk _) (pda_cons (v0_sway _) pda_nil))))
 (pdss_cons (pds_if (pdt_cmp (opd_ne C.eqU) (pd_callB (cd_repr C.grd C.eqU) rfl F.free_repr rfl (pda_cons (pd_lst mk_lst (pda_cons (pd_def C (ok_blown F) (by decide) rfl rfl (pda_cons (v0_bulk _) (pda_cons (v0_push _) pda_nil))) (pda_cons (pd_defK0 (ks := ["blow", "body"]) (g := @g_blown_0_blow_body) C (ok_blown F) (by decide) rfl rfl ok_g_blown_0_blow_body (fun _ _ _ _ _ _ us ws h1 h2 => match us, ws, h1, h2 with | [], [w0, w1], _, _ => rfl) (pdk_cons (v0_push _) (pdk_cons (v0_bulk _) pdk_nil))) pda_nil))) pda_nil)) (pd_callB (cd_repr C.grd C.eqU) rfl F.free_repr rfl (pda_cons (pd_lst mk_lst (pda_cons (v0_sway _) (pda_cons (v0_sway _) pda_nil))) pda_nil)))
 (pdss_one (pds_ret pd_bl))
 pdss_nil)
 (pdss_cons (pds_set (i := 5) S__law_right.nd rfl (.inl rfl) (.inl rfl) (pd_def C (ok_blown F) (by decide) rfl rfl (pda_cons (v0_bulk _) (pda_cons (v0_knock _) pda_nil))))
 (pdss_cons (pds_if (pdt_w (pdw_or (pdt_not (pdt_val (pd_def C (ok__law_is_screw F) (by decide) rfl rfl (pda_cons (v0_told _) pda_nil)))) (pdw_or1 (pdt_cmp (opd_ne C.eqU) (pd_def C (ok__law_momentum F) (by decide) rfl rfl (pda_cons (v0_bulk _) (pda_cons (v0_told _) pda_nil))) (v0_knock _)))))
 (pdss_one (pds_ret pd_bl))
 pdss_nil)
 (pdss_cons (pds_if (pdt_cmp (opd_ne C.eqU) (pd_callB (cd_repr C.grd C.eqU) rfl F.free_repr rfl (pda_cons (pd_def C (ok_energy F) (by decide) rfl rfl (pda_cons (v0_bulk _) (pda_cons (v0_told _) pda_nil))) pda_nil)) (pd_callB (cd_repr C.grd C.eqU) rfl F.free_repr rfl (pda_cons (pd_def C (ok__law_power F) (by decide) rfl rfl (pda_cons (v0_knock _) (pda_cons (v0_told _) pda_nil))) pda_nil)))
 (pdss_one (pds_ret pd_bl))
 pdss_nil)
 (pdss_cons (pds_set (i := 6) S__law_right.nd rfl (.inl rfl) (.inl rfl) (pd_def C (ok__law_fraction F) (by decide) rfl rfl (pda_cons (v0_well _) pda_nil)))
 (pdss_cons (pds_set (i := 7) S__law_right.nd rfl (.inl rfl) (.inl rfl) (pd_def C (ok__law_screws_plus F) (by decide) rfl rfl (pda_cons (pd_def C (ok__law_screw_times F) (by decide) rfl rfl (pda_cons (v0_knock _) (pda_cons (v0_factor _) pda_nil))) (pda_cons (v0_push _) pda_nil))))
 (pdss_cons (pds_if (pdt_cmp (opd_ne C.eqU) (pd_callB (cd_repr C.grd C.eqU) rfl F.free_repr rfl (pda_cons (pd_def C (ok_blown F) (by decide) rfl rfl (pda_cons (v0_bulk _) (pda_cons (v0_both _) pda_nil))) pda_nil)) (pd_callB (cd_repr C.grd C.eqU) rfl F.free_repr rfl (pda_cons (pd_def C (ok__law_screws_plus F) (by decide) rfl rfl (pda_cons (pd_def C (ok__law_screw_times F) (by decide) rfl rfl (pda_cons (v0_told _) (pda_cons (v0_factor _) pda_nil))) (pda_cons (v0_sway _) pda_nil))) pda_nil)))
 (pdss_one (pds_ret pd_bl))
 pdss_nil)
 (pdss_cons (pds_set (i := 8) S__law_right.nd rfl (.inr rfl) (.inl rfl) (pd_tup (pda_cons (pd_def C (ok__law_turn F) (by decide) rfl rfl (pda_cons (v0_well _) pda_nil)) (pda_cons (pd_def C (ok__law_spot F) (by decide) rfl rfl (pda_cons (v0_well _) pda_nil)) pda_nil))))
 (pdss_cons (pds_set (i := 9) S__law_right.nd rfl (.inl rfl) (.inl rfl) (pd_callTy cd_tuple rfl F.free_tuple rfl (pda_cons (pd_lc (scope := cs__law_right_0) (own := [("each", 10)]) (vs := [10]) C mk_lst (pid_seq (v0_bulk _)) rfl (by decide) (fun s1 H1 A1 l1 p1 => (pgd_name (i := 10) (x := "each") S__law_right.nd rfl (.inl rfl) (.inr rfl))) (fun s1 H1 A1 l1 p1 => pdts_nil) (fun s1 H1 A1 l1 p1 => have v1_each := fun p : Pos => pd_var (X := ((bx Γ N__law_right d__law_right f cd A outer s H E).blk s1 H1 cs__law_right_0 (compEnvC cs__law_right_0 l1 A1 ((bx Γ N__law_right d__law_right f cd A outer s H E)).env) p1)) (E := DL.E0) (i := 10) (x := "each") (pos := p) rfl (.inl rfl); have v1_place := fun p : Pos => pd_var (X := ((bx Γ N__law_right d__law_right f cd A outer s H E).blk s1 H1 cs__law_right_0 (compEnvC cs__law_right_0 l1 A1 ((bx Γ N__law_right d__law_right f cd A outer s H E)).env) p1)) (E := DL.E0) (i := 8) (x := "place") (pos := p) rfl (.inr (.inl rfl)); (pd_tup (pda_cons (pd_def (blk_ctx C) (ok__law_placed F) (by decide) rfl rfl (pda_cons (v1_place _) (pda_cons (pd_ix (v1_each _) pd_int (fun _ _ => rfl)) pda_nil))) (pda_cons (pd_ix (v1_each _) pd_int (fun _ _ => rfl)) pda_nil))))) pda_nil)))
 (pdss_cons (pds_if (pdt_cmp (opd_ne C.eqU) (pd_callB (cd_repr C.grd C.eqU) rfl F.free_repr rfl (pda_cons (pd_def C (ok_blown F) (by decide) rfl rfl (pda_cons (v0_placed _) (pda_cons (pd_def C (ok__law_led F) (by decide) rfl rfl (pda_cons (v0_place _) (pda_cons (v0_knock _) pda_nil))) pda_nil))) pda_nil)) (pd_callB (cd_repr C.grd C.eqU) rfl F.free_repr rfl (pda_cons (pd_def C (ok__law_led F) (by decide) rfl rfl (pda_cons (v0_place _) (pda_cons (v0_told _) pda_nil))) pda_nil)))
 (pdss_one (pds_ret pd_bl))
 pdss_nil)
 (pdss_one (pds_ret (pd_and (pd_cmp (opd_eq C.eqU) (pd_callB (cd_repr C.grd C.eqU) rfl F.free_repr rfl (pda_cons (pd_def C (ok_blown F) (by decide) rfl rfl (pda_cons (pd_rev mk_lst (v0_bulk _)) (pda_cons (v0_knock _) pda_nil))) pda_nil)) (pd_callB (cd_repr C.grd C.eqU) rfl F.free_repr rfl (pda_cons (v0_told _) pda_nil))) (pd_one (pd_cmp (opd_eq C.eqU) (pd_callB (cd_repr C.grd C.eqU) rfl F.free_repr rfl (pda_cons (pd_def C (ok_blown F) (by decide) rfl rfl (pda_cons (v0_bulk _) (pda_cons (v0_knock _) pda_nil))) pda_nil)) (pd_callB (cd_repr C.grd C.eqU) rfl F.free_repr rfl (pda_cons (v0_told _) pda_nil)))))))))))))))))))
theorem ok__law_right (F : Fc Γ) : DefOk Γ 11 d__law_right ["well"] f__law_right := def_ok F.fn__law_right.1 F.fn__law_right.2 S__law_right (fun _ _ _ _ _ _ us hl => match us, hl with | [_], _ => rfl) (b__law_right F)
/-! law -/
def d_law : He.DefD := ⟨("law", none), "law", "law", defArgs (top 95), defBody (top 95), defScope (top 95), [], []⟩
abbrev N_law : List Str := ["script", "turn"]
abbrev cs_law_0 : Scope := { kind := .function, names := [(".0", .local), ("turn", .local), ("_law_right", .globalImplicit), ("_law_well", .globalImplicit), ("script", .free)], isGenerator := false, isCoroutine := false, more := [] }
theorem S_law : FnScope N_law ["script"] d_law.scope := ⟨rfl, rfl, rfl, by decide +kernel, rfl, by decide +kernel, by decide +kernel⟩
theorem b_law (F : Fc Γ) : Body Γ 11 N_law d_law m_law := by
  intro f cd A outer s H E C
  have v0_script := fun p : Pos => pd_var (X := (bx Γ N_law d_law f cd A outer s H E)) (E := E) (i := 0) (x := "script") (pos := p) rfl (.inr (.inl rfl))
  exact (pdss_one (pds_ret (pd_callB (cd_all C.calm) rfl F.free_all rfl (pda_cons (pd_lc (scope := cs_law_0) (own := [("turn", 1)]) (vs := [1]) C mk_lst (pid_r1 (pda_cons (pd_callB (cd_max C.calm) rfl F.free_max rfl (pda_cons pd_int (pda_cons (pd_callB (cd_min C.calm) rfl F.free_min rfl (pda_cons (pd_callB cd_len rfl F.free_len rfl (pda_cons (v0_script _) pda_nil)) (pda_cons pd_int pda_nil))) pda_nil))) pda_nil) rfl F.free_range) rfl (by decide) (fun s1 H1 A1 l1 p1 => (pgd_name (i := 1) (x := "turn") S_law.nd rfl (.inl rfl) (.inr rfl))) (fun s1 H1 A1 l1 p1 => pdts_nil) (fun s1 H1 A1 l1 p1 => have v1_turn := fun p : Pos => pd_var (X := ((bx Γ N_law d_law f cd A outer s H E).blk s1 H1 cs_law_0 (compEnvC cs_law_0 l1 A1 ((bx Γ N_law d_law f cd A outer s H E)).env) p1)) (E := DL.E0) (i := 1) (x := "turn") (pos := p) rfl (.inl rfl); have v1_script := fun p : Pos => pd_var (X := ((bx Γ N_law d_law f cd A outer s H E).blk s1 H1 cs_law_0 (compEnvC cs_law_0 l1 A1 ((bx Γ N_law d_law f cd A outer s H E)).env) p1)) (E := DL.E0) (i := 0) (x := "script") (pos := p) rfl (.inr (.inl rfl)); (pd_def (blk_ctx C) (ok__law_right F) (by decide) rfl rfl (pda_cons (pd_def (blk_ctx C) (ok__law_well F) (by decide) rfl rfl (pda_cons (v1_script _) (pda_cons (v1_turn _) pda_nil))) pda_nil)))) pda_nil))))
theorem ok_law (F : Fc Γ) : DefOk Γ 12 d_law ["script"] f_law := def_ok F.fn_law.1 F.fn_law.2 S_law (fun _ _ _ _ _ _ us hl => match us, hl with | [_], _ => rfl) (b_law F)
end G86

set_option Elab.async false
set_option linter.all false
set_option maxRecDepth 100000
set_option maxHeartbeats 0
namespace G86
open PySem PySem.Spec PyProof.Rows L2 DL
abbrev R : PySem.W.OpenRow := PySem.W.OpenLaw.row PySem.Challenge.rw_bodypushes_k86_whole_free_bodies
def fn : List He.DefD := [d_is_whole, d_common_part, d_lowest, d_lowest_over, d_ratio, d_plus, d_minus, d_times, d_total, d_over_one, d_is_fraction, d_are_fractions, d_is_triple, d_summed, d_lessened, d_scaled, d_dot_of, d_crossed, d_is_screw, d_check_screw, d_sum_of, d_times_of, d_weighed_screws, d_powered, d_moment_by, d_lowest_row, d_whole_row, d_first_place, d_cleared, d_stairs_of, d_shares_for, d_is_mass, d_are_on_line, d_wrong_mass, d_check_body, d_momentum_by, d_kept_by, d_energy, d_blown, d__law_well, d__law_draw, d__law_pick, d__law_gcd, d__law_low, d__law_add, d__law_mul, d__law_over, d__law_total, d__law_dot, d__law_cross, d__law_plus, d__law_times, d__law_nought, d__law_axis, d__law_screws_plus, d__law_screw_times, d__law_line, d__law_power, d__law_speed, d__law_is_whole, d__law_is_fraction, d__law_are_fractions, d__law_is_screw, d__law_fraction, d__law_amount, d__law_spot, d__law_way, d__law_other_way, d__law_screw, d__law_turn, d__law_turned, d__law_placed, d__law_led, d__law_body, d__law_momentum, d__law_right, d_law]
def fa : List He.Fa := [.glo "is_whole", .glo "common_part", .glo "lowest", .glo "lowest_over", .glo "ratio", .glo "plus", .glo "minus", .glo "times", .glo "total", .glo "over_one", .glo "is_fraction", .glo "are_fractions", .glo "is_triple", .glo "summed", .glo "lessened", .glo "scaled", .glo "dot_of", .glo "crossed", .glo "is_screw", .glo "check_screw", .glo "sum_of", .glo "times_of", .glo "weighed_screws", .glo "powered", .glo "moment_by", .glo "lowest_row", .glo "whole_row", .glo "first_place", .glo "cleared", .glo "stairs_of", .glo "shares_for", .glo "is_mass", .glo "are_on_line", .glo "wrong_mass", .glo "check_body", .glo "momentum_by", .glo "kept_by", .glo "energy", .glo "blown", .glo "_law_well", .glo "_law_draw", .glo "_law_pick", .glo "_law_gcd", .glo "_law_low", .glo "_law_add", .glo "_law_mul", .glo "_law_over", .glo "_law_total", .glo "_law_dot", .glo "_law_cross", .glo "_law_plus", .glo "_law_times", .glo "_law_nought", .glo "_law_axis", .glo "_law_screws_plus", .glo "_law_screw_times", .glo "_law_line", .glo "_law_power", .glo "_law_speed", .glo "_law_is_whole", .glo "_law_is_fraction", .glo "_law_are_fractions", .glo "_law_is_screw", .glo "_law_fraction", .glo "_law_amount", .glo "_law_spot", .glo "_law_way", .glo "_law_other_way", .glo "_law_screw", .glo "_law_turn", .glo "_law_turned", .glo "_law_placed", .glo "_law_led", .glo "_law_body", .glo "_law_momentum", .glo "_law_right", .glo "law", .free "abs", .free "all", .free "bool", .free "enumerate", .free "int", .free "isinstance", .free "len", .free "list", .free "max", .free "min", .free "range", .free "repr", .free "sorted", .free "sum", .free "tuple", .free "zip"]
def ex (K : PySem.W.Frag) : Bool := cstB K "LEAST_MASSES" c_LEAST_MASSES && (cstB K "MOST_MASSES" c_MOST_MASSES && (cstB K "NOUGHT_TRIPLE" c_NOUGHT_TRIPLE && (cstB K "NOUGHT_fracs" c_NOUGHT_fracs && (cstB K "NOUGHT_screws" c_NOUGHT_screws && (cstB K "UNITS" c_UNITS && (bltB K "combinations" (.type "itertools.combinations") && (bltB K "gcd" (.builtin "math.gcd") && (bltB K "lcm" (.builtin "math.lcm")))))))))
/-- a tuple's elements -/
def tk (g : Addr → Option Obj) (a : Addr) : List Addr := match g a with
  | some o => (match o.cls with
    | .type c => if c = "tuple" then He.refsD o else []
    | _ => [])
  | none => []
def deeper (g : Addr → Option Obj) : Nat → List Addr → List Addr
  | 0, _ => []
  | n + 1, as => (fun b => b ++ deeper g n b) ((as.flatMap (tk g)).eraseDups)
def places (g : Addr → Option Obj) : List Addr := (fun as => as ++ deeper g 2 as) (He.asD g 2)
def seen (g : Addr → Option Obj) : He.AlX := (fun K => (He.obsT fa fn [] K, ex K)) (He.frT g (places g))
theorem says_of {h : Heap} {w : World} (e : seen h.get? = He.valX fn [] w) : He.SaysX fa fn [] [] ex w h (He.frT h.get? (places h.get?)) := by
  obtain ⟨e1, e2⟩ := Prod.mk.inj e
  exact { t := e1, more := e2, hd := fun _ z => (by cases z), out := fun _ z => (by cases z), empty := fun _ z => (by cases z) }
abbrev hk : PySem.W.Hook where
  α := He.AlX
  obs s := seen s.heap.get?
  val w := He.valX fn [] w
  says w h := ∃ K, PySem.W.Frag.In K h ∧ He.SaysX fa fn [] [] ex w h K
  of _ _ e := ⟨_, He.frT_in, says_of e⟩
  keeps := by
    rintro _ _ _ ⟨K, i, c⟩ k
    exact ⟨K, i.keeps k, { t := c.t, more := c.more, hd := c.hd, out := c.out, empty := fun _ z => (by cases z) }⟩
def ob (s : PySem.W.SharedT) : He.AlX := seen (HandSHeadRun.getT s)
theorem ob_eq (s : PySem.W.SharedT) : ob s = hk.obs s.abs := congrArg seen (funext fun a => HandSHeadRun.getT_eq s a)
def loose0 : List PySem.Str := ["ScrewError", "InvalidScrew", "InvalidBody", "is_whole", "common_part", "lowest", "lowest_over", "ratio", "NOUGHT_fracs", "plus", "minus", "times", "total", "over_one", "NOUGHT_TRIPLE", "is_fraction", "are_fractions", "is_triple", "summed", "lessened", "scaled", "dot_of", "crossed", "NOUGHT_screws", "is_screw", "check_screw", "sum_of", "times_of", "weighed_screws", "powered"]
def loose1 : List PySem.Str := ["moment_by", "lowest_row", "whole_row", "first_place", "cleared", "stairs_of", "shares_for", "LEAST_MASSES", "MOST_MASSES", "UNITS", "is_mass", "are_on_line", "wrong_mass", "check_body", "momentum_by", "kept_by", "energy", "blown", "_law_well", "_law_draw", "_law_pick", "_law_gcd", "_law_low", "_law_add", "_law_mul", "_law_over", "_law_total", "_law_dot", "_law_cross", "_law_plus"]
def loose2 : List PySem.Str := ["_law_times", "_law_nought", "_law_axis", "_law_screws_plus", "_law_screw_times", "_law_line", "_law_power", "_law_speed", "_law_is_whole", "_law_is_fraction", "_law_are_fractions", "_law_is_screw", "_law_fraction", "_law_amount", "_law_spot", "_law_way", "_law_other_way", "_law_screw", "_law_turn", "_law_turned", "_law_placed", "_law_led", "_law_body", "_law_momentum", "_law_right"]
def loose : List PySem.Str := loose0 ++ loose1 ++ loose2
abbrev qv : Program := PySem.W.view R.prog [0, 1, 95]
section
open HandSHeadRun PySem.W PySem.Calls
noncomputable abbrev whole (w : World) := HandSHeadRun.wholeF (fun p => stepQ (denQ tabQ) p w) HandSHeadRun.fenceQ 20000 R.prog
theorem runA (w : World) : (whole w).map (fun x => (HandSHeadRun.looksF R.prog x.1.heap x.2.abs, HandSHeadRun.seenQ qv loose (importedModules R.prog.main.body) (fun s => xlAt qv [] s && recOk R.toRowW.records s) x.2.abs)) = some (true, openGood qv loose) := by
  kernel_rfl
theorem runC (w : World) : (whole w).map (fun x => ob x.2) = some (hk.val w) := by
  kernel_rfl
theorem run (w : World) : HandSHeadRun.RunEqI R qv hk ob 20000 loose w := by
  have a := runA w
  have c := runC w
  show (whole w).map _ = _
  generalize whole w = z at *
  cases z with
  | none => cases a
  | some x =>
    obtain ⟨a, b⟩ := Prod.mk.inj (Option.some.inj a)
    have c := Option.some.inj c
    exact congrArg some (Prod.ext a (Prod.ext b c))
end
theorem fc_of {P : Program} {w : World} {K : PySem.W.Frag} {h base : Heap} {mg : Str → Option Value} (X : K.In h) (G : h.Ns mainGlobals mg) (c : He.SaysX fa fn [] [] ex w h K) : Fc ⟨P, w, K, mg, base⟩ := by
  have ct := c.t.d
  have m0 : ex K = true := c.more
  unfold ex at m0
  obtain ⟨e0, m1⟩ := and2 m0
  obtain ⟨e1, m2⟩ := and2 m1
  obtain ⟨e2, m3⟩ := and2 m2
  obtain ⟨e3, m4⟩ := and2 m3
  obtain ⟨e4, m5⟩ := and2 m4
  obtain ⟨e5, m6⟩ := and2 m5
  obtain ⟨e6, m7⟩ := and2 m6
  obtain ⟨e7, m8⟩ := and2 m7
  have e8 := m8
  exact {
    fn_is_whole := ⟨ct.def_ 0 (d := d_is_whole) rfl, He.glo_ok X G (ct.fact 0 (f := .glo "is_whole") rfl)⟩
    fn_common_part := ⟨ct.def_ 1 (d := d_common_part) rfl, He.glo_ok X G (ct.fact 1 (f := .glo "common_part") rfl)⟩
    fn_lowest := ⟨ct.def_ 2 (d := d_lowest) rfl, He.glo_ok X G (ct.fact 2 (f := .glo "lowest") rfl)⟩
    fn_lowest_over := ⟨ct.def_ 3 (d := d_lowest_over) rfl, He.glo_ok X G (ct.fact 3 (f := .glo "lowest_over") rfl)⟩
    fn_ratio := ⟨ct.def_ 4 (d := d_ratio) rfl, He.glo_ok X G (ct.fact 4 (f := .glo "ratio") rfl)⟩
    fn_plus := ⟨ct.def_ 5 (d := d_plus) rfl, He.glo_ok X G (ct.fact 5 (f := .glo "plus") rfl)⟩
    fn_minus := ⟨ct.def_ 6 (d := d_minus) rfl, He.glo_ok X G (ct.fact 6 (f := .glo "minus") rfl)⟩
    fn_times := ⟨ct.def_ 7 (d := d_times) rfl, He.glo_ok X G (ct.fact 7 (f := .glo "times") rfl)⟩
    fn_total := ⟨ct.def_ 8 (d := d_total) rfl, He.glo_ok X G (ct.fact 8 (f := .glo "total") rfl)⟩
    fn_over_one := ⟨ct.def_ 9 (d := d_over_one) rfl, He.glo_ok X G (ct.fact 9 (f := .glo "over_one") rfl)⟩
    fn_is_fraction := ⟨ct.def_ 10 (d := d_is_fraction) rfl, He.glo_ok X G (ct.fact 10 (f := .glo "is_fraction") rfl)⟩
    fn_are_fractions := ⟨ct.def_ 11 (d := d_are_fractions) rfl, He.glo_ok X G (ct.fact 11 (f := .glo "are_fractions") rfl)⟩
    fn_is_triple := ⟨ct.def_ 12 (d := d_is_triple) rfl, He.glo_ok X G (ct.fact 12 (f := .glo "is_triple") rfl)⟩
    fn_summed := ⟨ct.def_ 13 (d := d_summed) rfl, He.glo_ok X G (ct.fact 13 (f := .glo "summed") rfl)⟩
    fn_lessened := ⟨ct.def_ 14 (d := d_lessened) rfl, He.glo_ok X G (ct.fact 14 (f := .glo "lessened") rfl)⟩
    fn_scaled := ⟨ct.def_ 15 (d := d_scaled) rfl, He.glo_ok X G (ct.fact 15 (f := .glo "scaled") rfl)⟩
    fn_dot_of := ⟨ct.def_ 16 (d := d_dot_of) rfl, He.glo_ok X G (ct.fact 16 (f := .glo "dot_of") rfl)⟩
    fn_crossed := ⟨ct.def_ 17 (d := d_crossed) rfl, He.glo_ok X G (ct.fact 17 (f := .glo "crossed") rfl)⟩
    fn_is_screw := ⟨ct.def_ 18 (d := d_is_screw) rfl, He.glo_ok X G (ct.fact 18 (f := .glo "is_screw") rfl)⟩
    fn_check_screw := ⟨ct.def_ 19 (d := d_check_screw) rfl, He.glo_ok X G (ct.fact 19 (f := .glo "check_screw") rfl)⟩
    fn_sum_of := ⟨ct.def_ 20 (d := d_sum_of) rfl, He.glo_ok X G (ct.fact 20 (f := .glo "sum_of") rfl)⟩
    fn_times_of := ⟨ct.def_ 21 (d := d_times_of) rfl, He.glo_ok X G (ct.fact 21 (f := .glo "times_of") rfl)⟩
    fn_weighed_screws := ⟨ct.def_ 22 (d := d_weighed_screws) rfl, He.glo_ok X G (ct.fact 22 (f := .glo "weighed_screws") rfl)⟩
    fn_powered := ⟨ct.def_ 23 (d := d_powered) rfl, He.glo_ok X G (ct.fact 23 (f := .glo "powered") rfl)⟩
    fn_moment_by := ⟨ct.def_ 24 (d := d_moment_by) rfl, He.glo_ok X G (ct.fact 24 (f := .glo "moment_by") rfl)⟩
    fn_lowest_row := ⟨ct.def_ 25 (d := d_lowest_row) rfl, He.glo_ok X G (ct.fact 25 (f := .glo "lowest_row") rfl)⟩
    fn_whole_row := ⟨ct.def_ 26 (d := d_whole_row) rfl, He.glo_ok X G (ct.fact 26 (f := .glo "whole_row") rfl)⟩
    fn_first_place := ⟨ct.def_ 27 (d := d_first_place) rfl, He.glo_ok X G (ct.fact 27 (f := .glo "first_place") rfl)⟩
    fn_cleared := ⟨ct.def_ 28 (d := d_cleared) rfl, He.glo_ok X G (ct.fact 28 (f := .glo "cleared") rfl)⟩
    fn_stairs_of := ⟨ct.def_ 29 (d := d_stairs_of) rfl, He.glo_ok X G (ct.fact 29 (f := .glo "stairs_of") rfl)⟩
    fn_shares_for := ⟨ct.def_ 30 (d := d_shares_for) rfl, He.glo_ok X G (ct.fact 30 (f := .glo "shares_for") rfl)⟩
    fn_is_mass := ⟨ct.def_ 31 (d := d_is_mass) rfl, He.glo_ok X G (ct.fact 31 (f := .glo "is_mass") rfl)⟩
    fn_are_on_line := ⟨ct.def_ 32 (d := d_are_on_line) rfl, He.glo_ok X G (ct.fact 32 (f := .glo "are_on_line") rfl)⟩
    fn_wrong_mass := ⟨ct.def_ 33 (d := d_wrong_mass) rfl, He.glo_ok X G (ct.fact 33 (f := .glo "wrong_mass") rfl)⟩
    fn_check_body := ⟨ct.def_ 34 (d := d_check_body) rfl, He.glo_ok X G (ct.fact 34 (f := .glo "check_body") rfl)⟩
    fn_momentum_by := ⟨ct.def_ 35 (d := d_momentum_by) rfl, He.glo_ok X G (ct.fact 35 (f := .glo "momentum_by") rfl)⟩
    fn_kept_by := ⟨ct.def_ 36 (d := d_kept_by) rfl, He.glo_ok X G (ct.fact 36 (f := .glo "kept_by") rfl)⟩
    fn_energy := ⟨ct.def_ 37 (d := d_energy) rfl, He.glo_ok X G (ct.fact 37 (f := .glo "energy") rfl)⟩
    fn_blown := ⟨ct.def_ 38 (d := d_blown) rfl, He.glo_ok X G (ct.fact 38 (f := .glo "blown") rfl)⟩
    fn__law_well := ⟨ct.def_ 39 (d := d__law_well) rfl, He.glo_ok X G (ct.fact 39 (f := .glo "_law_well") rfl)⟩
    fn__law_draw := ⟨ct.def_ 40 (d := d__law_draw) rfl, He.glo_ok X G (ct.fact 40 (f := .glo "_law_draw") rfl)⟩
    fn__law_pick := ⟨ct.def_ 41 (d := d__law_pick) rfl, He.glo_ok X G (ct.fact 41 (f := .glo "_law_pick") rfl)⟩
    fn__law_gcd := ⟨ct.def_ 42 (d := d__law_gcd) rfl, He.glo_ok X G (ct.fact 42 (f := .glo "_law_gcd") rfl)⟩
    fn__law_low := ⟨ct.def_ 43 (d := d__law_low) rfl, He.glo_ok X G (ct.fact 43 (f := .glo "_law_low") rfl)⟩
    fn__law_add := ⟨ct.def_ 44 (d := d__law_add) rfl, He.glo_ok X G (ct.fact 44 (f := .glo "_law_add") rfl)⟩
    fn__law_mul := ⟨ct.def_ 45 (d := d__law_mul) rfl, He.glo_ok X G (ct.fact 45 (f := .glo "_law_mul") rfl)⟩
    fn__law_over := ⟨ct.def_ 46 (d := d__law_over) rfl, He.glo_ok X G (ct.fact 46 (f := .glo "_law_over") rfl)⟩
    fn__law_total := ⟨ct.def_ 47 (d := d__law_total) rfl, He.glo_ok X G (ct.fact 47 (f := .glo "_law_total") rfl)⟩
    fn__law_dot := ⟨ct.def_ 48 (d := d__law_dot) rfl, He.glo_ok X G (ct.fact 48 (f := .glo "_law_dot") rfl)⟩
    fn__law_cross := ⟨ct.def_ 49 (d := d__law_cross) rfl, He.glo_ok X G (ct.fact 49 (f := .glo "_law_cross") rfl)⟩
    fn__law_plus := ⟨ct.def_ 50 (d := d__law_plus) rfl, He.glo_ok X G (ct.fact 50 (f := .glo "_law_plus") rfl)⟩
    fn__law_times := ⟨ct.def_ 51 (d := d__law_times) rfl, He.glo_ok X G (ct.fact 51 (f := .glo "_law_times") rfl)⟩
    fn__law_nought := ⟨ct.def_ 52 (d := d__law_nought) rfl, He.glo_ok X G (ct.fact 52 (f := .glo "_law_nought") rfl)⟩
    fn__law_axis := ⟨ct.def_ 53 (d := d__law_axis) rfl, He.glo_ok X G (ct.fact 53 (f := .glo "_law_axis") rfl)⟩
    fn__law_screws_plus := ⟨ct.def_ 54 (d := d__law_screws_plus) rfl, He.glo_ok X G (ct.fact 54 (f := .glo "_law_screws_plus") rfl)⟩
    fn__law_screw_times := ⟨ct.def_ 55 (d := d__law_screw_times) rfl, He.glo_ok X G (ct.fact 55 (f := .glo "_law_screw_times") rfl)⟩
    fn__law_line := ⟨ct.def_ 56 (d := d__law_line) rfl, He.glo_ok X G (ct.fact 56 (f := .glo "_law_line") rfl)⟩
    fn__law_power := ⟨ct.def_ 57 (d := d__law_power) rfl, He.glo_ok X G (ct.fact 57 (f := .glo "_law_power") rfl)⟩
    fn__law_speed := ⟨ct.def_ 58 (d := d__law_speed) rfl, He.glo_ok X G (ct.fact 58 (f := .glo "_law_speed") rfl)⟩
    fn__law_is_whole := ⟨ct.def_ 59 (d := d__law_is_whole) rfl, He.glo_ok X G (ct.fact 59 (f := .glo "_law_is_whole") rfl)⟩
    fn__law_is_fraction := ⟨ct.def_ 60 (d := d__law_is_fraction) rfl, He.glo_ok X G (ct.fact 60 (f := .glo "_law_is_fraction") rfl)⟩
    fn__law_are_fractions := ⟨ct.def_ 61 (d := d__law_are_fractions) rfl, He.glo_ok X G (ct.fact 61 (f := .glo "_law_are_fractions") rfl)⟩
    fn__law_is_screw := ⟨ct.def_ 62 (d := d__law_is_screw) rfl, He.glo_ok X G (ct.fact 62 (f := .glo "_law_is_screw") rfl)⟩
    fn__law_fraction := ⟨ct.def_ 63 (d := d__law_fraction) rfl, He.glo_ok X G (ct.fact 63 (f := .glo "_law_fraction") rfl)⟩
    fn__law_amount := ⟨ct.def_ 64 (d := d__law_amount) rfl, He.glo_ok X G (ct.fact 64 (f := .glo "_law_amount") rfl)⟩
    fn__law_spot := ⟨ct.def_ 65 (d := d__law_spot) rfl, He.glo_ok X G (ct.fact 65 (f := .glo "_law_spot") rfl)⟩
    fn__law_way := ⟨ct.def_ 66 (d := d__law_way) rfl, He.glo_ok X G (ct.fact 66 (f := .glo "_law_way") rfl)⟩
    fn__law_other_way := ⟨ct.def_ 67 (d := d__law_other_way) rfl, He.glo_ok X G (ct.fact 67 (f := .glo "_law_other_way") rfl)⟩
    fn__law_screw := ⟨ct.def_ 68 (d := d__law_screw) rfl, He.glo_ok X G (ct.fact 68 (f := .glo "_law_screw") rfl)⟩
    fn__law_turn := ⟨ct.def_ 69 (d := d__law_turn) rfl, He.glo_ok X G (ct.fact 69 (f := .glo "_law_turn") rfl)⟩
    fn__law_turned := ⟨ct.def_ 70 (d := d__law_turned) rfl, He.glo_ok X G (ct.fact 70 (f := .glo "_law_turned") rfl)⟩
    fn__law_placed := ⟨ct.def_ 71 (d := d__law_placed) rfl, He.glo_ok X G (ct.fact 71 (f := .glo "_law_placed") rfl)⟩
    fn__law_led := ⟨ct.def_ 72 (d := d__law_led) rfl, He.glo_ok X G (ct.fact 72 (f := .glo "_law_led") rfl)⟩
    fn__law_body := ⟨ct.def_ 73 (d := d__law_body) rfl, He.glo_ok X G (ct.fact 73 (f := .glo "_law_body") rfl)⟩
    fn__law_momentum := ⟨ct.def_ 74 (d := d__law_momentum) rfl, He.glo_ok X G (ct.fact 74 (f := .glo "_law_momentum") rfl)⟩
    fn__law_right := ⟨ct.def_ 75 (d := d__law_right) rfl, He.glo_ok X G (ct.fact 75 (f := .glo "_law_right") rfl)⟩
    fn_law := ⟨ct.def_ 76 (d := d_law) rfl, He.glo_ok X G (ct.fact 76 (f := .glo "law") rfl)⟩
    free_abs := He.free_ok X G (ct.fact 77 (f := .free "abs") rfl)
    free_all := He.free_ok X G (ct.fact 78 (f := .free "all") rfl)
    free_bool := He.free_ok X G (ct.fact 79 (f := .free "bool") rfl)
    free_enumerate := He.free_ok X G (ct.fact 80 (f := .free "enumerate") rfl)
    free_int := He.free_ok X G (ct.fact 81 (f := .free "int") rfl)
    free_isinstance := He.free_ok X G (ct.fact 82 (f := .free "isinstance") rfl)
    free_len := He.free_ok X G (ct.fact 83 (f := .free "len") rfl)
    free_list := He.free_ok X G (ct.fact 84 (f := .free "list") rfl)
    free_max := He.free_ok X G (ct.fact 85 (f := .free "max") rfl)
    free_min := He.free_ok X G (ct.fact 86 (f := .free "min") rfl)
    free_range := He.free_ok X G (ct.fact 87 (f := .free "range") rfl)
    free_repr := He.free_ok X G (ct.fact 88 (f := .free "repr") rfl)
    free_sorted := He.free_ok X G (ct.fact 89 (f := .free "sorted") rfl)
    free_sum := He.free_ok X G (ct.fact 90 (f := .free "sum") rfl)
    free_tuple := He.free_ok X G (ct.fact 91 (f := .free "tuple") rfl)
    free_zip := He.free_ok X G (ct.fact 92 (f := .free "zip") rfl)
    cst_LEAST_MASSES := cst_ok X G e0
    cst_MOST_MASSES := cst_ok X G e1
    cst_NOUGHT_TRIPLE := cst_ok X G e2
    cst_NOUGHT_fracs := cst_ok X G e3
    cst_NOUGHT_screws := cst_ok X G e4
    cst_UNITS := cst_ok X G e5
    mod_combinations := blt_ok X G e6
    mod_gcd := blt_ok X G e7
    mod_lcm := blt_ok X G e8 }
end G86
open PySem PySem.W PySem.Calls PyProof.Rows
theorem holds_of (hf : ∀ ns : List Int, ns.length ≤ 63 → G86.f_law [.rol (ns.map DL.D.int)] [] = .ok (.bl true) []) : PySem.Challenge.rw_bodypushes_k86_whole_free_bodies.Holds := by
  w_on; o_law
  refine HandSHeadRun.head_imp (r := G86.R) (q := G86.qv) (H := G86.hk) (ob := G86.ob) (M := 20000) (loose := G86.loose) (d := HandSHeadRun.topDef G86.R.prog 95) (kwd := []) G86.ob_eq
    G86.run (by kernel_rfl) (by kernel_rfl) (by kernel_rfl) (by rfl) (by first | assumption | decide +kernel) (by decide +kernel) ⟨rfl, rfl, rfl, rfl, rfl, by decide +kernel⟩ ?hw ?hc
  case hw => w_witness2
  case hc =>
    refine DL.walk_ofG (l := PySem.Challenge.rw_bodypushes_k86_whole_free_bodies) (n := 63) (k := 12) (x := "script") (f := G86.f_law) rfl (by decide) (by kernel_rfl) ⟨rfl, by decide, by decide⟩ ?F hf
    intro w mg fa h Y G hmg0
    obtain ⟨K, KX, c⟩ := Y
    have hmg : mg ("law" : PySem.Str) = some (.ref fa) := by
      have e : (HandSHeadRun.topDef G86.R.prog 95).name = ("law" : PySem.Str) := by kernel_rfl
      rw [← e]
      exact hmg0
    have fc : ∀ base : Heap, G86.Fc ⟨(PySem.Challenge.rw_bodypushes_k86_whole_free_bodies).prog, w, K, mg, base⟩ := fun base => G86.fc_of KX G c
    obtain ⟨fd, F⟩ := (fc h).fn_law.1
    have e := hmg.symm.trans (fc h).fn_law.2
    cases e
    have b := L2.FunD.bindsA (ps := ["script"]) F fun _ _ _ _ _ _ us hl => match us, hl with | [_], _ => rfl
    refine ⟨K, fd, KX, fun s u => b s [u] rfl, fun base _ _ => ?_⟩
    obtain ⟨a, fd2, h1, h2, h3, h4, h5⟩ := (G86.ok_law (fc base)).ex
    have e1 := (fc base).fn_law.2.symm.trans h1
    cases e1
    have e2 : fd2 = fd := DL.fd_eq h3 F
    subst e2
    exact h5

open PySem PySem.W PyProof.Rows
set_option Elab.async false
theorem PySem.Challenge.cw_bodypushes_k86_whole_free_bodies_holds : PySem.Challenge.rw_bodypushes_k86_whole_free_bodies.Holds := by
  exact holds_of G86.law_ok

