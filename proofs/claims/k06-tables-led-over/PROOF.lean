import PyProof.Rows.All
import Wide.All
import OpenK.AllK
import Wide.FinOn
import HandS.ForMost
import HandS.Walk
import HandS.TupAny
import HandS.IsInst
import HandS.Flow
import HandS.Small
import KE.GoesEnum
import PyProof.ZipIter
import PyProof.CollectWalk
import KE.KDictZip
import KE.KDictLaws
import HandS.NoneIn
import HandS.ForDict
import HandS.Strs
import HandS.OwnEq
import HandS.DictEq
import HandS.DictTup
import KE.SortKeyHeap
import KE.KSortKey
import HandS.Nested
import HandS.SortKw
import HandS.ReCall
import HandS.ForExc
import HandS.MakeKw
import HandS.Defaults
import HandS.DictComp
import HandS.Style
import HandS.EndTab
import KE.KNestM
import KE.KLam
import PySem.Challenge.RW_holdtree_k06_whole_tables_led_over

/-! Tables of modes in plain Lean: what bears what, what is joined, the flaws; other names, another order. -/
namespace Hm
/-- a table: its modes in order, which stand beside one another, what each gives (0 nothing, 1 see, 2 change), what is wanted above each -/
structure Tb (α : Type) where
  ord : List α
  bes : α → α → Bool
  wor : α → Nat
  upp : α → α
section
variable {α β : Type}
def bears (T : Tb α) (a b : α) : Bool := if T.wor a < T.wor b then false else (T.ord.filter fun m => T.bes a m).all fun m => T.bes b m
def both (T : Tb α) (a b : α) : List α := T.ord.filter fun m => bears T m a && bears T m b
def least (T : Tb α) (l : List α) : List α := l.filter fun m => l.all fun n => bears T n m
def joined (T : Tb α) (a b : α) : Option α := if bears T a b then some a else if bears T b a then some b else (least T (both T a b)).head?
def quarrel (T : Tb α) (a b : α) : Bool := (!(T.wor a == 0) && !(T.wor b == 0)) && (T.wor a == 2 || T.wor b == 2)
def isOver (T : Tb α) (a b : α) : Bool :=
  match joined T a b with
  | none => true
  | some j => match joined T (T.upp a) (T.upp b) with
    | none => false
    | some u => bears T u (T.upp j)
def pairs : List α → List (α × α)
  | [] => []
  | a :: r => r.map (fun b => (a, b)) ++ pairs r
def anyTwo : List α → List (α × α)
  | [] => []
  | a :: r => (a :: r).map (fun b => (a, b)) ++ anyTwo r
def fAbove (T : Tb α) : List (Nat × List α) := (T.ord.filter fun m => !bears T (T.upp m) (T.upp (T.upp m))).map fun m => (0, [m])
def fApart (T : Tb α) : List (Nat × List α) := ((pairs T.ord).filter fun p => (joined T p.1 p.2).isNone).map fun p => (1, [p.1, p.2])
def fOver (T : Tb α) : List (Nat × List α) := ((pairs T.ord).filter fun p => !isOver T p.1 p.2).map fun p => (2, [p.1, p.2])
def fQuar (T : Tb α) : List (Nat × List α) := ((anyTwo T.ord).filter fun p => T.bes p.1 p.2 && quarrel T p.1 p.2).map fun p => (3, [p.1, p.2])
def rowsOf (T : Tb α) (a : α) : List (α × α) := (T.ord.filter fun b => quarrel T a b).flatMap fun b => (T.ord.filter fun c => T.bes a c).map fun c => (b, c)
def fBen1 (T : Tb α) (a : α) : List (Nat × List α) := ((rowsOf T a).filter fun p => bears T p.2 (T.upp p.1)).map fun p => (4, [a, p.1, p.2])
def fBen (T : Tb α) : List (Nat × List α) := T.ord.flatMap (fBen1 T)
def flaws (T : Tb α) : List (Nat × List α) := fAbove T ++ fApart T ++ fOver T ++ fQuar T ++ fBen T
def flaw (T : Tb α) : Option (Nat × List α) := (flaws T).head?

/-! ### a table under other names -/
structure Led (f : α → β) (T : Tb α) (U : Tb β) : Prop where
  ord : U.ord = T.ord.map f
  bes : ∀ a ∈ T.ord, ∀ b ∈ T.ord, U.bes (f a) (f b) = T.bes a b
  wor : ∀ a ∈ T.ord, U.wor (f a) = T.wor a
  upp : ∀ a ∈ T.ord, U.upp (f a) = f (T.upp a)
  mem : ∀ a ∈ T.ord, T.upp a ∈ T.ord
theorem all_map_filter {f : α → β} {p : β → Bool} {q : α → Bool} : ∀ {l : List α}, (∀ a ∈ l, p (f a) = q a) → (l.map f).filter p = (l.filter q).map f
  | [], _ => rfl
  | a :: r, h => by
    have ih := all_map_filter (l := r) fun b hb => h b (List.mem_cons_of_mem _ hb)
    have ha := h a List.mem_cons_self
    rw [List.map_cons, List.filter_cons, List.filter_cons, ha, ih]
    cases q a <;> rfl
theorem all_map_all {f : α → β} {p : β → Bool} {q : α → Bool} : ∀ {l : List α}, (∀ a ∈ l, p (f a) = q a) → (l.map f).all p = l.all q
  | [], _ => rfl
  | a :: r, h => by
    have ih := all_map_all (l := r) fun b hb => h b (List.mem_cons_of_mem _ hb)
    rw [List.map_cons, List.all_cons, List.all_cons, h a List.mem_cons_self, ih]
variable {f : α → β} {T : Tb α} {U : Tb β}
theorem Led.bears (L : Led f T U) {a b : α} (ha : a ∈ T.ord) (hb : b ∈ T.ord) : bears U (f a) (f b) = bears T a b := by
  unfold Hm.bears
  rw [L.wor a ha, L.wor b hb, L.ord, all_map_filter (q := fun m => T.bes a m) fun m hm => L.bes a ha m hm]
  rw [all_map_all (q := fun m => T.bes b m) fun m hm => L.bes b hb m (List.mem_filter.mp hm).1]
theorem both_mem {a b m : α} (h : m ∈ both T a b) : m ∈ T.ord ∧ bears T m a = true ∧ bears T m b = true := by
  obtain ⟨h1, h2⟩ := List.mem_filter.mp h
  have h3 := Bool.and_eq_true _ _ ▸ h2
  exact ⟨h1, h3.1, h3.2⟩
theorem Led.both (L : Led f T U) {a b : α} (ha : a ∈ T.ord) (hb : b ∈ T.ord) : both U (f a) (f b) = (both T a b).map f := by
  unfold Hm.both
  rw [L.ord, all_map_filter (q := fun m => Hm.bears T m a && Hm.bears T m b) fun m hm => by rw [L.bears hm ha, L.bears hm hb]]
theorem Led.least (L : Led f T U) {l : List α} (hl : ∀ m ∈ l, m ∈ T.ord) : least U (l.map f) = (least T l).map f := by
  unfold Hm.least
  refine all_map_filter fun m hm => all_map_all fun n hn => L.bears (hl n hn) (hl m hm)
theorem Led.joined (L : Led f T U) {a b : α} (ha : a ∈ T.ord) (hb : b ∈ T.ord) : joined U (f a) (f b) = (joined T a b).map f := by
  unfold Hm.joined
  rw [L.bears ha hb, L.bears hb ha, L.both ha hb, L.least fun m hm => (both_mem hm).1]
  split
  · rfl
  · split
    · rfl
    · rw [List.head?_map]
theorem least_sub {l : List α} {m : α} (h : m ∈ least T l) : m ∈ l := (List.mem_filter.mp h).1
theorem joined_mem {a b j : α} (ha : a ∈ T.ord) (hb : b ∈ T.ord) (h : joined T a b = some j) : j ∈ T.ord := by
  unfold joined at h
  split at h
  · cases h; exact ha
  · split at h
    · cases h; exact hb
    · exact (both_mem (least_sub (List.mem_of_mem_head? (Option.mem_def.mpr h)))).1
theorem Led.quarrel (L : Led f T U) {a b : α} (ha : a ∈ T.ord) (hb : b ∈ T.ord) : quarrel U (f a) (f b) = quarrel T a b := by
  unfold Hm.quarrel
  rw [L.wor a ha, L.wor b hb]
theorem Led.isOver (L : Led f T U) {a b : α} (ha : a ∈ T.ord) (hb : b ∈ T.ord) : isOver U (f a) (f b) = isOver T a b := by
  unfold Hm.isOver
  rw [L.joined ha hb, L.upp a ha, L.upp b hb, L.joined (L.mem a ha) (L.mem b hb)]
  cases e : Hm.joined T a b with
  | none => rfl
  | some j =>
    have hj := joined_mem ha hb e
    cases e2 : Hm.joined T (T.upp a) (T.upp b) with
    | none => rfl
    | some u =>
      have hu := joined_mem (L.mem a ha) (L.mem b hb) e2
      show Hm.bears U (f u) (U.upp (f j)) = Hm.bears T u (T.upp j)
      rw [L.upp j hj, L.bears hu (L.mem j hj)]
theorem pairs_map (f : α → β) : ∀ l : List α, pairs (l.map f) = (pairs l).map fun p => (f p.1, f p.2)
  | [] => rfl
  | a :: r => by
    rw [List.map_cons]
    unfold pairs
    rw [pairs_map f r, List.map_append, List.map_map, List.map_map]
    rfl
theorem anyTwo_map (f : α → β) : ∀ l : List α, anyTwo (l.map f) = (anyTwo l).map fun p => (f p.1, f p.2)
  | [] => rfl
  | a :: r => by
    rw [List.map_cons]
    unfold anyTwo
    rw [anyTwo_map f r, List.map_append, ← List.map_cons, List.map_map, List.map_map]
    rfl
theorem pairs_mem : ∀ {l : List α} {p : α × α}, p ∈ pairs l → p.1 ∈ l ∧ p.2 ∈ l
  | a :: r, p, h => by
    unfold pairs at h
    rcases List.mem_append.mp h with h | h
    · obtain ⟨b, hb, rfl⟩ := List.mem_map.mp h
      exact ⟨List.mem_cons_self, List.mem_cons_of_mem _ hb⟩
    · obtain ⟨h1, h2⟩ := pairs_mem h
      exact ⟨List.mem_cons_of_mem _ h1, List.mem_cons_of_mem _ h2⟩
theorem anyTwo_mem : ∀ {l : List α} {p : α × α}, p ∈ anyTwo l → p.1 ∈ l ∧ p.2 ∈ l
  | a :: r, p, h => by
    unfold anyTwo at h
    rcases List.mem_append.mp h with h | h
    · obtain ⟨b, hb, rfl⟩ := List.mem_map.mp h
      exact ⟨List.mem_cons_self, hb⟩
    · obtain ⟨h1, h2⟩ := anyTwo_mem h
      exact ⟨List.mem_cons_of_mem _ h1, List.mem_cons_of_mem _ h2⟩
/-- a flaw under other names -/
def ledF (f : α → β) (p : Nat × List α) : Nat × List β := (p.1, p.2.map f)
theorem Led.rowsOf (L : Led f T U) {a : α} (ha : a ∈ T.ord) : rowsOf U (f a) = (rowsOf T a).map fun p => (f p.1, f p.2) := by
  unfold Hm.rowsOf
  rw [L.ord, all_map_filter (q := fun b => Hm.quarrel T a b) fun b hb => L.quarrel ha hb, all_map_filter (q := fun c => T.bes a c) fun c hc => L.bes a ha c hc]
  rw [List.flatMap_map, List.map_flatMap]
  congr 1
  funext b
  rw [List.map_map, List.map_map]
  rfl
theorem rowsOf_mem {a : α} {p : α × α} (h : p ∈ rowsOf T a) : p.1 ∈ T.ord ∧ p.2 ∈ T.ord := by
  obtain ⟨b, hb, h⟩ := List.mem_flatMap.mp h
  obtain ⟨c, hc, rfl⟩ := List.mem_map.mp h
  exact ⟨(List.mem_filter.mp hb).1, (List.mem_filter.mp hc).1⟩
theorem flatMap_congr' {γ δ : Type} {g h : γ → List δ} : ∀ {l : List γ}, (∀ a ∈ l, g a = h a) → l.flatMap g = l.flatMap h
  | [], _ => rfl
  | a :: r, e => by
    rw [List.flatMap_cons, List.flatMap_cons, e a List.mem_cons_self, flatMap_congr' fun b hb => e b (List.mem_cons_of_mem _ hb)]
theorem Led.flaws (L : Led f T U) : flaws U = (flaws T).map (ledF f) := by
  have e0 : fAbove U = (fAbove T).map (ledF f) := by
    unfold fAbove
    rw [L.ord, all_map_filter (q := fun m => !Hm.bears T (T.upp m) (T.upp (T.upp m))) fun m hm => by
      rw [L.upp m hm, L.upp _ (L.mem m hm), L.bears (L.mem m hm) (L.mem _ (L.mem m hm))]]
    rw [List.map_map, List.map_map]
    rfl
  have e1 : fApart U = (fApart T).map (ledF f) := by
    unfold fApart
    rw [L.ord, pairs_map, all_map_filter (q := fun p => (Hm.joined T p.1 p.2).isNone) fun p hp => by
      rw [L.joined (pairs_mem hp).1 (pairs_mem hp).2, Option.isNone_map]]
    rw [List.map_map, List.map_map]
    rfl
  have e2 : fOver U = (fOver T).map (ledF f) := by
    unfold fOver
    rw [L.ord, pairs_map, all_map_filter (q := fun p => !Hm.isOver T p.1 p.2) fun p hp => by rw [L.isOver (pairs_mem hp).1 (pairs_mem hp).2]]
    rw [List.map_map, List.map_map]
    rfl
  have e3 : fQuar U = (fQuar T).map (ledF f) := by
    unfold fQuar
    rw [L.ord, anyTwo_map, all_map_filter (q := fun p => T.bes p.1 p.2 && Hm.quarrel T p.1 p.2) fun p hp => by
      rw [L.bes _ (anyTwo_mem hp).1 _ (anyTwo_mem hp).2, L.quarrel (anyTwo_mem hp).1 (anyTwo_mem hp).2]]
    rw [List.map_map, List.map_map]
    rfl
  have e4 : fBen U = (fBen T).map (ledF f) := by
    unfold fBen
    rw [L.ord, List.flatMap_map, List.map_flatMap]
    refine flatMap_congr' fun a ha => ?_
    unfold fBen1
    rw [L.rowsOf ha, all_map_filter (q := fun p => Hm.bears T p.2 (T.upp p.1)) fun p hp => by
      rw [L.upp _ (rowsOf_mem hp).1, L.bears (rowsOf_mem hp).2 (L.mem _ (rowsOf_mem hp).1)]]
    rw [List.map_map, List.map_map]
    rfl
  unfold Hm.flaws
  rw [e0, e1, e2, e3, e4, List.map_append, List.map_append, List.map_append, List.map_append]
theorem Led.flaw (L : Led f T U) : flaw U = (flaw T).map (ledF f) := by
  unfold Hm.flaw
  rw [L.flaws, List.head?_map]
end

/-! ### another order -/
section
variable {α : Type}
structure Turned (T U : Tb α) : Prop where
  mem : ∀ a, a ∈ U.ord ↔ a ∈ T.ord
  bes : U.bes = T.bes
  wor : U.wor = T.wor
  upp : U.upp = T.upp
variable {T U : Tb α}
theorem Turned.symm (L : Turned T U) : Turned U T := ⟨fun a => (L.mem a).symm, L.bes.symm, L.wor.symm, L.upp.symm⟩
/-- bears, said plainly -/
theorem bears_iff {a b : α} : bears T a b = true ↔ T.wor b ≤ T.wor a ∧ ∀ m ∈ T.ord, T.bes a m = true → T.bes b m = true := by
  unfold bears
  split
  · rename_i h
    exact ⟨fun z => (nomatch z), fun z => absurd z.1 (by omega)⟩
  · rename_i h
    rw [List.all_eq_true]
    refine ⟨fun z => ⟨by omega, fun m hm hb => z m (List.mem_filter.mpr ⟨hm, hb⟩)⟩, fun z m hm => ?_⟩
    obtain ⟨h1, h2⟩ := List.mem_filter.mp hm
    exact z.2 m h1 h2
theorem bears_refl (T : Tb α) (a : α) : bears T a a = true := bears_iff.mpr ⟨Nat.le_refl _, fun _ _ h => h⟩
theorem bears_trans {a b c : α} (h : bears T a b = true) (h' : bears T b c = true) : bears T a c = true := by
  obtain ⟨h1, h2⟩ := bears_iff.mp h
  obtain ⟨h3, h4⟩ := bears_iff.mp h'
  exact bears_iff.mpr ⟨by omega, fun m hm e => h4 m hm (h2 m hm e)⟩
theorem Turned.bears (L : Turned T U) (a b : α) : bears U a b = bears T a b := by
  rw [Bool.eq_iff_iff, bears_iff, bears_iff, L.wor, L.bes]
  refine and_congr Iff.rfl ⟨fun h m hm => h m ((L.mem m).mpr hm), fun h m hm => h m ((L.mem m).mp hm)⟩
/-- j is joined of a and b, as far as order doesn't count -/
def IsJoin (T : Tb α) (a b j : α) : Prop := j ∈ T.ord ∧ bears T j a = true ∧ bears T j b = true ∧ ∀ n ∈ T.ord, bears T n a = true → bears T n b = true → bears T n j = true
theorem joined_some {a b j : α} (ha : a ∈ T.ord) (hb : b ∈ T.ord) (h : joined T a b = some j) : IsJoin T a b j := by
  have hj := joined_mem ha hb h
  unfold joined at h
  split at h
  · rename_i e
    cases h
    exact ⟨ha, bears_refl T a, e, fun n _ h1 _ => h1⟩
  · split at h
    · rename_i e
      cases h
      exact ⟨hb, e, bears_refl T b, fun n _ _ h2 => h2⟩
    · have hm : j ∈ least T (both T a b) := List.mem_of_mem_head? (Option.mem_def.mpr h)
      obtain ⟨h1, h2⟩ := List.mem_filter.mp hm
      obtain ⟨h3, h4, h5⟩ := both_mem h1
      refine ⟨h3, h4, h5, fun n hn e1 e2 => ?_⟩
      exact List.all_eq_true.mp h2 n (List.mem_filter.mpr ⟨hn, by rw [e1, e2]; rfl⟩)
theorem joined_isSome {a b j : α} (h : IsJoin T a b j) : (joined T a b).isSome = true := by
  unfold joined
  split
  · rfl
  · split
    · rfl
    · obtain ⟨h1, h2, h3, h4⟩ := h
      have hm : j ∈ least T (both T a b) := by
        refine List.mem_filter.mpr ⟨List.mem_filter.mpr ⟨h1, by rw [h2, h3]; rfl⟩, List.all_eq_true.mpr fun n hn => ?_⟩
        obtain ⟨e1, e2, e3⟩ := both_mem hn
        exact h4 n e1 e2 e3
      cases e : least T (both T a b) with
      | nil => rw [e] at hm; cases hm
      | cons x r => rfl
theorem Turned.isJoin (L : Turned T U) {a b j : α} (h : IsJoin T a b j) : IsJoin U a b j :=
  ⟨(L.mem j).mpr h.1, by rw [L.bears]; exact h.2.1, by rw [L.bears]; exact h.2.2.1, fun n hn e1 e2 => by
    rw [L.bears] at e1 e2 ⊢
    exact h.2.2.2 n ((L.mem n).mp hn) e1 e2⟩
theorem IsJoin.symm {a b j : α} (h : IsJoin T a b j) : IsJoin T b a j := ⟨h.1, h.2.2.1, h.2.1, fun n hn e1 e2 => h.2.2.2 n hn e2 e1⟩
theorem IsJoin.twin {a b j k : α} (h : IsJoin T a b j) (h' : IsJoin T a b k) : bears T j k = true ∧ bears T k j = true :=
  ⟨h'.2.2.2 j h.1 h.2.1 h.2.2.1, h.2.2.2 k h'.1 h'.2.1 h'.2.2.1⟩
/-- joined in another order: there is one just where there was, and the two bear one another -/
theorem Turned.joined_none (L : Turned T U) {a b : α} (ha : a ∈ T.ord) (hb : b ∈ T.ord) (h : joined T a b = none) : joined U a b = none := by
  cases e : joined U a b with
  | none => rfl
  | some k =>
    have hk := L.symm.isJoin (joined_some ((L.mem a).mpr ha) ((L.mem b).mpr hb) e)
    have := joined_isSome hk
    rw [h] at this
    cases this
theorem Turned.joined_some (L : Turned T U) {a b j k : α} (ha : a ∈ T.ord) (hb : b ∈ T.ord) (h : joined T a b = some j) (h' : joined U a b = some k) : Hm.bears T j k = true ∧ Hm.bears T k j = true :=
  (Hm.joined_some ha hb h).twin (L.symm.isJoin (Hm.joined_some ((L.mem a).mpr ha) ((L.mem b).mpr hb) h'))

/-! ### whether there is a flaw -/
structure Sound (T : Tb α) : Prop where
  above : ∀ m ∈ T.ord, bears T (T.upp m) (T.upp (T.upp m)) = true
  apart : ∀ m ∈ T.ord, ∀ n ∈ T.ord, ∃ j, IsJoin T m n j
  over : ∀ m ∈ T.ord, ∀ n ∈ T.ord, ∀ j, IsJoin T m n j → ∃ u, IsJoin T (T.upp m) (T.upp n) u ∧ bears T u (T.upp j) = true
  quar : ∀ m ∈ T.ord, ∀ n ∈ T.ord, ¬ (T.bes m n = true ∧ quarrel T m n = true)
  ben : ∀ a ∈ T.ord, ∀ b ∈ T.ord, ∀ c ∈ T.ord, quarrel T a b = true → T.bes a c = true → ¬ bears T c (T.upp b) = true
theorem quarrel_symm (T : Tb α) (a b : α) : quarrel T a b = quarrel T b a := by
  unfold quarrel
  rw [Bool.and_comm (!(T.wor a == 0)), Bool.or_comm (T.wor a == 2)]
theorem Turned.sound (L : Turned T U) (h : Sound T) : Sound U where
  above := fun m hm => by rw [L.bears, L.upp]; exact h.above m ((L.mem m).mp hm)
  apart := fun m hm n hn => let ⟨j, hj⟩ := h.apart m ((L.mem m).mp hm) n ((L.mem n).mp hn); ⟨j, L.isJoin hj⟩
  over := fun m hm n hn j hj => by
    obtain ⟨u, h1, h2⟩ := h.over m ((L.mem m).mp hm) n ((L.mem n).mp hn) j (L.symm.isJoin hj)
    refine ⟨u, ?_, by rw [L.bears, L.upp]; exact h2⟩
    rw [L.upp]
    exact L.isJoin h1
  quar := fun m hm n hn => by
    unfold quarrel
    rw [L.bes, L.wor]
    exact h.quar m ((L.mem m).mp hm) n ((L.mem n).mp hn)
  ben := fun a ha b hb c hc => by
    unfold quarrel
    rw [L.bes, L.wor, L.bears, L.upp]
    exact h.ben a ((L.mem a).mp ha) b ((L.mem b).mp hb) c ((L.mem c).mp hc)
theorem pairs_all {P : α → α → Prop} (sym : ∀ a b, P a b → P b a) : ∀ {l : List α}, (∀ a ∈ l, P a a) → (∀ p ∈ pairs l, P p.1 p.2) → ∀ a ∈ l, ∀ b ∈ l, P a b
  | [], _, _, a, ha, _, _ => by cases ha
  | x :: r, refl, h, a, ha, b, hb => by
    have hx : ∀ y ∈ r, P x y := fun y hy => h (x, y) (by unfold pairs; exact List.mem_append_left _ (List.mem_map.mpr ⟨y, hy, rfl⟩))
    have ih := pairs_all sym (l := r) (fun a ha => refl a (List.mem_cons_of_mem _ ha)) fun p hp => h p (by unfold pairs; exact List.mem_append_right _ hp)
    rcases List.mem_cons.mp ha with ea | ha
    · rw [ea]
      rcases List.mem_cons.mp hb with eb | hb
      · rw [eb]
        exact refl _ List.mem_cons_self
      · exact hx b hb
    · rcases List.mem_cons.mp hb with eb | hb
      · rw [eb]
        exact sym _ _ (hx a ha)
      · exact ih a ha b hb
theorem anyTwo_all {P : α → α → Prop} (sym : ∀ a b, P a b → P b a) : ∀ {l : List α}, (∀ p ∈ anyTwo l, P p.1 p.2) → ∀ a ∈ l, ∀ b ∈ l, P a b
  | [], _, a, ha, _, _ => by cases ha
  | x :: r, h, a, ha, b, hb => by
    have hx : ∀ y ∈ x :: r, P x y := fun y hy => h (x, y) (by unfold anyTwo; exact List.mem_append_left _ (List.mem_map.mpr ⟨y, hy, rfl⟩))
    have ih := anyTwo_all sym (l := r) fun p hp => h p (by unfold anyTwo; exact List.mem_append_right _ hp)
    rcases List.mem_cons.mp ha with ea | ha
    · rw [ea]
      exact hx b hb
    · rcases List.mem_cons.mp hb with eb | hb
      · rw [eb]
        exact sym _ _ (hx a (List.mem_cons_of_mem _ ha))
      · exact ih a ha b hb
/-- the modes above are modes, beside goes either way about, modes that bear one another want the same above them -/
structure Fair (T : Tb α) : Prop where
  mem : ∀ a ∈ T.ord, T.upp a ∈ T.ord
  sym : ∀ a b, T.bes a b = T.bes b a
  twin : ∀ a ∈ T.ord, ∀ b ∈ T.ord, bears T a b = true → bears T b a = true → T.upp a = T.upp b
theorem isOver_of (F : Fair T) {m n j : α} (hm : m ∈ T.ord) (hn : n ∈ T.ord) (hj : IsJoin T m n j) (h : isOver T m n = true) :
    ∃ u, IsJoin T (T.upp m) (T.upp n) u ∧ bears T u (T.upp j) = true := by
  cases e : joined T m n with
  | none =>
    have := joined_isSome hj
    rw [e] at this
    cases this
  | some k =>
    have hk := joined_some hm hn e
    obtain ⟨t1, t2⟩ := hj.twin hk
    unfold isOver at h
    rw [e] at h
    cases e2 : joined T (T.upp m) (T.upp n) with
    | none => rw [e2] at h; cases h
    | some u =>
      rw [e2] at h
      have h : bears T u (T.upp k) = true := h
      rw [← F.twin j hj.1 k hk.1 t1 t2] at h
      exact ⟨u, joined_some (F.mem m hm) (F.mem n hn) e2, h⟩
theorem of_isOver (F : Fair T) {m n : α} (hm : m ∈ T.ord) (hn : n ∈ T.ord) (h : ∀ j, IsJoin T m n j → ∃ u, IsJoin T (T.upp m) (T.upp n) u ∧ bears T u (T.upp j) = true) : isOver T m n = true := by
  unfold isOver
  cases e : joined T m n with
  | none => rfl
  | some k =>
    obtain ⟨u, h1, h2⟩ := h k (joined_some hm hn e)
    cases e2 : joined T (T.upp m) (T.upp n) with
    | none =>
      have := joined_isSome h1
      rw [e2] at this
      cases this
    | some v =>
      obtain ⟨_, t2⟩ := h1.twin (joined_some (F.mem m hm) (F.mem n hn) e2)
      exact bears_trans t2 h2
theorem isJoin_self {m : α} (hm : m ∈ T.ord) : IsJoin T m m m := ⟨hm, bears_refl T m, bears_refl T m, fun _ _ h _ => h⟩
theorem isJoin_self_bears {m j : α} (hm : m ∈ T.ord) (hj : IsJoin T m m j) : bears T j m = true ∧ bears T m j = true := hj.twin (isJoin_self hm)
theorem nil_of_map_filter {γ δ : Type} {p : γ → Bool} {g : γ → δ} {l : List γ} (h : (l.filter p).map g = []) : ∀ a ∈ l, p a = false := fun a ha => by
  have e := List.map_eq_nil_iff.mp h
  have := List.filter_eq_nil_iff.mp e a ha
  simpa using this
theorem map_filter_nil {γ δ : Type} {p : γ → Bool} {g : γ → δ} {l : List γ} (h : ∀ a ∈ l, p a = false) : (l.filter p).map g = [] := by
  rw [List.map_eq_nil_iff, List.filter_eq_nil_iff]
  intro a ha
  rw [h a ha]
  exact Bool.false_ne_true
theorem sound_of (F : Fair T) (h : flaws T = []) : Sound T := by
  unfold flaws at h
  obtain ⟨h, h4⟩ := List.append_eq_nil_iff.mp h
  obtain ⟨h, h3⟩ := List.append_eq_nil_iff.mp h
  obtain ⟨h, h2⟩ := List.append_eq_nil_iff.mp h
  obtain ⟨h0, h1⟩ := List.append_eq_nil_iff.mp h
  have apart : ∀ m ∈ T.ord, ∀ n ∈ T.ord, m ∈ T.ord → n ∈ T.ord → ∃ j, IsJoin T m n j := by
    refine pairs_all (P := fun m n => m ∈ T.ord → n ∈ T.ord → ∃ j, IsJoin T m n j) (fun a b z hb ha => let ⟨j, hj⟩ := z ha hb; ⟨j, hj.symm⟩) (fun a ha _ _ => ⟨a, isJoin_self ha⟩) fun p hp hm hn => ?_
    have z := nil_of_map_filter h1 p hp
    cases e : joined T p.1 p.2 with
    | none => rw [e] at z; cases z
    | some j => exact ⟨j, joined_some hm hn e⟩
  refine ⟨fun m hm => ?_, fun m hm n hn => apart m hm n hn hm hn, fun m hm n hn => ?_, ?_, fun a ha b hb c hc e1 e2 e3 => ?_⟩
  · have z := nil_of_map_filter h0 m hm
    simpa using z
  · refine pairs_all (P := fun m n => m ∈ T.ord → n ∈ T.ord → ∀ j, IsJoin T m n j → ∃ u, IsJoin T (T.upp m) (T.upp n) u ∧ bears T u (T.upp j) = true)
      (fun a b z hb ha j hj => let ⟨u, u1, u2⟩ := z ha hb j hj.symm; ⟨u, u1.symm, u2⟩) (fun a ha _ _ j hj => ?_) (fun p hp hm hn j hj => ?_) m hm n hn hm hn
    · obtain ⟨t1, t2⟩ := isJoin_self_bears ha hj
      have e := F.twin j hj.1 a ha t1 t2
      rw [e]
      exact ⟨T.upp a, isJoin_self (F.mem a ha), bears_refl T _⟩
    · have z := nil_of_map_filter h2 p hp
      exact isOver_of F hm hn hj (by simpa using z)
  · refine anyTwo_all (P := fun m n => ¬ (T.bes m n = true ∧ quarrel T m n = true)) (fun a b z e => z ⟨by rw [F.sym]; exact e.1, by rw [quarrel_symm]; exact e.2⟩) fun p hp e => ?_
    have z := nil_of_map_filter h3 p hp
    rw [e.1, e.2] at z
    cases z
  · have z := List.flatMap_eq_nil_iff.mp h4 a ha
    have z2 := nil_of_map_filter z (b, c) (List.mem_flatMap.mpr ⟨b, List.mem_filter.mpr ⟨hb, e1⟩, List.mem_map.mpr ⟨c, List.mem_filter.mpr ⟨hc, e2⟩, rfl⟩⟩)
    rw [show bears T (b, c).2 (T.upp (b, c).1) = true from e3] at z2
    cases z2
theorem of_sound (F : Fair T) (h : Sound T) : flaws T = [] := by
  have h0 : fAbove T = [] := map_filter_nil fun m hm => by rw [h.above m hm]; rfl
  have h1 : fApart T = [] := map_filter_nil fun p hp => by
    obtain ⟨j, hj⟩ := h.apart p.1 (pairs_mem hp).1 p.2 (pairs_mem hp).2
    have z := joined_isSome hj
    cases e : joined T p.1 p.2 with
    | none => rw [e] at z; cases z
    | some k => rfl
  have h2 : fOver T = [] := map_filter_nil fun p hp => by
    rw [of_isOver F (pairs_mem hp).1 (pairs_mem hp).2 (h.over p.1 (pairs_mem hp).1 p.2 (pairs_mem hp).2)]
    rfl
  have h3 : fQuar T = [] := map_filter_nil fun p hp => by
    have z := h.quar p.1 (anyTwo_mem hp).1 p.2 (anyTwo_mem hp).2
    cases e1 : T.bes p.1 p.2 with
    | false => rfl
    | true =>
      cases e2 : quarrel T p.1 p.2 with
      | false => rfl
      | true => exact absurd ⟨e1, e2⟩ z
  have h4 : fBen T = [] := List.flatMap_eq_nil_iff.mpr fun a ha => map_filter_nil fun p hp => by
    obtain ⟨b, hb, hp⟩ := List.mem_flatMap.mp hp
    obtain ⟨c, hc, rfl⟩ := List.mem_map.mp hp
    obtain ⟨hb, e1⟩ := List.mem_filter.mp hb
    obtain ⟨hc, e2⟩ := List.mem_filter.mp hc
    have z := h.ben a ha b hb c hc e1 e2
    simpa using z
  unfold flaws
  rw [h0, h1, h2, h3, h4]
  rfl
theorem Fair.turned (F : Fair T) (L : Turned T U) : Fair U :=
  ⟨fun a ha => by rw [L.upp]; exact (L.mem _).mpr (F.mem a ((L.mem a).mp ha)), fun a b => by rw [L.bes]; exact F.sym a b, fun a ha b hb e1 e2 => by
    rw [L.bears] at e1 e2
    rw [L.upp]
    exact F.twin a ((L.mem a).mp ha) b ((L.mem b).mp hb) e1 e2⟩
/-- in another order there is a flaw just where there was -/
theorem Turned.flaw (L : Turned T U) (F : Fair T) : (flaw U).isNone = (flaw T).isNone := by
  have key : ∀ {T U : Tb α}, Turned T U → Fair T → flaws T = [] → flaws U = [] := fun L F h => of_sound (F.turned L) (L.sound (sound_of F h))
  have e : flaws T = [] ↔ flaws U = [] := ⟨key L F, key L.symm (F.turned L)⟩
  unfold Hm.flaw
  cases e1 : flaws T with
  | nil => rw [e.mp e1]
  | cons x r =>
    cases e2 : flaws U with
    | nil => rw [e.mpr e2] at e1; cases e1
    | cons y r => rfl
end
end Hm
/-! Plain tables: lists and assoc lists; the table that is made of one, under other names, in another order, by rights. -/
namespace Hm
section
variable {α β γ δ : Type} [DecidableEq α] [DecidableEq β]
def look (l : List (α × γ)) (a : α) : Option γ := (l.find? fun p => decide (p.1 = a)).map (·.2)
def put (l : List (α × γ)) (a : α) (v : γ) : List (α × γ) := if (l.any fun p => decide (p.1 = a)) = true then l.map (fun p => if p.1 = a then (p.1, v) else p) else l ++ [(a, v)]
theorem look_nil (a : α) : look ([] : List (α × γ)) a = none := rfl
theorem look_cons (p : α × γ) (l : List (α × γ)) (a : α) : look (p :: l) a = if p.1 = a then some p.2 else look l a := by
  unfold look
  rw [List.find?_cons]
  by_cases e : p.1 = a
  · rw [if_pos e, decide_eq_true e]; rfl
  · rw [if_neg e, decide_eq_false e]
theorem look_mem {a : α} {v : γ} : ∀ {l : List (α × γ)}, look l a = some v → (a, v) ∈ l
  | [], h => by cases h
  | p :: l, h => by
    rw [look_cons] at h
    split at h
    · rename_i e
      cases h
      rw [← e]
      exact List.mem_cons_self
    · exact List.mem_cons_of_mem _ (look_mem h)
theorem look_none {a : α} : ∀ {l : List (α × γ)}, a ∉ l.map (·.1) → look l a = none
  | [], _ => rfl
  | p :: l, h => by
    rw [List.map_cons, List.mem_cons, not_or] at h
    rw [look_cons, if_neg fun e => h.1 e.symm, look_none h.2]
theorem look_some {a : α} : ∀ {l : List (α × γ)}, a ∈ l.map (·.1) → ∃ v, look l a = some v
  | [], h => by cases h
  | p :: l, h => by
    rw [look_cons]
    by_cases e : p.1 = a
    · exact ⟨p.2, if_pos e⟩
    · rw [if_neg e]
      rw [List.map_cons, List.mem_cons] at h
      rcases h with h | h
      · exact absurd h.symm e
      · exact look_some h
theorem look_map (f : α → β) (g : γ → δ) (a : α) : ∀ {l : List (α × γ)}, (∀ p ∈ l, f p.1 = f a → p.1 = a) → look (l.map fun p => (f p.1, g p.2)) (f a) = (look l a).map g
  | [], _ => rfl
  | p :: l, h => by
    rw [List.map_cons, look_cons, look_cons, look_map f g a fun q hq => h q (List.mem_cons_of_mem _ hq)]
    by_cases e : p.1 = a
    · rw [if_pos e, if_pos (congrArg f e)]; rfl
    · rw [if_neg e, if_neg fun z => e (h p List.mem_cons_self z)]
theorem look_zip {a : α} : ∀ {xs : List α} {ys : List γ} {i : Nat}, xs.Nodup → xs.length = ys.length → xs[i]? = some a → look (xs.zip ys) a = ys[i]?
  | [], _, _, _, _, h => by simp at h
  | x :: xs, [], _, _, h, _ => by simp at h
  | x :: xs, y :: ys, i, hn, hl, hi => by
    rw [List.zip_cons_cons, look_cons]
    cases i with
    | zero =>
      have e : x = a := by simpa using hi
      rw [if_pos e]; rfl
    | succ i =>
      have hi' : xs[i]? = some a := by simpa using hi
      have hm : a ∈ xs := List.mem_of_getElem? hi'
      have hne : ¬ x = a := fun e => (List.nodup_cons.mp hn).1 (e ▸ hm)
      rw [if_neg hne, look_zip (List.nodup_cons.mp hn).2 (by simpa using hl) hi']; rfl
theorem put_keys {a b : α} {v : γ} {l : List (α × γ)} (h : b ∈ (put l a v).map (·.1)) : b ∈ l.map (·.1) ∨ b = a := by
  unfold put at h
  split at h
  · rw [List.map_map] at h
    obtain ⟨p, hp, e⟩ := List.mem_map.mp h
    refine .inl (List.mem_map.mpr ⟨p, hp, ?_⟩)
    rw [← e]
    show p.1 = (if p.1 = a then (p.1, v) else p).1
    split <;> rfl
  · rw [List.map_append, List.mem_append] at h
    rcases h with h | h
    · exact .inl h
    · exact .inr (by simpa using h)
theorem put_mem {a : α} {v : γ} {l : List (α × γ)} {p : α × γ} (h : p ∈ put l a v) : p ∈ l ∨ p = (a, v) := by
  unfold put at h
  split at h
  · obtain ⟨q, hq, e⟩ := List.mem_map.mp h
    split at e
    · rename_i z
      exact .inr (by rw [← e, z])
    · exact .inl (e ▸ hq)
  · rcases List.mem_append.mp h with h | h
    · exact .inl h
    · exact .inr (by simpa using h)
theorem put_nodup {a : α} {v : γ} {l : List (α × γ)} (h : (l.map (·.1)).Nodup) : ((put l a v).map (·.1)).Nodup := by
  unfold put
  split
  · rw [List.map_map, show ((fun p : α × γ => p.1) ∘ fun p => if p.1 = a then (p.1, v) else p) = fun p => p.1 from funext fun p => by
      show (if p.1 = a then (p.1, v) else p).1 = p.1
      split <;> rfl]
    exact h
  · rename_i hn
    rw [List.map_append, List.nodup_append]
    refine ⟨h, by simp, fun x hx y hy e => hn ?_⟩
    have ey : y = a := by simpa using hy
    obtain ⟨p, hp, e2⟩ := List.mem_map.mp hx
    exact List.any_eq_true.mpr ⟨p, hp, decide_eq_true (by rw [e2, e, ey])⟩
theorem put_len {a : α} {v : γ} {l : List (α × γ)} : (put l a v).length ≤ l.length + 1 := by
  unfold put
  split
  · rw [List.length_map]; omega
  · rw [List.length_append]; exact Nat.le_refl _

/-- a table as plain lists -/
structure Pl (α : Type) where
  kinds : List α
  near : List (α × α)
  worth : List (α × Nat)
  upper : List (α × α)
def made (P : Pl α) : Tb α := ⟨P.kinds, fun a b => decide ((a, b) ∈ P.near) || decide ((b, a) ∈ P.near), fun a => (look P.worth a).getD 0, fun a => (look P.upper a).getD a⟩
structure PlOk (P : Pl α) (n : Nat) : Prop where
  one : 1 ≤ P.kinds.length
  few : P.kinds.length ≤ 8
  nd : P.kinds.Nodup
  near : ∀ p ∈ P.near, p.1 ∈ P.kinds ∧ p.2 ∈ P.kinds
  many : P.near.length ≤ n
  worth : ∀ p ∈ P.worth, p.1 ∈ P.kinds ∧ (p.2 = 1 ∨ p.2 = 2)
  worthN : (P.worth.map (·.1)).Nodup
  upper : ∀ p ∈ P.upper, p.1 ∈ P.kinds ∧ p.2 ∈ P.kinds
  upperN : (P.upper.map (·.1)).Nodup
theorem nodup_sub_len : ∀ {l m : List α}, l.Nodup → (∀ a ∈ l, a ∈ m) → l.length ≤ m.length
  | [], _, _, _ => Nat.zero_le _
  | a :: l, m, hn, h => by
    have hm : a ∈ m := h a List.mem_cons_self
    have hl : l.length ≤ (m.erase a).length := nodup_sub_len (List.nodup_cons.mp hn).2 fun b hb => by
      have hne : b ≠ a := fun e => (List.nodup_cons.mp hn).1 (e ▸ hb)
      exact (List.mem_erase_of_ne hne).mpr (h b (List.mem_cons_of_mem _ hb))
    have := List.length_erase_of_mem hm
    have hp : 0 < m.length := List.length_pos_of_mem hm
    rw [List.length_cons]
    omega
theorem PlOk.worthL {P : Pl α} {n : Nat} (h : PlOk P n) : P.worth.length ≤ 8 := by
  have := nodup_sub_len h.worthN (m := P.kinds) fun a ha => let ⟨p, hp, e⟩ := List.mem_map.mp ha; e ▸ (h.worth p hp).1
  rw [List.length_map] at this
  exact Nat.le_trans this h.few
theorem PlOk.upperL {P : Pl α} {n : Nat} (h : PlOk P n) : P.upper.length ≤ 8 := by
  have := nodup_sub_len h.upperN (m := P.kinds) fun a ha => let ⟨p, hp, e⟩ := List.mem_map.mp ha; e ▸ (h.upper p hp).1
  rw [List.length_map] at this
  exact Nat.le_trans this h.few
theorem made_mem {P : Pl α} {n : Nat} (h : PlOk P n) {a : α} (ha : a ∈ P.kinds) : (made P).upp a ∈ P.kinds := by
  show (look P.upper a).getD a ∈ P.kinds
  cases e : look P.upper a with
  | none => exact ha
  | some b => exact (h.upper _ (look_mem e)).2
theorem made_sym (P : Pl α) (a b : α) : (made P).bes a b = (made P).bes b a := Bool.or_comm _ _
theorem made_wor {P : Pl α} {n : Nat} (h : PlOk P n) (a : α) : (made P).wor a ≤ 2 := by
  show (look P.worth a).getD 0 ≤ 2
  cases e : look P.worth a with
  | none => exact Nat.zero_le _
  | some v =>
    have := (h.worth _ (look_mem e)).2
    show v ≤ 2
    omega
/-- under other names -/
def led (f : α → β) (P : Pl α) : Pl β := ⟨P.kinds.map f, P.near.map fun p => (f p.1, f p.2), P.worth.map fun p => (f p.1, p.2), P.upper.map fun p => (f p.1, f p.2)⟩
theorem nodup_map {f : α → β} : ∀ {l : List α}, (∀ a ∈ l, ∀ b ∈ l, f a = f b → a = b) → l.Nodup → (l.map f).Nodup
  | [], _, _ => by simp
  | a :: l, h, hn => by
    obtain ⟨h1, h2⟩ := List.nodup_cons.mp hn
    rw [List.map_cons, List.nodup_cons]
    refine ⟨fun hm => ?_, nodup_map (fun x hx y hy => h x (List.mem_cons_of_mem _ hx) y (List.mem_cons_of_mem _ hy)) h2⟩
    obtain ⟨b, hb, e⟩ := List.mem_map.mp hm
    exact h1 (h b (List.mem_cons_of_mem _ hb) a List.mem_cons_self e ▸ hb)
theorem led_ok {f : α → β} {P : Pl α} {n : Nat} (h : PlOk P n) (hf : ∀ a ∈ P.kinds, ∀ b ∈ P.kinds, f a = f b → a = b) : PlOk (led f P) n where
  one := by show 1 ≤ (P.kinds.map f).length; rw [List.length_map]; exact h.one
  few := by show (P.kinds.map f).length ≤ 8; rw [List.length_map]; exact h.few
  nd := nodup_map hf h.nd
  near := fun p hp => by
    obtain ⟨q, hq, rfl⟩ := List.mem_map.mp hp
    exact ⟨List.mem_map.mpr ⟨_, (h.near q hq).1, rfl⟩, List.mem_map.mpr ⟨_, (h.near q hq).2, rfl⟩⟩
  many := by show (P.near.map _).length ≤ n; rw [List.length_map]; exact h.many
  worth := fun p hp => by
    obtain ⟨q, hq, rfl⟩ := List.mem_map.mp hp
    exact ⟨List.mem_map.mpr ⟨_, (h.worth q hq).1, rfl⟩, (h.worth q hq).2⟩
  worthN := by
    show ((P.worth.map fun p => (f p.1, p.2)).map (·.1)).Nodup
    rw [List.map_map, show ((fun p : β × Nat => p.1) ∘ fun p : α × Nat => (f p.1, p.2)) = f ∘ (fun p => p.1) from rfl, ← List.map_map]
    exact nodup_map (fun a ha b hb => by
      obtain ⟨p, hp, rfl⟩ := List.mem_map.mp ha
      obtain ⟨q, hq, rfl⟩ := List.mem_map.mp hb
      exact hf _ (h.worth p hp).1 _ (h.worth q hq).1) h.worthN
  upper := fun p hp => by
    obtain ⟨q, hq, rfl⟩ := List.mem_map.mp hp
    exact ⟨List.mem_map.mpr ⟨_, (h.upper q hq).1, rfl⟩, List.mem_map.mpr ⟨_, (h.upper q hq).2, rfl⟩⟩
  upperN := by
    show ((P.upper.map fun p => (f p.1, f p.2)).map (·.1)).Nodup
    rw [List.map_map, show ((fun p : β × β => p.1) ∘ fun p : α × α => (f p.1, f p.2)) = f ∘ (fun p => p.1) from rfl, ← List.map_map]
    exact nodup_map (fun a ha b hb => by
      obtain ⟨p, hp, rfl⟩ := List.mem_map.mp ha
      obtain ⟨q, hq, rfl⟩ := List.mem_map.mp hb
      exact hf _ (h.upper p hp).1 _ (h.upper q hq).1) h.upperN
theorem made_led {f : α → β} {P : Pl α} {n : Nat} (h : PlOk P n) (hf : ∀ a ∈ P.kinds, ∀ b ∈ P.kinds, f a = f b → a = b) : Led f (made P) (made (led f P)) where
  ord := rfl
  bes := fun a ha b hb => by
    have key : ∀ a ∈ P.kinds, ∀ b ∈ P.kinds, decide ((f a, f b) ∈ P.near.map fun p => (f p.1, f p.2)) = decide ((a, b) ∈ P.near) := fun a ha b hb => by
      refine decide_eq_decide.mpr ⟨fun z => ?_, fun z => List.mem_map.mpr ⟨_, z, rfl⟩⟩
      obtain ⟨q, hq, e⟩ := List.mem_map.mp z
      have e1 : f q.1 = f a := congrArg Prod.fst e
      have e2 : f q.2 = f b := congrArg Prod.snd e
      have := hf _ (h.near q hq).1 _ ha e1
      have := hf _ (h.near q hq).2 _ hb e2
      obtain ⟨q1, q2⟩ := q
      simp only at *
      subst_vars
      exact hq
    show (decide ((f a, f b) ∈ P.near.map fun p => (f p.1, f p.2)) || decide ((f b, f a) ∈ P.near.map fun p => (f p.1, f p.2))) = _
    rw [key a ha b hb, key b hb a ha]
    rfl
  wor := fun a ha => by
    show (look (P.worth.map fun p => (f p.1, p.2)) (f a)).getD 0 = (look P.worth a).getD 0
    have := look_map f (fun x : Nat => x) a (l := P.worth) fun p hp e => hf _ (h.worth p hp).1 _ ha e
    rw [this]
    cases look P.worth a <;> rfl
  upp := fun a ha => by
    show (look (P.upper.map fun p => (f p.1, f p.2)) (f a)).getD (f a) = f ((look P.upper a).getD a)
    have := look_map f f a (l := P.upper) fun p hp e => hf _ (h.upper p hp).1 _ ha e
    rw [this]
    cases look P.upper a <;> rfl
  mem := fun a ha => made_mem h ha
/-- in another order -/
theorem made_turned {P : Pl α} {ks : List α} (h : ks.Perm P.kinds) : Turned (made P) (made { P with kinds := ks }) := ⟨fun _ => h.mem_iff, rfl, rfl, rfl⟩
theorem turned_ok {P : Pl α} {n : Nat} {ks : List α} (h : PlOk P n) (hp : ks.Perm P.kinds) : PlOk { P with kinds := ks } n where
  one := by show 1 ≤ ks.length; rw [hp.length_eq]; exact h.one
  few := by show ks.length ≤ 8; rw [hp.length_eq]; exact h.few
  nd := hp.nodup_iff.mpr h.nd
  near := fun p q => ⟨hp.mem_iff.mpr (h.near p q).1, hp.mem_iff.mpr (h.near p q).2⟩
  many := h.many
  worth := fun p q => ⟨hp.mem_iff.mpr (h.worth p q).1, (h.worth p q).2⟩
  worthN := h.worthN
  upper := fun p q => ⟨hp.mem_iff.mpr (h.upper p q).1, hp.mem_iff.mpr (h.upper p q).2⟩
  upperN := h.upperN

/-! ### by rights -/
end
inductive Rt where | r | rw | rR | rwR | rwRW
  deriving DecidableEq
def Rt.hw : Rt → Bool | .r => false | .rw => true | .rR => false | .rwR => true | .rwRW => true
def Rt.hR : Rt → Bool | .r => false | .rw => false | .rR => true | .rwR => true | .rwRW => true
def Rt.hW : Rt → Bool | .rwRW => true | _ => false
def Rt.goal (x : Rt) : Rt := if x.hw then .rw else .r
def side (a b : Rt) : Bool := if a.hW || b.hW then false else !(a.hw && b.hR) && !(b.hw && a.hR)
section
variable {α : Type} [DecidableEq α]
def pile (ns : List α) (rs : List Rt) (n : α) : Rt := (look (ns.zip rs) n).getD .r
def nearOf (g : α → Rt) (ns : List α) : List (α × α) := (anyTwo ns).filter fun p => side (g p.1) (g p.2)
def worthOf (g : α → Rt) (ns : List α) : List (α × Nat) := (ns.filter fun n => (g n).hR).map fun n => (n, if (g n).hW then 2 else 1)
def goalsOf (g : α → Rt) (all : List α) (n : α) : List α := all.filter fun m => decide (g m = (g n).goal)
def upperOf (g : α → Rt) (all ns : List α) : List (α × α) := ns.filterMap fun n => (goalsOf g all n).head?.map fun m => (n, m)
def byRights (ns : List α) (rs : List Rt) : Pl α := ⟨ns, nearOf (pile ns rs) ns, worthOf (pile ns rs) ns, upperOf (pile ns rs) ns ns⟩
theorem anyTwo_len : ∀ l : List α, 2 * (anyTwo l).length = l.length * (l.length + 1)
  | [] => rfl
  | a :: r => by
    unfold anyTwo
    rw [List.length_append, List.length_map, List.length_cons, Nat.mul_add, anyTwo_len r, ← Nat.add_mul, Nat.mul_comm]
    congr 1
    omega
theorem anyTwo_few {l : List α} (h : l.length ≤ 8) : (anyTwo l).length ≤ 36 := by
  have e := anyTwo_len l
  have : l.length * (l.length + 1) ≤ 8 * 9 := Nat.mul_le_mul h (by omega)
  omega
theorem upperOf_keys {g : α → Rt} {all : List α} : ∀ {ns : List α} {p : α × α}, p ∈ upperOf g all ns → p.1 ∈ ns ∧ p.2 ∈ all := fun {ns p} h => by
  obtain ⟨n, hn, e⟩ := List.mem_filterMap.mp h
  cases z : (goalsOf g all n).head? with
  | none => rw [z] at e; cases e
  | some m =>
    rw [z] at e
    cases e
    exact ⟨hn, (List.mem_filter.mp (List.mem_of_mem_head? (Option.mem_def.mpr z))).1⟩
theorem upperOf_nodup {g : α → Rt} {all : List α} : ∀ {ns : List α}, ns.Nodup → ((upperOf g all ns).map (·.1)).Nodup
  | [], _ => by simp [upperOf]
  | n :: ns, h => by
    obtain ⟨h1, h2⟩ := List.nodup_cons.mp h
    have ih := upperOf_nodup (g := g) (all := all) h2
    unfold upperOf
    rw [List.filterMap_cons]
    cases z : (goalsOf g all n).head? with
    | none => exact ih
    | some m =>
      show (n :: (upperOf g all ns).map (·.1)).Nodup
      rw [List.nodup_cons]
      refine ⟨fun hm => ?_, ih⟩
      obtain ⟨p, hp, e⟩ := List.mem_map.mp hm
      exact h1 (e ▸ (upperOf_keys hp).1)
theorem nodup_filter' {p : α → Bool} {l : List α} (h : l.Nodup) : (l.filter p).Nodup := h.filter _
theorem byRights_ok {ns : List α} {rs : List Rt} (h1 : 1 ≤ ns.length) (h8 : ns.length ≤ 8) (hn : ns.Nodup) : PlOk (byRights ns rs) 36 where
  one := h1
  few := h8
  nd := hn
  near := fun p hp => anyTwo_mem (List.mem_filter.mp hp).1
  many := Nat.le_trans (List.length_filter_le _ _) (anyTwo_few h8)
  worth := fun p hp => by
    obtain ⟨n, hm, rfl⟩ := List.mem_map.mp hp
    refine ⟨(List.mem_filter.mp hm).1, ?_⟩
    show (if _ then 2 else 1) = 1 ∨ (if _ then 2 else 1) = 2
    split
    · exact .inr rfl
    · exact .inl rfl
  worthN := by
    show ((worthOf _ ns).map (·.1)).Nodup
    unfold worthOf
    rw [List.map_map, show ((fun p : α × Nat => p.1) ∘ fun n => (n, if (pile ns rs n).hW then 2 else 1)) = id from rfl, List.map_id]
    exact nodup_filter' hn
  upper := fun p hp => upperOf_keys hp
  upperN := upperOf_nodup hn
end
end Hm
set_option Elab.async false
set_option linter.all false
set_option maxRecDepth 100000
set_option maxHeartbeats 4000000
/-! Rules of our own over the hand layer: a list or a tuple walked, enumerate of a tuple. -/
namespace Ho
open PySem PySem.Spec PyProof.Rows L2
/-- a list or a tuple -/
def SqA (K : PySem.W.Frag) (H : Hp) (a : Addr) (xs : List V) : Prop := SqL K H a xs ∨ SqT K H a xs
/-- what stood at a stands there -/
def StayAt (H1 : Hp) (a : Addr) (H : Hp) : Prop := ∀ o, H1 a = some o → H a = some o
theorem SqL.stay {K : PySem.W.Frag} {H1 H : Hp} {a : Addr} {xs : List V} (h : SqL K H1 a xs) (s : StayAt H1 a H) : SqL K H a xs :=
  h.elim (fun h => .inl (h.elim (fun h => .inl (s _ h)) fun ⟨o, h⟩ => .inr ⟨o, s _ h⟩)) fun h => .inr h
theorem SqT.stay {K : PySem.W.Frag} {H1 H : Hp} {a : Addr} {xs : List V} (h : SqT K H1 a xs) (s : StayAt H1 a H) : SqT K H a xs :=
  h.elim (fun h => .inl (h.elim (fun h => .inl (s _ h)) fun ⟨o, h⟩ => .inr ⟨o, s _ h⟩)) fun h => .inr h
theorem SqA.stay {K : PySem.W.Frag} {H1 H : Hp} {a : Addr} {xs : List V} (h : SqA K H1 a xs) (s : StayAt H1 a H) : SqA K H a xs :=
  h.elim (fun h => .inl (SqL.stay h s)) fun h => .inr (SqT.stay h s)
theorem stay_of {H H' : Hp} (s : Same H H') (a : Addr) : StayAt H a H' := fun o h => s a o h
theorem SqA.same {K : PySem.W.Frag} {H H' : Hp} {a : Addr} {xs : List V} (h : SqA K H a xs) (s : Same H H') : SqA K H' a xs := h.stay (stay_of s a)
theorem SqT.same {K : PySem.W.Frag} {H H' : Hp} {a : Addr} {xs : List V} (h : SqT K H a xs) (s : Same H H') : SqT K H' a xs := SqT.stay h (stay_of s a)
theorem same_new {H : Hp} {p : Addr} {o : HO} (h : H p = none) : Same H (upd H p o) := fun b u e => by
  rw [upd_ne (ne_of_none e h)]
  exact e

/-! ### a list or a tuple walked -/
def iSeq (K : PySem.W.Frag) (tl : TE) : TI := fun σ H R => tl σ H fun x H1 => ∃ (a : Addr) (xs : List V), x = .ref a ∧ SqA K H1 a xs ∧ ∀ J, Walk J xs.length (StayAt H1 a) (YAt xs) → R J H1
theorem pi_seq {X : Cx} {tg l : Expr} {tl : TE} (hl : PE X l tl) : PI X tg l (iSeq X.K tl) := by
  refine ⟨fun pins s σ H R I h => thn (hl.run pins s σ H _ I h) fun v s1 ⟨x, H1, I1, r1, a, xs, e, hq, q⟩ => ?_⟩
  subst e
  cases r1
  have mine : ∀ b ∈ [s1.heap.objs.size], FpOk X pins H1 b := fun b hb => by
    rw [List.mem_singleton.mp hb]
    exact I1.fpOk (Nat.le_refl _) (I1.hok.fresh (Nat.le_refl _))
  rcases hq with hq | hq
  · obtain ⟨its, rv, p, hz⟩ := I1.list hq
    refine wpAny_pyIter_list p.isList ⟨_, [s1.heap.objs.size], _, _, H1, rfl, I1.kept (t' := s1.toks) fun b o e => Heap.get?_push_of_some _ e, turn_list a _, ⟨_, Heap.get?_push_size _ rfl, rfl, rfl⟩, mine, q _ ?_⟩
    exact (walk_list (K := X.K) (a := a) (xs := xs)).mono (fun H s => SqL.stay hq s) fun _ _ _ _ _ _ y => y
  · obtain ⟨its, rv, p, hz⟩ := I1.tuple hq
    refine wpAny_pyIter_tuple (show s1.heap.IsTuple a its.toArray from p) ⟨_, [s1.heap.objs.size], _, _, H1, rfl, I1.kept (t' := s1.toks) fun b o e => Heap.get?_push_of_some _ e, turn_tuple a _, ⟨_, Heap.get?_push_size _ rfl, rfl, rfl⟩, mine, q _ ?_⟩
    exact (walk_tup (K := X.K) (a := a) (xs := xs)).mono (fun H s => SqT.stay hq s) fun _ _ _ _ _ _ y => y

/-! ### enumerate of a tuple -/
theorem meets_enumT (l : Addr) (items : Array Value) : Meets (Builtin.«enumerate.__new__» ⟨[.type "enumerate", .ref l], []⟩) (fun _ R s => s.heap.IsTuple l items ∧
      R (.ok (.ret (.ref (s.heap.push { cls := .type "tuple_iterator", data := .fields #[.ref l, .int 0 0] }).objs.size)))
        { s with heap := (s.heap.push { cls := .type "tuple_iterator", data := .fields #[.ref l, .int 0 0] }).push { cls := .type "enumerate", data := .fields #[.none, .bool false, .ref s.heap.objs.size, rawInt 0, .none, .none] } }) :=
  .of_wp fun prog w A R s h => by
    obtain ⟨hp, g, d, tk, os⟩ := s
    obtain ⟨hL, h⟩ := h
    have hsub := sub_enumerate
    have hL' : Heap.IsTuple (Shared.heap ⟨hp, g, d, tk, os⟩) l items := hL
    wp_walk using wpAny_pyIter_tuple hL'
    refine wpAny_stack_any fun st => wpAny_pure ?_
    split
    · rename_i c _ _ _ _ _
      cases (c == Value.type "enumerate")
      all_goals
        wp_walk using wpAny_pyIter_tuple hL'
        exact ⟨_, rfl, h⟩
    · wp_walk using wpAny_pyIter_tuple hL'
      exact ⟨_, rfl, h⟩
theorem call_enumT {prog : Program} {w : World} {A : Around} {E : Value → Shared → Prop} {s : Shared} {l : Addr} {items : Array Value} {Q : Value → Shared → Prop} (hL : s.heap.IsTuple l items)
    (h : ∀ h', IsEnum h' (s.heap.objs.size + 1) s.heap.objs.size 0 .none → h'.IsTupleIter s.heap.objs.size l 0 → (∀ b o, s.heap.get? b = some o → h'.get? b = some o) → Q (.ref (s.heap.objs.size + 1)) { s with heap := h' }) :
    wpAny (model prog w) A (call (.type "enumerate") [.ref l]) Q E s := by
  refine callType_new F.called_enumerate (by decide) (F.typeCall_enumerate_1 _) (F.newCall_enumerate_1 _) (fun obj => F.args_object_init_2 obj _) F.entry_enumerate_new (meets_enumT l items) ⟨hL, ?_⟩
  generalize ho : ({ cls := .type "tuple_iterator", data := .fields #[.ref l, .int 0 0] } : Obj) = ot
  have hf : ot.isFreed = false := by rw [← ho]; rfl
  have hz : (s.heap.push ot).objs.size = s.heap.objs.size + 1 := Heap.size_push ..
  rw [hz]
  have he := Heap.get?_push_size (s.heap.push ot) (o := { cls := .type "enumerate", data := .fields #[.none, .bool false, .ref s.heap.objs.size, rawInt 0, .none, .none] }) rfl
  rw [hz] at he
  exact ⟨⟨_, he, rfl⟩, h _ he ⟨ot, Heap.get?_push_of_some _ (Heap.get?_push_size _ hf), by rw [← ho], by rw [← ho]; rfl⟩ fun b o x => Heap.get?_push_of_some _ (Heap.get?_push_of_some _ x)⟩
/-- the tuple at a, each item with its number in a new pair -/
def IteT (K : PySem.W.Frag) (a : Addr) : It :=
  ⟨fun i H => ∃ (xs : List V) (x : V), SqT K H a xs ∧ xs[i]? = some x, fun i H v H' => ∃ T x, v = .ref T ∧ H T = none ∧ H' = upd H T (.tup [.int (i : Nat), x]) ∧ ∀ xs, SqT K H a xs → xs[i]? = some x, fun i H => ∃ xs : List V, SqT K H a xs ∧ xs.length = i⟩
theorem turn_enumT {P : Program} {w : World} {K : PySem.W.Frag} {elts : List Expr} {kk : Nat} {tpos : Pos} (a e it : Addr) (ha : a ≠ it) (hae : a ≠ e) :
    Turn P w K (.Tuple elts kk tpos) (IteT K a) [e, it] e (fun i h => (∃ old, IsEnum h e it ((i : Nat) : Int) old) ∧ h.IsTupleIter it a i ∧ e ≠ it) where
  mem := by simp
  obj := fun i h st b hb => by
    obtain ⟨⟨old, he⟩, ⟨o, ho, hc, hd⟩, _⟩ := st
    have e' : b = e ∨ b = it := by simpa using hb
    rcases e' with z | z
    · rw [z]; exact ⟨_, he, fun v q => nomatch q⟩
    · rw [z]; exact ⟨o, ho, fun v q => by rw [hd] at q; cases q⟩
  keep := fun i h h' st k => ⟨let ⟨old, he⟩ := st.1; ⟨old, k e (by simp) _ he⟩, st.2.1.at fun o q => k it (by simp) o q, st.2.2⟩
  item := by
    intro X hP hw hK hc i pins s σ H E I hf st hg
    subst hP hw hK
    obtain ⟨⟨old, he⟩, hit, hne⟩ := st
    obtain ⟨xs, x, hq, hx⟩ := hg
    obtain ⟨its, rv, p, hz⟩ := I.tuple hq
    obtain ⟨u, hu, ru⟩ := rv.get hx
    have hi : i < its.toArray.size := by simpa using (List.getElem?_eq_some_iff.mp hu).1
    have hel : e < s.heap.objs.size := Heap.lt_size he
    have hil : it < s.heap.objs.size := by obtain ⟨_, q, _⟩ := hit; exact Heap.lt_size q
    have D := Draws.tuple (prog := X.prog) (w := X.w) (A := X.A.in1) (I.ok.hd hc) it a ha its.toArray
    have St0 : s.heap.IsTupleIter it a i ∧ s.heap.IsTuple a its.toArray := ⟨hit, p⟩
    refine wpAny_pyNext_enum_itemD D he St0 hi hne (by simp [hne, Ne.symm hae]) fun y h' tk hy ho hst hT hsz hk => ?_
    have ey : y = u := by
      have e1 : its.toArray[i]? = some y := hy
      have e2 : its.toArray[i]? = some u := by simpa using hu
      exact Option.some.inj (e1.symm.trans e2)
    subst ey
    refine ⟨_, rfl, wpAny_letOwnedTupleGo_enum (s := { s with heap := h', toks := tk + 1 }) ho fun h'' he' sb => ?_⟩
    have hT2 : h''.get? s.heap.objs.size = some { cls := .type "tuple", data := .seq #[.int i tk, y] } := (sb.2 _ (Nat.ne_of_gt hel)).trans hT
    have new : ObjOk X.prog X.w (upd H s.heap.objs.size (.tup [.int (i : Nat), x])) h'' s.heap.objs.size (.tup [.int (i : Nat), x]) :=
      ⟨by show 2 ≤ sizeLine; decide, [.int i tk, y], .cons ⟨_, rfl⟩ (.cons ru .nil), ⟨_, hT2, rfl, _, rfl⟩⟩
    have I1 : Inv X pins σ (upd H s.heap.objs.size (.tup [.int (i : Nat), x])) { s with heap := h'', toks := tk + 1 } :=
      I.turnedNew (ch := [e, it]) (fun b ob hb q => (sb.2 b (fun z => hb (by simp [z]))).trans (hk b ob (fun z => hb (by simp [z])) (fun z => hb (by simp [z])) q)) hf (Nat.le_refl _) new
    refine ⟨.ref s.heap.objs.size, _, I1, rfl, ⟨_, x, rfl, I.hok.fresh (Nat.le_refl _), rfl, fun ys hy => by rw [I.tuple_inj hy hq]; exact hx⟩, ⟨⟨y, ?_⟩, hst.1.at fun o q => (sb.2 it (Ne.symm hne)).trans q, hne⟩, fun b hb => ?_⟩
    · have e1 : ((i + 1 : Nat) : Int) = (i : Int) + 1 := by omega
      rw [e1]; exact he'
    · have hb' : b < s.heap.objs.size := by
        have e' : b = e ∨ b = it := by simpa using hb
        rcases e' with z | z
        · rw [z]; exact hel
        · rw [z]; exact hil
      rw [upd_ne (Nat.ne_of_lt hb')]
      exact (hf b hb).1
  done := by
    intro X hP hw hK hc i pins s σ H E I hf st hg
    subst hP hw hK
    obtain ⟨⟨old, he⟩, hit, hne⟩ := st
    obtain ⟨xs, hq, hx⟩ := hg
    obtain ⟨its, rv, p, hz⟩ := I.tuple hq
    obtain ⟨f0, f1, f2, f3, f4, f5⟩ := hf it (by simp)
    subst hx
    have ez : xs.length = its.toArray.size := by simpa using rv.length
    rw [ez] at hit
    have D := Draws.tuple (prog := X.prog) (w := X.w) (A := X.A.in1) (I.ok.hd hc) it a ha its.toArray
    exact wpAny_pyNext_enum_endD D he ⟨hit, p⟩ fun h' eb => ⟨rfl, I.turned (t' := s.toks) (fun b o hb q => eb b o hb q) f0 f1 f3 f4 f5⟩
  self := fun A i s Q E st h => let ⟨⟨_, he⟩, _⟩ := st; wpAny_pyIter_enum he h
def iEnumT (K : PySem.W.Frag) (ta : TA) : TI := fun σ H R => ta σ H fun vs H1 => ∃ (a : Addr) (xs : List V), vs = [.ref a] ∧ SqT K H1 a xs ∧
  ∀ J, Walk J xs.length (StayAt H1 a) (YPair (fun i => some (.int (i : Nat))) (fun i => xs[i]?)) → R J H1
theorem pi_enumT {X : Cx} {e : Expr} {ta : TA} {p pos tpos : Pos} {elts : List Expr} {kk : Nat} (hg : Gl X "enumerate") (hm : X.mg "enumerate" = none) (ha : PA X [e] ta) (hs : starEach [e] X.env = [(false, eval e X.env)] := by rfl) :
    PI X (.Tuple elts kk tpos) (.Call (.Name "enumerate" p) [e] [] pos) (iEnumT X.K ta) := by
  refine ⟨fun pins s σ H R I h => Call_ (ld_blt I hg hm boot_enumerate (PyProof.Rows.callWith_type1 (thn (ha.run pos pins s σ H _ I h) fun us s1 ⟨vs, H1, I1, r1, a, xs, ex, hq, q⟩ => ?_) hs rfl))⟩
  subst ex
  obtain rfl : us = [Value.ref a] := by
    cases r1 with
    | cons r rr =>
      cases rr
      cases r
      rfl
  obtain ⟨its, rv, p', hz⟩ := I1.tuple hq
  have hlt : a < s1.heap.objs.size := by obtain ⟨_, q, _⟩ := p'; exact Heap.lt_size q
  refine call_enumT p' fun h' he hit hk => wpAny_pyIter_enum he ?_
  have I2 : Inv X pins σ H1 { s1 with heap := h' } := I1.kept (t' := s1.toks) hk
  have new : ∀ b ∈ [s1.heap.objs.size + 1, s1.heap.objs.size], s1.heap.objs.size ≤ b := fun b hb => by
    simp at hb
    omega
  refine ⟨_, [s1.heap.objs.size + 1, s1.heap.objs.size], _, _, H1, rfl, I2, turn_enumT a _ s1.heap.objs.size (Nat.ne_of_lt hlt) (Nat.ne_of_lt (Nat.lt_succ_of_lt hlt)), ⟨⟨.none, he⟩, hit, Nat.succ_ne_self _⟩, fun b hb => I1.fpOk (new b hb) (I1.hok.fresh (new b hb)), q _ ?_⟩
  refine ⟨fun i H' hi st => ⟨xs, xs[i], SqT.stay hq st, by simp [hi]⟩, fun H' st => ⟨xs, SqT.stay hq st, rfl⟩, fun i H' v H'' hi st y => ?_⟩
  obtain ⟨T, x, h1, h2, h3, h4⟩ := y
  exact ⟨T, .int (i : Nat), x, h1, h2, h3, rfl, h4 xs (SqT.stay hq st)⟩
end Ho
set_option Elab.async false
set_option linter.all false
set_option maxRecDepth 100000
set_option maxHeartbeats 4000000
/-! Rules of our own: dict.update, dict.get with None, dict of a tuple of pairs, dict(list(zip(a, b))). -/
namespace Ho
open PySem PySem.Spec PyProof.Rows L2
section
variable {X : Cx}
/-! ### d.update(e) -/
def rUpd : V → List V → Hp → VK → Prop := fun x vs H Q => ∃ (d e : Addr) (kvs more : List (Key × V)), x = .ref d ∧ vs = [.ref e] ∧ H d = some (.dK kvs) ∧ H e = some (.dK more) ∧ d ≠ e ∧ kvs.length + more.length ≤ sizeLine ∧ Q .non (upd H d (.dK (mergeK kvs more)))
theorem mt_upd : MtR X "dict.update" rUpd := by
  intro pins s σ H x vs v us Q I rx rv h
  obtain ⟨d, e, kvs, more, rfl, rfl, hd, he, hne, hl, q⟩ := h
  obtain rfl : v = Value.ref d := rx
  obtain ⟨u, rfl, ru⟩ := rv.one
  obtain rfl : u = Value.ref e := ru
  obtain ⟨z1, s1, vs1, rel1, dd1⟩ := dk_of I.hok hd
  obtain ⟨z2, s2, vs2, rel2, dd2⟩ := dk_of I.hok he
  have hsz : vs1.length + vs2.length ≤ sizeLine := by rw [← rel1.length, ← rel2.length]; exact hl
  refine call_meetsIn PySem.F.slot_dict_update dd1.typeIs PySem.F.entry_dict_update (PySem.F.args_dict_update_2 _ _) (meets_dict_update (mixKind X.prog X.w) d e hne s2) ⟨vs1, vs2, dd1, dd2, hsz, fun h' dd' _ hs => ?_⟩
  have hz : (mergeK kvs more).length ≤ sizeLine := Nat.le_trans (length_mergeK more kvs) hl
  have hex : ∃ q, h'.get? d = some q := let ⟨q, _, _, hq, _⟩ := dd'; ⟨q, hq⟩
  exact ⟨.non, _, d_write I (by rw [hd]; exact True.intro) hs hex (dk_new hz s1 (KV.merge rel2 rel1) dd'), rfl, q⟩
/-! ### d.get(y), y may be None -/
def rGetN : V → List V → Hp → VK → Prop := fun x vs H Q => ∃ (d : Addr) (y : V) (kvs : List (Key × V)), x = .ref d ∧ vs = [y] ∧ H d = some (.dK kvs) ∧ ((y = .non ∧ Q .non H) ∨ ∃ k, y = kV k ∧ Q ((valV kvs k).getD .non) H)
theorem mt_getN (hu : X.A.units + 1 < cLine) : MtR X "dict.get" rGetN := by
  intro pins s σ H x vs v us Q I rx rv h
  obtain ⟨d, y, kvs, rfl, rfl, hd, q⟩ := h
  obtain rfl : v = Value.ref d := rx
  obtain ⟨u, rfl, ru⟩ := rv.one
  rcases q with ⟨rfl, q⟩ | ⟨k, rfl, q⟩
  · obtain rfl : u = Value.none := ru
    obtain ⟨z1, s1, vs1, rel1, dd1⟩ := dk_of I.hok hd
    obtain ⟨f, hm, hf⟩ := none_map dd1
    refine call_meetsIn PySem.F.slot_dict_get dd1.typeIs PySem.F.entry_dict_get (PySem.F.args_dict_get_2 _ _) (meets_dict_get (noneKind X.prog X.w) d (k := none) (show (noneKind X.prog X.w).is none .none = true from rfl) s1) ⟨_, hm, ?_⟩
    rw [hf]
    exact ⟨.non, _, I.tok _, rfl, q⟩
  · exact d_get1 hu I (DGet.k hd) ru fun w' s' I' rw' => ⟨_, H, I', rw', q⟩
/-! ### dict(t), t a tuple of pairs -/
theorem tup_plain {pins : List (Addr × Obj)} {σ : L2.St} {H : Hp} {s : Shared} {a : Addr} {xs : List V} {o : Obj} {ys : Array Value} {n : Nat} (I : Inv X pins σ H s) (lk : X.K.lookup a = some o) (hc : o.cls = .type "tuple") (hd : o.data = .seq ys n) (hn : o.dict = none) : PlainSeq "tuple" s.heap a ys :=
  ⟨o, n, I.kIn _ _ lk, hc, hn, hd⟩
/-- the same pairs, by their values -/
theorem pairs_vals {pins : List (Addr × Obj)} {σ : L2.St} {H : Hp} {s : Shared} (I : Inv X pins σ H s) : ∀ {ps : List Addr} {kvs : List (Key × V)}, Paired (fun p kv => SqT X.K H p [kV kv.1, kv.2]) ps kvs →
    ∃ (prs : List (Key × Value)) (pq : List (Value × Value)), KV kvs prs ∧ pq.length = ps.length ∧ prs.length = ps.length ∧ (∀ (j : Nat) (k v : Value), pq[j]? = some (k, v) → ∃ b q, ps[j]? = some b ∧ PairAt s.heap b k v ∧ prs[j]? = some (q, v) ∧ keyIs q k = true)
  | _, _, .nil => ⟨[], [], .nil, rfl, rfl, fun j k v e => by simp at e⟩
  | _, _, .cons (a := p) (b := kv) h t => by
    obtain ⟨prs, pq, r, l1, l2, hp⟩ := pairs_vals I t
    obtain ⟨its, rv, ht, _⟩ := I.tuple h
    obtain ⟨u, y, ei, ru, ry⟩ := vals2 rv
    subst ei
    refine ⟨(kv.1, y) :: prs, (u, y) :: pq, .cons ⟨rfl, ry⟩ r, by rw [List.length_cons, List.length_cons, l1], by rw [List.length_cons, List.length_cons, l2], fun j k v e => ?_⟩
    cases j with
    | zero =>
      obtain ⟨rfl, rfl⟩ := Prod.mk.inj (Option.some.inj e)
      exact ⟨p, kv.1, rfl, .inl ht, rfl, kV_is (P := X.prog) (w := X.w) ru⟩
    | succ j =>
      obtain ⟨b, q, e1, e2, e3, e4⟩ := hp j k v (by simpa using e)
      exact ⟨b, q, by simpa using e1, e2, by simpa using e3, e4⟩
def rDictT (K : PySem.W.Frag) : List V → Hp → VK → Prop := fun xs H Q => ∃ (a : Addr) (ps : List Addr) (kvs : List (Key × V)) (o : Obj) (n : Nat), xs = [.ref a] ∧ K.lookup a = some o ∧ o.cls = .type "tuple" ∧ o.dict = none ∧ o.data = .seq (ps.map Value.ref).toArray n ∧ ps.length ≤ sizeLine ∧ Paired (fun p kv => SqT K H p [kV kv.1, kv.2]) ps kvs ∧
  ∀ p, H p = none → Q (.ref p) (upd H p (.dK (mergeK [] kvs)))
theorem call_dictT (hcalm : X.calm = true) : CallR X (.type "dict") (rDictT X.K) := by
  intro pins s σ H xs us Q I r q
  obtain ⟨a, ps, kvs, o, n, rfl, lk, hc, hdn, hd, hl, hp, q⟩ := q
  obtain ⟨u, rfl, rx⟩ := vals1 r
  cases rx
  obtain ⟨prs, pq, rel, l1, l2, hv⟩ := pairs_vals I hp
  have ok : PlainSeq "tuple" s.heap a (ps.map Value.ref).toArray ∧ PairItems s.heap (ps.map Value.ref).toArray (fun j => (ps[j]?).getD 0) pq := by
    refine ⟨⟨o, n, I.kIn _ _ lk, hc, hdn, hd⟩, by simp [l1], fun j k v e => ?_⟩
    obtain ⟨b, q, e1, e2, _⟩ := hv j k v e
    refine ⟨by simp [e1], ?_⟩
    show PairAt s.heap ((ps[j]?).getD 0) k v
    rw [e1]
    exact e2
  refine PySem.call_dict_pairs (knd := mixKind X.prog X.w) (kvs := prs) (PairArg.tuple a (ps.map Value.ref).toArray (fun j => (ps[j]?).getD 0) pq) (I.ok.hd hcalm) ok ⟨by rw [l1, l2], fun i k v e => ?_⟩ (by rw [l1]; exact hl) fun h' tk hd' k => ?_
  · obtain ⟨b, q, _, _, e3, e4⟩ := hv i k v e
    exact ⟨q, e3, e4⟩
  · have hm : (s.heap.objs.size == sysModules) = false := beq_eq_false_iff_ne.mpr (Nat.ne_of_gt I.big)
    have hlen : (mergeK [] kvs).length ≤ sizeLine := by
      refine Nat.le_trans (length_mergeK kvs []) ?_
      rw [List.length_nil, Nat.zero_add, rel.length, l2]
      exact hl
    exact ⟨.ref s.heap.objs.size, upd H s.heap.objs.size (.dK (mergeK [] kvs)), I.laid (t' := tk) (fun b o e => k b o (fun z => nomatch z) e) (Nat.le_refl _) (show ObjOk X.prog X.w _ _ _ (.dK (mergeK [] kvs)) from ⟨hlen, hm, merged [] prs, KV.merge rel .nil, hd'⟩), rfl, q _ (I.hok.fresh (Nat.le_refl _))⟩
end
end Ho
set_option Elab.async false
set_option linter.all false
set_option maxRecDepth 100000
set_option maxHeartbeats 4000000
/-! dict(list(zip(a, b))). -/
namespace Ho
open PySem PySem.Spec PyProof.Rows L2
/-- a zip of two lists within its walk, i pairs given; S: where the pairs go -/
structure ZipSt (z TI TO i1 i2 l1 l2 S : Addr) (xs ys : Array Value) (h : Heap) (i : Nat) : Prop where
  ti : IsPair h TI (.ref i1) (.ref i2)
  a1 : h.IsListIter i1 l1 i
  a2 : h.IsListIter i2 l2 i
  b1 : h.IsList l1 xs
  b2 : h.IsList l2 ys
  to : ∃ o, h.get? TO = some o
  out : (IsZip h z TI TO .none ∧ IsPair h TO .none .none) ∨ ∃ (T : Addr) (f : Bool) (oT : Obj), IsZipHeld h z TI TO T f ∧ h.get? T = some oT ∧ T ≠ z ∧ T ≠ i1 ∧ T ≠ i2 ∧ T ≠ S
theorem ZipSt.typeIs {z TI TO i1 i2 l1 l2 S : Addr} {xs ys : Array Value} {s : Shared} {i : Nat} (q : ZipSt z TI TO i1 i2 l1 l2 S xs ys s.heap i) : s.TypeIs (.ref z) "zip" := by
  rcases q.out with ⟨e, _⟩ | ⟨_, _, _, e, _⟩
  · exact ⟨_, e, rfl⟩
  · exact ⟨_, e, rfl⟩
theorem ZipSt.keep {z TI TO i1 i2 l1 l2 S : Addr} {xs ys : Array Value} {h h' : Heap} {i : Nat} (q : ZipSt z TI TO i1 i2 l1 l2 S xs ys h i) (hS : S ≠ z ∧ S ≠ TI ∧ S ≠ TO ∧ S ≠ i1 ∧ S ≠ i2 ∧ S ≠ l1 ∧ S ≠ l2) (k : ∀ b o, b ≠ S → h.get? b = some o → h'.get? b = some o) : ZipSt z TI TO i1 i2 l1 l2 S xs ys h' i := by
  obtain ⟨n1, n2, n3, n4, n5, n6, n7⟩ := hS
  refine ⟨k _ _ n2.symm q.ti, q.a1.at fun o e => k _ _ n4.symm e, q.a2.at fun o e => k _ _ n5.symm e, q.b1.at fun o e => k _ _ n6.symm e, q.b2.at fun o e => k _ _ n7.symm e, q.to.elim fun o e => ⟨o, k _ _ n3.symm e⟩, ?_⟩
  rcases q.out with ⟨e, e'⟩ | ⟨T, f, oT, e, eT, t1, t2, t3, t4⟩
  · exact .inl ⟨k _ _ n1.symm e, k _ _ n3.symm e'⟩
  · exact .inr ⟨T, f, oT, k _ _ n1.symm e, k _ _ t4 eT, t1, t2, t3, t4⟩
section
variable {prog : Program} {w : World} {A : Around} {E : Value → Shared → Prop} {s : Shared} {z TI TO i1 i2 l1 l2 S : Addr} {xs ys : Array Value}
theorem zip_item {i : Nat} {Q : Option Value → Shared → Prop} (D : ZipApart z TI TO i1 i2 l1 l2) (q : ZipSt z TI TO i1 i2 l1 l2 S xs ys s.heap i) {x y : Value} (hx : xs[i]? = some x) (hy : ys[i]? = some y) (hS : S < s.heap.objs.size)
    (hQ : ∀ h', ZipSt z TI TO i1 i2 l1 l2 S xs ys h' (i + 1) → IsPair h' s.heap.objs.size x y → (∀ c o, c ≠ z → c ≠ TO → c ≠ i1 → c ≠ i2 → s.heap.get? c = some o → h'.get? c = some o) → Q (some (.ref s.heap.objs.size)) { s with heap := h' }) :
    wpAny (model prog w) A (pyNext (.ref z)) Q E s := by
  have new : ∀ {c o}, s.heap.get? c = some o → s.heap.objs.size ≠ c := fun e => Nat.ne_of_gt (Heap.lt_size e)
  have nS : s.heap.objs.size ≠ S := Nat.ne_of_gt hS
  have n1 : s.heap.objs.size ≠ i1 := by obtain ⟨_, e, _⟩ := q.a1; exact new e
  have n2 : s.heap.objs.size ≠ i2 := by obtain ⟨_, e, _⟩ := q.a2; exact new e
  rcases q.out with ⟨e, e'⟩ | ⟨T, f, oT, e, eT, t1, t2, t3, t4⟩
  · refine wpAny_pyNext_zip_item D e q.ti e' q.a1 q.a2 q.b1 q.b2 hx hy fun h' c1 c2 c3 c4 c5 c6 k => hQ h' ⟨k _ _ D.TIz D.TITO D.TIi1 D.TIi2 q.ti, c3, c4, q.b1.at fun o u => k _ _ D.l1z D.l1TO D.l1i1 D.l1i2 u, q.b2.at fun o u => k _ _ D.l2z D.l2TO D.l2i1 D.l2i2 u, ⟨_, c2⟩, .inr ⟨_, false, _, c1, c5, new e, n1, n2, nS⟩⟩ c5 k
  · refine wpAny_pyNext_zip_item_held D e eT q.ti q.a1 q.a2 q.b1 q.b2 hx hy fun h' c1 c3 c4 c5 c6 k => hQ h' ⟨k _ _ D.TIz D.TIi1 D.TIi2 q.ti, c3, c4, q.b1.at fun o u => k _ _ D.l1z D.l1i1 D.l1i2 u, q.b2.at fun o u => k _ _ D.l2z D.l2i1 D.l2i2 u, q.to.elim fun o u => ⟨o, k _ _ D.TOz D.TOi1 D.TOi2 u⟩, .inr ⟨T, true, oT, c1, k _ _ t1 t2 t3 eT, t1, t2, t3, t4⟩⟩ c5 fun c o n1 n2 n3 n4 u => k c o n1 n3 n4 u
theorem zip_done {i : Nat} {Q : Option Value → Shared → Prop} (hh : A.handled = none) (D : ZipApart z TI TO i1 i2 l1 l2) (q : ZipSt z TI TO i1 i2 l1 l2 S xs ys s.heap i) (hx : xs[i]? = none)
    (hQ : ∀ h', (∀ c o, c ≠ z → c ≠ TO → c ≠ i1 → c ≠ i2 → s.heap.get? c = some o → h'.get? c = some o) → Q none { s with heap := h' }) : wpAny (model prog w) A (pyNext (.ref z)) Q E s := by
  rcases q.out with ⟨e, e'⟩ | ⟨T, f, oT, e, eT, t1, t2, t3, t4⟩
  · exact wpAny_pyNext_zip_end hh D e q.ti e' q.a1 q.a2 q.b1 q.b2 (.inl hx) hQ
  · exact wpAny_pyNext_zip_end_held hh D e eT q.ti q.a1 q.a2 q.b1 q.b2 (.inl hx) fun h' k => hQ h' fun c o m1 m2 m3 m4 u => k c o m1 m3 m4 u
/-- the tuples at as are the first pairs -/
def GotZip (z TO i1 i2 S : Addr) (xs ys : Array Value) (h : Heap) (as : List Addr) : Prop := ∀ (j : Nat) (a : Addr), as[j]? = some a → a ≠ z ∧ a ≠ TO ∧ a ≠ i1 ∧ a ≠ i2 ∧ a ≠ S ∧ ∃ x y, xs[j]? = some x ∧ ys[j]? = some y ∧ IsPair h a x y
theorem GotZip.keep {h h' : Heap} {as : List Addr} (g : GotZip z TO i1 i2 S xs ys h as) (k : ∀ c o, c ≠ z → c ≠ TO → c ≠ i1 → c ≠ i2 → c ≠ S → h.get? c = some o → h'.get? c = some o) : GotZip z TO i1 i2 S xs ys h' as := fun j a e => by
  obtain ⟨c1, c2, c3, c4, c5, x, y, e1, e2, e3⟩ := g j a e
  exact ⟨c1, c2, c3, c4, c5, x, y, e1, e2, k _ _ c1 c2 c3 c4 c5 e3⟩
theorem zip_walk {R : Result → Shared → Prop} {n : Nat} {h₁ : Heap} (hh : A.handled = none) (D : ZipApart z TI TO i1 i2 l1 l2) (hS : S ≠ z ∧ S ≠ TI ∧ S ≠ TO ∧ S ≠ i1 ∧ S ≠ i2 ∧ S ≠ l1 ∧ S ≠ l2) (hx : xs.size = n) (hy : ys.size = n) (hn : n ≤ sizeLine) (res : Value)
    (hR : ∀ h' tk acc c as, (∀ b o, b ≠ S → b ≠ z → b ≠ TO → b ≠ i1 → b ≠ i2 → h₁.get? b = some o → h'.get? b = some o) → h'.get? S = some { cls := .type "list", dict := none, data := .seq acc c, slots := #[] } → as.length = n → GotZip z TO i1 i2 S xs ys h' as → acc.toList = as.map Value.ref → R (.ok (.ret res)) { s with heap := h', toks := tk }) :
    ∀ (m i : Nat) (h : Heap) (tk c : Nat) (acc : Array Value) (as : List Addr), n - i = m → i ≤ n → ZipSt z TI TO i1 i2 l1 l2 S xs ys h i → (∀ b o, b ≠ S → b ≠ z → b ≠ TO → b ≠ i1 → b ≠ i2 → h₁.get? b = some o → h.get? b = some o) →
      h.get? S = some { cls := .type "list", dict := none, data := .seq acc c, slots := #[] } → acc.toList = as.map Value.ref → as.length = i → GotZip z TO i1 i2 S xs ys h as →
      codeAny (model prog w) A (.builtin "list.extend.loop" ⟨[.ref S, .ref z, res], []⟩) R { s with heap := h, toks := tk } := by
  obtain ⟨m1, m2, m3, m4, m5, m6, m7⟩ := id hS
  intro m
  induction m with
  | zero =>
    intro i h tk c acc as em hi hst hk hSo hacc hal hG
    have hin : i = n := by omega
    refine codeAny_builtin PySem.F.entry_extend_loop ?_
    rw [Around.under_plainId PySem.F.plain_extend_loop _]
    show wpAny _ A.in1 (pyNext (.ref z) >>= _) _ _ _
    have hend : xs[i]? = none := Array.getElem?_eq_none (by omega)
    refine wpAny_bind (zip_done (s := { s with heap := h, toks := tk }) (A := A.in1) hh D hst hend fun h' k => ?_)
    exact wpAny_pure (hR h' tk acc c as (fun b o c1 c2 c3 c4 c5 u => k b o c2 c3 c4 c5 (hk b o c1 c2 c3 c4 c5 u)) (k _ _ m1 m3 m4 m5 hSo) (by omega) (hG.keep fun c o c1 c2 c3 c4 _ u => k c o c1 c2 c3 c4 u) hacc)
  | succ m ih =>
    intro i h tk c acc as em hi hst hk hSo hacc hal hG
    have hlt : i < n := by omega
    have hsz : acc.size = i := by rw [← Array.length_toList, hacc, List.length_map, hal]
    have gx : xs[i]? = some xs[i] := Array.getElem?_eq_getElem (by omega)
    have gy : ys[i]? = some ys[i] := Array.getElem?_eq_getElem (by omega)
    refine codeAny_builtin PySem.F.entry_extend_loop ?_
    rw [Around.under_plainId PySem.F.plain_extend_loop _]
    show wpAny _ A.in1 (pyNext (.ref z) >>= _) _ _ _
    have hSl : S < h.objs.size := Heap.lt_size hSo
    refine wpAny_bind (zip_item (s := { s with heap := h, toks := tk }) D hst gx gy hSl fun h' hst' ht k => ?_)
    dsimp only at ht k ⊢
    have hSo' := k S _ m1 m3 m4 m5 hSo
    have up : ∀ b o, b ≠ S → h'.get? b = some o → (h'.update S (Obj.mapSeq (·.push (Value.ref h.objs.size)))).get? b = some o := fun b o hb u => (Heap.get?_update_other _ _ (Ne.symm hb)).trans u
    have nS : h.objs.size ≠ S := Nat.ne_of_gt hSl
    have new : ∀ {c o}, h.get? c = some o → h.objs.size ≠ c := fun u => Nat.ne_of_gt (Heap.lt_size u)
    have nz : h.objs.size ≠ z := by
      obtain ⟨_, e, _⟩ := hst.typeIs (s := { s with heap := h })
      exact new e
    have n1 : h.objs.size ≠ i1 := by obtain ⟨_, e, _⟩ := hst.a1; exact new e
    have n2 : h.objs.size ≠ i2 := by obtain ⟨_, e, _⟩ := hst.a2; exact new e
    have n3 : h.objs.size ≠ TO := by obtain ⟨_, e⟩ := hst.to; exact new e
    show wpAny _ A.in1 (updateSeq S (·.push (Value.ref h.objs.size)) >>= _) _ _ _
    refine wpAny_bind ?_
    refine wpAny_updateSeq hSo' rfl (wpAny_pure ⟨plainId_quiet PySem.F.plain_extend_loop _, ih (i + 1) _ tk _ (acc.push (Value.ref h.objs.size)) (as ++ [h.objs.size]) (by omega) hlt (hst'.keep hS up)
      (fun b o c1 c2 c3 c4 c5 u => up b o c1 (k b o c2 c3 c4 c5 (hk b o c1 c2 c3 c4 c5 u))) (Heap.get?_update_self _ hSo' rfl) (by rw [Array.toList_push, hacc, List.map_append]; rfl) (by rw [List.length_append, hal]; rfl) ?_⟩) (by rw [hsz]; omega) (by show (acc.push (Value.ref h.objs.size)).size ≤ sizeLine + 1; rw [Array.size_push, hsz]; omega)
    intro j b hj
    rcases Nat.lt_trichotomy j as.length with q | q | q
    · rw [List.getElem?_append_left q] at hj
      exact (hG.keep fun c o c1 c2 c3 c4 c5 u => up c o c5 (k c o c1 c2 c3 c4 u)) j b hj
    · subst q
      have hb : h.objs.size = b := by simpa using hj
      subst hb
      exact ⟨nz, n3, n1, n2, nS, _, _, by rw [hal]; exact gx, by rw [hal]; exact gy, up _ _ nS ht⟩
    · have hnone : (as ++ [h.objs.size])[j]? = none := List.getElem?_eq_none (by rw [List.length_append, List.length_singleton]; omega)
      rw [hnone] at hj
      cases hj
theorem zip_nolen : typeLookup (.type "zip") "__len__" = pure none := by rw [typeLookup_type, builtinLookup_eq_fast]; kernel_rfl
theorem zip_nohint : typeLookup (.type "zip") "__length_hint__" = pure none := by rw [typeLookup_type, builtinLookup_eq_fast]; kernel_rfl
/-- list(z) -/
theorem call_list_zip {n : Nat} {Q : Value → Shared → Prop} (hh : A.handled = none) (D : ZipApart z TI TO i1 i2 l1 l2) (hx : xs.size = n) (hy : ys.size = n) (hn : n ≤ sizeLine) (q : ZipSt z TI TO i1 i2 l1 l2 s.heap.objs.size xs ys s.heap 0) (hz0 : IsZip s.heap z TI TO .none)
    (hQ : ∀ h' tk acc c as, (∀ b o, b ≠ z → b ≠ TO → b ≠ i1 → b ≠ i2 → s.heap.get? b = some o → h'.get? b = some o) → h'.get? s.heap.objs.size = some { cls := .type "list", dict := none, data := .seq acc c, slots := #[] } → as.length = n → GotZip z TO i1 i2 s.heap.objs.size xs ys h' as → acc.toList = as.map Value.ref → Q (.ref s.heap.objs.size) { s with heap := h', toks := tk }) :
    wpAny (model prog w) A (call (.type "list") [.ref z]) Q E s := by
  refine callType_codes (Q₁ := fun obj s₁ => obj = .ref s.heap.objs.size ∧ s₁ = { s with heap := s.heap.push { cls := .type "list", data := .seq #[] } }) PySem.F.called_list (PySem.F.typeCall_list_1 _) PySem.F.entry_list_init
    (code_list_new _ ⟨rfl, rfl⟩) fun obj s₁ h₁ => ?_
  obtain ⟨rfl, rfl⟩ := h₁
  generalize eS : s.heap.objs.size = S
  have hS : (s.heap.push { cls := .type "list", data := .seq #[] }).get? S = some { cls := .type "list", data := .seq #[] } := by rw [← eS]; exact Heap.get?_push_size _ rfl
  have new : ∀ {c o}, s.heap.get? c = some o → S ≠ c := fun u => by rw [← eS]; exact Nat.ne_of_gt (Heap.lt_size u)
  have nz : S ≠ z := by
    obtain ⟨_, e, _⟩ := q.typeIs
    exact new e
  have apart : S ≠ z ∧ S ≠ TI ∧ S ≠ TO ∧ S ≠ i1 ∧ S ≠ i2 ∧ S ≠ l1 ∧ S ≠ l2 := by
    refine ⟨nz, new q.ti, ?_, ?_, ?_, ?_, ?_⟩
    · obtain ⟨_, e⟩ := q.to; exact new e
    · obtain ⟨_, e, _⟩ := q.a1; exact new e
    · obtain ⟨_, e, _⟩ := q.a2; exact new e
    · obtain ⟨_, e, _⟩ := q.b1; exact new e
    · obtain ⟨_, e, _⟩ := q.b2; exact new e
  rw [eS] at q hQ
  have q1 : ZipSt z TI TO i1 i2 l1 l2 S xs ys (s.heap.push { cls := .type "list", data := .seq #[] }) 0 := q.keep apart fun b o _ u => Heap.get?_push_of_some _ u
  refine ⟨⟨_, hS, rfl⟩, PySem.F.args_list_init_2 _ _, ?_⟩
  show wpAny _ _ (do let old ← Builtin.List.listItems (.ref S); Builtin.List.listUpdate (.ref S) (fun _ => #[]); letGo old.toList.reverse; Builtin.List.listExtendWith (.ref S) (.ref z) .none) _ _ _
  refine wpAny_bind ?_
  unfold Builtin.List.listItems
  refine wpAny_bind (wpAny_seqItems hS rfl (wpAny_pure ?_))
  show wpAny _ _ (updateSeq S (fun _ => #[]) >>= fun _ => letGo (#[] : Array Value).toList.reverse >>= fun _ => Builtin.List.listExtendWith (.ref S) (.ref z) .none) _ _ _
  refine wpAny_bind (wpAny_updateSeq hS rfl ?_)
  have hS2 := Heap.get?_update_self (Obj.mapSeq (fun _ => (#[] : Array Value))) hS rfl
  refine wpAny_bind (wpAny_letGo ?_)
  have q2 : ZipSt z TI TO i1 i2 l1 l2 S xs ys ((s.heap.push { cls := .type "list", data := .seq #[] }).update S (Obj.mapSeq (fun _ => (#[] : Array Value)))) 0 := q1.keep apart fun b o hb u => (Heap.get?_update_other _ _ (Ne.symm hb)).trans u
  have k2 : ∀ b o, b ≠ S → s.heap.get? b = some o → ((s.heap.push { cls := .type "list", data := .seq #[] }).update S (Obj.mapSeq (fun _ => (#[] : Array Value)))).get? b = some o := fun b o hb u => (Heap.get?_update_other _ _ (Ne.symm hb)).trans (Heap.get?_push_of_some _ u)
  generalize ((s.heap.push { cls := .type "list", data := .seq #[] }).update S (Obj.mapSeq (fun _ => (#[] : Array Value)))) = g at hS2 q2 k2
  obtain ⟨c3, hS3⟩ : ∃ c, g.get? S = some { cls := .type "list", data := .seq #[] c } := ⟨_, hS2⟩
  have tz : ∀ tk, Shared.TypeIs { s with heap := g, toks := tk } (.ref z) "zip" := fun tk => q2.typeIs (s := { s with heap := g, toks := tk })
  unfold Builtin.List.listExtendWith
  refine wpAny_bind (wpAny_typeOf (tz _) ?_)
  have h1 : Builtin.List.listSameRef (.ref S) (.ref z) = false := by simp [Builtin.List.listSameRef, nz]
  have h2 : (Value.type "zip" == Value.type "list") = false := by decide
  have h3 : (Value.type "zip" == Value.type "tuple") = false := by decide
  simp only [h1, h2, h3, Bool.or_false, Bool.false_eq_true, if_false]
  have hz : IsZip g z TI TO .none := k2 _ _ nz.symm hz0
  refine wpAny_bind (wpAny_pyIter_zip hz ?_)
  refine wpAny_bind (wpAny_holding ?_)
  unfold Builtin.List.listLengthHint
  refine wpAny_bind (wpAny_specialOf (tz _) zip_nolen ?_)
  show wpAny _ A.in1.in1 (specialOf (Value.ref z) (Str.ofString "__length_hint__") >>= _) _ _ _
  refine wpAny_bind (wpAny_specialOf (tz _) zip_nohint ?_)
  refine wpAny_pure ?_
  show wpAny _ A.in1.in1 (rule "list.extend.makes-room" >>= fun _ => Builtin.List.listTouch (.ref S) >>= fun _ =>
    again (.builtin "list.extend.loop" ⟨[.ref S, .ref z, .none], []⟩)) _ _ _
  refine wpAny_bind (wpAny_rule ?_)
  refine wpAny_bind ?_
  show wpAny _ A.in1.in1 (updateSeq S (·.push .none) >>= fun _ => updateSeq S (·.pop)) _ _ _
  refine wpAny_bind (wpAny_updateSeq hS3 rfl ?_)
  have hS4 := Heap.get?_update_self (Obj.mapSeq (·.push Value.none)) hS3 rfl
  refine wpAny_updateSeq hS4 rfl ?_
  have hS5 := Heap.get?_update_self (Obj.mapSeq (·.pop)) hS4 rfl
  have k5 : ∀ b o, b ≠ S → g.get? b = some o → ((g.update S (Obj.mapSeq (·.push Value.none))).update S (Obj.mapSeq (·.pop))).get? b = some o := fun b o hb u => (Heap.get?_update_other _ _ (Ne.symm hb)).trans ((Heap.get?_update_other _ _ (Ne.symm hb)).trans u)
  have low : ∀ {b o}, s.heap.get? b = some o → b ≠ S := fun u v => new u v.symm
  refine wpAny_pure ⟨plainId_quiet PySem.F.plain_extend_loop _, zip_walk (s := s) (h₁ := s.heap) (A := A.in1) hh D apart hx hy hn .none (fun h' tk acc c as k e1 e2 e3 e4 => ⟨rfl, hQ h' tk acc c as (fun b o c1 c2 c3 c4 u => k b o (low u) c1 c2 c3 c4 u) e1 e2 e3 e4⟩) n 0 _ _ _ #[] [] rfl (Nat.zero_le _) (q2.keep apart k5) (fun b o _ _ _ _ _ u => k5 b o (low u) (k2 b o (low u) u)) hS5 rfl rfl (fun j a e => by simp at e)⟩
end
theorem ap {a n : Nat} (h : a < n) (k : Nat) : a ≠ n + k := by omega
section
variable {X : Cx}
def tDictZip (K : PySem.W.Frag) (ta : TA) : TE := fun σ H Q => ta σ H fun vs H1 => ∃ (a b : Addr) (ks : List Key) (ys : List V), vs = [.ref a, .ref b] ∧ SqL K H1 a (ks.map kV) ∧ SqL K H1 b ys ∧ ks.length = ys.length ∧ ∀ p, H1 p = none → Q (.ref p) (upd H1 p (.dK (mergeK [] (ks.zip ys))))
theorem vals_keys {us : List Value} : ∀ {ks : List Key}, Vals (ks.map kV) us → ∀ (j : Nat) (u : Value), us[j]? = some u → ∃ k, ks[j]? = some k ∧ RelV (kV k) u := fun {ks} r j u e => by
  have hl := r.length
  rw [List.length_map] at hl
  have hj : j < ks.length := by rw [hl]; exact (List.getElem?_eq_some_iff.mp e).1
  have e1 : (ks.map kV)[j]? = some (kV ks[j]) := by rw [List.getElem?_map, List.getElem?_eq_getElem hj]; rfl
  obtain ⟨u', hu, ru⟩ := r.get e1
  rw [e] at hu
  cases hu
  exact ⟨_, List.getElem?_eq_getElem hj, ru⟩
theorem kv_zip : ∀ {ks : List Key} {ys : List V} {us us' : List Value}, Vals (ks.map kV) us → Vals ys us' → KV (ks.zip ys) (ks.zip us')
  | [], _, _, _, _, _ => .nil
  | k :: ks, [], us, us', r, r' => by
    cases r'
    exact .nil
  | k :: ks, y :: ys, us, us', r, r' => by
    rw [List.map_cons] at r
    cases r with
    | cons h t =>
      cases r' with
      | cons h' t' => exact .cons ⟨rfl, h'⟩ (kv_zip t t')
theorem pe_dictZip {e1 e2 : Expr} {ta : TA} {p1 p2 p3 q1 q2 q3 : Pos} (hgd : Gl X "dict") (hmd : X.mg "dict" = none) (hgl : Gl X "list") (hml : X.mg "list" = none) (hgz : Gl X "zip") (hmz : X.mg "zip" = none) (hc : X.calm = true) (ha : PA X [e1, e2] ta)
    (hs : starEach [e1, e2] X.env = (false, eval e1 X.env) :: starEach [e2] X.env := by rfl) (hpl : (backTo q3 (starEach [e2] X.env)).any (·.1) = false := by rfl) :
    PE X (.Call (.Name "dict" p1) [.Call (.Name "list" p2) [.Call (.Name "zip" p3) [e1, e2] [] q3] [] q2] [] q1) (tDictZip X.K ta) := by
  refine ⟨fun pins s σ H Q I h => ?_⟩
  refine wpAny_Call_Name_kw (ld_blt I hgd hmd PyProof.Rows.boot_dict (PyProof.Rows.callWith_type1 (Calls.spliced_cons ?_)))
  refine wpAny_Call_Name_kw (ld_blt I hgl hml PyProof.Rows.boot_list (PyProof.Rows.callWith_type1 (Calls.spliced_cons ?_)))
  refine wpAny_Call_Name_kw (ld_blt I hgz hmz PyProof.Rows.boot_zip (PyProof.Rows.callWith_type1 (thn (ha.run q3 pins s σ H _ I h) fun us s1 ⟨vs, H1, I1, r1, a, b, ks, ys, ex, hq1, hq2, hl, q⟩ => ?_) hs hpl))
  subst ex
  obtain ⟨u1, u2, eu, r2, r3⟩ := vals2 r1
  subst eu
  obtain rfl : u1 = Value.ref a := r2
  obtain rfl : u2 = Value.ref b := r3
  obtain ⟨its, rv, pa, hz1⟩ := I1.list hq1
  obtain ⟨its', rv', pb, hz2⟩ := I1.list hq2
  have lx : its.toArray.size = ks.length := by rw [List.size_toArray, ← rv.length, List.length_map]
  have ly : its'.toArray.size = ks.length := by rw [List.size_toArray, ← rv'.length, hl]
  rw [List.length_map] at hz1
  have la : a < s1.heap.objs.size := by obtain ⟨_, _, e, _⟩ := pa; exact Heap.lt_size e
  have lb : b < s1.heap.objs.size := by obtain ⟨_, _, e, _⟩ := pb; exact Heap.lt_size e
  refine call_zip_2 pa.isList pb.isList fun h' z1 z2 z3 z4 z5 z6 k0 => Calls.spliced_nil ?_
  have D : ZipApart (s1.heap.objs.size + 4) (s1.heap.objs.size + 2) (s1.heap.objs.size + 3) s1.heap.objs.size (s1.heap.objs.size + 1) a b := by
    refine ⟨?_, ?_, ?_, ?_, ?_, ?_, ?_, ?_, ?_, ?_, ap la 4, ap la 3, ap la 0, ap la 1, ap lb 4, ap lb 3, ap lb 0, ap lb 1⟩ <;> (show ¬ (_ : Nat) = _; omega)
  have Z : ZipSt (s1.heap.objs.size + 4) (s1.heap.objs.size + 2) (s1.heap.objs.size + 3) s1.heap.objs.size (s1.heap.objs.size + 1) a b h'.objs.size its.toArray its'.toArray h' 0 :=
    ⟨z2, z4, z5, pa.isList.at fun o e => k0 _ _ e, pb.isList.at fun o e => k0 _ _ e, ⟨_, z3⟩, .inl ⟨z1, z3⟩⟩
  refine call_list_zip (s := { s1 with heap := h' }) (I1.ok.hd hc) D lx ly hz1 Z z1 fun g tk acc c as k e1 e2 e3 e4 => Calls.spliced_nil ?_
  have kg : ∀ b o, s1.heap.get? b = some o → g.get? b = some o := fun b o u => by
    have hb := Heap.lt_size u
    exact k b o (ap hb 4) (ap hb 3) (ap hb 0) (ap hb 1) (k0 _ _ u)
  have I2 : Inv X pins σ H1 { s1 with heap := g, toks := tk } := I1.kept kg
  have key : ∀ (j : Nat) (k v : Value), (its.zip its')[j]? = some (k, v) → ∃ t y, as[j]? = some t ∧ IsPair g t k v ∧ ks[j]? = some y ∧ keyIs y k = true ∧ (ks.zip its')[j]? = some (y, v) := fun j kk v e => by
    obtain ⟨g1, g2⟩ := List.getElem?_zip_eq_some.mp e
    obtain ⟨y, hy, ry⟩ := vals_keys rv j kk g1
    have hj : j < as.length := by rw [e2]; exact (List.getElem?_eq_some_iff.mp hy).1
    obtain ⟨_, _, _, _, _, x', y', f1, f2, f3⟩ := e3 j as[j] (List.getElem?_eq_getElem hj)
    have f1' : its[j]? = some x' := by simpa using f1
    have f2' : its'[j]? = some y' := by simpa using f2
    rw [g1] at f1'
    rw [g2] at f2'
    cases f1'
    cases f2'
    exact ⟨_, y, List.getElem?_eq_getElem hj, f3, hy, kV_is (P := X.prog) (w := X.w) ry, List.getElem?_zip_eq_some.mpr ⟨hy, g2⟩⟩
  have lz : (its.zip its').length = ks.length := by
    rw [List.length_zip, ← rv.length, ← rv'.length, List.length_map, hl, Nat.min_self]
  have lk : (ks.zip its').length = ks.length := by
    rw [List.length_zip, ← rv'.length, hl, Nat.min_self]
  have ok : PlainSeq "list" g h'.objs.size acc ∧ PairItems g acc (fun j => (as[j]?).getD 0) (its.zip its') := by
    refine ⟨⟨_, c, e1, rfl, rfl, rfl⟩, by rw [← Array.length_toList, e4, List.length_map, e2, lz], fun j kk v e => ?_⟩
    obtain ⟨t, y, c1, c2, c3, c4, _⟩ := key j kk v e
    refine ⟨?_, ?_⟩
    · show acc[j]? = some (.ref ((as[j]?).getD 0))
      rw [← Array.getElem?_toList, e4, List.getElem?_map, c1]
      rfl
    · show PairAt g ((as[j]?).getD 0) kk v
      rw [c1]
      exact .inl ⟨_, c2, rfl, _, rfl⟩
  refine PySem.call_dict_pairs (s := { s1 with heap := g, toks := tk }) (knd := mixKind X.prog X.w) (kvs := ks.zip its') (PairArg.list h'.objs.size acc (fun j => (as[j]?).getD 0) (its.zip its')) (I1.ok.hd hc) ok ⟨by rw [lk, lz], fun i kk v e => ?_⟩ (by rw [lz]; exact hz1) fun g' tk' hd' k' => ?_
  · obtain ⟨t, y, _, _, _, c4, c5⟩ := key i kk v e
    exact ⟨y, c5, c4⟩
  · have big := I2.big
    have hm : (g.objs.size == sysModules) = false := beq_eq_false_iff_ne.mpr (Nat.ne_of_gt big)
    have rel : KV (ks.zip ys) (ks.zip its') := kv_zip rv rv'
    have hlen : (mergeK [] (ks.zip ys)).length ≤ sizeLine := by
      refine Nat.le_trans (length_mergeK _ []) ?_
      rw [List.length_nil, Nat.zero_add, rel.length, lk]
      exact hz1
    exact ⟨.ref g.objs.size, upd H1 g.objs.size (.dK (mergeK [] (ks.zip ys))), I2.laid (t' := tk') (fun b o e => k' b o (fun z => nomatch z) e) (Nat.le_refl _) (show ObjOk X.prog X.w _ _ _ (.dK (mergeK [] (ks.zip ys))) from ⟨hlen, hm, merged [] (ks.zip its'), KV.merge rel .nil, hd'⟩), rfl, q _ (I2.hok.fresh (Nat.le_refl _))⟩
end
end Ho
set_option Elab.async false
set_option linter.all false
set_option maxRecDepth 100000
set_option maxHeartbeats 4000000
/-! len(set(xs)) of texts of which no two are alike. -/
namespace Ho
open PySem PySem.Spec PyProof.Rows L2
theorem take_snoc {xs : List Str} {i : Nat} (hi : i < xs.length) (k : Str) : ((xs.take (i + 1)).any (· == k)) = ((xs.take i).any (· == k) || decide (k = xs.getD i Str.empty)) := by
  rw [List.take_add_one, List.getElem?_eq_getElem hi, List.any_append, List.getD_eq_getElem?_getD, List.getElem?_eq_getElem hi]
  congr 1
  show (xs[i] == k || false) = decide (k = xs[i])
  rw [Bool.or_false]
  by_cases e : k = xs[i]
  · rw [e, decide_eq_true rfl]
    exact beq_self_eq_true _
  · rw [decide_eq_false e]
    exact beq_eq_false_iff_ne.mpr fun z => e z.symm
theorem take_no {xs : List Str} (hn : xs.Nodup) {i : Nat} (hi : i < xs.length) : ((xs.take i).any (· == xs.getD i Str.empty)) = false := by
  have e : xs.getD i Str.empty = xs[i] := by rw [List.getD_eq_getElem?_getD, List.getElem?_eq_getElem hi]; rfl
  rw [e]
  cases q : (xs.take i).any (· == xs[i]) with
  | false => rfl
  | true =>
    obtain ⟨x, hx, e2⟩ := List.any_eq_true.mp q
    have ex : x = xs[i] := beq_iff_eq.mp e2
    obtain ⟨j, hj, e3⟩ := List.getElem_of_mem hx
    rw [List.length_take] at hj
    have hji : j < i := by omega
    have e4 : xs[j]'(Nat.lt_trans hji hi) = xs[i] := by rw [← ex, ← e3, List.getElem_take]
    exact absurd e4 (List.pairwise_iff_getElem.mp hn j i (Nat.lt_trans hji hi) hi hji)
section
variable {prog : Program} {w : World} {A : Around} {R : Result → Shared → Prop} {I : Addr} {fp wr : List Addr} {G : Array GenState → Array GenState → Prop} {n : Nat} {P : Nat → Value → Prop} {St : Nat → Shared → Prop}
theorem set_loop (W : WalksS prog w A.in1 I fp wr G n P St) (D : Addr) (off : D ∉ fp) (xs : List Str) (hsz : xs.length = n) (hnd : xs.Nodup) (hn1 : n ≤ 1000)
    (hval : ∀ i v, P i v → ∃ t, v = .str (xs.getD i Str.empty) t)
    :
    ∀ (m i : Nat) (z : Shared), n - i = m → i ≤ n → St i z → z.heap.SetOf (PySem.strKind prog w) D (fun k' => (xs.take i).any (· == k')) i →
      (∀ z', Moved (D :: wr) G z z' → z'.heap.SetOf (PySem.strKind prog w) D (fun k' => (xs.take n).any (· == k')) n → R (.ok (.ret .none)) z') →
      codeAny (model prog w) A (.builtin "set.update.loop" ⟨[.ref D, .ref I], []⟩) R z := by
  have offw : D ∉ wr := fun h => off (W.sub _ h)
  have more : ∀ b ∈ wr, b ∈ D :: wr := fun b hb => List.mem_cons_of_mem _ hb
  intro m
  induction m with
  | zero =>
    intro i z em hi hst hS q
    obtain rfl : i = n := by omega
    refine codeAny_builtin PyProof.Rows.F.entry_set_update_loop ?_
    rw [Around.under_plainId PyProof.Rows.F.plain_set_update_loop _]
    show wpAny _ A.in1 (pyNext (.ref I) >>= _) _ _ z
    refine wpAny_bind (W.done z _ _ hst fun z' hm => ?_)
    show wpAny _ A.in1 (ret Value.none) _ _ z'
    refine wpAny_pure (q z' (hm.mono more) ?_)
    obtain ⟨o, es, ep, t, ho, rest⟩ := hS
    exact ⟨o, es, ep, t, hm.heap D _ offw ho, rest⟩
  | succ m ih =>
    intro i z em hi hst hS q
    have hlt : i < n := by omega
    refine codeAny_builtin PyProof.Rows.F.entry_set_update_loop ?_
    rw [Around.under_plainId PyProof.Rows.F.plain_set_update_loop _]
    show wpAny _ A.in1 (pyNext (.ref I) >>= _) _ _ z
    refine wpAny_bind (W.item i z _ _ hlt hst fun v z' hP hst' hm => ?_)
    obtain ⟨t, rfl⟩ := hval i v hP
    have hS1 : z'.heap.SetOf (PySem.strKind prog w) D (fun k' => (xs.take i).any (· == k')) i := by
      obtain ⟨o, es, ep, tb, ho, rest⟩ := hS
      exact ⟨o, es, ep, tb, hm.heap D _ offw ho, rest⟩
    show wpAny _ A.in1 (holding [Value.str (xs.getD i Str.empty) t] (setAdd D (.str (xs.getD i Str.empty) t)) >>= _) _ _ z'
    refine wpAny_bind (wpAny_holding ?_)
    unfold setAdd
    refine wpAny_holding (wpAny_bind ((PySem.strKind prog w).pyHash (k := xs.getD i Str.empty) (strKind_is _ _ _ _) ?_))
    refine wpAny_setAddHashed_of (knd := PySem.strKind prog w) (s := { z' with toks := z'.toks + 1 }) (strKind_is _ _ _ _) rfl hS1 (by unfold scanBound; omega) fun g hsb hS2 => ?_
    have hS3 : g.SetOf (PySem.strKind prog w) D (fun k' => (xs.take (i + 1)).any (· == k')) (i + 1) := by
      refine SetOf_congr hS2 (fun k' => (take_snoc (by omega) k').symm) ?_
      rw [take_no hnd (by omega)]
      rfl
    refine wpAny_pure ⟨plainId_quiet PyProof.Rows.F.plain_set_update_loop _, ih (i + 1) _ (by omega) hlt (W.frame _ z' _ _ hst' (Nat.le_succ _) fun b hb o e => ?_) hS3 fun z'' hm2 hS4 => ?_⟩
    · exact (hsb.2 b fun h : b = D => off (h ▸ hb)).trans e
    · refine q z'' (Moved.trans W.gtrans ((hm.mono more).then_heap (Nat.le_succ _) fun b o hb e => ?_) hm2) hS4
      exact (hsb.2 b fun h : b = D => hb (h ▸ List.mem_cons_self)).trans e
end
section
variable {prog : Program} {w : World} {A : Around} {E : Value → Shared → Prop} {z : Shared}
/-- a new set -/
abbrev NS (led : Bool) : Obj := { cls := .type "set", dict := none, data := .set #[] 0 (.fresh 0 0 led) }

theorem set_of_list {l : Addr} {items : Array Value} {xs : List Str} {Q : Value → Shared → Prop} (hh : A.handled = none) (hl : z.heap.IsList l items) (hi : PyProof.Rows.StrsAre items.toList xs) (hnd : xs.Nodup) (hn1 : xs.length ≤ 1000)
    (h : ∀ (g : Heap) (tk : Nat), g.SetOf (PySem.strKind prog w) z.heap.objs.size (fun k' => (xs.take items.size).any (· == k')) items.size → (∀ b o, b < z.heap.objs.size → z.heap.get? b = some o → g.get? b = some o) → Q (.ref z.heap.objs.size) { z with heap := g, toks := tk }) :
    wpAny (model prog w) A (call (.type "set") [.ref l]) Q E z := by
  obtain ⟨c, tl, hmro⟩ := PySem.F.called_set.mro
  have f1 := PySem.F.called_set.made
  have f2 := PySem.F.called_set.sub
  refine wpAny_call (codeAny_of_tree ?_)
  show wpAny _ _ (callAny (.type "set") _) _ _ _
  refine wpAny_pure ⟨Code.quiet_builtin _ (by decide +kernel), codeAny_builtin PySem.F.entry_type_call ?_⟩
  rw [Around.under_plain (weight_type_call_type "set" [.ref l] []) rfl]
  have f3 := PySem.F.called_set.notType
  have f4 := PySem.F.called_set.canCreate
  have f5 := PySem.F.typeCall_set_1 (.ref l)
  repeat (any_goals (first | assumption | wp_step))
  refine codeAny_mono (code_set_new_1 (.ref l) (E := E) (Q₁ := fun ob z₁ => ∃ led : Bool, ob = .ref z.heap.objs.size ∧ z₁ = { z with heap := z.heap.push (NS led) }) fun led => ⟨led, rfl, rfl⟩) fun r z₁ hr => ?_
  rcases r with e | fl
  · exact hr
  rcases fl with _ | _ | _ | ob
  · exact hr.elim
  · exact hr.elim
  · exact hr.elim
  · obtain ⟨led, rfl, rfl⟩ := hr
    have hS : (z.heap.push (NS led)).get? z.heap.objs.size = some (NS led) := Heap.get?_push_size _ rfl
    have hT : Shared.TypeIs { z with heap := z.heap.push (NS led) } (.ref z.heap.objs.size) "set" := ⟨_, hS, rfl⟩
    have f6 := PySem.F.called_set.init.lookup
    have f7 := PySem.F.called_set.init.bind (.ref z.heap.objs.size)
    repeat (any_goals (first | assumption | wp_step))
    refine codeAny_mono (codeAny_call_builtin (R := wants (fun r z₂ => r = .none ∧ ∃ g tk, z₂ = { z with heap := g, toks := tk } ∧ g.SetOf (PySem.strKind prog w) z.heap.objs.size (fun k' => (xs.take items.size).any (· == k')) items.size ∧
        (∀ b o, b < z.heap.objs.size → z.heap.get? b = some o → g.get? b = some o)) E) PySem.F.called_set.init.plain PySem.F.entry_set_init (check_set_init_1 hT ?_)) fun r₂ z₂ hr₂ => ?_
    · obtain ⟨ol, hol, hcl, nl, hdl⟩ := hl
      obtain ⟨oc, od, odd, osl⟩ := ol
      simp only at hcl hdl
      subst hcl hdl
      have hol1 : (z.heap.push (NS led)).get? l = some { cls := .type "list", dict := od, data := .seq items nl, slots := osl } := Heap.get?_push_of_some _ hol
      have g1 := PySem.F.sub_list_set
      have g2 := PySem.F.sub_list_frozenset
      have g3 : (Value.type "list" == Value.type "dict") = false := by decide
      have hl1 : (z.heap.push (NS led)).IsList l items := ⟨_, hol1, rfl, nl, rfl⟩
      unfold Builtin.«set.__init__» noKeywords Builtin.Frozenset.updateFrom
      generalize hPI : pyIter = PI
      wp_walk
      subst hPI
      refine wpAny_pyIter_list hl1 (wpAny_bind (wpAny_runValue ?_))
      have lt : l < z.heap.objs.size := Heap.lt_size hol
      have zz : (z.heap.push (NS led)).objs.size = z.heap.objs.size + 1 := Heap.size_push ..
      have calm : A.in1.in1.in1.handled = none := by simp [hh]
      have nI : l ≠ (z.heap.push (NS led)).objs.size := by rw [zz]; exact Nat.ne_of_lt (Nat.lt_succ_of_lt lt)
      have nD : z.heap.objs.size ≠ (z.heap.push (NS led)).objs.size := by rw [zz]; exact Nat.ne_of_lt (Nat.lt_succ_self _)
      have off : z.heap.objs.size ∉ [(z.heap.push (NS led)).objs.size, l] := fun q => by
        rcases List.mem_cons.mp q with q | q
        · exact nD q
        · exact Nat.ne_of_gt lt (List.mem_singleton.mp q)
      have sz : xs.length = items.size := by rw [← StrsAre.len_eq hi, Array.length_toList]
      refine set_loop ((Walks.list calm _ l nI items).toS) z.heap.objs.size off xs sz hnd (by rw [← sz]; exact hn1) (fun i v hv => SS.strs_at hi i v (by rw [Array.getElem?_toList]; exact hv)) (items.size - 0) 0 _ (by omega) (Nat.zero_le _) ⟨⟨_, Heap.get?_push_size _ rfl, rfl, rfl⟩, (hl1.push _)⟩ ?start ?rest
      case start =>
        have hget : ((z.heap.push (NS led)).push { cls := .type "list_iterator", data := .fields #[.ref l, .int 0 0] }).get? z.heap.objs.size = some (NS led) := Heap.get?_push_of_some _ hS
        exact PyProof.Rows.SetOf_congr ((PyProof.Rows.setObjOf_fresh (knd := PySem.strKind prog w) led).setOf hget (by unfold scanBound; omega)) (fun _ => rfl) rfl
      case rest =>
        intro z' hm hS'
        obtain ⟨g, gg, gd, gt, go⟩ := z'
        obtain rfl : gg = z.gens := hm.gens
        obtain rfl : gd = z.drawn := hm.drawn
        obtain rfl : go = z.os := hm.os
        show wpAny _ _ _ _ _ _
        refine wpAny_pure ?_
        show wpAny _ _ (ret Value.none) _ _ _
        refine wpAny_pure ⟨rfl, g, gt, rfl, hS', fun b o hb e => hm.heap b o (fun q => ?_) (Heap.get?_push_of_some _ (Heap.get?_push_of_some _ e))⟩
        rcases List.mem_cons.mp q with q | q
        · exact Nat.ne_of_lt hb q
        · exact Nat.ne_of_lt (Nat.lt_trans hb (by rw [zz]; exact Nat.lt_succ_self _)) (List.mem_singleton.mp q)
    · rcases r₂ with e | fl₂
      · exact hr₂
      rcases fl₂ with _ | _ | _ | r
      · exact hr₂.elim
      · exact hr₂.elim
      · exact hr₂.elim
      · obtain ⟨rfl, g, tk, rfl, hS', hk'⟩ := hr₂
        repeat (any_goals (first | assumption | wp_step))
        exact h _ _ hS' hk'

theorem set_of_tuple {l : Addr} {items : Array Value} {xs : List Str} {Q : Value → Shared → Prop} (hh : A.handled = none) (hl : z.heap.IsTuple l items) (hi : PyProof.Rows.StrsAre items.toList xs) (hnd : xs.Nodup) (hn1 : xs.length ≤ 1000)
    (h : ∀ (g : Heap) (tk : Nat), g.SetOf (PySem.strKind prog w) z.heap.objs.size (fun k' => (xs.take items.size).any (· == k')) items.size → (∀ b o, b < z.heap.objs.size → z.heap.get? b = some o → g.get? b = some o) → Q (.ref z.heap.objs.size) { z with heap := g, toks := tk }) :
    wpAny (model prog w) A (call (.type "set") [.ref l]) Q E z := by
  obtain ⟨c, tl, hmro⟩ := PySem.F.called_set.mro
  have f1 := PySem.F.called_set.made
  have f2 := PySem.F.called_set.sub
  refine wpAny_call (codeAny_of_tree ?_)
  show wpAny _ _ (callAny (.type "set") _) _ _ _
  refine wpAny_pure ⟨Code.quiet_builtin _ (by decide +kernel), codeAny_builtin PySem.F.entry_type_call ?_⟩
  rw [Around.under_plain (weight_type_call_type "set" [.ref l] []) rfl]
  have f3 := PySem.F.called_set.notType
  have f4 := PySem.F.called_set.canCreate
  have f5 := PySem.F.typeCall_set_1 (.ref l)
  repeat (any_goals (first | assumption | wp_step))
  refine codeAny_mono (code_set_new_1 (.ref l) (E := E) (Q₁ := fun ob z₁ => ∃ led : Bool, ob = .ref z.heap.objs.size ∧ z₁ = { z with heap := z.heap.push (NS led) }) fun led => ⟨led, rfl, rfl⟩) fun r z₁ hr => ?_
  rcases r with e | fl
  · exact hr
  rcases fl with _ | _ | _ | ob
  · exact hr.elim
  · exact hr.elim
  · exact hr.elim
  · obtain ⟨led, rfl, rfl⟩ := hr
    have hS : (z.heap.push (NS led)).get? z.heap.objs.size = some (NS led) := Heap.get?_push_size _ rfl
    have hT : Shared.TypeIs { z with heap := z.heap.push (NS led) } (.ref z.heap.objs.size) "set" := ⟨_, hS, rfl⟩
    have f6 := PySem.F.called_set.init.lookup
    have f7 := PySem.F.called_set.init.bind (.ref z.heap.objs.size)
    repeat (any_goals (first | assumption | wp_step))
    refine codeAny_mono (codeAny_call_builtin (R := wants (fun r z₂ => r = .none ∧ ∃ g tk, z₂ = { z with heap := g, toks := tk } ∧ g.SetOf (PySem.strKind prog w) z.heap.objs.size (fun k' => (xs.take items.size).any (· == k')) items.size ∧
        (∀ b o, b < z.heap.objs.size → z.heap.get? b = some o → g.get? b = some o)) E) PySem.F.called_set.init.plain PySem.F.entry_set_init (check_set_init_1 hT ?_)) fun r₂ z₂ hr₂ => ?_
    · obtain ⟨ol, hol, hcl, nl, hdl⟩ := hl
      obtain ⟨oc, od, odd, osl⟩ := ol
      simp only at hcl hdl
      subst hcl hdl
      have hol1 : (z.heap.push (NS led)).get? l = some { cls := .type "tuple", dict := od, data := .seq items nl, slots := osl } := Heap.get?_push_of_some _ hol
      have g1 := PySem.F.sub_tuple_set
      have g2 := PySem.F.sub_tuple_frozenset
      have g3 : (Value.type "tuple" == Value.type "dict") = false := by decide
      have hl1 : (z.heap.push (NS led)).IsTuple l items := ⟨_, hol1, rfl, nl, rfl⟩
      unfold Builtin.«set.__init__» noKeywords Builtin.Frozenset.updateFrom
      generalize hPI : pyIter = PI
      wp_walk
      subst hPI
      refine wpAny_pyIter_tuple hl1 (wpAny_bind (wpAny_runValue ?_))
      have lt : l < z.heap.objs.size := Heap.lt_size hol
      have zz : (z.heap.push (NS led)).objs.size = z.heap.objs.size + 1 := Heap.size_push ..
      have calm : A.in1.in1.in1.handled = none := by simp [hh]
      have nI : l ≠ (z.heap.push (NS led)).objs.size := by rw [zz]; exact Nat.ne_of_lt (Nat.lt_succ_of_lt lt)
      have nD : z.heap.objs.size ≠ (z.heap.push (NS led)).objs.size := by rw [zz]; exact Nat.ne_of_lt (Nat.lt_succ_self _)
      have off : z.heap.objs.size ∉ [(z.heap.push (NS led)).objs.size, l] := fun q => by
        rcases List.mem_cons.mp q with q | q
        · exact nD q
        · exact Nat.ne_of_gt lt (List.mem_singleton.mp q)
      have sz : xs.length = items.size := by rw [← StrsAre.len_eq hi, Array.length_toList]
      refine set_loop ((Walks.tuple calm _ l nI items).toS) z.heap.objs.size off xs sz hnd (by rw [← sz]; exact hn1) (fun i v hv => SS.strs_at hi i v (by rw [Array.getElem?_toList]; exact hv)) (items.size - 0) 0 _ (by omega) (Nat.zero_le _) ⟨⟨_, Heap.get?_push_size _ rfl, rfl, rfl⟩, (hl1.push _)⟩ ?start ?rest
      case start =>
        have hget : ((z.heap.push (NS led)).push { cls := .type "tuple_iterator", data := .fields #[.ref l, .int 0 0] }).get? z.heap.objs.size = some (NS led) := Heap.get?_push_of_some _ hS
        exact PyProof.Rows.SetOf_congr ((PyProof.Rows.setObjOf_fresh (knd := PySem.strKind prog w) led).setOf hget (by unfold scanBound; omega)) (fun _ => rfl) rfl
      case rest =>
        intro z' hm hS'
        obtain ⟨g, gg, gd, gt, go⟩ := z'
        obtain rfl : gg = z.gens := hm.gens
        obtain rfl : gd = z.drawn := hm.drawn
        obtain rfl : go = z.os := hm.os
        show wpAny _ _ _ _ _ _
        refine wpAny_pure ?_
        show wpAny _ _ (ret Value.none) _ _ _
        refine wpAny_pure ⟨rfl, g, gt, rfl, hS', fun b o hb e => hm.heap b o (fun q => ?_) (Heap.get?_push_of_some _ (Heap.get?_push_of_some _ e))⟩
        rcases List.mem_cons.mp q with q | q
        · exact Nat.ne_of_lt hb q
        · exact Nat.ne_of_lt (Nat.lt_trans hb (by rw [zz]; exact Nat.lt_succ_self _)) (List.mem_singleton.mp q)
    · rcases r₂ with e | fl₂
      · exact hr₂
      rcases fl₂ with _ | _ | _ | r
      · exact hr₂.elim
      · exact hr₂.elim
      · exact hr₂.elim
      · obtain ⟨rfl, g, tk, rfl, hS', hk'⟩ := hr₂
        repeat (any_goals (first | assumption | wp_step))
        exact h _ _ hS' hk'
end
def tLenSetN (K : PySem.W.Frag) (ta : TE) : TE := fun σ H Q => ta σ H fun x H1 => ∃ (l : Addr) (xs : List Str), x = .ref l ∧ SqA K H1 l (xs.map V.str) ∧ xs.Nodup ∧ xs.length ≤ 1000 ∧ Q (.int xs.length) H1
theorem pe_lenSetN {X : Cx} {a : Expr} {ta : TE} {p p2 q pos : Pos} (hc : X.calm = true) (hg : Gl X "len") (hm : X.mg "len" = none) (hg2 : Gl X "set") (hm2 : X.mg "set" = none) (ha : PE X a ta)
    (na : starEach [a] X.env = (false, eval a X.env) :: starEach [] X.env := by rfl) : PE X (.Call (.Name "len" p) [.Call (.Name "set" p2) [a] [] q] [] pos) (tLenSetN X.K ta) := by
  refine ⟨fun pins s σ H Q I h => Call_ (ld_blt I hg hm PySem.boot_len (PyProof.Rows.callWith_builtin1 (PyProof.Rows.args_cons (Call_ (ld_blt I hg2 hm2 PyProof.Rows.boot_set ?_)) rfl) rfl rfl))⟩
  refine PyProof.Rows.callWith_type1 (PyProof.Rows.args_cons (thn (ha.run pins s σ H _ I h) fun v s1 ⟨x, H1, I1, r1, l, xs, ex, hq, hnd, hl, q1⟩ => PyProof.Rows.args_nil ?_) na) na rfl
  subst ex
  cases r1
  have fin : ∀ (its : List Value), Vals (xs.map V.str) its → ∀ (g : Heap) (tk : Nat), g.SetOf (PySem.strKind X.prog X.w) s1.heap.objs.size (fun k' => (xs.take its.toArray.size).any (· == k')) its.toArray.size → (∀ b o, b < s1.heap.objs.size → s1.heap.get? b = some o → g.get? b = some o) →
      wpAny (model X.prog X.w) X.A (spliced (backTo pos (starEach [] X.env))) (fun vs s₂ => wpAny (model X.prog X.w) X.A (call (.builtin "len") (Value.ref s1.heap.objs.size :: vs)) (EP X pins σ Q) X.xe s₂) X.xe { s1 with heap := g, toks := tk } := fun its r g tk hS hk => by
    refine PyProof.Rows.args_nil ?_
    have sz : its.toArray.size = xs.length := by rw [List.size_toArray, ← r.length, List.length_map]
    rw [sz] at hS
    obtain ⟨o, es, ep, t, ho, hex, hd, _, _, _, hf, hn⟩ := hS
    have I2 : Inv X pins σ H1 { s1 with heap := g, toks := tk } := I1.kept fun b o e => hk b o (Heap.lt_size e) e
    exact call_len_set ho hex hd hf (by rw [hn] <;> omega) ⟨.int xs.length, H1, I2.tok _, ⟨_, by rw [hn]⟩, q1⟩
  rcases hq with hq | hq
  · obtain ⟨its, r, pl, hz⟩ := I1.list hq
    exact set_of_list (I1.ok.hd hc) pl.isList (by simpa using strsAre_of r) hnd hl fun g tk hS hk => fin its r g tk hS hk
  · obtain ⟨its, r, pl, hz⟩ := I1.tuple hq
    exact set_of_tuple (I1.ok.hd hc) pl (by simpa using strsAre_of r) hnd hl fun g tk hS hk => fin its r g tk hS hk
end Ho
set_option Elab.async false
set_option linter.all false
set_option maxRecDepth 100000
set_option maxHeartbeats 4000000
/-! == of dicts that hold the same pairs, keys flat or tuples. -/
namespace Ho
open PySem PySem.Spec PyProof.Rows L2
section
variable {prog : Program} {w : World} {A : Around} {E : Value → Shared → Prop} {s : Shared} {κ : Type} [DecidableEq κ] {knd : HeapKind prog w κ}
theorem same_pairsH {nm : String} {a b : Addr} {xs ys : List (κ × Addr × Value)} {Q : Bool → Shared → Prop} (ha : (a == sysModules) = false) (hb : (b == sysModules) = false) (hu : knd.room A)
    (da : s.heap.DictOfH knd a xs) (db : s.heap.DictOfH knd b ys) (hl : xs.length = ys.length)
    (hv : ∀ (i : Nat) x y, xs[i]? = some x → ys[i]? = some y → x.1 = y.1 ∧ PySem.SeqAt.EqP prog w A s x.2.2 y.2.2 true) (h : Q true s) :
    wpAny (model prog w) A (Builtin.Dict.samePairs nm a b) Q E s := by
  obtain ⟨oa, es, ep, hoa, _, hda, hea, hka, hna⟩ := da
  obtain ⟨ob, fs, fp, hob, _, hdb, heb, hkb, hnb⟩ := db
  have la : es.size = xs.length := size_of_entries hea
  have lb : fs.size = ys.length := size_of_entries heb
  have hsz : es.size = fs.size := by rw [la, lb, hl]
  unfold Builtin.Dict.samePairs Builtin.Dict.showsAll
  rw [if_neg (by rw [ha]; exact Bool.false_ne_true), if_neg (by rw [hb]; exact Bool.false_ne_true)]
  refine wpAny_bind (wpAny_pure (wpAny_bind (wpAny_pure (wpAny_bind (wpAny_dictEntries hoa hda ?_)))))
  dsimp only
  refine wpAny_bind (wpAny_dictEntries hob hdb ?_)
  rw [if_neg (by rw [hsz]; simp)]
  refine wpAny_bind (wpAny_dictEpoch hoa hda (wpAny_bind ?_))
  rw [Std.Legacy.Range.forIn_eq_forIn_range']
  simp only [Std.Legacy.Range.size, Nat.sub_zero, Nat.add_sub_cancel, Nat.div_one]
  refine wpAny_forIn_list _ (fun rest q z => z = s ∧ q = (none, ()) ∧ ∃ i, rest = List.range' i (es.size - i) ∧ i ≤ es.size) _ ?turn ?fin _ _ ⟨rfl, rfl, 0, by simp, Nat.zero_le _⟩
  case turn =>
    rintro x rest q z ⟨rfl, rfl, i, hr, hi⟩
    have hlt : i < es.size := by
      rcases Nat.lt_or_ge i es.size with g | g
      · exact g
      · rw [Nat.sub_eq_zero_of_le g] at hr
        simp at hr
    have en : es.size - i = (es.size - (i + 1)) + 1 := by omega
    rw [en, List.range'_succ] at hr
    injection hr with h1 h2
    subst h1
    have hx : xs[x]? = some xs[x] := List.getElem?_eq_getElem (by omega)
    have hy : ys[x]? = some ys[x] := List.getElem?_eq_getElem (by omega)
    obtain ⟨ek, ev⟩ := hv x _ _ hx hy
    have e1 : es[x]? = some (entryOfKey knd xs[x]) := by rw [entry_at hea, hx]; rfl
    refine wpAny_bind (wpAny_dictEntries hoa hda ?_)
    rw [e1]
    dsimp only [entryOfKey]
    refine wpAny_bind (wpAny_holding (wpAny_bind (wpAny_dictFind_heap hu (hka _ (List.getElem_mem _)) hob hdb heb hkb hnb (fun no => absurd (show ys[x]? = some (xs[x].1, ys[x].2) by rw [hy, ek]) (no x _)) fun j p hj => ?_)))
    have ej : j = x := by
      have k1 : (ys.map (·.1))[j]? = some xs[x].1 := by rw [List.getElem?_map, hj]; rfl
      have k2 : (ys.map (·.1))[x]? = some xs[x].1 := by rw [List.getElem?_map, hy, ek]; rfl
      obtain ⟨b1, b2⟩ := List.getElem?_eq_some_iff.mp k1
      obtain ⟨c1, c2⟩ := List.getElem?_eq_some_iff.mp k2
      rcases Nat.lt_trichotomy j x with g | g | g
      · exact absurd (b2.trans c2.symm) (List.pairwise_iff_getElem.mp hnb j x b1 c1 g)
      · exact g
      · exact absurd (c2.trans b2.symm) (List.pairwise_iff_getElem.mp hnb x j c1 b1 g)
    subst ej
    have e2 : fs[j]? = some (entryOfKey knd ys[j]) := by rw [entry_at heb, hy]; rfl
    refine wpAny_bind (wpAny_dictEntries hob hdb ?_)
    rw [e2]
    dsimp only [entryOfKey]
    refine wpAny_holding (ev _ _ ?_)
    rw [if_neg (by decide)]
    refine wpAny_bind (wpAny_dictEpoch hoa hda ?_)
    rw [if_neg (by simp)]
    exact wpAny_pure ⟨rfl, rfl, j + 1, h2, hlt⟩
  case fin =>
    rintro q z ⟨rfl, rfl, i, hr, hi⟩
    exact wpAny_pure h
theorem rc_dictsH {a b : Addr} {xs ys : List (κ × Addr × Value)} {Q : Value → Shared → Prop} (ha : (a == sysModules) = false) (hb : (b == sysModules) = false) (hr : knd.room A.in1) (hu : A.units < cLine) (da : s.heap.DictOfH knd a xs) (db : s.heap.DictOfH knd b ys) (hl : xs.length = ys.length)
    (hv : ∀ (i : Nat) x y, xs[i]? = some x → ys[i]? = some y → x.1 = y.1 ∧ PySem.SeqAt.EqP prog w A.in1 s x.2.2 y.2.2 true) (h : Q (.bool true) s) : wpAny (model prog w) A (richCompare .Eq (.ref a) (.ref b)) Q E s := by
  have ta : s.TypeIs (.ref a) "dict" := let ⟨o, _, _, ho, hc, _⟩ := da; ⟨o, ho, hc.1⟩
  have tb : s.TypeIs (.ref b) "dict" := let ⟨o, _, _, ho, hc, _⟩ := db; ⟨o, ho, hc.1⟩
  refine wpAny_richCompare_same_room (op := .Eq) ta tb PySem.F.slot_dict_eq (wpAny_call_entry PySem.F.slot_dict_eq ta PySem.F.entry_dict_eq ?_ (PySem.F.args_dict_eq_2 _ _)) hu
  show wpAny _ _ (Builtin.Dict.dictSlotArgs "__eq__" ⟨[.ref a, .ref b], []⟩ >>= _) _ _ s
  refine wpAny_bind ?_
  unfold Builtin.Dict.dictSlotArgs
  refine wpAny_bind (wpAny_notOrdered_dict ta ?_)
  show wpAny _ _ (pure (Value.ref a, Value.ref b)) _ _ s
  refine wpAny_pure (wpAny_bind (wpAny_isInstance (T := "dict") tb PySem.F.sub_dict_dict ?_))
  simp only [Bool.not_true, Bool.false_eq_true, if_false]
  refine wpAny_bind (wpAny_pure (wpAny_bind (wpAny_pure (wpAny_bind (same_pairsH ha hb hr da db hl hv ?_)))))
  exact wpAny_pure ⟨_, rfl, (fun x => nomatch x), h⟩
end
section
variable {X : Cx} {n : Nat}
/-- two dicts with the very same pairs, of flat values -/
def DdT : Eqv := fun x y H => ∃ (a b : Addr) (kvs : List (List Key × V)), x = .ref a ∧ y = .ref b ∧ H a = some (.dT kvs) ∧ H b = some (.dT kvs) ∧ ∀ p ∈ kvs, flatV p.2 = true ∧ eqV p.2 p.2 = true
def DdK : Eqv := fun x y H => ∃ (a b : Addr) (kvs : List (Key × V)), x = .ref a ∧ y = .ref b ∧ H a = some (.dK kvs) ∧ H b = some (.dK kvs) ∧ ∀ p ∈ kvs, valV kvs p.1 = some p.2 ∧ flatV p.2 = true ∧ eqV p.2 p.2 = true
theorem mon_ddT : Mon DdT := fun x y H H' e ⟨a, b, kvs, h1, h2, h3, h4, h5⟩ => ⟨a, b, kvs, h1, h2, e _ _ h3, e _ _ h4, h5⟩
theorem mon_ddK : Mon DdK := fun x y H H' e ⟨a, b, kvs, h1, h2, h3, h4, h5⟩ => ⟨a, b, kvs, h1, h2, e _ _ h3, e _ _ h4, h5⟩
theorem flat_eqP {A : Around} {s : Shared} {x : V} {u v : Value} (ru : RelV x u) (rv : RelV x v) (hf : flatV x = true) (he : eqV x x = true) : PySem.SeqAt.EqP X.prog X.w A s u v true := fun E Q q => by
  have e := eqAt_V (A := A) (s := s) ru rv hf hf
  rw [he] at e
  exact e X.prog X.w E Q q
theorem kt_get {H : Hp} {kvs : List (List Key × V)} {xs : List (List Key × Addr × Value)} (r : KT H kvs xs) : ∀ {i : Nat} {x : List Key × Addr × Value}, xs[i]? = some x → ∃ p, kvs[i]? = some p ∧ p.1 = x.1 ∧ RelV p.2 x.2.2 := by
  induction r with
  | nil => intro i x e; simp at e
  | @cons p q ps qs h t ih =>
    intro i x e
    cases i with
    | zero =>
      have e' : q = x := by simpa using e
      subst e'
      exact ⟨p, rfl, h.1, h.2.2⟩
    | succ i => exact ih (by simpa using e)
theorem rcG_dT : RcG X 1 DdT := by
  intro A pins s σ H x y u v sb I rx ry d
  obtain ⟨a, b, kvs, rfl, rfl, ha, hb, hf⟩ := d
  cases rx
  cases ry
  obtain ⟨_, sa, xs, ra, da⟩ := dt_of I.hok ha
  obtain ⟨_, sc, ys, rb, db⟩ := dt_of I.hok hb
  have un := sb.room.units
  refine rc_dictsH (knd := tupleKind (mixKind X.prog X.w)) sa sc (tupleKind_room_in1 (by omega)) sb.room.units0 da db (by rw [← Paired.length ra, ← Paired.length rb]) (fun i p q hp hq => ?_) ⟨rfl, H, I, Ext.rfl'⟩
  obtain ⟨p', h1, h2, h3⟩ := kt_get ra hp
  obtain ⟨q', k1, k2, k3⟩ := kt_get rb hq
  rw [h1] at k1
  cases k1
  have hm := hf p' (List.mem_of_getElem? h1)
  exact ⟨h2.symm.trans k2, flat_eqP h3 k3 hm.1 hm.2⟩
theorem hits_of {A : Around} {s : Shared} {kb : List (Key × Value)} {kvs : List (Key × V)} (rb : KV kvs kb) : ∀ {l : List (Key × V)} {m : List (Key × Value)}, KV l m → (∀ p ∈ l, valV kvs p.1 = some p.2 ∧ flatV p.2 = true ∧ eqV p.2 p.2 = true) → PySem.W.KeqHitsP X.prog X.w A s kb m true
  | _, _, .nil, _ => .nil
  | _, _, .cons (a := p) (b := q) h t, hm => by
    obtain ⟨h1, h2, h3⟩ := hm p List.mem_cons_self
    obtain ⟨w', hw, rw'⟩ := RelO.some_of (v := p.2) (o := valueAt kb p.1) (by rw [← h1]; exact rb.val p.1)
    obtain ⟨q1, q2⟩ := q
    obtain ⟨e1, e2⟩ := h
    have e1' : p.1 = q1 := e1
    rw [e1'] at hw
    exact .hit (e := true) (b := true) hw (flat_eqP e2 rw' h2 h3) (hits_of rb t fun x hx => hm x (List.mem_cons_of_mem _ hx))
theorem rcG_dK : RcG X 1 DdK := by
  intro A pins s σ H x y u v sb I rx ry d
  obtain ⟨a, b, kvs, rfl, rfl, ha, hb, hf⟩ := d
  cases rx
  cases ry
  obtain ⟨_, sa, xs, ra, da⟩ := dk_of I.hok ha
  obtain ⟨_, sc, ys, rb, db⟩ := dk_of I.hok hb
  have hl : (xs.length == ys.length) = true := by rw [← ra.length, ← rb.length]; exact beq_self_eq_true _
  refine PySem.W.rcP_dicts (r := true) sa sc da db sb.room.units0 (fun _ => hits_of rb ra hf) _ _ ⟨?_, H, I, Ext.rfl'⟩
  rw [hl]
  rfl
theorem eqG_dicts : EqG X 1 (fun x y H => DdT x y H ∨ DdK x y H) := EqG.or (rcG_dT.eqG fun _ _ _ d => let ⟨a, b, _, h1, h2, _⟩ := d; ⟨a, b, h1, h2⟩) (rcG_dK.eqG fun _ _ _ d => let ⟨a, b, _, h1, h2, _⟩ := d; ⟨a, b, h1, h2⟩)
/-- (d, e, ..) == (d', e', ..) -/
theorem rcG_tups : RcG X 2 (DTup X.K fun x y H => DdT x y H ∨ DdK x y H) := rcG_tup (Mon.or mon_ddT mon_ddK) eqG_dicts
end
end Ho
set_option Elab.async false
set_option linter.all false
set_option maxRecDepth 100000
set_option maxHeartbeats 4000000
/-! Tuples without a dict of their own; sorted(xs, key=lambda pair: (self.order.index(pair[0]), self.order.index(pair[1]))). -/
namespace Ho
open PySem PySem.Spec PyProof.Rows L2
/-! ### plain tuples -/
def PlT (K : PySem.W.Frag) (H : Hp) (a : Addr) : Prop := (∃ o u, H a = some (.frz o u) ∧ o.cls = .type "tuple" ∧ o.dict = none) ∨ ∃ o, K.lookup a = some o ∧ o.cls = .type "tuple" ∧ o.dict = none
/-- a tuple of xs, of which nothing else hangs -/
structure OrdAt (K : PySem.W.Frag) (H : Hp) (a : Addr) (xs : List V) : Prop where
  sq : SqT K H a xs
  pl : PlT K H a
theorem PlT.same {K : PySem.W.Frag} {H H' : Hp} {a : Addr} (h : PlT K H a) (s : Same H H') : PlT K H' a := h.imp (fun ⟨o, u, e, r⟩ => ⟨o, u, s _ _ e, r⟩) id
theorem OrdAt.same {K : PySem.W.Frag} {H H' : Hp} {a : Addr} {xs : List V} (h : OrdAt K H a xs) (s : Same H H') : OrdAt K H' a xs := ⟨SqT.same h.sq s, h.pl.same s⟩
section
variable {X : Cx}
theorem plt_at {pins : List (Addr × Obj)} {σ : L2.St} {H : Hp} {s : Shared} {a : Addr} (I : Inv X pins σ H s) (h : PlT X.K H a) : ∃ ob, s.heap.get? a = some ob ∧ ob.cls = .type "tuple" ∧ ob.dict = none := by
  rcases h with ⟨o, u, e, c, d⟩ | ⟨o, e, c, d⟩
  · exact ⟨o, (show ObjOk X.prog X.w H s.heap a (.frz o u) from I.hok a _ e).1, c, d⟩
  · exact ⟨o, I.kIn _ _ e, c, d⟩
def tyTup (K : PySem.W.Frag) (x : V) (H : Hp) : Prop := ∃ a, x = .ref a ∧ PlT K H a
theorem ty_tup : TyOk X "tuple" (tyTup X.K) := by
  intro pins σ H s x v I r ty
  obtain ⟨a, rfl, h⟩ := ty
  cases r
  obtain ⟨ob, e, c, d⟩ := plt_at I h
  exact ⟨⟨ob, e, c⟩, fun b q => by cases q; exact ⟨ob, e, d⟩⟩
/-- tuple(xs) -/
theorem call_tuple_pl : CallR X (.type "tuple") (fun xs H Q => ∃ p ys, xs = [.ref p] ∧ ((SqL X.K H p ys ∧ ∀ l o, H l = none → o.cls = .type "tuple" → o.dict = none → Q (.ref l) (upd H l (.frz o (.tup ys)))) ∨ (SqT X.K H p ys ∧ Q (.ref p) H))) := by
  intro pins s σ H xs us Q I r h
  obtain ⟨p, ys, rfl, h⟩ := h
  obtain ⟨u, rfl, rx⟩ := vals1 r
  cases rx
  rcases h with ⟨hq, q⟩ | ⟨hq, q⟩
  · obtain ⟨its, r', pl, hz⟩ := I.list hq
    have hlen := r'.length
    refine call_tuple_list pl.isList (fun h' kp => ?_) (by simp only [List.size_toArray] <;> omega)
    have I1 : Inv X pins σ H { s with heap := h' } := I.kept (t' := s.toks) kp
    have I2 : Inv X pins σ (upd H h'.objs.size (.frz { cls := .type "tuple", data := .seq its.toArray } (.tup ys))) { s with heap := h'.push { cls := .type "tuple", data := .seq its.toArray } } :=
      I1.laid (t' := s.toks) (fun b o e => Heap.get?_push_of_some _ e) (Nat.le_refl _) (show ObjOk X.prog X.w _ _ _ (.frz _ (.tup ys)) from ⟨Heap.get?_push_size _ rfl, hz, its, r', IsTup.new _ _⟩)
    exact ⟨.ref h'.objs.size, _, I2, rfl, q _ _ (I1.hok.fresh (Nat.le_refl _)) rfl rfl⟩
  · obtain ⟨its, r', pl, hz⟩ := I.tuple hq
    exact call_tuple_same pl ⟨.ref p, H, I, rfl, q⟩
/-! ### steps that change no object -/
variable {pins : List (Addr × Obj)} {σ : L2.St} {H : Hp} {s : Shared} {E : Value → Shared → Prop}
theorem var_raw {i : Nat} {x : Str} {pos : Pos} {v : V} {Q : Value → Shared → Prop} (I : Inv X pins σ H s) (hN : X.N[i]? = some x) (hv : Vis X.env.scope x) (e : σ[i]? = some (some v)) (h : ∀ u, RelV v u → Q u s)
    (hd : (x == ("__debug__" : Str)) = false := by decide) (hcd : (x == ("__classdict__" : Str)) = false := by decide) : wpAny (model X.prog X.w) X.A (eval (.Name x pos) X.env) Q E s := by
  obtain ⟨m, hn, hl⟩ := I.loc
  obtain ⟨u, r, l⟩ := hl i x v hN e hv
  have fin := h u r
  rcases l with ⟨hk, hm⟩ | ⟨hk, c, hc, hcell⟩
  · exact wpAny_Name (wpAny_loadName_local I.ok.kind hk hn hm fin) hd
  · rcases hk with hk | hk
    · exact wpAny_Name (wpAny_loadName_cell I.ok.kind hk hc hcell fin) hd
    · exact wpAny_Name (wpAny_loadName_free I.ok.kind hk hc hcell fin hcd) hd
theorem fld_raw {A : Around} {a C dx : Addr} {fs : List (Str × V)} {f : Str} {v : V} {b : Bool} {Q : Value → Shared → Prop} (I : Inv X pins σ H s) (e : H a = some (.ins C dx fs)) (c : Cls X.K C) (n : NoAttr X.K C f) (l : fs.lookup f = some v)
    (h : ∀ u tk, RelV v u → Q u { s with toks := tk }) : wpAny (model X.prog X.w) A (getAttr (.ref a) f b) Q E s := by
  obtain ⟨mA, O, r, _, _, _⟩ := ins_get I.hok e
  obtain ⟨u, hu, ru⟩ := RelO.some_of (v := v) (o := mA f) (by rw [← l]; exact r f)
  exact get_map I.kIn O (c.get f) c.hd n hu (handed_of ru) (h u _ ru)
theorem tidx_raw {A : Around} {p : Addr} {ys : List Str} {z : Str} {t : Tok} {j : Nat} {Q : Value → Shared → Prop} (I : Inv X pins σ H s) (hq : SqT X.K H p (ys.map V.str)) (hy : ys[j]? = some z) (hno : ∀ m, m < j → ys[m]? ≠ some z) (h : ∀ tk t', Q (.int (j : Nat) t') { s with toks := tk }) :
    wpAny (model X.prog X.w) A (call (.builtin "tuple.index") [.ref p, .str z t]) Q E s := by
  obtain ⟨its, r, pl, hz⟩ := I.tuple hq
  obtain ⟨⟨cls, dd, dt, sl⟩, ho, hc, n, hd⟩ := pl
  simp only at hc hd
  subst hc hd
  have hl : its.toArray.size = ys.length := by rw [List.size_toArray, ← r.length, List.length_map]
  have hj : j < its.toArray.size := by rw [hl]; exact (List.getElem?_eq_some_iff.mp hy).1
  have there : ∀ (m : Nat) (hm : m < its.toArray.size), ∃ y t', ys[m]? = some y ∧ its.toArray[m] = Value.str y t' := fun m hm => by
    have hm' : m < ys.length := by rw [← hl]; exact hm
    obtain ⟨u, hu, t', hu'⟩ := r.get (i := m) (x := .str ys[m]) (by simp [hm'])
    refine ⟨ys[m], t', List.getElem?_eq_getElem hm', ?_⟩
    have e := (List.getElem?_eq_some_iff.mp hu).2
    rw [← hu', ← e]
    simp
  refine call_meets PySem.F.slot_tuple_index ⟨_, ho, rfl⟩ PySem.F.entry_tuple_index (PySem.F.args_tuple_index_2 _ _) (TI.tuple_indexAt p its.toArray n dd sl (.str z t) (eqU (.str z)) j hj ?_ ?_)
    ⟨ho, fun u hu => mem_eqAt (x := .str z) ⟨t, rfl⟩ rfl r (flat_strs ys) u (by simpa using hu), h _ _⟩
  · obtain ⟨y, t', h1, h2⟩ := there j hj
    rw [hy] at h1
    cases h1
    rw [h2]
    exact beq_self_eq_true z
  · intro m hm hmj
    obtain ⟨y, t', h1, h2⟩ := there m hm
    rw [h2]
    exact beq_eq_false_iff_ne.mpr fun e => hno m hmj (e ▸ h1)
theorem sub_raw {a b : Expr} {pos : Pos} {p : Addr} {xs : List V} {i : Int} {z : V} {Q : Value → Shared → Prop} (hs : PlainIx b) (hq : SqT X.K H p xs) (he : atI xs i = some z) (I0 : Inv X pins σ H s)
    (h : wpAny (model X.prog X.w) X.A (eval a X.env) (fun v s1 => v = .ref p ∧ s1 = s ∧ wpAny (model X.prog X.w) X.A (eval b X.env) (fun u s2 => ∃ t tk, u = .int i t ∧ s2 = { s with toks := tk } ∧ ∀ x tk', RelV z x → Q x { s with toks := tk' }) E s1) E s) :
    wpAny (model X.prog X.w) X.A (eval (.Subscript a b pos) X.env) Q E s := by
  refine Subscript_ (wpAny_mono h (fun v s1 h1 => ?_) fun _ _ x => x)
  obtain ⟨rfl, rfl, h1⟩ := h1
  refine wpAny_mono h1 (fun u s2 h2 => ?_) fun _ _ x => x
  obtain ⟨t, tk, rfl, rfl, h2⟩ := h2
  have I : Inv X pins σ H { s1 with toks := tk } := I0.tok tk
  obtain ⟨its, r, pl, hz⟩ := I.tuple hq
  obtain ⟨j, h1, h2', h3, h4, h5⟩ := atI_get he
  obtain ⟨w, ew, rw'⟩ := r.get h2'
  have hl := r.length
  have hn := line63
  have fin : Q w { s1 with toks := tk } := h2 w tk rw'
  exact subscriptTail_builtinR (x := w) pl.typeIs slot_tuple_getitem.lookup
    (getItem_tuple (j := j) (Q := fun r s' => r = w ∧ Q r s') pl (by omega) (by omega) (by rw [List.size_toArray, ← hl]; exact h1) (by simpa using ew) ⟨rfl, fin⟩) (hs _ _)
/-- a.f.index(b[k]) -/
theorem idx_raw {a b f : Str} {i0 i1 : Nat} {k : Int} {kn : Nat} {p1 p2 p3 p4 p5 p6 p7 : Pos} {p o t C dx : Addr} {fs : List (Str × V)} {ord : List Str} {ys : List V} {z : Str} {j : Nat} {Q : Value → Shared → Prop} (I : Inv X pins σ H s)
    (hN : X.N[i0]? = some a) (hv : Vis X.env.scope a) (ha : σ[i0]? = some (some (.ref p))) (hp : H p = some (.ins C dx fs)) (c : Cls X.K C) (n : NoAttr X.K C f) (l : fs.lookup f = some (.ref o)) (ho : OrdAt X.K H o (ord.map V.str))
    (hN' : X.N[i1]? = some b) (hv' : Vis X.env.scope b) (hb : σ[i1]? = some (some (.ref t))) (ht : SqT X.K H t ys) (hk : atI ys k = some (.str z)) (hj : ord[j]? = some z) (hno : ∀ m, m < j → ord[m]? ≠ some z)
    (h : ∀ tk t', Q (.int (j : Nat) t') { s with toks := tk })
    (hd : (a == ("__debug__" : Str)) = false) (hcd : (a == ("__classdict__" : Str)) = false) (hd' : (b == ("__debug__" : Str)) = false) (hcd' : (b == ("__classdict__" : Str)) = false)
    (hbase0 : attributeBase (.Name a p1) f X.env (eval (.Name a p1) X.env) = eval (.Name a p1) X.env)
    (hbase : attributeBase (.Attribute (.Name a p1) f p2) "index" X.env (eval (.Attribute (.Name a p1) f p2) X.env) = eval (.Attribute (.Name a p1) f p2) X.env)
    (hline : (p3.endLine == p7.line) = true) :
    wpAny (model X.prog X.w) X.A (eval (.Call (.Attribute (.Attribute (.Name a p1) f p2) "index" p3) [.Subscript (.Name b p4) (.Constant (.int k) kn p5) p6] [] p7) X.env) Q E s := by
  refine wpAny_Call_method_late hbase rfl hline rfl (attr_of hbase0 (var_raw I hN hv ha (fun u ru => ?_) hd hcd))
  obtain rfl : u = Value.ref p := ru
  refine fld_raw I hp c n l fun u tk ru => ?_
  obtain rfl : u = Value.ref o := ru
  obtain ⟨ob, e1, e2, e3⟩ := plt_at I ho.pl
  have I1 : Inv X pins σ H { s with toks := tk } := I.tok tk
  refine ⟨"tuple", "tuple.index", PySem.F.plainAttrs_tuple, PySem.F.slot_tuple_index, PySem.F.type_tuple_index, ⟨ob, e1, e2⟩, fun b q => by cases q; exact ⟨ob, e1, e3⟩, ?_⟩
  refine Calls.callWith_builtin rfl (Calls.evalArgs_plain (Calls.spliced_cons ?_))
  refine sub_raw (fun _ _ => rfl) ht hk I1 (var_raw I1 hN' hv' hb (fun u ru => ?_) hd' hcd')
  obtain rfl : u = Value.ref t := ru
  refine ⟨rfl, rfl, wpAny_Constant_int ⟨_, _, rfl, rfl, fun x tk' rx => Calls.spliced_nil ?_⟩⟩
  obtain ⟨t0, rfl⟩ : ∃ t0, x = Value.str z t0 := rx
  exact tidx_raw (I.tok tk') ho.sq hj hno fun tk2 t2 => h tk2 t2
end
open LamX NdefX in
/-- (a.f.index(b[0]), a.f.index(b[1])) -/
abbrev keyBody (a f b : Str) (n0 n1 k : Nat) (q1 q2 q3 q4 q5 q6 q7 r1 r2 r3 r4 r5 r6 r7 pos : Pos) : Expr :=
  .Tuple [.Call (.Attribute (.Attribute (.Name a q1) f q2) "index" q3) [.Subscript (.Name b q4) (.Constant (.int 0) n0 q5) q6] [] q7,
    .Call (.Attribute (.Attribute (.Name a r1) f r2) "index" r3) [.Subscript (.Name b r4) (.Constant (.int 1) n1 r5) r6] [] r7] k pos
section
open LamX NdefX
variable {X : Cx} {pins : List (Addr × Obj)} {σ : L2.St} {H : Hp} {s : Shared}
/-- the place of z in ord -/
def placeOf (ord : List Str) (z : Str) : Nat := ord.findIdx (· == z)
theorem placeOf_at {ord : List Str} {z : Str} (h : z ∈ ord) : ord[placeOf ord z]? = some z ∧ ∀ m, m < placeOf ord z → ord[m]? ≠ some z := by
  have hl : placeOf ord z < ord.length := List.findIdx_lt_length_of_exists ⟨z, h, beq_self_eq_true z⟩
  refine ⟨?_, fun m hm e => ?_⟩
  · have e := List.findIdx_getElem (p := (· == z)) (w := hl)
    have e2 : ord[placeOf ord z] = z := beq_iff_eq.mp e
    rw [List.getElem?_eq_getElem hl, e2]
  · have hm' : m < ord.length := Nat.lt_trans hm hl
    rw [List.getElem?_eq_getElem hm'] at e
    have e2 : ord[m] = z := Option.some.inj e
    have no := List.not_of_lt_findIdx (p := (· == z)) (xs := ord) hm
    rw [e2] at no
    exact absurd (beq_self_eq_true z) (by rw [no]; exact Bool.false_ne_true)
theorem lam_key {a f b : Str} {n0 n1 kk : Nat} {q1 q2 q3 q4 q5 q6 q7 r1 r2 r3 r4 r5 r6 r7 bpos : Pos} {A : Around} {k : Nat} {qual : Str} {params : Arguments} {scope : Scope} {fa c' p o t C dx : Addr} {cl : List (Str × Addr)} {pm ctv : Value} {fs : List (Str × V)} {ord : List Str} {z0 z1 : Str} {v : Value}
    (I : Inv X pins σ H s) (hr : Room (k + 1) A) (hfr : A.frames = X.A.frames) (S : NScope [b, a] [b] [a] scope) (hf : s.heap.get? fa = some (PySem.W.kla_obj "<lambda>" qual params (keyBody a f b n0 n1 kk q1 q2 q3 q4 q5 q6 q7 r1 r2 r3 r4 r5 r6 r7 bpos) scope cl pm c' ctv)) (hc : H c' = some (CodeO c' qual))
    (hbind : bindArgs (PySem.W.kla_fn "<lambda>" qual params (keyBody a f b n0 n1 kk q1 q2 q3 q4 q5 q6 q7 r1 r2 r3 r4 r5 r6 r7 bpos) scope cl pm (.ref c') ctv) ⟨[v], []⟩ = pure [(b, v)])
    (Cl : CellsAt cl [a] [some (.ref p)] s.heap H) (rv : RelV (.ref t) v) (hp : H p = some (.ins C dx fs)) (cc : Cls X.K C) (n : NoAttr X.K C f) (l : fs.lookup f = some (.ref o)) (ho : OrdAt X.K H o (ord.map V.str)) (ht : SqT X.K H t [.str z0, .str z1]) (h0 : z0 ∈ ord) (h1 : z1 ∈ ord)
    (va : Vis scope a) (vb : Vis scope b) (hd : (a == ("__debug__" : Str)) = false) (hcd : (a == ("__classdict__" : Str)) = false) (hd' : (b == ("__debug__" : Str)) = false) (hcd' : (b == ("__classdict__" : Str)) = false) (hl1 : (q3.endLine == q7.line) = true) (hl2 : (r3.endLine == r7.line) = true) :
    wpAny (model X.prog X.w) A (call (.ref fa) [v]) (PySem.W.KeyPure (.tuple [.int (placeOf ord z0 : Nat), .int (placeOf ord z1 : Nat)]) s) (fun _ _ => False) s := by
  obtain rfl : v = Value.ref t := rv
  have e0 : Env0 X.prog X.w X.K X.mg X.base A X.stack s H := by
    have e := I.env0
    exact ⟨by rw [hfr]; exact e.frames, e.mod, e.bs, e.bsz, e.funs, e.frf, e.hok, e.bare⟩
  have lim : s.heap.NoLimit := e0.mod.nolimit.keeps fun b o e => (e0.bs b o e).1
  refine wpAny_call (PySem.W.kla_callFunE hr.depth hf rfl S.co S.gen rfl (codeO_at e0.hok hc) ?_)
  rw [hbind]
  refine wpAny_pure (wpAny_newFunctionEnv S.nocell (fun y hy => by
    obtain rfl := List.mem_singleton.mp hy
    exact S.par b List.mem_cons_self) (fun h₁ hns hsb => ⟨lim.fresh _ hsb, ?_⟩) S.kind)
  let F : NF := ⟨"<lambda>", qual, params, [], scope, cl, c'⟩
  show codeAny _ _ (.expr (keyBody a f b n0 n1 kk q1 q2 q3 q4 q5 q6 q7 r1 r2 r3 r4 r5 r6 r7 bpos) (envF F fa s.heap.objs.size)) _ _
  have kp : ∀ b o, s.heap.get? b = some o → h₁.get? b = some o := fun b o e => hsb.extBut b o (Nat.ne_of_lt (Heap.lt_size e)) (Heap.get?_push_of_some _ e)
  have J : Inv (ncx C8.CX0 X.prog X.w X.K X.mg X.base [b, a] F fa A X.stack s H C8.E0) [] (startF [b, a] [.ref t] [some (.ref p)]) H { s with heap := h₁, toks := s.toks + 1 } :=
    inv_startN (F := F) (f := fa) (ps := [b]) (us := [.ref t]) S hr.hd e0 rfl (.cons rfl .nil) Cl hns kp
  obtain ⟨g1, g2⟩ := placeOf_at h0
  obtain ⟨g3, g4⟩ := placeOf_at h1
  refine PySem.W.kla_codeExpr (wpAny_Tuple_spliced ?_)
  refine Calls.spliced_cons ?_
  refine idx_raw (X := ncx C8.CX0 X.prog X.w X.K X.mg X.base [b, a] F fa A X.stack s H C8.E0) (i0 := 1) (i1 := 0) J rfl va rfl hp cc n l ho rfl vb rfl ht (atI_nat (j := 0) rfl) g1 g2 (fun tk t' => ?_) hd hcd hd' hcd' rfl rfl hl1
  refine Calls.spliced_cons ?_
  refine idx_raw (X := ncx C8.CX0 X.prog X.w X.K X.mg X.base [b, a] F fa A X.stack s H C8.E0) (i0 := 1) (i1 := 0) (J.tok tk) rfl va rfl hp cc n l ho rfl vb rfl ht (atI_nat (j := 1) rfl) g3 g4 (fun tk2 t2 => ?_) hd hcd hd' hcd' rfl rfl hl2
  refine Calls.spliced_nil ⟨by show 2 ≤ sizeLine; decide, ?_⟩
  refine ⟨_, _, rfl, fun b o e => Heap.get?_push_of_some _ (kp b o e), ?_⟩
  exact .tuple (Heap.get?_push_size _ rfl) rfl rfl (.cons (.int _ _) (.cons (.int _ _) .nil))
/-- the key of a pair -/
abbrev keyOf (ord : List Str) (q : Str × Str) : PyData := .tuple [.int (placeOf ord q.1 : Nat), .int (placeOf ord q.2 : Nat)]
/-- the pairs by the places of their names -/
def byPlaces (ord : List Str) (xs : List (Str × Str)) : List (Str × Str) := xs.mergeSort (PySem.W.dataLe false (keyOf ord))
def TPair (K : PySem.W.Frag) (H : Hp) (v : V) (q : Str × Str) : Prop := ∃ t, v = .ref t ∧ SqT K H t [.str q.1, .str q.2]
/-- a new tuple of two texts -/
def TPs (H : Hp) (v : V) (q : Str × Str) : Prop := ∃ t, v = .ref t ∧ H t = some (.tup [.str q.1, .str q.2])
theorem TPs.pair {K : PySem.W.Frag} {H : Hp} {v : V} {q : Str × Str} (h : TPs H v q) : TPair K H v q := by
  obtain ⟨t, e, h⟩ := h
  exact ⟨t, e, .inl (.inl h)⟩
def tSortLam (K : PySem.W.Frag) (T : List (Addr × Str)) (i : Nat) (f : Str) (te : TE) : TE := fun σ H Q => te σ H fun v H1 => ∃ (l p C dx o : Addr) (fs : List (Str × V)) (ord : List Str) (vs : List V) (xs : List (Str × Str)),
  v = .ref l ∧ SqL K H1 l vs ∧ Paired (TPs H1) vs xs ∧ σ[i]? = some (some (.ref p)) ∧ H1 p = some (.ins C dx fs) ∧ Cls K C ∧ NoAttr K C f ∧ fs.lookup f = some (.ref o) ∧ OrdAt K H1 o (ord.map V.str) ∧ (∀ q ∈ xs, q.1 ∈ ord ∧ q.2 ∈ ord) ∧ Tabs T H1 ∧
  ∀ H2 p2 us, ExtN H1 H2 → Tabs T H2 → H2 p2 = none → Paired (TPs H2) us (byPlaces ord xs) → Q (.ref p2) (upd H2 p2 (.lst us))
theorem TPs.ext {H H' : Hp} (e : ExtN H H') {v : V} {q : Str × Str} (h : TPs H v q) : TPs H' v q := by
  obtain ⟨t, rfl, h⟩ := h
  exact ⟨t, rfl, e _ _ h fun ps z => nomatch z⟩
theorem OrdAt.ext {K : PySem.W.Frag} {H H' : Hp} (e : ExtN H H') {a : Addr} {xs : List V} (h : OrdAt K H a xs) : OrdAt K H' a xs :=
  ⟨h.sq.elim (fun h => .inl (h.elim (fun h => .inl (e _ _ h fun ps z => nomatch z)) fun ⟨o, h⟩ => .inr ⟨o, e _ _ h fun ps z => nomatch z⟩)) fun h => .inr h,
    h.pl.imp (fun ⟨o, u, q, r⟩ => ⟨o, u, e _ _ q (fun ps z => nomatch z), r⟩) id⟩
theorem each_of {H : Hp} : ∀ {vs : List V} {us : List Value} {xs : List (Str × Str)}, Vals vs us → Paired (TPs H) vs xs → PySem.W.EachIs (fun u q => ∃ t, u = Value.ref t ∧ H t = some (.tup [.str q.1, .str q.2])) us xs
  | _, _, _, .nil, .nil => .nil
  | _, _, _, .cons r rs, .cons ⟨t, e, h⟩ ps => by
    subst e
    exact .cons ⟨t, r, h⟩ (each_of rs ps)
theorem each_vals {H : Hp} : ∀ {us : List Value} {xs : List (Str × Str)}, PySem.W.EachIs (fun u q => ∃ t, u = Value.ref t ∧ H t = some (.tup [.str q.1, .str q.2])) us xs → ∃ vs, Vals vs us ∧ Paired (TPs H) vs xs
  | _, _, .nil => ⟨[], .nil, .nil⟩
  | _, _, .cons ⟨t, e, h⟩ r => by
    obtain ⟨vs, h1, h2⟩ := each_vals r
    subst e
    exact ⟨.ref t :: vs, .cons rfl h1, .cons ⟨t, rfl, h⟩ h2⟩
theorem key_alike (ord : List Str) (xs : List (Str × Str)) : PySem.W.AllAlike (xs.map (keyOf ord)) := fun d hd d' hd' => by
  obtain ⟨q, _, rfl⟩ := List.mem_map.mp hd
  obtain ⟨q', _, rfl⟩ := List.mem_map.mp hd'
  simp [PySem.W.alike, PySem.W.alikeAll]
theorem key_depth (ord : List Str) (q : Str × Str) : (keyOf ord q).depth ≤ 1 := by simp [PyData.depth, PyData.depthAll]
theorem pe_sortLam {T : List (Addr × Str)} {c P : Addr} {e : Expr} {te : TE} {a f b x : Str} {i : Nat} {params : Arguments} {scope : Scope} {n0 n1 kk k : Nat} {q1 q2 q3 q4 q5 q6 q7 r1 r2 r3 r4 r5 r6 r7 bpos lpos kpos p pos : Pos}
    (hg : Gl X x) (hm : X.mg x = none) (hv : bootBuiltins x = some (.builtin "sorted")) (he : PE X e te) (TB : TabB X.base X.mg c P) (hcode : X.env.code = .ref c) (hmT : (P, X.env.qual ++ "<lambda>") ∈ T) (hu : ∀ p ∈ T, p.1 = P → p.2 = X.env.qual ++ "<lambda>") (hr : Room (k + 3) X.A)
    (S : NScope [b, a] [b] [a] scope) (hfree : ∀ y ∈ scope.names, y.2 = .free → X.env.scope.names.lookup y.1 = some .cell ∨ X.env.scope.names.lookup y.1 = some .free) (hfr : (a, NameKind.free) ∈ scope.names) (hi : X.N[i]? = some a) (hdef : defaultsOf params X.env = ([], []))
    (hbind : ∀ (q : Str) (cl : List (Str × Addr)) (pm cv ctv u : Value), bindArgs (PySem.W.kla_fn "<lambda>" q params (keyBody a f b n0 n1 kk q1 q2 q3 q4 q5 q6 q7 r1 r2 r3 r4 r5 r6 r7 bpos) scope cl pm cv ctv) ⟨[u], []⟩ = pure [(b, u)])
    (va : Vis scope a) (vb : Vis scope b) (hd : (a == ("__debug__" : Str)) = false) (hcd : (a == ("__classdict__" : Str)) = false) (hd' : (b == ("__debug__" : Str)) = false) (hcd' : (b == ("__classdict__" : Str)) = false) (hl1 : (q3.endLine == q7.line) = true) (hl2 : (r3.endLine == r7.line) = true)
    (hn : x ≠ "__name__" := by decide) (hdb : (x == ("__debug__" : Str)) = false := by decide) (hs : starEach [e] X.env = [(false, eval e X.env)] := by rfl) :
    PE X (.Call (.Name x p) [e] [⟨some "key", .Lambda params (keyBody a f b n0 n1 kk q1 q2 q3 q4 q5 q6 q7 r1 r2 r3 r4 r5 r6 r7 bpos) scope lpos, kpos⟩] pos) (tSortLam X.K T i f te) := by
  refine ⟨fun pins s σ H Q I h => ?_⟩
  refine wpAny_Call_Name_kw (ld_blt I hg hm hv ?_ hn hdb)
  refine PyProof.Rows.callWith_kw ?_ (by rw [hs] <;> rfl) (by rw [hs] <;> rfl) rfl rfl
  rw [hs]
  show wpAny _ _ (spliced ((false, eval e X.env) :: backTo pos (starEach [] X.env))) _ _ s
  refine Calls.spliced_cons (thn (he.run pins s σ H _ I h) fun u s1 ⟨v, H1, I1, r1, l, pS, C, dx, o, fs, ord, vs, xs, ev, hq, hp, hs1, hins, cc, na, lk, ho, hin, hT, q⟩ => Calls.spliced_nil ?_)
  subst ev
  obtain rfl : u = Value.ref l := r1
  show wpAny _ _ (evalAll ((do let v ← eval (.Lambda params (keyBody a f b n0 n1 kk q1 q2 q3 q4 q5 q6 q7 r1 r2 r3 r4 r5 r6 r7 bpos) scope lpos) X.env; standAt pos; pure v) :: [])) _ _ s1
  have hasF : ∀ y ∈ scope.names, y.2 = .free → ∃ c, X.env.cells.lookup y.1 = some c := fun y hy e => (hfree y hy e).elim (fun z => I.ok.has _ (.inl z)) fun z => I.ok.has _ (.inr z)
  refine wpAny_evalAll_cons (wpAny_bind (lam_make2 I1 TB hcode hmT hu hT hdef hasF fun fa c' pm ctv H2 s2 I2 eN T2 hf hfn hfrs hco => wpAny_bind (wpAny_standAt (wpAny_pure (wpAny_evalAll_nil ?_)))))
  show wpAny _ _ (call (.builtin "sorted") [.ref l] [(Str.ofString "key", .ref fa)]) _ _ s2
  have hq2 : SqL X.K H2 l vs := hq.elim (fun h => .inl (h.elim (fun h => .inl (eN _ _ h fun ps z => nomatch z)) fun ⟨o, h⟩ => .inr ⟨o, eN _ _ h fun ps z => nomatch z⟩)) fun h => .inr h
  have hp2 : Paired (TPs H2) vs xs := Paired.mapP hp fun _ _ h => TPs.ext eN h
  obtain ⟨its, rv, pl, hz⟩ := I2.list hq2
  have hl : xs.length = vs.length := (Paired.length hp2).symm
  have un := hr.un
  refine PySem.W.sorted_key_data (keyOf ord) pl.isList (by simpa using each_of rv hp2) (key_alike ord xs) (PySem.W.Sortable.tuples fun q => ⟨_, _, rfl⟩) (by rw [hl]; exact hz) (fun q _ => by have := key_depth ord q; omega) (PyProof.Rows.ksk_s1 _ _) (fun _ => PyProof.Rows.ksk_l1 _ _) (fun x => PyProof.Rows.ksk_t1 _ _) (fun v q hR hmem h tk hk => ?_) fun out cc2 h' tk hk hfree2 hD hlen hE => ?_
  · obtain ⟨t, ev, ht⟩ := hR
    subst ev
    have I3 : Inv X pins σ H2 { s2 with heap := h, toks := tk } := I2.kept hk
    have Cl : CellsAt (cloFrom X.env.cells scope.names []) [a] [some (.ref pS)] h H2 := by
      have e := cells_of I3 (Caps.made (fr := [a]) (js := [i]) I3.ok hfree (fun y hy => by rw [List.mem_singleton.mp hy]; exact hfr) (by simp [hi]))
      have e2 : [i].map (slotAt σ) = [some (.ref pS)] := by
        show [slotAt σ i] = _
        rw [slotAt_of hs1]
      rw [e2] at e
      exact e
    obtain ⟨m1, m2⟩ := hin q hmem
    exact lam_key (k := k) I3 hr.in1.in1 rfl S (hk _ _ hf) hco (hbind _ _ _ _ _ _) Cl rfl (eN _ _ hins fun ps z => nomatch z) cc na lk (ho.ext eN) (.inl (.inl ht)) m1 m2 va vb hd hcd hd' hcd' hl1 hl2
  · obtain ⟨us, ru, pu⟩ := each_vals hE
    have lu : us.length = out.length := ru.length
    have I4 : Inv X pins σ (upd H2 (s2.heap.objs.size + 1) (.lst us)) { s2 with heap := h', toks := tk } :=
      I2.laid hk (Nat.le_succ _) (show ObjOk X.prog X.w _ _ _ (.lst us) from ⟨by rw [lu, hlen, hl]; exact hz, out, cc2, ru, hD⟩)
    exact ⟨.ref (s2.heap.objs.size + 1), _, I4, rfl, q H2 _ us eN T2 (I2.hok.fresh (Nat.le_succ _)) pu⟩
end
end Ho
set_option Elab.async false
set_option linter.all false
set_option maxRecDepth 100000
/-! The pairs sorted by their places are any two in order. -/
namespace Ho
open PySem PySem.Spec PyProof.Rows L2
theorem place_up {ord : List Str} (hn : ord.Nodup) : ord.Pairwise fun x y => placeOf ord x < placeOf ord y := by
  have at_ : ∀ (i : Nat) (h : i < ord.length), placeOf ord ord[i] = i := fun i h => by
    obtain ⟨h1, h2⟩ := placeOf_at (ord := ord) (z := ord[i]) (List.getElem_mem h)
    obtain ⟨hl, e⟩ := List.getElem?_eq_some_iff.mp h1
    rcases Nat.lt_trichotomy (placeOf ord ord[i]) i with q | q | q
    · exact absurd e (List.pairwise_iff_getElem.mp hn _ _ hl h q)
    · exact q
    · exact absurd (List.getElem?_eq_getElem h) (h2 i q)
  refine List.pairwise_iff_getElem.mpr fun i j hi hj hij => ?_
  rw [at_ i hi, at_ j hj]
  exact hij
theorem place_inj {ord : List Str} {x y : Str} (hx : x ∈ ord) (hy : y ∈ ord) (e : placeOf ord x = placeOf ord y) : x = y := by
  obtain ⟨h1, _⟩ := placeOf_at hx
  obtain ⟨h2, _⟩ := placeOf_at hy
  rw [e, h2] at h1
  exact (Option.some.inj h1).symm
def pairLe (ord : List Str) (p q : Str × Str) : Prop := placeOf ord p.1 < placeOf ord q.1 ∨ (placeOf ord p.1 = placeOf ord q.1 ∧ placeOf ord p.2 ≤ placeOf ord q.2)
theorem le_iff {ord : List Str} {p q : Str × Str} : PySem.W.dataLe false (keyOf ord) p q = true ↔ pairLe ord p q := by
  have e := congrFun (congrFun (PySem.W.dataLe_ii (fun b : Str × Str => (placeOf ord b.1 : Int)) fun b => (placeOf ord b.2 : Int)) p) q
  have e' : PySem.W.dataLe false (keyOf ord) p q = decide ((placeOf ord p.1 : Int) < placeOf ord q.1 ∨ ((placeOf ord p.1 : Int) = placeOf ord q.1 ∧ (placeOf ord p.2 : Int) ≤ placeOf ord q.2)) := e
  rw [e', decide_eq_true_iff]
  unfold pairLe
  omega
theorem anyTwo_up {ord : List Str} : ∀ {l : List Str}, (l.Pairwise fun x y => placeOf ord x < placeOf ord y) → (Hm.anyTwo l).Pairwise (pairLe ord)
  | [], _ => .nil
  | a :: r, h => by
    obtain ⟨h1, h2⟩ := List.pairwise_cons.mp h
    unfold Hm.anyTwo
    refine List.pairwise_append.mpr ⟨?_, anyTwo_up h2, fun p hp q hq => ?_⟩
    · rw [List.pairwise_map]
      exact h.imp fun hxy => .inr ⟨rfl, Nat.le_of_lt hxy⟩
    · obtain ⟨b, _, rfl⟩ := List.mem_map.mp hp
      exact .inl (h1 _ (Hm.anyTwo_mem hq).1)
theorem pairs_perm : ∀ l : List Str, (Hm.pairs l ++ l.map fun m => (m, m)).Perm (Hm.anyTwo l)
  | [] => .nil
  | a :: r => by
    unfold Hm.pairs Hm.anyTwo
    rw [List.map_cons, List.map_cons, List.append_assoc, List.cons_append]
    have h1 : (r.map (fun b => (a, b)) ++ (Hm.pairs r ++ (a, a) :: r.map fun m => (m, m))).Perm ((a, a) :: (r.map (fun b => (a, b)) ++ (Hm.pairs r ++ r.map fun m => (m, m)))) := by
      rw [← List.append_assoc, ← List.append_assoc]
      exact List.perm_middle
    exact h1.trans (List.Perm.cons _ ((pairs_perm r).append_left _))
theorem byPlaces_anyTwo {ord : List Str} (hn : ord.Nodup) : byPlaces ord (Hm.pairs ord ++ ord.map fun m => (m, m)) = Hm.anyTwo ord := by
  have p1 : (byPlaces ord (Hm.pairs ord ++ ord.map fun m => (m, m))).Perm (Hm.anyTwo ord) := (List.mergeSort_perm _ _).trans (pairs_perm ord)
  refine List.Perm.eq_of_pairwise (le := pairLe ord) (fun a b ha hb h1 h2 => ?_) ?_ (anyTwo_up (place_up hn)) p1
  · have ha' := Hm.anyTwo_mem (p1.mem_iff.mp ha)
    have hb' := Hm.anyTwo_mem hb
    unfold pairLe at h1 h2
    have e1 : placeOf ord a.1 = placeOf ord b.1 := by omega
    have e2 : placeOf ord a.2 = placeOf ord b.2 := by omega
    exact Prod.ext (place_inj ha'.1 hb'.1 e1) (place_inj ha'.2 hb'.2 e2)
  · refine (List.pairwise_mergeSort (le := PySem.W.dataLe false (keyOf ord)) (fun a b c h1 h2 => ?_) (fun a b => ?_) _).imp fun h => le_iff.mp h
    · have h1 := le_iff.mp h1
      have h2 := le_iff.mp h2
      refine le_iff.mpr ?_
      unfold pairLe at *
      omega
    · rw [Bool.or_eq_true, le_iff, le_iff]
      unfold pairLe
      omega
end Ho
set_option Elab.async false
set_option linter.all false
set_option maxRecDepth 100000
set_option maxHeartbeats 4000000
/-! The text by places; heaps that keep all but some; comprehensions told once. -/
namespace Ho
open PySem PySem.Spec PyProof.Rows L2
def topS (i : Nat) : Stmt := PySem.Challenge.pw_holdtree_k06_whole_tables_led_over.main.body.getD i (.Pass ⟨0, 0, 0, 0⟩)
/-! ### heaps -/
def Kp (S : List Addr) (H H' : Hp) : Prop := ∀ b o, b ∉ S → H b = some o → H' b = some o
theorem Kp.refl (S : List Addr) (H : Hp) : Kp S H H := fun _ _ _ h => h
theorem Kp.trans {S : List Addr} {H H1 H2 : Hp} (a : Kp S H H1) (b : Kp S H1 H2) : Kp S H H2 := fun c o n h => b c o n (a c o n h)
theorem Kp.of {S : List Addr} {H H' : Hp} (s : Same H H') : Kp S H H' := fun b o _ h => s b o h
theorem Kp.same {H H' : Hp} (k : Kp [] H H') : Same H H' := fun b o h => k b o (fun z => nomatch z) h
theorem Kp.new {S : List Addr} {H : Hp} {p : Addr} {o : HO} (h : H p = none) : Kp S H (upd H p o) := .of (same_new h)
theorem Kp.upd {S : List Addr} {H : Hp} {p : Addr} {o : HO} (h : p ∈ S) : Kp S H (upd H p o) := fun b u n e => by
  rw [upd_ne fun z : b = p => n (z ▸ h)]
  exact e
theorem Kp.mono {S S' : List Addr} {H H' : Hp} (k : Kp S H H') (h : ∀ b ∈ S, b ∈ S') : Kp S' H H' := fun b o n e => k b o (fun z => n (h b z)) e
/-- all stands but lists -/
def NL (H H' : Hp) : Prop := ∀ b o, H b = some o → (∀ xs, o ≠ .lst xs) → H' b = some o
theorem NL.of {H H' : Hp} (s : Same H H') : NL H H' := fun b o h _ => s b o h
theorem NL.lst {H : Hp} {p : Addr} {xs ys : List V} (h : H p = some (.lst xs)) : NL H (upd H p (.lst ys)) := fun b o e n => by
  rw [upd_ne fun z : b = p => ?_]
  · exact e
  · subst z
    rw [h] at e
    cases e
    exact n xs rfl
theorem NL.trans {H H1 H2 : Hp} (a : NL H H1) (b : NL H1 H2) : NL H H2 := fun c o h n => b c o (a c o h n) n
theorem SqT.nl {K : PySem.W.Frag} {H H' : Hp} {a : Addr} {xs : List V} (h : SqT K H a xs) (e : NL H H') : SqT K H' a xs :=
  h.elim (fun h => .inl (h.elim (fun h => .inl (e _ _ h fun _ z => nomatch z)) fun ⟨o, h⟩ => .inr ⟨o, e _ _ h fun _ z => nomatch z⟩)) fun h => .inr h
theorem TPair.nl {K : PySem.W.Frag} {H H' : Hp} {v : V} {q : Str × Str} (h : TPair K H v q) (e : NL H H') : TPair K H' v q := by
  obtain ⟨t, rfl, hq⟩ := h
  exact ⟨t, rfl, SqT.nl hq e⟩
/-- how an item stands for a thing, whatever becomes of lists -/
def Steady {β : Type} (R : Hp → V → β → Prop) : Prop := ∀ H H' v q, NL H H' → R H v q → R H' v q
theorem Paired.steady {β : Type} {R : Hp → V → β → Prop} (st : Steady R) {H H' : Hp} (e : NL H H') : ∀ {vs : List V} {l : List β}, Paired (R H) vs l → Paired (R H') vs l
  | _, _, .nil => .nil
  | _, _, .cons h t => .cons (st _ _ _ _ e h) (Paired.steady st e t)
theorem paired_snoc {α β : Type} {R : α → β → Prop} {x : α} {y : β} : ∀ {xs : List α} {ys : List β}, Paired R xs ys → R x y → Paired R (xs ++ [x]) (ys ++ [y])
  | _, _, .nil, h => .cons h .nil
  | _, _, .cons a t, h => .cons a (paired_snoc t h)
/-- a text -/
def RStr : Hp → V → Str → Prop := fun _ v z => v = .str z
theorem steady_str : Steady RStr := fun _ _ _ _ _ h => h
theorem strs_of {H : Hp} : ∀ {vs : List V} {l : List Str}, Paired (RStr H) vs l → vs = l.map V.str
  | _, _, .nil => rfl
  | _, _, .cons h t => by rw [List.map_cons, ← strs_of t, show _ = _ from h]
theorem steady_pair {K : PySem.W.Frag} : Steady (TPair K) := fun _ _ _ _ e h => TPair.nl h e
/-- a truth value -/
def RBl : Hp → V → Bool → Prop := fun _ v b => v = .bl b
theorem steady_bl : Steady RBl := fun _ _ _ _ _ h => h
theorem bls_of {H : Hp} : ∀ {vs : List V} {l : List Bool}, Paired (RBl H) vs l → vs = l.map V.bl
  | _, _, .nil => rfl
  | _, _, .cons h t => by rw [List.map_cons, ← bls_of t, show _ = _ from h]
/-! ### comprehensions -/
section
variable {J : It} {n : Nat} {G : Hp → Prop} {Y : Nat → Hp → V → Hp → Prop} {g : TG} {tt : TT} {te : TE} {vs : List Nat} {σ : L2.St} {H1 : Hp} {D : Addr} {Qd : Hp → Prop} {β : Type}
/-- a comprehension that keeps all but S; Iv: what else holds by the turn; L i: what the list stands for -/
theorem lc_k (w : Walk J n G Y) (S : List Addr) (Iv : Nat → Hp → Prop) (ivD : ∀ i H xs ys, i ≤ n → Iv i H → Kp S H1 H → H D = some (.lst xs) → Iv i (upd H D (.lst ys))) (hG : ∀ i H, i ≤ n → Iv i H → Kp S H1 H → G H) (nD : H1 D = none) (DS : D ∉ S)
    (R : Hp → V → β → Prop) (st : Steady R) (L : Nat → List β) (L0 : L 0 = []) (Lz : ∀ i, i ≤ n → (L i).length < sizeLine) (I0 : Iv 0 (upd H1 D (.lst [])))
    (hs : ∀ i x H H', i < n → Iv i H → Kp S H1 H → Y i H x H' → ∀ (Ny : V → Hp → Prop) (Nn : Hp → Prop), (∀ y H4 q, Kp S H H4 → NL H H4 → Iv (i + 1) H4 → R H4 y q → L (i + 1) = L i ++ [q] → Ny y H4) → (∀ H3, Kp S H H3 → NL H H3 → Iv (i + 1) H3 → L (i + 1) = L i → Nn H3) →
      g x (wipe σ vs) H' fun σ2 H2 => wipe σ2 vs = wipe σ vs ∧ tt σ2 H2 fun b H3 => if b = true then te σ2 H3 fun y H4 => Ny y H4 else Nn H3)
    (hd : ∀ H acc, Kp S H1 H → Iv n H → H D = some (.lst acc) → Paired (R H) acc (L n) → Qd H) :
    ∃ W : Nat → Nat → Hp → Prop, (∃ m, W 0 m (upd H1 D (.lst []))) ∧ ∀ i m H, W i m H →
      (J.stop i H ∧ Qd H) ∨ (J.go i H ∧ ∃ Nx : Hp → Prop, (∀ H', Nx H' → ∃ m', m' < m ∧ W (i + 1) m' H') ∧ ∀ x H', J.yld i H x H' → g x (wipe σ vs) H' fun σ2 H2 => wipe σ2 vs = wipe σ vs ∧ tt σ2 H2 fun b H3 =>
        if b = true then te σ2 H3 fun y H4 => ∃ acc, H4 D = some (.lst acc) ∧ acc.length < sizeLine ∧ Nx (upd H4 D (.lst (acc ++ [y]))) else Nx H3) := by
  refine lc_it w (fun i H => Iv i H ∧ Kp S H1 H ∧ ∃ acc, H D = some (.lst acc) ∧ Paired (R H) acc (L i)) ⟨I0, .of (same_new nD), [], upd_same, by rw [L0]; exact .nil⟩ (fun i H hi p => hG i H hi p.1 p.2.1) (fun i x H H' hi p y => ?_) fun H p => ?_
  · obtain ⟨iv, k, acc, hD, hp⟩ := p
    refine hs i x H H' hi iv k y _ _ (fun y H4 q k4 n4 iv4 r4 e => ?_) fun H3 k3 n3 iv3 e => ?_
    · have hD4 : H4 D = some (.lst acc) := k4 D _ DS hD
      have lz : acc.length < sizeLine := by rw [Paired.length hp]; exact Lz i (Nat.le_of_lt hi)
      refine ⟨acc, hD4, lz, ivD _ _ acc _ hi iv4 (k.trans k4) hD4, fun b o nb e1 => ?_, _, upd_same, ?_⟩
      · rw [upd_ne (ne_of_none e1 nD)]
        exact k4 b o nb (k b o nb e1)
      · rw [e]
        have up : NL H4 (upd H4 D (.lst (acc ++ [y]))) := NL.lst hD4
        exact paired_snoc (Paired.steady st (n4.trans up) hp) (st _ _ _ _ up r4)
    · exact ⟨iv3, k.trans k3, acc, k3 D _ DS hD, by rw [e]; exact Paired.steady st n3 hp⟩
  · obtain ⟨iv, k, acc, hD, hp⟩ := p
    exact hd H acc k iv hD hp
/-- the same with nothing changed: xs walked, those kept for which p holds, each made into f of it -/
theorem lc_f {α : Type} {xs : List α} (w : Walk J xs.length G Y) (hG : ∀ H, Same H1 H → G H) (nD : H1 D = none) (p : α → Bool) (f : α → β) (R : Hp → V → β → Prop) (st : Steady R) (hz : xs.length < sizeLine)
    (hs : ∀ i a x H H', xs[i]? = some a → Same H1 H → Y i H x H' → ∀ (Ny : V → Hp → Prop) (Nn : Hp → Prop), (p a = true → ∀ y H4, Same H H4 → R H4 y (f a) → Ny y H4) → (p a = false → ∀ H3, Same H H3 → Nn H3) →
      g x (wipe σ vs) H' fun σ2 H2 => wipe σ2 vs = wipe σ vs ∧ tt σ2 H2 fun b H3 => if b = true then te σ2 H3 fun y H4 => Ny y H4 else Nn H3)
    (hd : ∀ H acc, Same H1 H → H D = some (.lst acc) → Paired (R H) acc ((xs.filter p).map f) → Qd H) :
    ∃ W : Nat → Nat → Hp → Prop, (∃ m, W 0 m (upd H1 D (.lst []))) ∧ ∀ i m H, W i m H →
      (J.stop i H ∧ Qd H) ∨ (J.go i H ∧ ∃ Nx : Hp → Prop, (∀ H', Nx H' → ∃ m', m' < m ∧ W (i + 1) m' H') ∧ ∀ x H', J.yld i H x H' → g x (wipe σ vs) H' fun σ2 H2 => wipe σ2 vs = wipe σ vs ∧ tt σ2 H2 fun b H3 =>
        if b = true then te σ2 H3 fun y H4 => ∃ acc, H4 D = some (.lst acc) ∧ acc.length < sizeLine ∧ Nx (upd H4 D (.lst (acc ++ [y]))) else Nx H3) := by
  refine lc_k (β := β) w [] (fun _ _ => True) (fun _ _ _ _ _ _ _ _ => trivial) (fun i H _ _ k => hG H k.same) nD (fun z => nomatch z) R st (fun i => ((xs.take i).filter p).map f) rfl (fun i hi => ?_) trivial (fun i x H H' hi _ k y Ny Nn h1 h2 => ?_) fun H acc k _ hD hp => hd H acc k.same hD ?_
  · rw [List.length_map]
    refine Nat.lt_of_le_of_lt (List.length_filter_le _ _) ?_
    rw [List.length_take]
    exact Nat.lt_of_le_of_lt (Nat.min_le_right _ _) hz
  · have e : xs[i]? = some xs[i] := List.getElem?_eq_getElem hi
    have et : xs.take (i + 1) = xs.take i ++ [xs[i]] := by rw [List.take_add_one, e]; rfl
    refine hs i xs[i] x H H' e k.same y Ny Nn (fun hp y H4 s4 r4 => h1 y H4 (f xs[i]) (.of s4) (.of s4) trivial r4 ?_) fun hp H3 s3 => h2 H3 (.of s3) (.of s3) trivial ?_
    · rw [et, List.filter_append, List.map_append]
      simp [hp]
    · rw [et, List.filter_append, List.map_append]
      simp [hp]
  · rw [List.take_length] at hp
    exact hp
end
end Ho
set_option Elab.async false
set_option linter.all false
set_option maxRecDepth 100000
set_option maxHeartbeats 4000000
/-! holdtree.words: is_row, is_name. -/
namespace Ho
open PySem PySem.Spec PyProof.Rows L2
/-- the built-in names stand -/
structure Blt (mg : Str → Option Value) : Prop where
  len : mg "len" = none
  all : mg "all" = none
  set : mg "set" = none
  isi : mg "isinstance" = none
  str : mg "str" = none
  list : mg "list" = none
  tuple : mg "tuple" = none
  dict : mg "dict" = none
  range : mg "range" = none
  zip : mg "zip" = none
  enum : mg "enumerate" = none
  sorted : mg "sorted" = none
  int : mg "int" = none
theorem tyx_list {K : PySem.W.Frag} {H : Hp} {a : Addr} {xs : List V} (h : SqL K H a xs) : TyX K H (.ref a) (.type "list") := by
  rcases h with (h | ⟨o, h⟩) | ⟨o, its, n, h, c, _⟩
  · exact .base (.lst h)
  · exact .base (.frz h)
  · exact .kList h c
theorem tyx_tup {K : PySem.W.Frag} {H : Hp} {a : Addr} {xs : List V} (h : SqT K H a xs) : TyX K H (.ref a) (.type "tuple") := by
  rcases h with (h | ⟨o, h⟩) | ⟨o, its, n, h, c, _⟩
  · exact .base (.tup h)
  · exact .fTuple h
  · exact .kTuple h c
section
variable {P : Program} {w : World} {K : PySem.W.Frag} {mg : Str → Option Value} {base : Heap}
/-! ### is_row -/
abbrev sRow : Stmt := topS 8
theorem scRow : FnScope ["thing"] ["thing"] (defScope sRow) := ⟨rfl, rfl, rfl, by decide +kernel, rfl, by decide +kernel, by decide +kernel⟩
def spRow (K : PySem.W.Frag) : Sp := fun vs H Q _ => ∃ (a : Addr) (xs : List V), vs = [.ref a] ∧ SqA K H a xs ∧ ∀ H', Same H H' → Q (.bl true) H'
theorem ok_row {f : Addr} {fd : FuncData} (F : Fun K "is_row" "is_row" sRow f fd) (B : Blt mg) : FnOk P w K mg base CX0 1 f fd ["thing"] (spRow K) := by
  refine F.ok scRow (fun vs H Q E h => ?_) (fun cdv A outer s H vs Q E hr h => ?_)
  · obtain ⟨a, xs, rfl, _⟩ := h
    rfl
  · obtain ⟨a, xs, rfl, hs, q⟩ := h
    refine ⟨_, pss_one (ps_ret (pe_callB call_isiT (by rfl) B.isi (by decide +kernel) (pa_cons (pv 0) (pa_cons (pe_tup (pa_cons (pe_bltn (v := .ty "list") (by rfl) B.list (by decide +kernel) rfl) (pa_cons (pe_bltn (v := .ty "tuple") (by rfl) B.tuple (by decide +kernel) rfl) pa_nil))) pa_nil)))), ?_⟩
    refine ⟨.ref a, rfl, by show 2 ≤ sizeLine; decide, fun t nt => ?_⟩
    have s1 : Same H (upd H t (.tup [.ty "list", .ty "tuple"])) := same_new nt
    rcases hs.same s1 with h | h
    · exact ⟨.ref a, t, _, _, [.type "list", .type "tuple"], true, rfl, upd_same, .cons (.ty _) (.cons (.ty _) .nil), tyx_list h, kitAny_cons (b := true) (kit_ty (by decide +kernel)) (fun z => nomatch z) (fun _ => rfl), q _ s1⟩
    · exact ⟨.ref a, t, _, _, [.type "list", .type "tuple"], true, rfl, upd_same, .cons (.ty _) (.cons (.ty _) .nil), tyx_tup h, kitAny_cons (b := false) (kit_ty (by decide +kernel)) (fun _ => kitAny_cons (b := true) (kit_ty (by decide +kernel)) (fun z => nomatch z) (fun _ => rfl)) (fun z => nomatch z), q _ s1⟩
/-! ### is_name -/
abbrev sName : Stmt := topS 7
theorem scName : FnScope ["thing", "sign"] ["thing"] (defScope sName) := ⟨rfl, rfl, rfl, by decide +kernel, rfl, by decide +kernel, by decide +kernel⟩
abbrev letters : Str := "abcdefghijklmnopqrstuvwxyz"
/-- a name: one to eight letters -/
structure Nm (z : Str) : Prop where
  one : 1 ≤ z.length
  few : z.length ≤ 8
  let_ : ∀ c ∈ z.cps.toList, c ∈ letters.cps.toList
structure Wds (mg : Str → Option Value) : Prop where
  let_ : ∃ t, mg "LETTERS" = some (.str letters t)
  most : ∃ t, mg "LONGEST" = some (.int 8 t)
def spName : Sp := fun vs H Q _ => ∃ z : Str, vs = [.str z] ∧ Nm z ∧ ∀ H', Same H H' → Q (.bl true) H'
theorem all_true {α : Type} (xs : List α) : (xs.map fun _ => true).all id = true := by
  induction xs with
  | nil => rfl
  | cons a r ih => rw [List.map_cons, List.all_cons, ih]; rfl
theorem ok_name {f : Addr} {fd : FuncData} (F : Fun K "is_name" "is_name" sName f fd) (B : Blt mg) (W : Wds mg) : FnOk P w K mg base CX0 1 f fd ["thing"] spName := by
  refine F.ok scName (fun vs H Q E h => ?_) (fun cdv A outer s H vs Q E hr h => ?_)
  · obtain ⟨z, rfl, _⟩ := h
    rfl
  · obtain ⟨z, rfl, hz, q⟩ := h
    obtain ⟨t1, g1⟩ := W.let_
    obtain ⟨t2, g2⟩ := W.most
    refine ⟨_, pss_one (ps_ret (pe_and (pe_callB call_isi (by rfl) B.isi (by decide +kernel) (pa_cons (pv 0) (pa_cons (pe_bltn (v := .ty "str") (by rfl) B.str (by decide +kernel) rfl) pa_nil)))
      (pe_and (pe_chain op_le op_le pe_int (pe_callB call_len_str (by rfl) B.len PySem.boot_len (pa_cons (pv 0) pa_nil)) (pe_glob (v := .int 8) rfl g2 ⟨_, rfl⟩))
        (pe_one (pe_callB (cr_all rfl) (by rfl) B.all (by decide +kernel) (pa_cons (pe_lc (own := [("sign", 1)]) (g := gName 1) (tt := tYes) rfl scName.nd (pi_str (pv 0)) (blkOk_by (own := [("sign", 1)]) (N := ["thing", "sign"]) (sc := defScope sName) (by decide +kernel)) (fun _ _ _ _ _ => pg_name (i := 1) scName.nd rfl (Or.inl rfl)) (fun _ _ _ _ _ => pts_nil)
          (fun _ _ _ _ _ => pe_cmpR op_in_sign (pv 1) (pe_glob (v := .str letters) rfl g1 ⟨_, rfl⟩) rfl)) pa_nil)))))), ?_⟩
    have hl : z.length ≤ sizeLine := Nat.le_trans hz.few (by decide)
    refine ⟨.str z, rfl, .str z, .ty "str", _, _, true, rfl, .ty _, .base (.str z), kit_ty (by decide +kernel), true, rfl, iteT ?_⟩
    refine ⟨.str z, rfl, z, rfl, hl, 1, z.length, rfl, rfl, _, rfl, ?_⟩
    rw [decide_eq_true (by have := hz.one; omega)]
    refine iteT ⟨z.length, 8, rfl, rfl, _, rfl, ?_⟩
    rw [decide_eq_true (by have := hz.few; omega)]
    refine iteT ?_
    refine ⟨.str z, rfl, z, rfl, fun D nD => ?_⟩
    have sz : z.cps.size < sizeLine := Nat.lt_of_le_of_lt (show z.cps.size ≤ 8 from hz.few) (by decide)
    refine lc_k (β := Bool) (walk_str (z := z)) [] (fun _ _ => True) (fun _ _ _ _ _ _ _ _ => trivial) (fun _ _ _ _ _ => trivial) nD (fun x => nomatch x) RBl steady_bl (fun i => (z.cps.toList.take i).map fun _ => true) rfl (fun i hi => ?_) trivial (fun i x H2 H3 hi _ k y Ny Nn h1 h2 => ?_) fun H2 acc k _ hD hp => ?_
    · rw [List.length_map, List.length_take]
      exact Nat.lt_of_le_of_lt (Nat.min_le_left _ _) (Nat.lt_of_le_of_lt hi sz)
    · obtain ⟨rfl, c, hc, rfl⟩ := y
      have hc' : z.cps.toList[i]? = some c := by rw [Array.getElem?_toList]; exact hc
      refine ⟨rfl, .str ⟨#[c]⟩, rfl, c, letters, rfl, rfl, ?_⟩
      rw [decide_eq_true (hz.let_ c (List.mem_of_getElem? hc'))]
      refine h1 _ _ true (Kp.refl _ _) (.of (Same.refl _)) trivial rfl ?_
      rw [List.take_add_one, hc', List.map_append]
      rfl
    · rw [bls_of hp] at hD
      refine ⟨D, _, rfl, .inl (.inl hD), ?_⟩
      rw [all_true]
      exact q _ k.same
end
end Ho
set_option Elab.async false
set_option linter.all false
set_option maxRecDepth 100000
set_option maxHeartbeats 4000000
/-! Two walks in one comprehension; is_mode, are_modes, are_pairs, is_dict. -/
namespace Ho
open PySem PySem.Spec PyProof.Rows L2
/-- what is a list, a tuple of xs at a stays one -/
def StaySq (K : PySem.W.Frag) (a : Addr) (xs : List V) (H1 H : Hp) : Prop := (SqL K H1 a xs → SqL K H a xs) ∧ (SqT K H1 a xs → SqT K H a xs)
theorem StaySq.same {K : PySem.W.Frag} {a : Addr} {xs : List V} {H1 H : Hp} (s : Same H1 H) : StaySq K a xs H1 H := ⟨s.seq, fun h => SqT.same h s⟩
/-- all but the list at D stands -/
theorem StaySq.but {K : PySem.W.Frag} {a D : Addr} {xs acc : List V} {H1 H : Hp} (k : Kp [D] H1 H) (hD : H1 D = some (.lst acc)) (hn : a ≠ D) : StaySq K a xs H1 H := by
  have up : ∀ b o, b ≠ D → H1 b = some o → H b = some o := fun b o h e => k b o (fun z => h (List.mem_singleton.mp z)) e
  refine ⟨fun h => h.elim (fun h => .inl (h.elim (fun h => .inl (up _ _ hn h)) fun ⟨o, h⟩ => .inr ⟨o, up _ _ hn h⟩)) fun h => .inr h, fun h => h.elim (fun h => .inl (h.elim (fun h => .inl (up _ _ hn h)) fun ⟨o, h⟩ => .inr ⟨o, up _ _ hn h⟩)) fun h => .inr h⟩
theorem sqt_but {K : PySem.W.Frag} {a D : Addr} {xs acc : List V} {H1 H : Hp} (k : Kp [D] H1 H) (hD : H1 D = some (.lst acc)) (h : SqT K H1 a xs) : SqT K H a xs := by
  have up : ∀ o, (∀ xs, o ≠ .lst xs) → H1 a = some o → H a = some o := fun o n e => k a o (fun z => by
    rw [List.mem_singleton.mp z, hD] at e
    cases e
    exact n _ rfl) e
  exact h.elim (fun h => .inl (h.elim (fun h => .inl (up _ (fun _ z => nomatch z) h)) fun ⟨o, h⟩ => .inr ⟨o, up _ (fun _ z => nomatch z) h⟩)) fun h => .inr h
/-- a list or a tuple walked -/
def SqOr (K : PySem.W.Frag) (H1 : Hp) (a : Addr) (xs : List V) (R : It → Hp → Prop) : Prop := (SqL K H1 a xs ∧ ∀ J, Walk J xs.length (fun H => SqL K H a xs) (YAt xs) → R J H1) ∨ (SqT K H1 a xs ∧ ∀ J, Walk J xs.length (fun H => SqT K H a xs) (YAt xs) → R J H1)
def iSq (K : PySem.W.Frag) (tl : TE) : TI := fun σ H R => tl σ H fun x H1 => ∃ (a : Addr) (xs : List V), x = .ref a ∧ SqOr K H1 a xs R
theorem pi_sq {X : Cx} {tg l : Expr} {tl : TE} (hl : PE X l tl) : PI X tg l (iSq X.K tl) := by
  refine ⟨fun pins s σ H R I h => thn (hl.run pins s σ H _ I h) fun v s1 ⟨x, H1, I1, r1, a, xs, e, hq⟩ => ?_⟩
  subst e
  cases r1
  have mine : ∀ b ∈ [s1.heap.objs.size], FpOk X pins H1 b := fun b hb => by
    rw [List.mem_singleton.mp hb]
    exact I1.fpOk (Nat.le_refl _) (I1.hok.fresh (Nat.le_refl _))
  rcases hq with ⟨hq, q⟩ | ⟨hq, q⟩
  · obtain ⟨its, rv, p, hz⟩ := I1.list hq
    exact wpAny_pyIter_list p.isList ⟨_, [s1.heap.objs.size], _, _, H1, rfl, I1.kept (t' := s1.toks) fun b o e => Heap.get?_push_of_some _ e, turn_list a _, ⟨_, Heap.get?_push_size _ rfl, rfl, rfl⟩, mine, q _ walk_list⟩
  · obtain ⟨its, rv, p, hz⟩ := I1.tuple hq
    exact wpAny_pyIter_tuple (show s1.heap.IsTuple a its.toArray from p) ⟨_, [s1.heap.objs.size], _, _, H1, rfl, I1.kept (t' := s1.toks) fun b o e => Heap.get?_push_of_some _ e, turn_tuple a _, ⟨_, Heap.get?_push_size _ rfl, rfl, rfl⟩, mine, q _ walk_tup⟩
section
variable {J : It} {G : Hp → Prop} {Y : Nat → Hp → V → Hp → Prop} {g g1 : TG} {tt tt1 : TT} {wi1 : TI} {te : TE} {vs vs1 : List Nat} {σ : L2.St} {H1 : Hp} {D : Addr} {Qd : Hp → Prop} {α β γ : Type}
/-- what the inner walk asks, told as one -/
def Inner (g1 : TG) (tt1 : TT) (te : TE) (vs1 : List Nat) (D : Addr) (Nx : Hp → Prop) (σ2 : L2.St) (J1 : It) (H4 : Hp) : Prop := ∃ W1 : Nat → Nat → Hp → Prop, (∃ m, W1 0 m H4) ∧ ∀ j k H, W1 j k H →
  (J1.stop j H ∧ Nx H) ∨ (J1.go j H ∧ ∃ Nx1 : Hp → Prop, (∀ H', Nx1 H' → ∃ k', k' < k ∧ W1 (j + 1) k' H') ∧ ∀ x H', J1.yld j H x H' → g1 x (wipe σ2 vs1) H' fun σ3 H5 => wipe σ3 vs1 = wipe σ2 vs1 ∧ tt1 σ3 H5 fun b H6 =>
    if b = true then te σ3 H6 fun y H7 => ∃ acc, H7 D = some (.lst acc) ∧ acc.length < sizeLine ∧ Nx1 (upd H7 D (.lst (acc ++ [y]))) else Nx1 H6)
theorem lc2_f {xs : List α} (w : Walk J xs.length G Y) (hG : ∀ H, Same H1 H → G H) (nD : H1 D = none) (ys : α → List γ) (p : α → γ → Bool) (f : α → γ → β) (R : Hp → V → β → Prop) (st : Steady R) (hz : (xs.flatMap ys).length < sizeLine)
    (hs : ∀ i a x H H', xs[i]? = some a → Same H1 H → (∃ acc, H D = some (.lst acc)) → Y i H x H' → ∀ (IN : L2.St → It → Hp → Prop) (NB : Hp → Prop),
      (∀ σ2 J1 H4 (G1 : Hp → Prop) (Y1 : Nat → Hp → V → Hp → Prop), Same H H4 → Walk J1 (ys a).length G1 Y1 → (∀ H, Kp [D] H4 H → G1 H) → (∀ j c x H5 H6, (ys a)[j]? = some c → Kp [D] H4 H5 → Y1 j H5 x H6 → ∀ (Ny : V → Hp → Prop) (Nn : Hp → Prop), (p a c = true → ∀ y H7, Same H5 H7 → R H7 y (f a c) → Ny y H7) → (p a c = false → ∀ H7, Same H5 H7 → Nn H7) →
        g1 x (wipe σ2 vs1) H6 fun σ3 H8 => wipe σ3 vs1 = wipe σ2 vs1 ∧ tt1 σ3 H8 fun b H9 => if b = true then te σ3 H9 fun y H7 => Ny y H7 else Nn H9) → IN σ2 J1 H4) →
      g x (wipe σ vs) H' fun σ2 H2 => wipe σ2 vs = wipe σ vs ∧ tt σ2 H2 fun b H3 => if b = true then wi1 σ2 H3 fun J1 H4 => IN σ2 J1 H4 else NB H3)
    (hd : ∀ H acc, Same H1 H → H D = some (.lst acc) → Paired (R H) acc (xs.flatMap fun a => ((ys a).filter (p a)).map (f a)) → Qd H) :
    ∃ W : Nat → Nat → Hp → Prop, (∃ m, W 0 m (upd H1 D (.lst []))) ∧ ∀ i m H, W i m H → (J.stop i H ∧ Qd H) ∨ (J.go i H ∧ ∃ Nx : Hp → Prop, (∀ H', Nx H' → ∃ m', m' < m ∧ W (i + 1) m' H') ∧ ∀ x H', J.yld i H x H' → g x (wipe σ vs) H' fun σ2 H2 => wipe σ2 vs = wipe σ vs ∧ tt σ2 H2 fun b H3 =>
      if b = true then wi1 σ2 H3 fun J1 H4 => Inner g1 tt1 te vs1 D Nx σ2 J1 H4 else Nx H3) := by
  let L : Nat → List β := fun i => (xs.take i).flatMap fun a => ((ys a).filter (p a)).map (f a)
  let Pv : Nat → Hp → Prop := fun i H => Same H1 H ∧ ∃ acc, H D = some (.lst acc) ∧ Paired (R H) acc (L i)
  have le1 : ∀ l : List α, (l.flatMap fun a => ((ys a).filter (p a)).map (f a)).length ≤ (l.flatMap ys).length := fun l => by
    induction l with
    | nil => exact Nat.le_refl _
    | cons a r ih =>
      rw [List.flatMap_cons, List.flatMap_cons, List.length_append, List.length_append, List.length_map]
      exact Nat.add_le_add (List.length_filter_le _ _) ih
  refine ⟨fun i m H => m = xs.length - i ∧ i ≤ xs.length ∧ Pv i H, ⟨xs.length, by simp, Nat.zero_le _, same_new nD, [], upd_same, .nil⟩, ?_⟩
  rintro i m H ⟨rfl, hi, s1, acc, hD, hp⟩
  by_cases hlt : i < xs.length
  · have e : xs[i]? = some xs[i] := List.getElem?_eq_getElem hlt
    have et : xs.take (i + 1) = xs.take i ++ [xs[i]] := by rw [List.take_add_one, e]; rfl
    refine .inr ⟨w.goes i H hlt (hG H s1), Pv (i + 1), fun H' q => ⟨xs.length - (i + 1), by omega, rfl, hlt, q⟩, fun x H' y => ?_⟩
    refine hs i xs[i] x H H' e s1 ⟨acc, hD⟩ (w.yields i H x H' hlt (hG H s1) y) _ _ fun σ2 J1 H4 G1 Y1 s4 w1 hG1 body => ?_
    let M : Nat → List β := fun j => L i ++ (((ys xs[i]).take j).filter (p xs[i])).map (f xs[i])
    refine ⟨fun j k H => k = (ys xs[i]).length - j ∧ j ≤ (ys xs[i]).length ∧ Kp [D] H4 H ∧ ∃ acc, H D = some (.lst acc) ∧ Paired (R H) acc (M j), ⟨_, rfl, Nat.zero_le _, Kp.refl _ _, acc, s4 _ _ hD, ?_⟩, ?_⟩
    · show Paired (R H4) acc (L i ++ _)
      rw [List.take_zero]
      show Paired (R H4) acc (L i ++ [])
      rw [List.append_nil]
      exact Paired.steady st (.of s4) hp
    rintro j k H5 ⟨rfl, hj, s5, acc5, hD5, hp5⟩
    by_cases hlj : j < (ys xs[i]).length
    · have ej : (ys xs[i])[j]? = some (ys xs[i])[j] := List.getElem?_eq_getElem hlj
      have ejt : (ys xs[i]).take (j + 1) = (ys xs[i]).take j ++ [(ys xs[i])[j]] := by rw [List.take_add_one, ej]; rfl
      refine .inr ⟨w1.goes j H5 hlj (hG1 H5 s5), fun H => j + 1 ≤ (ys xs[i]).length ∧ Kp [D] H4 H ∧ ∃ acc, H D = some (.lst acc) ∧ Paired (R H) acc (M (j + 1)), fun H' q => ⟨_, by omega, rfl, q.1, q.2⟩, fun x H6 y => ?_⟩
      refine body j _ x H5 H6 ej s5 (w1.yields j H5 x H6 hlj (hG1 H5 s5) y) _ _ (fun hp' y H7 s7 r7 => ?_) fun hp' H7 s7 => ?_
      · have hD7 : H7 D = some (.lst acc5) := s7 _ _ hD5
        have up : NL H7 (upd H7 D (.lst (acc5 ++ [y]))) := NL.lst hD7
        have em : M (j + 1) = M j ++ [f xs[i] (ys xs[i])[j]] := by
          show L i ++ _ = (L i ++ _) ++ _
          rw [ejt, List.filter_append, List.map_append, List.append_assoc]
          simp [hp']
        have hpn : Paired (R (upd H7 D (.lst (acc5 ++ [y])))) (acc5 ++ [y]) (M (j + 1)) := by
          rw [em]
          exact paired_snoc (Paired.steady st ((NL.of s7).trans up) hp5) (st _ _ _ _ up r7)
        refine ⟨acc5, hD7, ?_, hlj, fun b o e1 e2 => ?_, _, upd_same, hpn⟩
        · have h1 : (M (j + 1)).length ≤ (xs.flatMap ys).length := by
            show (L i ++ _).length ≤ _
            have h2 : xs = xs.take i ++ (xs[i] :: xs.drop (i + 1)) := by
              rw [← List.drop_eq_getElem_cons hlt, List.take_append_drop]
            rw [List.length_append, List.length_map]
            have h3 : (xs.flatMap ys).length = ((xs.take i).flatMap ys).length + ((ys xs[i]).length + ((xs.drop (i + 1)).flatMap ys).length) := by
              conv => lhs; rw [h2]
              rw [List.flatMap_append, List.flatMap_cons, List.length_append, List.length_append]
            have h4 := le1 (xs.take i)
            have h5 : (((ys xs[i]).take (j + 1)).filter (p xs[i])).length ≤ (ys xs[i]).length := Nat.le_trans (List.length_filter_le _ _) (by rw [List.length_take]; exact Nat.min_le_right _ _)
            show (L i).length + _ ≤ _
            have h6 : (L i).length ≤ ((xs.take i).flatMap ys).length := h4
            omega
          have h7 := Paired.length hpn
          rw [List.length_append] at h7
          have h8 : acc5.length + 1 = (M (j + 1)).length := h7
          omega
        · rw [upd_ne fun z : b = D => e1 (List.mem_singleton.mpr z)]
          exact s7 _ _ (s5 _ _ e1 e2)
      · refine ⟨hlj, s5.trans (.of s7), acc5, s7 _ _ hD5, ?_⟩
        have em : M (j + 1) = M j := by
          show L i ++ _ = L i ++ _
          rw [ejt, List.filter_append, List.map_append]
          simp [hp']
        rw [em]
        exact Paired.steady st (.of s7) hp5
    · have ej : j = (ys xs[i]).length := by omega
      subst ej
      refine .inl ⟨w1.stops H5 (hG1 H5 s5), fun b o e => s5 b o (fun z => (ne_of_none e nD) (List.mem_singleton.mp z)) (s4 b o (s1 b o e)), acc5, hD5, ?_⟩
      have em : L (i + 1) = M (ys xs[i]).length := by
        show List.flatMap _ _ = List.flatMap _ _ ++ _
        rw [et, List.flatMap_append, List.take_length]
        simp
      rw [em]
      exact hp5
  · have e : i = xs.length := by omega
    subst e
    refine .inl ⟨w.stops H (hG H s1), hd H acc s1 hD ?_⟩
    have em : L xs.length = xs.flatMap fun a => ((ys a).filter (p a)).map (f a) := by
      show List.flatMap _ _ = _
      rw [List.take_length]
    rw [em] at hp
    exact hp
end
end Ho
set_option Elab.async false
set_option linter.all false
set_option maxRecDepth 100000
set_option maxHeartbeats 4000000
/-! is_mode, are_modes, are_pairs, is_dict. -/
namespace Ho
open PySem PySem.Spec PyProof.Rows L2
theorem iSq_of {K : PySem.W.Frag} {H1 : Hp} {a : Addr} {xs : List V} {R : It → Hp → Prop} (h : SqA K H1 a xs) (q : ∀ J (G : Hp → Prop), (∀ H, Same H1 H → G H) → Walk J xs.length G (YAt xs) → R J H1) :
    SqOr K H1 a xs R :=
  h.elim (fun h => .inl ⟨h, fun J w => q J _ (fun H s => s.seq h) w⟩) fun h => .inr ⟨h, fun J w => q J _ (fun H s => SqT.same h s) w⟩
theorem in_strs {z : Str} : ∀ {ks : List Str}, inV (.str z) (ks.map V.str) = decide (z ∈ ks)
  | [] => rfl
  | k :: ks => by
    have ih := in_strs (z := z) (ks := ks)
    unfold inV at *
    rw [List.map_cons, List.any_cons, ih]
    show (k == z || decide (z ∈ ks)) = decide (z ∈ k :: ks)
    by_cases e : k = z
    · subst e
      simp
    · have e' : (k == z) = false := beq_eq_false_iff_ne.mpr e
      rw [e', Bool.false_or]
      exact decide_eq_decide.mpr ⟨List.mem_cons_of_mem _, fun h => (List.mem_cons.mp h).elim (fun q => absurd q.symm e) id⟩
/-- the texts of a sequence -/
abbrev Tx (K : PySem.W.Frag) (H : Hp) (a : Addr) (ks : List Str) : Prop := SqA K H a (ks.map V.str)
/-- the limits -/
structure Lim (mg : Str → Option Value) : Prop where
  modes : ∃ t, mg "MOST_MODES" = some (.int 8 t)
  pairs : ∃ t, mg "MOST_PAIRS" = some (.int 64 t)
section
variable {P : Program} {w : World} {K : PySem.W.Frag} {mg : Str → Option Value} {base : Heap}
/-! ### is_mode -/
abbrev sMode : Stmt := topS 18
theorem scMode : FnScope ["thing", "modes"] ["thing", "modes"] (defScope sMode) := ⟨rfl, rfl, rfl, by decide +kernel, rfl, by decide +kernel, by decide +kernel⟩
def spMode (K : PySem.W.Frag) : Sp := fun vs H Q _ => ∃ (z : Str) (a : Addr) (ks : List Str), vs = [.str z, .ref a] ∧ Tx K H a ks ∧ z ∈ ks ∧ ∀ H', Same H H' → Q (.bl true) H'
theorem ok_mode {f : Addr} {fd : FuncData} (F : Fun K "is_mode" "is_mode" sMode f fd) (B : Blt mg) :
    FnOk P w K mg base CX0 1 f fd ["thing", "modes"] (spMode K) := by
  refine F.ok scMode (fun vs H Q E h => ?_) (fun cdv A outer s H vs Q E hr h => ?_)
  · obtain ⟨z, a, ks, rfl, _⟩ := h
    rfl
  · obtain ⟨z, a, ks, rfl, hs, hz, q⟩ := h
    refine ⟨_, (pss_one (ps_ret (pe_and (pe_callB call_isi (by rfl) B.isi (by decide +kernel) (pa_cons (pv 0) (pa_cons (pe_bltn (v := .ty "str") (by rfl) B.str (by decide +kernel) rfl) pa_nil))) (pe_one (pe_cmpR op_in_seq (pv 0) (pv 1) rfl))))), ?_⟩
    refine ⟨.str z, rfl, .str z, .ty "str", _, _, true, rfl, .ty _, .base (.str z), kit_ty (by decide +kernel), true, rfl, iteT ?_⟩
    refine ⟨.str z, rfl, .ref a, rfl, a, _, rfl, hs, rfl, flat_strs ks, ?_⟩
    rw [if_neg Bool.false_ne_true, in_strs, decide_eq_true hz]
    exact q _ (Same.refl _)
/-! ### are_modes -/
abbrev sModes : Stmt := topS 17
theorem len8 {n : Nat} (h : n ≤ 8) : n < sizeLine := Nat.lt_of_le_of_lt h (by decide)
theorem str_get {ks : List Str} {i : Nat} {a : Str} {x : V} (e : ks[i]? = some a) (y : (ks.map V.str)[i]? = some x) : x = .str a := by
  rw [List.getElem?_map, e] at y
  exact (Option.some.inj y).symm
theorem filt_all {α β : Type} (xs : List α) (f : α → β) : (xs.filter fun _ => true).map f = xs.map f := by
  rw [List.filter_eq_self.mpr fun _ _ => rfl]
theorem scModes : FnScope ["thing", "mode"] ["thing"] (defScope sModes) := ⟨rfl, rfl, rfl, by decide +kernel, rfl, by decide +kernel, by decide +kernel⟩
def spModes (K : PySem.W.Frag) : Sp := fun vs H Q _ => ∃ (a : Addr) (ks : List Str), vs = [.ref a] ∧ Tx K H a ks ∧ 1 ≤ ks.length ∧ ks.length ≤ 8 ∧ ks.Nodup ∧ (∀ z ∈ ks, Nm z) ∧ ∀ H', Same H H' → Q (.bl true) H'
theorem ok_modes {f fR fN : Addr} {fd fdR fdN : FuncData} (F : Fun K "are_modes" "are_modes" sModes f fd) (B : Blt mg) (L : Lim mg) (FR : Fun K "is_row" "is_row" sRow fR fdR) (bR : Binds K fdR ["thing"] []) (gR : mg "is_row" = some (.ref fR)) (FN : Fun K "is_name" "is_name" sName fN fdN) (bN : Binds K fdN ["thing"] []) (gN : mg "is_name" = some (.ref fN)) (GR : FnOk P w K mg base CX0 1 fR fdR ["thing"] (spRow K)) (GN : FnOk P w K mg base CX0 1 fN fdN ["thing"] spName) :
    FnOk P w K mg base CX0 2 f fd ["thing"] (spModes K) := by
  refine F.ok scModes (fun vs H Q E h => ?_) (fun cdv A outer s H vs Q E hr h => ?_)
  · obtain ⟨a, ks, rfl, _⟩ := h
    rfl
  · obtain ⟨a, ks, rfl, hs, h1, h8, hn, hm, q⟩ := h
    obtain ⟨t1, g1⟩ := L.modes
    refine ⟨_, (pss_cons (ps_if (PW.pt (pw_or (pt_not (pt_val (pe_call GR hr (by rfl) gR FR.kp bR .nil pass0 (pa_cons (pv 0) pa_nil)))) (pw_or (pt_not (pt_chain op_le op_le pe_int (pe_callB call_len_seq (by rfl) B.len PySem.boot_len (pa_cons (pv 0) pa_nil)) (pe_glob (v := .int 8) rfl g1 ⟨_, rfl⟩))) (pw_or1 (pt_not (pt_val (pe_callB (cr_all rfl) (by rfl) B.all (by decide +kernel) (pa_cons (pe_lc (own := [("mode", 1)]) (g := gName 1) (tt := tYes) rfl scModes.nd (pi_sq (pv 0)) (blkOk_by (own := [("mode", 1)]) (N := ["thing", "mode"]) (sc := defScope sModes) (by decide +kernel)) (fun _ _ _ _ _ => (pg_name (i := 1) scModes.nd rfl (Or.inl rfl))) (fun _ _ _ _ _ => pts_nil) (fun _ _ _ _ _ => (pe_call GN hr (by rfl) gN FN.kp bN .nil pass0 (pa_cons (pv 1) pa_nil)))) pa_nil)))))))) (pss_one (ps_ret pe_bl)) pss_nil) (pss_one (ps_ret (pe_cmpR op_eq (pe_lenSetN rfl (by rfl) B.len (by rfl) B.set (pv 0)) (pe_callB call_len_seq (by rfl) B.len PySem.boot_len (pa_cons (pv 0) pa_nil)) (nomark _))))), ?_⟩
    refine ⟨.ref a, rfl, a, _, rfl, hs, fun H1 s1 => ⟨true, rfl, iteF ?_⟩⟩
    have hs1 : Tx K H1 a ks := hs.same s1
    refine ⟨.ref a, rfl, a, _, rfl, hs1, 1, _, rfl, rfl, _, rfl, ?_⟩
    rw [List.length_map, decide_eq_true (by omega)]
    refine iteT ⟨_, 8, rfl, rfl, _, rfl, ?_⟩
    rw [decide_eq_true (by omega)]
    refine iteF ?_
    refine ⟨.ref a, rfl, a, _, rfl, iSq_of hs1 fun J G hG wk D nD => ?_⟩
    rw [List.length_map] at wk
    refine lc_f (xs := ks) wk hG nD (fun _ => true) (fun _ => true) RBl steady_bl (len8 h8) (fun i z x H2 H3 e s2 y Ny Nn hy hn => ?_) fun H2 acc s2 hD hp => ?_
    · obtain ⟨rfl, yx⟩ := y
      obtain rfl := str_get e yx
      exact ⟨rfl, .str z, rfl, z, rfl, hm z (List.mem_of_getElem? e), fun H4 s4 => hy rfl _ _ s4 rfl⟩
    · rw [bls_of hp, filt_all] at hD
      refine ⟨D, _, rfl, .inl (.inl hD), ?_⟩
      rw [all_true]
      refine ⟨true, rfl, iteF ?_⟩
      have hs2 : Tx K H2 a ks := hs1.same s2
      refine ⟨.ref a, rfl, a, ks, rfl, hs2, hn, by omega, .ref a, rfl, a, _, rfl, hs2, rfl, ?_⟩
      rw [List.length_map, decide_eq_true rfl]
      exact q _ (s1.trans s2)
end

end Ho
set_option Elab.async false
set_option linter.all false
set_option maxRecDepth 100000
set_option maxHeartbeats 4000000
/-! are_pairs, is_dict. -/
namespace Ho
open PySem PySem.Spec PyProof.Rows L2
/-! ### rules, the written part named -/
def rLenQ (K : PySem.W.Frag) : List V → Hp → VK → Prop := fun xs H Q => ∃ p ys, xs = [.ref p] ∧ (SqL K H p ys ∨ SqT K H p ys) ∧ Q (.int ys.length) H
section
variable {X : Cx} (K : PySem.W.Frag)
theorem c_len (h : X.K = K := by rfl) : CallR X (.builtin "len") (rLenQ K) := by
  subst h
  exact call_len_seq
theorem c_isi (h : X.K = K := by rfl) : CallR X (.builtin "isinstance") (rIsi K) := by
  subst h
  exact call_isi
theorem o_in (h : X.K = K := by rfl) : OpR X (compareOp .In) (rIn K false) := by
  subst h
  exact op_in_seq
theorem o_notIn (h : X.K = K := by rfl) : OpR X (compareOp .NotIn) (rIn K true) := by
  subst h
  exact op_notIn_seq
theorem i_tup (h : X.K = K := by rfl) : IxR X (rIxT K) := by
  subst h
  exact ix_tup
theorem i_list (h : X.K = K := by rfl) : IxR X (rIxL K) := by
  subst h
  exact ix_list
theorem fldK {e : Expr} {ta : TE} {f : Str} {pos : Pos} (he : PE X e ta) (hb : attributeBase e f X.env (eval e X.env) = eval e X.env) (h : X.K = K := by rfl) : PE X (.Attribute e f pos) (tFld K ta f) := by
  subst h
  exact pe_fld he hb
end
/-- the pairs of a sequence -/
def Prs (K : PySem.W.Frag) (H : Hp) (a : Addr) (l : List (Str × Str)) : Prop := ∃ vs, SqA K H a vs ∧ Paired (TPair K H) vs l
theorem Prs.same {K : PySem.W.Frag} {H H' : Hp} {a : Addr} {l : List (Str × Str)} (h : Prs K H a l) (s : Same H H') : Prs K H' a l := by
  obtain ⟨vs, h1, h2⟩ := h
  exact ⟨vs, h1.same s, Paired.steady steady_pair (.of s) h2⟩
theorem paired_get {α β : Type} {R : α → β → Prop} : ∀ {xs : List α} {ys : List β}, Paired R xs ys → ∀ {i : Nat} {x : α} {y : β}, xs[i]? = some x → ys[i]? = some y → R x y
  | _, _, .nil, i, x, y, h, _ => by simp at h
  | _, _, .cons h t, i, x, y, h1, h2 => by
    cases i with
    | zero =>
      obtain rfl := Option.some.inj h1
      obtain rfl := Option.some.inj h2
      exact h
    | succ i => exact paired_get t (by simpa using h1) (by simpa using h2)
theorem SqA.lock {K : PySem.W.Frag} {H : Hp} {a d : Addr} {xs : List V} {kvs : List (Key × V)} {od : Obj} (h : SqA K H a xs) (hd : H d = some (.dK kvs)) : SqA K (upd H d (.frz od (.dK kvs))) a xs := by
  have up : ∀ o, o ≠ .dK kvs → H a = some o → upd H d (.frz od (.dK kvs)) a = some o := fun o n e => by
    rw [upd_ne fun z : a = d => ?_]
    · exact e
    · subst z
      rw [hd] at e
      cases e
      exact n rfl
  exact h.elim (fun h => .inl (h.elim (fun h => .inl (h.elim (fun h => .inl (up _ (fun z => nomatch z) h)) fun ⟨o, h⟩ => .inr ⟨o, up _ (fun z => nomatch z) h⟩)) .inr))
    fun h => .inr (h.elim (fun h => .inl (h.elim (fun h => .inl (up _ (fun z => nomatch z) h)) fun ⟨o, h⟩ => .inr ⟨o, up _ (fun z => nomatch z) h⟩)) .inr)
theorem unlock {H H' : Hp} {d : Addr} {u : HO} {od : Obj} (hd : H d = some u) (s : Same (upd H d (.frz od u)) H') : Same H (upd H' d u) := fun b o e => by
  by_cases h : b = d
  · subst h
    rw [hd] at e
    cases e
    exact upd_same
  · rw [upd_ne h]
    exact s b o (by rw [upd_ne h]; exact e)
theorem same_but {H2 H4 H6 : Hp} {D : Addr} (nD : H2 D = none) (s : Same H2 H4) (k : Kp [D] H4 H6) : Same H2 H6 := fun b o e => k b o (fun z => ne_of_none e nD (List.mem_singleton.mp z)) (s b o e)
theorem two_cnt (l : List (Str × Str)) : (l.flatMap fun p => [p.1, p.2]).length = 2 * l.length := by
  induction l with
  | nil => rfl
  | cons p l ih =>
    rw [List.flatMap_cons, List.length_append, ih, List.length_cons, List.length_cons, List.length_cons, List.length_nil]
    omega
/-- a dict of texts by texts -/
def kvT (l : List (Str × Str)) : List (Key × V) := l.map fun p => (.inr p.1, .str p.2)
theorem kvT_len (l : List (Str × Str)) : (kvT l).length = l.length := List.length_map _
theorem kvT_val (l : List (Str × Str)) (z : Str) : valV (kvT l) (.inr z) = (Hm.look l z).map V.str := by
  induction l with
  | nil => rfl
  | cons p l ih =>
    show valV ((.inr p.1, .str p.2) :: kvT l) (.inr z) = _
    by_cases e : p.1 = z
    · rw [valV_pos (show (Sum.inr p.1 : Key) = .inr z by rw [e]), Hm.look_cons, if_pos e]
      rfl
    · rw [valV_neg (show ¬ (Sum.inr p.1 : Key) = .inr z from fun q => e (Sum.inr.inj q)), Hm.look_cons, if_neg e]
      exact ih
theorem look_in {l : List (Str × Str)} (hn : (l.map (·.1)).Nodup) : ∀ {p : Str × Str}, p ∈ l → Hm.look l p.1 = some p.2 := by
  induction l with
  | nil => intro p h; exact nomatch h
  | cons q l ih =>
    intro p h
    rw [List.map_cons, List.nodup_cons] at hn
    rw [Hm.look_cons]
    rcases List.mem_cons.mp h with e | h
    · rw [e, if_pos rfl]
    · rw [if_neg fun e => hn.1 (List.mem_map.mpr ⟨p, h, e.symm⟩), ih hn.2 h]
section
variable {P : Program} {w : World} {K : PySem.W.Frag} {mg : Str → Option Value} {base : Heap}
/-! ### are_pairs -/
abbrev sPairs : Stmt := topS 19
theorem scPairs : FnScope ["thing", "modes", "pairs", "pair", "mode"] ["thing", "modes"] (defScope sPairs) := ⟨rfl, rfl, rfl, by decide +kernel, rfl, by decide +kernel, by decide +kernel⟩
def spPairs (K : PySem.W.Frag) : Sp := fun vs H Q _ => ∃ (a m : Addr) (l : List (Str × Str)) (ks : List Str), vs = [.ref a, .ref m] ∧ Prs K H a l ∧ Tx K H m ks ∧ l.length ≤ 64 ∧ (∀ p ∈ l, p.1 ∈ ks ∧ p.2 ∈ ks) ∧ ∀ H', Same H H' → Q (.bl true) H'
theorem ok_pairs {f fR fM : Addr} {fd fdR fdM : FuncData} (F : Fun K "are_pairs" "are_pairs" sPairs f fd) (B : Blt mg) (L : Lim mg) (FR : Fun K "is_row" "is_row" sRow fR fdR) (bR : Binds K fdR ["thing"] []) (gR : mg "is_row" = some (.ref fR)) (FM : Fun K "is_mode" "is_mode" sMode fM fdM) (bM : Binds K fdM ["thing", "modes"] []) (gM : mg "is_mode" = some (.ref fM)) (GR : FnOk P w K mg base CX0 1 fR fdR ["thing"] (spRow K)) (GM : FnOk P w K mg base CX0 1 fM fdM ["thing", "modes"] (spMode K)) :
    FnOk P w K mg base CX0 2 f fd ["thing", "modes"] (spPairs K) := by
  refine F.ok scPairs (fun vs H Q E h => ?_) (fun cdv A outer s H vs Q E hr h => ?_)
  · obtain ⟨a, m, l, ks, rfl, _⟩ := h
    rfl
  · obtain ⟨a, m, l, ks, rfl, hs, hm, hl, hin, q⟩ := h
    obtain ⟨t1, g1⟩ := L.pairs
    refine ⟨_, (pss_cons (ps_if (PW.pt (pw_or (pt_not (pt_val (pe_call GR hr (by rfl) gR FR.kp bR .nil pass0 (pa_cons (pv 0) pa_nil)))) (pw_or1 (pt_cmpR op_gt (pe_callB (id := "len") (c_len K) (by rfl) B.len PySem.boot_len (pa_cons (pv 0) pa_nil)) (pe_glob (v := .int 64) rfl g1 ⟨_, rfl⟩) (nomark _))))) (pss_one (ps_ret pe_bl)) pss_nil) (pss_cons (ps_setLc (i := 2) (own := [("pair", 3)]) (g := gName 3) (tt := tYes) rfl scPairs.nd rfl rfl (sw_true rfl rfl rfl (by decide +kernel)) (pi_sq (pv 0)) (blkOk_by (own := [("pair", 3)]) (N := ["thing", "modes", "pairs", "pair", "mode"]) (sc := defScope sPairs) (by decide +kernel)) (fun _ _ _ _ _ => (pg_name (i := 3) scPairs.nd rfl (Or.inl rfl))) (fun _ _ _ _ _ => pts_nil) (fun _ _ _ _ _ => (pe_and (pe_callB (id := "isinstance") (c_isi K) (by rfl) B.isi (by decide +kernel) (pa_cons (pv 3) (pa_cons (pe_bltn (v := .ty "tuple") (by rfl) B.tuple (by decide +kernel) rfl) pa_nil))) (pe_one (pe_cmpR op_eq (pe_callB (id := "len") (c_len K) (by rfl) B.len PySem.boot_len (pa_cons (pv 3) pa_nil)) pe_int (nomark _)))))) (pss_one (ps_ret (pe_and (pe_callB (id := "all") (cr_all rfl) (by rfl) B.all (by decide +kernel) (pa_cons (pv 2) pa_nil)) (pe_one (pe_callB (id := "all") (cr_all rfl) (by rfl) B.all (by decide +kernel) (pa_cons (pe_lc2 (own := [("pair", 3), ("mode", 4)]) (vs1 := [4]) (g := gName 3) (g1 := gName 4) (wi1 := iSq K (tVar 3)) (tt := tYes) (tt1 := tYes) rfl scPairs.nd (pi_sq (pv 0)) (blkOk_by (own := [("pair", 3), ("mode", 4)]) (N := ["thing", "modes", "pairs", "pair", "mode"]) (sc := defScope sPairs) (by decide +kernel)) (by decide) (fun _ _ _ _ _ => (pg_name (i := 3) scPairs.nd rfl (Or.inl rfl))) (fun _ _ _ _ _ => pts_nil) (fun _ _ _ _ _ => (pi_sq (pv 3))) (fun _ _ _ _ _ => (pg_name (i := 4) scPairs.nd rfl (Or.inl rfl))) (fun _ _ _ _ _ => pts_nil) (fun _ _ _ _ _ => (pe_call GM hr (by rfl) gM FM.kp bM .nil pass0 (pa_cons (pv 4) (pa_cons (pv 1) pa_nil))))) pa_nil)))))))), ?_⟩
    obtain ⟨vs, ha, hp⟩ := id hs
    have lv : vs.length = l.length := Paired.length hp
    have big : l.length < sizeLine := Nat.lt_of_le_of_lt hl (by decide)
    refine ⟨.ref a, rfl, a, _, rfl, ha, fun H1 s1 => ⟨true, rfl, iteF ?_⟩⟩
    have ha1 := ha.same s1
    refine ⟨.ref a, rfl, a, _, rfl, ha1, _, 64, rfl, rfl, _, rfl, ?_⟩
    rw [lv, decide_eq_false (by omega)]
    refine iteF ?_
    refine ⟨.ref a, rfl, a, _, rfl, iSq_of ha1 fun J G hG wk D nD => ?_⟩
    rw [lv] at wk
    refine lc_f (xs := l) wk hG nD (fun _ => true) (fun _ => true) RBl steady_bl big (fun i z x H2 H3 e s2 y Ny Nn hy hn => ?_) fun H2 acc s2 hD hp2 => ?_
    · obtain ⟨rfl, yx⟩ := y
      obtain ⟨t, rfl, ht⟩ := TPair.nl (paired_get hp yx e) (.of (s1.trans s2))
      exact ⟨rfl, .ref t, rfl, .ref t, .ty "tuple", _, _, true, rfl, .ty _, tyx_tup ht, kit_ty (by decide +kernel), true, rfl, iteT ⟨.ref t, rfl, t, _, rfl, .inr ht, rfl, hy rfl _ _ (Same.refl _) rfl⟩⟩
    · rw [bls_of hp2, filt_all] at hD
      refine ⟨.ref D, rfl, D, _, rfl, .inl (.inl hD), ?_⟩
      rw [all_true]
      refine ⟨true, rfl, iteT ?_⟩
      have ha2 := ha1.same s2
      refine ⟨.ref a, rfl, a, _, rfl, iSq_of ha2 fun J G hG wk D2 nD2 => ?_⟩
      rw [lv] at wk
      have cnt := two_cnt l
      refine lc2_f (xs := l) wk hG nD2 (fun p => [p.1, p.2]) (fun _ _ => true) (fun _ _ => true) RBl steady_bl (by rw [cnt]; exact Nat.lt_of_le_of_lt (show 2 * l.length ≤ 128 by omega) (by decide)) (fun i z x H3 H4 e s3 hD3 y IN NB body => ?_) fun H3 acc2 s3 hD3 hp3 => ?_
      · obtain ⟨rfl, yx⟩ := y
        obtain ⟨t, rfl, ht⟩ := TPair.nl (paired_get hp yx e) (.of ((s1.trans s2).trans s3))
        obtain ⟨acc3, hD3⟩ := hD3
        refine ⟨rfl, .ref t, rfl, t, [.str z.1, .str z.2], rfl, .inr ⟨ht, fun J1 w1 => body _ J1 H4 _ _ (Same.refl _) w1 (fun H5 k5 => sqt_but k5 hD3 ht) fun j c x H5 H6 ej k5 y1 Ny Nn hy hn => ?_⟩⟩
        obtain ⟨rfl, yc⟩ := y1
        obtain rfl : x = .str c := str_get (ks := [z.1, z.2]) ej yc
        have hm5 : Tx K H6 m ks := hm.same ((s1.trans s2).trans (same_but nD2 s3 k5))
        obtain ⟨z1, z2⟩ := hin z (List.mem_of_getElem? e)
        have zc : c ∈ ks := by
          have := List.mem_of_getElem? ej
          rcases List.mem_cons.mp this with r | r
          · rw [r]; exact z1
          · rw [List.mem_singleton.mp r]; exact z2
        exact ⟨rfl, .str c, rfl, .ref m, rfl, c, m, ks, rfl, hm5, zc, fun H7 s7 => hy rfl _ _ s7 rfl⟩
      · rw [bls_of hp3] at hD3
        refine ⟨D2, _, rfl, .inl (.inl hD3), ?_⟩
        have all2 : (l.flatMap fun p => (([p.1, p.2].filter fun _ => true).map fun _ => true)).all id = true := List.all_eq_true.mpr fun b hb => by
          obtain ⟨p, _, hb⟩ := List.mem_flatMap.mp hb
          obtain ⟨_, _, rfl⟩ := List.mem_map.mp hb
          rfl
        rw [all2]
        exact q _ ((s1.trans s2).trans s3)
/-! ### is_dict -/
abbrev sDict : Stmt := topS 20
theorem scDict : FnScope ["thing", "modes", "goals", "mode"] ["thing", "modes", "goals"] (defScope sDict) := ⟨rfl, rfl, rfl, by decide +kernel, rfl, by decide +kernel, by decide +kernel⟩
def spDict (K : PySem.W.Frag) : Sp := fun vs H Q _ => ∃ (a m g : Addr) (l : List (Str × Str)) (ks gs : List Str), vs = [.ref a, .ref m, .ref g] ∧ H a = some (.dK (kvT l)) ∧ (l.map (·.1)).Nodup ∧ l.length ≤ 8 ∧ Tx K H m ks ∧ Tx K H g gs ∧ (∀ p ∈ l, p.1 ∈ ks ∧ p.2 ∈ gs) ∧ ∀ H', Same H H' → Q (.bl true) H'
theorem ok_dict {f fM : Addr} {fd fdM : FuncData} (F : Fun K "is_dict" "is_dict" sDict f fd) (B : Blt mg) (FM : Fun K "is_mode" "is_mode" sMode fM fdM) (bM : Binds K fdM ["thing", "modes"] []) (gM : mg "is_mode" = some (.ref fM)) (GM : FnOk P w K mg base CX0 1 fM fdM ["thing", "modes"] (spMode K)) :
    FnOk P w K mg base CX0 2 f fd ["thing", "modes", "goals"] (spDict K) := by
  refine F.ok scDict (fun vs H Q E h => ?_) (fun cdv A outer s H vs Q E hr h => ?_)
  · obtain ⟨a, m, g, l, ks, gs, rfl, _⟩ := h
    rfl
  · obtain ⟨a, m, g, l, ks, gs, rfl, hd, hn, hl, hm, hg, hin, q⟩ := h
    refine ⟨_, (pss_cons (ps_if (pt_not (pt_val (pe_callB (id := "isinstance") (c_isi K) (by rfl) B.isi (by decide +kernel) (pa_cons (pv 0) (pa_cons (pe_bltn (v := .ty "dict") (by rfl) B.dict (by decide +kernel) rfl) pa_nil))))) (pss_one (ps_ret pe_bl)) pss_nil) (pss_one (ps_ret (pe_callB (id := "all") (cr_all rfl) (by rfl) B.all (by decide +kernel) (pa_cons (pe_lock (pe_lc (own := [("mode", 3)]) (g := gName 3) (tt := tYes) rfl scDict.nd (pi_keys (pv 0)) (blkOk_by (own := [("mode", 3)]) (N := ["thing", "modes", "goals", "mode"]) (sc := defScope sDict) (by decide +kernel)) (fun _ _ _ _ _ => (pg_name (i := 3) scDict.nd rfl (Or.inl rfl))) (fun _ _ _ _ _ => pts_nil) (fun _ _ _ _ _ => (pe_and (pe_call GM hr (by rfl) gM FM.kp bM .nil pass0 (pa_cons (pv 3) (pa_cons (pv 1) pa_nil))) (pe_one (pe_call GM hr (by rfl) gM FM.kp bM .nil pass0 (pa_cons (pe_dget (hu_of hr) (pv 0) (pv 3) (fun _ _ => rfl)) (pa_cons (pv 2) pa_nil)))))))) pa_nil))))), ?_⟩
    refine ⟨.ref a, rfl, .ref a, .ty "dict", _, _, true, rfl, .ty _, .base (.dK hd), kit_ty (by decide +kernel), true, rfl, iteF ?_⟩
    refine ⟨a, _, hd, trivial, fun od => ?_⟩
    generalize hL : upd H a (.frz od (.dK (kvT l))) = HL
    have fz : HL a = some (.frz od (.dK (kvT l))) := by rw [← hL]; exact upd_same
    have hmL : Tx K HL m ks := by rw [← hL]; exact hm.lock hd
    have hgL : Tx K HL g gs := by rw [← hL]; exact hg.lock hd
    refine ⟨.ref a, rfl, a, od, rfl, .inl ⟨_, fz, fun D nD => ?_⟩⟩
    have wk := walk_keys (d := a) (o := od) (kvs := kvT l)
    rw [kvT_len] at wk
    refine lc_f (xs := l) wk (fun H1 s1 => s1 _ _ fz) nD (fun _ => true) (fun _ => true) RBl steady_bl (len8 hl) (fun i p x H2 H3 e s2 y Ny Nn hy hn' => ?_) fun H2 acc s2 hD hp => ?_
    · obtain ⟨rfl, k, v, ek, rfl⟩ := y
      have ek' : (Sum.inr p.1, V.str p.2) = (k, v) := by
        have : (kvT l)[i]? = some (.inr p.1, .str p.2) := by unfold kvT; rw [List.getElem?_map, e]; rfl
        rw [this] at ek
        exact Option.some.inj ek
      obtain ⟨rfl, rfl⟩ := Prod.mk.inj ek'
      have hp' : p ∈ l := List.mem_of_getElem? e
      obtain ⟨z1, z2⟩ := hin p hp'
      refine ⟨rfl, .str p.1, rfl, .ref m, rfl, p.1, m, ks, rfl, hmL.same s2, z1, fun H4 s4 => ⟨true, rfl, iteT ?_⟩⟩
      have fz4 := s4 _ _ (s2 _ _ fz)
      refine ⟨.ref a, rfl, .str p.1, rfl, a, .str p.2, rfl, .inl ⟨_, .inr p.1, .inr ⟨_, fz4⟩, rfl, by rw [kvT_val, look_in hn hp']; rfl⟩, .ref g, rfl, p.2, g, gs, rfl, hgL.same (s2.trans s4), z2, fun H5 s5 => hy rfl _ _ (s4.trans s5) rfl⟩
    · rw [bls_of hp, filt_all] at hD
      refine ⟨s2 _ _ fz, ?_⟩
      have nDa : D ≠ a := fun z => by rw [z, fz] at nD; cases nD
      refine ⟨D, _, rfl, .inl (.inl (by rw [upd_ne nDa]; exact hD)), ?_⟩
      rw [all_true]
      exact q _ (unlock (od := od) hd (by rw [hL]; exact s2))
end

end Ho
set_option Elab.async false
set_option linter.all false
set_option maxRecDepth 100000
set_option maxHeartbeats 4000000
/-! Tables on the heap. -/
namespace Ho
open PySem PySem.Spec PyProof.Rows L2
/-! ### a dict made by a comprehension -/
theorem kv_new {l : List (Str × Str)} {a : Str} (h : a ∉ l.map (·.1)) (b : Str) : putK (kvT l) (.inr a) (.str b) = kvT (l ++ [(a, b)]) := by
  rw [putK_new _ (by rw [kvT_val, Hm.look_none h]; rfl)]
  unfold kvT
  rw [List.map_append]
  rfl
section
variable {J : It} {G : Hp → Prop} {Y : Nat → Hp → V → Hp → Prop} {g : TG} {tt : TT} {tk tv : TE} {vs : List Nat} {σ : L2.St} {H1 : Hp} {D : Addr} {Qd : Hp → Prop}
theorem dc_f {xs : List Str} (hn : xs.Nodup) (w : Walk J xs.length G Y) (hG : ∀ H, Same H1 H → G H) (nD : H1 D = none) (f : Str → Str) (hz : xs.length < sizeLine)
    (hs : ∀ i a x H H', xs[i]? = some a → Same H1 H → Y i H x H' → ∀ (Nk : V → V → Hp → Prop) (NB : Hp → Prop), (∀ H5, Same H H5 → Nk (.str a) (.str (f a)) H5) →
      g x (wipe σ vs) H' fun σ2 H2 => wipe σ2 vs = wipe σ vs ∧ tt σ2 H2 fun b H3 => if b = true then tk σ2 H3 fun y H4 => tv σ2 H4 fun z H5 => Nk y z H5 else NB H3)
    (hd : ∀ H, Same H1 H → H D = some (.dK (kvT (xs.map fun m => (m, f m)))) → Qd H) :
    ∃ W : Nat → Nat → Hp → Prop, (∃ m, W 0 m (upd H1 D (.dK []))) ∧ ∀ i m H, W i m H →
      (J.stop i H ∧ Qd H) ∨ (J.go i H ∧ ∃ Nx : Hp → Prop, (∀ H', Nx H' → ∃ m', m' < m ∧ W (i + 1) m' H') ∧ ∀ x H', J.yld i H x H' → g x (wipe σ vs) H' fun σ2 H2 => wipe σ2 vs = wipe σ vs ∧ tt σ2 H2 fun b H3 =>
        if b = true then tk σ2 H3 fun y H4 => tv σ2 H4 fun z H5 => ∃ kvs k, y = kV k ∧ H5 D = some (.dK kvs) ∧ kvs.length < sizeLine ∧ Nx (upd H5 D (.dK (putK kvs k z))) else Nx H3) := by
  let L : Nat → List (Str × Str) := fun i => (xs.take i).map fun m => (m, f m)
  refine ⟨fun i m H => m = xs.length - i ∧ i ≤ xs.length ∧ Same H1 H ∧ H D = some (.dK (kvT (L i))), ⟨xs.length, by simp, Nat.zero_le _, same_new nD, upd_same⟩, ?_⟩
  rintro i m H ⟨rfl, hi, s1, hD⟩
  by_cases hlt : i < xs.length
  · have e : xs[i]? = some xs[i] := List.getElem?_eq_getElem hlt
    have et : xs.take (i + 1) = xs.take i ++ [xs[i]] := by rw [List.take_add_one, e]; rfl
    refine .inr ⟨w.goes i H hlt (hG H s1), fun H' => i + 1 ≤ xs.length ∧ Same H1 H' ∧ H' D = some (.dK (kvT (L (i + 1)))), fun H' q => ⟨_, by omega, rfl, q.1, q.2⟩, fun x H' y => ?_⟩
    refine hs i xs[i] x H H' e s1 (w.yields i H x H' hlt (hG H s1) y) _ _ fun H5 s5 => ?_
    have no : xs[i] ∉ (L i).map (·.1) := fun h => by
      have h' : xs[i] ∈ xs.take i := by
        have : (L i).map (·.1) = xs.take i := by
          show ((xs.take i).map _).map _ = _
          rw [List.map_map]
          exact List.map_id _
        rwa [this] at h
      obtain ⟨j, hj, ej⟩ := List.getElem_of_mem h'
      rw [List.length_take] at hj
      have hji : j < i := by omega
      exact absurd ((List.getElem_take ..).symm.trans ej) (List.pairwise_iff_getElem.mp hn j i (by omega) hlt hji)
    have lz : (kvT (L i)).length < sizeLine := by
      rw [kvT_len]
      show ((xs.take i).map _).length < _
      rw [List.length_map, List.length_take]
      omega
    refine ⟨kvT (L i), .inr xs[i], rfl, s5 _ _ hD, lz, hlt, fun b o e1 => ?_, ?_⟩
    · rw [upd_ne (ne_of_none e1 nD)]
      exact s5 _ _ (s1 _ _ e1)
    · rw [upd_same, kv_new no]
      show some (HO.dK (kvT ((xs.take i).map _ ++ _))) = some (HO.dK (kvT ((xs.take (i + 1)).map _)))
      rw [et, List.map_append]
      rfl
  · have e : i = xs.length := by omega
    subst e
    refine .inl ⟨w.stops H (hG H s1), hd H s1 ?_⟩
    have em : L xs.length = xs.map fun m => (m, f m) := by
      show (xs.take xs.length).map _ = _
      rw [List.take_length]
    rw [em] at hD
    exact hD
end
/-! ### a table on the heap -/
def wTxt (n : Nat) : Str := if n = 0 then "" else if n = 1 then "see" else "change"
/-- the dict of pairs: both ways -/
def putB (acc : List (List Key × V)) (p : Str × Str) : List (List Key × V) := putK (putK acc [.inr p.1, .inr p.2] (.bl true)) [.inr p.2, .inr p.1] (.bl true)
def prsK (near : List (Str × Str)) : List (List Key × V) := near.foldl putB []
theorem prsK_take {near : List (Str × Str)} {i : Nat} {p : Str × Str} (e : near[i]? = some p) : prsK (near.take (i + 1)) = putB (prsK (near.take i)) p := by
  unfold prsK
  rw [List.take_add_one, e, List.foldl_append]
  rfl
theorem putB_len (acc : List (List Key × V)) (p : Str × Str) : (putB acc p).length ≤ acc.length + 2 := by
  have h1 := length_putK acc [.inr p.1, .inr p.2] (.bl true)
  have h2 := length_putK (putK acc [.inr p.1, .inr p.2] (.bl true)) [.inr p.2, .inr p.1] (.bl true)
  unfold putB
  omega
theorem prs_len : ∀ (near : List (Str × Str)) (acc : List (List Key × V)), (near.foldl putB acc).length ≤ acc.length + 2 * near.length
  | [], _ => Nat.le_refl _
  | p :: near, acc => by
    rw [List.foldl_cons, List.length_cons]
    have h1 := prs_len near (putB acc p)
    have h2 := putB_len acc p
    omega
theorem key2 {a b c d : Str} : (([.inr a, .inr b] : List Key) = [.inr c, .inr d]) ↔ a = c ∧ b = d := by
  constructor
  · intro h
    injection h with h1 h2
    injection h2 with h2 _
    exact ⟨Sum.inr.inj h1, Sum.inr.inj h2⟩
  · rintro ⟨rfl, rfl⟩
    rfl
theorem putB_val (acc : List (List Key × V)) (p : Str × Str) (a b : Str) : (valV (putB acc p) [.inr a, .inr b]).isSome = (decide ((a, b) = p) || decide ((b, a) = p) || (valV acc [.inr a, .inr b]).isSome) := by
  obtain ⟨c, d⟩ := p
  unfold putB
  rw [valV_put, valV_put]
  by_cases h1 : b = c ∧ a = d
  · obtain ⟨rfl, rfl⟩ := h1
    simp
  · by_cases h2 : a = c ∧ b = d
    · obtain ⟨rfl, rfl⟩ := h2
      simp [key2]
    · have e1 : ¬ ([.inr d, .inr c] : List Key) = [.inr a, .inr b] := fun h => h1 ⟨(key2.mp h).2.symm, (key2.mp h).1.symm⟩
      have e2 : ¬ ([.inr c, .inr d] : List Key) = [.inr a, .inr b] := fun h => h2 ⟨(key2.mp h).1.symm, (key2.mp h).2.symm⟩
      have f1 : ¬ (a, b) = (c, d) := fun h => h2 (Prod.mk.inj h)
      have f2 : ¬ (b, a) = (c, d) := fun h => h1 (Prod.mk.inj h)
      have h3 : ¬ (a = d ∧ b = c) := fun h => h1 ⟨h.2, h.1⟩
      simp [e1, e2, f1, f2, h1, h2, h3]
theorem prs_val (a b : Str) : ∀ (near : List (Str × Str)) (acc : List (List Key × V)), (valV (near.foldl putB acc) [.inr a, .inr b]).isSome = (decide ((a, b) ∈ near) || decide ((b, a) ∈ near) || (valV acc [.inr a, .inr b]).isSome)
  | [], acc => by simp
  | p :: near, acc => by
    rw [List.foldl_cons, prs_val a b near, putB_val]
    simp only [List.mem_cons, Bool.decide_or]
    cases decide ((a, b) = p) <;> cases decide ((b, a) = p) <;> cases decide ((a, b) ∈ near) <;> cases decide ((b, a) ∈ near) <;> rfl
theorem prs_bes (P : Hm.Pl Str) (a b : Str) : (valV (prsK P.near) [.inr a, .inr b]).isSome = (Hm.made P).bes a b := by
  unfold prsK
  rw [prs_val]
  show (_ || _ || (valV ([] : List (List Key × V)) _).isSome) = _
  rw [show (valV ([] : List (List Key × V)) [.inr a, .inr b]).isSome = false from rfl, Bool.or_false]
  rfl
/-- the fields, in the order of their making -/
def tf (o dp dw du : Addr) (j : V) : List (Str × V) := [("order", .ref o), ("pairs", .ref dp), ("worth", .ref dw), ("upper", .ref du), ("judged", j)]
def wL (P : Hm.Pl Str) : List (Str × Str) := P.kinds.map fun m => (m, wTxt ((Hm.made P).wor m))
def uL (P : Hm.Pl Str) : List (Str × Str) := P.kinds.map fun m => (m, (Hm.made P).upp m)
structure TblAt (K : PySem.W.Frag) (C : Addr) (H : Hp) (p dx o dp dw du : Addr) (P : Hm.Pl Str) (j : V) : Prop where
  ob : H p = some (.ins C dx (tf o dp dw du j))
  or_ : OrdAt K H o (P.kinds.map V.str)
  pr : H dp = some (.dT (prsK P.near))
  wo : H dw = some (.dK (kvT (wL P)))
  up : H du = some (.dK (kvT (uL P)))
/-- a table of P stands at p -/
def Tbl (K : PySem.W.Frag) (C : Addr) (H : Hp) (p : Addr) (P : Hm.Pl Str) : Prop := ∃ dx o dp dw du j, TblAt K C H p dx o dp dw du P j
theorem TblAt.same {K : PySem.W.Frag} {C : Addr} {H H' : Hp} {p dx o dp dw du : Addr} {P : Hm.Pl Str} {j : V} (h : TblAt K C H p dx o dp dw du P j) (s : Same H H') : TblAt K C H' p dx o dp dw du P j := ⟨s _ _ h.ob, h.or_.same s, s _ _ h.pr, s _ _ h.wo, s _ _ h.up⟩
theorem Tbl.same {K : PySem.W.Frag} {C : Addr} {H H' : Hp} {p : Addr} {P : Hm.Pl Str} (h : Tbl K C H p P) (s : Same H H') : Tbl K C H' p P := by
  obtain ⟨dx, o, dp, dw, du, j, t⟩ := h
  exact ⟨dx, o, dp, dw, du, j, t.same s⟩
theorem look_made {l : List Str} {f : Str → Str} {m : Str} : m ∈ l → Hm.look (l.map fun x => (x, f x)) m = some (f m) := by
  induction l with
  | nil => intro h; exact nomatch h
  | cons a l ih =>
    intro h
    rw [List.map_cons, Hm.look_cons]
    by_cases e : a = m
    · rw [if_pos e, e]
    · rw [if_neg e, ih ((List.mem_cons.mp h).resolve_left fun z => e z.symm)]
theorem wL_val {P : Hm.Pl Str} {m : Str} (h : m ∈ P.kinds) : valV (kvT (wL P)) (.inr m) = some (.str (wTxt ((Hm.made P).wor m))) := by
  rw [kvT_val]
  unfold wL
  rw [look_made h]
  rfl
theorem uL_val {P : Hm.Pl Str} {m : Str} (h : m ∈ P.kinds) : valV (kvT (uL P)) (.inr m) = some (.str ((Hm.made P).upp m)) := by
  rw [kvT_val]
  unfold uL
  rw [look_made h]
  rfl
/-- the class as the top has made it -/
structure Tt (K : PySem.W.Frag) (mg : Str → Option Value) (C : Addr) : Prop where
  cl : Cls K C
  nO : NoAttr K C "order"
  nP : NoAttr K C "pairs"
  nW : NoAttr K C "worth"
  nU : NoAttr K C "upper"
  nJ : NoAttr K C "judged"
  mgC : mg "Table" = some (.ref C)
abbrev worths : List Str := ["", "see", "change"]
/-- the constant WORTHS -/
structure Wor (K : PySem.W.Frag) (mg : Str → Option Value) (aW : Addr) : Prop where
  mgW : mg "WORTHS" = some (.ref aW)
  at_ : ∃ (o : Obj) (t0 t1 t2 : Tok) (n : Nat), K.lookup aW = some o ∧ o.cls = .type "tuple" ∧ o.dict = none ∧ o.data = .seq #[.str "" t0, .str "see" t1, .str "change" t2] n
theorem Wor.ord {K : PySem.W.Frag} {mg : Str → Option Value} {aW : Addr} (h : Wor K mg aW) (H : Hp) : OrdAt K H aW (worths.map V.str) := by
  obtain ⟨o, t0, t1, t2, n, e1, e2, e3, e4⟩ := h.at_
  exact ⟨.inr ⟨o, _, n, e1, e2, e4, (show 3 ≤ sizeLine by decide), .cons ⟨_, rfl⟩ (.cons ⟨_, rfl⟩ (.cons ⟨_, rfl⟩ .nil))⟩, .inr ⟨o, e1, e2, e3⟩⟩

end Ho
set_option Elab.async false
set_option linter.all false
set_option maxRecDepth 100000
set_option maxHeartbeats 4000000
/-! Table.__init__ -/
namespace Ho
open PySem PySem.Spec PyProof.Rows L2
/-- all but the instance at p stands -/
def NI (p : Addr) (H0 H : Hp) : Prop := ∀ b o, H0 b = some o → b ≠ p → H b = some o
theorem NI.to {p : Addr} {H0 H1 H2 : Hp} (k : NI p H0 H1) (s : Same H1 H2) : NI p H0 H2 := fun b o e n => s b o (k b o e n)
theorem NI.at_ {p : Addr} {H0 H1 : Hp} {o : HO} (k : NI p H0 H1) : NI p H0 (upd H1 p o) := fun b u e n => by
  rw [upd_ne n]
  exact k b u e n
theorem SqL.ni {K : PySem.W.Frag} {p a C dx : Addr} {fs : List (Str × V)} {H0 H : Hp} {xs : List V} (h : SqL K H0 a xs) (hp : H0 p = some (.ins C dx fs)) (k : NI p H0 H) : SqL K H a xs := by
  have up : ∀ o, o ≠ .ins C dx fs → H0 a = some o → H a = some o := fun o n e => k a o e fun z => by
    rw [z, hp] at e
    cases e
    exact n rfl
  exact h.elim (fun h => .inl (h.elim (fun h => .inl (up _ (fun z => nomatch z) h)) fun ⟨o, h⟩ => .inr ⟨o, up _ (fun z => nomatch z) h⟩)) .inr
theorem SqT.ni {K : PySem.W.Frag} {p a C dx : Addr} {fs : List (Str × V)} {H0 H : Hp} {xs : List V} (h : SqT K H0 a xs) (hp : H0 p = some (.ins C dx fs)) (k : NI p H0 H) : SqT K H a xs := by
  have up : ∀ o, o ≠ .ins C dx fs → H0 a = some o → H a = some o := fun o n e => k a o e fun z => by
    rw [z, hp] at e
    cases e
    exact n rfl
  exact h.elim (fun h => .inl (h.elim (fun h => .inl (up _ (fun z => nomatch z) h)) fun ⟨o, h⟩ => .inr ⟨o, up _ (fun z => nomatch z) h⟩)) .inr
theorem SqA.ni {K : PySem.W.Frag} {p a C dx : Addr} {fs : List (Str × V)} {H0 H : Hp} {xs : List V} (h : SqA K H0 a xs) (hp : H0 p = some (.ins C dx fs)) (k : NI p H0 H) : SqA K H a xs := h.elim (fun h => .inl (SqL.ni h hp k)) fun h => .inr (SqT.ni h hp k)
theorem TPair.ni {K : PySem.W.Frag} {p C dx : Addr} {fs : List (Str × V)} {H0 H : Hp} {v : V} {q : Str × Str} (h : TPair K H0 v q) (hp : H0 p = some (.ins C dx fs)) (k : NI p H0 H) : TPair K H v q := by
  obtain ⟨t, rfl, h⟩ := h
  exact ⟨t, rfl, SqT.ni h hp k⟩
theorem Prs.ni {K : PySem.W.Frag} {p a C dx : Addr} {fs : List (Str × V)} {H0 H : Hp} {l : List (Str × Str)} (h : Prs K H0 a l) (hp : H0 p = some (.ins C dx fs)) (k : NI p H0 H) : Prs K H a l := by
  obtain ⟨vs, h1, h2⟩ := h
  exact ⟨vs, h1.ni hp k, Paired.mapP h2 fun _ _ h => h.ni hp k⟩
theorem iSq_ni {K : PySem.W.Frag} {p a C dx : Addr} {fs : List (Str × V)} {H0 H1 : Hp} {xs : List V} {R : It → Hp → Prop} (h : SqA K H0 a xs) (hp : H0 p = some (.ins C dx fs)) (k : NI p H0 H1) (q : ∀ J (G : Hp → Prop), (∀ H, NI p H0 H → G H) → Walk J xs.length G (YAt xs) → R J H1) : SqOr K H1 a xs R := by
  exact h.elim (fun h => .inl ⟨SqL.ni h hp k, fun J w => q J _ (fun H k' => SqL.ni h hp k') w⟩) fun h => .inr ⟨SqT.ni h hp k, fun J w => q J _ (fun H k' => SqT.ni h hp k') w⟩
theorem dict_ni {p a C dx : Addr} {fs : List (Str × V)} {H0 H : Hp} {kvs : List (Key × V)} (h : H0 a = some (.dK kvs)) (hp : H0 p = some (.ins C dx fs)) (k : NI p H0 H) : H a = some (.dK kvs) := k a _ h fun z => by
  rw [z, hp] at h
  cases h
section
variable {P : Program} {w : World} {K : PySem.W.Frag} {mg : Str → Option Value} {base : Heap}

/-! ### Table.__init__ -/
abbrev sInit : Stmt := inClass (topS 21) 0
def TupOr (K : PySem.W.Frag) (H : Hp) (p : Addr) (ys : List V) (Q : VK) : Prop := (SqL K H p ys ∧ ∀ l o, H l = none → o.cls = .type "tuple" → o.dict = none → Q (.ref l) (upd H l (.frz o (.tup ys)))) ∨ (SqT K H p ys ∧ Q (.ref p) H)
def rTup (K : PySem.W.Frag) : List V → Hp → VK → Prop := fun xs H Q => ∃ p ys, xs = [.ref p] ∧ TupOr K H p ys Q
theorem c_tup {X : Cx} (K : PySem.W.Frag) (h : X.K = K := by rfl) : CallR X (.type "tuple") (rTup K) := by
  subst h
  exact call_tuple_pl
theorem tup_or {K : PySem.W.Frag} {H : Hp} {p : Addr} {ys : List V} {Q : VK} (h : SqL K H p ys ∨ OrdAt K H p ys) (q : ∀ H5 o, Same H H5 → OrdAt K H5 o ys → Q (.ref o) H5) : TupOr K H p ys Q :=
  h.elim (fun h => .inl ⟨h, fun l o n c d => q _ _ (same_new n) ⟨.inl (.inr ⟨o, upd_same⟩), .inl ⟨o, _, upd_same, c, d⟩⟩⟩) fun h => .inr ⟨h.sq, q _ _ (Same.refl _) h⟩
theorem tf_put (o dp dw du : Addr) (j : V) : putF "judged" j (putF "upper" (.ref du) (putF "worth" (.ref dw) (putF "pairs" (.ref dp) (putF "order" (.ref o) [])))) = tf o dp dw du j := by rfl
theorem cut_w : cutV (worths.map V.str) (some 1) none = (["see", "change"] : List Str).map V.str := by rfl
theorem wor_in {n : Nat} (h : n = 1 ∨ n = 2) : wTxt n ∈ (["see", "change"] : List Str) := by
  rcases h with rfl | rfl
  · exact List.mem_cons_self
  · exact List.mem_cons_of_mem _ List.mem_cons_self
theorem worth_val (P : Hm.Pl Str) (m : Str) : (valV (kvT (P.worth.map fun q => (q.1, wTxt q.2))) (.inr m)).getD (.str "") = .str (wTxt ((Hm.made P).wor m)) := by
  rw [kvT_val]
  have e := Hm.look_map (fun x : Str => x) wTxt m (l := P.worth) fun _ _ h => h
  rw [e]
  show _ = V.str (wTxt ((Hm.look P.worth m).getD 0))
  cases Hm.look P.worth m <;> rfl
theorem upper_val (P : Hm.Pl Str) (m : Str) : (valV (kvT P.upper) (.inr m)).getD (.str m) = .str ((Hm.made P).upp m) := by
  rw [kvT_val]
  show _ = V.str ((Hm.look P.upper m).getD m)
  cases Hm.look P.upper m <;> rfl
theorem worth_keys (l : List (Str × Nat)) : (l.map fun q => (q.1, wTxt q.2)).map (·.1) = l.map (·.1) := by
  rw [List.map_map]
  rfl
theorem scInit : FnScope ["self", "modes", "beside", "gives", "above", "upper", "one", "other", "mode"] ["self", "modes", "beside", "gives", "above"] (defScope sInit) := ⟨rfl, rfl, rfl, by decide +kernel, rfl, by decide +kernel, by decide +kernel⟩
/-- what a table is made of -/
structure Ar (K : PySem.W.Frag) (H : Hp) (a b c e : Addr) (P : Hm.Pl Str) : Prop where
  kinds : SqL K H a (P.kinds.map V.str) ∨ OrdAt K H a (P.kinds.map V.str)
  near : Prs K H b P.near
  worth : H c = some (.dK (kvT (P.worth.map fun q => (q.1, wTxt q.2))))
  upper : H e = some (.dK (kvT P.upper))
def spInit (K : PySem.W.Frag) (C : Addr) : Sp := fun vs H Q _ => ∃ (p dx a b c e : Addr) (P : Hm.Pl Str), vs = [.ref p, .ref a, .ref b, .ref c, .ref e] ∧ H p = some (.ins C dx []) ∧ Ar K H a b c e P ∧ Hm.PlOk P 64 ∧ (∀ z ∈ P.kinds, Nm z) ∧
  ∀ H' o dp dw du, NI p H H' → TblAt K C H' p dx o dp dw du P .non → Q .non H'
theorem ok_init {f C aW fA fB fD : Addr} {fd fdA fdB fdD : FuncData} (F : Fun K "__init__" "Table.__init__" sInit f fd) (B : Blt mg) (T : Tt K mg C) (W : Wor K mg aW) (FA : Fun K "are_modes" "are_modes" sModes fA fdA) (bA : Binds K fdA ["thing"] []) (gA : mg "are_modes" = some (.ref fA)) (FB : Fun K "are_pairs" "are_pairs" sPairs fB fdB) (bB : Binds K fdB ["thing", "modes"] []) (gB : mg "are_pairs" = some (.ref fB)) (FD : Fun K "is_dict" "is_dict" sDict fD fdD) (bD : Binds K fdD ["thing", "modes", "goals"] []) (gD : mg "is_dict" = some (.ref fD)) (GA : FnOk P w K mg base CX0 2 fA fdA ["thing"] (spModes K)) (GB : FnOk P w K mg base CX0 2 fB fdB ["thing", "modes"] (spPairs K)) (GD : FnOk P w K mg base CX0 2 fD fdD ["thing", "modes", "goals"] (spDict K)) :
    FnOk P w K mg base CX0 3 f fd ["self", "modes", "beside", "gives", "above"] (spInit K C) := by
  refine F.ok scInit (fun vs H Q E h => ?_) (fun cdv A outer s H vs Q E hr h => ?_)
  · obtain ⟨p, dx, a, b, c, e, P, rfl, _⟩ := h
    rfl
  · obtain ⟨p, dx, a, b, c, e, P, rfl, hp, R, ok, hN, q⟩ := h
    have t0 : Tx K H a P.kinds := R.kinds.elim .inl fun h => .inr h.sq
    refine ⟨_, (pss_cons (ps_set (i := 5) scInit.nd rfl (Or.inr rfl) (pe_ifExp (pt_cmpR op_isN (pv 4) pe_non (nomark _)) pe_dnewK (pv 4))) (pss_cons (ps_if (PW.pt (pw_or (pt_not (pt_val (pe_call GA hr (by rfl) gA FA.kp bA .nil pass0 (pa_cons (pv 1) pa_nil)))) (pw_or1 (pt_not (pt_val (pe_call GB hr (by rfl) gB FB.kp bB .nil pass0 (pa_cons (pv 2) (pa_cons (pv 1) pa_nil)))))))) (pss_one ps_never) pss_nil) (pss_cons (ps_if (PW.pt (pw_or (pt_not (pt_val (pe_call GD hr (by rfl) gD FD.kp bD .nil pass0 (pa_cons (pv 3) (pa_cons (pv 1) (pa_cons (pe_slice sl_tup (pe_glob (v := .ref aW) rfl W.mgW rfl) (po_some pe_int) po_none) pa_nil)))))) (pw_or1 (pt_not (pt_val (pe_call GD hr (by rfl) gD FD.kp bD .nil pass0 (pa_cons (pv 5) (pa_cons (pv 1) (pa_cons (pv 1) pa_nil))))))))) (pss_one ps_never) pss_nil) (pss_cons (ps_fld (pv 0) (pe_callTy (T := "tuple") (c_tup K) (by rfl) B.tuple (by decide +kernel) (pa_cons (pv 1) pa_nil)) rfl) (pss_cons (ps_fld (pv 0) pe_dnewT rfl) (pss_cons (ps_for PassesOwn.never rfl (pi_sq (pv 2)) (pg_tup rfl (pgs_cons (pg_name (i := 6) scInit.nd rfl (Or.inl rfl)) (pgs_cons (pg_name (i := 7) scInit.nd rfl (Or.inl rfl)) pgs_nil))) (pss_one (ps_asg2 pe_bl (pg_sub (fldK K (pv 0) rfl) (pe_tup (pa_cons (pv 6) (pa_cons (pv 7) pa_nil))) (set_dict (hu_of hr))) (pg_sub (fldK K (pv 0) rfl) (pe_tup (pa_cons (pv 7) (pa_cons (pv 6) pa_nil))) (set_dict (hu_of hr)))))) (pss_cons (ps_fld (pv 0) (pe_dc (own := [("mode", 8)]) (g := gName 8) (tt := tYes) rfl scInit.nd (pi_sq (pv 1)) (blkOk_by (own := [("mode", 8)]) (N := ["self", "modes", "beside", "gives", "above", "upper", "one", "other", "mode"]) (sc := defScope sInit) (by decide +kernel)) (fun _ _ _ _ _ => (pg_name (i := 8) scInit.nd rfl (Or.inl rfl))) (fun _ _ _ _ _ => pts_nil) (fun _ _ _ _ _ => (pv 8)) (fun _ _ _ _ _ => (pe_dget2 (hu_of hr) (pv 3) (pv 8) pe_str ⟨rfl, rfl, rfl, rfl⟩))) rfl) (pss_cons (ps_fld (pv 0) (pe_dc (own := [("mode", 8)]) (g := gName 8) (tt := tYes) rfl scInit.nd (pi_sq (pv 1)) (blkOk_by (own := [("mode", 8)]) (N := ["self", "modes", "beside", "gives", "above", "upper", "one", "other", "mode"]) (sc := defScope sInit) (by decide +kernel)) (fun _ _ _ _ _ => (pg_name (i := 8) scInit.nd rfl (Or.inl rfl))) (fun _ _ _ _ _ => pts_nil) (fun _ _ _ _ _ => (pv 8)) (fun _ _ _ _ _ => (pe_dget2 (hu_of hr) (pv 5) (pv 8) (pv 8) ⟨rfl, rfl, rfl, rfl⟩))) rfl) (pss_one (ps_fld (pv 0) pe_non rfl)))))))))), ?_⟩
    -- upper
    refine ⟨.ref e, rfl, rfl, _, rfl, ?_⟩
    rw [decide_eq_false (fun z => nomatch z)]
    refine iteF ⟨.ref e, rfl, ?_⟩
    -- the two refusals
    refine ⟨.ref a, rfl, a, P.kinds, rfl, t0, ok.one, ok.few, ok.nd, hN, fun H1 s1 => ⟨true, rfl, iteF ?_⟩⟩
    refine ⟨.ref b, rfl, .ref a, rfl, b, a, P.near, P.kinds, rfl, R.near.same s1, t0.same s1, ok.many, ok.near, fun H2 s2 => ⟨true, rfl, iteF ?_⟩⟩
    have s02 : Same H H2 := s1.trans s2
    refine ⟨.ref c, rfl, .ref a, rfl, 1, rfl, aW, worths.map V.str, rfl, (W.ord H2).sq, (by decide), fun t nt => ?_⟩
    rw [cut_w]
    have s3 : Same H2 (upd H2 t (.tup ((["see", "change"] : List Str).map V.str))) := same_new nt
    refine ⟨c, a, t, P.worth.map (fun q => (q.1, wTxt q.2)), P.kinds, ["see", "change"], rfl, s3 _ _ (s02 _ _ R.worth), (by rw [worth_keys]; exact ok.worthN), (by rw [List.length_map]; exact ok.worthL), t0.same (s02.trans s3), .inr (.inl (.inl upd_same)), fun q hq => ?_, fun H3 s4 => ⟨true, rfl, iteF ?_⟩⟩
    · obtain ⟨q', hq', rfl⟩ := List.mem_map.mp hq
      exact ⟨(ok.worth q' hq').1, wor_in (ok.worth q' hq').2⟩
    have s03 : Same H H3 := (s02.trans s3).trans s4
    refine ⟨.ref e, rfl, .ref a, rfl, .ref a, rfl, e, a, a, P.upper, P.kinds, P.kinds, rfl, s03 _ _ R.upper, ok.upperN, ok.upperL, t0.same s03, t0.same s03, ok.upper, fun H4 s5 => ⟨true, rfl, iteF ?_⟩⟩
    have s04 : Same H H4 := s03.trans s5
    -- self.order
    have hk4 : SqL K H4 a (P.kinds.map V.str) ∨ OrdAt K H4 a (P.kinds.map V.str) := R.kinds.imp (fun h => s04.seq h) fun h => h.same s04
    refine ⟨.ref a, rfl, a, P.kinds.map V.str, rfl, tup_or hk4 fun H5 o s45 ho => ?_⟩
    have s05 : Same H H5 := s04.trans s45
    refine ⟨.ref p, rfl, p, C, dx, [], rfl, s05 _ _ hp, T.cl, T.nO, (by show 0 < 1000; decide), ?_⟩
    generalize h6 : upd H5 p (.ins C dx (putF "order" (.ref o) [])) = H6
    have p6 : H6 p = some (.ins C dx (putF "order" (.ref o) [])) := by rw [← h6]; exact upd_same
    have n6 : NI p H H6 := by rw [← h6]; exact NI.at_ fun b u e1 _ => s05 b u e1
    have o6 : OrdAt K H6 o (P.kinds.map V.str) := by
      have k : NI p H5 H6 := by rw [← h6]; exact NI.at_ fun b u e1 _ => e1
      refine ⟨SqT.ni ho.sq (s05 _ _ hp) k, ho.pl.imp (fun ⟨ob, u, e1, r⟩ => ⟨ob, u, k _ _ e1 fun z => ?_, r⟩) id⟩
      rw [z, s05 _ _ hp] at e1
      cases e1
    -- self.pairs
    intro dp ndp
    have npd : p ≠ dp := ne_of_none p6 ndp
    refine ⟨.ref p, rfl, p, C, dx, _, rfl, (by rw [upd_ne npd]; exact p6), T.cl, T.nP, (by show 1 < 1000; decide), ?_⟩
    generalize h7 : upd (upd H6 dp (.dT [])) p (.ins C dx (putF "pairs" (.ref dp) (putF "order" (.ref o) []))) = H7
    have p7 : H7 p = some (.ins C dx (putF "pairs" (.ref dp) (putF "order" (.ref o) []))) := by rw [← h7]; exact upd_same
    have k67 : ∀ b u, H6 b = some u → b ≠ p → H7 b = some u := fun b u e1 n => by rw [← h7, upd_ne n, upd_ne (ne_of_none e1 ndp)]; exact e1
    have n7 : NI p H H7 := fun b u e1 n => k67 b u (n6 b u e1 n) n
    have d7 : H7 dp = some (.dT (prsK (P.near.take 0))) := by rw [← h7, upd_ne npd.symm, upd_same]; rfl
    have hd0 : H dp = none := by
      cases q0 : H dp with
      | none => rfl
      | some u => rw [n6 dp u q0 npd.symm] at ndp; cases ndp
    -- for one, other in beside
    obtain ⟨vs, hb, hpr⟩ := id R.near
    have lv : vs.length = P.near.length := Paired.length hpr
    refine ⟨.ref b, rfl, b, vs, rfl, iSq_ni hb hp n7 fun J G hG wk => ?_⟩
    rw [lv] at wk
    refine for_it wk (fun i σ H8 => (∃ y7 y8 y9, σ = [some (.ref p), some (.ref a), some (.ref b), some (.ref c), some (.ref e), some (.ref e), y7, y8, y9]) ∧ NI p H H8 ∧ NI p H6 H8 ∧ H8 p = some (.ins C dx (putF "pairs" (.ref dp) (putF "order" (.ref o) []))) ∧ H8 dp = some (.dT (prsK (P.near.take i))))
      ⟨⟨none, none, none, rfl⟩, n7, k67, p7, d7⟩ (fun i σ H8 _ h => hG H8 h.2.1) (fun i x σ H8 H9 hi h y => ?_) fun σ H8 h => ?_
    · obtain ⟨⟨y7, y8, y9, rfl⟩, n8, k8, p8, d8⟩ := h
      obtain ⟨rfl, yx⟩ := y
      have en : P.near[i]? = some P.near[i] := List.getElem?_eq_getElem hi
      obtain ⟨t, rfl, ht⟩ := (paired_get hpr yx en).ni hp n8
      have lz : (prsK (P.near.take i)).length ≤ 128 := by
        have h1 := prs_len (P.near.take i) []
        have h2 := ok.many
        rw [List.length_take] at h1
        have h3 := Nat.min_le_right i P.near.length
        rw [List.length_nil] at h1
        show (List.foldl putB [] _).length ≤ 128
        omega
      refine ⟨t, _, rfl, ht, rfl, _, _, rfl, _, _, rfl, rfl, ?_⟩
      refine ⟨.ref p, rfl, p, C, dx, _, .ref dp, rfl, p8, T.cl, T.nP, rfl, .str P.near[i].1, rfl, .str P.near[i].2, rfl, (by show 2 ≤ sizeLine; decide), fun t1 nt1 => ?_⟩
      have ne1 : dp ≠ t1 := ne_of_none d8 nt1
      refine ⟨dp, _, rfl, DPut.t (k := [.inr P.near[i].1, .inr P.near[i].2]) (by rw [upd_ne ne1]; exact d8) upd_same (Nat.lt_of_le_of_lt lz (by decide)), ?_⟩
      generalize h10 : upd (upd H9 t1 (.tup [.str P.near[i].1, .str P.near[i].2])) dp (.dT (putK (prsK (P.near.take i)) [.inr P.near[i].1, .inr P.near[i].2] (.bl true))) = H10
      have k10 : ∀ b u, H9 b = some u → b ≠ dp → H10 b = some u := fun b u e1 n => by rw [← h10, upd_ne n, upd_ne (ne_of_none e1 nt1)]; exact e1
      have d10 : H10 dp = some (.dT (putK (prsK (P.near.take i)) [.inr P.near[i].1, .inr P.near[i].2] (.bl true))) := by rw [← h10]; exact upd_same
      have p10 := k10 _ _ p8 npd
      refine ⟨.ref p, rfl, p, C, dx, _, .ref dp, rfl, p10, T.cl, T.nP, rfl, .str P.near[i].2, rfl, .str P.near[i].1, rfl, (by show 2 ≤ sizeLine; decide), fun t2 nt2 => ?_⟩
      have ne2 : dp ≠ t2 := ne_of_none d10 nt2
      have lz2 := length_putK (prsK (P.near.take i)) [.inr P.near[i].1, .inr P.near[i].2] (.bl true)
      refine ⟨dp, _, rfl, DPut.t (k := [.inr P.near[i].2, .inr P.near[i].1]) (by rw [upd_ne ne2]; exact d10) upd_same (Nat.lt_of_le_of_lt (show _ ≤ 129 by omega) (by decide)), ?_⟩
      have k12 : ∀ b u, H9 b = some u → b ≠ dp → upd (upd H10 t2 (.tup [.str P.near[i].2, .str P.near[i].1])) dp (.dT (putK (putK (prsK (P.near.take i)) [.inr P.near[i].1, .inr P.near[i].2] (.bl true)) [.inr P.near[i].2, .inr P.near[i].1] (.bl true))) b = some u := fun b u e1 n => by
        have e2 := k10 b u e1 n
        rw [upd_ne n, upd_ne (ne_of_none e2 nt2)]
        exact e2
      refine ⟨⟨_, _, _, rfl⟩, fun b u e1 n => k12 b u (n8 b u e1 n) (ne_of_none e1 hd0), fun b u e1 n => k12 b u (k8 b u e1 n) (ne_of_none e1 ndp), k12 _ _ p8 npd, ?_⟩
      rw [prsK_take en]
      exact upd_same
    · obtain ⟨⟨y7, y8, y9, rfl⟩, n8, k8, p8, d8⟩ := h
      rw [List.take_length] at d8
      have p6' : p ≠ dp := npd
      have o8 : OrdAt K H8 o (P.kinds.map V.str) := by
        refine ⟨SqT.ni o6.sq p6 k8, o6.pl.imp (fun ⟨ob, u, e1, r⟩ => ⟨ob, u, k8 _ _ e1 fun z => ?_, r⟩) id⟩
        rw [z, p6] at e1
        cases e1
      -- self.worth
      have t8 : Tx K H8 a P.kinds := t0.ni hp n8
      refine ⟨.ref a, rfl, a, _, rfl, iSq_of t8 fun J G hG wk dw ndw => ?_⟩
      rw [List.length_map] at wk
      refine dc_f ok.nd wk hG ndw (fun m => wTxt ((Hm.made P).wor m)) (len8 ok.few) (fun i z x Hx Hy ez sx y Nk NB hk => ?_) fun H9 s9 hw => ?_
      · obtain ⟨rfl, yx⟩ := y
        obtain rfl := str_get ez yx
        have hc := dict_ni R.worth hp (n8.to sx)
        refine ⟨rfl, .str z, rfl, .ref c, rfl, c, rfl, .inl ⟨_, .inl hc⟩, .str z, rfl, _, DGet.k (k := Sum.inr z) hc, ?_⟩
        rw [worth_val]
        exact hk _ (Same.refl _)
      have p9 := s9 _ _ p8
      refine ⟨.ref p, rfl, p, C, dx, _, rfl, p9, T.cl, T.nW, (by show 2 < 1000; decide), ?_⟩
      generalize h10 : upd H9 p (.ins C dx (putF "worth" (.ref dw) (putF "pairs" (.ref dp) (putF "order" (.ref o) [])))) = H10
      have p10 : H10 p = some (.ins C dx (putF "worth" (.ref dw) (putF "pairs" (.ref dp) (putF "order" (.ref o) [])))) := by rw [← h10]; exact upd_same
      have k10 : NI p H9 H10 := by rw [← h10]; exact NI.at_ fun b u e1 _ => e1
      have n10 : NI p H H10 := fun b u e1 n => k10 b u (s9 b u (n8 b u e1 n)) n
      -- self.upper
      have t10 : Tx K H10 a P.kinds := t0.ni hp n10
      refine ⟨.ref a, rfl, a, _, rfl, iSq_of t10 fun J G hG wk du ndu => ?_⟩
      rw [List.length_map] at wk
      refine dc_f ok.nd wk hG ndu (fun m => (Hm.made P).upp m) (len8 ok.few) (fun i z x Hx Hy ez sx y Nk NB hk => ?_) fun H11 s11 hw2 => ?_
      · obtain ⟨rfl, yx⟩ := y
        obtain rfl := str_get ez yx
        have hc := dict_ni R.upper hp (n10.to sx)
        refine ⟨rfl, .str z, rfl, .ref e, rfl, e, rfl, .inl ⟨_, .inl hc⟩, .str z, rfl, .str z, rfl, _, DGet.k (k := Sum.inr z) hc, ?_⟩
        rw [upper_val]
        exact hk _ (Same.refl _)
      have p11 := s11 _ _ p10
      refine ⟨.ref p, rfl, p, C, dx, _, rfl, p11, T.cl, T.nU, (by show 3 < 1000; decide), ?_⟩
      refine ⟨.ref p, rfl, p, C, dx, _, rfl, upd_same, T.cl, T.nJ, (by show 4 < 1000; decide), ?_⟩
      generalize h13 : upd (upd H11 p _) p _ = H13
      have p13 : H13 p = some (.ins C dx (tf o dp dw du .non)) := by rw [← h13, ← tf_put]; exact upd_same
      have k13 : NI p H11 H13 := by rw [← h13]; exact NI.at_ (NI.at_ fun b u e1 _ => e1)
      have k813 : NI p H8 H13 := fun b u e1 n => k13 b u (s11 b u (k10 b u (s9 b u e1) n)) n
      have ne : ∀ {b : Addr} {u : HO}, H9 b = some u → (∀ fs, u ≠ .ins C dx fs) → b ≠ p := fun e1 n z => by
        rw [z, p9] at e1
        cases e1
        exact n _ rfl
      refine q H13 o dp dw du (fun b u e1 n => k813 b u (n8 b u e1 n) n) ⟨p13, ?_, k813 _ _ d8 npd.symm, ?_, ?_⟩
      · refine ⟨SqT.ni o8.sq p8 k813, o8.pl.imp (fun ⟨ob, u, e1, r⟩ => ⟨ob, u, k813 _ _ e1 fun z => ?_, r⟩) id⟩
        rw [z, p8] at e1
        cases e1
      · have nw := ne hw (fun fs z => nomatch z)
        exact k13 _ _ (s11 _ _ (k10 _ _ hw nw)) nw
      · have nu : du ≠ p := fun z => by
          rw [z, p11] at hw2
          cases hw2
        exact k13 _ _ hw2 nu
end

end Ho
set_option Elab.async false
set_option linter.all false
set_option maxRecDepth 100000
set_option maxHeartbeats 4000000
/-! need, beside, gives, above, bears, quarrel. -/
namespace Ho
open PySem PySem.Spec PyProof.Rows L2
section
variable {P : Program} {w : World} {K : PySem.W.Frag} {mg : Str → Option Value} {base : Heap}
/-! ### need -/
abbrev sNeed : Stmt := inClass (topS 21) 2
theorem tf_o {o dp dw du : Addr} {j : V} : (tf o dp dw du j).lookup ("order" : Str) = some (.ref o) := by rfl
theorem tf_p {o dp dw du : Addr} {j : V} : (tf o dp dw du j).lookup ("pairs" : Str) = some (.ref dp) := by rfl
theorem tf_w {o dp dw du : Addr} {j : V} : (tf o dp dw du j).lookup ("worth" : Str) = some (.ref dw) := by rfl
theorem tf_u {o dp dw du : Addr} {j : V} : (tf o dp dw du j).lookup ("upper" : Str) = some (.ref du) := by rfl
theorem tf_j {o dp dw du : Addr} {j : V} : (tf o dp dw du j).lookup ("judged" : Str) = some j := by rfl
theorem tf_no {o dp dw du : Addr} {j : V} {m : Str} (h : (["order", "pairs", "worth", "upper", "judged"] : List Str).contains m = false) : (tf o dp dw du j).lookup m = none := by
  unfold tf
  simp only [List.contains_cons, Bool.or_eq_false_iff] at h
  obtain ⟨h1, h2, h3, h4, h5, _⟩ := h
  simp [List.lookup, h1, h2, h3, h4, h5]
theorem scNeed : FnScope ["self", "mode"] ["self", "mode"] (defScope sNeed) := ⟨rfl, rfl, rfl, by decide +kernel, rfl, by decide +kernel, by decide +kernel⟩
def spNeed (K : PySem.W.Frag) (C : Addr) : Sp := fun vs H Q _ => ∃ (p : Addr) (z : Str) (P : Hm.Pl Str), vs = [.ref p, .str z] ∧ Tbl K C H p P ∧ z ∈ P.kinds ∧ ∀ H', Same H H' → Q .non H'
theorem ok_need {f C fM : Addr} {fd fdM : FuncData} (F : Fun K "need" "Table.need" sNeed f fd) (T : Tt K mg C) (FM : Fun K "is_mode" "is_mode" sMode fM fdM) (bM : Binds K fdM ["thing", "modes"] []) (gM : mg "is_mode" = some (.ref fM)) (GM : FnOk P w K mg base CX0 1 fM fdM ["thing", "modes"] (spMode K)) :
    FnOk P w K mg base CX0 2 f fd ["self", "mode"] (spNeed K C) := by
  refine F.ok scNeed (fun vs H Q E h => ?_) (fun cdv A outer s H vs Q E hr h => ?_)
  · obtain ⟨p, z, P, rfl, _⟩ := h
    rfl
  · obtain ⟨p, z, P, rfl, ⟨dx, o, dp, dw, du, j, t⟩, hz, q⟩ := h
    refine ⟨_, (pss_one (ps_if (pt_not (pt_val (pe_call GM hr (by rfl) gM FM.kp bM .nil pass0 (pa_cons (pv 1) (pa_cons (fldK K (pv 0) rfl) pa_nil))))) (pss_one ps_never) pss_nil)), ?_⟩
    exact ⟨.str z, rfl, .ref p, rfl, p, C, dx, _, _, rfl, t.ob, T.cl, T.nO, tf_o, z, o, P.kinds, rfl, .inr t.or_.sq, hz, fun H1 s1 => ⟨true, rfl, iteF (q H1 s1)⟩⟩
/-! ### beside -/
abbrev sBeside : Stmt := inClass (topS 21) 3
theorem scBeside : FnScope ["self", "one", "other"] ["self", "one", "other"] (defScope sBeside) := ⟨rfl, rfl, rfl, by decide +kernel, rfl, by decide +kernel, by decide +kernel⟩
def spBeside (K : PySem.W.Frag) (C : Addr) : Sp := fun vs H Q _ => ∃ (p : Addr) (a b : Str) (P : Hm.Pl Str), vs = [.ref p, .str a, .str b] ∧ Tbl K C H p P ∧ a ∈ P.kinds ∧ b ∈ P.kinds ∧ ∀ H', Same H H' → Q (.bl ((Hm.made P).bes a b)) H'
theorem ok_beside {f C fN : Addr} {fd fdN : FuncData} (F : Fun K "beside" "Table.beside" sBeside f fd) (T : Tt K mg C) (FN : Fun K "need" "Table.need" sNeed fN fdN) (bN : Binds K fdN ["self", "mode"] []) (mN : Meth K C "need" fN) (GN : FnOk P w K mg base CX0 2 fN fdN ["self", "mode"] (spNeed K C)) :
    FnOk P w K mg base CX0 3 f fd ["self", "one", "other"] (spBeside K C) := by
  refine F.ok scBeside (fun vs H Q E h => ?_) (fun cdv A outer s H vs Q E hr h => ?_)
  · obtain ⟨p, a, b, P, rfl, _⟩ := h
    rfl
  · obtain ⟨p, a, b, P, rfl, ht, ha, hb, q⟩ := h
    obtain ⟨dx, o, dp, dw, du, j, t⟩ := id ht
    refine ⟨_, (pss_cons (ps_expr (pe_meth (pv 0) T.cl mN GN hr bN .nil pass0 (pa_cons (pv 1) pa_nil))) (pss_cons (ps_expr (pe_meth (pv 0) T.cl mN GN hr bN .nil pass0 (pa_cons (pv 2) pa_nil))) (pss_one (ps_ret (pe_cmp (pc_din (hu_of hr) (pe_tup (pa_cons (pv 1) (pa_cons (pv 2) pa_nil))) (fldK K (pv 0) rfl)) rfl))))), ?_⟩
    refine ⟨.ref p, rfl, p, dx, _, rfl, t.ob, tf_no rfl, .str a, rfl, p, a, P, rfl, ht, ha, fun H1 s1 => ?_⟩
    have t1 := t.same s1
    refine ⟨.ref p, rfl, p, dx, _, rfl, t1.ob, tf_no rfl, .str b, rfl, p, b, P, rfl, ht.same s1, hb, fun H2 s2 => ?_⟩
    have t2 := t1.same s2
    refine ⟨.str a, rfl, .str b, rfl, (by show 2 ≤ sizeLine; decide), fun k nk => ?_⟩
    have s3 : Same H2 (upd H2 k (.tup [.str a, .str b])) := same_new nk
    refine ⟨.ref p, rfl, p, C, dx, _, _, rfl, s3 _ _ t2.ob, T.cl, T.nP, tf_p, dp, _, rfl, DGet.t (k := [.inr a, .inr b]) (s3 _ _ t2.pr) upd_same, ?_⟩
    rw [prs_bes]
    exact q _ ((s1.trans s2).trans s3)
/-! ### gives -/
abbrev sGives : Stmt := inClass (topS 21) 4
theorem scGives : FnScope ["self", "mode"] ["self", "mode"] (defScope sGives) := ⟨rfl, rfl, rfl, by decide +kernel, rfl, by decide +kernel, by decide +kernel⟩
def spGives (K : PySem.W.Frag) (C : Addr) : Sp := fun vs H Q _ => ∃ (p : Addr) (a : Str) (P : Hm.Pl Str), vs = [.ref p, .str a] ∧ Tbl K C H p P ∧ a ∈ P.kinds ∧ ∀ H', Same H H' → Q (.str (wTxt ((Hm.made P).wor a))) H'
theorem ok_gives {f C fN : Addr} {fd fdN : FuncData} (F : Fun K "gives" "Table.gives" sGives f fd) (T : Tt K mg C) (FN : Fun K "need" "Table.need" sNeed fN fdN) (bN : Binds K fdN ["self", "mode"] []) (mN : Meth K C "need" fN) (GN : FnOk P w K mg base CX0 2 fN fdN ["self", "mode"] (spNeed K C)) :
    FnOk P w K mg base CX0 3 f fd ["self", "mode"] (spGives K C) := by
  refine F.ok scGives (fun vs H Q E h => ?_) (fun cdv A outer s H vs Q E hr h => ?_)
  · obtain ⟨p, a, P, rfl, _⟩ := h
    rfl
  · obtain ⟨p, a, P, rfl, ht, ha, q⟩ := h
    obtain ⟨dx, o, dp, dw, du, j, t⟩ := id ht
    refine ⟨_, (pss_cons (ps_expr (pe_meth (pv 0) T.cl mN GN hr bN .nil pass0 (pa_cons (pv 1) pa_nil))) (pss_one (ps_ret (pe_dget (hu_of hr) (fldK K (pv 0) rfl) (pv 1) (fun _ _ => rfl))))), ?_⟩
    refine ⟨.ref p, rfl, p, dx, _, rfl, t.ob, tf_no rfl, .str a, rfl, p, a, P, rfl, ht, ha, fun H1 s1 => ?_⟩
    have t1 := t.same s1
    refine ⟨.ref p, rfl, p, C, dx, _, _, rfl, t1.ob, T.cl, T.nW, tf_w, .str a, rfl, dw, .str (wTxt ((Hm.made P).wor a)), rfl, ?_, q _ s1⟩
    rw [← wL_val ha]
    exact DGet.k (k := Sum.inr a) t1.wo
/-! ### above -/
abbrev sAbove : Stmt := inClass (topS 21) 5
theorem scAbove : FnScope ["self", "mode"] ["self", "mode"] (defScope sAbove) := ⟨rfl, rfl, rfl, by decide +kernel, rfl, by decide +kernel, by decide +kernel⟩
def spAbove (K : PySem.W.Frag) (C : Addr) : Sp := fun vs H Q _ => ∃ (p : Addr) (a : Str) (P : Hm.Pl Str), vs = [.ref p, .str a] ∧ Tbl K C H p P ∧ a ∈ P.kinds ∧ ∀ H', Same H H' → Q (.str ((Hm.made P).upp a)) H'
theorem ok_above {f C fN : Addr} {fd fdN : FuncData} (F : Fun K "above" "Table.above" sAbove f fd) (T : Tt K mg C) (FN : Fun K "need" "Table.need" sNeed fN fdN) (bN : Binds K fdN ["self", "mode"] []) (mN : Meth K C "need" fN) (GN : FnOk P w K mg base CX0 2 fN fdN ["self", "mode"] (spNeed K C)) :
    FnOk P w K mg base CX0 3 f fd ["self", "mode"] (spAbove K C) := by
  refine F.ok scAbove (fun vs H Q E h => ?_) (fun cdv A outer s H vs Q E hr h => ?_)
  · obtain ⟨p, a, P, rfl, _⟩ := h
    rfl
  · obtain ⟨p, a, P, rfl, ht, ha, q⟩ := h
    obtain ⟨dx, o, dp, dw, du, j, t⟩ := id ht
    refine ⟨_, (pss_cons (ps_expr (pe_meth (pv 0) T.cl mN GN hr bN .nil pass0 (pa_cons (pv 1) pa_nil))) (pss_one (ps_ret (pe_dget (hu_of hr) (fldK K (pv 0) rfl) (pv 1) (fun _ _ => rfl))))), ?_⟩
    refine ⟨.ref p, rfl, p, dx, _, rfl, t.ob, tf_no rfl, .str a, rfl, p, a, P, rfl, ht, ha, fun H1 s1 => ?_⟩
    have t1 := t.same s1
    refine ⟨.ref p, rfl, p, C, dx, _, _, rfl, t1.ob, T.cl, T.nU, tf_u, .str a, rfl, du, .str ((Hm.made P).upp a), rfl, ?_, q _ s1⟩
    rw [← uL_val ha]
    exact DGet.k (k := Sum.inr a) t1.up
/-! ### bears -/
abbrev sBears : Stmt := inClass (topS 21) 6
theorem wtx_at {n : Nat} (h : n ≤ 2) : worths[n]? = some (wTxt n) ∧ ∀ m, m < n → worths[m]? ≠ some (wTxt n) := by
  match n, h with
  | 0, _ => exact ⟨rfl, fun m hm => absurd hm (Nat.not_lt_zero _)⟩
  | 1, _ =>
    refine ⟨rfl, fun m hm => ?_⟩
    obtain rfl : m = 0 := by omega
    decide
  | 2, _ =>
    refine ⟨rfl, fun m hm => ?_⟩
    have : m = 0 ∨ m = 1 := by omega
    rcases this with rfl | rfl <;> decide
theorem tyv_k {K : PySem.W.Frag} {mg : Str → Option Value} {aW : Addr} (W : Wor K mg aW) (H : Hp) : tyV K "tuple" (.ref aW) H := by
  obtain ⟨o, t0, t1, t2, n, e1, e2, e3, e4⟩ := W.at_
  exact .inr (.inl ⟨rfl, o, e1, e2, e3⟩)
theorem scBears : FnScope ["self", "one", "other", "mode"] ["self", "one", "other"] (defScope sBears) := ⟨rfl, rfl, rfl, by decide +kernel, rfl, by decide +kernel, by decide +kernel⟩
def spBears (K : PySem.W.Frag) (C : Addr) : Sp := fun vs H Q _ => ∃ (p : Addr) (a b : Str) (P : Hm.Pl Str), vs = [.ref p, .str a, .str b] ∧ Tbl K C H p P ∧ Hm.PlOk P 64 ∧ a ∈ P.kinds ∧ b ∈ P.kinds ∧ ∀ H', Same H H' → Q (.bl (Hm.bears (Hm.made P) a b)) H'
theorem ok_bears {f C aW fN : Addr} {fd fdN : FuncData} (F : Fun K "bears" "Table.bears" sBears f fd) (B : Blt mg) (T : Tt K mg C) (W : Wor K mg aW) (FN : Fun K "need" "Table.need" sNeed fN fdN) (bN : Binds K fdN ["self", "mode"] []) (mN : Meth K C "need" fN) (GN : FnOk P w K mg base CX0 2 fN fdN ["self", "mode"] (spNeed K C)) :
    FnOk P w K mg base CX0 3 f fd ["self", "one", "other"] (spBears K C) := by
  refine F.ok scBears (fun vs H Q E h => ?_) (fun cdv A outer s H vs Q E hr h => ?_)
  · obtain ⟨p, a, b, P, rfl, _⟩ := h
    rfl
  · obtain ⟨p, a, b, P, rfl, ht, ok, ha, hb, q⟩ := h
    obtain ⟨dx, o, dp, dw, du, j, t⟩ := id ht
    refine ⟨_, (pss_cons (ps_expr (pe_meth (pv 0) T.cl mN GN hr bN .nil pass0 (pa_cons (pv 1) pa_nil))) (pss_cons (ps_expr (pe_meth (pv 0) T.cl mN GN hr bN .nil pass0 (pa_cons (pv 2) pa_nil))) (pss_cons (ps_if (pt_cmpR op_lt (pe_bm PySem.F.plainAttrs_tuple PySem.F.slot_tuple_index PySem.F.type_tuple_index mt_tup_index (pe_glob (v := .ref aW) rfl W.mgW rfl) (pa_cons (pe_dget (hu_of hr) (fldK K (pv 0) rfl) (pv 1) (fun _ _ => rfl)) pa_nil)) (pe_bm PySem.F.plainAttrs_tuple PySem.F.slot_tuple_index PySem.F.type_tuple_index mt_tup_index (pe_glob (v := .ref aW) rfl W.mgW rfl) (pa_cons (pe_dget (hu_of hr) (fldK K (pv 0) rfl) (pv 2) (fun _ _ => rfl)) pa_nil)) (nomark _)) (pss_one (ps_ret pe_bl)) pss_nil) (pss_one (ps_ret (pe_callB (id := "all") (cr_all rfl) (by rfl) B.all (by decide +kernel) (pa_cons (pe_lc (own := [("mode", 3)]) (g := gName 3) rfl scBears.nd (pi_sq (fldK K (pv 0) rfl)) (blkOk_by (own := [("mode", 3)]) (N := ["self", "one", "other", "mode"]) (sc := defScope sBears) (by decide +kernel)) (fun _ _ _ _ _ => (pg_name (i := 3) scBears.nd rfl (Or.inl rfl))) (fun _ _ _ _ _ => (pts_one (pt_cmp (pc_din (hu_of hr) (pe_tup (pa_cons (pv 1) (pa_cons (pv 3) pa_nil))) (fldK K (pv 0) rfl))))) (fun _ _ _ _ _ => (pe_cmp (pc_din (hu_of hr) (pe_tup (pa_cons (pv 2) (pa_cons (pv 3) pa_nil))) (fldK K (pv 0) rfl)) rfl))) pa_nil))))))), ?_⟩
    refine ⟨.ref p, rfl, p, dx, _, rfl, t.ob, tf_no rfl, .str a, rfl, p, a, P, rfl, ht, ha, fun H1 s1 => ?_⟩
    have t1 := t.same s1
    refine ⟨.ref p, rfl, p, dx, _, rfl, t1.ob, tf_no rfl, .str b, rfl, p, b, P, rfl, ht.same s1, hb, fun H2 s2 => ?_⟩
    have t2 := t1.same s2
    have wa : DGet H2 dw (.str a) (some (.str (wTxt ((Hm.made P).wor a)))) := by
      rw [← wL_val ha]
      exact DGet.k (k := Sum.inr a) t2.wo
    have wb : DGet H2 dw (.str b) (some (.str (wTxt ((Hm.made P).wor b)))) := by
      rw [← wL_val hb]
      exact DGet.k (k := Sum.inr b) t2.wo
    obtain ⟨a1, a2⟩ := wtx_at (Hm.made_wor ok a)
    obtain ⟨b1, b2⟩ := wtx_at (Hm.made_wor ok b)
    refine ⟨tyv_k W H2, .ref p, rfl, p, C, dx, _, _, rfl, t2.ob, T.cl, T.nW, tf_w, .str a, rfl, dw, _, rfl, wa, aW, worths, _, (Hm.made P).wor a, rfl, rfl, (W.ord H2).sq, a1, a2, ?_⟩
    refine ⟨tyv_k W H2, .ref p, rfl, p, C, dx, _, _, rfl, t2.ob, T.cl, T.nW, tf_w, .str b, rfl, dw, _, rfl, wb, aW, worths, _, (Hm.made P).wor b, rfl, rfl, (W.ord H2).sq, b1, b2, ?_⟩
    refine ⟨_, _, rfl, rfl, _, rfl, ?_⟩
    by_cases hlt : (Hm.made P).wor a < (Hm.made P).wor b
    · rw [decide_eq_true (by omega)]
      refine iteT ?_
      have e : Hm.bears (Hm.made P) a b = false := by
        unfold Hm.bears
        rw [if_pos hlt]
      have := q H2 (s1.trans s2)
      rw [e] at this
      exact this
    · rw [decide_eq_false (by omega)]
      refine iteF ?_
      refine ⟨.ref p, rfl, p, C, dx, _, _, rfl, t2.ob, T.cl, T.nO, tf_o, o, _, rfl, iSq_of (.inr t2.or_.sq) fun J G hG wk D nD => ?_⟩
      rw [List.length_map] at wk
      refine lc_f (xs := P.kinds) wk hG nD (fun m => (Hm.made P).bes a m) (fun m => (Hm.made P).bes b m) RBl steady_bl (len8 ok.few) (fun i z x H3 H4 e s3 y Ny Nn hy hn => ?_) fun H3 acc s3 hD hp => ?_
      · obtain ⟨rfl, yx⟩ := y
        obtain rfl := str_get e yx
        have t3 := t2.same s3
        refine ⟨rfl, .str a, rfl, .str z, rfl, (by show 2 ≤ sizeLine; decide), fun k nk => ?_⟩
        have s4 : Same H4 (upd H4 k (.tup [.str a, .str z])) := same_new nk
        refine ⟨.ref p, rfl, p, C, dx, _, _, rfl, s4 _ _ t3.ob, T.cl, T.nP, tf_p, dp, _, rfl, DGet.t (k := [.inr a, .inr z]) (s4 _ _ t3.pr) upd_same, _, rfl, ?_⟩
        rw [prs_bes]
        cases eb : (Hm.made P).bes a z with
        | false => exact iteF (hn eb _ s4)
        | true =>
          refine iteT ⟨.str b, rfl, .str z, rfl, (by show 2 ≤ sizeLine; decide), fun k2 nk2 => ?_⟩
          have s5 := same_new (o := .tup [.str b, .str z]) nk2
          refine ⟨.ref p, rfl, p, C, dx, _, _, rfl, s5 _ _ (s4 _ _ t3.ob), T.cl, T.nP, tf_p, dp, _, rfl, DGet.t (k := [.inr b, .inr z]) (s5 _ _ (s4 _ _ t3.pr)) upd_same, ?_⟩
          rw [prs_bes]
          exact hy eb _ _ (s4.trans s5) rfl
      · rw [bls_of hp] at hD
        refine ⟨D, _, rfl, .inl (.inl hD), ?_⟩
        have e : Hm.bears (Hm.made P) a b = (((P.kinds.filter fun m => (Hm.made P).bes a m).map fun m => (Hm.made P).bes b m).all id) := by
          unfold Hm.bears
          rw [if_neg hlt, List.all_map]
          rfl
        rw [← e]
        exact q _ ((s1.trans s2).trans s3)
/-! ### quarrel -/
abbrev sQuarrel : Stmt := inClass (topS 21) 8
theorem wtx_q {m n : Nat} (h : m ≤ 2) (h' : n ≤ 2) : (!inV (.str "") [.str (wTxt m), .str (wTxt n)]) = ((!(m == 0)) && !(n == 0)) ∧ inV (.str "change") [.str (wTxt m), .str (wTxt n)] = (m == 2 || n == 2) := by
  have hm : m = 0 ∨ m = 1 ∨ m = 2 := by omega
  have hn : n = 0 ∨ n = 1 ∨ n = 2 := by omega
  rcases hm with rfl | rfl | rfl <;> rcases hn with rfl | rfl | rfl <;> exact ⟨by decide +kernel, by decide +kernel⟩
theorem scQuarrel : FnScope ["self", "one", "other", "both"] ["self", "one", "other"] (defScope sQuarrel) := ⟨rfl, rfl, rfl, by decide +kernel, rfl, by decide +kernel, by decide +kernel⟩
def spQuarrel (K : PySem.W.Frag) (C : Addr) : Sp := fun vs H Q _ => ∃ (p : Addr) (a b : Str) (P : Hm.Pl Str), vs = [.ref p, .str a, .str b] ∧ Tbl K C H p P ∧ Hm.PlOk P 64 ∧ a ∈ P.kinds ∧ b ∈ P.kinds ∧ ∀ H', Same H H' → Q (.bl (Hm.quarrel (Hm.made P) a b)) H'
theorem ok_quarrel {f C : Addr} {fd : FuncData} (F : Fun K "quarrel" "Table.quarrel" sQuarrel f fd) (T : Tt K mg C) :
    FnOk P w K mg base CX0 1 f fd ["self", "one", "other"] (spQuarrel K C) := by
  refine F.ok scQuarrel (fun vs H Q E h => ?_) (fun cdv A outer s H vs Q E hr h => ?_)
  · obtain ⟨p, a, b, P, rfl, _⟩ := h
    rfl
  · obtain ⟨p, a, b, P, rfl, ht, ok, ha, hb, q⟩ := h
    obtain ⟨dx, o, dp, dw, du, j, t⟩ := id ht
    have wa : DGet H dw (.str a) (some (.str (wTxt ((Hm.made P).wor a)))) := by
      rw [← wL_val ha]
      exact DGet.k (k := Sum.inr a) t.wo
    have wb : DGet H dw (.str b) (some (.str (wTxt ((Hm.made P).wor b)))) := by
      rw [← wL_val hb]
      exact DGet.k (k := Sum.inr b) t.wo
    obtain ⟨e1, e2⟩ := wtx_q (Hm.made_wor ok a) (Hm.made_wor ok b)
    refine ⟨_, (pss_cons (ps_set (i := 3) scQuarrel.nd rfl (Or.inl rfl) (pe_tup (pa_cons (pe_dget (hu_of hr) (fldK K (pv 0) rfl) (pv 1) (fun _ _ => rfl)) (pa_cons (pe_dget (hu_of hr) (fldK K (pv 0) rfl) (pv 2) (fun _ _ => rfl)) pa_nil)))) (pss_one (ps_ret (pe_and (pe_cmpR (o_notIn K) pe_str (pv 3) rfl) (pe_one (pe_cmpR (o_in K) pe_str (pv 3) rfl)))))), ?_⟩
    refine ⟨.ref p, rfl, p, C, dx, _, _, rfl, t.ob, T.cl, T.nW, tf_w, .str a, rfl, dw, _, rfl, wa, .ref p, rfl, p, C, dx, _, _, rfl, t.ob, T.cl, T.nW, tf_w, .str b, rfl, dw, _, rfl, wb, (by show 2 ≤ sizeLine; decide), fun k nk => ?_⟩
    have s1 := same_new (o := .tup [.str (wTxt ((Hm.made P).wor a)), .str (wTxt ((Hm.made P).wor b))]) nk
    refine ⟨.ref k, rfl, k, _, rfl, .inr (.inl (.inl upd_same)), rfl, rfl, ?_⟩
    rw [if_pos rfl, e1]
    refine ⟨_, rfl, ?_⟩
    have eq : Hm.quarrel (Hm.made P) a b = (((!((Hm.made P).wor a == 0)) && !((Hm.made P).wor b == 0)) && ((Hm.made P).wor a == 2 || (Hm.made P).wor b == 2)) := rfl
    cases ec : (!((Hm.made P).wor a == 0)) && !((Hm.made P).wor b == 0) with
    | false =>
      refine iteF ?_
      rw [ec, Bool.false_and] at eq
      rw [← eq]
      exact q _ s1
    | true =>
      refine iteT ⟨.ref k, rfl, k, _, rfl, .inr (.inl (.inl upd_same)), rfl, rfl, ?_⟩
      rw [if_neg Bool.false_ne_true, e2]
      rw [ec, Bool.true_and] at eq
      rw [← eq]
      exact q _ s1
end

end Ho
set_option Elab.async false
set_option linter.all false
set_option maxRecDepth 100000
set_option maxHeartbeats 4000000
/-! joined, is_over. -/
namespace Ho
open PySem PySem.Spec PyProof.Rows L2
theorem c_all {X : Cx} (K : PySem.W.Frag) (hc : X.calm = true := by rfl) (h : X.K = K := by rfl) : CallR X (.builtin "all") (rAll K) := by
  subst h
  exact cr_all hc
theorem piK {X : Cx} (K : PySem.W.Frag) {tg l : Expr} {tl : TE} (hl : PE X l tl) (h : X.K = K := by rfl) : PI X tg l (iSq K tl) := by
  subst h
  exact pi_sq hl
/-! ### data: texts, tuples of texts -/
abbrev dS (l : List Str) : List PyData := l.map PyData.str
theorem nm_ok {z : Str} (h : Nm z) : PyData.strOk z = true := by
  unfold PyData.strOk
  rw [← Array.all_toList, List.all_eq_true]
  intro c hc
  have h1 := h.let_ c hc
  have h2 : letters.cps.toList.all (· < 0x110000) = true := by decide +kernel
  exact List.all_eq_true.mp h2 c h1
theorem lay_strs : ∀ l : List Str, (∀ z ∈ l, Nm z) → PyData.canLayAll0 (dS l) = true
  | [], _ => rfl
  | z :: r, hn => by
    have h := lay_strs r fun y hy => hn y (List.mem_cons_of_mem _ hy)
    simp only [dS, List.map_cons, PyData.canLayAll0, PyData.canLay0]
    rw [nm_ok (hn z List.mem_cons_self), Bool.true_and]
    exact h
theorem depth_strs : ∀ l : List Str, PyData.depthAll (dS l) = 0
  | [] => rfl
  | _ :: r => by
    have h := depth_strs r
    simp only [dS, List.map_cons, PyData.depthAll, PyData.depth]
    simp only [dS] at h
    omega
theorem sh_strs (l : List Str) (hn : ∀ z ∈ l, Nm z) : SeqAt.shaped (.list (dS l)) = true := by
  have h1 := lay_strs l hn
  have h2 := depth_strs l
  simp [SeqAt.shaped, PyData.canLay0, PyData.depth, h1, h2]
theorem sh_tup (l : List Str) (hn : ∀ z ∈ l, Nm z) : SeqAt.shaped (.tuple (dS l)) = true := by
  have h1 := lay_strs l hn
  have h2 := depth_strs l
  simp [SeqAt.shaped, PyData.canLay0, PyData.depth, h1, h2]
abbrev dTs (ls : List (List Str)) : List PyData := ls.map fun l => .tuple (dS l)
theorem lay_tups : ∀ ls : List (List Str), (∀ l ∈ ls, ∀ z ∈ l, Nm z) → PyData.canLayAll0 (dTs ls) = true
  | [], _ => rfl
  | l :: r, hn => by
    have h := lay_tups r fun y hy => hn y (List.mem_cons_of_mem _ hy)
    have h1 := lay_strs l (hn l List.mem_cons_self)
    simp only [dTs, List.map_cons, PyData.canLayAll0, PyData.canLay0]
    rw [h1, Bool.true_and]
    exact h
theorem depth_tups : ∀ ls : List (List Str), PyData.depthAll (dTs ls) ≤ 1
  | [] => Nat.zero_le _
  | l :: r => by
    have h := depth_tups r
    have h2 := depth_strs l
    simp only [dTs, List.map_cons, PyData.depthAll, PyData.depth, h2]
    simp only [dTs] at h
    omega
theorem sh_tups (ls : List (List Str)) (hn : ∀ l ∈ ls, ∀ z ∈ l, Nm z) : SeqAt.shaped (.list (dTs ls)) = true := by
  have h1 := lay_tups ls hn
  have h2 := depth_tups ls
  have h3 : PyData.depth (.list (dTs ls)) ≤ 64 := by
    simp only [PyData.depth]
    omega
  show (PyData.canLay0 (.list (dTs ls)) && decide (PyData.depth (.list (dTs ls)) ≤ 64)) = true
  rw [Bool.and_eq_true]
  exact ⟨by simp only [PyData.canLay0]; exact h1, decide_eq_true h3⟩
theorem eqv_strs : ∀ l m : List Str, PyData.eqvAll (dS l) (dS m) = decide (l = m)
  | [], [] => by simp [PyData.eqvAll]
  | [], _ :: _ => by simp [PyData.eqvAll]
  | _ :: _, [] => by simp [PyData.eqvAll]
  | a :: r, b :: t => by
    have h := eqv_strs r t
    simp only [dS, List.map_cons, PyData.eqvAll, PyData.eqv] at h ⊢
    rw [h]
    by_cases e : a = b <;> by_cases e' : r = t <;> simp [e, e']
theorem eqv_tup (l m : List Str) : PyData.eqv (.tuple (dS l)) (.tuple (dS m)) = decide (l = m) := by
  rw [PyData.eqv]
  exact eqv_strs l m
theorem eqv_nil (ds : List PyData) : PyData.eqv (.list ds) (.list []) = ds.isEmpty := by
  cases ds <;> simp [PyData.eqv, PyData.eqvAll]
theorem dp_strs {K : PySem.W.Frag} {H : Hp} : ∀ l : List Str, DpAll K H (l.map V.str) (dS l)
  | [] => .nil
  | a :: r => .cons (.str a) (dp_strs r)
/-- a tuple of texts -/
def RTup (K : PySem.W.Frag) : Hp → V → List Str → Prop := fun H v l => ∃ t, v = .ref t ∧ SqT K H t (l.map V.str)
theorem steady_tup {K : PySem.W.Frag} : Steady (RTup K) := fun _ _ _ _ e ⟨t, h1, h2⟩ => ⟨t, h1, SqT.nl h2 e⟩
theorem dp_tups {K : PySem.W.Frag} {H : Hp} : ∀ {vs : List V} {ls : List (List Str)}, Paired (RTup K H) vs ls → DpAll K H vs (dTs ls)
  | _, _, .nil => .nil
  | _, _, .cons ⟨t, e, h⟩ r => by
    subst e
    exact .cons (.tup h (dp_strs _)) (dp_tups r)
theorem tups_of {K : PySem.W.Frag} {H : Hp} : ∀ {vs : List V} {l : List (Str × Str)}, Paired (TPair K H) vs l → Paired (RTup K H) vs (l.map fun p => [p.1, p.2])
  | _, _, .nil => .nil
  | _, _, .cons h r => .cons h (tups_of r)
def oV : Option Str → V
  | none => .non
  | some z => .str z
section
variable {P : Program} {w : World} {K : PySem.W.Frag} {mg : Str → Option Value} {base : Heap}
/-! ### joined -/
abbrev sJoined : Stmt := inClass (topS 21) 7
/-- the scope of the comprehension that a statement stores -/
def lcSc : Stmt → Scope
  | .Assign _ (.ListComp _ _ sc _) _ => sc
  | _ => defScope sJoined
abbrev scLeast : Scope := lcSc ((defBody sJoined).getD 3 (.Pass ⟨0, 0, 0, 0⟩))
theorem scJoined : FnScope ["self", "one", "other", "both", "least", "mode", "more"] ["self", "one", "other"] (defScope sJoined) := ⟨rfl, rfl, rfl, by decide +kernel, rfl, by decide +kernel, by decide +kernel⟩
def spJoined (K : PySem.W.Frag) (C : Addr) : Sp := fun vs H Q _ => ∃ (p : Addr) (a b : Str) (P : Hm.Pl Str), vs = [.ref p, .str a, .str b] ∧ Tbl K C H p P ∧ Hm.PlOk P 64 ∧ (∀ z ∈ P.kinds, Nm z) ∧ a ∈ P.kinds ∧ b ∈ P.kinds ∧ ∀ H', Same H H' → Q (oV (Hm.joined (Hm.made P) a b)) H'
theorem ok_joined {f C fB : Addr} {fd fdB : FuncData} (F : Fun K "joined" "Table.joined" sJoined f fd) (B : Blt mg) (T : Tt K mg C) (FB : Fun K "bears" "Table.bears" sBears fB fdB) (bB : Binds K fdB ["self", "one", "other"] []) (mB : Meth K C "bears" fB) (GB : FnOk P w K mg base CX0 3 fB fdB ["self", "one", "other"] (spBears K C)) :
    FnOk P w K mg base CX0 4 f fd ["self", "one", "other"] (spJoined K C) := by
  refine F.ok scJoined (fun vs H Q E h => ?_) (fun cdv A outer s H vs Q E hr h => ?_)
  · obtain ⟨p, a, b, P, rfl, _⟩ := h
    rfl
  · obtain ⟨p, a, b, P, rfl, ht, ok, hN, ha, hb, q⟩ := h
    obtain ⟨dx, o, dp, dw, du, j, t⟩ := id ht
    have bs : ∀ {H1 : Hp}, Same H H1 → Tbl K C H1 p P := fun s => ht.same s
    refine ⟨_, (pss_cons (ps_if (pt_val (pe_meth (pv 0) T.cl mB GB hr bB .nil pass0 (pa_cons (pv 1) (pa_cons (pv 2) pa_nil)))) (pss_one (ps_ret (pv 1))) pss_nil) (pss_cons (ps_if (pt_val (pe_meth (pv 0) T.cl mB GB hr bB .nil pass0 (pa_cons (pv 2) (pa_cons (pv 1) pa_nil)))) (pss_one (ps_ret (pv 2))) pss_nil) (pss_cons (ps_set (i := 3) scJoined.nd rfl (Or.inr rfl) (pe_lc (own := [("mode", 5)]) (g := gName 5) rfl scJoined.nd (piK K (fldK K (pv 0) rfl)) (blkOk_by (own := [("mode", 5)]) (N := ["self", "one", "other", "both", "least", "mode", "more"]) (sc := defScope sJoined) (by decide +kernel)) (fun _ _ _ _ _ => (pg_name (i := 5) scJoined.nd rfl (Or.inl rfl))) (fun _ _ _ _ _ => (pts_one (PW.pt (pw_and (pt_val (pe_meth (pv 0) T.cl mB GB hr bB .nil pass0 (pa_cons (pv 5) (pa_cons (pv 1) pa_nil)))) (pw_and1 (pt_val (pe_meth (pv 0) T.cl mB GB hr bB .nil pass0 (pa_cons (pv 5) (pa_cons (pv 2) pa_nil))))))))) (fun _ _ _ _ _ => (pv 5)))) (pss_cons (ps_setLc (i := 4) (own := [("mode", 5)]) (g := gName 5) rfl scJoined.nd rfl rfl (sw_true rfl rfl rfl (by decide +kernel)) (piK K (pv 3)) (blkOk_by (own := [("mode", 5)]) (N := ["self", "one", "other", "both", "least", "mode", "more"]) (sc := defScope sJoined) (by decide +kernel)) (fun _ _ _ _ _ => (pg_name (i := 5) scJoined.nd rfl (Or.inr rfl))) (fun _ _ _ _ _ => (pts_one (pt_val (pe_callB (id := "all") (c_all K) (by rfl) B.all (by decide +kernel) (pa_cons (pe_lc (own := [("more", 6)]) (g := gName 6) (tt := tYes) rfl scJoined.nd (piK K (pv 3)) (blkOk_by (own := [("more", 6)]) (N := ["self", "one", "other", "both", "least", "mode", "more"]) (sc := relS scLeast (defScope sJoined)) (by decide +kernel)) (fun _ _ _ _ _ => (pg_name (i := 6) scJoined.nd rfl (Or.inl rfl))) (fun _ _ _ _ _ => pts_nil) (fun _ _ _ _ _ => (pe_meth (pv 0) T.cl mB GB hr bB .nil pass0 (pa_cons (pv 6) (pa_cons (pv 5) pa_nil))))) pa_nil))))) (fun _ _ _ _ _ => (pv 5))) (pss_one (ps_ret (pe_ifExp (pt_cmpR (op_neD hr.units) (pv 4) (pe_lst pa_nil) (nomark _)) (pe_ix ix_list (pv 4) pe_int (fun _ _ => rfl)) pe_non))))))), ?_⟩
    refine ⟨.ref p, rfl, p, dx, _, rfl, t.ob, tf_no rfl, .str a, rfl, .str b, rfl, p, a, b, P, rfl, ht, ok, ha, hb, fun H1 s1 => ⟨_, rfl, ?_⟩⟩
    cases e1 : Hm.bears (Hm.made P) a b with
    | true =>
      refine iteT ⟨.str a, rfl, ?_⟩
      have := q H1 s1
      unfold Hm.joined at this
      rw [e1] at this
      exact this
    | false =>
    refine iteF ?_
    have t1 := t.same s1
    refine ⟨.ref p, rfl, p, dx, _, rfl, t1.ob, tf_no rfl, .str b, rfl, .str a, rfl, p, b, a, P, rfl, bs s1, ok, hb, ha, fun H2 s2 => ⟨_, rfl, ?_⟩⟩
    cases e2 : Hm.bears (Hm.made P) b a with
    | true =>
      refine iteT ⟨.str b, rfl, ?_⟩
      have := q H2 (s1.trans s2)
      unfold Hm.joined at this
      rw [e1, e2] at this
      exact this
    | false =>
    refine iteF ?_
    have s02 := s1.trans s2
    have t2 := t.same s02
    -- both
    refine ⟨.ref p, rfl, p, C, dx, _, _, rfl, t2.ob, T.cl, T.nO, tf_o, o, _, rfl, iSq_of (.inr t2.or_.sq) fun J G hG wk D nD => ?_⟩
    rw [List.length_map] at wk
    refine lc_f (xs := P.kinds) wk hG nD (fun m => Hm.bears (Hm.made P) m a && Hm.bears (Hm.made P) m b) (fun m => m) RStr steady_str (len8 ok.few) (fun i z x H3 H4 e s3 y Ny Nn hy hn => ?_) fun H3 acc s3 hD hp => ?_
    · obtain ⟨rfl, yx⟩ := y
      obtain rfl := str_get e yx
      have t3 := t2.same s3
      have hz : z ∈ P.kinds := List.mem_of_getElem? e
      refine ⟨rfl, .ref p, rfl, p, dx, _, rfl, t3.ob, tf_no rfl, .str z, rfl, .str a, rfl, p, z, a, P, rfl, bs (s02.trans s3), ok, hz, ha, fun H5 s5 => ⟨_, rfl, ?_⟩⟩
      cases ez : Hm.bears (Hm.made P) z a with
      | false => exact iteF (hn (by rw [ez]; rfl) _ s5)
      | true =>
      refine iteT ⟨.ref p, rfl, p, dx, _, rfl, (t3.same s5).ob, tf_no rfl, .str z, rfl, .str b, rfl, p, z, b, P, rfl, bs ((s02.trans s3).trans s5), ok, hz, hb, fun H6 s6 => ⟨_, rfl, ?_⟩⟩
      cases ez2 : Hm.bears (Hm.made P) z b with
      | false => exact iteF (hn (by rw [ez, ez2]; rfl) _ (s5.trans s6))
      | true => exact iteT ⟨.str z, rfl, hy (by rw [ez, ez2]; rfl) _ _ (s5.trans s6) rfl⟩
    rw [List.map_id'] at hp
    have eb : (P.kinds.filter fun m => Hm.bears (Hm.made P) m a && Hm.bears (Hm.made P) m b) = Hm.both (Hm.made P) a b := rfl
    rw [eb] at hp
    generalize hl : Hm.both (Hm.made P) a b = l at hp eb
    have lk : ∀ z ∈ l, z ∈ P.kinds := fun z hz => by
      rw [← hl] at hz
      exact (Hm.both_mem hz).1
    have l8 : l.length ≤ 8 := by
      rw [← hl]
      exact Nat.le_trans (List.length_filter_le _ _) ok.few
    rw [strs_of hp] at hD
    have s03 := s02.trans s3
    have t3 := t.same s03
    -- least
    refine ⟨.ref D, rfl, D, _, rfl, iSq_of (.inl (.inl (.inl hD))) fun J G hG wk E2 nE => ?_⟩
    rw [List.length_map] at wk
    refine lc_f (xs := l) wk hG nE (fun m => l.all fun n => Hm.bears (Hm.made P) n m) (fun m => m) RStr steady_str (len8 l8) (fun i z x H4 H5 e s4 y Ny Nn hy hn => ?_) fun H4 acc2 s4 hE hp2 => ?_
    · obtain ⟨rfl, yx⟩ := y
      obtain rfl := str_get e yx
      have hz : z ∈ P.kinds := lk z (List.mem_of_getElem? e)
      refine ⟨rfl, .ref D, rfl, D, _, rfl, iSq_of (.inl (.inl (.inl (s4 _ _ hD)))) fun J1 G1 hG1 wk1 E3 nE3 => ?_⟩
      rw [List.length_map] at wk1
      refine lc_f (xs := l) wk1 hG1 nE3 (fun _ => true) (fun n => Hm.bears (Hm.made P) n z) RBl steady_bl (len8 l8) (fun i2 z2 x2 H6 H7 e2' s6 y2 Ny2 Nn2 hy2 hn2 => ?_) fun H6 acc3 s6 hE3 hp3 => ?_
      · obtain ⟨rfl, yx2⟩ := y2
        obtain rfl := str_get e2' yx2
        have hz2 : z2 ∈ P.kinds := lk z2 (List.mem_of_getElem? e2')
        have t6 := t3.same (s4.trans s6)
        exact ⟨rfl, .ref p, rfl, p, dx, _, rfl, t6.ob, tf_no rfl, .str z2, rfl, .str z, rfl, p, z2, z, P, rfl, bs ((s03.trans s4).trans s6), ok, hz2, hz, fun H8 s8 => hy2 rfl _ _ s8 rfl⟩
      · rw [bls_of hp3, filt_all] at hE3
        refine ⟨E3, _, rfl, .inl (.inl hE3), _, rfl, ?_⟩
        have ea : ((l.map fun n => Hm.bears (Hm.made P) n z).all id) = (l.all fun n => Hm.bears (Hm.made P) n z) := by
          rw [List.all_map]
          rfl
        rw [ea]
        cases ec : l.all fun n => Hm.bears (Hm.made P) n z with
        | false => exact iteF (hn ec _ s6)
        | true => exact iteT ⟨.str z, rfl, hy ec _ _ s6 rfl⟩
    rw [List.map_id', show (l.filter fun m => l.all fun n => Hm.bears (Hm.made P) n m) = Hm.least (Hm.made P) l from rfl] at hp2
    rw [strs_of hp2] at hE
    have fin : Hm.joined (Hm.made P) a b = (Hm.least (Hm.made P) l).head? := by
      unfold Hm.joined
      rw [e1, e2, hl]
      rfl
    have hm : ∀ z ∈ Hm.least (Hm.made P) l, Nm z := fun z hz => hN z (lk z (Hm.least_sub hz))
    generalize Hm.least (Hm.made P) l = m at hE fin hm
    refine ⟨.ref E2, rfl, Nat.zero_le _, fun k nk => ?_⟩
    have s5 := same_new (o := .lst []) nk
    refine ⟨.list (dS m), .list [], .lst (.inl (.inl (s5 _ _ hE))) (dp_strs m), .lst (.inl (.inl upd_same)) .nil, sh_strs m hm, rfl, _, rfl, ?_⟩
    rw [eqv_nil]
    cases m with
    | nil =>
      refine iteF ?_
      have := q _ ((s03.trans s4).trans s5)
      rw [fin] at this
      exact this
    | cons z r =>
      refine iteT ⟨.ref E2, rfl, E2, _, 0, .str z, rfl, rfl, .inl (.inl (s5 _ _ hE)), atI_nat (j := 0) rfl, ?_⟩
      have := q _ ((s03.trans s4).trans s5)
      rw [fin] at this
      exact this
/-! ### is_over -/
abbrev sOver : Stmt := inClass (topS 21) 9
theorem scOver : FnScope ["self", "one", "other", "both", "upper"] ["self", "one", "other"] (defScope sOver) := ⟨rfl, rfl, rfl, by decide +kernel, rfl, by decide +kernel, by decide +kernel⟩
def spOver (K : PySem.W.Frag) (C : Addr) : Sp := fun vs H Q _ => ∃ (p : Addr) (a b : Str) (P : Hm.Pl Str), vs = [.ref p, .str a, .str b] ∧ Tbl K C H p P ∧ Hm.PlOk P 64 ∧ (∀ z ∈ P.kinds, Nm z) ∧ a ∈ P.kinds ∧ b ∈ P.kinds ∧ ∀ H', Same H H' → Q (.bl (Hm.isOver (Hm.made P) a b)) H'
theorem ok_over {f C fB fJ : Addr} {fd fdB fdJ : FuncData} (F : Fun K "is_over" "Table.is_over" sOver f fd) (T : Tt K mg C) (FB : Fun K "bears" "Table.bears" sBears fB fdB) (bB : Binds K fdB ["self", "one", "other"] []) (mB : Meth K C "bears" fB) (GB : FnOk P w K mg base CX0 3 fB fdB ["self", "one", "other"] (spBears K C)) (FJ : Fun K "joined" "Table.joined" sJoined fJ fdJ) (bJ : Binds K fdJ ["self", "one", "other"] []) (mJ : Meth K C "joined" fJ) (GJ : FnOk P w K mg base CX0 4 fJ fdJ ["self", "one", "other"] (spJoined K C)) :
    FnOk P w K mg base CX0 5 f fd ["self", "one", "other"] (spOver K C) := by
  refine F.ok scOver (fun vs H Q E h => ?_) (fun cdv A outer s H vs Q E hr h => ?_)
  · obtain ⟨p, a, b, P, rfl, _⟩ := h
    rfl
  · obtain ⟨p, a, b, P, rfl, ht, ok, hN, ha, hb, q⟩ := h
    obtain ⟨dx, o, dp, dw, du, j, t⟩ := id ht
    have hr4 : Room 4 _ := hr
    have hr3 : Room 3 _ := hr.mono (by decide)
    have up : ∀ {H1 : Hp} {z : Str}, Same H H1 → z ∈ P.kinds → DGet H1 du (.str z) (some (.str ((Hm.made P).upp z))) := fun s hz => by
      rw [← uL_val hz]
      exact DGet.k (k := Sum.inr _) (s _ _ t.up)
    have um : ∀ {z : Str}, z ∈ P.kinds → (Hm.made P).upp z ∈ P.kinds := fun hz => Hm.made_mem ok hz
    refine ⟨_, (pss_cons (ps_par (i := 3) (j := 4) rfl scOver.nd rfl rfl (by decide) rfl rfl (pa_cons (pe_meth (pv 0) T.cl mJ GJ hr4 bJ .nil pass0 (pa_cons (pv 1) (pa_cons (pv 2) pa_nil))) (pa_cons (pe_meth (pv 0) T.cl mJ GJ hr4 bJ .nil pass0 (pa_cons (pe_dget (hu_of hr) (fldK K (pv 0) rfl) (pv 1) (fun _ _ => rfl)) (pa_cons (pe_dget (hu_of hr) (fldK K (pv 0) rfl) (pv 2) (fun _ _ => rfl)) pa_nil))) pa_nil)) rfl) (pss_one (ps_ret (pe_or (pe_cmpR op_isN (pv 3) pe_non (nomark _)) (pe_one (pe_and (pe_cmpR op_notN (pv 4) pe_non (nomark _)) (pe_one (pe_meth (pv 0) T.cl mB GB hr3 bB .nil pass0 (pa_cons (pv 4) (pa_cons (pe_dget (hu_of hr) (fldK K (pv 0) rfl) (pv 3) (fun _ _ => rfl)) pa_nil)))))))))), ?_⟩
    refine ⟨.ref p, rfl, p, dx, _, rfl, t.ob, tf_no rfl, .str a, rfl, .str b, rfl, p, a, b, P, rfl, ht, ok, hN, ha, hb, fun H1 s1 => ?_⟩
    have t1 := t.same s1
    refine ⟨.ref p, rfl, p, dx, _, rfl, t1.ob, tf_no rfl, .ref p, rfl, p, C, dx, _, _, rfl, t1.ob, T.cl, T.nU, tf_u, .str a, rfl, du, _, rfl, up s1 ha, .ref p, rfl, p, C, dx, _, _, rfl, t1.ob, T.cl, T.nU, tf_u, .str b, rfl, du, _, rfl, up s1 hb, p, _, _, P, rfl, ht.same s1, ok, hN, um ha, um hb, fun H2 s2 => ?_⟩
    have t2 := t1.same s2
    have s02 := s1.trans s2
    refine ⟨_, _, rfl, ?_⟩
    refine ⟨_, rfl, rfl, _, rfl, ?_⟩
    cases e1 : Hm.joined (Hm.made P) a b with
    | none =>
      have ei : Hm.isOver (Hm.made P) a b = true := by
        unfold Hm.isOver
        rw [e1]
      rw [show decide (oV none = V.non) = true from rfl]
      refine iteT ?_
      have := q H2 s02
      rw [ei] at this
      exact this
    | some j1 =>
    rw [show decide (oV (some j1) = V.non) = false from rfl]
    refine iteF ?_
    refine ⟨_, rfl, rfl, _, rfl, ?_⟩
    cases e2 : Hm.joined (Hm.made P) ((Hm.made P).upp a) ((Hm.made P).upp b) with
    | none =>
      have ei : Hm.isOver (Hm.made P) a b = false := by
        unfold Hm.isOver
        rw [e1, e2]
      rw [show (!decide (oV none = V.non)) = false from rfl]
      refine iteF ?_
      have := q H2 s02
      rw [ei] at this
      exact this
    | some u1 =>
    have ei : Hm.isOver (Hm.made P) a b = Hm.bears (Hm.made P) u1 ((Hm.made P).upp j1) := by
      unfold Hm.isOver
      rw [e1, e2]
    rw [show (!decide (oV (some u1) = V.non)) = true from rfl]
    refine iteT ?_
    have hj := Hm.joined_mem (T := Hm.made P) ha hb e1
    have hu1 := Hm.joined_mem (T := Hm.made P) (um ha) (um hb) e2
    refine ⟨.ref p, rfl, p, dx, _, rfl, t2.ob, tf_no rfl, .str u1, rfl, .ref p, rfl, p, C, dx, _, _, rfl, t2.ob, T.cl, T.nU, tf_u, .str j1, rfl, du, _, rfl, up s02 hj, p, _, _, P, rfl, ht.same s02, ok, hu1, um hj, fun H3 s3 => ?_⟩
    have := q H3 (s02.trans s3)
    rw [ei] at this
    exact this
end

end Ho
set_option Elab.async false
set_option linter.all false
set_option maxRecDepth 100000
set_option maxHeartbeats 4000000
/-! flaws. -/
namespace Ho
open PySem PySem.Spec PyProof.Rows L2
open LamX NdefX
/-! ### rules, the written part named -/
section
variable {X : Cx} (K : PySem.W.Frag)
theorem gtK {es : List Expr} {k : Nat} {t : TGs} {n : Nat} {pos : Pos} (hc : X.calm = true) (h : PGs X es t) (hn : (assignEach es X.env).length = n := by rfl) (hst : (assignEach es X.env).findIdx? (·.1) = none := by rfl) (hk : X.K = K := by rfl) : PG X (.Tuple es k pos) (gTup K n t) := by
  subst hk
  exact pg_tup hc h hn hst
theorem s_tup (h : X.K = K := by rfl) : SlR X (rSlT K) := by
  subst h
  exact sl_tup
theorem s_list (h : X.K = K := by rfl) : SlR X (rSlL K) := by
  subst h
  exact sl_list
theorem o_catT (h : X.K = K := by rfl) : OpR X (binaryOp .Add) (rCatT K) := by
  subst h
  exact op_catT
end
/-! ### flaws as texts -/
def fW : Nat → Str
  | 0 => "above"
  | 1 => "apart"
  | 2 => "over"
  | 3 => "quarrel"
  | _ => "beneath"
def flT (q : Nat × List Str) : List Str := fW q.1 :: q.2
theorem fW_nm (n : Nat) : Nm (fW n) := by
  match n with
  | 0 => exact ⟨by decide +kernel, by decide +kernel, by decide +kernel⟩
  | 1 => exact ⟨by decide +kernel, by decide +kernel, by decide +kernel⟩
  | 2 => exact ⟨by decide +kernel, by decide +kernel, by decide +kernel⟩
  | 3 => exact ⟨by decide +kernel, by decide +kernel, by decide +kernel⟩
  | n + 4 => exact ⟨by show 1 ≤ (Str.length "beneath"); decide +kernel, by show (Str.length "beneath") ≤ 8; decide +kernel, by show ∀ c ∈ (Str.cps "beneath").toList, _; decide +kernel⟩
theorem pairs_range : ∀ ord : List Str, ((List.range ord.length).flatMap fun i => (ord.drop (i + 1)).map fun c => (ord.getD i Str.empty, c)) = Hm.pairs ord
  | [] => rfl
  | a :: r => by
    rw [List.length_cons, List.range_succ_eq_map, List.flatMap_cons, List.flatMap_map]
    have ih := pairs_range r
    unfold Hm.pairs
    rw [← ih]
    rfl
theorem pairs_few {ord : List Str} (h : ord.length ≤ 8) : (Hm.pairs ord).length + ord.length ≤ 36 := by
  have h1 := (pairs_perm ord).length_eq
  rw [List.length_append, List.length_map] at h1
  have h2 := Hm.anyTwo_few h
  omega
theorem drops_few {ord : List Str} (h : ord.length ≤ 8) : ((List.range ord.length).flatMap fun i => ord.drop (i + 1)).length ≤ 36 := by
  have e : ((List.range ord.length).flatMap fun i => ord.drop (i + 1)).length = (Hm.pairs ord).length := by
    rw [← pairs_range ord, List.length_flatMap, List.length_flatMap]
    congr 1
    exact List.map_congr_left fun i _ => by rw [List.length_map]
  have := pairs_few h
  omega
theorem cut_from (xs : List V) (k : Nat) : cutV xs (some (k : Int)) none = xs.drop k := by
  unfold cutV
  rw [HT.sIx_none, HT.sIx_nat]
  by_cases h : k ≤ xs.length
  · rw [Nat.min_eq_left h]
    exact List.take_of_length_le (by rw [List.length_drop]; exact Nat.le_refl _)
  · rw [Nat.min_eq_right (by omega), List.drop_of_length_le (Nat.le_refl _), List.drop_of_length_le (by omega)]
    simp
theorem Paired.elimTP {H H1 H2 : Hp} {v : V} {q : Str × Str} (h : TPs H v q) (e : ExtN H H1) (s : Same H1 H2) : TPs H2 v q := by
  obtain ⟨t, e2, h2⟩ := TPs.ext e h
  exact ⟨t, e2, s _ _ h2⟩
theorem flat_len {α β γ : Type} (l : List α) (m : List β) (f : α → β → γ) : (l.flatMap fun a => m.map fun b => f a b).length = l.length * m.length := by
  induction l with
  | nil => simp
  | cons a l ih => rw [List.flatMap_cons, List.length_append, ih, List.length_map, List.length_cons, Nat.add_mul, Nat.one_mul, Nat.add_comm]
theorem flat_len0 {α β : Type} (l : List α) (m : List β) : (l.flatMap fun _ => m).length = l.length * m.length := by
  have h := flat_len l m fun _ b => b
  simpa using h
theorem steady_tps : Steady TPs := fun _ _ _ _ e ⟨t, h1, h2⟩ => ⟨t, h1, e _ _ h2 fun _ z => nomatch z⟩
/-! ### what stands while the flaws are gathered -/
theorem OrdAt.nl {K : PySem.W.Frag} {H H' : Hp} {a : Addr} {xs : List V} (h : OrdAt K H a xs) (e : NL H H') : OrdAt K H' a xs := ⟨SqT.nl h.sq e, h.pl.imp (fun ⟨o, u, q, c, d⟩ => by
  obtain hq := h.sq
  by_cases hu : ∃ ys, u = .lst ys
  · obtain ⟨ys, rfl⟩ := hu
    exact ⟨o, _, e _ _ q (fun _ z => nomatch z), c, d⟩
  · exact ⟨o, u, e _ _ q (fun _ z => nomatch z), c, d⟩) id⟩
theorem TblAt.nl {K : PySem.W.Frag} {C : Addr} {H H' : Hp} {p dx o dp dw du : Addr} {P : Hm.Pl Str} {j : V} (h : TblAt K C H p dx o dp dw du P j) (e : NL H H') : TblAt K C H' p dx o dp dw du P j :=
  ⟨e _ _ h.ob (fun _ z => nomatch z), h.or_.nl e, e _ _ h.pr (fun _ z => nomatch z), e _ _ h.wo (fun _ z => nomatch z), e _ _ h.up (fun _ z => nomatch z)⟩
theorem TblAt.ext {K : PySem.W.Frag} {C : Addr} {H H' : Hp} {p dx o dp dw du : Addr} {P : Hm.Pl Str} {j : V} (h : TblAt K C H p dx o dp dw du P j) (e : ExtN H H') : TblAt K C H' p dx o dp dw du P j :=
  ⟨e _ _ h.ob (fun _ z => nomatch z), h.or_.ext e, e _ _ h.pr (fun _ z => nomatch z), e _ _ h.wo (fun _ z => nomatch z), e _ _ h.up (fun _ z => nomatch z)⟩
theorem tabs_nl {T : List (Addr × Str)} {H H' : Hp} (t : Tabs T H) (e : NL H H') : Tabs T H' := fun q hq => by
  obtain ⟨ps, h1, h2, h3⟩ := t q hq
  refine ⟨ps, e _ _ h1 (fun _ z => nomatch z), h2, fun pos cv hc => ?_⟩
  obtain ⟨c, e1, e2⟩ := h3 pos cv hc
  refine ⟨c, e1, e _ _ e2 fun xs z => ?_⟩
  unfold CodeO at z
  cases z
theorem nl_kp {H H' : Hp} {l : Addr} {us : List V} (k : Kp [l] H H') (h : H l = some (.lst us)) : NL H H' := fun b o e n => k b o (fun z => by
  rw [List.mem_singleton.mp z, h] at e
  cases e
  exact n us rfl) e
/-- the list of flaws at l stands for L; all else of HB stands -/
structure FS (K : PySem.W.Frag) (HB H : Hp) (l : Addr) (L : List (List Str)) : Prop where
  kp : Kp [l] HB H
  at_ : ∃ us, H l = some (.lst us) ∧ Paired (RTup K H) us L
theorem FS.same {K : PySem.W.Frag} {HB H H' : Hp} {l : Addr} {L : List (List Str)} (h : FS K HB H l L) (s : Same H H') : FS K HB H' l L := by
  obtain ⟨us, h1, h2⟩ := h.at_
  exact ⟨h.kp.trans (.of s), us, s _ _ h1, Paired.steady steady_tup (.of s) h2⟩
theorem paired_app {α β : Type} {R : α → β → Prop} {xs' : List α} {ys' : List β} (h' : Paired R xs' ys') : ∀ {xs : List α} {ys : List β}, Paired R xs ys → Paired R (xs ++ xs') (ys ++ ys')
  | _, _, .nil => h'
  | _, _, .cons h t => .cons h (paired_app h' t)
theorem FS.more {K : PySem.W.Frag} {HB H : Hp} {l : Addr} {L M : List (List Str)} {us zs : List V} (h : FS K HB H l L) (hl : H l = some (.lst us)) (hu : Paired (RTup K H) us L) (hz : Paired (RTup K H) zs M) : FS K HB (upd H l (.lst (us ++ zs))) l (L ++ M) :=
  ⟨h.kp.trans (.upd (List.mem_singleton.mpr rfl)), _, upd_same, paired_app (Paired.steady steady_tup (NL.lst hl) hz) (Paired.steady steady_tup (NL.lst hl) hu)⟩
/-- a def whose code object is known -/
structure FunC (K : PySem.W.Frag) (x qual : Str) (st : Stmt) (f : Addr) (fd : FuncData) (c : Addr) : Prop where
  ex : ∃ (oc : Value) (od : Option Addr) (kV doc pm : Value) (an : Option Addr) (ct : Value) (osl : Array (Option Value)),
    fd = PySem.W.fnOf x qual (defArgs st) (defBody st) (defScope st) .none kV doc pm an (.ref c) ct ∧ K.lookup f = some ⟨oc, od, .func fd, osl⟩ ∧ PySem.W.codeIn K (.ref c) qual = true
  kp : PySem.W.keepIn K (.ref f) = true
section
variable {P : Program} {w : World} {K : PySem.W.Frag} {mg : Str → Option Value} {base : Heap}
theorem FunC.ok {x qual : Str} {st : Stmt} {f c : Addr} {fd : FuncData} {N ps : List Str} {k : Nat} {sp : Sp} (F : FunC K x qual st f fd c) (S : FnScope N ps (defScope st)) (len : ∀ vs H Q E, sp vs H Q E → vs.length = ps.length)
    (hbody : ∀ (A : Around) (outer : List Env) (s : Shared) (H : Hp) (vs : List V) (Q : VK) (E : XK), Room k (A.deeper (envOfC qual (defScope st) s.heap.objs.size f (.ref c))) → sp vs H Q E →
      ∃ t, PSs (cxOf CX0 P w K mg base N qual (defScope st) f (.ref c) A outer s H E).nox (defBody st) t ∧ t { nx := fun _ H' => Q .non H', rt := Q } (start N vs) H) : FnOk P w K mg base CX0 (k + 1) f fd ps sp := by
  obtain ⟨oc, od, kV, doc, pm, an, ct, osl, rfl, lk, hcd⟩ := F.ex
  refine fn_of lk hcd S len fun A outer s H vs Q E hr hsp => ?_
  obtain ⟨t, h, q⟩ := hbody A outer s H vs Q E hr hsp
  exact ⟨t, h.nox, q⟩
theorem FunC.to {x qual : Str} {st : Stmt} {f c : Addr} {fd : FuncData} (F : FunC K x qual st f fd c) : Fun K x qual st f fd := by
  obtain ⟨oc, od, kV, doc, pm, an, ct, osl, e, lk, hcd⟩ := F.ex
  exact ⟨⟨oc, od, kV, doc, pm, an, _, ct, osl, e, lk, hcd⟩, F.kp⟩
/-! ### flaws -/
abbrev sFlaws : Stmt := inClass (topS 21) 10
abbrev lamQ : Str := ("Table.flaws" : Str) ++ ".<locals>." ++ "<lambda>"
theorem scFlaws : FnScope ["self", "one", "pairs", "alike", "any_two", "goals", "found", "worse", "near", "rows", "at", "other", "mode", "goal", "pair", "row"] ["self"] (defScope sFlaws) := ⟨rfl, rfl, rfl, by decide +kernel, rfl, by decide +kernel, by decide +kernel⟩
def spFlaws (K : PySem.W.Frag) (C : Addr) (T : List (Addr × Str)) : Sp := fun vs H Q _ => ∃ (p : Addr) (P : Hm.Pl Str), vs = [.ref p] ∧ Tbl K C H p P ∧ Hm.PlOk P 64 ∧ (∀ z ∈ P.kinds, Nm z) ∧ Tabs T H ∧
  ∀ H' l us, ExtN H H' → Tabs T H' → H' l = some (.lst us) → Paired (RTup K H') us ((Hm.flaws (Hm.made P)).map flT) → Q (.ref l) H'
theorem ok_flaws {f c Pt C fB fJ fO fQ : Addr} {fd fdB fdJ fdO fdQ : FuncData} (F : FunC K "flaws" "Table.flaws" sFlaws f fd c) (B : Blt mg) (T : Tt K mg C) (TB : TabB base mg c Pt) (FB : Fun K "bears" "Table.bears" sBears fB fdB) (bB : Binds K fdB ["self", "one", "other"] []) (mB : Meth K C "bears" fB) (GB : FnOk P w K mg base CX0 3 fB fdB ["self", "one", "other"] (spBears K C)) (FJ : Fun K "joined" "Table.joined" sJoined fJ fdJ) (bJ : Binds K fdJ ["self", "one", "other"] []) (mJ : Meth K C "joined" fJ) (GJ : FnOk P w K mg base CX0 4 fJ fdJ ["self", "one", "other"] (spJoined K C)) (FO : Fun K "is_over" "Table.is_over" sOver fO fdO) (bO : Binds K fdO ["self", "one", "other"] []) (mO : Meth K C "is_over" fO) (GO : FnOk P w K mg base CX0 5 fO fdO ["self", "one", "other"] (spOver K C)) (FQ : Fun K "quarrel" "Table.quarrel" sQuarrel fQ fdQ) (bQ : Binds K fdQ ["self", "one", "other"] []) (mQ : Meth K C "quarrel" fQ) (GQ : FnOk P w K mg base CX0 1 fQ fdQ ["self", "one", "other"] (spQuarrel K C)) :
    FnOk P w K mg base CX0 6 f fd ["self"] (spFlaws K C [(Pt, lamQ)]) := by
  refine F.ok scFlaws (fun vs H Q E h => ?_) (fun A outer s H vs Q E hr h => ?_)
  · obtain ⟨p, P, rfl, _⟩ := h
    rfl
  · obtain ⟨p, P, rfl, ht, ok, hN, hT, q⟩ := h
    obtain ⟨dx, o, dp, dw, du, j, t⟩ := id ht
    have hr4 : Room 4 _ := hr.mono (by decide)
    have hr3 : Room 3 _ := hr.mono (by decide)
    have hr1 : Room 1 _ := hr.mono (by decide)
    refine ⟨_, (pss_cons (ps_setLc2 (i := 2) (own := [("at", 10), ("one", 1), ("other", 11)]) (vs1 := [11]) (g1 := gName 11) (tt := tYes) (tt1 := tYes) rfl scFlaws.nd rfl rfl (sw_true rfl rfl rfl (by decide +kernel)) (pi_enumT (by rfl) B.enum (pa_cons (fldK K (pv 0) rfl) pa_nil)) (blkOk_by (own := [("at", 10), ("one", 1), ("other", 11)]) (N := ["self", "one", "pairs", "alike", "any_two", "goals", "found", "worse", "near", "rows", "at", "other", "mode", "goal", "pair", "row"]) (sc := defScope sFlaws) (by decide +kernel)) (by decide) (fun _ _ _ _ _ => (gtK K (n := 2) rfl (pgs_cons (pg_name (i := 10) scFlaws.nd rfl (Or.inl rfl)) (pgs_cons (pg_name (i := 1) scFlaws.nd rfl (Or.inl rfl)) pgs_nil)))) (fun _ _ _ _ _ => pts_nil) (fun _ _ _ _ _ => (piK K (pe_slice (s_tup K) (fldK K (pv 0) rfl) (po_some (pe_op op_add (pv 10) pe_int)) po_none))) (fun _ _ _ _ _ => (pg_name (i := 11) scFlaws.nd rfl (Or.inl rfl))) (fun _ _ _ _ _ => pts_nil) (fun _ _ _ _ _ => (pe_tup (pa_cons (pv 1) (pa_cons (pv 11) pa_nil))))) (pss_cons (ps_setLc (i := 3) (own := [("mode", 12)]) (g := gName 12) (tt := tYes) rfl scFlaws.nd rfl rfl (sw_true rfl rfl rfl (by decide +kernel)) (piK K (fldK K (pv 0) rfl)) (blkOk_by (own := [("mode", 12)]) (N := ["self", "one", "pairs", "alike", "any_two", "goals", "found", "worse", "near", "rows", "at", "other", "mode", "goal", "pair", "row"]) (sc := defScope sFlaws) (by decide +kernel)) (fun _ _ _ _ _ => (pg_name (i := 12) scFlaws.nd rfl (Or.inl rfl))) (fun _ _ _ _ _ => pts_nil) (fun _ _ _ _ _ => (pe_tup (pa_cons (pv 12) (pa_cons (pv 12) pa_nil))))) (pss_cons (ps_set (i := 4) scFlaws.nd rfl (Or.inl rfl) (pe_sortLam (T := [(Pt, lamQ)]) (i := 0) (k := 2) (by rfl) B.sorted (by decide +kernel) (pe_op op_cat (pv 2) (pv 3)) TB rfl (List.mem_singleton.mpr rfl) (fun q hq _ => by rw [List.mem_singleton.mp hq]; rfl) hr (nscope_by (by decide +kernel)) (ndef_free (sc := defScope sFlaws) (fr := ["self"]) (by decide +kernel)) (by decide +kernel) rfl rfl (fun _ _ _ _ _ _ => rfl) (.inr (.inr rfl)) (.inl rfl) (by decide) (by decide) (by decide) (by decide) rfl rfl)) (pss_cons (ps_setLc (i := 5) (own := [("mode", 12)]) (g := gName 12) (tt := tYes) rfl scFlaws.nd rfl rfl (sw_true rfl rfl rfl (by decide +kernel)) (piK K (fldK K (pv 0) rfl)) (blkOk_by (own := [("mode", 12)]) (N := ["self", "one", "pairs", "alike", "any_two", "goals", "found", "worse", "near", "rows", "at", "other", "mode", "goal", "pair", "row"]) (sc := defScope sFlaws) (by decide +kernel)) (fun _ _ _ _ _ => (pg_name (i := 12) scFlaws.nd rfl (Or.inl rfl))) (fun _ _ _ _ _ => pts_nil) (fun _ _ _ _ _ => (pe_tup (pa_cons (pv 12) (pa_cons (pe_dget (hu_of hr) (fldK K (pv 0) rfl) (pv 12) (fun _ _ => rfl)) pa_nil))))) (pss_cons (ps_setLc (i := 6) (own := [("mode", 12), ("goal", 13)]) rfl scFlaws.nd rfl rfl (sw_true rfl rfl rfl (by decide +kernel)) (piK K (pv 5)) (blkOk_by (own := [("mode", 12), ("goal", 13)]) (N := ["self", "one", "pairs", "alike", "any_two", "goals", "found", "worse", "near", "rows", "at", "other", "mode", "goal", "pair", "row"]) (sc := defScope sFlaws) (by decide +kernel)) (fun _ _ _ _ _ => (gtK K (n := 2) rfl (pgs_cons (pg_name (i := 12) scFlaws.nd rfl (Or.inl rfl)) (pgs_cons (pg_name (i := 13) scFlaws.nd rfl (Or.inl rfl)) pgs_nil)))) (fun _ _ _ _ _ => (pts_one (pt_not (pt_val (pe_meth (pv 0) T.cl mB GB hr3 bB .nil pass0 (pa_cons (pv 13) (pa_cons (pe_dget (hu_of hr) (fldK K (pv 0) rfl) (pv 13) (fun _ _ => rfl)) pa_nil))))))) (fun _ _ _ _ _ => (pe_tup (pa_cons pe_str (pa_cons (pv 12) pa_nil))))) (pss_cons (ps_expr (pe_bm PySem.F.plainAttrs_list PySem.F.slot_list_extend PySem.F.type_list_extend mt_extend (pv 6) (pa_cons (pe_lc (own := [("pair", 14)]) (g := gName 14) rfl scFlaws.nd (piK K (pv 2)) (blkOk_by (own := [("pair", 14)]) (N := ["self", "one", "pairs", "alike", "any_two", "goals", "found", "worse", "near", "rows", "at", "other", "mode", "goal", "pair", "row"]) (sc := defScope sFlaws) (by decide +kernel)) (fun _ _ _ _ _ => (pg_name (i := 14) scFlaws.nd rfl (Or.inl rfl))) (fun _ _ _ _ _ => (pts_one (pt_cmpR op_isN (pe_meth (pv 0) T.cl mJ GJ hr4 bJ .nil pass0 (pa_cons (pe_ix (i_tup K) (pv 14) pe_int (fun _ _ => rfl)) (pa_cons (pe_ix (i_tup K) (pv 14) pe_int (fun _ _ => rfl)) pa_nil))) pe_non (nomark _)))) (fun _ _ _ _ _ => (pe_op (o_catT K) (pe_tup (pa_cons pe_str pa_nil)) (pv 14)))) pa_nil))) (pss_cons (ps_expr (pe_bm PySem.F.plainAttrs_list PySem.F.slot_list_extend PySem.F.type_list_extend mt_extend (pv 6) (pa_cons (pe_lc (own := [("pair", 14)]) (g := gName 14) rfl scFlaws.nd (piK K (pv 2)) (blkOk_by (own := [("pair", 14)]) (N := ["self", "one", "pairs", "alike", "any_two", "goals", "found", "worse", "near", "rows", "at", "other", "mode", "goal", "pair", "row"]) (sc := defScope sFlaws) (by decide +kernel)) (fun _ _ _ _ _ => (pg_name (i := 14) scFlaws.nd rfl (Or.inl rfl))) (fun _ _ _ _ _ => (pts_one (pt_not (pt_val (pe_meth (pv 0) T.cl mO GO hr bO .nil pass0 (pa_cons (pe_ix (i_tup K) (pv 14) pe_int (fun _ _ => rfl)) (pa_cons (pe_ix (i_tup K) (pv 14) pe_int (fun _ _ => rfl)) pa_nil))))))) (fun _ _ _ _ _ => (pe_op (o_catT K) (pe_tup (pa_cons pe_str pa_nil)) (pv 14)))) pa_nil))) (pss_cons (ps_expr (pe_bm PySem.F.plainAttrs_list PySem.F.slot_list_extend PySem.F.type_list_extend mt_extend (pv 6) (pa_cons (pe_lc (own := [("pair", 14)]) (g := gName 14) rfl scFlaws.nd (piK K (pv 4)) (blkOk_by (own := [("pair", 14)]) (N := ["self", "one", "pairs", "alike", "any_two", "goals", "found", "worse", "near", "rows", "at", "other", "mode", "goal", "pair", "row"]) (sc := defScope sFlaws) (by decide +kernel)) (fun _ _ _ _ _ => (pg_name (i := 14) scFlaws.nd rfl (Or.inl rfl))) (fun _ _ _ _ _ => (pts_one (PW.pt (pw_and (pt_cmp (pc_din (hu_of hr) (pv 14) (fldK K (pv 0) rfl))) (pw_and1 (pt_val (pe_meth (pv 0) T.cl mQ GQ hr1 bQ .nil pass0 (pa_cons (pe_ix (i_tup K) (pv 14) pe_int (fun _ _ => rfl)) (pa_cons (pe_ix (i_tup K) (pv 14) pe_int (fun _ _ => rfl)) pa_nil))))))))) (fun _ _ _ _ _ => (pe_op (o_catT K) (pe_tup (pa_cons pe_str pa_nil)) (pv 14)))) pa_nil))) (pss_cons (ps_for PassesOwn.never rfl (piK K (fldK K (pv 0) rfl)) (pg_name (i := 1) scFlaws.nd rfl (Or.inr rfl)) (pss_cons (ps_setLc (i := 7) (own := [("other", 11)]) (g := gName 11) rfl scFlaws.nd rfl rfl (sw_true rfl rfl rfl (by decide +kernel)) (piK K (fldK K (pv 0) rfl)) (blkOk_by (own := [("other", 11)]) (N := ["self", "one", "pairs", "alike", "any_two", "goals", "found", "worse", "near", "rows", "at", "other", "mode", "goal", "pair", "row"]) (sc := defScope sFlaws) (by decide +kernel)) (fun _ _ _ _ _ => (pg_name (i := 11) scFlaws.nd rfl (Or.inl rfl))) (fun _ _ _ _ _ => (pts_one (pt_val (pe_meth (pv 0) T.cl mQ GQ hr1 bQ .nil pass0 (pa_cons (pv 1) (pa_cons (pv 11) pa_nil)))))) (fun _ _ _ _ _ => (pv 11))) (pss_cons (ps_set (i := 8) scFlaws.nd rfl (Or.inr rfl) (pe_lc (own := [("mode", 12)]) (g := gName 12) rfl scFlaws.nd (piK K (fldK K (pv 0) rfl)) (blkOk_by (own := [("mode", 12)]) (N := ["self", "one", "pairs", "alike", "any_two", "goals", "found", "worse", "near", "rows", "at", "other", "mode", "goal", "pair", "row"]) (sc := defScope sFlaws) (by decide +kernel)) (fun _ _ _ _ _ => (pg_name (i := 12) scFlaws.nd rfl (Or.inl rfl))) (fun _ _ _ _ _ => (pts_one (pt_cmp (pc_din (hu_of hr) (pe_tup (pa_cons (pv 1) (pa_cons (pv 12) pa_nil))) (fldK K (pv 0) rfl))))) (fun _ _ _ _ _ => (pv 12)))) (pss_cons (ps_setLc2 (i := 9) (own := [("other", 11), ("mode", 12)]) (vs1 := [12]) (g := gName 11) (g1 := gName 12) (tt := tYes) (tt1 := tYes) rfl scFlaws.nd rfl rfl (sw_true rfl rfl rfl (by decide +kernel)) (piK K (pv 7)) (blkOk_by (own := [("other", 11), ("mode", 12)]) (N := ["self", "one", "pairs", "alike", "any_two", "goals", "found", "worse", "near", "rows", "at", "other", "mode", "goal", "pair", "row"]) (sc := defScope sFlaws) (by decide +kernel)) (by decide) (fun _ _ _ _ _ => (pg_name (i := 11) scFlaws.nd rfl (Or.inl rfl))) (fun _ _ _ _ _ => pts_nil) (fun _ _ _ _ _ => (piK K (pv 8))) (fun _ _ _ _ _ => (pg_name (i := 12) scFlaws.nd rfl (Or.inl rfl))) (fun _ _ _ _ _ => pts_nil) (fun _ _ _ _ _ => (pe_tup (pa_cons pe_str (pa_cons (pv 1) (pa_cons (pv 11) (pa_cons (pv 12) pa_nil))))))) (pss_one (ps_expr (pe_bm PySem.F.plainAttrs_list PySem.F.slot_list_extend PySem.F.type_list_extend mt_extend (pv 6) (pa_cons (pe_lc (own := [("row", 15)]) (g := gName 15) rfl scFlaws.nd (piK K (pv 9)) (blkOk_by (own := [("row", 15)]) (N := ["self", "one", "pairs", "alike", "any_two", "goals", "found", "worse", "near", "rows", "at", "other", "mode", "goal", "pair", "row"]) (sc := defScope sFlaws) (by decide +kernel)) (fun _ _ _ _ _ => (pg_name (i := 15) scFlaws.nd rfl (Or.inl rfl))) (fun _ _ _ _ _ => (pts_one (pt_val (pe_meth (pv 0) T.cl mB GB hr3 bB .nil pass0 (pa_cons (pe_ix (i_tup K) (pv 15) pe_int (fun _ _ => rfl)) (pa_cons (pe_dget (hu_of hr) (fldK K (pv 0) rfl) (pe_ix (i_tup K) (pv 15) pe_int (fun _ _ => rfl)) (fun _ _ => rfl)) pa_nil)))))) (fun _ _ _ _ _ => (pv 15))) pa_nil)))))))) (pss_one (ps_ret (pv 6)))))))))))), ?_⟩
    have L8 : P.kinds.length < sizeLine := len8 ok.few
    have pf := pairs_few ok.few
    have small : ∀ {n : Nat}, n ≤ 1000 → n < sizeLine := fun h => small1000 h
    have up : ∀ {H1 : Hp} {z : Str}, TblAt K C H1 p dx o dp dw du P j → z ∈ P.kinds → DGet H1 du (.str z) (some (.str ((Hm.made P).upp z))) := fun t1 hz => by
      rw [← uL_val hz]
      exact DGet.k (k := Sum.inr _) t1.up
    have um : ∀ {z : Str}, z ∈ P.kinds → (Hm.made P).upp z ∈ P.kinds := fun hz => Hm.made_mem ok hz
    -- pairs
    refine ⟨.ref p, rfl, p, C, dx, _, _, rfl, t.ob, T.cl, T.nO, tf_o, o, _, rfl, t.or_.sq, fun J wk D nD => ?_⟩
    have wk' : Walk J (List.range P.kinds.length).length (StayAt H o) (YPair (fun i => some (.int (i : Nat))) (fun i => (P.kinds.map V.str)[i]?)) := by
      rw [List.length_range]
      rw [List.length_map] at wk
      exact wk
    refine lc2_f (xs := List.range P.kinds.length) wk' (fun H1 s1 => stay_of s1 o) nD (fun i => P.kinds.drop (i + 1)) (fun _ _ => true) (fun i c => (P.kinds.getD i Str.empty, c)) TPs steady_tps (small (Nat.le_trans (drops_few ok.few) (by decide))) (fun i a x H1 H2 e s1 hD y IN NB body => ?_) fun H1 acc s1 hD hp1 => ?_
    · obtain ⟨hi, ea⟩ := List.getElem?_eq_some_iff.mp e
      rw [List.length_range] at hi
      have ea' : a = i := by rw [← ea, List.getElem_range]
      subst ea'
      obtain ⟨acc, hD⟩ := hD
      obtain ⟨t1, x1, y1, rfl, nt1, rfl, h1, h2⟩ := y
      have e1 : x1 = .int (a : Nat) := (Option.some.inj h1).symm
      have e2 : y1 = .str P.kinds[a] := by
        have h2 : (P.kinds.map V.str)[a]? = some y1 := h2
        rw [List.getElem?_map, List.getElem?_eq_getElem hi] at h2
        exact (Option.some.inj h2).symm
      subst e1 e2
      have s2 := same_new (o := .tup [.int (a : Nat), .str P.kinds[a]]) nt1
      refine ⟨t1, _, rfl, .inl (.inl upd_same), rfl, _, _, rfl, _, _, rfl, rfl, rfl, ?_⟩
      have t2 := t.same (s1.trans s2)
      refine ⟨.ref p, rfl, p, C, dx, _, _, rfl, t2.ob, T.cl, T.nO, tf_o, .int (a : Nat), rfl, (a : Nat), 1, rfl, rfl, _, rfl, o, _, rfl, t2.or_.sq, ?_, fun k nk => ?_⟩
      · rw [show ((a : Nat) : Int) + 1 = ((a + 1 : Nat) : Int) by omega, HT.sIx_nat, List.length_map]
        intro z
        have := z.1
        omega
      have s3 := same_new (o := .tup (cutV (P.kinds.map V.str) (some ((a : Nat) + 1)) none)) nk
      have ec : cutV (P.kinds.map V.str) (some (((a : Nat) : Int) + 1)) none = (P.kinds.drop (a + 1)).map V.str := by
        rw [show ((a : Nat) : Int) + 1 = ((a + 1 : Nat) : Int) by omega, cut_from, List.map_drop]
      rw [ec] at s3 ⊢
      have hk : SqT K (upd (upd H1 t1 (.tup [.int (a : Nat), .str P.kinds[a]])) k (.tup ((P.kinds.drop (a + 1)).map V.str))) k ((P.kinds.drop (a + 1)).map V.str) := .inl (.inl upd_same)
      refine ⟨k, _, rfl, .inr ⟨hk, fun J1 w1 => ?_⟩⟩
      rw [List.length_map] at w1
      have hD4 := s3 _ _ (s2 _ _ hD)
      refine body _ J1 _ _ _ (s2.trans s3) w1 (fun H5 k5 => sqt_but k5 hD4 hk) fun j2 c x H5 H6 ej k5 y5 Ny Nn hy hn => ?_
      obtain ⟨rfl, yc⟩ := y5
      obtain rfl := str_get ej yc
      refine ⟨rfl, .str P.kinds[a], rfl, .str c, rfl, (by show 2 ≤ sizeLine; decide), fun k2 nk2 => hy rfl _ _ (same_new nk2) ⟨k2, rfl, ?_⟩⟩
      rw [List.getD_eq_getElem?_getD, List.getElem?_eq_getElem hi]
      exact upd_same
    have ep : ((List.range P.kinds.length).flatMap fun i => ((P.kinds.drop (i + 1)).filter fun _ => true).map fun c => (P.kinds.getD i Str.empty, c)) = Hm.pairs P.kinds := by
      rw [← pairs_range]
      congr 1
      funext i
      rw [filt_all]
    rw [ep] at hp1
    have t1 := t.same s1
    -- alike
    refine ⟨.ref p, rfl, p, C, dx, _, _, rfl, t1.ob, T.cl, T.nO, tf_o, o, _, rfl, iSq_of (.inr t1.or_.sq) fun J G hG wk A nA => ?_⟩
    rw [List.length_map] at wk
    refine lc_f (xs := P.kinds) wk hG nA (fun _ => true) (fun m => (m, m)) TPs steady_tps L8 (fun i z x H2 H3 e s2 y Ny Nn hy hn => ?_) fun H2 acc2 s2 hA hp2 => ?_
    · obtain ⟨rfl, yx⟩ := y
      obtain rfl := str_get e yx
      exact ⟨rfl, .str z, rfl, .str z, rfl, (by show 2 ≤ sizeLine; decide), fun k nk => hy rfl _ _ (same_new nk) ⟨k, rfl, upd_same⟩⟩
    rw [filt_all] at hp2
    have t2 := t1.same s2
    have l1 := Paired.length hp1
    have l2 := Paired.length hp2
    rw [List.length_map] at l2
    -- any_two
    refine ⟨.ref D, rfl, .ref A, rfl, D, A, acc, acc2, rfl, rfl, s2 _ _ hD, hA, ?_, fun S nS => ?_⟩
    · exact Nat.le_of_lt (small (by omega))
    have s3 := same_new (o := .lst (acc ++ acc2)) nS
    have t3 := t2.same s3
    have hp3 := paired_app (Paired.steady steady_tps (.of s3) hp2) (Paired.steady steady_tps (.of (s2.trans s3)) hp1)
    refine ⟨S, p, C, dx, o, _, P.kinds, acc ++ acc2, Hm.pairs P.kinds ++ P.kinds.map (fun m => (m, m)), rfl, .inl (.inl upd_same), hp3, rfl, t3.ob, T.cl, T.nO, tf_o, t3.or_, fun q hq => ?_, hT.ext ((s1.trans s2).trans s3), fun H4 U us eN T4 nU hu => ?_⟩
    · rcases List.mem_append.mp hq with hq | hq
      · exact Hm.pairs_mem hq
      · obtain ⟨m, hm, rfl⟩ := List.mem_map.mp hq
        exact ⟨hm, hm⟩
    rw [byPlaces_anyTwo ok.nd] at hu
    have sU := same_new (o := .lst us) nU
    generalize h5 : upd H4 U (.lst us) = H5 at sU
    have hU : H5 U = some (.lst us) := by rw [← h5]; exact upd_same
    have hu5 : Paired (TPs H5) us (Hm.anyTwo P.kinds) := Paired.steady steady_tps (.of sU) hu
    have e05 : ExtN H H5 := (ExtN.of ((s1.trans s2).trans s3)).trans (eN.trans (ExtN.of sU))
    have T5 := T4.ext sU
    have t5 : TblAt K C H5 p dx o dp dw du P j := (t3.ext eN).same sU
    have hD5 : H5 D = some (.lst acc) := sU _ _ (eN _ _ (s3 _ _ (s2 _ _ hD)) fun _ z => nomatch z)
    have hp5 : Paired (TPs H5) acc (Hm.pairs P.kinds) := Paired.mapP (Paired.steady steady_tps (.of (s2.trans s3)) hp1) fun _ _ h => Paired.elimTP h eN sU
    -- goals
    refine ⟨.ref p, rfl, p, C, dx, _, _, rfl, t5.ob, T.cl, T.nO, tf_o, o, _, rfl, iSq_of (.inr t5.or_.sq) fun J G hG wk Gl nG => ?_⟩
    rw [List.length_map] at wk
    refine lc_f (xs := P.kinds) wk hG nG (fun _ => true) (fun m => (m, (Hm.made P).upp m)) TPs steady_tps L8 (fun i z x H6 H7 e s6 y Ny Nn hy hn => ?_) fun H6 acc6 s6 hG6 hp6 => ?_
    · obtain ⟨rfl, yx⟩ := y
      obtain rfl := str_get e yx
      have t6 := t5.same s6
      exact ⟨rfl, .str z, rfl, .ref p, rfl, p, C, dx, _, _, rfl, t6.ob, T.cl, T.nU, tf_u, .str z, rfl, du, _, rfl, up t6 (List.mem_of_getElem? e), (by show 2 ≤ sizeLine; decide), fun k nk => hy rfl _ _ (same_new nk) ⟨k, rfl, upd_same⟩⟩
    rw [filt_all] at hp6
    have t6 := t5.same s6
    have l6 := Paired.length hp6
    rw [List.length_map] at l6
    -- found
    refine ⟨.ref Gl, rfl, Gl, acc6, rfl, iSq_of (.inl (.inl (.inl hG6))) fun J G hG wk L nL => ?_⟩
    rw [l6] at wk
    refine lc_f (xs := P.kinds) wk hG nL (fun m => !Hm.bears (Hm.made P) ((Hm.made P).upp m) ((Hm.made P).upp ((Hm.made P).upp m))) (fun m => flT (0, [m])) (RTup K) steady_tup L8 (fun i z x H7 H8 e s7 y Ny Nn hy hn => ?_) fun H7 acc7 s7 hL hp7 => ?_
    · obtain ⟨rfl, yx⟩ := y
      have hz : z ∈ P.kinds := List.mem_of_getElem? e
      obtain ⟨g, rfl, hg⟩ := paired_get (y := (z, (Hm.made P).upp z)) hp6 yx (by rw [List.getElem?_map, e]; rfl)
      have t7 := t6.same s7
      refine ⟨g, _, rfl, .inl (.inl (s7 _ _ hg)), rfl, _, _, rfl, _, _, rfl, rfl, rfl, ?_⟩
      refine ⟨.ref p, rfl, p, dx, _, rfl, t7.ob, tf_no rfl, .str ((Hm.made P).upp z), rfl, .ref p, rfl, p, C, dx, _, _, rfl, t7.ob, T.cl, T.nU, tf_u, .str ((Hm.made P).upp z), rfl, du, _, rfl, up t7 (um hz), p, _, _, P, rfl, ⟨dx, o, dp, dw, du, j, t7⟩, ok, um hz, um (um hz), fun H9 s9 => ⟨_, rfl, ?_⟩⟩
      cases eb : Hm.bears (Hm.made P) ((Hm.made P).upp z) ((Hm.made P).upp ((Hm.made P).upp z)) with
      | true => exact iteF (hn (by rw [eb]; rfl) _ s9)
      | false => exact iteT ⟨.str z, rfl, (by show 2 ≤ sizeLine; decide), fun k nk => hy (by rw [eb]; rfl) _ _ (s9.trans (same_new nk)) ⟨k, rfl, .inl (.inl upd_same)⟩⟩
    have a7 : ((P.kinds.filter fun m => !Hm.bears (Hm.made P) ((Hm.made P).upp m) ((Hm.made P).upp ((Hm.made P).upp m))).map fun m => flT (0, [m])) = (Hm.fAbove (Hm.made P)).map flT := by
      unfold Hm.fAbove
      rw [List.map_map]
      rfl
    rw [a7] at hp7
    have s57 := s6.trans s7
    have t7 := t6.same s7
    have nDL : D ≠ L := ne_of_none (s6 _ _ hD5) nL
    have nUL : U ≠ L := ne_of_none (s6 _ _ hU) nL
    have nl : ∀ {Hc : Hp} {M : List (List Str)}, FS K H7 Hc L M → NL H7 Hc := fun f => nl_kp f.kp hL
    have tb : ∀ {Hc : Hp} {M : List (List Str)}, FS K H7 Hc L M → TblAt K C Hc p dx o dp dw du P j := fun f => t7.nl (nl f)
    have dl : ∀ {Hc : Hp} {M : List (List Str)}, FS K H7 Hc L M → Hc D = some (.lst acc) := fun f => f.kp D _ (fun z => nDL (List.mem_singleton.mp z)) (s57 _ _ hD5)
    have ul : ∀ {Hc : Hp} {M : List (List Str)}, FS K H7 Hc L M → Hc U = some (.lst us) := fun f => f.kp U _ (fun z => nUL (List.mem_singleton.mp z)) (s57 _ _ hU)
    have dpr : ∀ {Hc : Hp} {M : List (List Str)}, FS K H7 Hc L M → Paired (TPs Hc) acc (Hm.pairs P.kinds) := fun f => Paired.steady steady_tps ((NL.of s57).trans (nl f)) hp5
    have upr : ∀ {Hc : Hp} {M : List (List Str)}, FS K H7 Hc L M → Paired (TPs Hc) us (Hm.anyTwo P.kinds) := fun f => Paired.steady steady_tps ((NL.of s57).trans (nl f)) hu5
    have lU := Paired.length hu5
    have aU := Hm.anyTwo_few ok.few
    have f0 : FS K H7 H7 L ((Hm.fAbove (Hm.made P)).map flT) := ⟨Kp.refl _ _, _, hL, hp7⟩
    have m0 : ((Hm.fAbove (Hm.made P)).map flT).length ≤ 8 := by
      rw [← a7, List.length_map]
      exact Nat.le_trans (List.length_filter_le _ _) ok.few
    obtain ⟨u0, h0, q0⟩ := f0.at_
    refine ⟨.ref L, rfl, .inl ⟨rfl, _, .inl (.inl h0)⟩, .ref D, rfl, D, acc, rfl, iSq_of (.inl (.inl (.inl (dl f0)))) fun J G hG wk A0 nA0 => ?_⟩
    rw [l1] at wk
    refine lc_f (xs := Hm.pairs P.kinds) wk hG nA0 (fun q => (Hm.joined (Hm.made P) q.1 q.2).isNone) (fun q => flT (1, [q.1, q.2])) (RTup K) steady_tup (small (by omega)) (fun i z x Hx Hy e sx y Ny Nn hy hn => ?_) fun Hz accz sz hAz hpz => ?_
    · obtain ⟨rfl, yx⟩ := y
      obtain ⟨g, rfl, hg⟩ := paired_get (dpr f0) yx e
      have hg := sx _ _ hg
      obtain ⟨z1, z2⟩ := Hm.pairs_mem (List.mem_of_getElem? e)
      have tx := (tb f0).same sx
      have cat : ∀ Hw, Same Hy Hw → True := fun _ _ => trivial
      refine ⟨rfl, .ref p, rfl, p, dx, _, rfl, tx.ob, tf_no rfl, .ref g, rfl, g, _, 0, .str z.1, rfl, rfl, .inl (.inl hg), atI_nat (j := 0) rfl, .ref g, rfl, g, _, 1, .str z.2, rfl, rfl, .inl (.inl hg), atI_nat (j := 1) rfl, p, _, _, P, rfl, ⟨dx, o, dp, dw, du, j, tx⟩, ok, hN, z1, z2, fun H9 s9 => ⟨rfl, _, rfl, ?_⟩⟩
      cases ej : Hm.joined (Hm.made P) z.1 z.2 with
      | some v => exact iteF (hn (by rw [ej]; rfl) _ s9)
      | none => exact iteT ⟨(by show 1 ≤ sizeLine; decide), fun k nk => ⟨.ref g, rfl, k, g, _, _, rfl, rfl, .inl (.inl upd_same), .inl (.inl ((same_new nk) _ _ (s9 _ _ hg))), (fun z => nomatch z), (by show 1 + 2 ≤ sizeLine; decide), (fun z => nomatch z), fun _ k2 nk2 => hy (by rw [ej]; rfl) _ _ ((s9.trans (same_new nk)).trans (same_new nk2)) ⟨k2, rfl, .inl (.inl upd_same)⟩⟩⟩
    have a1 : (((Hm.pairs P.kinds).filter (fun q => (Hm.joined (Hm.made P) q.1 q.2).isNone)).map fun q => flT (1, [q.1, q.2])) = (Hm.fApart (Hm.made P)).map flT := by
      unfold Hm.fApart
      rw [List.map_map]
      rfl
    have b1 : ((Hm.fApart (Hm.made P)).map flT).length ≤ 36 := by
      rw [← a1, List.length_map]
      exact Nat.le_trans (List.length_filter_le _ _) (by omega)
    rw [a1] at hpz
    have g0 := f0.same sz
    refine ⟨L, A0, u0, accz, rfl, rfl, sz _ _ h0, hAz, ?_, ?_⟩
    · have c1 := Paired.length q0
      have c2 := Paired.length hpz
      exact Nat.le_of_lt (small (by omega))
    have f1 := g0.more (sz _ _ h0) (Paired.steady steady_tup (.of sz) q0) hpz
    have m1 : (List.length (List.map flT (Hm.fAbove (Hm.made P)) ++ List.map flT (Hm.fApart (Hm.made P)))) ≤ 44 := by
      rw [List.length_append]
      omega
    generalize upd Hz L (.lst (u0 ++ accz)) = H0x at f1 ⊢
    obtain ⟨u1, h1, q1⟩ := f1.at_
    refine ⟨.ref L, rfl, .inl ⟨rfl, _, .inl (.inl h1)⟩, .ref D, rfl, D, acc, rfl, iSq_of (.inl (.inl (.inl (dl f1)))) fun J G hG wk A1 nA1 => ?_⟩
    rw [l1] at wk
    refine lc_f (xs := Hm.pairs P.kinds) wk hG nA1 (fun q => !Hm.isOver (Hm.made P) q.1 q.2) (fun q => flT (2, [q.1, q.2])) (RTup K) steady_tup (small (by omega)) (fun i z x Hx Hy e sx y Ny Nn hy hn => ?_) fun Hz accz sz hAz hpz => ?_
    · obtain ⟨rfl, yx⟩ := y
      obtain ⟨g, rfl, hg⟩ := paired_get (dpr f1) yx e
      have hg := sx _ _ hg
      obtain ⟨z1, z2⟩ := Hm.pairs_mem (List.mem_of_getElem? e)
      have tx := (tb f1).same sx
      have cat : ∀ Hw, Same Hy Hw → True := fun _ _ => trivial
      refine ⟨rfl, .ref p, rfl, p, dx, _, rfl, tx.ob, tf_no rfl, .ref g, rfl, g, _, 0, .str z.1, rfl, rfl, .inl (.inl hg), atI_nat (j := 0) rfl, .ref g, rfl, g, _, 1, .str z.2, rfl, rfl, .inl (.inl hg), atI_nat (j := 1) rfl, p, _, _, P, rfl, ⟨dx, o, dp, dw, du, j, tx⟩, ok, hN, z1, z2, fun H9 s9 => ⟨_, rfl, ?_⟩⟩
      cases ej : Hm.isOver (Hm.made P) z.1 z.2 with
      | true => exact iteF (hn (by rw [ej]; rfl) _ s9)
      | false => exact iteT ⟨(by show 1 ≤ sizeLine; decide), fun k nk => ⟨.ref g, rfl, k, g, _, _, rfl, rfl, .inl (.inl upd_same), .inl (.inl ((same_new nk) _ _ (s9 _ _ hg))), (fun z => nomatch z), (by show 1 + 2 ≤ sizeLine; decide), (fun z => nomatch z), fun _ k2 nk2 => hy (by rw [ej]; rfl) _ _ ((s9.trans (same_new nk)).trans (same_new nk2)) ⟨k2, rfl, .inl (.inl upd_same)⟩⟩⟩
    have a2 : (((Hm.pairs P.kinds).filter (fun q => !Hm.isOver (Hm.made P) q.1 q.2)).map fun q => flT (2, [q.1, q.2])) = (Hm.fOver (Hm.made P)).map flT := by
      unfold Hm.fOver
      rw [List.map_map]
      rfl
    have b2 : ((Hm.fOver (Hm.made P)).map flT).length ≤ 36 := by
      rw [← a2, List.length_map]
      exact Nat.le_trans (List.length_filter_le _ _) (by omega)
    rw [a2] at hpz
    have g1 := f1.same sz
    refine ⟨L, A1, u1, accz, rfl, rfl, sz _ _ h1, hAz, ?_, ?_⟩
    · have c1 := Paired.length q1
      have c2 := Paired.length hpz
      exact Nat.le_of_lt (small (by omega))
    have f2 := g1.more (sz _ _ h1) (Paired.steady steady_tup (.of sz) q1) hpz
    have m2 : (List.length (List.map flT (Hm.fAbove (Hm.made P)) ++ List.map flT (Hm.fApart (Hm.made P)) ++ List.map flT (Hm.fOver (Hm.made P)))) ≤ 80 := by
      rw [List.length_append]
      omega
    generalize upd Hz L (.lst (u1 ++ accz)) = H1x at f2 ⊢
    obtain ⟨u2, h2, q2⟩ := f2.at_
    refine ⟨.ref L, rfl, .inl ⟨rfl, _, .inl (.inl h2)⟩, .ref U, rfl, U, us, rfl, iSq_of (.inl (.inl (.inl (ul f2)))) fun J G hG wk A2 nA2 => ?_⟩
    rw [lU] at wk
    refine lc_f (xs := Hm.anyTwo P.kinds) wk hG nA2 (fun q => (Hm.made P).bes q.1 q.2 && Hm.quarrel (Hm.made P) q.1 q.2) (fun q => flT (3, [q.1, q.2])) (RTup K) steady_tup (small (by omega)) (fun i z x Hx Hy e sx y Ny Nn hy hn => ?_) fun Hz accz sz hAz hpz => ?_
    · obtain ⟨rfl, yx⟩ := y
      obtain ⟨g, rfl, hg⟩ := paired_get (upr f2) yx e
      have hg := sx _ _ hg
      obtain ⟨z1, z2⟩ := Hm.anyTwo_mem (List.mem_of_getElem? e)
      have tx := (tb f2).same sx
      have cat : ∀ Hw, Same Hy Hw → True := fun _ _ => trivial
      refine ⟨rfl, .ref g, rfl, .ref p, rfl, p, C, dx, _, _, rfl, tx.ob, T.cl, T.nP, tf_p, dp, _, rfl, DGet.t (k := [.inr z.1, .inr z.2]) tx.pr hg, _, rfl, ?_⟩
      rw [prs_bes]
      cases eb : (Hm.made P).bes z.1 z.2 with
      | false => exact iteF (hn (by rw [eb]; rfl) _ (Same.refl _))
      | true =>
      refine iteT ⟨.ref p, rfl, p, dx, _, rfl, tx.ob, tf_no rfl, .ref g, rfl, g, _, 0, .str z.1, rfl, rfl, .inl (.inl hg), atI_nat (j := 0) rfl, .ref g, rfl, g, _, 1, .str z.2, rfl, rfl, .inl (.inl hg), atI_nat (j := 1) rfl, p, _, _, P, rfl, ⟨dx, o, dp, dw, du, j, tx⟩, ok, z1, z2, fun H9 s9 => ⟨_, rfl, ?_⟩⟩
      cases ej : Hm.quarrel (Hm.made P) z.1 z.2 with
      | false => exact iteF (hn (by rw [eb, ej]; rfl) _ s9)
      | true => exact iteT ⟨(by show 1 ≤ sizeLine; decide), fun k nk => ⟨.ref g, rfl, k, g, _, _, rfl, rfl, .inl (.inl upd_same), .inl (.inl ((same_new nk) _ _ (s9 _ _ hg))), (fun z => nomatch z), (by show 1 + 2 ≤ sizeLine; decide), (fun z => nomatch z), fun _ k2 nk2 => hy (by rw [eb, ej]; rfl) _ _ ((s9.trans (same_new nk)).trans (same_new nk2)) ⟨k2, rfl, .inl (.inl upd_same)⟩⟩⟩
    have a3 : (((Hm.anyTwo P.kinds).filter (fun q => (Hm.made P).bes q.1 q.2 && Hm.quarrel (Hm.made P) q.1 q.2)).map fun q => flT (3, [q.1, q.2])) = (Hm.fQuar (Hm.made P)).map flT := by
      unfold Hm.fQuar
      rw [List.map_map]
      rfl
    have b3 : ((Hm.fQuar (Hm.made P)).map flT).length ≤ 36 := by
      rw [← a3, List.length_map]
      exact Nat.le_trans (List.length_filter_le _ _) (by omega)
    rw [a3] at hpz
    have g2 := f2.same sz
    refine ⟨L, A2, u2, accz, rfl, rfl, sz _ _ h2, hAz, ?_, ?_⟩
    · have c1 := Paired.length q2
      have c2 := Paired.length hpz
      exact Nat.le_of_lt (small (by omega))
    have f3 := g2.more (sz _ _ h2) (Paired.steady steady_tup (.of sz) q2) hpz
    have m3 : (List.length (List.map flT (Hm.fAbove (Hm.made P)) ++ List.map flT (Hm.fApart (Hm.made P)) ++ List.map flT (Hm.fOver (Hm.made P)) ++ List.map flT (Hm.fQuar (Hm.made P)))) ≤ 116 := by
      rw [List.length_append]
      omega
    generalize upd Hz L (.lst (u2 ++ accz)) = H2x at f3 ⊢
    generalize hB : List.map flT (Hm.fAbove (Hm.made P)) ++ List.map flT (Hm.fApart (Hm.made P)) ++ List.map flT (Hm.fOver (Hm.made P)) ++ List.map flT (Hm.fQuar (Hm.made P)) = BL at f3 m3
    have ben : ∀ a, ((Hm.fBen1 (Hm.made P) a).map flT).length ≤ 64 ∧ (Hm.rowsOf (Hm.made P) a).length ≤ 64 := fun a => by
      have h1 : (Hm.rowsOf (Hm.made P) a).length ≤ 64 := by
        unfold Hm.rowsOf
        have h3 : ((Hm.made P).ord.filter fun b => Hm.quarrel (Hm.made P) a b).length ≤ 8 := Nat.le_trans (List.length_filter_le _ _) ok.few
        have h4 : ((Hm.made P).ord.filter fun c => (Hm.made P).bes a c).length ≤ 8 := Nat.le_trans (List.length_filter_le _ _) ok.few
        rw [flat_len]
        exact Nat.mul_le_mul h3 h4
      refine ⟨?_, h1⟩
      unfold Hm.fBen1
      rw [List.length_map, List.length_map]
      exact Nat.le_trans (List.length_filter_le _ _) h1
    have benL : ∀ l : List Str, (l.flatMap fun a => (Hm.fBen1 (Hm.made P) a).map flT).length ≤ 64 * l.length := fun l => by
      induction l with
      | nil => exact Nat.le_refl _
      | cons a l ih =>
        rw [List.flatMap_cons, List.length_append, List.length_cons]
        have := (ben a).1
        omega
    refine ⟨.ref p, rfl, p, C, dx, _, _, rfl, (tb f3).ob, T.cl, T.nO, tf_o, o, _, rfl, .inr ⟨(tb f3).or_.sq, fun J wk => ?_⟩⟩
    rw [List.length_map] at wk
    refine for_it wk (fun i σ Hc => (∃ y1 y7 y8 y9, σ = [some (.ref p), y1, some (.ref D), some (.ref A), some (.ref U), some (.ref Gl), some (.ref L), y7, y8, y9, none, none, none, none, none, none]) ∧ FS K H7 Hc L (BL ++ (P.kinds.take i).flatMap fun a => (Hm.fBen1 (Hm.made P) a).map flT))
      ⟨⟨none, none, none, none, rfl⟩, by rw [List.take_zero, List.flatMap_nil, List.append_nil]; exact f3⟩ (fun i σ Hc _ h => (tb h.2).or_.sq) (fun i x σ Hc Hy hi h y => ?_) fun σ Hc h => ?_
    · obtain ⟨⟨y1, y7, y8, y9, rfl⟩, fc⟩ := h
      obtain ⟨rfl, yx⟩ := y
      have ez : P.kinds[i]? = some P.kinds[i] := List.getElem?_eq_getElem hi
      obtain rfl := str_get ez yx
      generalize hz0 : P.kinds[i] = z at *
      have hz : z ∈ P.kinds := List.mem_of_getElem? ez
      have tc := tb fc
      -- worse
      refine ⟨.ref p, rfl, p, C, dx, _, _, rfl, tc.ob, T.cl, T.nO, tf_o, o, _, rfl, iSq_of (.inr tc.or_.sq) fun J G hG wk W1 nW => ?_⟩
      rw [List.length_map] at wk
      refine lc_f (xs := P.kinds) wk hG nW (fun b => Hm.quarrel (Hm.made P) z b) (fun m => m) RStr steady_str L8 (fun i2 z2 x2 Hx Hw e sx y Ny Nn hy hn => ?_) fun Hz accz sz hW hpz => ?_
      · obtain ⟨rfl, yx2⟩ := y
        obtain rfl := str_get e yx2
        have tx := tc.same sx
        refine ⟨rfl, .ref p, rfl, p, dx, _, rfl, tx.ob, tf_no rfl, .str z, rfl, .str z2, rfl, p, _, _, P, rfl, ⟨dx, o, dp, dw, du, j, tx⟩, ok, hz, List.mem_of_getElem? e, fun H9 s9 => ⟨_, rfl, ?_⟩⟩
        cases eq : Hm.quarrel (Hm.made P) z z2 with
        | false => exact iteF (hn eq _ s9)
        | true => exact iteT ⟨.str z2, rfl, hy eq _ _ s9 rfl⟩
      rw [List.map_id'] at hpz
      rw [strs_of hpz] at hW
      have tz := tc.same sz
      -- near
      refine ⟨.ref p, rfl, p, C, dx, _, _, rfl, tz.ob, T.cl, T.nO, tf_o, o, _, rfl, iSq_of (.inr tz.or_.sq) fun J G hG wk N1 nN => ?_⟩
      rw [List.length_map] at wk
      refine lc_f (xs := P.kinds) wk hG nN (fun b => (Hm.made P).bes z b) (fun m => m) RStr steady_str L8 (fun i2 z2 x2 Hx Hw e sx y Ny Nn hy hn => ?_) fun Hn accn sn hNr hpn => ?_
      · obtain ⟨rfl, yx2⟩ := y
        obtain rfl := str_get e yx2
        have tx := tz.same sx
        refine ⟨rfl, .str z, rfl, .str z2, rfl, (by show 2 ≤ sizeLine; decide), fun k nk => ?_⟩
        have s4 := same_new (o := .tup [.str z, .str z2]) nk
        refine ⟨.ref p, rfl, p, C, dx, _, _, rfl, s4 _ _ tx.ob, T.cl, T.nP, tf_p, dp, _, rfl, DGet.t (k := [.inr z, .inr z2]) (s4 _ _ tx.pr) upd_same, _, rfl, ?_⟩
        rw [prs_bes]
        cases eb : (Hm.made P).bes z z2 with
        | false => exact iteF (hn eb _ s4)
        | true => exact iteT ⟨.str z2, rfl, hy eb _ _ s4 rfl⟩
      rw [List.map_id'] at hpn
      rw [strs_of hpn] at hNr
      have tn := tz.same sn
      generalize hwl : (P.kinds.filter fun b => Hm.quarrel (Hm.made P) z b) = wl at hW
      generalize hnl : (P.kinds.filter fun b => (Hm.made P).bes z b) = nrl at hNr
      have wl8 : wl.length ≤ 8 := by rw [← hwl]; exact Nat.le_trans (List.length_filter_le _ _) ok.few
      have nl8 : nrl.length ≤ 8 := by rw [← hnl]; exact Nat.le_trans (List.length_filter_le _ _) ok.few
      have wlm : ∀ b ∈ wl, b ∈ P.kinds := fun b hb => by rw [← hwl] at hb; exact (List.mem_filter.mp hb).1
      have nlm : ∀ b ∈ nrl, b ∈ P.kinds := fun b hb => by rw [← hnl] at hb; exact (List.mem_filter.mp hb).1
      -- rows
      refine ⟨.ref W1, rfl, W1, _, rfl, iSq_of (.inl (.inl (.inl (sn _ _ hW)))) fun J G hG wk R1 nR => ?_⟩
      rw [List.length_map] at wk
      refine lc2_f (xs := wl) wk hG nR (fun _ => nrl) (fun _ _ => true) (fun b c => [fW 4, z, b, c]) (RTup K) steady_tup (small (by
          rw [flat_len0]
          exact Nat.le_trans (Nat.mul_le_mul wl8 nl8) (by decide))) (fun i2 b x2 Hx Hw e sx hD y IN NB body => ?_) fun Hr accr sr hRr hpr => ?_
      · obtain ⟨rfl, yx2⟩ := y
        obtain rfl := str_get e yx2
        obtain ⟨accd, hD⟩ := hD
        have nNR : N1 ≠ R1 := ne_of_none hNr nR
        have hN4 : SqL K Hw N1 (nrl.map V.str) := .inl (.inl (sx _ _ hNr))
        refine ⟨rfl, .ref N1, rfl, N1, _, rfl, .inl ⟨hN4, fun J1 w1 => ?_⟩⟩
        rw [List.length_map] at w1
        refine body _ J1 _ _ _ (Same.refl _) w1 (fun H5 k5 => .inl (.inl (k5 _ _ (fun z => nNR (List.mem_singleton.mp z)) (sx _ _ hNr)))) fun j2 c x5 H5 H6 ej k5 y5 Ny Nn hy hn => ?_
        obtain ⟨rfl, yc⟩ := y5
        obtain rfl := str_get ej yc
        exact ⟨rfl, .str z, rfl, .str b, rfl, .str c, rfl, (by show 4 ≤ sizeLine; decide), fun k nk => hy rfl _ _ (same_new nk) ⟨k, rfl, .inl (.inl upd_same)⟩⟩
      have er : (wl.flatMap fun b => ((nrl.filter fun _ => true).map fun c => [fW 4, z, b, c])) = (Hm.rowsOf (Hm.made P) z).map fun q => [fW 4, z, q.1, q.2] := by
        unfold Hm.rowsOf
        rw [show (Hm.made P).ord = P.kinds from rfl, hwl, hnl, List.map_flatMap]
        congr 1
        funext b
        rw [filt_all, List.map_map]
        rfl
      rw [er] at hpr
      have tr := tn.same sr
      have lr := Paired.length hpr
      rw [List.length_map] at lr
      have fr := ((fc.same sz).same sn).same sr
      obtain ⟨ur, hur, pur⟩ := fr.at_
      have rm : ∀ q ∈ Hm.rowsOf (Hm.made P) z, q.1 ∈ P.kinds ∧ q.2 ∈ P.kinds := fun q hq => Hm.rowsOf_mem hq
      -- found.extend
      refine ⟨.ref L, rfl, .inl ⟨rfl, _, .inl (.inl hur)⟩, .ref R1, rfl, R1, accr, rfl, iSq_of (.inl (.inl (.inl hRr))) fun J G hG wk X1 nX => ?_⟩
      rw [lr] at wk
      refine lc_f (xs := Hm.rowsOf (Hm.made P) z) wk hG nX (fun q => Hm.bears (Hm.made P) q.2 ((Hm.made P).upp q.1)) (fun q => flT (4, [z, q.1, q.2])) (RTup K) steady_tup (small (by have := (ben z).2; omega)) (fun i2 q2 x2 Hx Hw e sx y Ny Nn hy hn => ?_) fun Hf accf sf hXf hpf => ?_
      · obtain ⟨rfl, yx2⟩ := y
        obtain ⟨g, rfl, hg⟩ := paired_get hpr yx2 (y := [fW 4, z, q2.1, q2.2]) (by rw [List.getElem?_map, e]; rfl)
        have hg := SqT.same hg sx
        obtain ⟨z1, z2⟩ := rm _ (List.mem_of_getElem? e)
        have tx := tr.same sx
        refine ⟨rfl, .ref p, rfl, p, dx, _, rfl, tx.ob, tf_no rfl, .ref g, rfl, g, _, 3, .str q2.2, rfl, rfl, hg, atI_nat (j := 3) rfl, .ref p, rfl, p, C, dx, _, _, rfl, tx.ob, T.cl, T.nU, tf_u, .ref g, rfl, g, _, 2, .str q2.1, rfl, rfl, hg, atI_nat (j := 2) rfl, du, _, rfl, up tx z1, p, _, _, P, rfl, ⟨dx, o, dp, dw, du, j, tx⟩, ok, z2, um z1, fun H9 s9 => ⟨_, rfl, ?_⟩⟩
        cases eb : Hm.bears (Hm.made P) q2.2 ((Hm.made P).upp q2.1) with
        | false => exact iteF (hn eb _ s9)
        | true => exact iteT ⟨.ref g, rfl, hy eb _ _ s9 ⟨g, rfl, SqT.same hg s9⟩⟩
      have ef : (((Hm.rowsOf (Hm.made P) z).filter fun q => Hm.bears (Hm.made P) q.2 ((Hm.made P).upp q.1)).map fun q => flT (4, [z, q.1, q.2])) = (Hm.fBen1 (Hm.made P) z).map flT := by
        unfold Hm.fBen1
        rw [List.map_map]
        rfl
      rw [ef] at hpf
      refine ⟨L, X1, ur, accf, rfl, rfl, sf _ _ hur, hXf, ?_, ?_⟩
      · have c1 := Paired.length pur
        have c2 := Paired.length hpf
        have c3 := (ben z).1
        have c4 := benL (P.kinds.take i)
        rw [List.length_append] at c1
        rw [List.length_take] at c4
        have c5 := ok.few
        exact Nat.le_of_lt (small (by omega))
      refine ⟨⟨_, _, _, _, rfl⟩, ?_⟩
      have fn := (fr.same sf).more (sf _ _ hur) (Paired.steady steady_tup (.of sf) pur) hpf
      rw [List.append_assoc] at fn
      have et : (P.kinds.take (i + 1)).flatMap (fun a => (Hm.fBen1 (Hm.made P) a).map flT) = (P.kinds.take i).flatMap (fun a => (Hm.fBen1 (Hm.made P) a).map flT) ++ (Hm.fBen1 (Hm.made P) z).map flT := by
        rw [List.take_add_one, ez, List.flatMap_append]
        show _ ++ List.flatMap _ [z] = _
        rw [List.flatMap_singleton]
      rw [et]
      exact fn
    · obtain ⟨⟨y1, y7, y8, y9, rfl⟩, fc⟩ := h
      rw [List.take_length] at fc
      obtain ⟨uz, hz, pz⟩ := fc.at_
      have nL0 : ∀ b o, H b = some o → (∀ ps, o ≠ .tbl ps) → b ≠ L := fun b o e n => ne_of_none (s6 _ _ (e05 b o e n)) nL
      refine ⟨.ref L, rfl, q Hc L uz (fun b o e n => fc.kp b o (fun z => nL0 b o e n (List.mem_singleton.mp z)) (s57 _ _ (e05 b o e n))) (tabs_nl (T5.ext s57) (nl fc)) hz ?_⟩
      have ea : (Hm.flaws (Hm.made P)).map flT = BL ++ P.kinds.flatMap fun a => (Hm.fBen1 (Hm.made P) a).map flT := by
        unfold Hm.flaws Hm.fBen
        rw [List.map_append, List.map_append, List.map_append, List.map_append, hB, List.map_flatMap]
        rfl
      rw [ea]
      exact pz

end

end Ho
set_option Elab.async false
set_option linter.all false
set_option maxRecDepth 100000
set_option maxHeartbeats 4000000
/-! flaw, __eq__. -/
namespace Ho
open PySem PySem.Spec PyProof.Rows L2
open LamX NdefX
/-- all but p and the tables stands -/
def EN (p : Addr) (H H' : Hp) : Prop := ∀ b o, H b = some o → b ≠ p → (∀ ps, o ≠ .tbl ps) → H' b = some o
theorem flaws_in {P : Hm.Pl Str} (ok : Hm.PlOk P 64) : ∀ q ∈ Hm.flaws (Hm.made P), ∀ z ∈ q.2, z ∈ P.kinds := fun q hq z hz => by
  unfold Hm.flaws at hq
  rcases List.mem_append.mp hq with hq | hq
  · rcases List.mem_append.mp hq with hq | hq
    · rcases List.mem_append.mp hq with hq | hq
      · rcases List.mem_append.mp hq with hq | hq
        · obtain ⟨m, hm, rfl⟩ := List.mem_map.mp hq
          rw [List.mem_singleton.mp hz]
          exact (List.mem_filter.mp hm).1
        · obtain ⟨m, hm, rfl⟩ := List.mem_map.mp hq
          have h := Hm.pairs_mem (List.mem_filter.mp hm).1
          rcases List.mem_cons.mp hz with e | hz
          · rw [e]; exact h.1
          · rw [List.mem_singleton.mp hz]; exact h.2
      · obtain ⟨m, hm, rfl⟩ := List.mem_map.mp hq
        have h := Hm.pairs_mem (List.mem_filter.mp hm).1
        rcases List.mem_cons.mp hz with e | hz
        · rw [e]; exact h.1
        · rw [List.mem_singleton.mp hz]; exact h.2
    · obtain ⟨m, hm, rfl⟩ := List.mem_map.mp hq
      have h := Hm.anyTwo_mem (List.mem_filter.mp hm).1
      rcases List.mem_cons.mp hz with e | hz
      · rw [e]; exact h.1
      · rw [List.mem_singleton.mp hz]; exact h.2
  · obtain ⟨a, ha, hq⟩ := List.mem_flatMap.mp hq
    obtain ⟨m, hm, rfl⟩ := List.mem_map.mp hq
    have h := Hm.rowsOf_mem (List.mem_filter.mp hm).1
    rcases List.mem_cons.mp hz with e | hz
    · rw [e]; exact ha
    · rcases List.mem_cons.mp hz with e | hz
      · rw [e]; exact h.1
      · rw [List.mem_singleton.mp hz]; exact h.2
theorem cut_one (xs : List V) : cutV xs none (some 1) = xs.take 1 := by
  unfold cutV
  rw [HT.sIx_none, show HT.sIx xs.length xs.length (some 1) = min 1 xs.length from HT.sIx_nat xs.length xs.length 1]
  cases xs with
  | nil => rfl
  | cons a r =>
    rw [List.length_cons, show min 1 (r.length + 1) = 1 by omega]
    rfl
theorem paired_take {α β : Type} {R : α → β → Prop} : ∀ {xs : List α} {ys : List β}, Paired R xs ys → Paired R (xs.take 1) (ys.take 1)
  | _, _, .nil => .nil
  | _, _, .cons h _ => .cons h .nil
/-- the first flaw as a value -/
def FlV (K : PySem.W.Frag) (H : Hp) (v : V) : Option (Nat × List Str) → Prop
  | none => v = .non
  | some q => RTup K H v (flT q)
section
variable {P : Program} {w : World} {K : PySem.W.Frag} {mg : Str → Option Value} {base : Heap}
/-! ### flaw -/
abbrev sFlaw : Stmt := inClass (topS 21) 11
theorem tf_set (o dp dw du : Addr) (j j' : V) : putF "judged" j' (tf o dp dw du j) = tf o dp dw du j' := by rfl
theorem scFlaw : FnScope ["self"] ["self"] (defScope sFlaw) := ⟨rfl, rfl, rfl, by decide +kernel, rfl, by decide +kernel, by decide +kernel⟩
def spFlaw (K : PySem.W.Frag) (C : Addr) (Tb : List (Addr × Str)) : Sp := fun vs H Q _ => ∃ (p dx o dp dw du : Addr) (P : Hm.Pl Str), vs = [.ref p] ∧ TblAt K C H p dx o dp dw du P .non ∧ Hm.PlOk P 64 ∧ (∀ z ∈ P.kinds, Nm z) ∧ Tabs Tb H ∧
  ∀ H' v l, EN p H H' → Tabs Tb H' → TblAt K C H' p dx o dp dw du P (.ref l) → FlV K H' v (Hm.flaw (Hm.made P)) → Q v H'
theorem ok_flaw {f C fW : Addr} {fd fdW : FuncData} {Tb : List (Addr × Str)} (F : Fun K "flaw" "Table.flaw" sFlaw f fd) (T : Tt K mg C) (FW : Fun K "flaws" "Table.flaws" sFlaws fW fdW) (bW : Binds K fdW ["self"] []) (mW : Meth K C "flaws" fW) (GW : FnOk P w K mg base CX0 6 fW fdW ["self"] (spFlaws K C Tb)) :
    FnOk P w K mg base CX0 7 f fd ["self"] (spFlaw K C Tb) := by
  refine F.ok scFlaw (fun vs H Q E h => ?_) (fun cdv A outer s H vs Q E hr h => ?_)
  · obtain ⟨p, dx, o, dp, dw, du, P, rfl, _⟩ := h
    rfl
  · obtain ⟨p, dx, o, dp, dw, du, P, rfl, t, ok, hN, hT, q⟩ := h
    refine ⟨_, (pss_cons (ps_if (pt_cmpR op_isN (fldK K (pv 0) rfl) pe_non (nomark _)) (pss_one (ps_fld (pv 0) (pe_slice (s_list K) (pe_meth0 (pv 0) T.cl mW GW hr bW .nil pass0) po_none (po_some pe_int)) rfl)) pss_nil) (pss_one (ps_ret (pe_ifExp (pt_cmpR (op_neD hr.units) (fldK K (pv 0) rfl) (pe_lst pa_nil) (nomark _)) (pe_ix (i_list K) (fldK K (pv 0) rfl) pe_int (fun _ _ => rfl)) pe_non)))), ?_⟩
    refine ⟨.ref p, rfl, p, C, dx, _, _, rfl, t.ob, T.cl, T.nJ, tf_j, rfl, _, rfl, ?_⟩
    refine iteT ?_
    refine ⟨.ref p, rfl, p, dx, _, rfl, t.ob, tf_no rfl, p, P, rfl, ⟨dx, o, dp, dw, du, _, t⟩, ok, hN, hT, fun H1 l us e1 T1 hl hp => ?_⟩
    have t1 := t.ext e1
    refine ⟨1, rfl, l, us, rfl, .inl (.inl hl), fun k nk => ?_⟩
    have s2 := same_new (o := .lst (cutV us none (some 1))) nk
    have t2 := t1.same s2
    rw [cut_one] at s2 t2 ⊢
    refine ⟨.ref p, rfl, p, C, dx, _, rfl, t2.ob, T.cl, T.nJ, (by show 5 < 1000; decide), ?_⟩
    rw [tf_set]
    generalize h3 : upd (upd H1 k (.lst (us.take 1))) p (.ins C dx (tf o dp dw du (.ref k))) = H3
    have k3 : ∀ b u, upd H1 k (.lst (us.take 1)) b = some u → b ≠ p → H3 b = some u := fun b u e n => by rw [← h3, upd_ne n]; exact e
    have nip : ∀ {b : Addr} {u : HO}, upd H1 k (.lst (us.take 1)) b = some u → (∀ fs, u ≠ .ins C dx fs) → b ≠ p := fun e n z => by
      rw [z, t2.ob] at e
      cases e
      exact n _ rfl
    have ob3 : H3 p = some (.ins C dx (tf o dp dw du (.ref k))) := by rw [← h3]; exact upd_same
    have t3 : TblAt K C H3 p dx o dp dw du P (.ref k) := by
      refine ⟨ob3, ⟨SqT.ni t2.or_.sq t2.ob (fun b u e n => k3 b u e n), t2.or_.pl.imp (fun ⟨ob, u, e, r⟩ => ⟨ob, u, k3 _ _ e (nip e fun fs z => nomatch z), r⟩) id⟩, k3 _ _ t2.pr (nip t2.pr fun fs z => nomatch z), k3 _ _ t2.wo (nip t2.wo fun fs z => nomatch z), k3 _ _ t2.up (nip t2.up fun fs z => nomatch z)⟩
    have nkp : k ≠ p := nip upd_same fun fs z => nomatch z
    have hk3 : H3 k = some (.lst (us.take 1)) := k3 _ _ upd_same nkp
    have T3 : Tabs Tb H3 := fun pr hpr => by
      obtain ⟨ps, g1, g2, g3⟩ := T1.ext s2 pr hpr
      refine ⟨ps, k3 _ _ g1 (nip g1 fun fs z => nomatch z), g2, fun pos cv hc => ?_⟩
      obtain ⟨c, a1, a2⟩ := g3 pos cv hc
      exact ⟨c, a1, k3 _ _ a2 (nip a2 fun fs z => by unfold CodeO at z; cases z)⟩
    have EN3 : EN p H H3 := fun b u e n nt => k3 b u (s2 b u (e1 b u e nt)) n
    have hp3 : Paired (RTup K H3) (us.take 1) (((Hm.flaws (Hm.made P)).take 1).map flT) := by
      rw [List.map_take]
      refine Paired.mapP (paired_take (Paired.steady steady_tup (.of s2) hp)) fun v l' h => ?_
      obtain ⟨tt, rfl, ht⟩ := h
      exact ⟨tt, rfl, SqT.ni ht t2.ob (fun b u e n => k3 b u e n)⟩
    have hnm : ∀ l ∈ ((Hm.flaws (Hm.made P)).take 1).map flT, ∀ z ∈ l, Nm z := fun l hl z hz => by
      obtain ⟨q0, hq0, rfl⟩ := List.mem_map.mp hl
      rcases List.mem_cons.mp hz with e | hz
      · rw [e]; exact fW_nm _
      · exact hN z (flaws_in ok q0 (List.mem_of_mem_take hq0) z hz)
    refine ⟨.ref p, rfl, p, C, dx, _, _, rfl, ob3, T.cl, T.nJ, tf_j, Nat.zero_le _, fun k4 nk4 => ?_⟩
    have s4 := same_new (o := .lst []) nk4
    refine ⟨.list (dTs (((Hm.flaws (Hm.made P)).take 1).map flT)), .list [], .lst (.inl (.inl (s4 _ _ hk3))) (dp_tups (Paired.steady steady_tup (.of s4) hp3)), .lst (.inl (.inl upd_same)) .nil, sh_tups _ hnm, rfl, _, rfl, ?_⟩
    rw [eqv_nil]
    have fin := fun v (h : FlV K (upd H3 k4 (.lst [])) v (Hm.flaw (Hm.made P))) => q (upd H3 k4 (.lst [])) v k (fun b u e n nt => s4 b u (EN3 b u e n nt)) (T3.ext s4) (t3.same s4) h
    have hp4 := Paired.steady steady_tup (NL.of s4) hp3
    have hk4 := s4 _ _ hk3
    unfold Hm.flaw at fin
    generalize Hm.flaws (Hm.made P) = fl at hp4 fin
    generalize us.take 1 = u1 at hp4 hk4
    cases fl with
    | nil =>
      refine iteF ?_
      exact fin _ rfl
    | cons q0 r =>
      rw [List.take_succ_cons, List.take_zero, List.map_singleton] at hp4
      cases hp4 with
      | cons hv ht =>
        cases ht
        refine iteT ⟨.ref p, rfl, p, C, dx, _, _, rfl, s4 _ _ ob3, T.cl, T.nJ, tf_j, k, _, 0, _, rfl, rfl, .inl (.inl hk4), atI_nat (j := 0) rfl, ?_⟩
        exact fin _ hv
/-! ### __eq__ -/
abbrev sEq : Stmt := inClass (topS 21) 12
/-- what isinstance asks of the class -/
structure TtI (K : PySem.W.Frag) (C : Addr) : Prop where
  ha : PySem.W.findIn K (.ref C) "__class__" = some (some (.builtin "object.__class__"))
  hn : PySem.W.specialIn K (.builtin "object.__class__") "__get__" = some (some (.builtin "getset_descriptor.__get__"))
  htk : PySem.W.takesIn K (.builtin "object.__class__") = some true
  hm : PySem.W.mroIn K C (.type "object") = some true
/-- two tables of the same things -/
def Twin (K : PySem.W.Frag) (C : Addr) (p p' : Addr) (H : Hp) : Prop := ∃ (P P' : Hm.Pl Str), Tbl K C H p P ∧ Tbl K C H p' P' ∧ P'.kinds = P.kinds ∧ prsK P'.near = prsK P.near ∧ wL P' = wL P ∧ uL P' = uL P ∧ (∀ z ∈ P.kinds, Nm z) ∧ P.kinds.Nodup
theorem putB_bl (near : List (Str × Str)) : ∀ acc : List (List Key × V), (∀ q ∈ acc, q.2 = .bl true) → ∀ q ∈ near.foldl putB acc, q.2 = .bl true := by
  induction near with
  | nil => exact fun _ h => h
  | cons p near ih =>
    intro acc h
    rw [List.foldl_cons]
    refine ih _ ?_
    have one : ∀ (acc : List (List Key × V)) (k : List Key), (∀ q ∈ acc, q.2 = .bl true) → ∀ q ∈ putK acc k (.bl true), q.2 = .bl true := fun acc k h q hq => by
      unfold putK at hq
      split at hq
      · obtain ⟨r, hr, rfl⟩ := List.mem_map.mp hq
        split
        · rfl
        · exact h r hr
      · rcases List.mem_append.mp hq with hq | hq
        · exact h q hq
        · rw [List.mem_singleton.mp hq]
    exact one _ _ (one _ _ h)
theorem kvT_self {l : List (Str × Str)} (hn : (l.map (·.1)).Nodup) : ∀ q ∈ kvT l, valV (kvT l) q.1 = some q.2 ∧ flatV q.2 = true ∧ eqV q.2 q.2 = true := fun q hq => by
  obtain ⟨r, hr, rfl⟩ := List.mem_map.mp hq
  refine ⟨by rw [kvT_val, look_in hn hr]; rfl, rfl, ?_⟩
  exact beq_self_eq_true r.2
theorem scEq : FnScope ["self", "other"] ["self", "other"] (defScope sEq) := ⟨rfl, rfl, rfl, by decide +kernel, rfl, by decide +kernel, by decide +kernel⟩

theorem ok_eq {f C : Addr} {fd : FuncData} (F : Fun K "__eq__" "Table.__eq__" sEq f fd) (B : Blt mg) (T : Tt K mg C) (TI : TtI K C) :
    FnOk P w K mg base CX0 3 f fd ["self", "other"] (spEq (Twin K C)) := by
  refine F.ok scEq (fun vs H Q E h => ?_) (fun cdv A outer s H vs Q E hr h => ?_)
  · obtain ⟨p, p', rfl, _⟩ := h
    rfl
  · obtain ⟨p, p', rfl, ⟨P, P', ⟨dx, o, dp, dw, du, j, t⟩, ⟨dx', o', dp', dw', du', j', t'⟩, e1, e2, e3, e4, hN, hnd⟩, q⟩ := h
    refine ⟨_, (pss_cons (ps_if (PW.pt (pw_or (pt_not (pt_val (pe_callB (id := "isinstance") (c_isi K) (by rfl) B.isi (by decide +kernel) (pa_cons (pv 1) (pa_cons (pe_glob (v := .ref C) rfl T.mgC rfl) pa_nil))))) (pw_or1 (pt_cmpR (op_neD hr.units) (fldK K (pv 0) rfl) (fldK K (pv 1) rfl) (nomark _))))) (pss_one (ps_ret pe_bl)) pss_nil) (pss_one (ps_ret (pe_cmpR (op_eqG rcG_tups hr) (pe_tup (pa_cons (fldK K (pv 0) rfl) (pa_cons (fldK K (pv 0) rfl) (pa_cons (fldK K (pv 0) rfl) pa_nil)))) (pe_tup (pa_cons (fldK K (pv 1) rfl) (pa_cons (fldK K (pv 1) rfl) (pa_cons (fldK K (pv 1) rfl) pa_nil)))) (nomark _))))), ?_⟩
    refine ⟨.ref p', rfl, .ref p', .ref C, _, _, true, rfl, .own C, .base (.ins t'.ob T.cl TI.ha TI.hn TI.htk TI.hm), (by unfold PySem.W.kitOne; rw [if_pos (beq_self_eq_true _)]), true, rfl, iteF ?_⟩
    refine ⟨.ref p, rfl, p, C, dx, _, _, rfl, t.ob, T.cl, T.nO, tf_o, .ref p', rfl, p', C, dx', _, _, rfl, t'.ob, T.cl, T.nO, tf_o, ?_⟩
    refine ⟨.tuple (dS P.kinds), .tuple (dS P'.kinds), .tup t.or_.sq (dp_strs _), .tup t'.or_.sq (dp_strs _), sh_tup _ hN, sh_tup _ (by rw [e1]; exact hN), _, rfl, ?_⟩
    rw [e1, eqv_tup, decide_eq_true rfl]
    refine iteF ?_
    refine ⟨.ref p, rfl, p, C, dx, _, _, rfl, t.ob, T.cl, T.nP, tf_p, .ref p, rfl, p, C, dx, _, _, rfl, t.ob, T.cl, T.nW, tf_w, .ref p, rfl, p, C, dx, _, _, rfl, t.ob, T.cl, T.nU, tf_u, (by show 3 ≤ sizeLine; decide), fun k nk => ?_⟩
    have s1 := same_new (o := .tup [.ref dp, .ref dw, .ref du]) nk
    have t1 := t'.same s1
    refine ⟨.ref p', rfl, p', C, dx', _, _, rfl, t1.ob, T.cl, T.nP, tf_p, .ref p', rfl, p', C, dx', _, _, rfl, t1.ob, T.cl, T.nW, tf_w, .ref p', rfl, p', C, dx', _, _, rfl, t1.ob, T.cl, T.nU, tf_u, (by show 3 ≤ sizeLine; decide), fun k2 nk2 => ?_⟩
    have s2 := same_new (o := .tup [.ref dp', .ref dw', .ref du']) nk2
    have s12 := s1.trans s2
    have ta := t.same s12
    have tb := t'.same s12
    refine ⟨⟨k, k2, _, _, rfl, rfl, .inl (.inl (s2 _ _ upd_same)), .inl (.inl upd_same), .cons (.inl ⟨dp, dp', _, rfl, rfl, ta.pr, e2 ▸ tb.pr, fun q hq => ?_⟩) (.cons (.inr ⟨dw, dw', _, rfl, rfl, ta.wo, e3 ▸ tb.wo, kvT_self ?_⟩) (.cons (.inr ⟨du, du', _, rfl, rfl, ta.up, e4 ▸ tb.up, kvT_self ?_⟩) .nil))⟩, fun H' e => q H' fun a u h => e a u (s12 a u h)⟩
    · rw [putB_bl P.near [] (fun _ z => nomatch z) q hq]
      exact ⟨rfl, rfl⟩
    · unfold wL
      rw [List.map_map]
      exact (List.map_id _).symm ▸ hnd
    · unfold uL
      rw [List.map_map]
      exact (List.map_id _).symm ▸ hnd
end

end Ho
set_option Elab.async false
set_option linter.all false
set_option maxRecDepth 100000
set_option maxHeartbeats 4000000
/-! usual and _law_made. -/
namespace Ho
open PySem PySem.Spec PyProof.Rows L2

/-! ### dicts made of pairs -/
theorem merge_kvT : ∀ (l acc : List (Str × Str)), ((acc ++ l).map (·.1)).Nodup → mergeK (kvT acc) (kvT l) = kvT (acc ++ l)
  | [], acc, _ => by rw [List.append_nil]; rfl
  | q :: l, acc, h => by
    have e1 : mergeK (kvT acc) (kvT (q :: l)) = mergeK (putK (kvT acc) (.inr q.1) (.str q.2)) (kvT l) := rfl
    have n1 : q.1 ∉ acc.map (·.1) := fun hm => by
      rw [List.map_append, List.map_cons, List.nodup_append] at h
      exact h.2.2 _ hm _ List.mem_cons_self rfl
    rw [e1, kv_new n1 q.2, merge_kvT l (acc ++ [(q.1, q.2)]) (by rw [List.append_assoc]; exact h), List.append_assoc]
    rfl
theorem merge_nil {l : List (Str × Str)} (h : (l.map (·.1)).Nodup) : mergeK [] (kvT l) = kvT l := merge_kvT l [] h
/-! ### the plain table on the heap -/
structure PlAt (K : PySem.W.Frag) (H : Hp) (d a b c e : Addr) (P : Hm.Pl Str) : Prop where
  ob : H d = some (.dK [(.inr "kinds", .ref a), (.inr "near", .ref b), (.inr "worth", .ref c), (.inr "upper", .ref e)])
  kinds : SqL K H a (P.kinds.map V.str)
  near : Prs K H b P.near
  worth : H c = some (.dK (kvT (P.worth.map fun q => (q.1, wTxt q.2))))
  upper : H e = some (.dK (kvT P.upper))
theorem PlAt.same {K : PySem.W.Frag} {H H' : Hp} {d a b c e : Addr} {P : Hm.Pl Str} (h : PlAt K H d a b c e P) (s : Same H H') : PlAt K H' d a b c e P :=
  ⟨s _ _ h.ob, s.seq h.kinds, h.near.same s, s _ _ h.worth, s _ _ h.upper⟩
def PlD (K : PySem.W.Frag) (H : Hp) (d : Addr) (P : Hm.Pl Str) : Prop := ∃ a b c e, PlAt K H d a b c e P
theorem PlD.same {K : PySem.W.Frag} {H H' : Hp} {d : Addr} {P : Hm.Pl Str} (h : PlD K H d P) (s : Same H H') : PlD K H' d P := by
  obtain ⟨a, b, c, e, h⟩ := h
  exact ⟨a, b, c, e, h.same s⟩
/-! ### constants of pairs -/
def PrC (K : PySem.W.Frag) (a : Addr) (l : List (Str × Str)) : Prop := ∃ (ps : List Addr) (o : Obj) (n : Nat), K.lookup a = some o ∧ o.cls = .type "tuple" ∧ o.dict = none ∧ o.data = .seq (ps.map Value.ref).toArray n ∧
  Paired (fun p q => ∃ (op : Obj) (t1 t2 : Tok) (m : Nat), K.lookup p = some op ∧ op.cls = .type "tuple" ∧ op.dict = none ∧ op.data = .seq #[.str q.1 t1, .str q.2 t2] m) ps l
theorem refs_vals : ∀ ps : List Addr, Vals (ps.map V.ref) (ps.map Value.ref)
  | [] => .nil
  | _ :: r => .cons rfl (refs_vals r)
theorem PrC.two {K : PySem.W.Frag} (H : Hp) : ∀ {ps : List Addr} {l : List (Str × Str)}, Paired (fun p q => ∃ (op : Obj) (t1 t2 : Tok) (m : Nat), K.lookup p = some op ∧ op.cls = .type "tuple" ∧ op.dict = none ∧ op.data = .seq #[.str q.1 t1, .str q.2 t2] m) ps l →
    Paired (TPair K H) (ps.map V.ref) l ∧ Paired (fun p (kv : Key × V) => SqT K H p [kV kv.1, kv.2]) ps (kvT l)
  | _, _, .nil => ⟨.nil, .nil⟩
  | _, _, .cons (a := p) (b := q) h t => by
    obtain ⟨op, t1, t2, m, e1, e2, e3, e4⟩ := h
    have sq : SqT K H p [.str q.1, .str q.2] := .inr ⟨op, _, m, e1, e2, e4, (show 2 ≤ sizeLine by decide), .cons ⟨_, rfl⟩ (.cons ⟨_, rfl⟩ .nil)⟩
    obtain ⟨i1, i2⟩ := PrC.two H t
    exact ⟨.cons ⟨p, rfl, sq⟩ i1, .cons sq i2⟩
theorem PrC.prs {K : PySem.W.Frag} {a : Addr} {l : List (Str × Str)} (h : PrC K a l) (H : Hp) (hl : l.length ≤ sizeLine) : Prs K H a l := by
  obtain ⟨ps, o, n, e1, e2, e3, e4, hp⟩ := h
  exact ⟨ps.map V.ref, .inr (.inr ⟨o, _, n, e1, e2, e4, (by rw [List.size_toArray, List.length_map, Paired.length hp]; exact hl), refs_vals ps⟩), (PrC.two H hp).1⟩
def uK : List Str := ["look", "work", "see", "seework", "change"]
def uB : List (Str × Str) := [("look", "look"), ("look", "work"), ("look", "see"), ("look", "seework"), ("work", "work"), ("see", "see")]
def uG : List (Str × Str) := [("see", "see"), ("seework", "see"), ("change", "change")]
def uA : List (Str × Str) := [("see", "look"), ("seework", "work"), ("change", "work")]
def uPl : Hm.Pl Str := ⟨uK, uB, [("see", 1), ("seework", 1), ("change", 2)], uA⟩
theorem uPl_ok : Hm.PlOk uPl 36 where
  one := by decide +kernel
  few := by decide +kernel
  nd := by decide +kernel
  near := by decide +kernel
  many := by decide +kernel
  worth := by decide +kernel
  worthN := by decide +kernel
  upper := by decide +kernel
  upperN := by decide +kernel
theorem PlOk.up {P : Hm.Pl Str} {n m : Nat} (h : Hm.PlOk P n) (e : n ≤ m) : Hm.PlOk P m := ⟨h.one, h.few, h.nd, h.near, Nat.le_trans h.many e, h.worth, h.worthN, h.upper, h.upperN⟩
theorem nm_all {l : List Str} (h1 : ∀ z ∈ l, 1 ≤ z.length) (h2 : ∀ z ∈ l, z.length ≤ 8) (h3 : ∀ z ∈ l, ∀ c ∈ z.cps.toList, c ∈ letters.cps.toList) : ∀ z ∈ l, Nm z := fun z h => ⟨h1 z h, h2 z h, h3 z h⟩
theorem uK_nm : ∀ z ∈ uPl.kinds, Nm z := nm_all (by decide +kernel) (by decide +kernel) (by decide +kernel)
theorem uW : uPl.worth.map (fun q => (q.1, wTxt q.2)) = uG := by decide +kernel
/-- the constants of the usual table -/
structure Usl (K : PySem.W.Frag) (mg : Str → Option Value) (aM aB aG aA : Addr) : Prop where
  gM : mg "USUAL_MODES" = some (.ref aM)
  gB : mg "USUAL_BESIDE" = some (.ref aB)
  gG : mg "USUAL_GIVES" = some (.ref aG)
  gA : mg "USUAL_ABOVE" = some (.ref aA)
  cM : ∃ (o : Obj) (t0 t1 t2 t3 t4 : Tok) (n : Nat), K.lookup aM = some o ∧ o.cls = .type "tuple" ∧ o.dict = none ∧ o.data = .seq #[.str "look" t0, .str "work" t1, .str "see" t2, .str "seework" t3, .str "change" t4] n
  cB : PrC K aB uB
  cG : PrC K aG uG
  cA : PrC K aA uA
theorem Usl.ord {K : PySem.W.Frag} {mg : Str → Option Value} {aM aB aG aA : Addr} (h : Usl K mg aM aB aG aA) (H : Hp) : OrdAt K H aM (uPl.kinds.map V.str) := by
  obtain ⟨o, t0, t1, t2, t3, t4, n, e1, e2, e3, e4⟩ := h.cM
  exact ⟨.inr ⟨o, _, n, e1, e2, e4, (show 5 ≤ sizeLine by decide), .cons ⟨_, rfl⟩ (.cons ⟨_, rfl⟩ (.cons ⟨_, rfl⟩ (.cons ⟨_, rfl⟩ (.cons ⟨_, rfl⟩ .nil))))⟩, .inr ⟨o, e1, e2, e3⟩⟩
theorem vals_app {vs : List V} {us : List Value} {zs : List V} {ws : List Value} (h : Vals vs us) (h' : Vals zs ws) : Vals (vs ++ zs) (us ++ ws) := by
  induction h with
  | nil => exact h'
  | cons a _ ih => exact .cons a ih
section
variable {P : Program} {w : World} {K : PySem.W.Frag} {mg : Str → Option Value} {base : Heap}
theorem c_dictT {X : Cx} (K : PySem.W.Frag) (h : X.calm = true) (e : X.K = K := by rfl) : CallR X (.type "dict") (rDictT K) := by
  subst e
  exact call_dictT h
/-- how Table(…) is called -/
theorem kb_init {f : Addr} {fd : FuncData} (F : Fun K "__init__" "Table.__init__" sInit f fd) : KBn K fd ["self", "modes", "beside", "gives", "above"] 2 ["beside", "gives", "above"] (fun us ws => us ++ ws) (fun vs zs => vs ++ zs) := by
  obtain ⟨oc, od, kV, doc, pm, an, cdv, ct, osl, rfl, lk, hcd⟩ := F.ex
  refine ⟨fun s us ws X l1 l2 => BindsTo.of_looks fun M => PySem.W.Looks.of_pure ?_, vals_app⟩
  obtain ⟨a, b, rfl⟩ : ∃ a b, us = [a, b] := by
    match us, l1 with
    | [a, b], _ => exact ⟨a, b, rfl⟩
  obtain ⟨c, d, e, rfl⟩ : ∃ c d e, ws = [c, d, e] := by
    match ws, l2 with
    | [c, d, e], _ => exact ⟨c, d, e, rfl⟩
  rfl
/-- a new table -/
def NewT (K : PySem.W.Frag) (C : Addr) (H : Hp) (P : Hm.Pl Str) (Q : VK) : Prop := ∀ H' p dx o dp dw du, Same H H' → H p = none → TblAt K C H' p dx o dp dw du P .non → Q (.ref p) H'
theorem make_new {C p dx : Addr} {H H2 H3 : Hp} (s : Same H H2) (np : H2 p = none) (nd : H2 dx = none) (k : NI p (upd (upd H2 dx (.own p)) p (.ins C dx [])) H3) : Same H H3 ∧ H p = none := by
  refine ⟨fun b o e => ?_, ?_⟩
  · have e2 := s b o e
    have n1 := ne_of_none e2 np
    refine k b o ?_ n1
    rw [upd_ne n1, upd_ne (ne_of_none e2 nd)]
    exact e2
  · cases q : H p with
    | none => rfl
    | some o => rw [s p o q] at np; cases np
/-! ### usual -/
abbrev sUsual : Stmt := topS 22
def spUsual (K : PySem.W.Frag) (C : Addr) : Sp := fun vs H Q _ => vs = [] ∧ NewT K C H uPl Q
theorem scUsual : FnScope [] [] (defScope sUsual) := ⟨rfl, rfl, rfl, by decide +kernel, rfl, by decide +kernel, by decide +kernel⟩

theorem ok_usual {f C fI aM aB aG aA : Addr} {fd fdI : FuncData} (F : Fun K "usual" "usual" sUsual f fd) (B : Blt mg) (T : Tt K mg C) (M : Mk K C fI) (KB : KBn K fdI ["self", "modes", "beside", "gives", "above"] 2 ["beside", "gives", "above"] (fun us ws => us ++ ws) (fun vs zs => vs ++ zs)) (GI : FnOk P w K mg base CX0 3 fI fdI ["self", "modes", "beside", "gives", "above"] (spInit K C)) (U : Usl K mg aM aB aG aA) :
    FnOk P w K mg base CX0 5 f fd [] (spUsual K C) := by
  refine F.ok scUsual (fun vs H Q E h => ?_) (fun cdv A outer s H vs Q E hr h => ?_)
  · obtain ⟨rfl, _⟩ := h
    rfl
  · obtain ⟨rfl, q⟩ := h
    refine ⟨_, (pss_one (ps_ret (pe_makeN M GI hr (by rfl) T.mgC KB pass0 (pa_cons (pe_glob (v := .ref aM) rfl U.gM rfl) pa_nil) (pk_cons (pe_glob (v := .ref aB) rfl U.gB rfl) (pk_cons (pe_callTy (T := "dict") (c_dictT K rfl) (by rfl) B.dict (by decide +kernel) (pa_cons (pe_glob (v := .ref aG) rfl U.gG rfl) pa_nil)) (pk_cons (pe_callTy (T := "dict") (c_dictT K rfl) (by rfl) B.dict (by decide +kernel) (pa_cons (pe_glob (v := .ref aA) rfl U.gA rfl) pa_nil)) pk_nil)))))), ?_⟩
    obtain ⟨psG, oG, nG, g1, g2, g3, g4, g5⟩ := U.cG
    obtain ⟨psA, oA, nA, a1, a2, a3, a4, a5⟩ := U.cA
    refine ⟨aG, psG, kvT uG, oG, nG, rfl, g1, g2, g3, g4, (by rw [Paired.length g5]; decide), (PrC.two _ g5).2, fun pG nG => ?_⟩
    rw [merge_nil (by decide +kernel)]
    have s1 := same_new (o := .dK (kvT uG)) nG
    refine ⟨aA, psA, kvT uA, oA, nA, rfl, a1, a2, a3, a4, (by rw [Paired.length a5]; decide), (PrC.two _ a5).2, fun pA nA => ?_⟩
    rw [merge_nil (by decide +kernel)]
    have s2 := same_new (o := .dK (kvT uA)) nA
    refine ⟨rfl, rfl, fun x dx nx nd ne => ?_⟩
    have s3 : Same _ _ := (same_new (o := .own x) nd).trans (same_new (p := x) (o := .ins C dx []) (by rw [upd_ne ne.symm]; exact nx))
    refine ⟨x, dx, aM, aB, pG, pA, uPl, rfl, upd_same, ⟨.inr (U.ord _), U.cB.prs _ (by decide), ?_, s3 _ _ upd_same⟩, PlOk.up uPl_ok (by decide), uK_nm, fun H' o dp dw du k t => ⟨rfl, ?_⟩⟩
    · rw [uW]
      exact s3 _ _ (s2 _ _ upd_same)
    · obtain ⟨e1, e2⟩ := make_new (s1.trans s2) nx nd k
      exact q H' x dx o dp dw du e1 e2 t

/-! ### _law_made -/
abbrev sMade : Stmt := topS 35
def spMade (K : PySem.W.Frag) (C : Addr) : Sp := fun vs H Q _ => ∃ (d : Addr) (P : Hm.Pl Str), vs = [.ref d] ∧ PlD K H d P ∧ Hm.PlOk P 64 ∧ (∀ z ∈ P.kinds, Nm z) ∧ NewT K C H P Q
theorem scMade : FnScope ["_law_plain"] ["_law_plain"] (defScope sMade) := ⟨rfl, rfl, rfl, by decide +kernel, rfl, by decide +kernel, by decide +kernel⟩

theorem ok_made {f C fI : Addr} {fd fdI : FuncData} (F : Fun K "_law_made" "_law_made" sMade f fd) (T : Tt K mg C) (M : Mk K C fI) (KB : KBn K fdI ["self", "modes", "beside", "gives", "above"] 2 ["beside", "gives", "above"] (fun us ws => us ++ ws) (fun vs zs => vs ++ zs)) (GI : FnOk P w K mg base CX0 3 fI fdI ["self", "modes", "beside", "gives", "above"] (spInit K C)) :
    FnOk P w K mg base CX0 5 f fd ["_law_plain"] (spMade K C) := by
  refine F.ok scMade (fun vs H Q E h => ?_) (fun cdv A outer s H vs Q E hr h => ?_)
  · obtain ⟨d, P, rfl, _⟩ := h
    rfl
  · obtain ⟨d, P, rfl, ⟨a, b, c, e, R⟩, ok, hN, q⟩ := h
    refine ⟨_, (pss_one (ps_ret (pe_makeN M GI hr (by rfl) T.mgC KB pass0 (pa_cons (pe_dget (hu_of hr) (pv 0) pe_str (fun _ _ => rfl)) pa_nil) (pk_cons (pe_dget (hu_of hr) (pv 0) pe_str (fun _ _ => rfl)) (pk_cons (pe_dget (hu_of hr) (pv 0) pe_str (fun _ _ => rfl)) (pk_cons (pe_dget (hu_of hr) (pv 0) pe_str (fun _ _ => rfl)) pk_nil)))))), ?_⟩
    refine ⟨.ref d, rfl, d, .ref a, rfl, DGet.k (k := .inr "kinds") R.ob, ?_⟩
    refine ⟨.ref d, rfl, d, .ref b, rfl, DGet.k (k := .inr "near") R.ob, ?_⟩
    refine ⟨.ref d, rfl, d, .ref c, rfl, DGet.k (k := .inr "worth") R.ob, ?_⟩
    refine ⟨.ref d, rfl, d, .ref e, rfl, DGet.k (k := .inr "upper") R.ob, ?_⟩
    refine ⟨rfl, rfl, fun x dx nx nd ne => ?_⟩
    have s3 : Same H _ := (same_new (o := .own x) nd).trans (same_new (p := x) (o := .ins C dx []) (by rw [upd_ne ne.symm]; exact nx))
    refine ⟨x, dx, a, b, c, e, P, rfl, upd_same, ⟨.inl (s3.seq R.kinds), R.near.same s3, s3 _ _ R.worth, s3 _ _ R.upper⟩, ok, hN, fun H' o dp dw du k t => ⟨rfl, ?_⟩⟩
    obtain ⟨e1, e2⟩ := make_new (Same.refl H) nx nd k
    exact q H' x dx o dp dw du e1 e2 t

end

end Ho
set_option Elab.async false
set_option linter.all false
set_option maxRecDepth 100000
set_option maxHeartbeats 4000000
/-! The draws: begin, more, next, pick. -/
namespace Ho
open PySem PySem.Spec PyProof.Rows L2

/-! ### all but the state stands -/
def stL (l : Addr) (n f m : Int) : List (Key × V) := [(.inr "cells", .ref l), (.inr "next", .int n), (.inr "left", .int f), (.inr "mixed", .int m)]
def StO (o : HO) : Prop := ∃ l n f m, o = .dK (stL l n f m)
def ES (H H' : Hp) : Prop := ∀ b o, H b = some o → ¬ StO o → H' b = some o
theorem ES.refl (H : Hp) : ES H H := fun _ _ h _ => h
theorem ES.of {H H' : Hp} (s : Same H H') : ES H H' := fun b o h _ => s b o h
theorem ES.trans {H H1 H2 : Hp} (a : ES H H1) (b : ES H1 H2) : ES H H2 := fun c o h n => b c o (a c o h n) n
theorem ES.upd {H : Hp} {d : Addr} {o o' : HO} (h : H d = some o) (so : StO o) : ES H (upd H d o') := fun b u e n => by
  rw [upd_ne fun z : b = d => ?_]
  · exact e
  · subst z
    rw [h] at e
    cases e
    exact n so
theorem noSt {o : HO} (h : ∀ xs, o ≠ .dK xs) : ¬ StO o := fun ⟨_, _, _, _, e⟩ => h _ e
theorem kvT_noSt (l : List (Str × Str)) : ¬ StO (.dK (kvT l)) := fun ⟨_, _, _, _, e⟩ => by
  cases l with
  | nil => cases e
  | cons q r =>
    have e1 := HO.dK.inj e
    have e2 : V.str q.2 = V.ref _ := congrArg Prod.snd (List.cons.inj e1).1
    cases e2
theorem SqL.es {K : PySem.W.Frag} {H H' : Hp} {a : Addr} {xs : List V} (h : SqL K H a xs) (e : ES H H') : SqL K H' a xs :=
  h.elim (fun h => .inl (h.elim (fun h => .inl (e _ _ h (noSt fun _ z => nomatch z))) fun ⟨o, h⟩ => .inr ⟨o, e _ _ h (noSt fun _ z => nomatch z)⟩)) .inr
theorem SqT.es {K : PySem.W.Frag} {H H' : Hp} {a : Addr} {xs : List V} (h : SqT K H a xs) (e : ES H H') : SqT K H' a xs :=
  h.elim (fun h => .inl (h.elim (fun h => .inl (e _ _ h (noSt fun _ z => nomatch z))) fun ⟨o, h⟩ => .inr ⟨o, e _ _ h (noSt fun _ z => nomatch z)⟩)) .inr
theorem SqA.es {K : PySem.W.Frag} {H H' : Hp} {a : Addr} {xs : List V} (h : SqA K H a xs) (e : ES H H') : SqA K H' a xs := h.imp (fun h => SqL.es h e) fun h => SqT.es h e
theorem TPair.es {K : PySem.W.Frag} {H H' : Hp} {v : V} {q : Str × Str} (h : TPair K H v q) (e : ES H H') : TPair K H' v q := by
  obtain ⟨t, rfl, h⟩ := h
  exact ⟨t, rfl, SqT.es h e⟩
theorem Prs.es {K : PySem.W.Frag} {H H' : Hp} {a : Addr} {l : List (Str × Str)} (h : Prs K H a l) (e : ES H H') : Prs K H' a l := by
  obtain ⟨vs, h1, h2⟩ := h
  exact ⟨vs, h1.es e, Paired.mapP h2 fun _ _ h => h.es e⟩
theorem dict_es {H H' : Hp} {a : Addr} {l : List (Str × Str)} (h : H a = some (.dK (kvT l))) (e : ES H H') : H' a = some (.dK (kvT l)) := e _ _ h (kvT_noSt l)
theorem PlAt.es {K : PySem.W.Frag} {H H' : Hp} {d a b c e : Addr} {P : Hm.Pl Str} (h : PlAt K H d a b c e P) (s : ES H H') : PlAt K H' d a b c e P :=
  ⟨s _ _ h.ob (fun ⟨_, _, _, _, z⟩ => absurd (congrArg List.length (HO.dK.inj z)) (by
    intro z2
    have := HO.dK.inj z
    have e1 := congrArg Prod.fst (List.cons.inj this).1
    exact absurd (Sum.inr.inj e1) (by decide +kernel))), SqL.es h.kinds s, h.near.es s, dict_es h.worth s, dict_es h.upper s⟩
theorem PlD.es {K : PySem.W.Frag} {H H' : Hp} {d : Addr} {P : Hm.Pl Str} (h : PlD K H d P) (s : ES H H') : PlD K H' d P := by
  obtain ⟨a, b, c, e, h⟩ := h
  exact ⟨a, b, c, e, h.es s⟩
theorem iSq_es {K : PySem.W.Frag} {H1 : Hp} {a : Addr} {xs : List V} {R : It → Hp → Prop} (h : SqA K H1 a xs) (q : ∀ J (G : Hp → Prop), (∀ H, ES H1 H → G H) → Walk J xs.length G (YAt xs) → R J H1) :
    SqOr K H1 a xs R :=
  h.elim (fun h => .inl ⟨h, fun J w => q J _ (fun H s => SqL.es h s) w⟩) fun h => .inr ⟨h, fun J w => q J _ (fun H s => SqT.es h s) w⟩
/-- the state of the draws at d -/
structure StAt (K : PySem.W.Frag) (H : Hp) (d l : Addr) (cs : List Int) (n : Nat) (f m : Int) : Prop where
  ob : H d = some (.dK (stL l n f m))
  cells : SqL K H l (cs.map V.int)
def St (K : PySem.W.Frag) (H : Hp) (d l : Addr) (cs : List Int) : Prop := ∃ n f m, StAt K H d l cs n f m
theorem StAt.put {K : PySem.W.Frag} {H : Hp} {d l : Addr} {cs : List Int} {n : Nat} {f m : Int} (h : StAt K H d l cs n f m) (n' : Nat) (f' : Int) : StAt K (upd H d (.dK (stL l n' f' m))) d l cs n' f' m ∧ ES H (upd H d (.dK (stL l n' f' m))) := by
  have e : ES H (upd H d (.dK (stL l n' f' m))) := ES.upd h.ob ⟨_, _, _, _, rfl⟩
  exact ⟨⟨upd_same, SqL.es h.cells e⟩, e⟩
theorem St.same {K : PySem.W.Frag} {H H' : Hp} {d l : Addr} {cs : List Int} (h : St K H d l cs) (s : Same H H') : St K H' d l cs := by
  obtain ⟨n, f, m, h1, h2⟩ := h
  exact ⟨n, f, m, s _ _ h1, s.seq h2⟩
/-- the state stands although a new list changes -/
theorem St.lst {K : PySem.W.Frag} {H0 H : Hp} {d l D : Addr} {cs : List Int} {xs ys : List V} (h0 : St K H0 d l cs) (h : St K H d l cs) (hD : H D = some (.lst xs)) (e : ES H0 (upd H D (.lst ys))) : St K (upd H D (.lst ys)) d l cs := by
  obtain ⟨n, f, m, h1, h2⟩ := h
  obtain ⟨n0, f0, m0, g1, g2⟩ := h0
  have nd : d ≠ D := fun z => by rw [z, hD] at h1; cases h1
  exact ⟨n, f, m, by rw [upd_ne nd]; exact h1, SqL.es g2 e⟩
theorem stL_next (l : Addr) (n f m x : Int) : putK (stL l n f m) (.inr "next") (.int x) = stL l x f m := by rfl
theorem stL_left (l : Addr) (n f m x : Int) : putK (stL l n f m) (.inr "left") (.int x) = stL l n x m := by rfl
theorem stL_len {l : Addr} {n f m : Int} : (stL l n f m).length < sizeLine := by show 4 < sizeLine; decide
theorem stL_new (l : Addr) (n f m : Int) : mergeK [] (stL l n f m) = stL l n f m := by rfl
section
variable {P : Program} {w : World} {K : PySem.W.Frag} {mg : Str → Option Value} {base : Heap}
theorem i_any {X : Cx} (K : PySem.W.Frag) (e : X.K = K := by rfl) : IxR X (rIx K) := by
  subst e
  exact ix_seq
theorem c_lenA {X : Cx} (K : PySem.W.Frag) (e : X.K = K := by rfl) : CallR X (.builtin "len") (fun xs H Q => ∃ x n, xs = [x] ∧ LenV K x H n ∧ Q (.int n) H) := by
  subst e
  exact call_len
/-! ### _law_begin -/
abbrev sBegin : Stmt := topS 24
def spBegin (K : PySem.W.Frag) : Sp := fun vs H Q _ => ∃ (a : Addr) (cs : List Int), vs = [.ref a] ∧ SqL K H a (cs.map V.int) ∧ ∀ H' d l, Same H H' → H d = none → St K H' d l cs → Q (.ref d) H'
theorem scBegin : FnScope ["_law_script", "_law_mixed", "_law_cell"] ["_law_script"] (defScope sBegin) := ⟨rfl, rfl, rfl, by decide +kernel, rfl, by decide +kernel, by decide +kernel⟩

theorem ok_begin {f : Addr} {fd : FuncData} (F : Fun K "_law_begin" "_law_begin" sBegin f fd) (B : Blt mg) :
    FnOk P w K mg base CX0 1 f fd ["_law_script"] (spBegin K) := by
  refine F.ok scBegin (fun vs H Q E h => ?_) (fun cdv A outer s H vs Q E hr h => ?_)
  · obtain ⟨a, cs, rfl, _⟩ := h
    rfl
  · obtain ⟨a, cs, rfl, hs, q⟩ := h
    refine ⟨_, (pss_cons (ps_set (i := 1) scBegin.nd rfl (Or.inl rfl) pe_int) (pss_cons (ps_for PassesOwn.never rfl (piK K (pv 0)) (pg_name (i := 2) scBegin.nd rfl (Or.inl rfl)) (pss_one (ps_set (i := 1) scBegin.nd rfl (Or.inl rfl) (pe_op op_mod (pe_op op_add (pe_op op_mul (pv 1) pe_int) (pv 2)) pe_int)))) (pss_one (ps_ret (pe_disp (pps_cons pe_str (pe_callTy (T := "list") call_list_of (by rfl) B.list (by decide +kernel) (pa_cons (pv 0) pa_nil)) (pps_cons pe_str pe_int (pps_cons pe_str pe_int (pps_cons pe_str (pv 1) pps_nil)))) (by rfl) (by rfl) (by simp) (by decide)))))), ?_⟩
    refine ⟨.ref a, rfl, a, _, rfl, iSq_of (.inl hs) fun J G hG wk => ?_⟩
    rw [List.length_map] at wk
    refine for_it wk (fun i σ H8 => H8 = H ∧ ∃ (m : Int) (y : Option V), σ = [some (.ref a), some (.int m), y]) ⟨rfl, 11, none, rfl⟩ (fun i σ H8 _ h => hG H8 (h.1 ▸ Same.refl _)) (fun i x σ H8 H9 hi h y => ?_) fun σ H8 h => ?_
    · obtain ⟨rfl, m, y0, rfl⟩ := h
      obtain ⟨rfl, yx⟩ := y
      rw [List.getElem?_map, List.getElem?_eq_getElem hi] at yx
      obtain rfl := (Option.some.inj yx).symm
      exact ⟨.int m, rfl, m, 69621, rfl, rfl, .inr ⟨by decide, by decide⟩, .int cs[i], rfl, _, _, rfl, rfl, _, _, rfl, rfl, (by show (0 : Int) < 2147483629; decide), rfl, _, _, rfl⟩
    · obtain ⟨rfl, m, y0, rfl⟩ := h
      intro p np
      have s1 := same_new (o := .dK []) np
      refine ⟨.ref a, rfl, a, _, rfl, .inl (s1.seq hs), fun l nl => ?_⟩
      have s2 := same_new (o := .lst (cs.map V.int)) nl
      refine ⟨.int m, rfl, s2 _ _ upd_same, stL l 0 0 m, rfl, (by show 4 ≤ 15; decide), ?_⟩
      rw [stL_new]
      have npl : l ≠ p := fun z => by rw [z, upd_same] at nl; cases nl
      refine q _ p l (fun b o e => ?_) np ⟨0, 0, m, upd_same, .inl (.inl ?_)⟩
      · rw [upd_ne (ne_of_none e np)]
        exact s2 _ _ (s1 _ _ e)
      · rw [upd_ne npl]
        exact upd_same

/-! ### _law_more -/
abbrev sMore : Stmt := topS 25
def spMore (K : PySem.W.Frag) : Sp := fun vs H Q _ => ∃ (d l : Addr) (cs : List Int), vs = [.ref d] ∧ St K H d l cs ∧ ∀ H' (r : Int), ES H H' → St K H' d l cs → Q (.int r) H'
theorem mul_mod {x k : Int} (hk : 0 < k) (h : k ≤ 2 ^ 63) : -(2 ^ 64 : Int) < x % k ∧ x % k < 2 ^ 64 := by
  have h1 := Int.emod_nonneg x (Int.ne_of_gt hk)
  have h2 := Int.emod_lt_of_pos x hk
  constructor <;> omega
theorem scMore : FnScope ["_law_state", "_law_k", "_law_cell", "_law_one", "_law_two", "_law_three"] ["_law_state"] (defScope sMore) := ⟨rfl, rfl, rfl, by decide +kernel, rfl, by decide +kernel, by decide +kernel⟩

theorem ok_more {f : Addr} {fd : FuncData} (F : Fun K "_law_more" "_law_more" sMore f fd) (B : Blt mg) :
    FnOk P w K mg base CX0 1 f fd ["_law_state"] (spMore K) := by
  refine F.ok scMore (fun vs H Q E h => ?_) (fun cdv A outer s H vs Q E hr h => ?_)
  · obtain ⟨d, l, cs, rfl, _⟩ := h
    rfl
  · obtain ⟨d, l, cs, rfl, ⟨n, f0, m, t⟩, q⟩ := h
    refine ⟨_, (pss_cons (ps_set (i := 1) scMore.nd rfl (Or.inl rfl) (pe_dget (hu_of hr) (pv 0) pe_str (fun _ _ => rfl))) (pss_cons (ps_dput (hu_of hr) (pv 0) pe_str (pe_op op_add (pv 1) pe_int) (by rfl)) (pss_cons (ps_set (i := 2) scMore.nd rfl (Or.inl rfl) (pe_op op_add (pe_dget (hu_of hr) (pv 0) pe_str (fun _ _ => rfl)) (pe_op op_mul pe_int (pv 1)))) (pss_cons (ps_if (pt_cmpR op_lt (pv 1) (pe_callB (id := "len") (c_len K) (by rfl) B.len PySem.boot_len (pa_cons (pe_dget (hu_of hr) (pv 0) pe_str (fun _ _ => rfl)) pa_nil)) (nomark _)) (pss_one (ps_set (i := 2) scMore.nd rfl (Or.inl rfl) (pe_ix (i_list K) (pe_dget (hu_of hr) (pv 0) pe_str (fun _ _ => rfl)) (pv 1) (fun _ _ => rfl)))) pss_nil) (pss_cons (ps_if (pt_cmpR op_ge (pv 2) (pe_op op_pow pe_int pe_int) (nomark _)) (pss_one (ps_ret (pe_op op_sub (pv 2) (pe_op op_pow pe_int pe_int)))) pss_nil) (pss_cons (ps_set (i := 3) scMore.nd rfl (Or.inl rfl) (pe_op op_mod (pe_op op_add (pe_op op_add (pe_op op_mul (pv 2) pe_int) (pe_op op_mul pe_int (pv 1))) pe_int) pe_int)) (pss_cons (ps_set (i := 4) scMore.nd rfl (Or.inl rfl) (pe_op op_mod (pe_op op_mul (pv 3) (pe_op op_add (pe_op op_add (pv 3) (pe_op op_mul pe_int (pv 1))) pe_int)) pe_int)) (pss_cons (ps_set (i := 5) scMore.nd rfl (Or.inl rfl) (pe_op op_mod (pe_op op_mul (pv 4) (pe_op op_add (pe_op op_add (pv 4) (pv 3)) pe_int)) pe_int)) (pss_one (ps_ret (pe_op op_add (pe_op op_mul (pe_op op_add (pe_op op_mul (pv 3) pe_int) (pv 4)) pe_int) (pv 5)))))))))))), ?_⟩
    refine ⟨.ref d, rfl, d, .int n, rfl, DGet.k (k := .inr "next") t.ob, ?_⟩
    refine ⟨.int n, rfl, _, _, rfl, rfl, .ref d, rfl, d, _, rfl, DPut.k (k := .inr "next") t.ob stL_len, ?_⟩
    rw [stL_next]
    obtain ⟨t1, e1⟩ := t.put (n + 1) f0
    have t1 : StAt K (upd H d (.dK (stL l ((n : Int) + 1) f0 m))) d l cs (n + 1) f0 m := t1
    have e1 : ES H (upd H d (.dK (stL l ((n : Int) + 1) f0 m))) := e1
    generalize upd H d (.dK (stL l ((n : Int) + 1) f0 m)) = H1 at t1 e1
    refine ⟨.ref d, rfl, d, .int m, rfl, DGet.k (k := .inr "mixed") t1.ob, .int n, rfl, 104729, n, rfl, rfl, .inl ⟨by decide, by decide⟩, m, _, rfl, rfl, ?_⟩
    refine ⟨.int n, rfl, .ref d, rfl, d, .ref l, rfl, DGet.k (k := .inr "cells") t1.ob, l, _, rfl, .inl t1.cells, (n : Int), ((cs.map V.int).length : Int), rfl, rfl, _, rfl, ?_⟩
    have fin : ∀ c : Int, ∃ c' : Int, c = c' := fun c => ⟨c, rfl⟩
    by_cases hlt : n < cs.length
    · rw [List.length_map, decide_eq_true (by omega)]
      refine iteT ⟨.ref d, rfl, d, .ref l, rfl, DGet.k (k := .inr "cells") t1.ob, .int n, rfl, l, _, n, .int cs[n], rfl, rfl, t1.cells, atI_nat (j := n) (by rw [List.getElem?_map, List.getElem?_eq_getElem hlt]; rfl), ?_⟩
      refine ⟨.int cs[n], rfl, 10, 18, rfl, rfl, ⟨by decide, by decide, by decide⟩, cs[n], _, rfl, rfl, _, rfl, ?_⟩
      by_cases hc : (10 : Int) ^ (18 : Int).toNat ≤ cs[n]
      · rw [decide_eq_true hc]
        exact iteT ⟨.int cs[n], rfl, 10, 18, rfl, rfl, ⟨by decide, by decide, by decide⟩, cs[n], _, rfl, rfl, q _ _ e1 ⟨n + 1, f0, m, t1⟩⟩
      · rw [decide_eq_false hc]
        refine iteF ?_
        refine ⟨.int cs[n], rfl, cs[n], 48271, rfl, rfl, .inr ⟨by decide, by decide⟩, .int n, rfl, 7919, n, rfl, rfl, .inl ⟨by decide, by decide⟩, _, _, rfl, rfl, _, 11, rfl, rfl, _, 2147483647, rfl, rfl, (by show (0 : Int) < 2147483647; decide), ?_⟩
        refine ⟨_, rfl, _, rfl, .int n, rfl, 2, n, rfl, rfl, .inl ⟨by decide, by decide⟩, _, _, rfl, rfl, _, 1, rfl, rfl, _, _, rfl, rfl, .inl (mul_mod (by decide) (by decide)), _, 2147483629, rfl, rfl, (by show (0 : Int) < 2147483629; decide), ?_⟩
        refine ⟨_, rfl, _, rfl, _, rfl, _, _, rfl, rfl, _, 1, rfl, rfl, _, _, rfl, rfl, .inl (mul_mod (by decide) (by decide)), _, 2147483587, rfl, rfl, (by show (0 : Int) < 2147483587; decide), ?_⟩
        exact ⟨_, rfl, _, 2147483629, rfl, rfl, .inr ⟨by decide, by decide⟩, _, rfl, _, _, rfl, rfl, _, 2147483587, rfl, rfl, .inr ⟨by decide, by decide⟩, _, rfl, _, _, rfl, rfl, q _ _ e1 ⟨n + 1, f0, m, t1⟩⟩
    · rw [List.length_map, decide_eq_false (by omega)]
      refine iteF ?_
      refine ⟨.int (m + 104729 * (n : Int)), rfl, 10, 18, rfl, rfl, ⟨by decide, by decide, by decide⟩, (m + 104729 * (n : Int)), _, rfl, rfl, _, rfl, ?_⟩
      by_cases hc : (10 : Int) ^ (18 : Int).toNat ≤ (m + 104729 * (n : Int))
      · rw [decide_eq_true hc]
        exact iteT ⟨.int (m + 104729 * (n : Int)), rfl, 10, 18, rfl, rfl, ⟨by decide, by decide, by decide⟩, (m + 104729 * (n : Int)), _, rfl, rfl, q _ _ e1 ⟨n + 1, f0, m, t1⟩⟩
      · rw [decide_eq_false hc]
        refine iteF ?_
        refine ⟨.int (m + 104729 * (n : Int)), rfl, (m + 104729 * (n : Int)), 48271, rfl, rfl, .inr ⟨by decide, by decide⟩, .int n, rfl, 7919, n, rfl, rfl, .inl ⟨by decide, by decide⟩, _, _, rfl, rfl, _, 11, rfl, rfl, _, 2147483647, rfl, rfl, (by show (0 : Int) < 2147483647; decide), ?_⟩
        refine ⟨_, rfl, _, rfl, .int n, rfl, 2, n, rfl, rfl, .inl ⟨by decide, by decide⟩, _, _, rfl, rfl, _, 1, rfl, rfl, _, _, rfl, rfl, .inl (mul_mod (by decide) (by decide)), _, 2147483629, rfl, rfl, (by show (0 : Int) < 2147483629; decide), ?_⟩
        refine ⟨_, rfl, _, rfl, _, rfl, _, _, rfl, rfl, _, 1, rfl, rfl, _, _, rfl, rfl, .inl (mul_mod (by decide) (by decide)), _, 2147483587, rfl, rfl, (by show (0 : Int) < 2147483587; decide), ?_⟩
        exact ⟨_, rfl, _, 2147483629, rfl, rfl, .inr ⟨by decide, by decide⟩, _, rfl, _, _, rfl, rfl, _, 2147483587, rfl, rfl, .inr ⟨by decide, by decide⟩, _, rfl, _, _, rfl, rfl, q _ _ e1 ⟨n + 1, f0, m, t1⟩⟩

/-! ### _law_next -/
abbrev sNext : Stmt := topS 26
def spNext (K : PySem.W.Frag) : Sp := fun vs H Q _ => ∃ (d l : Addr) (cs : List Int) (many : Nat), vs = [.ref d, .int many] ∧ St K H d l cs ∧ 1 ≤ many ∧ many < 1073741824 ∧ ∀ H' (r : Nat), r < many → ES H H' → St K H' d l cs → Q (.int r) H'
theorem scNext : FnScope ["_law_state", "_law_many", "_law_found"] ["_law_state", "_law_many"] (defScope sNext) := ⟨rfl, rfl, rfl, by decide +kernel, rfl, by decide +kernel, by decide +kernel⟩

theorem ok_next {f fM : Addr} {fd fdM : FuncData} (F : Fun K "_law_next" "_law_next" sNext f fd) (FM : Fun K "_law_more" "_law_more" sMore fM fdM) (bM : Binds K fdM ["_law_state"] []) (gM : mg "_law_more" = some (.ref fM)) (GM : FnOk P w K mg base CX0 1 fM fdM ["_law_state"] (spMore K)) :
    FnOk P w K mg base CX0 2 f fd ["_law_state", "_law_many"] (spNext K) := by
  refine F.ok scNext (fun vs H Q E h => ?_) (fun cdv A outer s H vs Q E hr h => ?_)
  · obtain ⟨d, l, cs, many, rfl, _⟩ := h
    rfl
  · obtain ⟨d, l, cs, many, rfl, ⟨n, f0, m, t⟩, h1, h2, q⟩ := h
    refine ⟨_, (pss_cons (ps_if (pt_cmpR op_eq (pe_dget (hu_of hr) (pv 0) pe_str (fun _ _ => rfl)) pe_int (nomark _)) (pss_one (ps_dput (hu_of hr) (pv 0) pe_str (pe_call GM hr (by rfl) gM FM.kp bM .nil pass0 (pa_cons (pv 0) pa_nil)) (by rfl))) pss_nil) (pss_cons (ps_set (i := 2) scNext.nd rfl (Or.inl rfl) (pe_op op_mod (pe_dget (hu_of hr) (pv 0) pe_str (fun _ _ => rfl)) (pv 1))) (pss_cons (ps_dput (hu_of hr) (pv 0) pe_str (pe_op op_fdiv (pe_dget (hu_of hr) (pv 0) pe_str (fun _ _ => rfl)) (pv 1)) (by rfl)) (pss_one (ps_ret (pv 2)))))), ?_⟩
    refine ⟨.ref d, rfl, d, .int f0, rfl, DGet.k (k := .inr "left") t.ob, rfl, _, rfl, ?_⟩
    have fin : ∀ (H1 : Hp) (n f0 : _) (t1 : StAt K H1 d l cs n f0 m), True := fun _ _ _ _ => trivial
    by_cases hz : V.int f0 = V.int 0
    · rw [decide_eq_true hz]
      refine iteT ⟨.ref d, rfl, d, l, cs, rfl, ⟨n, f0, m, t⟩, fun H1 r e1 t1 => ?_⟩
      obtain ⟨n, f0, m, t⟩ := t1
      refine ⟨.ref d, rfl, d, _, rfl, DPut.k (k := .inr "left") t.ob stL_len, ?_⟩
      rw [stL_left]
      obtain ⟨t2, e2⟩ := t.put n r
      have e12 := e1.trans e2
      clear t e1
      generalize upd H1 d (.dK (stL l n r m)) = H2 at t2 e12
      refine ⟨.ref d, rfl, d, .int r, rfl, DGet.k (k := .inr "left") t2.ob, .int many, rfl, r, many, rfl, rfl, (by show (0 : Int) < many; omega), ?_⟩
      refine ⟨.ref d, rfl, d, .int r, rfl, DGet.k (k := .inr "left") t2.ob, .int many, rfl, r, many, rfl, rfl, ⟨by omega, by omega⟩, .ref d, rfl, d, _, rfl, DPut.k (k := .inr "left") t2.ob stL_len, ?_⟩
      rw [stL_left]
      obtain ⟨t3, e3⟩ := t2.put n (r / many)
      have h3 := Int.emod_nonneg r (show (many : Int) ≠ 0 by omega)
      have h4 := Int.emod_lt_of_pos r (show (0 : Int) < many by omega)
      obtain ⟨k, hk⟩ := Int.eq_ofNat_of_zero_le h3
      refine ⟨.int (r % many), rfl, ?_⟩
      rw [hk] at h4 ⊢
      exact q _ k (by omega) (e12.trans e3) ⟨n, _, m, t3⟩
    · rw [decide_eq_false hz]
      refine iteF ?_
      have e12 := ES.refl H
      have t2 := t
      generalize f0 = r at t2
      refine ⟨.ref d, rfl, d, .int r, rfl, DGet.k (k := .inr "left") t2.ob, .int many, rfl, r, many, rfl, rfl, (by show (0 : Int) < many; omega), ?_⟩
      refine ⟨.ref d, rfl, d, .int r, rfl, DGet.k (k := .inr "left") t2.ob, .int many, rfl, r, many, rfl, rfl, ⟨by omega, by omega⟩, .ref d, rfl, d, _, rfl, DPut.k (k := .inr "left") t2.ob stL_len, ?_⟩
      rw [stL_left]
      obtain ⟨t3, e3⟩ := t2.put n (r / many)
      have h3 := Int.emod_nonneg r (show (many : Int) ≠ 0 by omega)
      have h4 := Int.emod_lt_of_pos r (show (0 : Int) < many by omega)
      obtain ⟨k, hk⟩ := Int.eq_ofNat_of_zero_le h3
      refine ⟨.int (r % many), rfl, ?_⟩
      rw [hk] at h4 ⊢
      exact q _ k (by omega) (e12.trans e3) ⟨n, _, m, t3⟩

/-! ### _law_pick -/
abbrev sPick : Stmt := topS 27
def spPick (K : PySem.W.Frag) : Sp := fun vs H Q _ => ∃ (d l : Addr) (cs : List Int) (x : V), vs = [.ref d, x] ∧ St K H d l cs ∧
  ((∃ a xs, x = .ref a ∧ SqL K H a xs ∧ 1 ≤ xs.length ∧ xs.length < 1073741824 ∧ ∀ H' y, y ∈ xs → ES H H' → St K H' d l cs → Q y H') ∨
   (∃ z : Str, x = .str z ∧ 1 ≤ z.length ∧ z.length < 1000 ∧ ∀ H' c, c ∈ z.cps.toList → ES H H' → St K H' d l cs → Q (.str ⟨#[c]⟩) H'))
theorem scPick : FnScope ["_law_state", "_law_some"] ["_law_state", "_law_some"] (defScope sPick) := ⟨rfl, rfl, rfl, by decide +kernel, rfl, by decide +kernel, by decide +kernel⟩

theorem ok_pick {f fN : Addr} {fd fdN : FuncData} (F : Fun K "_law_pick" "_law_pick" sPick f fd) (B : Blt mg) (FN : Fun K "_law_next" "_law_next" sNext fN fdN) (bN : Binds K fdN ["_law_state", "_law_many"] []) (gN : mg "_law_next" = some (.ref fN)) (GN : FnOk P w K mg base CX0 2 fN fdN ["_law_state", "_law_many"] (spNext K)) :
    FnOk P w K mg base CX0 3 f fd ["_law_state", "_law_some"] (spPick K) := by
  refine F.ok scPick (fun vs H Q E h => ?_) (fun cdv A outer s H vs Q E hr h => ?_)
  · obtain ⟨d, l, cs, x, rfl, _⟩ := h
    rfl
  · obtain ⟨d, l, cs, x, rfl, t, h⟩ := h
    refine ⟨_, (pss_one (ps_ret (pe_ix (i_any K) (pv 1) (pe_call GN hr (by rfl) gN FN.kp bN .nil pass0 (pa_cons (pv 0) (pa_cons (pe_callB (id := "len") (c_lenA K) (by rfl) B.len PySem.boot_len (pa_cons (pv 1) pa_nil)) pa_nil))) (fun _ _ => rfl)))), ?_⟩
    rcases h with ⟨a, xs, rfl, hs, h1, h2, q⟩ | ⟨z, rfl, h1, h2, q⟩
    · refine ⟨.ref a, rfl, .ref d, rfl, .ref a, rfl, .ref a, xs.length, rfl, .inl ⟨xs, hs, rfl⟩, d, l, cs, xs.length, rfl, t, h1, h2, fun H1 r hr e1 t1 => ?_⟩
      exact .inl ⟨a, xs, r, xs[r], rfl, rfl, SqL.es hs e1, atI_nat (List.getElem?_eq_getElem hr), q _ _ (List.getElem_mem hr) e1 t1⟩
    · refine ⟨.str z, rfl, .ref d, rfl, .str z, rfl, .str z, z.length, rfl, ⟨?_, rfl⟩, d, l, cs, z.length, rfl, t, h1, (by omega), fun H1 r hr e1 t1 => ?_⟩
      · exact Nat.le_of_lt (Nat.lt_of_lt_of_le h2 (by decide))
      · have hr' : r < z.cps.toList.length := hr
        exact .inr (.inr ⟨z, r, z.cps.toList[r], rfl, rfl, Nat.le_of_lt (Nat.lt_of_lt_of_le h2 (by decide)), atI_nat (List.getElem?_eq_getElem hr'), q _ _ (List.getElem_mem hr') e1 t1⟩)

end

end Ho
set_option Elab.async false
set_option linter.all false
set_option maxRecDepth 100000
set_option maxHeartbeats 4000000
/-! The draws: word. -/
namespace Ho
open PySem PySem.Spec PyProof.Rows L2

/-! ### comprehensions in which the state changes -/
/-- all but lists and states stands -/
def ZL (H H' : Hp) : Prop := ∀ b o, H b = some o → (∀ xs, o ≠ .lst xs) → ¬ StO o → H' b = some o
theorem ZL.of {H H' : Hp} (s : Same H H') : ZL H H' := fun b o h _ _ => s b o h
theorem ZL.es {H H' : Hp} (s : ES H H') : ZL H H' := fun b o h _ n => s b o h n
theorem ZL.nl {H H' : Hp} (s : NL H H') : ZL H H' := fun b o h n _ => s b o h n
theorem ZL.trans {H H1 H2 : Hp} (a : ZL H H1) (b : ZL H1 H2) : ZL H H2 := fun c o h n m => b c o (a c o h n m) n m
def SteadyZ {β : Type} (R : Hp → V → β → Prop) : Prop := ∀ H H' v q, ZL H H' → R H v q → R H' v q
theorem steadyZ_str : SteadyZ RStr := fun _ _ _ _ _ h => h
theorem steadyZ_pair {K : PySem.W.Frag} : SteadyZ (TPair K) := fun H H' v q e h => by
  obtain ⟨t, rfl, h⟩ := h
  exact ⟨t, rfl, h.elim (fun h => .inl (h.elim (fun h => .inl (e _ _ h (fun _ z => nomatch z) (noSt fun _ z => nomatch z))) fun ⟨o, h⟩ => .inr ⟨o, e _ _ h (fun _ z => nomatch z) (noSt fun _ z => nomatch z)⟩)) .inr⟩
theorem Paired.steadyZ {β : Type} {R : Hp → V → β → Prop} (st : SteadyZ R) {H H' : Hp} (e : ZL H H') : ∀ {vs : List V} {l : List β}, Paired (R H) vs l → Paired (R H') vs l
  | _, _, .nil => .nil
  | _, _, .cons h t => .cons (st _ _ _ _ e h) (Paired.steadyZ st e t)
section
variable {J : It} {n : Nat} {G : Hp → Prop} {Y : Nat → Hp → V → Hp → Prop} {g : TG} {tt : TT} {te : TE} {vs : List Nat} {σ : L2.St} {H1 : Hp} {D : Addr} {Qd : Hp → Prop} {β : Type}
theorem lc_s (w : Walk J n G Y) (Iv : Nat → List β → Hp → Prop) (ivD : ∀ i L H xs ys, i ≤ n → Iv i L H → H D = some (.lst xs) → Iv i L (upd H D (.lst ys))) (hG : ∀ i L H, i ≤ n → Iv i L H → G H)
    (R : Hp → V → β → Prop) (st : SteadyZ R) (Lz : ∀ i L H, i ≤ n → Iv i L H → L.length < sizeLine) (I0 : Iv 0 [] (upd H1 D (.lst [])))
    (hs : ∀ i L x H H', i < n → Iv i L H → (∃ acc, H D = some (.lst acc)) → Y i H x H' → ∀ (Ny : V → Hp → Prop) (Nn : Hp → Prop), (∀ y H4 q, H4 D = H D → ZL H H4 → Iv (i + 1) (L ++ [q]) H4 → R H4 y q → Ny y H4) → (∀ H3, H3 D = H D → ZL H H3 → Iv (i + 1) L H3 → Nn H3) →
      g x (wipe σ vs) H' fun σ2 H2 => wipe σ2 vs = wipe σ vs ∧ tt σ2 H2 fun b H3 => if b = true then te σ2 H3 fun y H4 => Ny y H4 else Nn H3)
    (hd : ∀ H acc L, Iv n L H → H D = some (.lst acc) → Paired (R H) acc L → Qd H) :
    ∃ W : Nat → Nat → Hp → Prop, (∃ m, W 0 m (upd H1 D (.lst []))) ∧ ∀ i m H, W i m H →
      (J.stop i H ∧ Qd H) ∨ (J.go i H ∧ ∃ Nx : Hp → Prop, (∀ H', Nx H' → ∃ m', m' < m ∧ W (i + 1) m' H') ∧ ∀ x H', J.yld i H x H' → g x (wipe σ vs) H' fun σ2 H2 => wipe σ2 vs = wipe σ vs ∧ tt σ2 H2 fun b H3 =>
        if b = true then te σ2 H3 fun y H4 => ∃ acc, H4 D = some (.lst acc) ∧ acc.length < sizeLine ∧ Nx (upd H4 D (.lst (acc ++ [y]))) else Nx H3) := by
  refine lc_it w (fun i H => ∃ L, Iv i L H ∧ ∃ acc, H D = some (.lst acc) ∧ Paired (R H) acc L) ⟨[], I0, [], upd_same, .nil⟩ (fun i H hi p => ?_) (fun i x H H' hi p y => ?_) fun H p => ?_
  · obtain ⟨L, iv, _⟩ := p
    exact hG i L H hi iv
  · obtain ⟨L, iv, acc, hD, hp⟩ := p
    refine hs i L x H H' hi iv ⟨acc, hD⟩ y _ _ (fun y H4 q d4 z4 iv4 r4 => ?_) fun H3 d3 z3 iv3 => ?_
    · have hD4 : H4 D = some (.lst acc) := d4.trans hD
      have lz : acc.length < sizeLine := by rw [Paired.length hp]; exact Lz i L H (Nat.le_of_lt hi) iv
      refine ⟨acc, hD4, lz, L ++ [q], ivD _ _ _ acc _ hi iv4 hD4, _, upd_same, ?_⟩
      have up : ZL H4 (upd H4 D (.lst (acc ++ [y]))) := .nl (NL.lst hD4)
      exact paired_snoc (Paired.steadyZ st (z4.trans up) hp) (st _ _ _ _ up r4)
    · exact ⟨L, iv3, acc, d3.trans hD, Paired.steadyZ st z3 hp⟩
  · obtain ⟨L, iv, acc, hD, hp⟩ := p
    exact hd H acc L iv hD hp
end
/-! ### texts of letters -/
theorem join_letters : ∀ cs : List Nat, Txt.join ⟨#[]⟩ (cs.map fun c => (⟨#[c]⟩ : Str)) = ⟨cs.toArray⟩
  | [] => rfl
  | c :: r => by
    have ih := join_letters r
    rw [show ∀ ys : List Str, Txt.join ⟨#[]⟩ ys = Str.join ⟨#[]⟩ ys from fun ys => TL.join_eq _ ys] at ih ⊢
    rw [List.map_cons, PyProof.Rows.join_nil_cons, ih]
    show (⟨#[c] ++ r.toArray⟩ : Str) = ⟨(c :: r).toArray⟩
    congr 1
    simp
theorem nm_letters {cs : List Nat} (h1 : 1 ≤ cs.length) (h8 : cs.length ≤ 8) (h : ∀ c ∈ cs, c ∈ letters.cps.toList) : Nm ⟨cs.toArray⟩ :=
  ⟨by show 1 ≤ cs.toArray.size; rw [List.size_toArray]; exact h1, by show cs.toArray.size ≤ 8; rw [List.size_toArray]; exact h8, h⟩
abbrev ownTxt : Str := "look work see seework change held waits no end ask begin drop mark back let ring kinds over above flaw"
theorem own_nm : ∀ z ∈ Txt.split ownTxt " ", Nm z := nm_all (by decide +kernel) (by decide +kernel) (by decide +kernel)
theorem own_len : (Txt.split ownTxt " ").length = 20 := by decide +kernel
theorem sizes : ∀ r : Nat, r < 6 → ∃ s : Nat, 1 ≤ s ∧ s ≤ 8 ∧ ([.int 1, .int 1, .int 2, .int 3, .int 5, .int 8] : List V)[r]? = some (.int s)
  | 0, _ => ⟨1, by decide, by decide, rfl⟩
  | 1, _ => ⟨1, by decide, by decide, rfl⟩
  | 2, _ => ⟨2, by decide, by decide, rfl⟩
  | 3, _ => ⟨3, by decide, by decide, rfl⟩
  | 4, _ => ⟨5, by decide, by decide, rfl⟩
  | 5, _ => ⟨8, by decide, by decide, rfl⟩
  | n + 6, h => absurd h (by omega)
/-- the word cut to seven letters and one more -/
def cand (w : Str) (c : Nat) : Str := cutS w none (some 7) ++ ⟨#[c]⟩
theorem cand_list (w : Str) (c : Nat) : (cand w c).cps.toList = w.cps.toList.take (min 7 w.length) ++ [c] := by
  unfold cand cutS
  show (((w.cps.toList.drop (HT.sIx w.length 0 none)).take (HT.sIx w.length w.length (some ((7 : Nat) : Int)) - HT.sIx w.length 0 none)).toArray ++ #[c]).toList = _
  rw [HT.sIx_none, HT.sIx_nat, List.drop_zero, Nat.sub_zero]
  simp
theorem cand_nm {w : Str} {c : Nat} (h : Nm w) (hc : c ∈ letters.cps.toList) : Nm (cand w c) := by
  have e := cand_list w c
  have el : (cand w c).length = (w.cps.toList.take (min 7 w.length)).length + 1 := by
    show (cand w c).cps.size = _
    rw [← Array.length_toList, e, List.length_append]
    rfl
  rw [List.length_take] at el
  refine ⟨by omega, by omega, fun z hz => ?_⟩
  rw [e] at hz
  rcases List.mem_append.mp hz with hz | hz
  · exact h.let_ z (List.mem_of_mem_take hz)
  · rw [List.mem_singleton.mp hz]
    exact hc
theorem cand_inj {w : Str} {c c' : Nat} (h : cand w c = cand w c') : c = c' := by
  have e : (cand w c).cps.toList = (cand w c').cps.toList := by rw [h]
  rw [cand_list, cand_list] at e
  exact List.singleton_inj.mp (List.append_cancel_left e)
theorem cand_some {w : Str} {ks : List Str} (h : ks.length ≤ 8) : ∃ z r, ((letters.cps.toList.map (cand w)).filter fun z => !decide (z ∈ ks)) = z :: r := by
  cases e : (letters.cps.toList.map (cand w)).filter fun z => !decide (z ∈ ks) with
  | cons z r => exact ⟨z, r, rfl⟩
  | nil =>
    have all : ∀ z ∈ letters.cps.toList.map (cand w), z ∈ ks := fun z hz => by
      by_cases hk : z ∈ ks
      · exact hk
      · have hm : z ∈ (letters.cps.toList.map (cand w)).filter fun z => !decide (z ∈ ks) := List.mem_filter.mpr ⟨hz, by rw [decide_eq_false hk]; rfl⟩
        rw [e] at hm
        exact nomatch hm
    have nd : (letters.cps.toList.map (cand w)).Nodup := Hm.nodup_map (fun a _ b _ h => cand_inj h) (by decide +kernel)
    have l := Hm.nodup_sub_len nd all
    rw [List.length_map, show letters.cps.toList.length = 26 by decide +kernel] at l
    omega
section
variable {P : Program} {w : World} {K : PySem.W.Frag} {mg : Str → Option Value} {base : Heap}
/-! ### _law_word -/
abbrev sWord : Stmt := topS 28
def spWord (K : PySem.W.Frag) : Sp := fun vs H Q _ => ∃ (d l : Addr) (cs : List Int), vs = [.ref d] ∧ St K H d l cs ∧ ∀ H' z, Nm z → ES H H' → St K H' d l cs → Q (.str z) H'
theorem scWord : FnScope ["_law_state", "_law_letters", "_law_own", "_law_size", "_law_k"] ["_law_state"] (defScope sWord) := ⟨rfl, rfl, rfl, by decide +kernel, rfl, by decide +kernel, by decide +kernel⟩

theorem ok_word {f fN fP : Addr} {fd fdN fdP : FuncData} (F : Fun K "_law_word" "_law_word" sWord f fd) (B : Blt mg) (FN : Fun K "_law_next" "_law_next" sNext fN fdN) (bN : Binds K fdN ["_law_state", "_law_many"] []) (gN : mg "_law_next" = some (.ref fN)) (GN : FnOk P w K mg base CX0 2 fN fdN ["_law_state", "_law_many"] (spNext K)) (FP : Fun K "_law_pick" "_law_pick" sPick fP fdP) (bP : Binds K fdP ["_law_state", "_law_some"] []) (gP : mg "_law_pick" = some (.ref fP)) (GP : FnOk P w K mg base CX0 3 fP fdP ["_law_state", "_law_some"] (spPick K)) :
    FnOk P w K mg base CX0 4 f fd ["_law_state"] (spWord K) := by
  refine F.ok scWord (fun vs H Q E h => ?_) (fun cdv A outer s H vs Q E hr h => ?_)
  · obtain ⟨d, l, cs, rfl, _⟩ := h
    rfl
  · obtain ⟨d, l, cs, rfl, t, q⟩ := h
    have hr2 : Room 2 _ := hr.mono (by decide)
    refine ⟨_, (pss_cons (ps_set (i := 1) scWord.nd rfl (Or.inr rfl) pe_str) (pss_cons (ps_set (i := 2) scWord.nd rfl (Or.inl rfl) pe_str) (pss_cons (ps_if (pt_cmpR op_eq (pe_call GN hr2 (by rfl) gN FN.kp bN .nil pass0 (pa_cons (pv 0) (pa_cons pe_int pa_nil))) pe_int (nomark _)) (pss_one (ps_ret (pe_call GP hr (by rfl) gP FP.kp bP .nil pass0 (pa_cons (pv 0) (pa_cons (pe_split (pv 2) pe_str) pa_nil))))) pss_nil) (pss_cons (ps_set (i := 3) scWord.nd rfl (Or.inl rfl) (pe_ix (i_list K) (pe_lst (pa_cons pe_int (pa_cons pe_int (pa_cons pe_int (pa_cons pe_int (pa_cons pe_int (pa_cons pe_int pa_nil))))))) (pe_call GN hr2 (by rfl) gN FN.kp bN .nil pass0 (pa_cons (pv 0) (pa_cons pe_int pa_nil))) (fun _ _ => rfl))) (pss_one (ps_ret (pe_join pe_str (pe_lc (own := [("_law_k", 4)]) (g := gName 4) (tt := tYes) rfl scWord.nd (pi_range1 (by rfl) B.range (pa_cons (pv 3) pa_nil)) (blkOk_by (own := [("_law_k", 4)]) (N := ["_law_state", "_law_letters", "_law_own", "_law_size", "_law_k"]) (sc := defScope sWord) (by decide +kernel)) (fun _ _ _ _ _ => (pg_name (i := 4) scWord.nd rfl (Or.inl rfl))) (fun _ _ _ _ _ => pts_nil) (fun _ _ _ _ _ => (pe_call GP hr (by rfl) gP FP.kp bP .nil pass0 (pa_cons (pv 0) (pa_cons (pv 1) pa_nil)))))))))))), ?_⟩
    refine ⟨.ref d, rfl, d, l, cs, 4, rfl, t, by decide, by decide, fun H1 r hr4 e1 t1 => ⟨rfl, _, rfl, ?_⟩⟩
    by_cases hz : V.int (r : Int) = V.int 0
    · rw [decide_eq_true hz]
      refine iteT ⟨.ref d, rfl, .str ownTxt, rfl, ⟨ownTxt, rfl⟩, ownTxt, " ", rfl, rfl, (by decide +kernel), (by decide +kernel), fun k nk => ?_⟩
      have s2 := same_new (o := .lst ((Txt.split ownTxt " ").map V.str)) nk
      refine ⟨d, l, cs, .ref k, rfl, t1.same s2, .inl ⟨k, _, rfl, .inl (.inl upd_same), (by rw [List.length_map, own_len]; decide), (by rw [List.length_map, own_len]; decide), fun H' y hy e2 t2 => ?_⟩⟩
      obtain ⟨z, hz, rfl⟩ := List.mem_map.mp hy
      exact q _ z (own_nm z hz) (e1.trans ((ES.of s2).trans e2)) t2
    · rw [decide_eq_false hz]
      refine iteF ⟨by decide, fun k nk => ?_⟩
      have s2 := same_new (o := .lst [.int 1, .int 1, .int 2, .int 3, .int 5, .int 8]) nk
      refine ⟨.ref d, rfl, d, l, cs, 6, rfl, t1.same s2, by decide, by decide, fun H3 r6 hr6 e3 t3 => ?_⟩
      obtain ⟨s, hs1, hs8, hs⟩ := sizes r6 hr6
      have e03 : ES H H3 := e1.trans ((ES.of s2).trans e3)
      refine ⟨k, _, r6, .int s, rfl, rfl, .inl (.inl (e3 _ _ upd_same (noSt fun _ z => nomatch z))), atI_nat hs, ?_⟩
      refine ⟨⟨"", rfl⟩, .int s, rfl, s, rfl, by show -(2 ^ 62) ≤ (s : Int); omega, by show (s : Int) < 2 ^ 62; omega, fun D nD => ?_⟩
      have sD := same_new (o := .lst []) nD
      refine lc_s (β := Nat) (walk_range (lo := 0) (n := s)) (fun i L H' => L.length = i ∧ (∀ c ∈ L, c ∈ letters.cps.toList) ∧ ES H3 H' ∧ St K H' d l cs) (fun i L H' xs ys _ h hD => ?_) (fun _ _ _ _ _ => trivial) (fun _ v c => v = .str ⟨#[c]⟩) (fun _ _ _ _ _ h => h) (fun i L H' hi h => ?_) ⟨rfl, (fun _ h => nomatch h), .of sD, t3.same sD⟩ (fun i L x H' H'' hi h hD y Ny Nn hy _ => ?_) fun H' acc L h hD hp => ?_
      · obtain ⟨h1, h2, h3, h4⟩ := h
        have e : ES H3 (upd H' D (.lst ys)) := fun b o e n => by
          rw [upd_ne (ne_of_none e nD)]
          exact h3 b o e n
        exact ⟨h1, h2, e, t3.lst h4 hD e⟩
      · rw [h.1]
        exact Nat.lt_of_le_of_lt (Nat.le_trans hi hs8) (by decide)
      · obtain ⟨rfl, rfl⟩ := y
        obtain ⟨h1, h2, h3, h4⟩ := h
        obtain ⟨acc, hD⟩ := hD
        refine ⟨rfl, .ref d, rfl, .str letters, rfl, d, l, cs, .str letters, rfl, h4, .inr ⟨letters, rfl, (by decide +kernel), (by decide +kernel), fun H4 c hc e4 t4 => hy _ _ c ?_ (.es e4) ⟨by rw [List.length_append, h1]; rfl, fun c' hc' => ?_, h3.trans e4, t4⟩ rfl⟩⟩
        · rw [hD]
          exact e4 _ _ hD (noSt fun _ z => nomatch z)
        · rcases List.mem_append.mp hc' with hc' | hc'
          · exact h2 _ hc'
          · rw [List.mem_singleton.mp hc']; exact hc
      · obtain ⟨h1, h2, h3, h4⟩ := h
        have ev : acc = (L.map fun c => (⟨#[c]⟩ : Str)).map V.str := by
          clear hD h1 h2
          induction hp with
          | nil => rfl
          | cons a _ ih => rw [List.map_cons, List.map_cons, ← ih, show _ = _ from a]
        subst ev
        refine ⟨⟨#[]⟩, D, L.map fun c => (⟨#[c]⟩ : Str), by decide +kernel, rfl, .inl (.inl (.inl hD)), ?_, ?_⟩
        · rw [List.map_map, List.length_map, h1, show L.map ((fun z : Str => z.length) ∘ fun c => (⟨#[c]⟩ : Str)) = L.map (fun _ => 1) from rfl, List.map_const', List.sum_replicate_nat, h1]
          show s * 1 + s * 0 ≤ _
          omega
        · rw [join_letters]
          exact q _ _ (nm_letters (by omega) (by omega) h2) (e03.trans h3) h4

end

end Ho
set_option Elab.async false
set_option linter.all false
set_option maxRecDepth 100000
set_option maxHeartbeats 4000000
/-! The draws: names; side. -/
namespace Ho
open PySem PySem.Spec PyProof.Rows L2

section
variable {P : Program} {w : World} {K : PySem.W.Frag} {mg : Str → Option Value} {base : Heap}
/-! ### _law_names -/
abbrev sNames : Stmt := topS 29
/-- a new list of texts at k -/
def spNames (K : PySem.W.Frag) : Sp := fun vs H Q _ => ∃ (d l : Addr) (cs : List Int) (many : Nat), vs = [.ref d, .int many] ∧ St K H d l cs ∧ many ≤ 8 ∧
  ∀ (H' : Hp) (k : Addr) (ks : List Str), ks.length = many → ks.Nodup → (∀ z ∈ ks, Nm z) → H k = none → H' k = some (.lst (ks.map V.str)) → ES H H' → St K H' d l cs → Q (.ref k) H'
theorem scNames : FnScope ["_law_state", "_law_many", "_law_found", "_law_k", "_law_word_here", "_law_some", "_law_sign", "_law_one"] ["_law_state", "_law_many"] (defScope sNames) := ⟨rfl, rfl, rfl, by decide +kernel, rfl, by decide +kernel, by decide +kernel⟩

theorem ok_names {f fW : Addr} {fd fdW : FuncData} (F : Fun K "_law_names" "_law_names" sNames f fd) (B : Blt mg) (FW : Fun K "_law_word" "_law_word" sWord fW fdW) (bW : Binds K fdW ["_law_state"] []) (gW : mg "_law_word" = some (.ref fW)) (GW : FnOk P w K mg base CX0 4 fW fdW ["_law_state"] (spWord K)) :
    FnOk P w K mg base CX0 5 f fd ["_law_state", "_law_many"] (spNames K) := by
  refine F.ok scNames (fun vs H Q E h => ?_) (fun cdv A outer s H vs Q E hr h => ?_)
  · obtain ⟨d, l, cs, many, rfl, _⟩ := h
    rfl
  · obtain ⟨d, l, cs, many, rfl, t, h8, q⟩ := h
    refine ⟨_, (pss_cons (ps_set (i := 2) scNames.nd rfl (Or.inr rfl) (pe_lst pa_nil)) (pss_cons (ps_for PassesOwn.never rfl (pi_range1 (by rfl) B.range (pa_cons (pv 1) pa_nil)) (pg_name (i := 3) scNames.nd rfl (Or.inl rfl)) (pss_cons (ps_set (i := 4) scNames.nd rfl (Or.inr rfl) (pe_call GW hr (by rfl) gW FW.kp bW .nil pass0 (pa_cons (pv 0) pa_nil))) (pss_cons (ps_if (pt_cmpR op_in_seq (pv 4) (pv 2) rfl) (pss_cons (ps_setLc (i := 5) (own := [("_law_sign", 6)]) (g := gName 6) (tt := tYes) rfl scNames.nd rfl rfl (sw_true rfl rfl rfl (by decide +kernel)) (pi_str pe_str) (blkOk_by (own := [("_law_sign", 6)]) (N := ["_law_state", "_law_many", "_law_found", "_law_k", "_law_word_here", "_law_some", "_law_sign", "_law_one"]) (sc := defScope sNames) (by decide +kernel)) (fun _ _ _ _ _ => (pg_name (i := 6) scNames.nd rfl (Or.inl rfl))) (fun _ _ _ _ _ => pts_nil) (fun _ _ _ _ _ => (pe_op op_add_str (pe_slice sl_str (pv 4) po_none (po_some pe_int)) (pv 6)))) (pss_one (ps_set (i := 4) scNames.nd rfl (Or.inr rfl) (pe_ix (i_list K) (pe_lc (own := [("_law_one", 7)]) (g := gName 7) rfl scNames.nd (piK K (pv 5)) (blkOk_by (own := [("_law_one", 7)]) (N := ["_law_state", "_law_many", "_law_found", "_law_k", "_law_word_here", "_law_some", "_law_sign", "_law_one"]) (sc := defScope sNames) (by decide +kernel)) (fun _ _ _ _ _ => (pg_name (i := 7) scNames.nd rfl (Or.inl rfl))) (fun _ _ _ _ _ => (pts_one (pt_cmpR (o_notIn K) (pv 7) (pv 2) rfl))) (fun _ _ _ _ _ => (pv 7))) pe_int (fun _ _ => rfl))))) pss_nil) (pss_one (ps_expr (pe_bm PySem.F.plainAttrs_list PySem.F.slot_list_append PySem.F.type_list_append mt_append (pv 2) (pa_cons (pv 4) pa_nil))))))) (pss_one (ps_ret (pv 2))))), ?_⟩
    refine ⟨Nat.zero_le _, fun k nk => ?_⟩
    have s1 := same_new (o := .lst []) nk
    refine ⟨.int many, rfl, many, rfl, by show -(2 ^ 62) ≤ (many : Int); omega, by show (many : Int) < 2 ^ 62; omega, ?_⟩
    refine for_it (walk_range (lo := 0) (n := many)) (fun i σ H' => (∃ y3 y4 y5 y6 y7, σ = [some (.ref d), some (.int many), some (.ref k), y3, y4, y5, y6, y7]) ∧ ES H H' ∧ St K H' d l cs ∧ ∃ ks : List Str, ks.length = i ∧ ks.Nodup ∧ (∀ z ∈ ks, Nm z) ∧ H' k = some (.lst (ks.map V.str)))
      ⟨⟨none, none, none, none, none, rfl⟩, .of s1, t.same s1, [], rfl, .nil, (fun _ h => nomatch h), upd_same⟩ (fun _ _ _ _ _ => trivial) (fun i x σ H1 H2 hi h y => ?_) fun σ H' h => ?_
    · obtain ⟨⟨y3, y4, y5, y6, y7, rfl⟩, e1, t1, ks, hl, hn, hm, hk⟩ := h
      obtain ⟨rfl, rfl⟩ := y
      refine ⟨.ref d, rfl, d, l, cs, rfl, t1, fun H3 z hz e3 t3 => ?_⟩
      have hk3 : H3 k = some (.lst (ks.map V.str)) := e3 _ _ hk (noSt fun _ z => nomatch z)
      have e03 : ES H H3 := e1.trans e3
      refine ⟨.str z, rfl, .ref k, rfl, k, _, rfl, .inl (.inl (.inl hk3)), rfl, flat_strs ks, ?_⟩
      rw [if_neg Bool.false_ne_true, in_strs]
      refine ⟨_, rfl, ?_⟩
      have fin : ∀ (z : Str) (H4 : Hp), Same H3 H4 → Nm z → z ∉ ks → ES H (upd H4 k (.lst (ks.map V.str ++ [.str z]))) ∧ St K (upd H4 k (.lst (ks.map V.str ++ [.str z]))) d l cs ∧ ∃ ks' : List Str, ks'.length = i + 1 ∧ ks'.Nodup ∧ (∀ z ∈ ks', Nm z) ∧ (upd H4 k (.lst (ks.map V.str ++ [.str z]))) k = some (.lst (ks'.map V.str)) := fun z H4 s4 hz nz => by
        have e : ES H (upd H4 k (.lst (ks.map V.str ++ [.str z]))) := fun b o e n => by
          rw [upd_ne (ne_of_none e nk)]
          exact s4 _ _ (e03 b o e n)
        refine ⟨e, t.lst (t3.same s4) (s4 _ _ hk3) e, ks ++ [z], by rw [List.length_append, hl]; rfl, ?_, fun z' hz' => ?_, by rw [upd_same, List.map_append]; rfl⟩
        · rw [List.nodup_append]
          refine ⟨hn, (by simp), fun a ha b hb ab => nz ?_⟩
          rw [← List.mem_singleton.mp hb, ← ab]
          exact ha
        · rcases List.mem_append.mp hz' with hz' | hz'
          · exact hm _ hz'
          · rw [List.mem_singleton.mp hz']; exact hz
      have few : (ks.map V.str).length < sizeLine := by rw [List.length_map]; exact len8 (by omega)
      by_cases hin : z ∈ ks
      · rw [decide_eq_true hin]
        refine iteT ⟨letters, rfl, fun D nD => ?_⟩
        refine lc_f (H1 := H3) (xs := letters.cps.toList) (β := Str) (by have := walk_str (z := letters); rwa [show letters.cps.size = letters.cps.toList.length from (Array.length_toList).symm] at this) (fun _ _ => trivial) nD (fun _ => true) (cand z) RStr steady_str (by rw [show letters.cps.toList.length = 26 by decide +kernel]; decide) (fun j c x H5 H6 ec s5 y Ny Nn hy _ => ?_) fun H5 acc s5 hD hp => ?_
        · obtain ⟨rfl, c', hc', rfl⟩ := y
          have hcc : c' = c := by
            rw [← Array.getElem?_toList, ec] at hc'
            exact (Option.some.inj hc').symm
          subst hcc
          refine ⟨rfl, .str z, rfl, 7, rfl, z, rfl, Nat.le_trans hz.few (by decide), .str ⟨#[c']⟩, rfl, _, _, rfl, rfl, ?_, ?_⟩
          · have := cutS_length z none (some 7)
            have := hz.few
            show (cutS z none (some 7)).length + 1 ≤ sizeLine
            have : (9 : Nat) ≤ sizeLine := by decide
            omega
          · exact hy rfl _ _ (Same.refl _) rfl
        · rw [strs_of hp, filt_all] at hD
          have hk5 := s5 _ _ hk3
          obtain ⟨z0, r0, hzr⟩ := cand_some (w := z) (ks := ks) (by omega)
          refine ⟨.ref D, rfl, D, _, rfl, iSq_of (.inl (.inl (.inl hD))) fun J G hG wk D2 nD2 => ?_⟩
          rw [List.length_map] at wk
          refine lc_f (β := Str) wk hG nD2 (fun z => !decide (z ∈ ks)) id RStr steady_str ?_ (fun j c x H6 H7 ec s6 y Ny Nn hy hn' => ?_) fun H6 acc2 s6 hD2 hp2 => ?_
          · rw [List.length_map, show letters.cps.toList.length = 26 by decide +kernel]
            decide
          · obtain ⟨rfl, yx⟩ := y
            obtain rfl := str_get ec yx
            refine ⟨rfl, .str c, rfl, .ref k, rfl, k, _, rfl, .inl (.inl (.inl (s6 _ _ hk5))), rfl, flat_strs ks, ?_⟩
            rw [if_pos rfl, in_strs]
            refine ⟨_, rfl, ?_⟩
            by_cases hc : c ∈ ks
            · rw [decide_eq_true hc]
              exact iteF (hn' (by simp [hc]) _ (Same.refl _))
            · rw [decide_eq_false hc]
              exact iteT ⟨_, rfl, hy (by simp [hc]) _ _ (Same.refl _) rfl⟩
          · rw [strs_of hp2, List.map_id, hzr] at hD2
            have hz0 : z0 ∈ (letters.cps.toList.map (cand z)).filter fun z => !decide (z ∈ ks) := by rw [hzr]; exact List.mem_cons_self
            obtain ⟨h1, h2⟩ := List.mem_filter.mp hz0
            obtain ⟨c, hc, rfl⟩ := List.mem_map.mp h1
            have s36 : Same H3 H6 := s5.trans s6
            refine ⟨D2, _, 0, .str (cand z c), rfl, rfl, .inl (.inl hD2), atI_nat (j := 0) rfl, ?_⟩
            refine ⟨.ref k, rfl, .inl ⟨rfl, _, .inl (.inl (s36 _ _ hk3))⟩, .str (cand z c), rfl, k, _, .str (cand z c), rfl, rfl, s36 _ _ hk3, few, ?_⟩
            exact ⟨⟨_, _, _, _, _, rfl⟩, fin (cand z c) H6 s36 (cand_nm hz hc) (by simpa using h2)⟩
      · rw [decide_eq_false hin]
        refine iteF ⟨.ref k, rfl, .inl ⟨rfl, _, .inl (.inl hk3)⟩, .str z, rfl, k, _, .str z, rfl, rfl, hk3, few, ?_⟩
        exact ⟨⟨_, _, _, _, _, rfl⟩, fin z H3 (Same.refl _) hz hin⟩
    · obtain ⟨⟨y3, y4, y5, y6, y7, rfl⟩, e1, t1, ks, hl, hn, hm, hk⟩ := h
      exact ⟨.ref k, rfl, q _ k ks hl hn hm nk hk e1 t1⟩

/-! ### _law_side -/
abbrev sSide : Stmt := topS 30
def rTxt : Hm.Rt → Str
  | .r => "r"
  | .rw => "rw"
  | .rR => "rR"
  | .rwR => "rwR"
  | .rwRW => "rwRW"
def has (z : Str) (x : Str) : Bool := !(Builtin.Str.occurrences z x 0 z.length 1).isEmpty
theorem has_w : ∀ a, has (rTxt a) "w" = a.hw := fun a => by cases a <;> decide +kernel
theorem has_R : ∀ a, has (rTxt a) "R" = a.hR := fun a => by cases a <;> decide +kernel
theorem has_W : ∀ a, has (rTxt a) "W" = a.hW := fun a => by cases a <;> decide +kernel
theorem has_W2 : ∀ a b, has (rTxt a ++ rTxt b) "W" = (a.hW || b.hW) := fun a b => by cases a <;> cases b <;> decide +kernel
theorem rTxt_len : ∀ a, (rTxt a).length ≤ 4 := fun a => by cases a <;> decide +kernel
theorem rTxt_inj : ∀ a b, rTxt a = rTxt b → a = b := fun a b h => by
  cases a <;> cases b <;> first | rfl | exact absurd h (by decide +kernel)
def spSide : Sp := fun vs H Q _ => ∃ a b : Hm.Rt, vs = [.str (rTxt a), .str (rTxt b)] ∧ Q (.bl (Hm.side a b)) H
theorem scSide : FnScope ["_law_one", "_law_other"] ["_law_one", "_law_other"] (defScope sSide) := ⟨rfl, rfl, rfl, by decide +kernel, rfl, by decide +kernel, by decide +kernel⟩

theorem ok_side {f : Addr} {fd : FuncData} (F : Fun K "_law_side" "_law_side" sSide f fd) :
    FnOk P w K mg base CX0 1 f fd ["_law_one", "_law_other"] spSide := by
  refine F.ok scSide (fun vs H Q E h => ?_) (fun cdv A outer s H vs Q E hr h => ?_)
  · obtain ⟨a, b, rfl, _⟩ := h
    rfl
  · obtain ⟨a, b, rfl, q⟩ := h
    refine ⟨_, (pss_cons (ps_if (pt_cmpR op_in_str pe_str (pe_op op_add_str (pv 0) (pv 1)) rfl) (pss_one (ps_ret pe_bl)) pss_nil) (pss_one (ps_ret (pe_and (pe_not (pe_and (pe_cmpR op_in_str pe_str (pv 0) rfl) (pe_one (pe_cmpR op_in_str pe_str (pv 1) rfl)))) (pe_one (pe_not (pe_and (pe_cmpR op_in_str pe_str (pv 1) rfl) (pe_one (pe_cmpR op_in_str pe_str (pv 0) rfl))))))))), ?_⟩
    have la := rTxt_len a
    have lb := rTxt_len b
    refine ⟨.str (rTxt a), rfl, .str (rTxt b), rfl, _, _, rfl, rfl, (by have : (8 : Nat) ≤ sizeLine := (by decide); omega), _, _, rfl, rfl, _, rfl, ?_⟩
    show if has (rTxt a ++ rTxt b) "W" = true then _ else _
    rw [has_W2]
    unfold Hm.side at q
    cases h1 : (a.hW || b.hW)
    · rw [h1] at q
      refine iteF ?_
      refine ⟨.str (rTxt a), rfl, _, _, rfl, rfl, has (rTxt a) "w", rfl, ?_⟩
      rw [has_w]
      cases h2 : a.hw
      · rw [h2] at q
        refine iteF ⟨_, rfl, _, rfl, iteT ?_⟩
        refine ⟨.str (rTxt b), rfl, _, _, rfl, rfl, has (rTxt b) "w", rfl, ?_⟩
        rw [has_w]
        cases h4 : b.hw
        · rw [h4] at q
          exact iteF ⟨_, rfl, q⟩
        · rw [h4] at q
          refine iteT ⟨.str (rTxt a), rfl, _, _, rfl, rfl, has (rTxt a) "R", rfl, ?_⟩
          rw [has_R]
          exact q
      · rw [h2] at q
        refine iteT ⟨.str (rTxt b), rfl, _, _, rfl, rfl, has (rTxt b) "R", rfl, _, rfl, ?_⟩
        rw [has_R]
        cases h3 : b.hR
        · rw [h3] at q
          refine iteT ?_
          refine ⟨.str (rTxt b), rfl, _, _, rfl, rfl, has (rTxt b) "w", rfl, ?_⟩
          rw [has_w]
          cases h4 : b.hw
          · rw [h4] at q
            exact iteF ⟨_, rfl, q⟩
          · rw [h4] at q
            refine iteT ⟨.str (rTxt a), rfl, _, _, rfl, rfl, has (rTxt a) "R", rfl, ?_⟩
            rw [has_R]
            exact q
        · rw [h3] at q
          exact iteF q
    · rw [h1] at q
      exact iteT q

end

end Ho
set_option Elab.async false
set_option linter.all false
set_option maxRecDepth 100000
set_option maxHeartbeats 4000000
/-! The draws: by_rights. -/
namespace Ho
open PySem PySem.Spec PyProof.Rows L2

/-! ### all but dicts stands -/
def ND (H H' : Hp) : Prop := ∀ b o, H b = some o → (∀ kvs, o ≠ .dK kvs) → H' b = some o
theorem ND.of {H H' : Hp} (s : Same H H') : ND H H' := fun b o h _ => s b o h
theorem ND.upd {H : Hp} {d : Addr} {kvs : List (Key × V)} {o : HO} (h : H d = some (.dK kvs)) : ND H (upd H d o) := fun b u e n => by
  rw [upd_ne fun z : b = d => ?_]
  · exact e
  · subst z
    rw [h] at e
    cases e
    exact n _ rfl
theorem ND.trans {H H1 H2 : Hp} (a : ND H H1) (b : ND H1 H2) : ND H H2 := fun c o h n => b c o (a c o h n) n
theorem TPair.nd {K : PySem.W.Frag} {H H' : Hp} {v : V} {q : Str × Str} (h : TPair K H v q) (e : ND H H') : TPair K H' v q := by
  obtain ⟨t, rfl, h⟩ := h
  exact ⟨t, rfl, h.elim (fun h => .inl (h.elim (fun h => .inl (e _ _ h (fun _ z => nomatch z))) fun ⟨o, h⟩ => .inr ⟨o, e _ _ h (fun _ z => nomatch z)⟩)) .inr⟩
/-! ### what is made by rights, step by step -/
section
variable (g : Str → Hm.Rt) (ns : List Str)
def nearUp (i : Nat) : List (Str × Str) := (List.range i).flatMap fun j => ((ns.drop j).filter fun c => Hm.side (g (ns.getD j Str.empty)) (g c)).map fun c => (ns.getD j Str.empty, c)
theorem nearUp_succ {i : Nat} (h : i < ns.length) : nearUp g ns (i + 1) = nearUp g ns i ++ ((ns.drop i).filter fun c => Hm.side (g ns[i]) (g c)).map fun c => (ns[i], c) := by
  unfold nearUp
  rw [List.range_succ, List.flatMap_append, List.flatMap_cons, List.flatMap_nil, List.append_nil, show ns.getD i Str.empty = ns[i] by rw [List.getD_eq_getElem?_getD, List.getElem?_eq_getElem h]; rfl]
theorem nearUp_all : ∀ ns : List Str, nearUp g ns ns.length = Hm.nearOf g ns
  | [] => rfl
  | a :: r => by
    have ih := nearUp_all r
    unfold nearUp at ih ⊢
    unfold Hm.nearOf at ih ⊢
    unfold Hm.anyTwo
    rw [List.length_cons, List.range_succ_eq_map, List.flatMap_cons, List.flatMap_map, List.filter_append, ← ih, List.filter_map]
    rfl
theorem drops_le : ∀ (i : Nat), i ≤ ns.length → (nearUp g ns i).length ≤ i * ns.length
  | 0, _ => Nat.zero_le _
  | i + 1, h => by
    rw [nearUp_succ g ns (by omega), List.length_append, List.length_map, Nat.succ_mul]
    have := drops_le i (by omega)
    have h2 := List.length_filter_le (fun c => Hm.side (g ns[i]) (g c)) (ns.drop i)
    rw [List.length_drop] at h2
    omega
def wUp (i : Nat) : List (Str × Str) := (Hm.worthOf g (ns.take i)).map fun q => (q.1, wTxt q.2)
def uUp (i : Nat) : List (Str × Str) := Hm.upperOf g ns (ns.take i)
theorem wUp_keys (i : Nat) : ∀ z ∈ (wUp g ns i).map (·.1), z ∈ ns.take i := fun z hz => by
  unfold wUp at hz
  rw [worth_keys] at hz
  obtain ⟨q, hq, rfl⟩ := List.mem_map.mp hz
  obtain ⟨n, hn, rfl⟩ := List.mem_map.mp hq
  exact (List.mem_filter.mp hn).1
theorem uUp_keys (i : Nat) : ∀ z ∈ (uUp g ns i).map (·.1), z ∈ ns.take i := fun z hz => by
  obtain ⟨q, hq, rfl⟩ := List.mem_map.mp hz
  exact (Hm.upperOf_keys hq).1
theorem wUp_succ {i : Nat} (h : i < ns.length) : wUp g ns (i + 1) = if (g ns[i]).hR = true then wUp g ns i ++ [(ns[i], (if (g ns[i]).hW = true then "change" else "see" : Str))] else wUp g ns i := by
  have et : ns.take (i + 1) = ns.take i ++ [ns[i]] := by rw [List.take_add_one, List.getElem?_eq_getElem h]; rfl
  unfold wUp Hm.worthOf
  rw [et, List.filter_append, List.map_append, List.map_append]
  by_cases e : (g ns[i]).hR = true
  · rw [if_pos e, List.filter_cons_of_pos (p := fun n => (g n).hR) e]
    congr 1
    show [(ns[i], wTxt (if (g ns[i]).hW = true then 2 else 1))] = _
    by_cases e2 : (g ns[i]).hW = true
    · rw [if_pos e2, if_pos e2]; try rfl
    · rw [if_neg e2, if_neg e2]; try rfl
  · rw [if_neg e, List.filter_cons_of_neg (p := fun n => (g n).hR) e]
    exact List.append_nil _
theorem uUp_succ {i : Nat} (h : i < ns.length) : uUp g ns (i + 1) = uUp g ns i ++ ((Hm.goalsOf g ns ns[i]).head?.map fun m => (ns[i], m)).toList := by
  have et : ns.take (i + 1) = ns.take i ++ [ns[i]] := by rw [List.take_add_one, List.getElem?_eq_getElem h]; rfl
  unfold uUp Hm.upperOf
  rw [et, List.filterMap_append]
  congr 1
theorem uUp_few (hn : ns.Nodup) (i : Nat) : (uUp g ns i).length ≤ ns.length := by
  have h := Hm.upperOf_nodup (g := g) (all := ns) (ns := ns.take i) (List.Nodup.sublist (List.take_sublist _ _) hn)
  have := Hm.nodup_sub_len h fun z hz => List.mem_of_mem_take (uUp_keys g ns i z hz)
  rw [List.length_map] at this
  exact this
theorem wUp_few (i : Nat) : (wUp g ns i).length ≤ ns.length := by
  unfold wUp Hm.worthOf
  rw [List.length_map, List.length_map]
  refine Nat.le_trans (List.length_filter_le _ _) ?_
  rw [List.length_take]
  exact Nat.min_le_right _ _
end
theorem not_taken {ns : List Str} (hn : ns.Nodup) {i : Nat} (h : i < ns.length) : ns[i] ∉ ns.take i := fun hm => by
  obtain ⟨j, hj, ej⟩ := List.getElem_of_mem hm
  rw [List.length_take] at hj
  exact absurd ((List.getElem_take ..).symm.trans ej) (List.pairwise_iff_getElem.mp hn j i (by omega) h (by omega))
/-- the pile as a dict -/
def pilK (ns : List Str) (rs : List Hm.Rt) : List (Key × V) := kvT (ns.zip (rs.map rTxt))
theorem pile_val {ns : List Str} {rs : List Hm.Rt} (hl : ns.length = rs.length) {z : Str} (hz : z ∈ ns) : valV (pilK ns rs) (.inr z) = some (.str (rTxt (Hm.pile ns rs z))) := by
  unfold pilK
  rw [kvT_val, show ns.zip (rs.map rTxt) = (ns.zip rs).map fun p => (p.1, rTxt p.2) by rw [List.zip_map_right]; rfl]
  have h := Hm.look_map (fun x : Str => x) rTxt z (l := ns.zip rs) fun _ _ e => e
  rw [h]
  obtain ⟨r, hr⟩ := Hm.look_some (l := ns.zip rs) (a := z) (by rw [List.map_fst_zip (Nat.le_of_eq hl)]; exact hz)
  unfold Hm.pile
  rw [hr]
  rfl
theorem pile_get {ns : List Str} {rs : List Hm.Rt} {H : Hp} {p : Addr} {z : Str} (hl : ns.length = rs.length) (h : H p = some (.dK (pilK ns rs))) (hz : z ∈ ns) : DGet H p (.str z) (some (.str (rTxt (Hm.pile ns rs z)))) := by
  rw [← pile_val hl hz]
  exact DGet.k (k := .inr z) h
theorem goal_txt (a : Hm.Rt) : (if a.hw = true then ("rw" : Str) else "r") = rTxt a.goal := by cases a <;> rfl
theorem if_join {b : Bool} {X : Prop} {R : Hp → Prop} {H6 : Hp} (F : Hp → Prop) (rest : ∀ H7, F H7 → R H7) (t : b = true → (∀ H7, F H7 → R H7) → X) (e : b = false → F H6) : if b = true then X else R H6 := by
  cases b with
  | true => exact iteT (t rfl rest)
  | false => exact iteF (rest _ (e rfl))
theorem txt_eq (x y : Hm.Rt) : decide (V.str (rTxt x) = V.str (rTxt y)) = decide (x = y) := by
  by_cases e : x = y
  · rw [e, decide_eq_true rfl, decide_eq_true rfl]
  · rw [decide_eq_false e, decide_eq_false fun z => e (rTxt_inj _ _ (V.str.inj z))]
/-- the dict of a plain table -/
def plK (a b c e : Addr) : List (Key × V) := [(.inr "kinds", .ref a), (.inr "near", .ref b), (.inr "worth", .ref c), (.inr "upper", .ref e)]
theorem pl_new (a b c e : Addr) : mergeK [] (plK a b c e) = plK a b c e := by rfl
section
variable {P : Program} {w : World} {K : PySem.W.Frag} {mg : Str → Option Value} {base : Heap}
/-! ### _law_by_rights -/
abbrev sRights : Stmt := topS 31
def spRights (K : PySem.W.Frag) : Sp := fun vs H Q _ => ∃ (a b : Addr) (ns : List Str) (rs : List Hm.Rt), vs = [.ref a, .ref b] ∧ SqL K H a (ns.map V.str) ∧ SqL K H b (rs.map fun r => V.str (rTxt r)) ∧ ns.length = rs.length ∧ ns.length ≤ 8 ∧ ns.Nodup ∧ (∀ z ∈ ns, Nm z) ∧
  ∀ H' d, Same H H' → PlD K H' d (Hm.byRights ns rs) → Q (.ref d) H'
theorem scRights : FnScope ["_law_names_here", "_law_rights", "_law_pile", "_law_near", "_law_worth", "_law_upper", "_law_at", "_law_one", "_law_some", "_law_goal", "_law_goals", "_law_other"] ["_law_names_here", "_law_rights"] (defScope sRights) := ⟨rfl, rfl, rfl, by decide +kernel, rfl, by decide +kernel, by decide +kernel⟩

theorem ok_rights {f fS : Addr} {fd fdS : FuncData} (F : Fun K "_law_by_rights" "_law_by_rights" sRights f fd) (B : Blt mg) (FS : Fun K "_law_side" "_law_side" sSide fS fdS) (bS : Binds K fdS ["_law_one", "_law_other"] []) (gS : mg "_law_side" = some (.ref fS)) (GS : FnOk P w K mg base CX0 1 fS fdS ["_law_one", "_law_other"] spSide) :
    FnOk P w K mg base CX0 2 f fd ["_law_names_here", "_law_rights"] (spRights K) := by
  refine F.ok scRights (fun vs H Q E h => ?_) (fun cdv A outer s H vs Q E hr h => ?_)
  · obtain ⟨a, b, ns, rs, rfl, _⟩ := h
    rfl
  · obtain ⟨a, b, ns, rs, rfl, ha, hb, hl, h8, hn, hN, q⟩ := h
    refine ⟨_, (pss_cons (ps_set (i := 2) scRights.nd rfl (Or.inr rfl) (pe_dictZip (by rfl) B.dict (by rfl) B.list (by rfl) B.zip rfl (pa_cons (pv 0) (pa_cons (pv 1) pa_nil)))) (pss_cons (ps_par3 (i := 3) (j := 4) (l := 5) rfl scRights.nd rfl rfl rfl (by decide) (by decide) (by decide) rfl rfl rfl (pa_cons (pe_lst pa_nil) (pa_cons pe_dnewK (pa_cons pe_dnewK pa_nil))) (by rfl)) (pss_cons (ps_for PassesOwn.never rfl (pi_enum (by rfl) B.enum (pa_cons (pv 0) pa_nil)) (pg_tup rfl (pgs_cons (pg_name (i := 6) scRights.nd rfl (Or.inl rfl)) (pgs_cons (pg_name (i := 7) scRights.nd rfl (Or.inr rfl)) pgs_nil))) (pss_cons (ps_setLc (i := 8) (own := [("_law_other", 11)]) (g := gName 11) rfl scRights.nd rfl rfl (sw_true rfl rfl rfl (by decide +kernel)) (piK K (pe_slice (s_list K) (pv 0) (po_some (pv 6)) po_none)) (blkOk_by (own := [("_law_other", 11)]) (N := ["_law_names_here", "_law_rights", "_law_pile", "_law_near", "_law_worth", "_law_upper", "_law_at", "_law_one", "_law_some", "_law_goal", "_law_goals", "_law_other"]) (sc := defScope sRights) (by decide +kernel)) (fun _ _ _ _ _ => (pg_name (i := 11) scRights.nd rfl (Or.inl rfl))) (fun _ _ _ _ _ => (pts_one (pt_val (pe_call GS hr (by rfl) gS FS.kp bS .nil pass0 (pa_cons (pe_dget (hu_of hr) (pv 2) (pv 7) (fun _ _ => rfl)) (pa_cons (pe_dget (hu_of hr) (pv 2) (pv 11) (fun _ _ => rfl)) pa_nil)))))) (fun _ _ _ _ _ => (pv 11))) (pss_cons (ps_set (i := 3) scRights.nd rfl (Or.inl rfl) (pe_op op_cat (pv 3) (pe_lc (own := [("_law_other", 11)]) (g := gName 11) (tt := tYes) rfl scRights.nd (piK K (pv 8)) (blkOk_by (own := [("_law_other", 11)]) (N := ["_law_names_here", "_law_rights", "_law_pile", "_law_near", "_law_worth", "_law_upper", "_law_at", "_law_one", "_law_some", "_law_goal", "_law_goals", "_law_other"]) (sc := defScope sRights) (by decide +kernel)) (fun _ _ _ _ _ => (pg_name (i := 11) scRights.nd rfl (Or.inl rfl))) (fun _ _ _ _ _ => pts_nil) (fun _ _ _ _ _ => (pe_tup (pa_cons (pv 7) (pa_cons (pv 11) pa_nil))))))) (pss_cons (ps_if (pt_cmpR op_in_str pe_str (pe_dget (hu_of hr) (pv 2) (pv 7) (fun _ _ => rfl)) rfl) (pss_one (ps_dput (hu_of hr) (pv 4) (pv 7) (pe_ifExp (pt_cmpR op_in_str pe_str (pe_dget (hu_of hr) (pv 2) (pv 7) (fun _ _ => rfl)) rfl) pe_str pe_str) (by rfl))) pss_nil) (pss_cons (ps_set (i := 9) scRights.nd rfl (Or.inr rfl) (pe_ifExp (pt_cmpR op_in_str pe_str (pe_dget (hu_of hr) (pv 2) (pv 7) (fun _ _ => rfl)) rfl) pe_str pe_str)) (pss_cons (ps_setLc (i := 10) (own := [("_law_other", 11)]) (g := gName 11) rfl scRights.nd rfl rfl (sw_true rfl rfl rfl (by decide +kernel)) (piK K (pv 0)) (blkOk_by (own := [("_law_other", 11)]) (N := ["_law_names_here", "_law_rights", "_law_pile", "_law_near", "_law_worth", "_law_upper", "_law_at", "_law_one", "_law_some", "_law_goal", "_law_goals", "_law_other"]) (sc := defScope sRights) (by decide +kernel)) (fun _ _ _ _ _ => (pg_name (i := 11) scRights.nd rfl (Or.inl rfl))) (fun _ _ _ _ _ => (pts_one (pt_cmpR op_eq (pe_dget (hu_of hr) (pv 2) (pv 11) (fun _ _ => rfl)) (pv 9) (nomark _)))) (fun _ _ _ _ _ => (pv 11))) (pss_one (ps_expr (pe_bm PySem.F.plainAttrs_dict PySem.F.slot_dict_update PySem.F.type_dict_update mt_upd (pv 5) (pa_cons (pe_callTy (T := "dict") (call_dictP rfl) (by rfl) B.dict (by decide +kernel) (pa_cons (pe_ifExp (pt_cmpR (op_neD hr.units) (pv 10) (pe_lst pa_nil) (nomark _)) (pe_lst (pa_cons (pe_tup (pa_cons (pv 7) (pa_cons (pe_ix (i_list K) (pv 10) pe_int (fun _ _ => rfl)) pa_nil))) pa_nil)) (pe_lst pa_nil)) pa_nil)) pa_nil)))))))))) (pss_one (ps_ret (pe_disp (pps_cons pe_str (pv 0) (pps_cons pe_str (pv 3) (pps_cons pe_str (pv 4) (pps_cons pe_str (pv 5) pps_nil)))) (by rfl) (by rfl) (by simp) (by decide))))))), ?_⟩
    refine ⟨.ref a, rfl, .ref b, rfl, a, b, ns.map .inr, rs.map fun r => V.str (rTxt r), rfl, (by rw [List.map_map]; exact ha), hb, (by rw [List.length_map, List.length_map]; exact hl), fun pD np => ?_⟩
    have epl : mergeK [] ((ns.map (Sum.inr : Str → Key)).zip (rs.map fun r => V.str (rTxt r))) = pilK ns rs := by
      have e : (ns.map (Sum.inr : Str → Key)).zip (rs.map fun r => V.str (rTxt r)) = pilK ns rs := by
        unfold pilK kvT
        rw [show (rs.map fun r => V.str (rTxt r)) = (rs.map rTxt).map V.str from (List.map_map ..).symm, List.zip_map]
        rfl
      rw [e]
      refine merge_nil ?_
      rw [List.map_fst_zip (by rw [List.length_map]; exact Nat.le_of_eq hl)]
      exact hn
    rw [epl]
    have sP := same_new (o := .dK (pilK ns rs)) np
    generalize hHp : upd H pD (.dK (pilK ns rs)) = Hp1 at sP
    have hp1 : Hp1 pD = some (.dK (pilK ns rs)) := by rw [← hHp]; exact upd_same
    refine ⟨Nat.zero_le _, fun lN nl => ?_⟩
    have s2 := same_new (o := .lst []) nl
    refine fun wD nw uD nu => ⟨_, _, _, rfl, ?_⟩
    have s3 := same_new (o := .dK []) nw
    have s4 := same_new (o := .dK []) nu
    have s14 := (s2.trans s3).trans s4
    have pw : wD ≠ pD := (ne_of_none ((s2) _ _ hp1) nw).symm
    have pu : uD ≠ pD := (ne_of_none ((s2.trans s3) _ _ hp1) nu).symm
    have wu : uD ≠ wD := (ne_of_none upd_same nu).symm
    have nw0 : H wD = none := by
      cases z : H wD with
      | none => rfl
      | some o => rw [s2 _ _ (sP _ _ z)] at nw; cases nw
    have nu0 : H uD = none := by
      cases z : H uD with
      | none => rfl
      | some o => rw [s3 _ _ (s2 _ _ (sP _ _ z))] at nu; cases nu
    refine ⟨.ref a, rfl, a, ns.map V.str, rfl, SqL.es (SqL.es ha (.of sP)) (.of s14), ?_⟩
    have wk := (walk_enum (K := K) (a := a) (xs := ns.map V.str)).mono (G' := fun H' => Same H H') (Y' := YPair (fun i => some (.int (i : Nat))) (fun i => (ns.map V.str)[i]?)) (fun H' s => SqL.es ha (.of s)) fun _ _ _ _ _ _ y => y
    rw [List.length_map] at wk
    refine for_it wk (fun i σ H' => (∃ lN y6 y7 y8 y9 y10 y11, σ = [some (.ref a), some (.ref b), some (.ref pD), some (.ref lN), some (.ref wD), some (.ref uD), y6, y7, y8, y9, y10, y11] ∧ ∃ us, H' lN = some (.lst us) ∧ Paired (TPair K H') us (nearUp (Hm.pile ns rs) ns i)) ∧ Same H H' ∧ H' pD = some (.dK (pilK ns rs)) ∧ H' wD = some (.dK (kvT (wUp (Hm.pile ns rs) ns i))) ∧ H' uD = some (.dK (kvT (uUp (Hm.pile ns rs) ns i))))
      ⟨⟨lN, none, none, none, none, none, none, rfl, [], (s3.trans s4) _ _ upd_same, .nil⟩, sP.trans s14, s14 _ _ hp1, s4 _ _ upd_same, upd_same⟩ (fun i σ H' _ h => h.2.1) (fun i x σ H1 H2 hi h y => ?_) fun σ H' h => ?_
    · obtain ⟨⟨lN, y6, y7, y8, y9, y10, y11, rfl, us, hus, hup⟩, s1, hp, hw, hu⟩ := h
      clear s2 s3 s4 s14 nl nw nu
      obtain ⟨t1, x1, y1, rfl, nt1, rfl, h1, h2⟩ := y
      have e1 : x1 = .int (i : Nat) := (Option.some.inj h1).symm
      have e2 : y1 = .str ns[i] := by
        have h2 : (ns.map V.str)[i]? = some y1 := h2
        rw [List.getElem?_map, List.getElem?_eq_getElem hi] at h2
        exact (Option.some.inj h2).symm
      subst e1 e2
      have s2 := same_new (o := .tup [.int (i : Nat), .str ns[i]]) nt1
      have hzi : ns[i] ∈ ns := List.getElem_mem hi
      generalize hz : ns[i] = z at s2 hzi
      refine ⟨t1, _, rfl, .inl (.inl upd_same), rfl, _, _, rfl, _, _, rfl, rfl, ?_⟩
      refine ⟨.ref a, rfl, .int i, rfl, (i : Int), rfl, a, _, rfl, SqL.es ha (.of (s1.trans s2)), fun L1 nL1 => ?_⟩
      rw [cut_from, ← List.map_drop]
      have s3 := same_new (o := .lst ((ns.drop i).map V.str)) nL1
      refine ⟨L1, _, rfl, iSq_of (.inl (.inl (.inl upd_same))) fun J G hG wk1 D nD => ?_⟩
      rw [List.length_map] at wk1
      have hs23 := s2.trans s3
      have dl : (ns.drop i).length ≤ 8 := by rw [List.length_drop]; omega
      refine lc_f (β := Str) wk1 hG nD (fun c => Hm.side (Hm.pile ns rs z) (Hm.pile ns rs c)) id RStr steady_str (len8 dl) (fun j c x H4 H5 ec s4 y Ny Nn hy hn' => ?_) fun H4 acc s4 hD hp4 => ?_
      · obtain ⟨rfl, yx⟩ := y
        obtain rfl := str_get ec yx
        have hc : c ∈ ns := List.mem_of_mem_drop (List.mem_of_getElem? ec)
        have hp' := s4 _ _ (hs23 _ _ hp)
        refine ⟨rfl, .ref pD, rfl, .str z, rfl, pD, .str (rTxt (Hm.pile ns rs z)), rfl, pile_get hl hp' hzi, .ref pD, rfl, .str c, rfl, pD, .str (rTxt (Hm.pile ns rs c)), rfl, pile_get hl hp' hc, _, _, rfl, _, rfl, ?_⟩
        cases es : Hm.side (Hm.pile ns rs z) (Hm.pile ns rs c) with
        | false => exact iteF (hn' es _ (Same.refl _))
        | true => exact iteT ⟨.str c, rfl, hy es _ _ (Same.refl _) rfl⟩
      rw [strs_of hp4, List.map_id] at hD
      generalize hsm : (ns.drop i).filter (fun c => Hm.side (Hm.pile ns rs z) (Hm.pile ns rs c)) = sm at hD
      have sm8 : sm.length ≤ 8 := by rw [← hsm]; exact Nat.le_trans (List.length_filter_le _ _) dl
      have s24 := hs23.trans s4
      -- near
      refine ⟨.ref lN, rfl, .ref D, rfl, D, _, rfl, iSq_of (.inl (.inl (.inl hD))) fun J2 G2 hG2 wk2 D2 nD2 => ?_⟩
      rw [List.length_map] at wk2
      refine lc_f (β := Str × Str) wk2 hG2 nD2 (fun _ => true) (fun c => (z, c)) (TPair K) steady_pair (len8 sm8) (fun j c x H5 H6 ec s5 y Ny Nn hy hn' => ?_) fun H5 acc2 s5 hD2 hp5 => ?_
      · obtain ⟨rfl, yx⟩ := y
        obtain rfl := str_get ec yx
        exact ⟨rfl, .str z, rfl, .str c, rfl, (by show 2 ≤ sizeLine; decide), fun k nk => hy rfl _ _ (same_new nk) ⟨k, rfl, .inl (.inl upd_same)⟩⟩
      rw [filt_all] at hp5
      have s25 := s24.trans s5
      have hus5 := s25 _ _ hus
      have hup5 := Paired.steady steady_pair (.of s25) hup
      have nfew := drops_le (Hm.pile ns rs) ns i (Nat.le_of_lt hi)
      refine ⟨lN, D2, us, acc2, rfl, rfl, hus5, hD2, ?_, fun lN2 nl2 => ?_⟩
      · rw [Paired.length hup5, Paired.length hp5, List.length_map]
        have : i * ns.length ≤ 8 * 8 := Nat.mul_le_mul (by omega) h8
        exact Nat.le_trans (show _ ≤ 72 by omega) (by decide)
      have s6 := same_new (o := .lst (us ++ acc2)) nl2
      have hup6 : Paired (TPair K (upd H5 lN2 (.lst (us ++ acc2)))) (us ++ acc2) (nearUp (Hm.pile ns rs) ns (i + 1)) := by
        rw [nearUp_succ _ _ hi, hz, hsm]
        exact paired_app (Paired.steady steady_pair (.of s6) hp5) (Paired.steady steady_pair (.of s6) hup5)
      have hL6 : (upd H5 lN2 (.lst (us ++ acc2))) lN2 = some (.lst (us ++ acc2)) := upd_same
      have s26 := s25.trans s6
      have s06 := s1.trans s26
      have hp6 := s26 _ _ hp
      have hw6 := s26 _ _ hw
      have hu6 := s26 _ _ hu
      generalize upd H5 lN2 (.lst (us ++ acc2)) = H6 at hup6 hL6 s06 hp6 hw6 hu6
      clear s26 s6 hp5 hD2 s5 hup5 hus5 hup hus
      -- worth
      have wn : z ∉ (wUp (Hm.pile ns rs) ns i).map (·.1) := fun h => not_taken hn hi (by rw [hz]; exact wUp_keys _ _ i z h)
      have un : z ∉ (uUp (Hm.pile ns rs) ns i).map (·.1) := fun h => not_taken hn hi (by rw [hz]; exact uUp_keys _ _ i z h)
      have wl := wUp_few (Hm.pile ns rs) ns i
      have ul := uUp_few (Hm.pile ns rs) ns hn i
      have ew := wUp_succ (Hm.pile ns rs) ns hi
      have eu := uUp_succ (Hm.pile ns rs) ns hi
      rw [hz] at ew eu
      generalize hg : Hm.pile ns rs z = gz at ew
      have gp : ∀ {H' : Hp}, H' pD = some (.dK (pilK ns rs)) → DGet H' pD (.str z) (some (.str (rTxt gz))) := fun h => hg ▸ pile_get hl h hzi
      refine ⟨.ref pD, rfl, .str z, rfl, pD, _, rfl, gp hp6, "R", rTxt gz, rfl, rfl, has (rTxt gz) "R", rfl, ?_⟩
      rw [has_R]
      refine if_join (fun H7 => Same H H7 ∧ H7 pD = some (.dK (pilK ns rs)) ∧ H7 wD = some (.dK (kvT (wUp (Hm.pile ns rs) ns (i + 1)))) ∧ H7 uD = some (.dK (kvT (uUp (Hm.pile ns rs) ns i))) ∧ H7 lN2 = some (.lst (us ++ acc2)) ∧ Paired (TPair K H7) (us ++ acc2) (nearUp (Hm.pile ns rs) ns (i + 1))) ?_ ?_ ?_
      · rintro H7 ⟨s07, hp7, hw7, hu7, hL7, hup7⟩
        refine ⟨.ref pD, rfl, .str z, rfl, pD, _, rfl, gp hp7, "w", rTxt gz, rfl, rfl, has (rTxt gz) "w", rfl, ?_⟩
        rw [has_w]
        have hgt := goal_txt gz
        have eg : ns.filter (fun m => decide (Hm.pile ns rs m = gz.goal)) = Hm.goalsOf (Hm.pile ns rs) ns z := by
          unfold Hm.goalsOf
          rw [hg]
        cases hgw : gz.hw with
        | true =>
          rw [if_pos hgw] at hgt
          refine iteT ?_
          refine ⟨.ref a, rfl, a, _, rfl, iSq_of (.inl (SqL.es ha (.of s07))) fun J4 G4 hG4 wk4 D4 nD4 => ?_⟩
          rw [List.length_map] at wk4
          refine lc_f (β := Str) wk4 hG4 nD4 (fun m => decide (Hm.pile ns rs m = gz.goal)) id RStr steady_str (len8 h8) (fun j c x H8 H9 ec s8 y Ny Nn hy hn' => ?_) fun H8 acc4 s8 hD4 hp8 => ?_
          · obtain ⟨rfl, yx⟩ := y
            obtain rfl := str_get ec yx
            refine ⟨rfl, .ref pD, rfl, .str c, rfl, pD, _, rfl, pile_get hl (s8 _ _ hp7) (List.mem_of_getElem? ec), .str "rw", rfl, rfl, _, rfl, ?_⟩
            rw [show decide (V.str (rTxt (Hm.pile ns rs c)) = V.str "rw") = decide (Hm.pile ns rs c = gz.goal) from by rw [hgt]; exact txt_eq _ _]
            cases es : decide (Hm.pile ns rs c = gz.goal) with
            | false => exact iteF (hn' es _ (Same.refl _))
            | true => exact iteT ⟨.str c, rfl, hy es _ _ (Same.refl _) rfl⟩
          rw [strs_of hp8, List.map_id, eg] at hD4
          have gsub : ∀ m ∈ Hm.goalsOf (Hm.pile ns rs) ns z, Nm m := fun m hm => hN m (List.mem_filter.mp hm).1
          generalize Hm.goalsOf (Hm.pile ns rs) ns z = gl at hD4 eu gsub
          have hu8 := s8 _ _ hu7
          refine ⟨.ref uD, rfl, .inr (.inr (.inl ⟨rfl, .inl ⟨_, hu8⟩⟩)), .ref D4, rfl, Nat.zero_le _, fun k nk => ?_⟩
          have s9 := same_new (o := .lst []) nk
          refine ⟨.list (dS gl), .list [], .lst (.inl (.inl (s9 _ _ hD4))) (dp_strs gl), .lst (.inl (.inl upd_same)) .nil, sh_strs gl gsub, rfl, _, rfl, ?_⟩
          rw [eqv_nil]
          have ends : ∀ (H10 : Hp) (e : Addr) (more : List (Str × Str)), Same H7 H10 → uUp (Hm.pile ns rs) ns (i + 1) = uUp (Hm.pile ns rs) ns i ++ more → mergeK (kvT (uUp (Hm.pile ns rs) ns i)) (kvT more) = kvT (uUp (Hm.pile ns rs) ns i ++ more) → ∃ us', Same H (upd H10 uD (.dK (mergeK (kvT (uUp (Hm.pile ns rs) ns i)) (kvT more)))) ∧ (upd H10 uD (.dK (mergeK (kvT (uUp (Hm.pile ns rs) ns i)) (kvT more)))) pD = some (.dK (pilK ns rs)) ∧ (upd H10 uD (.dK (mergeK (kvT (uUp (Hm.pile ns rs) ns i)) (kvT more)))) wD = some (.dK (kvT (wUp (Hm.pile ns rs) ns (i + 1)))) ∧
              (upd H10 uD (.dK (mergeK (kvT (uUp (Hm.pile ns rs) ns i)) (kvT more)))) uD = some (.dK (kvT (uUp (Hm.pile ns rs) ns (i + 1)))) ∧ (upd H10 uD (.dK (mergeK (kvT (uUp (Hm.pile ns rs) ns i)) (kvT more)))) lN2 = some (.lst us') ∧ Paired (TPair K (upd H10 uD (.dK (mergeK (kvT (uUp (Hm.pile ns rs) ns i)) (kvT more))))) us' (nearUp (Hm.pile ns rs) ns (i + 1)) := fun H10 e more s10 e1 e2 => by
            have nd : ND H10 (upd H10 uD (.dK (mergeK (kvT (uUp (Hm.pile ns rs) ns i)) (kvT more)))) := ND.upd (s10 _ _ hu7)
            refine ⟨us ++ acc2, fun b o e => ?_, ?_, ?_, ?_, nd _ _ (s10 _ _ hL7) (fun _ z => nomatch z), Paired.mapP (Paired.steady steady_pair (.of s10) hup7) fun _ _ h => h.nd nd⟩
            · rw [upd_ne (ne_of_none e nu0)]
              exact s10 _ _ (s07 b o e)
            · rw [upd_ne pu.symm]; exact s10 _ _ hp7
            · rw [upd_ne wu.symm]; exact s10 _ _ hw7
            · rw [upd_same, e2, e1]
          have lu : (kvT (uUp (Hm.pile ns rs) ns i)).length ≤ 8 := by rw [kvT_len]; omega
          cases gl with
          | nil =>
            refine iteF ⟨Nat.zero_le _, fun k2 nk2 => ?_⟩
            have s10 := same_new (o := .lst []) nk2
            refine ⟨k2, [], [], rfl, .inl (.inl upd_same), .nil, fun e ne => ?_⟩
            have s11 := same_new (o := .dK (mergeK [] [])) ne
            have s711 := ((s8.trans s9).trans s10).trans s11
            have hu11 := s711 _ _ hu7
            obtain ⟨us', i1, i2, i3, i4, i5, i6⟩ := ends _ e [] s711 eu (by rw [List.append_nil]; rfl)
            exact ⟨uD, e, _, [], rfl, rfl, hu11, upd_same, (ne_of_none (((s8.trans s9).trans s10) _ _ hu7) ne), Nat.le_trans (Nat.add_le_add lu (Nat.zero_le 8)) (by decide), ⟨lN2, _, _, _, _, _, _, rfl, us', i5, i6⟩, i1, i2, i3, i4⟩
          | cons m r =>
            refine iteT ⟨.str z, rfl, .ref D4, rfl, D4, _, 0, .str m, rfl, rfl, .inl (.inl (s9 _ _ hD4)), atI_nat (j := 0) rfl, (by show 2 ≤ sizeLine; decide), fun T nT => ?_⟩
            have s10 := same_new (o := .tup [.str z, .str m]) nT
            refine ⟨(by show 1 ≤ sizeLine; decide), fun k2 nk2 => ?_⟩
            have s11 := same_new (o := .lst [.ref T]) nk2
            refine ⟨k2, [T], [(.inr z, .str m)], rfl, .inl (.inl upd_same), .cons (.inl (.inl (s11 _ _ upd_same))) .nil, fun e ne => ?_⟩
            have s12 := same_new (o := .dK (mergeK [] [((.inr z : Key), V.str m)])) ne
            have s711 := (((s8.trans s9).trans s10).trans s11).trans s12
            have hu11 := s711 _ _ hu7
            obtain ⟨us', i1, i2, i3, i4, i5, i6⟩ := ends _ e [(z, m)] s711 eu (kv_new un m)
            exact ⟨uD, e, _, [((.inr z : Key), V.str m)], rfl, rfl, hu11, upd_same, (ne_of_none ((((s8.trans s9).trans s10).trans s11) _ _ hu7) ne), Nat.le_trans (Nat.add_le_add lu (show 1 ≤ 8 by decide)) (by decide), ⟨lN2, _, _, _, _, _, _, rfl, us', i5, i6⟩, i1, i2, i3, i4⟩
        | false =>
          rw [if_neg (by rw [hgw]; decide)] at hgt
          refine iteF ?_
          refine ⟨.ref a, rfl, a, _, rfl, iSq_of (.inl (SqL.es ha (.of s07))) fun J4 G4 hG4 wk4 D4 nD4 => ?_⟩
          rw [List.length_map] at wk4
          refine lc_f (β := Str) wk4 hG4 nD4 (fun m => decide (Hm.pile ns rs m = gz.goal)) id RStr steady_str (len8 h8) (fun j c x H8 H9 ec s8 y Ny Nn hy hn' => ?_) fun H8 acc4 s8 hD4 hp8 => ?_
          · obtain ⟨rfl, yx⟩ := y
            obtain rfl := str_get ec yx
            refine ⟨rfl, .ref pD, rfl, .str c, rfl, pD, _, rfl, pile_get hl (s8 _ _ hp7) (List.mem_of_getElem? ec), .str "r", rfl, rfl, _, rfl, ?_⟩
            rw [show decide (V.str (rTxt (Hm.pile ns rs c)) = V.str "r") = decide (Hm.pile ns rs c = gz.goal) from by rw [hgt]; exact txt_eq _ _]
            cases es : decide (Hm.pile ns rs c = gz.goal) with
            | false => exact iteF (hn' es _ (Same.refl _))
            | true => exact iteT ⟨.str c, rfl, hy es _ _ (Same.refl _) rfl⟩
          rw [strs_of hp8, List.map_id, eg] at hD4
          have gsub : ∀ m ∈ Hm.goalsOf (Hm.pile ns rs) ns z, Nm m := fun m hm => hN m (List.mem_filter.mp hm).1
          generalize Hm.goalsOf (Hm.pile ns rs) ns z = gl at hD4 eu gsub
          have hu8 := s8 _ _ hu7
          refine ⟨.ref uD, rfl, .inr (.inr (.inl ⟨rfl, .inl ⟨_, hu8⟩⟩)), .ref D4, rfl, Nat.zero_le _, fun k nk => ?_⟩
          have s9 := same_new (o := .lst []) nk
          refine ⟨.list (dS gl), .list [], .lst (.inl (.inl (s9 _ _ hD4))) (dp_strs gl), .lst (.inl (.inl upd_same)) .nil, sh_strs gl gsub, rfl, _, rfl, ?_⟩
          rw [eqv_nil]
          have ends : ∀ (H10 : Hp) (e : Addr) (more : List (Str × Str)), Same H7 H10 → uUp (Hm.pile ns rs) ns (i + 1) = uUp (Hm.pile ns rs) ns i ++ more → mergeK (kvT (uUp (Hm.pile ns rs) ns i)) (kvT more) = kvT (uUp (Hm.pile ns rs) ns i ++ more) → ∃ us', Same H (upd H10 uD (.dK (mergeK (kvT (uUp (Hm.pile ns rs) ns i)) (kvT more)))) ∧ (upd H10 uD (.dK (mergeK (kvT (uUp (Hm.pile ns rs) ns i)) (kvT more)))) pD = some (.dK (pilK ns rs)) ∧ (upd H10 uD (.dK (mergeK (kvT (uUp (Hm.pile ns rs) ns i)) (kvT more)))) wD = some (.dK (kvT (wUp (Hm.pile ns rs) ns (i + 1)))) ∧
              (upd H10 uD (.dK (mergeK (kvT (uUp (Hm.pile ns rs) ns i)) (kvT more)))) uD = some (.dK (kvT (uUp (Hm.pile ns rs) ns (i + 1)))) ∧ (upd H10 uD (.dK (mergeK (kvT (uUp (Hm.pile ns rs) ns i)) (kvT more)))) lN2 = some (.lst us') ∧ Paired (TPair K (upd H10 uD (.dK (mergeK (kvT (uUp (Hm.pile ns rs) ns i)) (kvT more))))) us' (nearUp (Hm.pile ns rs) ns (i + 1)) := fun H10 e more s10 e1 e2 => by
            have nd : ND H10 (upd H10 uD (.dK (mergeK (kvT (uUp (Hm.pile ns rs) ns i)) (kvT more)))) := ND.upd (s10 _ _ hu7)
            refine ⟨us ++ acc2, fun b o e => ?_, ?_, ?_, ?_, nd _ _ (s10 _ _ hL7) (fun _ z => nomatch z), Paired.mapP (Paired.steady steady_pair (.of s10) hup7) fun _ _ h => h.nd nd⟩
            · rw [upd_ne (ne_of_none e nu0)]
              exact s10 _ _ (s07 b o e)
            · rw [upd_ne pu.symm]; exact s10 _ _ hp7
            · rw [upd_ne wu.symm]; exact s10 _ _ hw7
            · rw [upd_same, e2, e1]
          have lu : (kvT (uUp (Hm.pile ns rs) ns i)).length ≤ 8 := by rw [kvT_len]; omega
          cases gl with
          | nil =>
            refine iteF ⟨Nat.zero_le _, fun k2 nk2 => ?_⟩
            have s10 := same_new (o := .lst []) nk2
            refine ⟨k2, [], [], rfl, .inl (.inl upd_same), .nil, fun e ne => ?_⟩
            have s11 := same_new (o := .dK (mergeK [] [])) ne
            have s711 := ((s8.trans s9).trans s10).trans s11
            have hu11 := s711 _ _ hu7
            obtain ⟨us', i1, i2, i3, i4, i5, i6⟩ := ends _ e [] s711 eu (by rw [List.append_nil]; rfl)
            exact ⟨uD, e, _, [], rfl, rfl, hu11, upd_same, (ne_of_none (((s8.trans s9).trans s10) _ _ hu7) ne), Nat.le_trans (Nat.add_le_add lu (Nat.zero_le 8)) (by decide), ⟨lN2, _, _, _, _, _, _, rfl, us', i5, i6⟩, i1, i2, i3, i4⟩
          | cons m r =>
            refine iteT ⟨.str z, rfl, .ref D4, rfl, D4, _, 0, .str m, rfl, rfl, .inl (.inl (s9 _ _ hD4)), atI_nat (j := 0) rfl, (by show 2 ≤ sizeLine; decide), fun T nT => ?_⟩
            have s10 := same_new (o := .tup [.str z, .str m]) nT
            refine ⟨(by show 1 ≤ sizeLine; decide), fun k2 nk2 => ?_⟩
            have s11 := same_new (o := .lst [.ref T]) nk2
            refine ⟨k2, [T], [(.inr z, .str m)], rfl, .inl (.inl upd_same), .cons (.inl (.inl (s11 _ _ upd_same))) .nil, fun e ne => ?_⟩
            have s12 := same_new (o := .dK (mergeK [] [((.inr z : Key), V.str m)])) ne
            have s711 := (((s8.trans s9).trans s10).trans s11).trans s12
            have hu11 := s711 _ _ hu7
            obtain ⟨us', i1, i2, i3, i4, i5, i6⟩ := ends _ e [(z, m)] s711 eu (kv_new un m)
            exact ⟨uD, e, _, [((.inr z : Key), V.str m)], rfl, rfl, hu11, upd_same, (ne_of_none ((((s8.trans s9).trans s10).trans s11) _ _ hu7) ne), Nat.le_trans (Nat.add_le_add lu (show 1 ≤ 8 by decide)) (by decide), ⟨lN2, _, _, _, _, _, _, rfl, us', i5, i6⟩, i1, i2, i3, i4⟩
      · intro hR fin
        rw [if_pos hR] at ew
        refine ⟨.ref pD, rfl, .str z, rfl, pD, _, rfl, gp hp6, "W", rTxt gz, rfl, rfl, has (rTxt gz) "W", rfl, ?_⟩
        rw [has_W]
        have put : ∀ t : Str, wUp (Hm.pile ns rs) ns (i + 1) = wUp (Hm.pile ns rs) ns i ++ [(z, t)] → Same H (upd H6 wD (.dK (putK (kvT (wUp (Hm.pile ns rs) ns i)) (.inr z) (.str t)))) ∧ (upd H6 wD (.dK (putK (kvT (wUp (Hm.pile ns rs) ns i)) (.inr z) (.str t)))) pD = some (.dK (pilK ns rs)) ∧ (upd H6 wD (.dK (putK (kvT (wUp (Hm.pile ns rs) ns i)) (.inr z) (.str t)))) wD = some (.dK (kvT (wUp (Hm.pile ns rs) ns (i + 1)))) ∧
            (upd H6 wD (.dK (putK (kvT (wUp (Hm.pile ns rs) ns i)) (.inr z) (.str t)))) uD = some (.dK (kvT (uUp (Hm.pile ns rs) ns i))) ∧ (upd H6 wD (.dK (putK (kvT (wUp (Hm.pile ns rs) ns i)) (.inr z) (.str t)))) lN2 = some (.lst (us ++ acc2)) ∧ Paired (TPair K (upd H6 wD (.dK (putK (kvT (wUp (Hm.pile ns rs) ns i)) (.inr z) (.str t))))) (us ++ acc2) (nearUp (Hm.pile ns rs) ns (i + 1)) := fun t et => by
          have nd : ND H6 (upd H6 wD (.dK (putK (kvT (wUp (Hm.pile ns rs) ns i)) (.inr z) (.str t)))) := ND.upd hw6
          refine ⟨fun b o e => ?_, ?_, ?_, ?_, nd _ _ hL6 (fun _ z => nomatch z), Paired.mapP hup6 fun _ _ h => h.nd nd⟩
          · rw [upd_ne (ne_of_none e nw0)]
            exact s06 b o e
          · rw [upd_ne pw.symm]; exact hp6
          · rw [upd_same, kv_new wn, et]
          · rw [upd_ne wu]; exact hu6
        have lw : (kvT (wUp (Hm.pile ns rs) ns i)).length < sizeLine := by rw [kvT_len]; exact len8 (by omega)
        cases hW : gz.hW with
        | true =>
          rw [hW] at ew
          exact iteT ⟨.ref wD, rfl, .str z, rfl, wD, _, rfl, DPut.k (k := .inr z) hw6 lw, fin _ (put "change" ew)⟩
        | false =>
          rw [hW] at ew
          exact iteF ⟨.ref wD, rfl, .str z, rfl, wD, _, rfl, DPut.k (k := .inr z) hw6 lw, fin _ (put "see" ew)⟩
      · intro hR
        rw [if_neg (by rw [hR]; decide)] at ew
        exact ⟨s06, hp6, by rw [ew]; exact hw6, hu6, hL6, hup6⟩
    · obtain ⟨⟨lN, y6, y7, y8, y9, y10, y11, rfl, us, hus, hup⟩, s1, hp, hw, hu⟩ := h
      intro p np'
      have s2 := same_new (o := .dK []) np'
      refine ⟨.ref a, rfl, .ref lN, rfl, .ref wD, rfl, .ref uD, rfl, upd_same, plK a lN wD uD, rfl, (by show 4 ≤ 15; decide), ?_⟩
      rw [pl_new]
      have s3 : Same H' (upd (upd H' p (.dK [])) p (.dK (plK a lN wD uD))) := fun b o e => by
        rw [upd_ne (ne_of_none e np')]
        exact s2 b o e
      have e1 : wUp (Hm.pile ns rs) ns ns.length = (Hm.byRights ns rs).worth.map fun q => (q.1, wTxt q.2) := by
        unfold wUp
        rw [List.take_length]
        rfl
      have e2 : uUp (Hm.pile ns rs) ns ns.length = (Hm.byRights ns rs).upper := by
        unfold uUp
        rw [List.take_length]
        rfl
      rw [nearUp_all] at hup
      exact q _ p (s1.trans s3) ⟨a, lN, wD, uD, upd_same, SqL.es ha (.of (s1.trans s3)), ⟨us, .inl (.inl (.inl (s3 _ _ hus))), Paired.steady steady_pair (.of s3) hup⟩, e1 ▸ s3 _ _ hw, e2 ▸ s3 _ _ hu⟩

end

end Ho
set_option Elab.async false
set_option linter.all false
set_option maxRecDepth 100000
set_option maxHeartbeats 4000000
/-! The draws: spoilt. -/
namespace Ho
open PySem PySem.Spec PyProof.Rows L2

/-! ### dicts of texts, an entry put -/
theorem putK_put (l : List (Str × Str)) (a b : Str) : putK (kvT l) (.inr a) (.str b) = kvT (Hm.put l a b) := by
  unfold putK Hm.put kvT
  rw [List.any_map, show ((fun kv : Key × V => decide (kv.1 = (Sum.inr a : Key))) ∘ fun p : Str × Str => ((Sum.inr p.1 : Key), V.str p.2)) = fun p => decide (p.1 = a) from funext fun p => decide_eq_decide.mpr ⟨Sum.inr.inj, congrArg _⟩]
  split
  · rw [List.map_map, List.map_map]
    congr 1
    funext p
    show (if (Sum.inr p.1 : Key) = Sum.inr a then ((Sum.inr p.1 : Key), V.str b) else (Sum.inr p.1, V.str p.2)) = (fun p : Str × Str => ((Sum.inr p.1 : Key), V.str p.2)) (if p.1 = a then (p.1, b) else p)
    by_cases e : p.1 = a
    · rw [if_pos e, if_pos (congrArg Sum.inr e)]
    · rw [if_neg e, if_neg fun z => e (Sum.inr.inj z)]
  · rw [List.map_append]
    rfl
theorem put_map (g : Nat → Str) (l : List (Str × Nat)) (a : Str) (n : Nat) : Hm.put (l.map fun p => (p.1, g p.2)) a (g n) = (Hm.put l a n).map fun p => (p.1, g p.2) := by
  unfold Hm.put
  rw [List.any_map, show ((fun p : Str × Str => decide (p.1 = a)) ∘ fun p : Str × Nat => (p.1, g p.2)) = fun p => decide (p.1 = a) from rfl]
  split
  · rw [List.map_map, List.map_map]
    congr 1
    funext p
    show (if p.1 = a then (p.1, g n) else (p.1, g p.2)) = (fun p : Str × Nat => (p.1, g p.2)) (if p.1 = a then (p.1, n) else p)
    by_cases e : p.1 = a
    · rw [if_pos e, if_pos e]
    · rw [if_neg e, if_neg e]
  · rw [List.map_append]
    rfl
/-! ### a plain table changed -/
section
variable {P : Hm.Pl Str} {n : Nat}
theorem ok_near (ok : Hm.PlOk P n) {more : List (Str × Str)} (h : ∀ p ∈ more, p.1 ∈ P.kinds ∧ p.2 ∈ P.kinds) {m : Nat} (e : n + more.length ≤ m) : Hm.PlOk { P with near := P.near ++ more } m :=
  ⟨ok.one, ok.few, ok.nd, fun p hp => (List.mem_append.mp hp).elim (ok.near p) (h p), by show (P.near ++ more).length ≤ m; rw [List.length_append]; have := ok.many; omega, ok.worth, ok.worthN, ok.upper, ok.upperN⟩
theorem ok_drop (ok : Hm.PlOk P n) (k : Nat) : Hm.PlOk { P with near := P.near.eraseIdx k } n :=
  ⟨ok.one, ok.few, ok.nd, fun p hp => ok.near p (List.mem_of_mem_eraseIdx hp), Nat.le_trans (List.length_eraseIdx_le ..) ok.many, ok.worth, ok.worthN, ok.upper, ok.upperN⟩
theorem ok_worth (ok : Hm.PlOk P n) {a : Str} {x : Nat} (h : a ∈ P.kinds) (hx : x = 1 ∨ x = 2) : Hm.PlOk { P with worth := Hm.put P.worth a x } n :=
  ⟨ok.one, ok.few, ok.nd, ok.near, ok.many, fun p hp => (Hm.put_mem hp).elim (ok.worth p) fun e => e ▸ ⟨h, hx⟩, Hm.put_nodup ok.worthN, ok.upper, ok.upperN⟩
theorem ok_upper (ok : Hm.PlOk P n) {a b : Str} (h : a ∈ P.kinds) (hb : b ∈ P.kinds) : Hm.PlOk { P with upper := Hm.put P.upper a b } n :=
  ⟨ok.one, ok.few, ok.nd, ok.near, ok.many, ok.worth, ok.worthN, fun p hp => (Hm.put_mem hp).elim (ok.upper p) fun e => e ▸ ⟨h, hb⟩, Hm.put_nodup ok.upperN⟩
end
/-- the three parts of a plain table -/
structure PtAt (K : PySem.W.Frag) (H : Hp) (b c e : Addr) (P : Hm.Pl Str) : Prop where
  near : ∃ us, H b = some (.lst us) ∧ Paired (TPair K H) us P.near
  worth : H c = some (.dK (kvT (P.worth.map fun q => (q.1, wTxt q.2))))
  upper : H e = some (.dK (kvT P.upper))
section
variable {K : PySem.W.Frag} {H H' : Hp} {b c e : Addr} {P : Hm.Pl Str}
theorem PtAt.es (h : PtAt K H b c e P) (s : ES H H') : PtAt K H' b c e P := by
  obtain ⟨us, h1, h2⟩ := h.near
  exact ⟨⟨us, s _ _ h1 (noSt fun _ z => nomatch z), Paired.mapP h2 fun _ _ h => h.es s⟩, dict_es h.worth s, dict_es h.upper s⟩
theorem PtAt.setNear (h : PtAt K H b c e P) {us : List V} {nr : List (Str × Str)} (hp : Paired (TPair K H) us nr) : PtAt K (upd H b (.lst us)) b c e { P with near := nr } := by
  obtain ⟨us0, h1, _⟩ := h.near
  have nl : NL H (upd H b (.lst us)) := NL.lst h1
  exact ⟨⟨us, upd_same, Paired.steady steady_pair nl hp⟩, nl _ _ h.worth (fun _ z => nomatch z), nl _ _ h.upper (fun _ z => nomatch z)⟩
theorem PtAt.setWorth (h : PtAt K H b c e P) (ne : e ≠ c) (a : Str) (x : Nat) : PtAt K (upd H c (.dK (putK (kvT (P.worth.map fun q => (q.1, wTxt q.2))) (.inr a) (.str (wTxt x))))) b c e { P with worth := Hm.put P.worth a x } := by
  obtain ⟨us, h1, h2⟩ := h.near
  have nd := ND.upd (o := .dK (putK (kvT (P.worth.map fun q => (q.1, wTxt q.2))) (.inr a) (.str (wTxt x)))) h.worth
  refine ⟨⟨us, nd _ _ h1 (fun _ z => nomatch z), Paired.mapP h2 fun _ _ h => h.nd nd⟩, ?_, by rw [upd_ne ne]; exact h.upper⟩
  rw [upd_same, putK_put, put_map]
theorem PtAt.setUpper (h : PtAt K H b c e P) (ne : e ≠ c) (a x : Str) : PtAt K (upd H e (.dK (putK (kvT P.upper) (.inr a) (.str x)))) b c e { P with upper := Hm.put P.upper a x } := by
  obtain ⟨us, h1, h2⟩ := h.near
  have nd := ND.upd (o := .dK (putK (kvT P.upper) (.inr a) (.str x))) h.upper
  refine ⟨⟨us, nd _ _ h1 (fun _ z => nomatch z), Paired.mapP h2 fun _ _ h => h.nd nd⟩, by rw [upd_ne ne.symm]; exact h.worth, ?_⟩
  rw [upd_same, putK_put]
/-- what is new may change -/
theorem es_new {H0 H : Hp} {D : Addr} {o : HO} (e : ES H0 H) (n : H0 D = none) : ES H0 (upd H D o) := fun b u h m => by
  rw [upd_ne (ne_of_none h n)]
  exact e b u h m
theorem St.new {H0 H : Hp} {d l D : Addr} {cs : List Int} {o : HO} (h0 : St K H0 d l cs) (h : St K H d l cs) (e : ES H0 H) (n : H0 D = none) : St K (upd H D o) d l cs := by
  obtain ⟨n1, f1, m1, h1, h2⟩ := h
  obtain ⟨n0, f0, m0, g1, g2⟩ := h0
  exact ⟨n1, f1, m1, by rw [upd_ne (ne_of_none g1 n)]; exact h1, SqL.es g2 (es_new e n)⟩
theorem none_back {H0 H : Hp} {D : Addr} (e : ES H0 H) (st : ∀ o, H0 D = some o → ¬ StO o) (n : H D = none) : H0 D = none := by
  cases z : H0 D with
  | none => rfl
  | some o => rw [e _ _ z (st o z)] at n; cases n
end
theorem and_join {b : Bool} {U A : Prop} {R : Hp → Prop} {H6 : Hp} (F : Hp → Prop) (rest : ∀ H7, F H7 → R H7) (t : b = true → (∀ H7, F H7 → R H7) → U) (e : b = false → F H6) : if b = true then U else (if false = true then A else R H6) := by
  cases b with
  | true => exact iteT (t rfl rest)
  | false => exact iteF (iteF (rest _ (e rfl)))
theorem paired_drop {α β : Type} {R : α → β → Prop} : ∀ {xs : List α} {ys : List β} (k : Nat), Paired R xs ys → Paired R (xs.eraseIdx k) (ys.eraseIdx k)
  | _, _, _, .nil => .nil
  | _, _, 0, .cons _ t => t
  | _, _, k + 1, .cons h t => .cons h (paired_drop k t)
def prL (l : List (Str × Str)) : List (List Str) := l.map fun q => [q.1, q.2]
theorem pairs_tup {K : PySem.W.Frag} {H : Hp} : ∀ {us : List V} {l : List (Str × Str)}, Paired (TPair K H) us l → Paired (RTup K H) us (prL l)
  | _, _, .nil => .nil
  | _, _, .cons ⟨t, e, h⟩ r => .cons ⟨t, e, h⟩ (pairs_tup r)
section
variable {P : Program} {w : World} {K : PySem.W.Frag} {mg : Str → Option Value} {base : Heap}
/-! ### _law_spoilt -/
abbrev sSpoilt : Stmt := topS 32
def spSpoilt (K : PySem.W.Frag) : Sp := fun vs H Q _ => ∃ (d l : Addr) (cs : List Int) (p : Addr) (P : Hm.Pl Str) (n : Nat), vs = [.ref d, .ref p] ∧ St K H d l cs ∧ PlD K H p P ∧ Hm.PlOk P n ∧ n ≤ 60 ∧ (∀ z ∈ P.kinds, Nm z) ∧
  ∀ (H' : Hp) (p' : Addr) (P' : Hm.Pl Str), P'.kinds = P.kinds → Hm.PlOk P' (n + 1) → ES H H' → St K H' d l cs → PlD K H' p' P' → Q (.ref p') H'
theorem scSpoilt : FnScope ["_law_state", "_law_plain", "_law_way", "_law_one", "_law_other", "_law_near", "_law_worth", "_law_upper"] ["_law_state", "_law_plain"] (defScope sSpoilt) := ⟨rfl, rfl, rfl, by decide +kernel, rfl, by decide +kernel, by decide +kernel⟩

theorem ok_spoilt {f fN fP : Addr} {fd fdN fdP : FuncData} (F : Fun K "_law_spoilt" "_law_spoilt" sSpoilt f fd) (B : Blt mg) (FN : Fun K "_law_next" "_law_next" sNext fN fdN) (bN : Binds K fdN ["_law_state", "_law_many"] []) (gN : mg "_law_next" = some (.ref fN)) (GN : FnOk P w K mg base CX0 2 fN fdN ["_law_state", "_law_many"] (spNext K)) (FP : Fun K "_law_pick" "_law_pick" sPick fP fdP) (bP : Binds K fdP ["_law_state", "_law_some"] []) (gP : mg "_law_pick" = some (.ref fP)) (GP : FnOk P w K mg base CX0 3 fP fdP ["_law_state", "_law_some"] (spPick K)) :
    FnOk P w K mg base CX0 4 f fd ["_law_state", "_law_plain"] (spSpoilt K) := by
  refine F.ok scSpoilt (fun vs H Q E h => ?_) (fun cdv A outer s H vs Q E hr h => ?_)
  · obtain ⟨d, l, cs, p, P, n, rfl, _⟩ := h
    rfl
  · obtain ⟨d, l, cs, p, P, n, rfl, t, ⟨a, b, c, e, R⟩, ok, hn, hN, q⟩ := h
    have hr2 : Room 2 _ := hr.mono (by decide)
    refine ⟨_, (pss_cons (ps_set (i := 2) scSpoilt.nd rfl (Or.inl rfl) (pe_call GN hr2 (by rfl) gN FN.kp bN .nil pass0 (pa_cons (pv 0) (pa_cons pe_int pa_nil)))) (pss_cons (ps_par (i := 3) (j := 4) rfl scSpoilt.nd rfl rfl (by decide) rfl rfl (pa_cons (pe_call GP hr (by rfl) gP FP.kp bP .nil pass0 (pa_cons (pv 0) (pa_cons (pe_dget (hu_of hr) (pv 1) pe_str (fun _ _ => rfl)) pa_nil))) (pa_cons (pe_call GP hr (by rfl) gP FP.kp bP .nil pass0 (pa_cons (pv 0) (pa_cons (pe_dget (hu_of hr) (pv 1) pe_str (fun _ _ => rfl)) pa_nil))) pa_nil)) (by rfl)) (pss_cons (ps_set (i := 5) scSpoilt.nd rfl (Or.inl rfl) (pe_callTy (T := "list") call_list_of (by rfl) B.list (by decide +kernel) (pa_cons (pe_dget (hu_of hr) (pv 1) pe_str (fun _ _ => rfl)) pa_nil))) (pss_cons (ps_par (i := 6) (j := 7) rfl scSpoilt.nd rfl rfl (by decide) rfl rfl (pa_cons (pe_callTy (T := "dict") call_dictD (by rfl) B.dict (by decide +kernel) (pa_cons (pe_dget (hu_of hr) (pv 1) pe_str (fun _ _ => rfl)) pa_nil)) (pa_cons (pe_callTy (T := "dict") call_dictD (by rfl) B.dict (by decide +kernel) (pa_cons (pe_dget (hu_of hr) (pv 1) pe_str (fun _ _ => rfl)) pa_nil)) pa_nil)) (by rfl)) (pss_cons (ps_if (pt_cmpR op_eq (pv 2) pe_int (nomark _)) (pss_one (ps_expr (pe_bm PySem.F.plainAttrs_list PySem.F.slot_list_append PySem.F.type_list_append mt_append (pv 5) (pa_cons (pe_tup (pa_cons (pv 3) (pa_cons (pv 4) pa_nil))) pa_nil)))) pss_nil) (pss_cons (ps_if (PW.pt (pw_and (pt_cmpR op_eq (pv 2) pe_int (nomark _)) (pw_and1 (pt_cmpR (op_neD hr.units) (pv 5) (pe_lst pa_nil) (nomark _))))) (pss_one (ps_expr (pe_bm PySem.F.plainAttrs_list PySem.F.slot_list_pop PySem.F.type_list_pop mt_popAt (pv 5) (pa_cons (pe_call GN hr2 (by rfl) gN FN.kp bN .nil pass0 (pa_cons (pv 0) (pa_cons (pe_callB (id := "len") (c_len K) (by rfl) B.len PySem.boot_len (pa_cons (pv 5) pa_nil)) pa_nil))) pa_nil)))) pss_nil) (pss_cons (ps_if (pt_cmpR op_eq (pv 2) pe_int (nomark _)) (pss_one (ps_dput (hu_of hr) (pv 6) (pv 3) (pe_call GP hr (by rfl) gP FP.kp bP .nil pass0 (pa_cons (pv 0) (pa_cons (pe_lst (pa_cons pe_str (pa_cons pe_str pa_nil))) pa_nil))) (by rfl))) pss_nil) (pss_cons (ps_if (pt_cmpR op_eq (pv 2) pe_int (nomark _)) (pss_one (ps_dput (hu_of hr) (pv 7) (pv 3) (pv 4) (by rfl))) pss_nil) (pss_one (ps_ret (pe_disp (pps_cons pe_str (pe_dget (hu_of hr) (pv 1) pe_str (fun _ _ => rfl)) (pps_cons pe_str (pv 5) (pps_cons pe_str (pv 6) (pps_cons pe_str (pv 7) pps_nil)))) (by rfl) (by rfl) (by simp) (by decide)))))))))))), ?_⟩
    have few : P.kinds.length ≤ 8 := ok.few
    refine ⟨.ref d, rfl, d, l, cs, 4, rfl, t, by decide, by decide, fun H1 way hw e1 t1 => ?_⟩
    have R1 := R.es e1
    refine ⟨.ref d, rfl, .ref p, rfl, p, .ref a, rfl, DGet.k (k := .inr "kinds") R1.ob, d, l, cs, .ref a, rfl, t1, .inl ⟨a, _, rfl, R1.kinds, by rw [List.length_map]; exact ok.one, by rw [List.length_map]; omega, fun H2 y hy e2 t2 => ?_⟩⟩
    obtain ⟨one, h1, rfl⟩ := List.mem_map.mp hy
    have R2 := R1.es e2
    refine ⟨.ref d, rfl, .ref p, rfl, p, .ref a, rfl, DGet.k (k := .inr "kinds") R2.ob, d, l, cs, .ref a, rfl, t2, .inl ⟨a, _, rfl, R2.kinds, by rw [List.length_map]; exact ok.one, by rw [List.length_map]; omega, fun H3 y2 hy2 e3 t3 => ?_⟩⟩
    obtain ⟨other, h2, rfl⟩ := List.mem_map.mp hy2
    have R3 := R2.es e3
    have e03 := (e1.trans e2).trans e3
    refine ⟨_, _, rfl, ?_⟩
    obtain ⟨us, hb, hus⟩ := R3.near
    refine ⟨.ref p, rfl, p, .ref b, rfl, DGet.k (k := .inr "near") R3.ob, b, us, rfl, hb, fun lN nl => ?_⟩
    have s4 := same_new (o := .lst us) nl
    have R4 := R3.same s4
    refine ⟨.ref p, rfl, p, .ref c, rfl, DGet.k (k := .inr "worth") R4.ob, c, _, rfl, .inl R4.worth, fun wD nw => ?_⟩
    have s5 := same_new (o := .dK (kvT (P.worth.map fun q => (q.1, wTxt q.2)))) nw
    have R5 := R4.same s5
    refine ⟨.ref p, rfl, p, .ref e, rfl, DGet.k (k := .inr "upper") R5.ob, e, _, rfl, .inl R5.upper, fun uD nu => ?_⟩
    have s6 := same_new (o := .dK (kvT P.upper)) nu
    have hD6 : PtAt K (upd (upd (upd H3 lN (.lst us)) wD (.dK (kvT (P.worth.map fun q => (q.1, wTxt q.2))))) uD (.dK (kvT P.upper))) lN wD uD P :=
      ⟨⟨us, s6 _ _ (s5 _ _ upd_same), Paired.steady steady_pair (.of ((s4.trans s5).trans s6)) hus⟩, s6 _ _ upd_same, upd_same⟩
    have wu : uD ≠ wD := (ne_of_none upd_same nu).symm
    have nl3 : H3 lN = none := nl
    have nw3 : H3 wD = none := by
      cases z : H3 wD with
      | none => rfl
      | some o => rw [s4 _ _ z] at nw; cases nw
    have nu3 : H3 uD = none := by
      cases z : H3 uD with
      | none => rfl
      | some o => rw [s5 _ _ (s4 _ _ z)] at nu; cases nu
    have s36 := (s4.trans s5).trans s6
    have t6 := t3.same s36
    refine ⟨_, _, rfl, ?_⟩
    generalize upd (upd (upd H3 lN (.lst us)) wD (.dK (kvT (P.worth.map fun q => (q.1, wTxt q.2))))) uD (.dK (kvT P.upper)) = H6 at hD6 s36 t6
    have e36 : ES H3 H6 := .of s36
    clear s36 s4 s5 s6 nl nw nu R4 R5 R1 R2 R
    have lw : ∀ (P' : Hm.Pl Str) (m : Nat), Hm.PlOk P' m → (kvT (P'.worth.map fun q => (q.1, wTxt q.2))).length < sizeLine := fun P' m ok => by
      rw [kvT_len, List.length_map]
      exact len8 ok.worthL
    have lu : ∀ (P' : Hm.Pl Str) (m : Nat), Hm.PlOk P' m → (kvT P'.upper).length < sizeLine := fun P' m ok => by
      rw [kvT_len]
      exact len8 ok.upperL
    -- way = 0
    refine ⟨.int way, rfl, rfl, _, rfl, ?_⟩
    refine if_join (fun H7 => ES H3 H7 ∧ St K H7 d l cs ∧ ∃ P', P'.kinds = P.kinds ∧ Hm.PlOk P' (n + 1) ∧ PtAt K H7 lN wD uD P') ?_ ?_ fun _ => ⟨e36, t6, P, rfl, PlOk.up ok (by omega), hD6⟩
    · rintro H7 ⟨e37, t7, P1, k1, ok1, D7⟩
      -- way = 1
      refine ⟨.int way, rfl, rfl, _, rfl, ?_⟩
      refine and_join (fun H7 => ES H3 H7 ∧ St K H7 d l cs ∧ ∃ P', P'.kinds = P.kinds ∧ Hm.PlOk P' (n + 1) ∧ PtAt K H7 lN wD uD P') ?_ ?_ fun _ => ⟨e37, t7, P1, k1, ok1, D7⟩
      · clear e37 t7 k1 ok1 D7
        rintro H8 ⟨e38, t8, P2, k2, ok2, D8⟩
        -- way = 2
        refine ⟨.int way, rfl, rfl, _, rfl, ?_⟩
        refine if_join (fun H7 => ES H3 H7 ∧ St K H7 d l cs ∧ ∃ P', P'.kinds = P.kinds ∧ Hm.PlOk P' (n + 1) ∧ PtAt K H7 lN wD uD P') ?_ ?_ fun _ => ⟨e38, t8, P2, k2, ok2, D8⟩
        · clear e38 t8 k2 ok2 D8
          rintro H9 ⟨e39, t9, P3, k3, ok3, D9⟩
          -- way = 3
          refine ⟨.int way, rfl, rfl, _, rfl, ?_⟩
          refine if_join (fun H7 => ES H3 H7 ∧ St K H7 d l cs ∧ ∃ P', P'.kinds = P.kinds ∧ Hm.PlOk P' (n + 1) ∧ PtAt K H7 lN wD uD P') ?_ ?_ fun _ => ⟨e39, t9, P3, k3, ok3, D9⟩
          · clear e39 t9 k3 ok3 D9
            rintro Hx ⟨e3x, tx, P4, k4, ok4, Dx⟩
            have Rx := R3.es e3x
            intro r nr
            have sx := same_new (o := .dK []) nr
            have Rr := Rx.same sx
            refine ⟨.ref p, rfl, p, .ref a, rfl, DGet.k (k := .inr "kinds") Rr.ob, .ref lN, rfl, .ref wD, rfl, .ref uD, rfl, upd_same, plK a lN wD uD, rfl, (by show 4 ≤ 15; decide), ?_⟩
            rw [pl_new]
            have sy : Same Hx (upd (upd Hx r (.dK [])) r (.dK (plK a lN wD uD))) := fun b o e => by
              rw [upd_ne (ne_of_none e nr)]
              exact sx b o e
            have Dy := Dx.es (.of sy)
            obtain ⟨us', n1, n2⟩ := Dy.near
            exact q _ r P4 k4 ok4 ((e03.trans e3x).trans (.of sy)) (tx.same sy) ⟨a, lN, wD, uD, upd_same, k4 ▸ SqL.es Rx.kinds (.of sy), ⟨us', .inl (.inl (.inl n1)), n2⟩, Dy.worth, Dy.upper⟩
          · intro _ fin
            refine ⟨.str other, rfl, .ref uD, rfl, .str one, rfl, uD, _, rfl, DPut.k (k := .inr one) D9.upper (lu _ _ ok3), fin _ ⟨es_new e39 nu3, St.new t3 t9 e39 nu3, { P3 with upper := Hm.put P3.upper one other }, k3, ok_upper ok3 (a := one) (b := other) (k3.symm ▸ h1) (k3.symm ▸ h2), D9.setUpper wu one other⟩⟩
        · intro _ fin
          refine ⟨.ref d, rfl, (by show 2 ≤ sizeLine; decide), fun k nk => ?_⟩
          have sk := same_new (o := .lst [.str "see", .str "change"]) nk
          refine ⟨d, l, cs, .ref k, rfl, t8.same sk, .inl ⟨k, _, rfl, .inl (.inl upd_same), by decide, by decide, fun H9 y hy e9 t9 => ?_⟩⟩
          have D9 := (D8.es (.of sk)).es e9
          have e39 := (e38.trans (.of sk)).trans e9
          have ex : ∃ x, (x = 1 ∨ x = 2) ∧ y = .str (wTxt x) := by
            rcases List.mem_cons.mp hy with h | h
            · exact ⟨1, .inl rfl, h⟩
            · exact ⟨2, .inr rfl, List.mem_singleton.mp h⟩
          obtain ⟨x, hx, rfl⟩ := ex
          refine ⟨.ref wD, rfl, .str one, rfl, wD, _, rfl, DPut.k (k := .inr one) D9.worth (lw _ _ ok2), fin _ ⟨es_new e39 nw3, St.new t3 t9 e39 nw3, { P2 with worth := Hm.put P2.worth one x }, k2, ok_worth ok2 (a := one) (k2.symm ▸ h1) hx, D9.setWorth wu one x⟩⟩
      · intro _ fin
        obtain ⟨us7, hus7, hp7⟩ := id D7.near
        refine ⟨.ref lN, rfl, Nat.zero_le _, fun k nk => ?_⟩
        have sk := same_new (o := .lst []) nk
        have hp8 := Paired.steady steady_pair (NL.of sk) hp7
        refine ⟨.list (dTs (prL P1.near)), .list [], .lst (.inl (.inl (sk _ _ hus7))) (dp_tups (pairs_tup hp8)), .lst (.inl (.inl upd_same)) .nil, sh_tups _ ?_, rfl, _, rfl, ?_⟩
        · intro z hz y hy
          obtain ⟨q0, hq0, rfl⟩ := List.mem_map.mp hz
          have h3 := ok1.near q0 hq0
          rw [k1] at h3
          rcases List.mem_cons.mp hy with h | h
          · rw [h]; exact hN _ h3.1
          · rw [List.mem_singleton.mp h]; exact hN _ h3.2
        rw [eqv_nil]
        have D8 := D7.es (.of sk)
        have e38 := e37.trans (.of sk)
        have t8 := t7.same sk
        have hl8 : us7.length = P1.near.length := Paired.length hp7
        cases hnr : P1.near with
        | nil => exact iteF (fin _ ⟨e38, t8, P1, k1, ok1, D8⟩)
        | cons q0 qr =>
          have h0 : 1 ≤ us7.length := by rw [hl8, hnr]; exact Nat.succ_le_succ (Nat.zero_le _)
          have h60 := ok1.many
          refine iteT ⟨.ref lN, rfl, .inl ⟨rfl, _, .inl (.inl (sk _ _ hus7))⟩, .ref d, rfl, .ref lN, rfl, lN, _, rfl, .inl (.inl (.inl (sk _ _ hus7))), d, l, cs, us7.length, rfl, t8, h0, by omega, fun H9 r hr9 e9 t9 => ?_⟩
          have D9 := D8.es e9
          have e39 := e38.trans e9
          have hus9 := e9 _ _ (sk _ _ hus7) (noSt fun _ z => nomatch z)
          have hp9 := Paired.mapP hp8 fun _ _ h => h.es e9
          obtain ⟨y, hy⟩ : ∃ y, us7[r]? = some y := ⟨_, List.getElem?_eq_getElem hr9⟩
          refine ⟨lN, us7, r, r, y, rfl, rfl, hus9, by omega, by omega, ?_, hy, fin _ ⟨es_new e39 nl3, St.new t3 t9 e39 nl3, { P1 with near := P1.near.eraseIdx r }, k1, ok_drop ok1 r, D9.setNear (paired_drop r hp9)⟩⟩
          exact seqIndex_of (k := (r : Int)) (by omega) (by omega)
    · intro _ fin
      obtain ⟨us6, hus6, hp6⟩ := id hD6.near
      refine ⟨.ref lN, rfl, .inl ⟨rfl, _, .inl (.inl hus6)⟩, .str one, rfl, .str other, rfl, (by show 2 ≤ sizeLine; decide), fun k nk => ?_⟩
      have sk := same_new (o := .tup [.str one, .str other]) nk
      have hp7 := Paired.steady steady_pair (NL.of sk) hp6
      have e37 := e36.trans (.of sk)
      have hl6 : us6.length = P.near.length := Paired.length hp6
      have hm := ok.many
      have D7 := hD6.es (.of sk)
      refine ⟨lN, us6, .ref k, rfl, rfl, sk _ _ hus6, Nat.lt_of_le_of_lt (show us6.length ≤ 60 by omega) (by decide), fin _ ⟨es_new e37 nl3, St.new t3 (t6.same sk) e37 nl3, { P with near := P.near ++ [(one, other)] }, rfl, ok_near ok (fun q0 hq0 => ?_) (Nat.le_refl _), D7.setNear (paired_snoc hp7 ⟨k, rfl, .inl (.inl upd_same)⟩)⟩⟩
      rw [List.mem_singleton.mp hq0]
      exact ⟨h1, h2⟩

end

end Ho
set_option Elab.async false
set_option linter.all false
set_option maxRecDepth 100000
set_option maxHeartbeats 4000000
/-! The draws: any. -/
namespace Ho
open PySem PySem.Spec PyProof.Rows L2

/-- what came later than H0 may change -/
theorem es_put {H0 H1 H : Hp} {D : Addr} {o : HO} (e1 : ES H0 H1) (n : H1 D = none) (e : ES H0 H) : ES H0 (upd H D o) := fun b u h m => by
  rw [upd_ne (ne_of_none (e1 b u h m) n)]
  exact e b u h m
section
variable {P : Program} {w : World} {K : PySem.W.Frag} {mg : Str → Option Value} {base : Heap}
/-! ### _law_any -/
abbrev sAny : Stmt := topS 33
def spAny (K : PySem.W.Frag) : Sp := fun vs H Q _ => ∃ (d l : Addr) (cs : List Int) (a : Addr) (ns : List Str), vs = [.ref d, .ref a] ∧ St K H d l cs ∧ SqL K H a (ns.map V.str) ∧ 1 ≤ ns.length ∧ ns.length ≤ 8 ∧ ns.Nodup ∧
  ∀ (H' : Hp) (p' : Addr) (P' : Hm.Pl Str), P'.kinds = ns → Hm.PlOk P' 64 → ES H H' → St K H' d l cs → PlD K H' p' P' → Q (.ref p') H'
theorem scAny : FnScope ["_law_state", "_law_names_here", "_law_near", "_law_worth", "_law_upper", "_law_at", "_law_one", "_law_sort", "_law_other"] ["_law_state", "_law_names_here"] (defScope sAny) := ⟨rfl, rfl, rfl, by decide +kernel, rfl, by decide +kernel, by decide +kernel⟩

theorem ok_any {f fN fP : Addr} {fd fdN fdP : FuncData} (F : Fun K "_law_any" "_law_any" sAny f fd) (B : Blt mg) (FN : Fun K "_law_next" "_law_next" sNext fN fdN) (bN : Binds K fdN ["_law_state", "_law_many"] []) (gN : mg "_law_next" = some (.ref fN)) (GN : FnOk P w K mg base CX0 2 fN fdN ["_law_state", "_law_many"] (spNext K)) (FP : Fun K "_law_pick" "_law_pick" sPick fP fdP) (bP : Binds K fdP ["_law_state", "_law_some"] []) (gP : mg "_law_pick" = some (.ref fP)) (GP : FnOk P w K mg base CX0 3 fP fdP ["_law_state", "_law_some"] (spPick K)) :
    FnOk P w K mg base CX0 4 f fd ["_law_state", "_law_names_here"] (spAny K) := by
  refine F.ok scAny (fun vs H Q E h => ?_) (fun cdv A outer s H vs Q E hr h => ?_)
  · obtain ⟨d, l, cs, a, ns, rfl, _⟩ := h
    rfl
  · obtain ⟨d, l, cs, a, ns, rfl, t, ha, h1n, h8, hn, q⟩ := h
    have hr2 : Room 2 _ := hr.mono (by decide)
    refine ⟨_, (pss_cons (ps_par3 (i := 2) (j := 3) (l := 4) rfl scAny.nd rfl rfl rfl (by decide) (by decide) (by decide) rfl rfl rfl (pa_cons (pe_lst pa_nil) (pa_cons pe_dnewK (pa_cons pe_dnewK pa_nil))) (by rfl)) (pss_cons (ps_for PassesOwn.never rfl (pi_enum (by rfl) B.enum (pa_cons (pv 1) pa_nil)) (pg_tup rfl (pgs_cons (pg_name (i := 5) scAny.nd rfl (Or.inl rfl)) (pgs_cons (pg_name (i := 6) scAny.nd rfl (Or.inr rfl)) pgs_nil))) (pss_cons (ps_set (i := 2) scAny.nd rfl (Or.inl rfl) (pe_op op_cat (pv 2) (pe_lc (own := [("_law_other", 8)]) (g := gName 8) rfl scAny.nd (piK K (pe_slice (s_list K) (pv 1) (po_some (pv 5)) po_none)) (blkOk_by (own := [("_law_other", 8)]) (N := ["_law_state", "_law_names_here", "_law_near", "_law_worth", "_law_upper", "_law_at", "_law_one", "_law_sort", "_law_other"]) (sc := defScope sAny) (by decide +kernel)) (fun _ _ _ _ _ => (pg_name (i := 8) scAny.nd rfl (Or.inl rfl))) (fun _ _ _ _ _ => (pts_one (pt_cmpR op_lt (pe_call GN hr2 (by rfl) gN FN.kp bN .nil pass0 (pa_cons (pv 0) (pa_cons pe_int pa_nil))) pe_int (nomark _)))) (fun _ _ _ _ _ => (pe_tup (pa_cons (pv 6) (pa_cons (pv 8) pa_nil))))))) (pss_cons (ps_set (i := 7) scAny.nd rfl (Or.inl rfl) (pe_call GN hr2 (by rfl) gN FN.kp bN .nil pass0 (pa_cons (pv 0) (pa_cons pe_int pa_nil)))) (pss_cons (ps_if (pt_cmpR op_gt (pv 7) pe_int (nomark _)) (pss_one (ps_dput (hu_of hr) (pv 3) (pv 6) (pe_ix (i_list K) (pe_lst (pa_cons pe_str (pa_cons pe_str pa_nil))) (pe_op op_sub (pv 7) pe_int) (fun _ _ => rfl)) (by rfl))) pss_nil) (pss_one (ps_if (pt_cmpR op_eq (pe_call GN hr2 (by rfl) gN FN.kp bN .nil pass0 (pa_cons (pv 0) (pa_cons pe_int pa_nil))) pe_int (nomark _)) (pss_one (ps_dput (hu_of hr) (pv 4) (pv 6) (pe_call GP hr (by rfl) gP FP.kp bP .nil pass0 (pa_cons (pv 0) (pa_cons (pv 1) pa_nil))) (by rfl))) pss_nil)))))) (pss_one (ps_ret (pe_disp (pps_cons pe_str (pv 1) (pps_cons pe_str (pv 2) (pps_cons pe_str (pv 3) (pps_cons pe_str (pv 4) pps_nil)))) (by rfl) (by rfl) (by simp) (by decide)))))), ?_⟩
    refine ⟨Nat.zero_le _, fun lN nl => ?_⟩
    have s2 := same_new (o := .lst []) nl
    refine fun wD nw uD nu => ⟨_, _, _, rfl, ?_⟩
    have s3 := same_new (o := .dK []) nw
    have s4 := same_new (o := .dK []) nu
    have s14 := (s2.trans s3).trans s4
    have wu : uD ≠ wD := (ne_of_none upd_same nu).symm
    have nw0 : H wD = none := by
      cases z : H wD with
      | none => rfl
      | some o => rw [s2 _ _ z] at nw; cases nw
    have nu0 : H uD = none := by
      cases z : H uD with
      | none => rfl
      | some o => rw [s3 _ _ (s2 _ _ z)] at nu; cases nu
    refine ⟨.ref a, rfl, a, ns.map V.str, rfl, SqL.es ha (.of s14), ?_⟩
    have wk := (walk_enum (K := K) (a := a) (xs := ns.map V.str)).mono (G' := fun H' => ES H H') (Y' := YPair (fun i => some (.int (i : Nat))) (fun i => (ns.map V.str)[i]?)) (fun H' s => SqL.es ha s) fun _ _ _ _ _ _ y => y
    rw [List.length_map] at wk
    refine for_it wk (fun i σ H' => (∃ lN y5 y6 y7 y8, σ = [some (.ref d), some (.ref a), some (.ref lN), some (.ref wD), some (.ref uD), y5, y6, y7, y8] ∧ ∃ P : Hm.Pl Str, P.kinds = ns ∧ Hm.PlOk P (i * ns.length) ∧ PtAt K H' lN wD uD P) ∧ ES H H' ∧ St K H' d l cs)
      ⟨⟨lN, none, none, none, none, rfl, ⟨ns, [], [], []⟩, rfl, ⟨h1n, h8, hn, (fun _ z => nomatch z), Nat.zero_le _, (fun _ z => nomatch z), .nil, (fun _ z => nomatch z), .nil⟩, ⟨[], (s3.trans s4) _ _ upd_same, .nil⟩, s4 _ _ upd_same, upd_same⟩, .of s14, t.same s14⟩ (fun i σ H' _ h => h.2.1) (fun i x σ H1 H2 hi h y => ?_) fun σ H' h => ?_
    · obtain ⟨⟨lN, y5, y6, y7, y8, rfl, P, kP, ok, DP⟩, e1, t1⟩ := h
      clear s2 s3 s4 s14 nl nw nu
      obtain ⟨T1, x1, y1, rfl, nt1, rfl, h1, h2⟩ := y
      have e1' : x1 = .int (i : Nat) := (Option.some.inj h1).symm
      have e2' : y1 = .str ns[i] := by
        have h2 : (ns.map V.str)[i]? = some y1 := h2
        rw [List.getElem?_map, List.getElem?_eq_getElem hi] at h2
        exact (Option.some.inj h2).symm
      subst e1' e2'
      have s2 := same_new (o := .tup [.int (i : Nat), .str ns[i]]) nt1
      have hzi : ns[i] ∈ ns := List.getElem_mem hi
      generalize ns[i] = z at s2 hzi
      refine ⟨T1, _, rfl, .inl (.inl upd_same), rfl, _, _, rfl, _, _, rfl, rfl, ?_⟩
      refine ⟨.ref lN, rfl, .ref a, rfl, .int i, rfl, (i : Int), rfl, a, _, rfl, SqL.es ha (e1.trans (.of s2)), fun L1 nL1 => ?_⟩
      rw [cut_from, ← List.map_drop]
      have s3 := same_new (o := .lst ((ns.drop i).map V.str)) nL1
      have t3 := (t1.same s2).same s3
      have e03 : ES H _ := (e1.trans (.of s2)).trans (.of s3)
      have DP3 := (DP.es (.of s2)).es (.of s3)
      refine ⟨L1, _, rfl, iSq_es (.inl (.inl (.inl upd_same))) fun J G hG wk1 D nD => ?_⟩
      rw [List.length_map] at wk1
      generalize upd (upd H1 T1 (.tup [.int (i : Nat), .str z])) L1 (.lst ((ns.drop i).map V.str)) = H3 at nD t3 e03 DP3 hG
      clear nL1 s3 s2 nt1 t1 e1 DP
      have dl : (ns.drop i).length ≤ 8 := by rw [List.length_drop]; omega
      have dl2 : (ns.drop i).length ≤ ns.length := by rw [List.length_drop]; omega
      have sD := same_new (o := .lst []) nD
      refine lc_s (β := Str × Str) wk1 (fun j L H' => L.length ≤ j ∧ (∀ p ∈ L, p.1 = z ∧ p.2 ∈ ns) ∧ ES H3 H' ∧ St K H' d l cs) (fun j L H' xs ys _ h hD => ?_) (fun j L H' _ h => hG H' h.2.2.1) (TPair K) steadyZ_pair (fun j L H' hj h => Nat.lt_of_le_of_lt (Nat.le_trans h.1 (Nat.le_trans hj dl)) (by decide)) ⟨Nat.le_refl _, (fun _ z => nomatch z), .of sD, t3.same sD⟩ (fun j L x H4 H5 hj h hD y Ny Nn hy hn' => ?_) fun H5 acc L h hD hp => ?_
      · obtain ⟨g1, g2, g3, g4⟩ := h
        have e : ES H3 (upd H' D (.lst ys)) := es_new g3 nD
        exact ⟨g1, g2, e, t3.lst g4 hD e⟩
      · obtain ⟨rfl, yx⟩ := y
        have ec : (ns.drop i)[j]? = some (ns.drop i)[j] := List.getElem?_eq_getElem hj
        obtain rfl := str_get ec yx
        have hc : (ns.drop i)[j] ∈ ns := List.mem_of_mem_drop (List.getElem_mem hj)
        generalize (ns.drop i)[j] = c at hc
        obtain ⟨g1, g2, g3, g4⟩ := h
        obtain ⟨acc, hD⟩ := hD
        refine ⟨rfl, .ref d, rfl, d, l, cs, 5, rfl, g4, by decide, by decide, fun H6 r hr5 e6 t6 => ⟨_, _, rfl, rfl, _, rfl, ?_⟩⟩
        have hD6 := e6 _ _ hD (noSt fun _ z => nomatch z)
        by_cases h3 : (r : Int) < 3
        · rw [decide_eq_true h3]
          refine iteT ⟨.str z, rfl, .str c, rfl, (by show 2 ≤ sizeLine; decide), fun k nk => ?_⟩
          have sk := same_new (o := .tup [.str z, .str c]) nk
          refine hy _ _ (z, c) ((sk _ _ hD6).trans hD.symm) ((ZL.es e6).trans (.of sk)) ⟨by rw [List.length_append]; exact Nat.succ_le_succ g1, fun p hp => ?_, (g3.trans e6).trans (.of sk), t6.same sk⟩ ⟨k, rfl, .inl (.inl upd_same)⟩
          rcases List.mem_append.mp hp with hp | hp
          · exact g2 p hp
          · rw [List.mem_singleton.mp hp]
            exact ⟨rfl, hc⟩
        · rw [decide_eq_false h3]
          exact iteF (hn' _ (hD6.trans hD.symm) (.es e6) ⟨Nat.le_succ_of_le g1, g2, g3.trans e6, t6⟩)
      obtain ⟨g1, g2, g3, g4⟩ := h
      have DP5 := DP3.es g3
      have e05 := e03.trans g3
      obtain ⟨us, hus, hup⟩ := id DP5.near
      have hlen := Paired.length hup
      have hacc := Paired.length hp
      have hm := ok.many
      have i8 : i * ns.length ≤ 8 * 8 := Nat.mul_le_mul (by omega) h8
      refine ⟨lN, D, us, acc, rfl, rfl, hus, hD, Nat.le_trans (show _ ≤ 72 by omega) (by decide), fun lN2 nl2 => ?_⟩
      have s6 := same_new (o := .lst (us ++ acc)) nl2
      have DP6 : PtAt K (upd H5 lN2 (.lst (us ++ acc))) lN2 wD uD { P with near := P.near ++ L } :=
        ⟨⟨us ++ acc, upd_same, paired_app (Paired.steady steady_pair (.of s6) hp) (Paired.steady steady_pair (.of s6) hup)⟩, s6 _ _ DP5.worth, s6 _ _ DP5.upper⟩
      have ok6 : Hm.PlOk { P with near := P.near ++ L } ((i + 1) * ns.length) := ok_near ok (fun p hp => by rw [kP, (g2 p hp).1]; exact ⟨hzi, (g2 p hp).2⟩) (by rw [Nat.succ_mul]; omega)
      have t6 := g4.same s6
      have e06 := e05.trans (.of s6)
      have k6 : ({ P with near := P.near ++ L } : Hm.Pl Str).kinds = ns := kP
      generalize ({ P with near := P.near ++ L } : Hm.Pl Str) = P6 at DP6 ok6 k6
      generalize upd H5 lN2 (.lst (us ++ acc)) = H6 at DP6 t6 e06
      clear hm hacc hlen hup hus DP5 e05 g1 g2 g3 g4 hp hD DP3 e03 ok kP s6 nl2
      refine ⟨.ref d, rfl, d, l, cs, 3, rfl, t6, by decide, by decide, fun H7 r hr3 e7 t7 => ?_⟩
      have D7 := DP6.es e7
      have e07 := e06.trans e7
      refine ⟨.int r, rfl, r, 0, rfl, rfl, _, rfl, ?_⟩
      refine if_join (fun H7 => ES H H7 ∧ St K H7 d l cs ∧ ∃ P' : Hm.Pl Str, P'.kinds = ns ∧ Hm.PlOk P' ((i + 1) * ns.length) ∧ PtAt K H7 lN2 wD uD P') ?_ ?_ fun _ => ⟨e07, t7, P6, k6, ok6, D7⟩
      · clear D7 e07 t7 DP6 e06 t6 ok6 k6
        rintro H8 ⟨e08, t8, P8, k8, ok8, D8⟩
        refine ⟨.ref d, rfl, d, l, cs, 2, rfl, t8, by decide, by decide, fun H9 r2 hr2 e9 t9 => ⟨rfl, _, rfl, ?_⟩⟩
        have D9 := D8.es e9
        have e09 := e08.trans e9
        refine if_join (fun H7 => ES H H7 ∧ St K H7 d l cs ∧ ∃ P' : Hm.Pl Str, P'.kinds = ns ∧ Hm.PlOk P' ((i + 1) * ns.length) ∧ PtAt K H7 lN2 wD uD P') ?_ ?_ fun _ => ⟨e09, t9, P8, k8, ok8, D9⟩
        · rintro Hx ⟨e0x, tx, Px, kx, okx, Dx⟩
          exact ⟨⟨lN2, _, _, _, _, rfl, Px, kx, okx, Dx⟩, e0x, tx⟩
        · intro _ fin
          refine ⟨.ref d, rfl, .ref a, rfl, d, l, cs, .ref a, rfl, t9, .inl ⟨a, _, rfl, SqL.es ha e09, by rw [List.length_map]; exact h1n, by rw [List.length_map]; omega, fun Hx y hy ex tx => ?_⟩⟩
          obtain ⟨o, ho, rfl⟩ := List.mem_map.mp hy
          have Dx := D9.es ex
          have e0x := e09.trans ex
          exact ⟨.ref uD, rfl, .str z, rfl, uD, _, rfl, DPut.k (k := .inr z) Dx.upper (by rw [kvT_len]; exact len8 ok8.upperL), fin _ ⟨es_new e0x nu0, St.new t tx e0x nu0, { P8 with upper := Hm.put P8.upper z o }, k8, ok_upper ok8 (a := z) (b := o) (k8.symm ▸ hzi) (k8.symm ▸ ho), Dx.setUpper wu z o⟩⟩
      · intro hb fin
        have hr0 : r = 1 ∨ r = 2 := by
          have := of_decide_eq_true hb
          omega
        refine ⟨(by show 2 ≤ sizeLine; decide), fun k nk => ?_⟩
        have sk := same_new (o := .lst [.str "see", .str "change"]) nk
        have D8 := D7.es (.of sk)
        have e08 := e07.trans (.of sk)
        have at_ : atI ([.str "see", .str "change"] : List V) ((r : Int) - 1) = some (.str (wTxt r)) := by
          rcases hr0 with rfl | rfl <;> rfl
        refine ⟨.int r, rfl, r, 1, rfl, rfl, k, _, _, _, rfl, rfl, .inl (.inl upd_same), at_, ?_⟩
        exact ⟨.ref wD, rfl, .str z, rfl, wD, _, rfl, DPut.k (k := .inr z) D8.worth (by rw [kvT_len, List.length_map]; exact len8 ok6.worthL), fin _ ⟨es_new e08 nw0, St.new t (t7.same sk) e08 nw0, { P6 with worth := Hm.put P6.worth z r }, k6, ok_worth ok6 (a := z) (k6.symm ▸ hzi) hr0, D8.setWorth wu z r⟩⟩
    · obtain ⟨⟨lN, y5, y6, y7, y8, rfl, P, kP, ok, DP⟩, e1, t1⟩ := h
      intro r nr
      have sx := same_new (o := .dK []) nr
      refine ⟨.ref a, rfl, .ref lN, rfl, .ref wD, rfl, .ref uD, rfl, upd_same, plK a lN wD uD, rfl, (by show 4 ≤ 15; decide), ?_⟩
      rw [pl_new]
      have sy : Same H' (upd (upd H' r (.dK [])) r (.dK (plK a lN wD uD))) := fun b o e => by
        rw [upd_ne (ne_of_none e nr)]
        exact sx b o e
      have Dy := DP.es (.of sy)
      obtain ⟨us', n1, n2⟩ := Dy.near
      have i8 : ns.length * ns.length ≤ 8 * 8 := Nat.mul_le_mul h8 h8
      exact q _ r P kP (PlOk.up ok i8) (e1.trans (.of sy)) (t1.same sy) ⟨a, lN, wD, uD, upd_same, kP ▸ SqL.es ha (e1.trans (.of sy)), ⟨us', .inl (.inl (.inl n1)), n2⟩, Dy.worth, Dy.upper⟩

end

end Ho
set_option Elab.async false
set_option linter.all false
set_option maxRecDepth 100000
set_option maxHeartbeats 4000000
/-! The draws: table. -/
namespace Ho
open PySem PySem.Spec PyProof.Rows L2

section
variable {X : Cx}
theorem bmK (K : PySem.W.Frag) {o e : Expr} {es : List Expr} {to : TE} {t : TA} {name : Str} {apos cpos : Pos} {T id : String} {r : V → List V → Hp → VK → Prop} (pa : PlainAttrs T) (slot : Slot T name id) (hty : typeOf (.builtin id) = pure (.type "method_descriptor")) (hm : MtR X id r) (ho : PE X o to) (ha : PA X (e :: es) t)
    (hK : X.K = K := by rfl) (hbase : attributeBase o name X.env (eval o X.env) = eval o X.env := by rfl)
    (hfew : ((backTo cpos (starEach (e :: es) X.env)).all (fun x => !x.1) && (backToKw cpos (keywordEach [] X.env)).all (fun x => x.1.isSome)
      && decide ((e :: es).length + ([] : List Keyword).length + (if ([] : List Keyword).isEmpty then 0 else 1) < 30)) = true := by rfl)
    (hline : (apos.endLine == cpos.line) = true := by rfl) (hs : starEach (e :: es) X.env = (false, eval e X.env) :: starEach es X.env := by rfl) (hplain : (backTo cpos (starEach es X.env)).any (·.1) = false := by rfl) :
    PE X (.Call (.Attribute o name apos) (e :: es) [] cpos) (tBM K T r to t) := by
  subst hK
  exact pe_bm pa slot hty hm ho ha hbase hfew hline hs hplain
end
theorem map_erase {α β : Type} (f : α → β) : ∀ (l : List α) (k : Nat), (l.map f).eraseIdx k = (l.eraseIdx k).map f
  | [], _ => rfl
  | _ :: _, 0 => rfl
  | a :: r, k + 1 => congrArg (f a :: ·) (map_erase f r k)
def allR : List Hm.Rt := [.r, .rw, .rR, .rwR, .rwRW]
def rV (r : Hm.Rt) : V := .str (rTxt r)
theorem rV_of {H : Hp} : ∀ {vs : List V} {l : List Hm.Rt}, Paired ((fun _ v r => v = rV r : Hp → V → Hm.Rt → Prop) H) vs l → vs = l.map rV
  | _, _, .nil => rfl
  | _, _, .cons h t => by rw [List.map_cons, ← rV_of (H := H) t, show _ = _ from h]
section
variable {P : Program} {w : World} {K : PySem.W.Frag} {mg : Str → Option Value} {base : Heap}
/-! ### _law_table -/
abbrev sTable : Stmt := topS 34
def spTable (K : PySem.W.Frag) : Sp := fun vs H Q _ => ∃ (d l : Addr) (cs : List Int), vs = [.ref d] ∧ St K H d l cs ∧
  ∀ (H' : Hp) (p : Addr) (P : Hm.Pl Str), Hm.PlOk P 64 → (∀ z ∈ P.kinds, Nm z) → ES H H' → St K H' d l cs → PlD K H' p P → Q (.ref p) H'
theorem scTable : FnScope ["_law_state", "_law_sort", "_law_rights", "_law_k", "_law_plain"] ["_law_state"] (defScope sTable) := ⟨rfl, rfl, rfl, by decide +kernel, rfl, by decide +kernel, by decide +kernel⟩

theorem ok_table {f fN fP fA fM fR fS : Addr} {fd fdN fdP fdA fdM fdR fdS : FuncData} (F : Fun K "_law_table" "_law_table" sTable f fd) (B : Blt mg) (FN : Fun K "_law_next" "_law_next" sNext fN fdN) (bN : Binds K fdN ["_law_state", "_law_many"] []) (gN : mg "_law_next" = some (.ref fN)) (GN : FnOk P w K mg base CX0 2 fN fdN ["_law_state", "_law_many"] (spNext K)) (FP : Fun K "_law_pick" "_law_pick" sPick fP fdP) (bP : Binds K fdP ["_law_state", "_law_some"] []) (gP : mg "_law_pick" = some (.ref fP)) (GP : FnOk P w K mg base CX0 3 fP fdP ["_law_state", "_law_some"] (spPick K)) (FA : Fun K "_law_any" "_law_any" sAny fA fdA) (bA : Binds K fdA ["_law_state", "_law_names_here"] []) (gA : mg "_law_any" = some (.ref fA)) (GA : FnOk P w K mg base CX0 4 fA fdA ["_law_state", "_law_names_here"] (spAny K)) (FM : Fun K "_law_names" "_law_names" sNames fM fdM) (bM : Binds K fdM ["_law_state", "_law_many"] []) (gM : mg "_law_names" = some (.ref fM)) (GM : FnOk P w K mg base CX0 5 fM fdM ["_law_state", "_law_many"] (spNames K)) (FR : Fun K "_law_by_rights" "_law_by_rights" sRights fR fdR) (bR : Binds K fdR ["_law_names_here", "_law_rights"] []) (gR : mg "_law_by_rights" = some (.ref fR)) (GR : FnOk P w K mg base CX0 2 fR fdR ["_law_names_here", "_law_rights"] (spRights K)) (FS : Fun K "_law_spoilt" "_law_spoilt" sSpoilt fS fdS) (bS : Binds K fdS ["_law_state", "_law_plain"] []) (gS : mg "_law_spoilt" = some (.ref fS)) (GS : FnOk P w K mg base CX0 4 fS fdS ["_law_state", "_law_plain"] (spSpoilt K)) :
    FnOk P w K mg base CX0 6 f fd ["_law_state"] (spTable K) := by
  refine F.ok scTable (fun vs H Q E h => ?_) (fun cdv A outer s H vs Q E hr h => ?_)
  · obtain ⟨d, l, cs, rfl, _⟩ := h
    rfl
  · obtain ⟨d, l, cs, rfl, t, q⟩ := h
    have hr2 : Room 2 _ := hr.mono (by decide)
    have hr3 : Room 3 _ := hr.mono (by decide)
    have hr4 : Room 4 _ := hr.mono (by decide)
    refine ⟨_, (pss_cons (ps_set (i := 1) scTable.nd rfl (Or.inl rfl) (pe_call GN hr2 (by rfl) gN FN.kp bN .nil pass0 (pa_cons (pv 0) (pa_cons pe_int pa_nil)))) (pss_cons (ps_if (pt_cmpR op_eq (pv 1) pe_int (nomark _)) (pss_one (ps_ret (pe_call GA hr4 (by rfl) gA FA.kp bA .nil pass0 (pa_cons (pv 0) (pa_cons (pe_call GM hr (by rfl) gM FM.kp bM .nil pass0 (pa_cons (pv 0) (pa_cons (pe_op op_add pe_int (pe_call GN hr2 (by rfl) gN FN.kp bN .nil pass0 (pa_cons (pv 0) (pa_cons pe_int pa_nil)))) pa_nil))) pa_nil))))) pss_nil) (pss_cons (ps_set (i := 2) scTable.nd rfl (Or.inr rfl) (pe_lst (pa_cons pe_str (pa_cons pe_str (pa_cons pe_str (pa_cons pe_str (pa_cons pe_str pa_nil))))))) (pss_cons (ps_for PassesOwn.never rfl (pi_range1 (by rfl) B.range (pa_cons (pe_op op_mul (pe_call GN hr2 (by rfl) gN FN.kp bN .nil pass0 (pa_cons (pv 0) (pa_cons pe_int pa_nil))) (pe_callTy (T := "int") call_int1 (by rfl) B.int (by decide +kernel) (pa_cons (pe_cmpR op_gt (pv 1) pe_int (nomark _)) pa_nil))) pa_nil)) (pg_name (i := 3) scTable.nd rfl (Or.inl rfl)) (pss_one (ps_expr (pe_bm PySem.F.plainAttrs_list PySem.F.slot_list_insert PySem.F.type_list_insert mt_insert (pv 2) (pa_cons (pe_call GN hr2 (by rfl) gN FN.kp bN .nil pass0 (pa_cons (pv 0) (pa_cons (pe_op op_add (pe_callB (id := "len") (c_len K) (by rfl) B.len PySem.boot_len (pa_cons (pv 2) pa_nil)) pe_int) pa_nil))) (pa_cons (pe_call GP hr3 (by rfl) gP FP.kp bP .nil pass0 (pa_cons (pv 0) (pa_cons (pe_lst (pa_cons pe_str (pa_cons pe_str (pa_cons pe_str (pa_cons pe_str (pa_cons pe_str pa_nil)))))) pa_nil))) pa_nil)))))) (pss_cons (ps_if (pt_cmpR op_eq (pv 1) pe_int (nomark _)) (pss_one (ps_expr (pe_bm PySem.F.plainAttrs_list PySem.F.slot_list_pop PySem.F.type_list_pop mt_popAt (pv 2) (pa_cons (pe_call GN hr2 (by rfl) gN FN.kp bN .nil pass0 (pa_cons (pv 0) (pa_cons (pe_callB (id := "len") (c_len K) (by rfl) B.len PySem.boot_len (pa_cons (pv 2) pa_nil)) pa_nil))) pa_nil)))) pss_nil) (pss_cons (ps_set (i := 2) scTable.nd rfl (Or.inr rfl) (pe_lc (own := [("_law_k", 3)]) (g := gName 3) (tt := tYes) rfl scTable.nd (pi_range1 (by rfl) B.range (pa_cons (pe_callB (id := "len") (c_len K) (by rfl) B.len PySem.boot_len (pa_cons (pv 2) pa_nil)) pa_nil)) (blkOk_by (own := [("_law_k", 3)]) (N := ["_law_state", "_law_sort", "_law_rights", "_law_k", "_law_plain"]) (sc := defScope sTable) (by decide +kernel)) (fun _ _ _ _ _ => (pg_name (i := 3) scTable.nd rfl (Or.inl rfl))) (fun _ _ _ _ _ => pts_nil) (fun _ _ _ _ _ => (bmK K PySem.F.plainAttrs_list PySem.F.slot_list_pop PySem.F.type_list_pop mt_popAt (pv 2) (pa_cons (pe_call GN hr2 (by rfl) gN FN.kp bN .nil pass0 (pa_cons (pv 0) (pa_cons (pe_callB (id := "len") (c_len K) (by rfl) B.len PySem.boot_len (pa_cons (pv 2) pa_nil)) pa_nil))) pa_nil))))) (pss_cons (ps_set (i := 4) scTable.nd rfl (Or.inl rfl) (pe_call GR hr2 (by rfl) gR FR.kp bR .nil pass0 (pa_cons (pe_call GM hr (by rfl) gM FM.kp bM .nil pass0 (pa_cons (pv 0) (pa_cons (pe_callB (id := "len") (c_len K) (by rfl) B.len PySem.boot_len (pa_cons (pv 2) pa_nil)) pa_nil))) (pa_cons (pv 2) pa_nil)))) (pss_cons (ps_for PassesOwn.never rfl (pi_range1 (by rfl) B.range (pa_cons (pe_ifExp (pt_cmpR op_eq (pv 1) pe_int (nomark _)) (pe_op op_add pe_int (pe_call GN hr2 (by rfl) gN FN.kp bN .nil pass0 (pa_cons (pv 0) (pa_cons pe_int pa_nil)))) pe_int) pa_nil)) (pg_name (i := 3) scTable.nd rfl (Or.inl rfl)) (pss_one (ps_set (i := 4) scTable.nd rfl (Or.inl rfl) (pe_call GS hr4 (by rfl) gS FS.kp bS .nil pass0 (pa_cons (pv 0) (pa_cons (pv 4) pa_nil)))))) (pss_one (ps_ret (pv 4))))))))))), ?_⟩
    refine ⟨.ref d, rfl, d, l, cs, 5, rfl, t, by decide, by decide, fun H1 sort hs e1 t1 => ?_⟩
    refine ⟨.int sort, rfl, rfl, _, rfl, ?_⟩
    by_cases hz : V.int (sort : Int) = V.int 0
    · rw [decide_eq_true hz]
      refine iteT ⟨.ref d, rfl, .ref d, rfl, .ref d, rfl, d, l, cs, 8, rfl, t1, by decide, by decide, fun H2 r hr8 e2 t2 => ?_⟩
      refine ⟨1, r, rfl, rfl, d, l, cs, 1 + r, rfl, t2, by omega, fun H3 k ks hl hn hm nk hk e3 t3 => ?_⟩
      exact ⟨d, l, cs, k, ks, rfl, t3, .inl (.inl hk), by omega, by omega, hn, fun H4 p P kP ok e4 t4 D => q _ p P ok (by rw [kP]; exact hm) (((e1.trans e2).trans e3).trans e4) t4 D⟩
    rw [decide_eq_false hz]
    refine iteF ⟨(by show 5 ≤ sizeLine; decide), fun ra nra => ?_⟩
    have s2 := same_new (o := .lst (allR.map rV)) nra
    have t2 := t1.same s2
    have h2 : (upd H1 ra (.lst (allR.map rV))) ra = some (.lst (allR.map rV)) := upd_same
    refine ⟨.ref d, rfl, d, l, cs, 4, rfl, t2, by decide, by decide, fun H3 r hr4' e3 t3 => ?_⟩
    refine ⟨.int sort, rfl, sort, 1, rfl, rfl, .inr ⟨decide (1 < (sort : Int)), rfl, r, _, rfl, rfl, .inl ⟨by omega, by omega⟩, ?_⟩⟩
    have hj : ∃ n : Nat, n ≤ 3 ∧ (r : Int) * (if decide (1 < (sort : Int)) = true then 1 else 0) = (n : Int) := by
      cases decide (1 < (sort : Int)) with
      | true => exact ⟨r, by omega, by rw [if_pos rfl, Int.mul_one]⟩
      | false => exact ⟨0, by omega, by rw [if_neg Bool.false_ne_true, Int.mul_zero]; rfl⟩
    obtain ⟨n, hn3, ej⟩ := hj
    refine ⟨n, congrArg (fun z => [V.int z]) ej, by omega, by omega, ?_⟩
    refine for_it (walk_range (lo := 0) (n := n)) (fun i σ H' => (∃ y3 y4, σ = [some (.ref d), some (.int sort), some (.ref ra), y3, y4]) ∧ (∃ rs : List Hm.Rt, rs.length = 5 + i ∧ H' ra = some (.lst (rs.map rV))) ∧ ES H1 H' ∧ St K H' d l cs)
      ⟨⟨none, none, rfl⟩, ⟨allR, rfl, e3 _ _ h2 (noSt fun _ z => nomatch z)⟩, (ES.of s2).trans e3, t3⟩ (fun _ _ _ _ _ => trivial) (fun i x σ H4 H5 hi h y => ?_) fun σ H4 h => ?_
    · obtain ⟨⟨y3, y4, rfl⟩, ⟨rs, hrl, hra⟩, e4, t4⟩ := h
      obtain ⟨rfl, rfl⟩ := y
      have hml : (rs.map rV).length = 5 + i := by rw [List.length_map]; exact hrl
      refine ⟨.ref ra, rfl, .inl ⟨rfl, _, .inl (.inl hra)⟩, .ref d, rfl, .ref ra, rfl, ra, _, rfl, .inl (.inl (.inl hra)), (rs.map rV).length, 1, rfl, rfl, d, l, cs, (rs.map rV).length + 1, rfl, t4, by omega, by omega, fun H6 r6 hr6 e6 t6 => ?_⟩
      refine ⟨.ref d, rfl, (by show 5 ≤ sizeLine; decide), fun k nk => ?_⟩
      have sk := same_new (o := .lst (allR.map rV)) nk
      refine ⟨d, l, cs, .ref k, rfl, t6.same sk, .inl ⟨k, allR.map rV, rfl, .inl (.inl upd_same), by decide, by decide, fun H7 y hy e7 t7 => ?_⟩⟩
      obtain ⟨x, _, rfl⟩ := List.mem_map.mp hy
      have e67 : ES _ H7 := (e6.trans (.of sk)).trans e7
      have hra7 := e67 _ _ hra (noSt fun _ z => nomatch z)
      have e17 := e4.trans e67
      refine ⟨ra, rs.map rV, r6, rV x, rfl, rfl, hra7, Nat.lt_of_le_of_lt (show _ ≤ 8 by omega) (by decide), by omega, by omega, ⟨_, _, rfl⟩, ⟨rs.take r6 ++ [x] ++ rs.drop r6, ?_, ?_⟩, es_new e17 nra, St.new t1 t7 e17 nra⟩
      · rw [List.length_append, List.length_append, List.length_take, List.length_drop]
        show _ + 1 + _ = _
        omega
      · rw [upd_same, List.map_append, List.map_append, List.map_take, List.map_drop]
        rfl
    obtain ⟨⟨y3, y4, rfl⟩, ⟨rs, hrl, hra⟩, e4, t4⟩ := h
    clear ej s2 h2 t2 t3 e3
    refine ⟨.int sort, rfl, rfl, _, rfl, ?_⟩
    refine if_join (fun H7 => ES H1 H7 ∧ St K H7 d l cs ∧ ∃ rs : List Hm.Rt, 4 ≤ rs.length ∧ rs.length ≤ 8 ∧ H7 ra = some (.lst (rs.map rV))) ?_ ?_ fun _ => ⟨e4, t4, rs, by omega, by omega, hra⟩
    · clear hra e4 t4 hrl
      rintro H5 ⟨e5, t5, rs, h4, h8, hra⟩
      have hml : (rs.map rV).length = rs.length := List.length_map _
      refine ⟨.ref ra, rfl, ra, _, rfl, .inl (.inl (.inl hra)), (rs.map rV).length, rfl, by omega, by omega, fun D nD => ?_⟩
      have rD : ra ≠ D := ne_of_none hra nD
      have sD := same_new (o := .lst []) nD
      refine lc_s (β := Hm.Rt) (walk_range (lo := 0) (n := (rs.map rV).length)) (fun j L H' => L.length = j ∧ (∃ rs' : List Hm.Rt, rs'.length + j = rs.length ∧ H' ra = some (.lst (rs'.map rV))) ∧ ES H1 H' ∧ St K H' d l cs) (fun j L H' xs ys _ h hD => ?_) (fun _ _ _ _ _ => trivial) (fun _ v r => v = rV r) (fun _ _ _ _ _ h => h) (fun j L H' hj h => Nat.lt_of_le_of_lt (show _ ≤ 8 by have := h.1; omega) (by decide)) ⟨rfl, ⟨rs, rfl, sD _ _ hra⟩, e5.trans (.of sD), t5.same sD⟩ (fun j L x H6 H7 hj h hD y Ny Nn hy _ => ?_) fun H6 acc L h hD hp => ?_
      · obtain ⟨g1, ⟨rs', g2, g3⟩, g4, g5⟩ := h
        have e : ES H1 (upd H' D (.lst ys)) := es_put e5 nD g4
        exact ⟨g1, ⟨rs', g2, by rw [upd_ne rD]; exact g3⟩, e, t1.lst g5 hD e⟩
      · obtain ⟨rfl, rfl⟩ := y
        obtain ⟨g1, ⟨rs', g2, g3⟩, g4, g5⟩ := h
        obtain ⟨acc, hD⟩ := hD
        have hml' : (rs'.map rV).length = rs'.length := List.length_map _
        refine ⟨rfl, .ref ra, rfl, .inl ⟨rfl, _, .inl (.inl g3)⟩, .ref d, rfl, .ref ra, rfl, ra, _, rfl, .inl (.inl (.inl g3)), d, l, cs, (rs'.map rV).length, rfl, g5, by omega, by omega, fun H8 r8 hr8 e8 t8 => ?_⟩
        have hr8' : r8 < rs'.length := by omega
        have h8ra := e8 _ _ g3 (noSt fun _ z => nomatch z)
        have h8D := e8 _ _ hD (noSt fun _ z => nomatch z)
        have e18 := g4.trans e8
        refine ⟨ra, rs'.map rV, r8, r8, rV rs'[r8], rfl, rfl, h8ra, by omega, by omega, seqIndex_of (k := (r8 : Int)) (by omega) (by omega), by rw [List.getElem?_map, List.getElem?_eq_getElem hr8']; rfl, ?_⟩
        refine hy _ _ rs'[r8] ?_ ((ZL.es e8).trans (.nl (NL.lst h8ra))) ⟨by rw [List.length_append, g1]; rfl, ⟨rs'.eraseIdx r8, ?_, ?_⟩, es_new e18 nra, St.new t1 t8 e18 nra⟩ rfl
        · rw [upd_ne rD.symm]
          exact h8D.trans hD.symm
        · rw [List.length_eraseIdx, if_pos hr8']
          omega
        · rw [upd_same, map_erase]
      obtain ⟨g1, _, g4, g5⟩ := h
      rw [rV_of (H := H6) hp] at hD
      have hll : (L.map rV).length = L.length := List.length_map _
      have hL : L.length = rs.length := by omega
      -- plain
      refine ⟨.ref d, rfl, .ref D, rfl, D, _, rfl, .inl (.inl (.inl hD)), d, l, cs, (L.map rV).length, rfl, g5, by omega, fun H7 k ks hl hn hm nk hk e7 t7 => ?_⟩
      refine ⟨.ref D, rfl, k, D, ks, L, rfl, .inl (.inl hk), .inl (.inl (e7 _ _ hD (noSt fun _ z => nomatch z))), by omega, by omega, hn, hm, fun H8 p s8 D8 => ?_⟩
      have e08 : ES H H8 := ((e1.trans g4).trans e7).trans (.of s8)
      have t8 := t7.same s8
      have hok : Hm.PlOk (Hm.byRights ks L) 36 := Hm.byRights_ok (by omega) (by omega) hn
      refine ⟨.int sort, rfl, rfl, _, rfl, ?_⟩
      by_cases h4s : V.int (sort : Int) = V.int 4
      · rw [decide_eq_true h4s]
        refine iteT ⟨.ref d, rfl, d, l, cs, 2, rfl, t8, by decide, by decide, fun H9 r9 hr9 e9 t9 => ?_⟩
        refine ⟨1, r9, rfl, rfl, ((1 + r9 : Nat) : Int), rfl, by omega, by omega, ?_⟩
        refine for_it (walk_range (lo := 0) (n := 1 + r9)) (fun i σ H' => (∃ p P y3, σ = [some (.ref d), some (.int sort), some (.ref D), y3, some (.ref p)] ∧ P.kinds = ks ∧ Hm.PlOk P (36 + i) ∧ PlD K H' p P) ∧ ES H H' ∧ St K H' d l cs)
          ⟨⟨p, _, _, rfl, rfl, hok, D8.es e9⟩, e08.trans e9, t9⟩ (fun _ _ _ _ _ => trivial) (fun i x σ H1 H2 hi h y => ?_) fun σ H' h => ?_
        · obtain ⟨⟨p, P, y3, rfl, kP, okP, DP⟩, e1, t1⟩ := h
          obtain ⟨rfl, rfl⟩ := y
          have i2 : i < 2 := by omega
          exact ⟨.ref d, rfl, .ref p, rfl, d, l, cs, p, P, 36 + i, rfl, t1, DP, okP, by omega, (by rw [kP]; exact hm), fun H3 p' P' k' ok' e3 t3 D3 => ⟨⟨p', P', _, rfl, k'.trans kP, ok', D3⟩, e1.trans e3, t3⟩⟩
        · obtain ⟨⟨p, P, y3, rfl, kP, okP, DP⟩, e1, t1⟩ := h
          have n2 : 1 + r9 ≤ 2 := by omega
          exact ⟨.ref p, rfl, q _ p P (PlOk.up okP (by omega)) (by rw [kP]; exact hm) e1 t1 DP⟩
      · rw [decide_eq_false h4s]
        refine iteF ⟨0, rfl, by decide, by decide, ?_⟩
        refine for_it (walk_range (lo := 0) (n := 0)) (fun i σ H' => (∃ p P y3, σ = [some (.ref d), some (.int sort), some (.ref D), y3, some (.ref p)] ∧ P.kinds = ks ∧ Hm.PlOk P (36 + i) ∧ PlD K H' p P) ∧ ES H H' ∧ St K H' d l cs)
          ⟨⟨p, _, _, rfl, rfl, hok, D8⟩, e08, t8⟩ (fun _ _ _ _ _ => trivial) (fun i x σ H1 H2 hi h y => ?_) fun σ H' h => ?_
        · obtain ⟨⟨p, P, y3, rfl, kP, okP, DP⟩, e1, t1⟩ := h
          obtain ⟨rfl, rfl⟩ := y
          have i2 : i < 2 := absurd hi (Nat.not_lt_zero _)
          exact ⟨.ref d, rfl, .ref p, rfl, d, l, cs, p, P, 36 + i, rfl, t1, DP, okP, by omega, (by rw [kP]; exact hm), fun H3 p' P' k' ok' e3 t3 D3 => ⟨⟨p', P', _, rfl, k'.trans kP, ok', D3⟩, e1.trans e3, t3⟩⟩
        · obtain ⟨⟨p, P, y3, rfl, kP, okP, DP⟩, e1, t1⟩ := h
          have n2 : 0 ≤ 2 := by omega
          exact ⟨.ref p, rfl, q _ p P (PlOk.up okP (by omega)) (by rw [kP]; exact hm) e1 t1 DP⟩
    · intro _ fin
      have hml : (rs.map rV).length = 5 + n := by rw [List.length_map]; exact hrl
      refine ⟨.ref ra, rfl, .inl ⟨rfl, _, .inl (.inl hra)⟩, .ref d, rfl, .ref ra, rfl, ra, _, rfl, .inl (.inl (.inl hra)), d, l, cs, (rs.map rV).length, rfl, t4, by omega, by omega, fun H8 r8 hr8 e8 t8 => ?_⟩
      have hr8' : r8 < rs.length := by omega
      have h8ra := e8 _ _ hra (noSt fun _ z => nomatch z)
      have e18 := e4.trans e8
      refine ⟨ra, rs.map rV, r8, r8, rV rs[r8], rfl, rfl, h8ra, by omega, by omega, seqIndex_of (k := (r8 : Int)) (by omega) (by omega), by rw [List.getElem?_map, List.getElem?_eq_getElem hr8']; rfl, fin _ ⟨es_new e18 nra, St.new t1 t8 e18 nra, rs.eraseIdx r8, ?_, ?_, ?_⟩⟩
      · rw [List.length_eraseIdx, if_pos hr8']; omega
      · rw [List.length_eraseIdx, if_pos hr8']; omega
      · rw [upd_same, map_erase]

end

end Ho
set_option Elab.async false
set_option linter.all false
set_option maxRecDepth 100000
set_option maxHeartbeats 4000000
/-! _law_led. -/
namespace Ho
open PySem PySem.Spec PyProof.Rows L2

theorem rd_lock {H0 : Hp} {x c : Addr} {od : Obj} {kvs l : List (Key × V)} (h : H0 x = some (.dK kvs)) (hc : H0 c = some (.dK l)) : Rd (upd H0 c (.frz od (.dK l))) x (.dK kvs) := by
  by_cases e : x = c
  · subst e
    rw [hc] at h
    cases h
    exact .inr ⟨od, upd_same⟩
  · exact .inl (by rw [upd_ne e]; exact h)
theorem rd_ni {H0 H : Hp} {x T : Addr} {u : HO} (h : Rd H0 x u) (n : x ≠ T) (k : NI T H0 H) : Rd H x u := h.imp (fun h => k _ _ h n) fun ⟨o, h⟩ => ⟨o, k _ _ h n⟩
theorem unlock_ni {H0 H' : Hp} {c T : Addr} {u : HO} {od : Obj} (hc : H0 c = some u) (cT : c ≠ T) (k : NI T (upd H0 c (.frz od u)) H') : NI T H0 (upd H' c u) := fun b o e n => by
  by_cases z : b = c
  · subst z
    rw [upd_same, ← hc, e]
  · rw [upd_ne z]
    exact k b o (by rw [upd_ne z]; exact e) n
theorem dg_rd {H : Hp} {a : Addr} {kvs : List (Key × V)} {k : Key} {v : V} (h : Rd H a (.dK kvs)) (e : valV kvs k = some v) : DGet H a (kV k) (some v) := .inl ⟨_, k, h, rfl, e.symm⟩
theorem nm_val {nm : List (Str × Str)} {a b : Str} (h : Hm.look nm a = some b) : valV (kvT nm) (.inr a) = some (.str b) := by
  rw [kvT_val, h]
  rfl
theorem led_put {L : List (Str × Str)} {f g : Str → Str} (hn : (L.map (·.1)).Nodup) (hf : ∀ q ∈ L, ∀ q' ∈ L, f q.1 = f q'.1 → q.1 = q'.1) {i : Nat} (hi : i < L.length) :
    putK (kvT ((L.take i).map fun q => (f q.1, g q.2))) (.inr (f L[i].1)) (.str (g L[i].2)) = kvT ((L.take (i + 1)).map fun q => (f q.1, g q.2)) := by
  have et : L.take (i + 1) = L.take i ++ [L[i]] := by rw [List.take_add_one, List.getElem?_eq_getElem hi]; rfl
  have no : f L[i].1 ∉ ((L.take i).map fun q => (f q.1, g q.2)).map (·.1) := fun h => by
    rw [List.map_map] at h
    obtain ⟨q, hq, e⟩ := List.mem_map.mp h
    have e1 := hf q (List.mem_of_mem_take hq) L[i] (List.getElem_mem hi) e
    obtain ⟨j, hj, ej⟩ := List.getElem_of_mem hq
    rw [List.length_take] at hj
    have hji : j < i := by omega
    have ej' : L[j]'(by omega) = q := (List.getElem_take ..).symm.trans ej
    have := List.pairwise_iff_getElem.mp hn j i (by rw [List.length_map]; omega) (by rw [List.length_map]; exact hi) hji
    rw [List.getElem_map, List.getElem_map, ej'] at this
    exact this e1
  rw [kv_new no, et, List.map_append]
  rfl
section
variable {P : Program} {w : World} {K : PySem.W.Frag} {mg : Str → Option Value} {base : Heap}
/-! ### _law_led -/
abbrev sLed : Stmt := topS 36
def spLed (K : PySem.W.Frag) : Sp := fun vs H Q _ => ∃ (p nD : Addr) (P : Hm.Pl Str) (n : Nat) (nm : List (Str × Str)) (f : Str → Str), vs = [.ref p, .ref nD] ∧ PlD K H p P ∧ Hm.PlOk P n ∧ n ≤ 1000 ∧ H nD = some (.dK (kvT nm)) ∧ (∀ z ∈ P.kinds, Hm.look nm z = some (f z)) ∧ (∀ a ∈ P.kinds, ∀ b ∈ P.kinds, f a = f b → a = b) ∧
  ∀ (H' : Hp) (p' : Addr), Same H H' → PlD K H' p' (Hm.led f P) → Q (.ref p') H'
theorem scLed : FnScope ["_law_plain", "_law_names_here", "_law_worth", "_law_upper", "_law_one", "_law_near", "_law_other"] ["_law_plain", "_law_names_here"] (defScope sLed) := ⟨rfl, rfl, rfl, by decide +kernel, rfl, by decide +kernel, by decide +kernel⟩

theorem ok_led {f : Addr} {fd : FuncData} (F : Fun K "_law_led" "_law_led" sLed f fd) :
    FnOk P w K mg base CX0 1 f fd ["_law_plain", "_law_names_here"] (spLed K) := by
  refine F.ok scLed (fun vs H Q E h => ?_) (fun cdv A outer s H vs Q E hr h => ?_)
  · obtain ⟨p, nD, P, n, nm, f, rfl, _⟩ := h
    rfl
  · obtain ⟨p, nD, P, n, nm, f, rfl, ⟨a, b, c, e, R⟩, ok, hn, hnm, hf, hj, q⟩ := h
    refine ⟨_, (pss_cons (ps_par (i := 2) (j := 3) rfl scLed.nd rfl rfl (by decide) rfl rfl (pa_cons pe_dnewK (pa_cons pe_dnewK pa_nil)) (by rfl)) (pss_cons (ps_lock (ps_for PassesOwn.never rfl (pi_keys (pe_dget (hu_of hr) (pv 0) pe_str (fun _ _ => rfl))) (pg_name (i := 4) scLed.nd rfl (Or.inl rfl)) (pss_one (ps_dput (hu_of hr) (pv 2) (pe_dget (hu_of hr) (pv 1) (pv 4) (fun _ _ => rfl)) (pe_dget (hu_of hr) (pe_dget (hu_of hr) (pv 0) pe_str (fun _ _ => rfl)) (pv 4) (fun _ _ => rfl)) (by rfl))))) (pss_cons (ps_lock (ps_for PassesOwn.never rfl (pi_keys (pe_dget (hu_of hr) (pv 0) pe_str (fun _ _ => rfl))) (pg_name (i := 4) scLed.nd rfl (Or.inl rfl)) (pss_one (ps_dput (hu_of hr) (pv 3) (pe_dget (hu_of hr) (pv 1) (pv 4) (fun _ _ => rfl)) (pe_dget (hu_of hr) (pv 1) (pe_dget (hu_of hr) (pe_dget (hu_of hr) (pv 0) pe_str (fun _ _ => rfl)) (pv 4) (fun _ _ => rfl)) (fun _ _ => rfl)) (by rfl))))) (pss_cons (ps_setLc (i := 5) (own := [("_law_one", 4), ("_law_other", 6)]) (tt := tYes) rfl scLed.nd rfl rfl (sw_true rfl rfl rfl (by decide +kernel)) (piK K (pe_dget (hu_of hr) (pv 0) pe_str (fun _ _ => rfl))) (blkOk_by (own := [("_law_one", 4), ("_law_other", 6)]) (N := ["_law_plain", "_law_names_here", "_law_worth", "_law_upper", "_law_one", "_law_near", "_law_other"]) (sc := defScope sLed) (by decide +kernel)) (fun _ _ _ _ _ => (gtK K (n := 2) rfl (pgs_cons (pg_name (i := 4) scLed.nd rfl (Or.inl rfl)) (pgs_cons (pg_name (i := 6) scLed.nd rfl (Or.inl rfl)) pgs_nil)))) (fun _ _ _ _ _ => pts_nil) (fun _ _ _ _ _ => (pe_tup (pa_cons (pe_dget (hu_of hr) (pv 1) (pv 4) (fun _ _ => rfl)) (pa_cons (pe_dget (hu_of hr) (pv 1) (pv 6) (fun _ _ => rfl)) pa_nil))))) (pss_one (ps_ret (pe_disp (pps_cons pe_str (pe_lc (own := [("_law_one", 4)]) (g := gName 4) (tt := tYes) rfl scLed.nd (piK K (pe_dget (hu_of hr) (pv 0) pe_str (fun _ _ => rfl))) (blkOk_by (own := [("_law_one", 4)]) (N := ["_law_plain", "_law_names_here", "_law_worth", "_law_upper", "_law_one", "_law_near", "_law_other"]) (sc := defScope sLed) (by decide +kernel)) (fun _ _ _ _ _ => (pg_name (i := 4) scLed.nd rfl (Or.inl rfl))) (fun _ _ _ _ _ => pts_nil) (fun _ _ _ _ _ => (pe_dget (hu_of hr) (pv 1) (pv 4) (fun _ _ => rfl)))) (pps_cons pe_str (pv 5) (pps_cons pe_str (pv 2) (pps_cons pe_str (pv 3) pps_nil)))) (by rfl) (by rfl) (by simp) (by decide)))))))), ?_⟩
    refine fun wD nw uD nu => ⟨_, _, rfl, ?_⟩
    have s1 := same_new (o := .dK []) nw
    have s2 := same_new (o := .dK []) nu
    have wu : uD ≠ wD := (ne_of_none upd_same nu).symm
    have nu0 : H uD = none := by
      cases z : H uD with
      | none => rfl
      | some o => rw [s1 _ _ z] at nu; cases nu
    have sH := s1.trans s2
    have hw0 := s2 _ _ (upd_same (H := H) (a := wD) (o := HO.dK []))
    have hu0 : (upd (upd H wD (.dK [])) uD (.dK [])) uD = some (.dK []) := upd_same
    generalize upd (upd H wD (.dK [])) uD (.dK []) = H0 at sH hw0 hu0
    clear s1 s2 nu
    have cw : c ≠ wD := ne_of_none R.worth nw
    have eu : e ≠ uD := ne_of_none R.upper nu0
    have inW : ∀ q ∈ P.worth.map (fun q => (q.1, wTxt q.2)), q.1 ∈ P.kinds ∧ True := fun q hq => by
      obtain ⟨q', h', rfl⟩ := List.mem_map.mp hq
      exact ⟨(ok.worth q' h').1, trivial⟩
    have ndW : ((P.worth.map (fun q => (q.1, wTxt q.2))).map (·.1)).Nodup := by rw [worth_keys]; exact ok.worthN
    have fewW : (P.worth.map (fun q => (q.1, wTxt q.2))).length ≤ 8 := by rw [List.length_map]; exact ok.worthL
    have hc0 := sH _ _ R.worth
    generalize hWL : P.worth.map (fun q => (q.1, wTxt q.2)) = WL at inW ndW fewW hc0
    refine ⟨c, _, hc0, trivial, fun od => ?_⟩
    generalize hL : upd H0 c (.frz od (.dK (kvT WL))) = HL
    have fz : HL c = some (.frz od (.dK (kvT WL))) := by rw [← hL]; exact upd_same
    have rp : Rd HL p (.dK (plK a b c e)) := by rw [← hL]; exact rd_lock (sH _ _ R.ob) hc0
    have rn : Rd HL nD (.dK (kvT nm)) := by rw [← hL]; exact rd_lock (sH _ _ hnm) hc0
    have hTL : HL wD = some (.dK []) := by rw [← hL, upd_ne cw.symm]; exact hw0
    have pT : p ≠ wD := ne_of_none R.ob nw
    have nT : nD ≠ wD := ne_of_none hnm nw
    refine ⟨.ref p, rfl, p, .ref c, rfl, dg_rd (k := .inr "worth") rp rfl, c, od, rfl, .inl ⟨_, fz, ?_⟩⟩
    have wk := walk_keys (d := c) (o := od) (kvs := kvT WL)
    rw [kvT_len] at wk
    refine for_it wk (fun i σ H' => (∃ y4 y5 y6, σ = [some (.ref p), some (.ref nD), some (.ref wD), some (.ref uD), y4, y5, y6]) ∧ NI wD HL H' ∧ H' wD = some (.dK (kvT ((WL.take i).map fun q => (f q.1, (fun x : Str => x) q.2))))) ⟨⟨_, _, _, rfl⟩, fun _ _ h _ => h, hTL⟩ (fun i σ H' _ h => h.2.1 _ _ fz cw) (fun i x σ H1 H2 hi h y => ?_) fun σ H' h => ?_
    · obtain ⟨⟨y4, y5, y6, rfl⟩, k1, hT1⟩ := h
      obtain ⟨rfl, k, v, ek, rfl⟩ := y
      have ek' : (Sum.inr WL[i].1, V.str WL[i].2) = (k, v) := by
        have : (kvT WL)[i]? = some (.inr WL[i].1, .str WL[i].2) := by unfold kvT; rw [List.getElem?_map, List.getElem?_eq_getElem hi]; rfl
        rw [this] at ek
        exact Option.some.inj ek
      obtain ⟨rfl, rfl⟩ := Prod.mk.inj ek'
      have hm := List.getElem_mem hi
      have rp1 := rd_ni rp pT k1
      have rn1 := rd_ni rn nT k1
      have rc1 : Rd _ c (.dK (kvT WL)) := .inr ⟨od, k1 _ _ fz cw⟩
      refine ⟨.ref p, rfl, p, .ref c, rfl, dg_rd (k := .inr "worth") rp1 rfl, .str WL[i].1, rfl, c, .str WL[i].2, rfl, dg_rd (k := .inr WL[i].1) rc1 (nm_val (look_in ndW hm)), ?_⟩
      refine ⟨.ref wD, rfl, .ref nD, rfl, .str WL[i].1, rfl, nD, .str (f WL[i].1), rfl, dg_rd (k := .inr WL[i].1) rn1 (nm_val (hf _ (inW _ hm).1)), wD, _, rfl, DPut.k (k := .inr (f WL[i].1)) hT1 ?_, ⟨_, _, _, rfl⟩, k1.at_, ?_⟩
      · rw [kvT_len, List.length_map, List.length_take]
        exact Nat.lt_of_le_of_lt (Nat.min_le_right _ _) (len8 fewW)
      · rw [upd_same, led_put (g := (fun x : Str => x)) ndW (fun q hq q' hq' => hj _ (inW q hq).1 _ (inW q' hq').1) hi]
    obtain ⟨⟨y4, y5, y6, rfl⟩, k1, hT1⟩ := h
    refine ⟨k1 _ _ fz cw, ?_⟩
    rw [List.take_length] at hT1
    have kk : NI wD H0 (upd H' c (.dK (kvT WL))) := unlock_ni hc0 cw (hL ▸ k1)
    have hT2 : (upd H' c (.dK (kvT WL))) wD = some (.dK (kvT (WL.map fun q => (f q.1, (fun x : Str => x) q.2)))) := by rw [upd_ne cw.symm]; exact hT1
    have hu1 := kk _ _ hu0 wu
    have sH1 : Same H (upd H' c (.dK (kvT WL))) := fun b o h => kk b o (sH _ _ h) (ne_of_none h nw)
    generalize upd H' c (.dK (kvT WL)) = H0 at kk hT2 hu1 sH1
    have hw1 := hT2
    clear hT2 kk hT1 k1 rp rn hTL fz hL wk pT nT hc0 hu0 hw0
    have hc1 := sH1 _ _ R.upper
    have inU := ok.upper
    refine ⟨e, _, hc1, trivial, fun od => ?_⟩
    generalize hL : upd H0 e (.frz od (.dK (kvT P.upper))) = HL
    have fz : HL e = some (.frz od (.dK (kvT P.upper))) := by rw [← hL]; exact upd_same
    have rp : Rd HL p (.dK (plK a b c e)) := by rw [← hL]; exact rd_lock (sH1 _ _ R.ob) hc1
    have rn : Rd HL nD (.dK (kvT nm)) := by rw [← hL]; exact rd_lock (sH1 _ _ hnm) hc1
    have hTL : HL uD = some (.dK []) := by rw [← hL, upd_ne eu.symm]; exact hu1
    have pT : p ≠ uD := ne_of_none R.ob nu0
    have nT : nD ≠ uD := ne_of_none hnm nu0
    refine ⟨.ref p, rfl, p, .ref e, rfl, dg_rd (k := .inr "upper") rp rfl, e, od, rfl, .inl ⟨_, fz, ?_⟩⟩
    have wk := walk_keys (d := e) (o := od) (kvs := kvT P.upper)
    rw [kvT_len] at wk
    refine for_it wk (fun i σ H' => (∃ y4 y5 y6, σ = [some (.ref p), some (.ref nD), some (.ref wD), some (.ref uD), y4, y5, y6]) ∧ NI uD HL H' ∧ H' uD = some (.dK (kvT ((P.upper.take i).map fun q => (f q.1, f q.2))))) ⟨⟨_, _, _, rfl⟩, fun _ _ h _ => h, hTL⟩ (fun i σ H' _ h => h.2.1 _ _ fz eu) (fun i x σ H1 H2 hi h y => ?_) fun σ H' h => ?_
    · obtain ⟨⟨y4, y5, y6, rfl⟩, k1, hT1⟩ := h
      obtain ⟨rfl, k, v, ek, rfl⟩ := y
      have ek' : (Sum.inr P.upper[i].1, V.str P.upper[i].2) = (k, v) := by
        have : (kvT P.upper)[i]? = some (.inr P.upper[i].1, .str P.upper[i].2) := by unfold kvT; rw [List.getElem?_map, List.getElem?_eq_getElem hi]; rfl
        rw [this] at ek
        exact Option.some.inj ek
      obtain ⟨rfl, rfl⟩ := Prod.mk.inj ek'
      have hm := List.getElem_mem hi
      have rp1 := rd_ni rp pT k1
      have rn1 := rd_ni rn nT k1
      have rc1 : Rd _ e (.dK (kvT P.upper)) := .inr ⟨od, k1 _ _ fz eu⟩
      refine ⟨.ref nD, rfl, .ref p, rfl, p, .ref e, rfl, dg_rd (k := .inr "upper") rp1 rfl, .str P.upper[i].1, rfl, e, .str P.upper[i].2, rfl, dg_rd (k := .inr P.upper[i].1) rc1 (nm_val (look_in ok.upperN hm)), nD, .str (f P.upper[i].2), rfl, dg_rd (k := .inr P.upper[i].2) rn1 (nm_val (hf _ (inU _ hm).2)), ?_⟩
      refine ⟨.ref uD, rfl, .ref nD, rfl, .str P.upper[i].1, rfl, nD, .str (f P.upper[i].1), rfl, dg_rd (k := .inr P.upper[i].1) rn1 (nm_val (hf _ (inU _ hm).1)), uD, _, rfl, DPut.k (k := .inr (f P.upper[i].1)) hT1 ?_, ⟨_, _, _, rfl⟩, k1.at_, ?_⟩
      · rw [kvT_len, List.length_map, List.length_take]
        exact Nat.lt_of_le_of_lt (Nat.min_le_right _ _) (len8 ok.upperL)
      · rw [upd_same, led_put (g := f) ok.upperN (fun q hq q' hq' => hj _ (inU q hq).1 _ (inU q' hq').1) hi]
    obtain ⟨⟨y4, y5, y6, rfl⟩, k1, hT1⟩ := h
    refine ⟨k1 _ _ fz eu, ?_⟩
    rw [List.take_length] at hT1
    have kk : NI uD H0 (upd H' e (.dK (kvT P.upper))) := unlock_ni hc1 eu (hL ▸ k1)
    have hT2 : (upd H' e (.dK (kvT P.upper))) uD = some (.dK (kvT (P.upper.map fun q => (f q.1, f q.2)))) := by rw [upd_ne eu.symm]; exact hT1
    have hw2 := kk _ _ hw1 wu.symm
    have sH2 : Same H (upd H' e (.dK (kvT P.upper))) := fun b o h => kk b o (sH1 _ _ h) (ne_of_none h nu0)
    have hu2 := hT2
    generalize upd H' e (.dK (kvT P.upper)) = H2 at hu2 hw2 sH2
    clear hT2 kk hT1 k1 rp rn hTL fz hL wk pT nT hc1 hu1 hw1
    have R2 := R.same sH2
    obtain ⟨us, hb, hus⟩ := R2.near
    refine ⟨.ref p, rfl, p, .ref b, rfl, DGet.k (k := .inr "near") R2.ob, b, us, rfl, iSq_of hb fun J G hG wk D nD' => ?_⟩
    rw [Paired.length hus] at wk
    refine lc_f (xs := P.near) (β := Str × Str) wk hG nD' (fun _ => true) (fun q => (f q.1, f q.2)) (TPair K) steady_pair (Nat.lt_of_le_of_lt (Nat.le_trans ok.many hn) (by decide)) (fun i z x H3 H4 ez s3 y Ny Nn hy _ => ?_) fun H3 acc s3 hD hp => ?_
    · obtain ⟨rfl, yx⟩ := y
      obtain ⟨t, rfl, ht⟩ := paired_get (Paired.steady steady_pair (.of s3) hus) yx ez
      have hz := ok.near z (List.mem_of_getElem? ez)
      have hnm3 := s3 _ _ (sH2 _ _ hnm)
      exact ⟨t, _, rfl, ht, rfl, _, _, rfl, _, _, rfl, rfl, rfl, .ref nD, rfl, .str z.1, rfl, nD, .str (f z.1), rfl, dg_rd (k := .inr z.1) (.inl hnm3) (nm_val (hf _ hz.1)), .ref nD, rfl, .str z.2, rfl, nD, .str (f z.2), rfl, dg_rd (k := .inr z.2) (.inl hnm3) (nm_val (hf _ hz.2)), (by show 2 ≤ sizeLine; decide), fun k nk => hy rfl _ _ (same_new nk) ⟨k, rfl, .inl (.inl upd_same)⟩⟩
    rw [filt_all] at hp
    have sH3 := sH2.trans s3
    intro r nr
    have s4 := same_new (o := .dK []) nr
    have R4 := R.same (sH3.trans s4)
    refine ⟨.ref p, rfl, p, .ref a, rfl, DGet.k (k := .inr "kinds") R4.ob, a, _, rfl, iSq_of (.inl R4.kinds) fun J G hG wk D2 nD2 => ?_⟩
    rw [List.length_map] at wk
    refine lc_f (β := Str) wk hG nD2 (fun _ => true) f RStr steady_str (len8 ok.few) (fun i z x H5 H6 ez s5 y Ny Nn hy _ => ?_) fun H5 acc2 s5 hD2 hp2 => ?_
    · obtain ⟨rfl, yx⟩ := y
      obtain rfl := str_get ez yx
      have hnm5 := s5 _ _ (s4 _ _ (sH3 _ _ hnm))
      exact ⟨rfl, .ref nD, rfl, .str z, rfl, nD, .str (f z), rfl, dg_rd (k := .inr z) (.inl hnm5) (nm_val (hf _ (List.mem_of_getElem? ez))), hy rfl _ _ (Same.refl _) rfl⟩
    rw [strs_of hp2, filt_all] at hD2
    have s35 := s4.trans s5
    refine ⟨.ref D, rfl, .ref wD, rfl, .ref uD, rfl, s5 _ _ upd_same, plK D2 D wD uD, rfl, (by show 4 ≤ 15; decide), ?_⟩
    rw [pl_new]
    have s6 : Same H3 (upd H5 r (.dK (plK D2 D wD uD))) := fun b o h => by
      rw [upd_ne (ne_of_none h nr)]
      exact s35 b o h
    have Dr : D2 ≠ r := fun z => by rw [z, s5 _ _ upd_same] at hD2; cases hD2
    refine q _ r (sH3.trans s6) ⟨D2, D, wD, uD, upd_same, .inl (.inl (by rw [upd_ne Dr]; exact hD2)), ⟨acc, .inl (.inl (.inl (s6 _ _ hD))), Paired.steady steady_pair (.of s6) hp⟩, ?_, s6 _ _ (s3 _ _ hu2)⟩
    have ew : (Hm.led f P).worth.map (fun q => (q.1, wTxt q.2)) = WL.map fun q => (f q.1, (fun x : Str => x) q.2) := by
      rw [← hWL]
      show (P.worth.map _).map _ = (P.worth.map _).map _
      rw [List.map_map, List.map_map]
      rfl
    rw [ew]
    exact s6 _ _ (s3 _ _ hw2)

end

end Ho
set_option Elab.async false
set_option linter.all false
set_option maxRecDepth 100000
set_option maxHeartbeats 4000000
/-! _law_two_alike, _law_turned_right. -/
namespace Ho
open PySem PySem.Spec PyProof.Rows L2

section
variable {P : Program} {w : World} {K : PySem.W.Frag} {mg : Str → Option Value} {base : Heap}
/-! ### _law_two_alike -/
abbrev sAlike : Stmt := topS 37
def spAlike (K : PySem.W.Frag) (C : Addr) : Sp := fun vs H Q _ => ∃ (p p' nD t : Addr) (a b : Str) (P P' : Hm.Pl Str) (nm : List (Str × Str)) (f : Str → Str), vs = [.ref p, .ref p', .ref nD, .ref t] ∧ Tbl K C H p P ∧ Tbl K C H p' P' ∧ Hm.PlOk P 64 ∧ Hm.PlOk P' 64 ∧ (∀ z ∈ P.kinds, Nm z) ∧ (∀ z ∈ P'.kinds, Nm z) ∧
  Hm.Led f (Hm.made P) (Hm.made P') ∧ H nD = some (.dK (kvT nm)) ∧ (∀ z ∈ P.kinds, Hm.look nm z = some (f z)) ∧ SqT K H t [.str a, .str b] ∧ a ∈ P.kinds ∧ b ∈ P.kinds ∧ ∀ H', Same H H' → Q (.bl true) H'
theorem scAlike : FnScope ["_law_table_here", "_law_other", "_law_names_here", "_law_pair", "_law_one", "_law_two", "_law_mine", "_law_theirs"] ["_law_table_here", "_law_other", "_law_names_here", "_law_pair"] (defScope sAlike) := ⟨rfl, rfl, rfl, by decide +kernel, rfl, by decide +kernel, by decide +kernel⟩

theorem ok_alike {f C fJ fB fE : Addr} {fd fdJ fdB fdE : FuncData} (F : Fun K "_law_two_alike" "_law_two_alike" sAlike f fd) (T : Tt K mg C) (FJ : Fun K "joined" "Table.joined" sJoined fJ fdJ) (bJ : Binds K fdJ ["self", "one", "other"] []) (mJ : Meth K C "joined" fJ) (GJ : FnOk P w K mg base CX0 4 fJ fdJ ["self", "one", "other"] (spJoined K C)) (FB : Fun K "bears" "Table.bears" sBears fB fdB) (bB : Binds K fdB ["self", "one", "other"] []) (mB : Meth K C "bears" fB) (GB : FnOk P w K mg base CX0 3 fB fdB ["self", "one", "other"] (spBears K C)) (FE : Fun K "beside" "Table.beside" sBeside fE fdE) (bE : Binds K fdE ["self", "one", "other"] []) (mE : Meth K C "beside" fE) (GE : FnOk P w K mg base CX0 3 fE fdE ["self", "one", "other"] (spBeside K C)) :
    FnOk P w K mg base CX0 5 f fd ["_law_table_here", "_law_other", "_law_names_here", "_law_pair"] (spAlike K C) := by
  refine F.ok scAlike (fun vs H Q E h => ?_) (fun cdv A outer s H vs Q E hr h => ?_)
  · obtain ⟨p, p', nD, t, a, b, P, P', nm, f, rfl, _⟩ := h
    rfl
  · obtain ⟨p, p', nD, t, a, b, P, P', nm, f, rfl, hp, hp', ok, ok', hN, hN', L, hnm, hlk, ht, ha, hb, q⟩ := h
    have hr3 : Room 3 _ := hr.mono (by decide)
    obtain ⟨dx, o, dp, dw, du, j, tb⟩ := id hp
    obtain ⟨dx', o', dp', dw', du', j', tb'⟩ := id hp'
    have eo : P'.kinds = P.kinds.map f := L.ord
    have fa : f a ∈ P'.kinds := by rw [eo]; exact List.mem_map.mpr ⟨a, ha, rfl⟩
    have fb : f b ∈ P'.kinds := by rw [eo]; exact List.mem_map.mpr ⟨b, hb, rfl⟩
    have na : ∀ {H1 : Hp}, Same H H1 → DGet H1 nD (.str a) (some (.str (f a))) := fun s => dg_rd (k := .inr a) (.inl (s _ _ hnm)) (nm_val (hlk a ha))
    have nb : ∀ {H1 : Hp}, Same H H1 → DGet H1 nD (.str b) (some (.str (f b))) := fun s => dg_rd (k := .inr b) (.inl (s _ _ hnm)) (nm_val (hlk b hb))
    refine ⟨_, (pss_cons (ps_asg (pv 3) (pg_tup rfl (pgs_cons (pg_name (i := 4) scAlike.nd rfl (Or.inl rfl)) (pgs_cons (pg_name (i := 5) scAlike.nd rfl (Or.inl rfl)) pgs_nil)))) (pss_cons (ps_par (i := 6) (j := 7) rfl scAlike.nd rfl rfl (by decide) rfl rfl (pa_cons (pe_meth (pv 0) T.cl mJ GJ hr bJ .nil pass0 (pa_cons (pv 4) (pa_cons (pv 5) pa_nil))) (pa_cons (pe_meth (pv 1) T.cl mJ GJ hr bJ .nil pass0 (pa_cons (pe_dget (hu_of hr) (pv 2) (pv 4) (fun _ _ => rfl)) (pa_cons (pe_dget (hu_of hr) (pv 2) (pv 5) (fun _ _ => rfl)) pa_nil))) pa_nil)) (by rfl)) (pss_cons (ps_if (pt_cmpR op_ne (pe_meth (pv 0) T.cl mB GB hr3 bB .nil pass0 (pa_cons (pv 4) (pa_cons (pv 5) pa_nil))) (pe_meth (pv 1) T.cl mB GB hr3 bB .nil pass0 (pa_cons (pe_dget (hu_of hr) (pv 2) (pv 4) (fun _ _ => rfl)) (pa_cons (pe_dget (hu_of hr) (pv 2) (pv 5) (fun _ _ => rfl)) pa_nil))) (nomark _)) (pss_one (ps_ret pe_bl)) pss_nil) (pss_cons (ps_if (pt_cmpR op_ne (pe_bm PySem.F.plainAttrs_dict PySem.F.slot_dict_get PySem.F.type_dict_get (mt_getN (hu_of hr)) (pv 2) (pa_cons (pv 6) pa_nil)) (pv 7) (nomark _)) (pss_one (ps_ret pe_bl)) pss_nil) (pss_one (ps_ret (pe_cmpR op_eq (pe_meth (pv 0) T.cl mE GE hr3 bE .nil pass0 (pa_cons (pv 4) (pa_cons (pv 5) pa_nil))) (pe_meth (pv 1) T.cl mE GE hr3 bE .nil pass0 (pa_cons (pe_dget (hu_of hr) (pv 2) (pv 4) (fun _ _ => rfl)) (pa_cons (pe_dget (hu_of hr) (pv 2) (pv 5) (fun _ _ => rfl)) pa_nil))) (nomark _)))))))), ?_⟩
    refine ⟨.ref t, rfl, t, _, rfl, ht, rfl, _, _, rfl, _, _, rfl, rfl, ?_⟩
    refine ⟨.ref p, rfl, p, dx, _, rfl, tb.ob, tf_no rfl, .str a, rfl, .str b, rfl, p, a, b, P, rfl, hp, ok, hN, ha, hb, fun H1 s1 => ?_⟩
    refine ⟨.ref p', rfl, p', dx', _, rfl, (tb'.same s1).ob, tf_no rfl, .ref nD, rfl, .str a, rfl, nD, .str (f a), rfl, na s1, .ref nD, rfl, .str b, rfl, nD, .str (f b), rfl, nb s1, p', f a, f b, P', rfl, hp'.same s1, ok', hN', fa, fb, fun H2 s2 => ⟨_, _, rfl, ?_⟩⟩
    rw [L.joined ha hb]
    have sm := s1.trans s2
    have jm : ∀ z, Hm.joined (Hm.made P) a b = some z → z ∈ P.kinds := fun z h => Hm.joined_mem ha hb h
    generalize Hm.joined (Hm.made P) a b = jn at jm
    refine ⟨.ref p, rfl, p, dx, _, rfl, (tb.same sm).ob, tf_no rfl, .str a, rfl, .str b, rfl, p, a, b, P, rfl, hp.same sm, ok, ha, hb, fun H3 s3 => ?_⟩
    have s03 := sm.trans s3
    refine ⟨.ref p', rfl, p', dx', _, rfl, (tb'.same s03).ob, tf_no rfl, .ref nD, rfl, .str a, rfl, nD, .str (f a), rfl, na s03, .ref nD, rfl, .str b, rfl, nD, .str (f b), rfl, nb s03, p', f a, f b, P', rfl, hp'.same s03, ok', fa, fb, fun H4 s4 => ⟨rfl, _, rfl, ?_⟩⟩
    rw [L.bears ha hb, decide_eq_true rfl]
    have s04 := s03.trans s4
    refine iteF ?_
    have fin : ∀ Q' : V → Hp → Prop, (∀ H', Same H H' → Q' (.bl true) H') → True := fun _ _ => trivial
    cases jn with
    | none =>
      refine ⟨.ref nD, rfl, .inr (.inr (.inl ⟨rfl, .inl ⟨_, s04 _ _ hnm⟩⟩)), .non, rfl, nD, .non, _, rfl, rfl, s04 _ _ hnm, .inl ⟨rfl, .non, rfl, rfl, _, rfl, ?_⟩⟩
      rw [decide_eq_true rfl]
      refine iteF ?_
      refine ⟨.ref p, rfl, p, dx, _, rfl, (tb.same s04).ob, tf_no rfl, .str a, rfl, .str b, rfl, p, a, b, P, rfl, hp.same s04, ha, hb, fun H5 s5 => ?_⟩
      have s05 := s04.trans s5
      refine ⟨.ref p', rfl, p', dx', _, rfl, (tb'.same s05).ob, tf_no rfl, .ref nD, rfl, .str a, rfl, nD, .str (f a), rfl, na s05, .ref nD, rfl, .str b, rfl, nD, .str (f b), rfl, nb s05, p', f a, f b, P', rfl, hp'.same s05, fa, fb, fun H6 s6 => ⟨rfl, ?_⟩⟩
      rw [L.bes a ha b hb, decide_eq_true rfl]
      exact q _ (s05.trans s6)
    | some z =>
      have hz := jm z rfl
      refine ⟨.ref nD, rfl, .inr (.inr (.inl ⟨rfl, .inl ⟨_, s04 _ _ hnm⟩⟩)), .str z, rfl, nD, .str z, _, rfl, rfl, s04 _ _ hnm, .inr ⟨.inr z, rfl, ?_⟩⟩
      rw [nm_val (hlk z hz)]
      refine ⟨.str (f z), rfl, rfl, _, rfl, ?_⟩
      rw [show decide ((some (V.str (f z))).getD V.non = V.str (f z)) = true from decide_eq_true rfl]
      refine iteF ?_
      refine ⟨.ref p, rfl, p, dx, _, rfl, (tb.same s04).ob, tf_no rfl, .str a, rfl, .str b, rfl, p, a, b, P, rfl, hp.same s04, ha, hb, fun H5 s5 => ?_⟩
      have s05 := s04.trans s5
      refine ⟨.ref p', rfl, p', dx', _, rfl, (tb'.same s05).ob, tf_no rfl, .ref nD, rfl, .str a, rfl, nD, .str (f a), rfl, na s05, .ref nD, rfl, .str b, rfl, nD, .str (f b), rfl, nb s05, p', f a, f b, P', rfl, hp'.same s05, fa, fb, fun H6 s6 => ⟨rfl, ?_⟩⟩
      rw [L.bes a ha b hb, decide_eq_true rfl]
      exact q _ (s05.trans s6)

/-! ### _law_turned_right -/
abbrev sRight : Stmt := topS 38
def spRight (K : PySem.W.Frag) (C : Addr) : Sp := fun vs H Q _ => ∃ (p p' t : Addr) (a b : Str) (P P' : Hm.Pl Str), vs = [.ref p, .ref p', .ref t] ∧ Tbl K C H p P ∧ Tbl K C H p' P' ∧ Hm.PlOk P 64 ∧ Hm.PlOk P' 64 ∧ (∀ z ∈ P.kinds, Nm z) ∧ (∀ z ∈ P'.kinds, Nm z) ∧
  Hm.Turned (Hm.made P) (Hm.made P') ∧ SqT K H t [.str a, .str b] ∧ a ∈ P.kinds ∧ b ∈ P.kinds ∧ ∀ H', Same H H' → Q (.bl true) H'
theorem scRight : FnScope ["_law_table_here", "_law_other", "_law_pair", "_law_one", "_law_two", "_law_mine", "_law_theirs"] ["_law_table_here", "_law_other", "_law_pair"] (defScope sRight) := ⟨rfl, rfl, rfl, by decide +kernel, rfl, by decide +kernel, by decide +kernel⟩

theorem ok_right {f C fJ fB : Addr} {fd fdJ fdB : FuncData} (F : Fun K "_law_turned_right" "_law_turned_right" sRight f fd) (T : Tt K mg C) (FJ : Fun K "joined" "Table.joined" sJoined fJ fdJ) (bJ : Binds K fdJ ["self", "one", "other"] []) (mJ : Meth K C "joined" fJ) (GJ : FnOk P w K mg base CX0 4 fJ fdJ ["self", "one", "other"] (spJoined K C)) (FB : Fun K "bears" "Table.bears" sBears fB fdB) (bB : Binds K fdB ["self", "one", "other"] []) (mB : Meth K C "bears" fB) (GB : FnOk P w K mg base CX0 3 fB fdB ["self", "one", "other"] (spBears K C)) :
    FnOk P w K mg base CX0 5 f fd ["_law_table_here", "_law_other", "_law_pair"] (spRight K C) := by
  refine F.ok scRight (fun vs H Q E h => ?_) (fun cdv A outer s H vs Q E hr h => ?_)
  · obtain ⟨p, p', t, a, b, P, P', rfl, _⟩ := h
    rfl
  · obtain ⟨p, p', t, a, b, P, P', rfl, hp, hp', ok, ok', hN, hN', L, ht, ha, hb, q⟩ := h
    have hr3 : Room 3 _ := hr.mono (by decide)
    obtain ⟨dx, o, dp, dw, du, j, tb⟩ := id hp
    obtain ⟨dx', o', dp', dw', du', j', tb'⟩ := id hp'
    have fa : a ∈ P'.kinds := (L.mem a).mpr ha
    have fb : b ∈ P'.kinds := (L.mem b).mpr hb
    refine ⟨_, (pss_cons (ps_asg (pv 2) (pg_tup rfl (pgs_cons (pg_name (i := 3) scRight.nd rfl (Or.inl rfl)) (pgs_cons (pg_name (i := 4) scRight.nd rfl (Or.inl rfl)) pgs_nil)))) (pss_cons (ps_par (i := 5) (j := 6) rfl scRight.nd rfl rfl (by decide) rfl rfl (pa_cons (pe_meth (pv 0) T.cl mJ GJ hr bJ .nil pass0 (pa_cons (pv 3) (pa_cons (pv 4) pa_nil))) (pa_cons (pe_meth (pv 1) T.cl mJ GJ hr bJ .nil pass0 (pa_cons (pv 3) (pa_cons (pv 4) pa_nil))) pa_nil)) (by rfl)) (pss_cons (ps_if (PW.pt (pw_or (pt_cmpR op_ne (pe_meth (pv 0) T.cl mB GB hr3 bB .nil pass0 (pa_cons (pv 3) (pa_cons (pv 4) pa_nil))) (pe_meth (pv 1) T.cl mB GB hr3 bB .nil pass0 (pa_cons (pv 3) (pa_cons (pv 4) pa_nil))) (nomark _)) (pw_or1 (pt_cmpR op_ne (pe_cmpR op_isN (pv 5) pe_non (nomark _)) (pe_cmpR op_isN (pv 6) pe_non (nomark _)) (nomark _))))) (pss_one (ps_ret pe_bl)) pss_nil) (pss_one (ps_ret (pe_or (pe_cmpR op_isN (pv 5) pe_non (nomark _)) (pe_one (pe_and (pe_meth (pv 0) T.cl mB GB hr3 bB .nil pass0 (pa_cons (pv 5) (pa_cons (pv 6) pa_nil))) (pe_one (pe_meth (pv 0) T.cl mB GB hr3 bB .nil pass0 (pa_cons (pv 6) (pa_cons (pv 5) pa_nil)))))))))))), ?_⟩
    refine ⟨.ref t, rfl, t, _, rfl, ht, rfl, _, _, rfl, _, _, rfl, rfl, ?_⟩
    refine ⟨.ref p, rfl, p, dx, _, rfl, tb.ob, tf_no rfl, .str a, rfl, .str b, rfl, p, a, b, P, rfl, hp, ok, hN, ha, hb, fun H1 s1 => ?_⟩
    refine ⟨.ref p', rfl, p', dx', _, rfl, (tb'.same s1).ob, tf_no rfl, .str a, rfl, .str b, rfl, p', a, b, P', rfl, hp'.same s1, ok', hN', fa, fb, fun H2 s2 => ⟨_, _, rfl, ?_⟩⟩
    have sm := s1.trans s2
    refine ⟨.ref p, rfl, p, dx, _, rfl, (tb.same sm).ob, tf_no rfl, .str a, rfl, .str b, rfl, p, a, b, P, rfl, hp.same sm, ok, ha, hb, fun H3 s3 => ?_⟩
    have s03 := sm.trans s3
    refine ⟨.ref p', rfl, p', dx', _, rfl, (tb'.same s03).ob, tf_no rfl, .str a, rfl, .str b, rfl, p', a, b, P', rfl, hp'.same s03, ok', fa, fb, fun H4 s4 => ⟨rfl, _, rfl, ?_⟩⟩
    rw [L.bears a b, decide_eq_true rfl]
    have s04 := s03.trans s4
    refine iteF ?_
    cases e1 : Hm.joined (Hm.made P) a b with
    | none =>
      rw [L.joined_none ha hb e1]
      refine ⟨.non, rfl, rfl, .non, rfl, rfl, rfl, _, rfl, ?_⟩
      refine iteF ?_
      exact ⟨.non, rfl, rfl, true, rfl, iteT (q _ s04)⟩
    | some m =>
      cases e2 : Hm.joined (Hm.made P') a b with
      | none =>
        have := L.symm.joined_none fa fb e2
        rw [e1] at this
        cases this
      | some k =>
        obtain ⟨b1, b2⟩ := L.joined_some ha hb e1 e2
        have hm : m ∈ P.kinds := Hm.joined_mem ha hb e1
        have hk : k ∈ P.kinds := (L.mem k).mp (Hm.joined_mem fa fb e2)
        refine ⟨.str m, rfl, rfl, .str k, rfl, rfl, rfl, _, rfl, ?_⟩
        refine iteF ?_
        refine ⟨.str m, rfl, rfl, false, ?_, iteF ?_⟩
        · exact congrArg V.bl (decide_eq_false fun z => nomatch z)
        refine ⟨.ref p, rfl, p, dx, _, rfl, (tb.same s04).ob, tf_no rfl, .str m, rfl, .str k, rfl, p, m, k, P, rfl, hp.same s04, ok, hm, hk, fun H5 s5 => ⟨_, rfl, ?_⟩⟩
        rw [b1]
        have s05 := s04.trans s5
        refine iteT ⟨.ref p, rfl, p, dx, _, rfl, (tb.same s05).ob, tf_no rfl, .str k, rfl, .str m, rfl, p, k, m, P, rfl, hp.same s05, ok, hk, hm, fun H6 s6 => ?_⟩
        rw [b2]
        exact q _ (s05.trans s6)

end

end Ho
set_option Elab.async false
set_option linter.all false
set_option maxRecDepth 100000
set_option maxHeartbeats 4000000
/-! For the law. -/
namespace Ho
open PySem PySem.Spec PyProof.Rows L2

/-! ### of flaws -/
theorem flaws_ne {T : Hm.Tb Str} : ∀ q ∈ Hm.flaws T, 1 ≤ q.2.length ∧ q.2.length ≤ 3 := fun q hq => by
  unfold Hm.flaws at hq
  rcases List.mem_append.mp hq with hq | hq
  · rcases List.mem_append.mp hq with hq | hq
    · rcases List.mem_append.mp hq with hq | hq
      · rcases List.mem_append.mp hq with hq | hq
        · obtain ⟨m, hm, rfl⟩ := List.mem_map.mp hq
          exact ⟨Nat.le_refl _, (by show 1 ≤ 3; decide)⟩
        · obtain ⟨m, hm, rfl⟩ := List.mem_map.mp hq
          exact ⟨(by show 1 ≤ 2; decide), (by show 2 ≤ 3; decide)⟩
      · obtain ⟨m, hm, rfl⟩ := List.mem_map.mp hq
        exact ⟨(by show 1 ≤ 2; decide), (by show 2 ≤ 3; decide)⟩
    · obtain ⟨m, hm, rfl⟩ := List.mem_map.mp hq
      exact ⟨(by show 1 ≤ 2; decide), (by show 2 ≤ 3; decide)⟩
  · obtain ⟨a, ha, hq⟩ := List.mem_flatMap.mp hq
    obtain ⟨m, hm, rfl⟩ := List.mem_map.mp hq
    exact ⟨(by show 1 ≤ 3; decide), Nat.le_refl _⟩
theorem flaw_mem {T : Hm.Tb Str} {q : Nat × List Str} (h : Hm.flaw T = some q) : q ∈ Hm.flaws T := List.mem_of_mem_head? (Option.mem_def.mpr h)
theorem flv_non {K : PySem.W.Frag} {H : Hp} {v : V} {fl : Option (Nat × List Str)} (h : FlV K H v fl) : decide (v = V.non) = fl.isNone := by
  cases fl with
  | none => rw [show v = V.non from h]; rfl
  | some q =>
    obtain ⟨t, rfl, _⟩ := h
    exact decide_eq_false fun z => nomatch z
/-- all but instances and tables stand -/
def IT (H H' : Hp) : Prop := ∀ b o, H b = some o → (∀ C dx fs, o ≠ .ins C dx fs) → (∀ ps, o ≠ .tbl ps) → H' b = some o
theorem IT.of {H H' : Hp} (s : Same H H') : IT H H' := fun b o h _ _ => s b o h
theorem IT.trans {H H1 H2 : Hp} (a : IT H H1) (b : IT H1 H2) : IT H H2 := fun c o h n m => b c o (a c o h n m) n m
theorem EN.it {p C dx : Addr} {fs : List (Str × V)} {H H' : Hp} (e : EN p H H') (hp : H p = some (.ins C dx fs)) : IT H H' := fun b o h n m => e b o h (fun z => by
  rw [z, hp] at h
  cases h
  exact n _ _ _ rfl) m
theorem SqL.it {K : PySem.W.Frag} {H H' : Hp} {a : Addr} {xs : List V} (h : SqL K H a xs) (e : IT H H') : SqL K H' a xs :=
  h.elim (fun h => .inl (h.elim (fun h => .inl (e _ _ h (fun _ _ _ z => nomatch z) (fun _ z => nomatch z))) fun ⟨o, h⟩ => .inr ⟨o, e _ _ h (fun _ _ _ z => nomatch z) (fun _ z => nomatch z)⟩)) .inr
theorem SqT.it {K : PySem.W.Frag} {H H' : Hp} {a : Addr} {xs : List V} (h : SqT K H a xs) (e : IT H H') : SqT K H' a xs :=
  h.elim (fun h => .inl (h.elim (fun h => .inl (e _ _ h (fun _ _ _ z => nomatch z) (fun _ z => nomatch z))) fun ⟨o, h⟩ => .inr ⟨o, e _ _ h (fun _ _ _ z => nomatch z) (fun _ z => nomatch z)⟩)) .inr
theorem TPair.it {K : PySem.W.Frag} {H H' : Hp} {v : V} {q : Str × Str} (h : TPair K H v q) (e : IT H H') : TPair K H' v q := by
  obtain ⟨t, rfl, h⟩ := h
  exact ⟨t, rfl, SqT.it h e⟩
theorem FlV.it {K : PySem.W.Frag} {H H' : Hp} {v : V} {fl : Option (Nat × List Str)} (h : FlV K H v fl) (e : IT H H') : FlV K H' v fl := by
  cases fl with
  | none => exact h
  | some q =>
    obtain ⟨t, rfl, h⟩ := h
    exact ⟨t, rfl, SqT.it h e⟩
theorem TblAt.en {K : PySem.W.Frag} {C : Addr} {H H' : Hp} {p p' dx o dp dw du : Addr} {P : Hm.Pl Str} {j : V} {C' dx' : Addr} {fs : List (Str × V)} (h : TblAt K C H p dx o dp dw du P j) (e : EN p' H H') (hp : H p' = some (.ins C' dx' fs)) (ne : p ≠ p') : TblAt K C H' p dx o dp dw du P j := by
  have i := EN.it e hp
  exact ⟨e _ _ h.ob ne (fun _ z => nomatch z), ⟨SqT.it h.or_.sq i, h.or_.pl.imp (fun ⟨ob, u, e1, r⟩ => ⟨ob, u, i _ _ e1 (fun _ _ _ z => nomatch z) (fun _ z => nomatch z), r⟩) id⟩, i _ _ h.pr (fun _ _ _ z => nomatch z) (fun _ z => nomatch z), i _ _ h.wo (fun _ _ _ z => nomatch z) (fun _ z => nomatch z), i _ _ h.up (fun _ _ _ z => nomatch z) (fun _ z => nomatch z)⟩
/-! ### names for names -/
theorem names_map {ks ks' : List Str} (hn : ks.Nodup) (hn' : ks'.Nodup) (hl : ks.length = ks'.length) : ∃ f : Str → Str, (∀ z ∈ ks, Hm.look (ks.zip ks') z = some (f z)) ∧ (∀ a ∈ ks, ∀ b ∈ ks, f a = f b → a = b) ∧ ∀ z ∈ ks, f z ∈ ks' := by
  have key : ∀ z ∈ ks, ∃ i : Nat, ∃ h : i < ks.length, ks[i] = z ∧ Hm.look (ks.zip ks') z = some (ks'[i]'(hl ▸ h)) := fun z hz => by
    obtain ⟨i, hi, e⟩ := List.getElem_of_mem hz
    refine ⟨i, hi, e, ?_⟩
    rw [Hm.look_zip hn hl (by rw [← e]; exact List.getElem?_eq_getElem hi)]
    exact List.getElem?_eq_getElem _
  refine ⟨fun z => (Hm.look (ks.zip ks') z).getD Str.empty, fun z hz => ?_, fun a ha b hb e => ?_, fun z hz => ?_⟩
  · obtain ⟨i, hi, _, e⟩ := key z hz
    show Hm.look (ks.zip ks') z = some ((Hm.look (ks.zip ks') z).getD Str.empty)
    rw [e]
    rfl
  · obtain ⟨i, hi, e1, e2⟩ := key a ha
    obtain ⟨j, hj, e3, e4⟩ := key b hb
    have e : (Hm.look (ks.zip ks') a).getD Str.empty = (Hm.look (ks.zip ks') b).getD Str.empty := e
    rw [e2, e4] at e
    have e : ks'[i]'(hl ▸ hi) = ks'[j]'(hl ▸ hj) := e
    have ij : i = j := by
      rcases Nat.lt_trichotomy i j with h | h | h
      · exact absurd e (List.pairwise_iff_getElem.mp hn' i j _ _ h)
      · exact h
      · exact absurd e.symm (List.pairwise_iff_getElem.mp hn' j i _ _ h)
    subst ij
    exact e1.symm.trans e3
  · obtain ⟨i, hi, _, e⟩ := key z hz
    show (Hm.look (ks.zip ks') z).getD Str.empty ∈ ks'
    rw [e]
    exact List.getElem_mem _
theorem zip_kvT (ks ks' : List Str) : (ks.map (Sum.inr : Str → Key)).zip (ks'.map V.str) = kvT (ks.zip ks') := by
  unfold kvT
  rw [List.zip_map]
  rfl
/-! ### the twins -/
theorem fair_of {P : Hm.Pl Str} {n : Nat} (ok : Hm.PlOk P n) (h : ∀ a ∈ P.kinds, ∀ b ∈ P.kinds, Hm.bears (Hm.made P) a b = true → Hm.bears (Hm.made P) b a = true → (Hm.made P).upp a = (Hm.made P).upp b) : Hm.Fair (Hm.made P) :=
  ⟨fun a ha => Hm.made_mem ok ha, Hm.made_sym P, h⟩
def prsTo (ks : List Str) (i : Nat) : List (Str × Str) := (ks.take i).flatMap fun a => ks.map fun b => (a, b)
theorem perm_erase {α : Type} : ∀ (l : List α) (i : Nat) (h : i < l.length), (l[i] :: l.eraseIdx i).Perm l
  | _ :: _, 0, _ => List.Perm.refl _
  | a :: r, i + 1, h => (List.Perm.swap a (r[i]'(Nat.lt_of_succ_lt_succ h)) (r.eraseIdx i)).trans ((perm_erase r i (Nat.lt_of_succ_lt_succ h)).cons a)
theorem prsTo_succ {ks : List Str} {i : Nat} (h : i < ks.length) : prsTo ks (i + 1) = prsTo ks i ++ ks.map fun b => (ks[i], b) := by
  unfold prsTo
  rw [List.take_add_one, List.getElem?_eq_getElem h, List.flatMap_append]
  show _ ++ (ks.map _ ++ []) = _
  rw [List.append_nil]
theorem prsTo_mem {ks : List Str} {q : Str × Str} : q ∈ prsTo ks ks.length ↔ q.1 ∈ ks ∧ q.2 ∈ ks := by
  unfold prsTo
  rw [List.take_length]
  constructor
  · intro h
    obtain ⟨a, ha, h⟩ := List.mem_flatMap.mp h
    obtain ⟨b, hb, rfl⟩ := List.mem_map.mp h
    exact ⟨ha, hb⟩
  · rintro ⟨h1, h2⟩
    exact List.mem_flatMap.mpr ⟨q.1, h1, List.mem_map.mpr ⟨q.2, h2, rfl⟩⟩
theorem prsTo_len {ks : List Str} : ∀ {i : Nat}, i ≤ ks.length → (prsTo ks i).length = i * ks.length
  | 0, _ => by rw [Nat.zero_mul]; rfl
  | i + 1, h => by
    rw [prsTo_succ (by omega), List.length_append, List.length_map, prsTo_len (by omega), Nat.succ_mul]
theorem usual_flaw : Hm.flaw (Hm.made uPl) = none := by decide +kernel
theorem rights_k : (Hm.byRights uK allR).kinds = uPl.kinds := rfl
theorem rights_p : prsK (Hm.byRights uK allR).near = prsK uPl.near := by decide +kernel
theorem rights_w : wL (Hm.byRights uK allR) = wL uPl := by decide +kernel
theorem rights_u : uL (Hm.byRights uK allR) = uL uPl := by decide +kernel
theorem iSq_l {K : PySem.W.Frag} {H1 : Hp} {a : Addr} {xs : List V} {R : It → Hp → Prop} (Gd : Hp → Prop) (h : SqL K H1 a xs) (hk : ∀ H, Gd H → SqL K H a xs) (q : ∀ J, Walk J xs.length Gd (YAt xs) → R J H1) : SqOr K H1 a xs R :=
  .inl ⟨h, fun J w => q J (w.mono hk fun _ _ _ _ _ _ y => y)⟩

end Ho
set_option Elab.async false
set_option linter.all false
set_option maxRecDepth 100000
set_option maxHeartbeats 4000000
/-! The law. -/
namespace Ho
open PySem PySem.Spec PyProof.Rows L2

open LamX NdefX
section
variable {P : Program} {w : World} {K : PySem.W.Frag} {mg : Str → Option Value} {base : Heap}
/-! ### law -/
abbrev sLaw : Stmt := topS 39
def spLaw (K : PySem.W.Frag) (Pt : Addr) : Sp := fun vs H Q _ => ∃ (a : Addr) (cs : List Int), vs = [.ref a] ∧ SqL K H a (cs.map V.int) ∧ H Pt = some (.tbl #[]) ∧ ∀ H', Q (.bl true) H'
theorem scLaw : FnScope ["_law_script", "_law_state", "_law_plain", "_law_kinds", "_law_names_here", "_law_left", "_law_one", "_law_turned", "_law_table_here", "_law_other", "_law_third", "_law_pairs", "_law_two", "_law_flaw", "_law_twins", "_law_words", "_law_pair"] ["_law_script"] (defScope sLaw) := ⟨rfl, rfl, rfl, by decide +kernel, rfl, by decide +kernel, by decide +kernel⟩

theorem ok_law {f C Pt fQ fG fT fM fN fD fL fA fR fY fU fW fB fV fO : Addr} {fd fdQ fdG fdT fdM fdN fdD fdL fdA fdR fdY fdU fdW fdB fdV fdO : FuncData} (F : Fun K "law" "law" sLaw f fd) (B : Blt mg) (T : Tt K mg C) (FG : Fun K "_law_begin" "_law_begin" sBegin fG fdG) (bG : Binds K fdG ["_law_script"] []) (gG : mg "_law_begin" = some (.ref fG)) (GG : FnOk P w K mg base CX0 1 fG fdG ["_law_script"] (spBegin K)) (FT : Fun K "_law_table" "_law_table" sTable fT fdT) (bT : Binds K fdT ["_law_state"] []) (gT : mg "_law_table" = some (.ref fT)) (GT : FnOk P w K mg base CX0 6 fT fdT ["_law_state"] (spTable K)) (FM : Fun K "_law_names" "_law_names" sNames fM fdM) (bM : Binds K fdM ["_law_state", "_law_many"] []) (gM : mg "_law_names" = some (.ref fM)) (GM : FnOk P w K mg base CX0 5 fM fdM ["_law_state", "_law_many"] (spNames K)) (FN : Fun K "_law_next" "_law_next" sNext fN fdN) (bN : Binds K fdN ["_law_state", "_law_many"] []) (gN : mg "_law_next" = some (.ref fN)) (GN : FnOk P w K mg base CX0 2 fN fdN ["_law_state", "_law_many"] (spNext K)) (FD : Fun K "_law_made" "_law_made" sMade fD fdD) (bD : Binds K fdD ["_law_plain"] []) (gD : mg "_law_made" = some (.ref fD)) (GD : FnOk P w K mg base CX0 5 fD fdD ["_law_plain"] (spMade K C)) (FL : Fun K "_law_led" "_law_led" sLed fL fdL) (bL : Binds K fdL ["_law_plain", "_law_names_here"] []) (gL : mg "_law_led" = some (.ref fL)) (GL : FnOk P w K mg base CX0 1 fL fdL ["_law_plain", "_law_names_here"] (spLed K)) (FA : Fun K "_law_two_alike" "_law_two_alike" sAlike fA fdA) (bA : Binds K fdA ["_law_table_here", "_law_other", "_law_names_here", "_law_pair"] []) (gA : mg "_law_two_alike" = some (.ref fA)) (GA : FnOk P w K mg base CX0 5 fA fdA ["_law_table_here", "_law_other", "_law_names_here", "_law_pair"] (spAlike K C)) (FR : Fun K "_law_turned_right" "_law_turned_right" sRight fR fdR) (bR : Binds K fdR ["_law_table_here", "_law_other", "_law_pair"] []) (gR : mg "_law_turned_right" = some (.ref fR)) (GR : FnOk P w K mg base CX0 5 fR fdR ["_law_table_here", "_law_other", "_law_pair"] (spRight K C)) (FY : Fun K "_law_by_rights" "_law_by_rights" sRights fY fdY) (bY : Binds K fdY ["_law_names_here", "_law_rights"] []) (gY : mg "_law_by_rights" = some (.ref fY)) (GY : FnOk P w K mg base CX0 2 fY fdY ["_law_names_here", "_law_rights"] (spRights K)) (FU : Fun K "usual" "usual" sUsual fU fdU) (bU : Binds K fdU [] []) (gU : mg "usual" = some (.ref fU)) (GU : FnOk P w K mg base CX0 5 fU fdU [] (spUsual K C)) (FW : Fun K "flaw" "Table.flaw" sFlaw fW fdW) (bW : Binds K fdW ["self"] []) (mW : Meth K C "flaw" fW) (GW : FnOk P w K mg base CX0 7 fW fdW ["self"] (spFlaw K C [(Pt, lamQ)])) (FB : Fun K "bears" "Table.bears" sBears fB fdB) (bB : Binds K fdB ["self", "one", "other"] []) (mB : Meth K C "bears" fB) (GB : FnOk P w K mg base CX0 3 fB fdB ["self", "one", "other"] (spBears K C)) (FV : Fun K "gives" "Table.gives" sGives fV fdV) (bV : Binds K fdV ["self", "mode"] []) (mV : Meth K C "gives" fV) (GV : FnOk P w K mg base CX0 3 fV fdV ["self", "mode"] (spGives K C)) (FO : Fun K "above" "Table.above" sAbove fO fdO) (bO : Binds K fdO ["self", "mode"] []) (mO : Meth K C "above" fO) (GO : FnOk P w K mg base CX0 3 fO fdO ["self", "mode"] (spAbove K C)) (bQ : Binds K fdQ ["self", "other"] []) (hsQ : PySem.W.findIn K (.ref C) "__eq__" = some (some (.ref fQ))) (hfQ : PySem.W.isFn K (.ref fQ) = true) (GQ : FnOk P w K mg base CX0 3 fQ fdQ ["self", "other"] (spEq (Twin K C))) :
    FnOk P w K mg base CX0 8 f fd ["_law_script"] (spLaw K Pt) := by
  refine F.ok scLaw (fun vs H Q E h => ?_) (fun cdv A outer s H vs Q E hr h => ?_)
  · obtain ⟨a, cs, rfl, _⟩ := h
    rfl
  · obtain ⟨a, cs, rfl, ha, hPt, q⟩ := h
    have hr1 : Room 1 _ := hr.mono (by decide)
    have hr2 : Room 2 _ := hr.mono (by decide)
    have hr3 : Room 3 _ := hr.mono (by decide)
    have hr5 : Room 5 _ := hr.mono (by decide)
    have hr6 : Room 6 _ := hr.mono (by decide)
    refine ⟨_, (pss_cons (ps_set (i := 1) scLaw.nd rfl (Or.inr rfl) (pe_call GG hr1 (by rfl) gG FG.kp bG .nil pass0 (pa_cons (pv 0) pa_nil))) (pss_cons (ps_set (i := 2) scLaw.nd rfl (Or.inl rfl) (pe_call GT hr6 (by rfl) gT FT.kp bT .nil pass0 (pa_cons (pv 1) pa_nil))) (pss_cons (ps_set (i := 3) scLaw.nd rfl (Or.inl rfl) (pe_dget (hu_of hr) (pv 2) pe_str (fun _ _ => rfl))) (pss_cons (ps_set (i := 4) scLaw.nd rfl (Or.inr rfl) (pe_dictZip (by rfl) B.dict (by rfl) B.list (by rfl) B.zip rfl (pa_cons (pv 3) (pa_cons (pe_call GM hr5 (by rfl) gM FM.kp bM .nil pass0 (pa_cons (pv 1) (pa_cons (pe_callB (id := "len") (c_len K) (by rfl) B.len PySem.boot_len (pa_cons (pv 3) pa_nil)) pa_nil))) pa_nil)))) (pss_cons (ps_set (i := 5) scLaw.nd rfl (Or.inr rfl) (pe_callTy (T := "list") call_list_of (by rfl) B.list (by decide +kernel) (pa_cons (pv 3) pa_nil))) (pss_cons (ps_setLc (i := 7) (own := [("_law_one", 6)]) (g := gName 6) (tt := tYes) rfl scLaw.nd rfl rfl (sw_true rfl rfl rfl (by decide +kernel)) (piK K (pv 3)) (blkOk_by (own := [("_law_one", 6)]) (N := ["_law_script", "_law_state", "_law_plain", "_law_kinds", "_law_names_here", "_law_left", "_law_one", "_law_turned", "_law_table_here", "_law_other", "_law_third", "_law_pairs", "_law_two", "_law_flaw", "_law_twins", "_law_words", "_law_pair"]) (sc := defScope sLaw) (by decide +kernel)) (fun _ _ _ _ _ => (pg_name (i := 6) scLaw.nd rfl (Or.inl rfl))) (fun _ _ _ _ _ => pts_nil) (fun _ _ _ _ _ => (bmK K PySem.F.plainAttrs_list PySem.F.slot_list_pop PySem.F.type_list_pop mt_popAt (pv 5) (pa_cons (pe_call GN hr2 (by rfl) gN FN.kp bN .nil pass0 (pa_cons (pv 1) (pa_cons (pe_callB (id := "len") (c_len K) (by rfl) B.len PySem.boot_len (pa_cons (pv 5) pa_nil)) pa_nil))) pa_nil)))) (pss_cons (ps_asg (pe_tup (pa_cons (pe_call GD hr5 (by rfl) gD FD.kp bD .nil pass0 (pa_cons (pv 2) pa_nil)) (pa_cons (pe_call GD hr5 (by rfl) gD FD.kp bD .nil pass0 (pa_cons (pe_call GL hr1 (by rfl) gL FL.kp bL .nil pass0 (pa_cons (pv 2) (pa_cons (pv 4) pa_nil))) pa_nil)) pa_nil))) (pg_tup rfl (pgs_cons (pg_name (i := 8) scLaw.nd rfl (Or.inr rfl)) (pgs_cons (pg_name (i := 9) scLaw.nd rfl (Or.inl rfl)) pgs_nil)))) (pss_cons (ps_set (i := 10) scLaw.nd rfl (Or.inl rfl) (pe_call GD hr5 (by rfl) gD FD.kp bD .nil pass0 (pa_cons (pe_disp (pps_cons pe_str (pv 7) (pps_cons pe_str (pe_dget (hu_of hr) (pv 2) pe_str (fun _ _ => rfl)) (pps_cons pe_str (pe_dget (hu_of hr) (pv 2) pe_str (fun _ _ => rfl)) (pps_cons pe_str (pe_dget (hu_of hr) (pv 2) pe_str (fun _ _ => rfl)) pps_nil)))) (by rfl) (by rfl) (by simp) (by decide)) pa_nil))) (pss_cons (ps_set (i := 11) scLaw.nd rfl (Or.inl rfl) (pe_lst pa_nil)) (pss_cons (ps_for PassesOwn.never rfl (piK K (pv 3)) (pg_name (i := 6) scLaw.nd rfl (Or.inr rfl)) (pss_cons (ps_set (i := 11) scLaw.nd rfl (Or.inl rfl) (pe_op op_cat (pv 11) (pe_lc (own := [("_law_two", 12)]) (g := gName 12) (tt := tYes) rfl scLaw.nd (piK K (pv 3)) (blkOk_by (own := [("_law_two", 12)]) (N := ["_law_script", "_law_state", "_law_plain", "_law_kinds", "_law_names_here", "_law_left", "_law_one", "_law_turned", "_law_table_here", "_law_other", "_law_third", "_law_pairs", "_law_two", "_law_flaw", "_law_twins", "_law_words", "_law_pair"]) (sc := defScope sLaw) (by decide +kernel)) (fun _ _ _ _ _ => (pg_name (i := 12) scLaw.nd rfl (Or.inl rfl))) (fun _ _ _ _ _ => pts_nil) (fun _ _ _ _ _ => (pe_tup (pa_cons (pv 6) (pa_cons (pv 12) pa_nil))))))) (pss_cons (ps_if (PW.pt (pw_or (pt_cmpR op_ne (pe_meth (pv 8) T.cl mV GV hr3 bV .nil pass0 (pa_cons (pv 6) pa_nil)) (pe_meth (pv 9) T.cl mV GV hr3 bV .nil pass0 (pa_cons (pe_dget (hu_of hr) (pv 4) (pv 6) (fun _ _ => rfl)) pa_nil)) (nomark _)) (pw_or1 (pt_cmpR op_ne (pe_dget (hu_of hr) (pv 4) (pe_meth (pv 8) T.cl mO GO hr3 bO .nil pass0 (pa_cons (pv 6) pa_nil)) (fun _ _ => rfl)) (pe_meth (pv 9) T.cl mO GO hr3 bO .nil pass0 (pa_cons (pe_dget (hu_of hr) (pv 4) (pv 6) (fun _ _ => rfl)) pa_nil)) (nomark _))))) (pss_one (ps_ret pe_bl)) pss_nil) (pss_one (ps_for PassesOwn.never rfl (piK K (pv 3)) (pg_name (i := 12) scLaw.nd rfl (Or.inl rfl)) (pss_one (ps_if (PW.pt (pw_or (pt_not (pt_val (pe_call GA hr5 (by rfl) gA FA.kp bA .nil pass0 (pa_cons (pv 8) (pa_cons (pv 9) (pa_cons (pv 4) (pa_cons (pe_tup (pa_cons (pv 6) (pa_cons (pv 12) pa_nil))) pa_nil))))))) (pw_or1 (pt_not (pt_val (pe_call GR hr5 (by rfl) gR FR.kp bR .nil pass0 (pa_cons (pv 8) (pa_cons (pv 10) (pa_cons (pe_tup (pa_cons (pv 6) (pa_cons (pv 12) pa_nil))) pa_nil))))))))) (pss_one (ps_ret pe_bl)) pss_nil))))))) (pss_cons (ps_set (i := 13) scLaw.nd rfl (Or.inl rfl) (pe_meth0 (pv 8) T.cl mW GW hr bW .nil pass0)) (pss_cons (ps_if (pt_cmpR (op_neD hr.units) (pe_meth0 (pv 9) T.cl mW GW hr bW .nil pass0) (pe_ifExp (pt_cmpR op_isN (pv 13) pe_non (nomark _)) pe_non (pe_op op_catT (pe_slice sl_tup (pv 13) po_none (po_some pe_int)) (pe_callTy (T := "tuple") (c_tup K) (by rfl) B.tuple (by decide +kernel) (pa_cons (pe_lc (own := [("_law_one", 6)]) (g := gName 6) (tt := tYes) rfl scLaw.nd (piK K (pe_slice (s_tup K) (pv 13) (po_some pe_int) po_none)) (blkOk_by (own := [("_law_one", 6)]) (N := ["_law_script", "_law_state", "_law_plain", "_law_kinds", "_law_names_here", "_law_left", "_law_one", "_law_turned", "_law_table_here", "_law_other", "_law_third", "_law_pairs", "_law_two", "_law_flaw", "_law_twins", "_law_words", "_law_pair"]) (sc := defScope sLaw) (by decide +kernel)) (fun _ _ _ _ _ => (pg_name (i := 6) scLaw.nd rfl (Or.inl rfl))) (fun _ _ _ _ _ => pts_nil) (fun _ _ _ _ _ => (pe_dget (hu_of hr) (pv 4) (pv 6) (fun _ _ => rfl)))) pa_nil)))) (nomark _)) (pss_one (ps_ret pe_bl)) pss_nil) (pss_cons (ps_setLc (i := 14) (own := [("_law_one", 6), ("_law_two", 12)]) rfl scLaw.nd rfl rfl (sw_true rfl rfl rfl (by decide +kernel)) (piK K (pv 11)) (blkOk_by (own := [("_law_one", 6), ("_law_two", 12)]) (N := ["_law_script", "_law_state", "_law_plain", "_law_kinds", "_law_names_here", "_law_left", "_law_one", "_law_turned", "_law_table_here", "_law_other", "_law_third", "_law_pairs", "_law_two", "_law_flaw", "_law_twins", "_law_words", "_law_pair"]) (sc := defScope sLaw) (by decide +kernel)) (fun _ _ _ _ _ => (gtK K (n := 2) rfl (pgs_cons (pg_name (i := 6) scLaw.nd rfl (Or.inl rfl)) (pgs_cons (pg_name (i := 12) scLaw.nd rfl (Or.inl rfl)) pgs_nil)))) (fun _ _ _ _ _ => (pts_one (PW.pt (pw_and (pt_val (pe_meth (pv 8) T.cl mB GB hr3 bB .nil pass0 (pa_cons (pv 6) (pa_cons (pv 12) pa_nil)))) (pw_and1 (pt_val (pe_meth (pv 8) T.cl mB GB hr3 bB .nil pass0 (pa_cons (pv 12) (pa_cons (pv 6) pa_nil))))))))) (fun _ _ _ _ _ => (pe_tup (pa_cons (pv 6) (pa_cons (pv 12) pa_nil))))) (pss_cons (ps_if (pt_cmpR (op_eqD hr.units) (pe_lc (own := [("_law_pair", 16)]) (g := gName 16) rfl scLaw.nd (piK K (pv 14)) (blkOk_by (own := [("_law_pair", 16)]) (N := ["_law_script", "_law_state", "_law_plain", "_law_kinds", "_law_names_here", "_law_left", "_law_one", "_law_turned", "_law_table_here", "_law_other", "_law_third", "_law_pairs", "_law_two", "_law_flaw", "_law_twins", "_law_words", "_law_pair"]) (sc := defScope sLaw) (by decide +kernel)) (fun _ _ _ _ _ => (pg_name (i := 16) scLaw.nd rfl (Or.inl rfl))) (fun _ _ _ _ _ => (pts_one (pt_cmpR op_ne (pe_meth (pv 8) T.cl mO GO hr3 bO .nil pass0 (pa_cons (pe_ix (i_tup K) (pv 16) pe_int (fun _ _ => rfl)) pa_nil)) (pe_meth (pv 8) T.cl mO GO hr3 bO .nil pass0 (pa_cons (pe_ix (i_tup K) (pv 16) pe_int (fun _ _ => rfl)) pa_nil)) (nomark _)))) (fun _ _ _ _ _ => (pv 16))) (pe_lst pa_nil) (nomark _)) (pss_one (ps_if (pt_cmpR op_ne (pe_cmpR op_isN (pe_meth0 (pv 10) T.cl mW GW hr bW .nil pass0) pe_non (nomark _)) (pe_cmpR op_isN (pv 13) pe_non (nomark _)) (nomark _)) (pss_one (ps_ret pe_bl)) pss_nil)) pss_nil) (pss_cons (ps_set (i := 15) scLaw.nd rfl (Or.inl rfl) (pe_lst (pa_cons pe_str (pa_cons pe_str (pa_cons pe_str (pa_cons pe_str (pa_cons pe_str pa_nil))))))) (pss_one (ps_ret (pe_and (pe_cmpR (op_eqG (rcG_ins GQ hsQ hfQ bQ pass0) hr3) (pe_call0 GU hr5 (by rfl) gU FU.kp bU .nil pass0) (pe_call GD hr5 (by rfl) gD FD.kp bD .nil pass0 (pa_cons (pe_call GY hr2 (by rfl) gY FY.kp bY .nil pass0 (pa_cons (pv 15) (pa_cons (pe_lst (pa_cons pe_str (pa_cons pe_str (pa_cons pe_str (pa_cons pe_str (pa_cons pe_str pa_nil)))))) pa_nil))) pa_nil)) (nomark _)) (pe_one (pe_cmpR op_isN (pe_meth0 (pe_call0 GU hr5 (by rfl) gU FU.kp bU .nil pass0) T.cl mW GW hr bW .nil pass0) pe_non (nomark _))))))))))))))))))))), ?_⟩
    refine ⟨.ref a, rfl, a, cs, rfl, ha, fun H1 d l s1 nd t1 => ?_⟩
    refine ⟨.ref d, rfl, d, l, cs, rfl, t1, fun H2 p P ok hN e2 t2 D2 => ?_⟩
    obtain ⟨ka, kb, kc, ke, R2⟩ := id D2
    have few : P.kinds.length ≤ 8 := ok.few
    have hkl : (P.kinds.map V.str).length = P.kinds.length := List.length_map _
    have hPt2 : H2 Pt = some (.tbl #[]) := e2 _ _ (s1 _ _ hPt) (noSt fun _ z => nomatch z)
    refine ⟨.ref p, rfl, p, .ref ka, rfl, DGet.k (k := .inr "kinds") R2.ob, ?_⟩
    refine ⟨.ref ka, rfl, .ref d, rfl, .ref ka, rfl, ka, _, rfl, .inl R2.kinds, d, l, cs, (P.kinds.map V.str).length, rfl, t2, by omega, fun H3 k ks hl hn hm nk hk e3 t3 => ?_⟩
    refine ⟨ka, k, P.kinds.map .inr, ks.map V.str, rfl, (by rw [List.map_map]; exact SqL.es R2.kinds e3), .inl (.inl hk), (by rw [List.length_map, List.length_map]; omega), fun nD nnD => ?_⟩
    obtain ⟨f, hlk, hj, hfk⟩ := names_map ok.nd hn (show P.kinds.length = ks.length by omega)
    have enm : mergeK [] ((P.kinds.map (Sum.inr : Str → Key)).zip (ks.map V.str)) = kvT (P.kinds.zip ks) := by
      rw [zip_kvT]
      refine merge_nil ?_
      rw [List.map_fst_zip (by omega)]
      exact ok.nd
    rw [enm]
    generalize P.kinds.zip ks = nmL at hlk
    have s4 := same_new (o := .dK (kvT nmL)) nnD
    have hnm : (upd H3 nD (.dK (kvT nmL))) nD = some (.dK (kvT nmL)) := upd_same
    have D4 : PlD K (upd H3 nD (.dK (kvT nmL))) p P := (D2.es e3).same s4
    have R4 : PlAt K (upd H3 nD (.dK (kvT nmL))) p ka kb kc ke P := (R2.es e3).same s4
    have t4 := t3.same s4
    have hPt4 := s4 _ _ (e3 _ _ hPt2 (noSt fun _ z => nomatch z))
    have hfN : ∀ z ∈ P.kinds, Nm (f z) := fun z hz => hm _ (hfk z hz)
    generalize upd H3 nD (.dK (kvT nmL)) = H4 at hnm D4 R4 t4 hPt4
    clear D2 R2 s4 e3 t3 t2 e2 nnD hk hfk hm hl hn enm nk hPt2
    refine ⟨.ref ka, rfl, ka, _, rfl, .inl R4.kinds, fun lf nlf => ?_⟩
    have s5 := same_new (o := .lst (P.kinds.map V.str)) nlf
    have hlf5 : (upd H4 lf (.lst (P.kinds.map V.str))) lf = some (.lst (P.kinds.map V.str)) := upd_same
    have t5 := t4.same s5
    have e45 : ES H4 (upd H4 lf (.lst (P.kinds.map V.str))) := .of s5
    generalize upd H4 lf (.lst (P.kinds.map V.str)) = H5 at hlf5 t5 e45
    clear s5
    refine ⟨.ref ka, rfl, ka, _, rfl, iSq_l (fun H => ES H4 H) (SqL.es R4.kinds e45) (fun H e => SqL.es R4.kinds e) fun J wk D nD' => ?_⟩
    rw [List.length_map] at wk
    have fD : lf ≠ D := ne_of_none hlf5 nD'
    have sD := same_new (o := .lst []) nD'
    refine lc_s (β := Str) wk (fun j L H' => L.length = j ∧ (∃ rs : List Str, (L ++ rs).Perm P.kinds ∧ H' lf = some (.lst (rs.map V.str))) ∧ ES H4 H' ∧ St K H' d l cs) (fun j L H' xs ys _ h hD => ?_) (fun j L H' _ h => h.2.2.1) RStr steadyZ_str (fun j L H' hj h => Nat.lt_of_le_of_lt (show _ ≤ 8 by have := h.1; omega) (by decide)) ⟨rfl, ⟨P.kinds, List.Perm.refl _, sD _ _ hlf5⟩, e45.trans (.of sD), t5.same sD⟩ (fun j L x H6 H7 hj' h hD y Ny Nn hy _ => ?_) fun H6 acc L h hD hp => ?_
    · obtain ⟨g1, ⟨rs, g2, g3⟩, g4, g5⟩ := h
      have e : ES H4 (upd H' D (.lst ys)) := es_put e45 nD' g4
      exact ⟨g1, ⟨rs, g2, by rw [upd_ne fD]; exact g3⟩, e, t4.lst g5 hD e⟩
    · obtain ⟨rfl, yx⟩ := y
      obtain ⟨g1, ⟨rs, g2, g3⟩, g4, g5⟩ := h
      obtain ⟨acc, hD⟩ := hD
      have hml : (rs.map V.str).length = rs.length := List.length_map _
      have hpl := g2.length_eq
      rw [List.length_append] at hpl
      refine ⟨rfl, .ref lf, rfl, .inl ⟨rfl, _, .inl (.inl g3)⟩, .ref d, rfl, .ref lf, rfl, lf, _, rfl, .inl (.inl (.inl g3)), d, l, cs, (rs.map V.str).length, rfl, g5, by omega, by omega, fun H8 r8 hr8 e8 t8 => ?_⟩
      have hr8' : r8 < rs.length := by omega
      have h8f := e8 _ _ g3 (noSt fun _ z => nomatch z)
      have h8D := e8 _ _ hD (noSt fun _ z => nomatch z)
      have e48 := g4.trans e8
      refine ⟨lf, rs.map V.str, r8, r8, .str rs[r8], rfl, rfl, h8f, by omega, by omega, seqIndex_of (k := (r8 : Int)) (by omega) (by omega), by rw [List.getElem?_map, List.getElem?_eq_getElem hr8']; rfl, ?_⟩
      refine hy _ _ rs[r8] ?_ ((ZL.es e8).trans (.nl (NL.lst h8f))) ⟨by rw [List.length_append, g1]; rfl, ⟨rs.eraseIdx r8, ?_, ?_⟩, es_new e48 nlf, St.new t4 t8 e48 nlf⟩ rfl
      · rw [upd_ne fD.symm]
        exact h8D.trans hD.symm
      · rw [List.append_assoc]
        exact (List.Perm.append_left L (perm_erase rs r8 hr8')).trans g2
      · rw [upd_same, map_erase]
    obtain ⟨g1, ⟨rs, g2, _⟩, e46, t6⟩ := h
    rw [strs_of hp] at hD
    have hrs : rs = [] := by
      have hpl := g2.length_eq
      rw [List.length_append] at hpl
      cases rs with
      | nil => rfl
      | cons a r => rw [List.length_cons] at hpl; omega
    subst hrs
    rw [List.append_nil] at g2
    clear wk t6 t5 hp sD fD nD' hlf5 e45
    -- the tables
    have D6 := D4.es e46
    refine ⟨.ref p, rfl, p, P, rfl, D6, ok, hN, fun H7 p1 dx1 o1 dp1 dw1 du1 s7 n1 T1 => ?_⟩
    have D7 := D6.same s7
    have hnm7 := s7 _ _ (dict_es hnm e46)
    have okL : Hm.PlOk (Hm.led f P) 64 := Hm.led_ok ok hj
    have hNL : ∀ z ∈ (Hm.led f P).kinds, Nm z := fun z hz => by
      obtain ⟨z0, h0, rfl⟩ := List.mem_map.mp hz
      exact hfN z0 h0
    have LL : Hm.Led f (Hm.made P) (Hm.made (Hm.led f P)) := Hm.made_led ok hj
    have okT : Hm.PlOk { P with kinds := L } 64 := Hm.turned_ok ok g2
    have hNT : ∀ z ∈ ({ P with kinds := L } : Hm.Pl Str).kinds, Nm z := fun z hz => hN z (g2.mem_iff.mp hz)
    have LT : Hm.Turned (Hm.made P) (Hm.made { P with kinds := L }) := Hm.made_turned g2
    refine ⟨.ref p, rfl, .ref nD, rfl, p, nD, P, 64, nmL, f, rfl, D7, ok, by decide, hnm7, hlk, hj, fun H8 pp s8 D8 => ?_⟩
    refine ⟨pp, Hm.led f P, rfl, D8, okL, hNL, fun H9 p2 dx2 o2 dp2 dw2 du2 s9 n2 T2 => ?_⟩
    have s79 := s8.trans s9
    have T1b := T1.same s79
    have ne12 : p1 ≠ p2 := ne_of_none (T1.same s8).ob n2
    refine ⟨(by show 2 ≤ sizeLine; decide), fun tt ntt => ?_⟩
    have s10 := same_new (o := .tup [.ref p1, .ref p2]) ntt
    refine ⟨tt, _, rfl, .inl (.inl upd_same), rfl, _, _, rfl, _, _, rfl, rfl, ?_⟩
    have e4a : ES H4 _ := ((e46.trans (.of s7)).trans (.of s79)).trans (.of s10)
    have T1c := T1b.same s10
    have T2c := T2.same s10
    have hDa := s10 _ _ (s79 _ _ (s7 _ _ hD))
    generalize upd H9 tt (.tup [.ref p1, .ref p2]) = Ha at e4a T1c T2c hDa
    clear T1 T1b T2 s10 s79 s9 s8 D8 D7 s7 D6 ntt n1 n2
    have Ra := R4.es e4a
    intro r nr
    have s11 := same_new (o := .dK []) nr
    have Rb := Ra.same s11
    refine ⟨.ref D, rfl, .ref p, rfl, p, .ref kb, rfl, DGet.k (k := .inr "near") Rb.ob, .ref p, rfl, p, .ref kc, rfl, DGet.k (k := .inr "worth") Rb.ob, .ref p, rfl, p, .ref ke, rfl, DGet.k (k := .inr "upper") Rb.ob, upd_same, plK D kb kc ke, rfl, (by show 4 ≤ 15; decide), ?_⟩
    rw [pl_new]
    have s12 : Same Ha (upd (upd Ha r (.dK [])) r (.dK (plK D kb kc ke))) := fun b o e => by
      rw [upd_ne (ne_of_none e nr)]
      exact s11 b o e
    have Rc := Ra.same s12
    refine ⟨r, { P with kinds := L }, rfl, ⟨D, kb, kc, ke, upd_same, .inl (.inl (s12 _ _ hDa)), Rc.near, Rc.worth, Rc.upper⟩, okT, hNT, fun Hb p3 dx3 o3 dp3 dw3 du3 s13 n3 T3 => ?_⟩
    have sab := s12.trans s13
    have ne13 : p1 ≠ p3 := ne_of_none (T1c.same s12).ob n3
    have ne23 : p2 ≠ p3 := ne_of_none (T2c.same s12).ob n3
    have T1 := T1c.same sab
    have T2 := T2c.same sab
    have hk : SqL K Hb ka (P.kinds.map V.str) := sab.seq Ra.kinds
    have hnmb := sab _ _ (dict_es hnm e4a)
    have hPtb := sab _ _ (e4a _ _ hPt4 (noSt fun _ z => nomatch z))
    clear s13 s12 Rc s11 Rb nr n3 sab T1c T2c Ra hDa e4a R4 D4 t4 hPt4 hnm
    generalize ({ P with kinds := L } : Hm.Pl Str) = PT at okT hNT LT T3
    generalize Hm.led f P = PL at okL hNL LL T2
    refine ⟨Nat.zero_le _, fun pr0 npr0 => ?_⟩
    have sp := same_new (o := .lst []) npr0
    have hpr0 : (upd Hb pr0 (.lst [])) pr0 = some (.lst []) := upd_same
    replace T1 := T1.same sp
    replace T2 := T2.same sp
    replace T3 := T3.same sp
    replace hk := sp.seq hk
    replace hnmb := sp _ _ hnmb
    replace hPtb := sp _ _ hPtb
    generalize upd Hb pr0 (.lst []) = Hc at T1 T2 T3 hk hnmb hPtb hpr0
    clear sp npr0
    have fK : ∀ {z : Str}, z ∈ P.kinds → f z ∈ PL.kinds := fun {z} hz => by
      have eo : PL.kinds = P.kinds.map f := LL.ord
      rw [eo]
      exact List.mem_map.mpr ⟨z, hz, rfl⟩
    have ng : ∀ {H' : Hp} {z : Str}, H' nD = some (.dK (kvT nmL)) → z ∈ P.kinds → DGet H' nD (.str z) (some (.str (f z))) := fun {H' z} h hz => dg_rd (k := .inr z) (.inl h) (nm_val (hlk z hz))
    have B1 : ∀ {H' : Hp}, Same Hc H' → Tbl K C H' p1 P := fun s => ⟨_, _, _, _, _, _, T1.same s⟩
    have B2 : ∀ {H' : Hp}, Same Hc H' → Tbl K C H' p2 PL := fun s => ⟨_, _, _, _, _, _, T2.same s⟩
    have B3 : ∀ {H' : Hp}, Same Hc H' → Tbl K C H' p3 PT := fun s => ⟨_, _, _, _, _, _, T3.same s⟩
    refine ⟨.ref ka, rfl, ka, _, rfl, iSq_of (.inl hk) fun J G hG wk => ?_⟩
    rw [List.length_map] at wk
    refine for_it wk (fun i σ H' => (∃ pr y6 y12, σ = [some (.ref a), some (.ref d), some (.ref p), some (.ref ka), some (.ref nD), some (.ref lf), y6, some (.ref D), some (.ref p1), some (.ref p2), some (.ref p3), some (.ref pr), y12, none, none, none, none] ∧ ∃ us, H' pr = some (.lst us) ∧ Paired (TPair K H') us (prsTo P.kinds i)) ∧ Same Hc H')
      ⟨⟨pr0, none, none, rfl, [], hpr0, .nil⟩, Same.refl _⟩ (fun i σ H' _ h => hG _ h.2) (fun i x σ H1' H2' hi h y => ?_) fun σ H' h => ?_
    · obtain ⟨⟨pr, y6, y12, rfl, us, hus, hup⟩, s1'⟩ := h
      obtain ⟨rfl, yx⟩ := y
      obtain rfl := str_get (List.getElem?_eq_getElem hi) yx
      have hz : P.kinds[i] ∈ P.kinds := List.getElem_mem hi
      have epr := prsTo_succ hi
      have lpr := prsTo_len (Nat.le_of_lt hi)
      generalize P.kinds[i] = z at hz epr
      have i8 : i * P.kinds.length ≤ 8 * 8 := Nat.mul_le_mul (by omega) few
      -- pairs
      refine ⟨.ref pr, rfl, .ref ka, rfl, ka, _, rfl, iSq_of (.inl (s1'.seq hk)) fun J2 G2 hG2 wk2 D2 nD2 => ?_⟩
      rw [List.length_map] at wk2
      refine lc_f (β := Str × Str) wk2 hG2 nD2 (fun _ => true) (fun c => (z, c)) (TPair K) steady_pair (len8 few) (fun j c x H5 H6 ec s5 y Ny Nn hy _ => ?_) fun H5 acc2 s5 hD2 hp5 => ?_
      · obtain ⟨rfl, yx2⟩ := y
        obtain rfl := str_get ec yx2
        exact ⟨rfl, .str z, rfl, .str c, rfl, (by show 2 ≤ sizeLine; decide), fun k nk => hy rfl _ _ (same_new nk) ⟨k, rfl, .inl (.inl upd_same)⟩⟩
      rw [filt_all] at hp5
      have hlu := Paired.length hup
      have hla := Paired.length hp5
      rw [List.length_map] at hla
      refine ⟨pr, D2, us, acc2, rfl, rfl, s5 _ _ hus, hD2, Nat.le_trans (show _ ≤ 72 by omega) (by decide), fun pr2 npr2 => ?_⟩
      have s6 := same_new (o := .lst (us ++ acc2)) npr2
      have hL6 : (upd H5 pr2 (.lst (us ++ acc2))) pr2 = some (.lst (us ++ acc2)) := upd_same
      have hup6 : Paired (TPair K (upd H5 pr2 (.lst (us ++ acc2)))) (us ++ acc2) (prsTo P.kinds (i + 1)) := by
        rw [epr]
        exact paired_app (Paired.steady steady_pair (.of s6) hp5) (Paired.steady steady_pair (.of (s5.trans s6)) hup)
      have s06 := (s1'.trans s5).trans s6
      generalize upd H5 pr2 (.lst (us ++ acc2)) = H6 at hL6 hup6 s06
      clear s6 hp5 hD2 hup hus s5 npr2 hlu hla
      -- gives, above
      refine ⟨.ref p1, rfl, p1, dx1, _, rfl, (T1.same s06).ob, tf_no rfl, .str z, rfl, p1, z, P, rfl, B1 s06, hz, fun H7 s7 => ?_⟩
      have s07 := s06.trans s7
      refine ⟨.ref p2, rfl, p2, dx2, _, rfl, (T2.same s07).ob, tf_no rfl, .ref nD, rfl, .str z, rfl, nD, .str (f z), rfl, ng (s07 _ _ hnmb) hz, p2, f z, PL, rfl, B2 s07, fK hz, fun H8 s8 => ⟨rfl, _, rfl, ?_⟩⟩
      have s08 := s07.trans s8
      rw [LL.wor z hz, decide_eq_true rfl]
      refine iteF ?_
      refine ⟨.ref nD, rfl, .ref p1, rfl, p1, dx1, _, rfl, (T1.same s08).ob, tf_no rfl, .str z, rfl, p1, z, P, rfl, B1 s08, hz, fun H9 s9 => ?_⟩
      have s09 := s08.trans s9
      have hu : (Hm.made P).upp z ∈ P.kinds := LL.mem z hz
      refine ⟨nD, .str (f ((Hm.made P).upp z)), rfl, ng (s09 _ _ hnmb) hu, .ref p2, rfl, p2, dx2, _, rfl, (T2.same s09).ob, tf_no rfl, .ref nD, rfl, .str z, rfl, nD, .str (f z), rfl, ng (s09 _ _ hnmb) hz, p2, f z, PL, rfl, B2 s09, fK hz, fun Hx sx => ⟨rfl, _, rfl, ?_⟩⟩
      rw [LL.upp z hz, decide_eq_true rfl]
      refine iteF ?_
      have s0x := s09.trans sx
      have s6x := ((s7.trans s8).trans s9).trans sx
      have hLx := s6x _ _ hL6
      have hupx := Paired.steady steady_pair (.of s6x) hup6
      clear s06 s07 s08 s09 hL6 hup6 s6x s7 s8 s9 sx
      -- each pair
      refine ⟨.ref ka, rfl, ka, _, rfl, iSq_of (.inl (s0x.seq hk)) fun J3 G3 hG3 wk3 => ?_⟩
      rw [List.length_map] at wk3
      refine for_it wk3 (fun j σ H' => (∃ y12, σ = [some (.ref a), some (.ref d), some (.ref p), some (.ref ka), some (.ref nD), some (.ref lf), some (.str z), some (.ref D), some (.ref p1), some (.ref p2), some (.ref p3), some (.ref pr2), y12, none, none, none, none]) ∧ Same Hx H') ⟨⟨_, rfl⟩, Same.refl _⟩ (fun j σ H' _ h => hG3 _ h.2) (fun j x σ H1 H2 hj3 h y => ?_) fun σ H' h => ?_
      · obtain ⟨⟨y12, rfl⟩, sy⟩ := h
        obtain ⟨rfl, yx3⟩ := y
        obtain rfl := str_get (List.getElem?_eq_getElem hj3) yx3
        have hc : P.kinds[j] ∈ P.kinds := List.getElem_mem hj3
        generalize P.kinds[j] = c at hc
        have s1 := s0x.trans sy
        refine ⟨.ref p1, rfl, .ref p2, rfl, .ref nD, rfl, .str z, rfl, .str c, rfl, (by show 2 ≤ sizeLine; decide), fun k nk => ?_⟩
        have sk := same_new (o := .tup [.str z, .str c]) nk
        have s1k := s1.trans sk
        refine ⟨p1, p2, nD, k, z, c, P, PL, nmL, f, rfl, B1 s1k, B2 s1k, ok, okL, hN, hNL, LL, s1k _ _ hnmb, hlk, .inl (.inl upd_same), hz, hc, fun H3 s3 => ⟨true, rfl, iteF ?_⟩⟩
        refine ⟨.ref p1, rfl, .ref p3, rfl, .str z, rfl, .str c, rfl, (by show 2 ≤ sizeLine; decide), fun k2 nk2 => ?_⟩
        have sk2 := same_new (o := .tup [.str z, .str c]) nk2
        have s13 := (s1k.trans s3).trans sk2
        refine ⟨p1, p3, k2, z, c, P, PT, rfl, B1 s13, B3 s13, ok, okT, hN, hNT, LT, .inl (.inl upd_same), hz, hc, fun H4 s4 => ⟨true, rfl, iteF ?_⟩⟩
        exact ⟨⟨_, rfl⟩, (((sy.trans sk).trans s3).trans sk2).trans s4⟩
      · obtain ⟨⟨y12, rfl⟩, sy⟩ := h
        exact ⟨⟨pr2, _, _, rfl, _, sy _ _ hLx, Paired.steady steady_pair (.of sy) hupx⟩, s0x.trans sy⟩
    obtain ⟨⟨pr, y6, y12, rfl, us, hus, hup⟩, s0⟩ := h
    have T1 := T1.same s0
    have T2 := T2.same s0
    have T3 := T3.same s0
    replace hnmb := s0 _ _ hnmb
    replace hPtb := s0 _ _ hPtb
    clear B1 B2 B3 hk hpr0 wk s0
    -- flaw
    have Tb0 : Tabs [(Pt, lamQ)] H' := fun q hq => by
      rw [List.mem_singleton.mp hq]
      exact TabS.nil hPtb
    refine ⟨.ref p1, rfl, p1, dx1, _, rfl, T1.ob, tf_no rfl, p1, dx1, o1, dp1, dw1, du1, P, rfl, T1, ok, hN, Tb0, fun Hf v1 l1 en1 Tb1 T1f fv1 => ?_⟩
    have it1 := EN.it en1 T1.ob
    have T2f := T2.en en1 T1.ob ne12.symm
    have T3f := T3.en en1 T1.ob ne13.symm
    have hnf := it1 _ _ hnmb (fun _ _ _ z => nomatch z) (fun _ z => nomatch z)
    have husf := it1 _ _ hus (fun _ _ _ z => nomatch z) (fun _ z => nomatch z)
    have hupf := Paired.mapP hup fun _ _ h => TPair.it h it1
    clear T1 T2 T3 hnmb hus hup en1 it1 Tb0 hPtb
    -- the other's flaw
    refine ⟨.ref p2, rfl, p2, dx2, _, rfl, T2f.ob, tf_no rfl, p2, dx2, o2, dp2, dw2, du2, PL, rfl, T2f, okL, hNL, Tb1, fun Hg v2 l2 en2 Tb2 T2g fv2 => ?_⟩
    have it2 := EN.it en2 T2f.ob
    have T1g := T1f.en en2 T2f.ob ne12
    have T3g := T3f.en en2 T2f.ob ne23.symm
    have hng := it2 _ _ hnf (fun _ _ _ z => nomatch z) (fun _ z => nomatch z)
    have husg := it2 _ _ husf (fun _ _ _ z => nomatch z) (fun _ z => nomatch z)
    have hupg := Paired.mapP hupf fun _ _ h => TPair.it h it2
    have fv1 := fv1.it it2
    rw [LL.flaw] at fv2
    clear T1f T2f T3f hnf husf hupf en2 it2 Tb1
    refine ⟨v1, rfl, rfl, _, rfl, ?_⟩
    have hv1 := flv_non fv1
    rw [hv1]
    cases hfl : Hm.flaw (Hm.made P) with
    | none =>
      rw [hfl] at fv1 fv2 hv1
      obtain rfl : v1 = .non := fv1
      obtain rfl : v2 = .non := fv2
      refine iteT ⟨.none, .none, .non, .non, rfl, rfl, _, rfl, iteF ?_⟩
      rw [← hfl] at hv1
      have sG := Same.refl Hg
      have T1 := T1g.same sG
      have T3 := T3g.same sG
      have Tb := Tb2.ext sG
      have hus := sG _ _ husg
      have hup := Paired.steady steady_pair (.of sG) hupg
      have lpr := prsTo_len (Nat.le_refl P.kinds.length)
      have i8 : P.kinds.length * P.kinds.length ≤ 8 * 8 := Nat.mul_le_mul few few
      refine ⟨.ref pr, rfl, pr, us, rfl, iSq_of (.inl (.inl (.inl hus))) fun J G hG wk Dw nDw => ?_⟩
      rw [Paired.length hup] at wk
      refine lc_f (β := Str × Str) (xs := prsTo P.kinds P.kinds.length) wk hG nDw (fun q => Hm.bears (Hm.made P) q.1 q.2 && Hm.bears (Hm.made P) q.2 q.1) id (TPair K) steady_pair (Nat.lt_of_le_of_lt (show _ ≤ 64 by omega) (by decide)) (fun i z x H3 H4 ez s3 y Ny Nn hy hn => ?_) fun H3 accw s3 hDw hpw => ?_
      · obtain ⟨rfl, yx⟩ := y
        obtain ⟨t, rfl, ht⟩ := paired_get (Paired.steady steady_pair (.of s3) hup) yx ez
        obtain ⟨hz1, hz2⟩ := prsTo_mem.mp (List.mem_of_getElem? ez)
        have T13 := T1.same s3
        refine ⟨t, _, rfl, ht, rfl, _, _, rfl, _, _, rfl, rfl, rfl, .ref p1, rfl, p1, dx1, _, rfl, T13.ob, tf_no rfl, .str z.1, rfl, .str z.2, rfl, p1, z.1, z.2, P, rfl, ⟨_, _, _, _, _, _, T13⟩, ok, hz1, hz2, fun H5 s5 => ⟨_, rfl, ?_⟩⟩
        cases b1 : Hm.bears (Hm.made P) z.1 z.2 with
        | false => exact iteF (iteF (hn (by rw [b1]; rfl) _ s5))
        | true =>
          have T15 := T13.same s5
          refine iteT ⟨.ref p1, rfl, p1, dx1, _, rfl, T15.ob, tf_no rfl, .str z.2, rfl, .str z.1, rfl, p1, z.2, z.1, P, rfl, ⟨_, _, _, _, _, _, T15⟩, ok, hz2, hz1, fun H6 s6 => ⟨_, rfl, ?_⟩⟩
          cases b2 : Hm.bears (Hm.made P) z.2 z.1 with
          | false => exact iteF (hn (by rw [b1, b2]; rfl) _ (s5.trans s6))
          | true => exact iteT ⟨.str z.1, rfl, .str z.2, rfl, (by show 2 ≤ sizeLine; decide), fun k nk => hy (by rw [b1, b2]; rfl) _ _ ((s5.trans s6).trans (same_new nk)) ⟨k, rfl, .inl (.inl upd_same)⟩⟩
      rw [List.map_id] at hpw
      have twm : ∀ z ∈ (prsTo P.kinds P.kinds.length).filter (fun q => Hm.bears (Hm.made P) q.1 q.2 && Hm.bears (Hm.made P) q.2 q.1), z.1 ∈ P.kinds ∧ z.2 ∈ P.kinds := fun z hz => prsTo_mem.mp (List.mem_filter.mp hz).1
      have twa : ∀ a ∈ P.kinds, ∀ b ∈ P.kinds, Hm.bears (Hm.made P) a b = true → Hm.bears (Hm.made P) b a = true → (a, b) ∈ (prsTo P.kinds P.kinds.length).filter (fun q => Hm.bears (Hm.made P) q.1 q.2 && Hm.bears (Hm.made P) q.2 q.1) := fun a ha b hb e1 e2 => List.mem_filter.mpr ⟨prsTo_mem.mpr ⟨ha, hb⟩, by show (Hm.bears (Hm.made P) a b && Hm.bears (Hm.made P) b a) = true; rw [e1, e2]; rfl⟩
      have twl : ((prsTo P.kinds P.kinds.length).filter (fun q => Hm.bears (Hm.made P) q.1 q.2 && Hm.bears (Hm.made P) q.2 q.1)).length ≤ 64 := Nat.le_trans (List.length_filter_le _ _) (show _ ≤ 64 by omega)
      generalize (prsTo P.kinds P.kinds.length).filter (fun q => Hm.bears (Hm.made P) q.1 q.2 && Hm.bears (Hm.made P) q.2 q.1) = tw at hpw twm twa twl
      have T1w := T1.same s3
      refine ⟨.ref Dw, rfl, Dw, accw, rfl, iSq_of (.inl (.inl (.inl hDw))) fun J5 G5 hG5 wk5 D5 nD5 => ?_⟩
      rw [Paired.length hpw] at wk5
      refine lc_f (β := Str × Str) (xs := tw) wk5 hG5 nD5 (fun q => !decide ((Hm.made P).upp q.1 = (Hm.made P).upp q.2)) id (TPair K) steady_pair (Nat.lt_of_le_of_lt twl (by decide)) (fun i z x H5 H6 ez s5 y Ny Nn hy hn => ?_) fun H5 acc5 s5 hD5 hp5 => ?_
      · obtain ⟨rfl, yx⟩ := y
        obtain ⟨t, rfl, ht⟩ := paired_get (Paired.steady steady_pair (.of s5) hpw) yx ez
        obtain ⟨hz1, hz2⟩ := twm z (List.mem_of_getElem? ez)
        have T15 := T1w.same s5
        refine ⟨rfl, .ref p1, rfl, p1, dx1, _, rfl, T15.ob, tf_no rfl, .ref t, rfl, t, _, 0, .str z.1, rfl, rfl, ht, atI_nat (j := 0) rfl, p1, z.1, P, rfl, ⟨_, _, _, _, _, _, T15⟩, hz1, fun H7 s7 => ?_⟩
        have T17 := T15.same s7
        refine ⟨.ref p1, rfl, p1, dx1, _, rfl, T17.ob, tf_no rfl, .ref t, rfl, t, _, 1, .str z.2, rfl, rfl, SqT.same ht s7, atI_nat (j := 1) rfl, p1, z.2, P, rfl, ⟨_, _, _, _, _, _, T17⟩, hz2, fun H8 s8 => ⟨rfl, _, rfl, ?_⟩⟩
        by_cases eu : (Hm.made P).upp z.1 = (Hm.made P).upp z.2
        · rw [decide_eq_true (congrArg V.str eu)]
          exact iteF (hn (by rw [decide_eq_true eu]; rfl) _ (s7.trans s8))
        · rw [decide_eq_false fun w => eu (V.str.inj w)]
          exact iteT ⟨.ref t, rfl, hy (by rw [decide_eq_false eu]; rfl) _ _ (s7.trans s8) ⟨t, rfl, SqT.same ht (s7.trans s8)⟩⟩
      rw [List.map_id] at hp5
      have bdm : ∀ z ∈ tw.filter (fun q => !decide ((Hm.made P).upp q.1 = (Hm.made P).upp q.2)), z.1 ∈ P.kinds ∧ z.2 ∈ P.kinds := fun z hz => twm z (List.mem_filter.mp hz).1
      have bda : tw.filter (fun q => !decide ((Hm.made P).upp q.1 = (Hm.made P).upp q.2)) = [] → Hm.Fair (Hm.made P) := fun e => fair_of ok fun a ha b hb e1 e2 => by
        by_cases eu : (Hm.made P).upp a = (Hm.made P).upp b
        · exact eu
        · have hm : (a, b) ∈ tw.filter (fun q => !decide ((Hm.made P).upp q.1 = (Hm.made P).upp q.2)) := List.mem_filter.mpr ⟨twa a ha b hb e1 e2, by show (!decide _) = true; rw [decide_eq_false eu]; rfl⟩
          rw [e] at hm
          exact nomatch hm
      generalize tw.filter (fun q => !decide ((Hm.made P).upp q.1 = (Hm.made P).upp q.2)) = bd at hp5 bdm bda
      refine ⟨Nat.zero_le _, fun k0 nk0 => ?_⟩
      have s6 := same_new (o := .lst []) nk0
      refine ⟨.list (dTs (prL bd)), .list [], .lst (.inl (.inl (s6 _ _ hD5))) (dp_tups (pairs_tup (Paired.steady steady_pair (.of s6) hp5))), .lst (.inl (.inl upd_same)) .nil, sh_tups _ ?_, rfl, _, rfl, ?_⟩
      · intro z hz y hy
        obtain ⟨q0, hq0, rfl⟩ := List.mem_map.mp hz
        obtain ⟨h1, h2⟩ := bdm q0 hq0
        rcases List.mem_cons.mp hy with h | h
        · rw [h]; exact hN _ h1
        · rw [List.mem_singleton.mp h]; exact hN _ h2
      rw [eqv_nil]
      have s36 := (s3.trans s5).trans s6
      have Tb6 := Tb.ext s36
      have T36 := T3.same s36
      cases bd with
      | nil =>
        have FR := bda rfl
        refine iteT ⟨.ref p3, rfl, p3, dx3, _, rfl, T36.ob, tf_no rfl, p3, dx3, o3, dp3, dw3, du3, PT, rfl, T36, okT, hNT, Tb6, fun Hi v3 l3 en3 Tb3 T3' fv3 => ⟨rfl, _, rfl, rfl, rfl, _, rfl, ?_⟩⟩
        rw [flv_non fv3, hv1, LT.flaw FR, decide_eq_true rfl]
        refine iteF ?_
        refine ⟨(by show 5 ≤ sizeLine; decide), fun kw nkw => ?_⟩
        have skw := same_new (o := .lst (uK.map V.str)) nkw
        refine ⟨rfl, fun Hu pu dxu ou dpu dwu duu su nu Tu => ?_⟩
        refine ⟨.ref kw, rfl, (by show 5 ≤ sizeLine; decide), fun k5 nk5 => ?_⟩
        have s5 := same_new (o := .lst (allR.map rV)) nk5
        refine ⟨kw, k5, uK, allR, rfl, .inl (.inl (s5 _ _ (su _ _ upd_same))), .inl (.inl upd_same), rfl, by decide, uPl_ok.nd, uK_nm, fun Hy py sy Dy => ?_⟩
        refine ⟨py, Hm.byRights uK allR, rfl, Dy, PlOk.up (Hm.byRights_ok (by decide) (by decide) uPl_ok.nd) (by decide), uK_nm, fun Hq pm dxm om dpm dwm dum sm nm Tm => ?_⟩
        have TuE := Tu.same ((s5.trans sy).trans sm)
        refine ⟨⟨pu, pm, dxu, dxm, _, _, rfl, rfl, TuE.ob, Tm.ob, uPl, Hm.byRights uK allR, ⟨_, _, _, _, _, _, TuE⟩, ⟨_, _, _, _, _, _, Tm⟩, rights_k, rights_p, rights_w, rights_u, uK_nm, uPl_ok.nd⟩, fun Hr er => ⟨true, rfl, iteT ?_⟩⟩
        have TbR := (((((Tb3.ext skw).ext su).ext s5).ext sy).ext sm).ext er
        refine ⟨rfl, fun Hs pz dxz oz dpz dwz duz sz nz Tz => ?_⟩
        refine ⟨pz, dxz, _, rfl, Tz.ob, tf_no rfl, pz, dxz, oz, dpz, dwz, duz, uPl, rfl, Tz, PlOk.up uPl_ok (by decide), uK_nm, TbR.ext sz, fun Ht vz lz enz Tbz Tz' fvz => ⟨rfl, ?_⟩⟩
        rw [flv_non fvz, usual_flaw]
        exact q _
      | cons q0 qr =>
        refine iteF ?_
        refine ⟨(by show 5 ≤ sizeLine; decide), fun kw nkw => ?_⟩
        have skw := same_new (o := .lst (uK.map V.str)) nkw
        refine ⟨rfl, fun Hu pu dxu ou dpu dwu duu su nu Tu => ?_⟩
        refine ⟨.ref kw, rfl, (by show 5 ≤ sizeLine; decide), fun k5 nk5 => ?_⟩
        have s5 := same_new (o := .lst (allR.map rV)) nk5
        refine ⟨kw, k5, uK, allR, rfl, .inl (.inl (s5 _ _ (su _ _ upd_same))), .inl (.inl upd_same), rfl, by decide, uPl_ok.nd, uK_nm, fun Hy py sy Dy => ?_⟩
        refine ⟨py, Hm.byRights uK allR, rfl, Dy, PlOk.up (Hm.byRights_ok (by decide) (by decide) uPl_ok.nd) (by decide), uK_nm, fun Hq pm dxm om dpm dwm dum sm nm Tm => ?_⟩
        have TuE := Tu.same ((s5.trans sy).trans sm)
        refine ⟨⟨pu, pm, dxu, dxm, _, _, rfl, rfl, TuE.ob, Tm.ob, uPl, Hm.byRights uK allR, ⟨_, _, _, _, _, _, TuE⟩, ⟨_, _, _, _, _, _, Tm⟩, rights_k, rights_p, rights_w, rights_u, uK_nm, uPl_ok.nd⟩, fun Hr er => ⟨true, rfl, iteT ?_⟩⟩
        have TbR := (((((Tb6.ext skw).ext su).ext s5).ext sy).ext sm).ext er
        refine ⟨rfl, fun Hs pz dxz oz dpz dwz duz sz nz Tz => ?_⟩
        refine ⟨pz, dxz, _, rfl, Tz.ob, tf_no rfl, pz, dxz, oz, dpz, dwz, duz, uPl, rfl, Tz, PlOk.up uPl_ok (by decide), uK_nm, TbR.ext sz, fun Ht vz lz enz Tbz Tz' fvz => ⟨rfl, ?_⟩⟩
        rw [flv_non fvz, usual_flaw]
        exact q _
    | some q0 =>
      rw [hfl] at fv1 fv2 hv1
      rw [← hfl] at hv1
      obtain ⟨tA, rfl, hA⟩ := id fv1
      obtain ⟨tB, rfl, hB⟩ := id fv2
      have hq0 := flaw_mem hfl
      have nmF : ∀ z ∈ flT (Hm.ledF f q0), Nm z := fun z hz => by
        rcases List.mem_cons.mp hz with e | hz
        · rw [e]; exact fW_nm _
        · obtain ⟨z0, h0, rfl⟩ := List.mem_map.mp hz
          exact hfN _ (flaws_in ok q0 hq0 z0 h0)
      obtain ⟨ql1, ql3⟩ := flaws_ne q0 hq0
      have hqk : ∀ z ∈ q0.2, z ∈ P.kinds := flaws_in ok q0 hq0
      have hAl : ((flT q0).map V.str).length = 1 + q0.2.length := by
        rw [List.length_map]
        show q0.2.length + 1 = _
        omega
      refine iteF ⟨.ref tA, rfl, 1, rfl, tA, _, rfl, hA, ?_, fun k1 nk1 => ?_⟩
      · intro h
        have h2 := h.2
        rw [show ∀ n, HT.sIx n n (some 1) = min 1 n from fun n => HT.sIx_nat n n 1] at h2
        omega
      rw [cut_one]
      have sk1 := same_new (o := .tup (((flT q0).map V.str).take 1)) nk1
      have hk1 : (upd Hg k1 (.tup (((flT q0).map V.str).take 1))) k1 = some (.tup [.str (Ho.fW q0.1)]) := upd_same
      generalize upd Hg k1 (.tup (((flT q0).map V.str).take 1)) = Hh at sk1 hk1
      refine ⟨.ref tA, rfl, 1, rfl, tA, _, rfl, SqT.same hA sk1, ?_, fun k2 nk2 => ?_⟩
      · intro h
        have h2 := h.1
        rw [show ∀ n, HT.sIx n 0 (some 1) = min 1 n from fun n => HT.sIx_nat n 0 1] at h2
        omega
      have e2 : cutV ((flT q0).map V.str) (some 1) none = q0.2.map V.str := cut_from ((flT q0).map V.str) 1
      rw [e2]
      have sk2 := same_new (o := .tup (q0.2.map V.str)) nk2
      refine ⟨k2, _, rfl, iSq_of (.inr (.inl (.inl upd_same))) fun J G hG wk Dq nDq => ?_⟩
      rw [List.length_map] at wk
      refine lc_f (β := Str) wk hG nDq (fun _ => true) f RStr steady_str (len8 (by omega)) (fun i z x H5 H6 ez s5 y Ny Nn hy _ => ?_) fun H5 accq s5 hDq hpq => ?_
      · obtain ⟨rfl, yx⟩ := y
        obtain rfl := str_get ez yx
        exact ⟨rfl, .ref nD, rfl, .str z, rfl, nD, .str (f z), rfl, ng (s5 _ _ (sk2 _ _ (sk1 _ _ hng))) (hqk z (List.mem_of_getElem? ez)), hy rfl _ _ (Same.refl _) rfl⟩
      rw [strs_of hpq, filt_all] at hDq
      refine ⟨Dq, _, rfl, .inl ⟨.inl (.inl hDq), fun lq oq nlq _ _ => ?_⟩⟩
      have sq := same_new (o := .frz oq (.tup ((q0.2.map f).map V.str))) nlq
      have s15 := (sk2.trans s5).trans sq
      have hml : ((q0.2.map f).map V.str).length = q0.2.length := by rw [List.length_map, List.length_map]
      refine ⟨k1, lq, _, _, rfl, rfl, .inl (.inl (s15 _ _ hk1)), .inl (.inr ⟨oq, upd_same⟩), (fun w => nomatch w), ?_, fun w => ?_, fun _ kz nkz => ?_⟩
      · exact Nat.le_trans (show 1 + ((q0.2.map f).map V.str).length ≤ 4 by omega) (by decide)
      · have := congrArg List.length w
        rw [hml] at this
        have : q0.2.length = 0 := this
        omega
      have sz := same_new (o := .tup ([.str (Ho.fW q0.1)] ++ (q0.2.map f).map V.str)) nkz
      have sG : Same Hg _ := (sk1.trans s15).trans sz
      refine ⟨.tuple (dS (flT (Hm.ledF f q0))), .tuple (dS (flT (Hm.ledF f q0))), .tup (SqT.same hB sG) (dp_strs _), .tup (.inl (.inl upd_same)) (dp_strs (flT (Hm.ledF f q0))), sh_tup _ ?_, sh_tup _ ?_, _, rfl, ?_⟩
      · exact nmF
      · exact nmF
      rw [eqv_tup, decide_eq_true rfl]
      refine iteF ?_
      have T1 := T1g.same sG
      have T3 := T3g.same sG
      have Tb := Tb2.ext sG
      have hus := sG _ _ husg
      have hup := Paired.steady steady_pair (.of sG) hupg
      have lpr := prsTo_len (Nat.le_refl P.kinds.length)
      have i8 : P.kinds.length * P.kinds.length ≤ 8 * 8 := Nat.mul_le_mul few few
      refine ⟨.ref pr, rfl, pr, us, rfl, iSq_of (.inl (.inl (.inl hus))) fun J G hG wk Dw nDw => ?_⟩
      rw [Paired.length hup] at wk
      refine lc_f (β := Str × Str) (xs := prsTo P.kinds P.kinds.length) wk hG nDw (fun q => Hm.bears (Hm.made P) q.1 q.2 && Hm.bears (Hm.made P) q.2 q.1) id (TPair K) steady_pair (Nat.lt_of_le_of_lt (show _ ≤ 64 by omega) (by decide)) (fun i z x H3 H4 ez s3 y Ny Nn hy hn => ?_) fun H3 accw s3 hDw hpw => ?_
      · obtain ⟨rfl, yx⟩ := y
        obtain ⟨t, rfl, ht⟩ := paired_get (Paired.steady steady_pair (.of s3) hup) yx ez
        obtain ⟨hz1, hz2⟩ := prsTo_mem.mp (List.mem_of_getElem? ez)
        have T13 := T1.same s3
        refine ⟨t, _, rfl, ht, rfl, _, _, rfl, _, _, rfl, rfl, rfl, .ref p1, rfl, p1, dx1, _, rfl, T13.ob, tf_no rfl, .str z.1, rfl, .str z.2, rfl, p1, z.1, z.2, P, rfl, ⟨_, _, _, _, _, _, T13⟩, ok, hz1, hz2, fun H5 s5 => ⟨_, rfl, ?_⟩⟩
        cases b1 : Hm.bears (Hm.made P) z.1 z.2 with
        | false => exact iteF (iteF (hn (by rw [b1]; rfl) _ s5))
        | true =>
          have T15 := T13.same s5
          refine iteT ⟨.ref p1, rfl, p1, dx1, _, rfl, T15.ob, tf_no rfl, .str z.2, rfl, .str z.1, rfl, p1, z.2, z.1, P, rfl, ⟨_, _, _, _, _, _, T15⟩, ok, hz2, hz1, fun H6 s6 => ⟨_, rfl, ?_⟩⟩
          cases b2 : Hm.bears (Hm.made P) z.2 z.1 with
          | false => exact iteF (hn (by rw [b1, b2]; rfl) _ (s5.trans s6))
          | true => exact iteT ⟨.str z.1, rfl, .str z.2, rfl, (by show 2 ≤ sizeLine; decide), fun k nk => hy (by rw [b1, b2]; rfl) _ _ ((s5.trans s6).trans (same_new nk)) ⟨k, rfl, .inl (.inl upd_same)⟩⟩
      rw [List.map_id] at hpw
      have twm : ∀ z ∈ (prsTo P.kinds P.kinds.length).filter (fun q => Hm.bears (Hm.made P) q.1 q.2 && Hm.bears (Hm.made P) q.2 q.1), z.1 ∈ P.kinds ∧ z.2 ∈ P.kinds := fun z hz => prsTo_mem.mp (List.mem_filter.mp hz).1
      have twa : ∀ a ∈ P.kinds, ∀ b ∈ P.kinds, Hm.bears (Hm.made P) a b = true → Hm.bears (Hm.made P) b a = true → (a, b) ∈ (prsTo P.kinds P.kinds.length).filter (fun q => Hm.bears (Hm.made P) q.1 q.2 && Hm.bears (Hm.made P) q.2 q.1) := fun a ha b hb e1 e2 => List.mem_filter.mpr ⟨prsTo_mem.mpr ⟨ha, hb⟩, by show (Hm.bears (Hm.made P) a b && Hm.bears (Hm.made P) b a) = true; rw [e1, e2]; rfl⟩
      have twl : ((prsTo P.kinds P.kinds.length).filter (fun q => Hm.bears (Hm.made P) q.1 q.2 && Hm.bears (Hm.made P) q.2 q.1)).length ≤ 64 := Nat.le_trans (List.length_filter_le _ _) (show _ ≤ 64 by omega)
      generalize (prsTo P.kinds P.kinds.length).filter (fun q => Hm.bears (Hm.made P) q.1 q.2 && Hm.bears (Hm.made P) q.2 q.1) = tw at hpw twm twa twl
      have T1w := T1.same s3
      refine ⟨.ref Dw, rfl, Dw, accw, rfl, iSq_of (.inl (.inl (.inl hDw))) fun J5 G5 hG5 wk5 D5 nD5 => ?_⟩
      rw [Paired.length hpw] at wk5
      refine lc_f (β := Str × Str) (xs := tw) wk5 hG5 nD5 (fun q => !decide ((Hm.made P).upp q.1 = (Hm.made P).upp q.2)) id (TPair K) steady_pair (Nat.lt_of_le_of_lt twl (by decide)) (fun i z x H5 H6 ez s5 y Ny Nn hy hn => ?_) fun H5 acc5 s5 hD5 hp5 => ?_
      · obtain ⟨rfl, yx⟩ := y
        obtain ⟨t, rfl, ht⟩ := paired_get (Paired.steady steady_pair (.of s5) hpw) yx ez
        obtain ⟨hz1, hz2⟩ := twm z (List.mem_of_getElem? ez)
        have T15 := T1w.same s5
        refine ⟨rfl, .ref p1, rfl, p1, dx1, _, rfl, T15.ob, tf_no rfl, .ref t, rfl, t, _, 0, .str z.1, rfl, rfl, ht, atI_nat (j := 0) rfl, p1, z.1, P, rfl, ⟨_, _, _, _, _, _, T15⟩, hz1, fun H7 s7 => ?_⟩
        have T17 := T15.same s7
        refine ⟨.ref p1, rfl, p1, dx1, _, rfl, T17.ob, tf_no rfl, .ref t, rfl, t, _, 1, .str z.2, rfl, rfl, SqT.same ht s7, atI_nat (j := 1) rfl, p1, z.2, P, rfl, ⟨_, _, _, _, _, _, T17⟩, hz2, fun H8 s8 => ⟨rfl, _, rfl, ?_⟩⟩
        by_cases eu : (Hm.made P).upp z.1 = (Hm.made P).upp z.2
        · rw [decide_eq_true (congrArg V.str eu)]
          exact iteF (hn (by rw [decide_eq_true eu]; rfl) _ (s7.trans s8))
        · rw [decide_eq_false fun w => eu (V.str.inj w)]
          exact iteT ⟨.ref t, rfl, hy (by rw [decide_eq_false eu]; rfl) _ _ (s7.trans s8) ⟨t, rfl, SqT.same ht (s7.trans s8)⟩⟩
      rw [List.map_id] at hp5
      have bdm : ∀ z ∈ tw.filter (fun q => !decide ((Hm.made P).upp q.1 = (Hm.made P).upp q.2)), z.1 ∈ P.kinds ∧ z.2 ∈ P.kinds := fun z hz => twm z (List.mem_filter.mp hz).1
      have bda : tw.filter (fun q => !decide ((Hm.made P).upp q.1 = (Hm.made P).upp q.2)) = [] → Hm.Fair (Hm.made P) := fun e => fair_of ok fun a ha b hb e1 e2 => by
        by_cases eu : (Hm.made P).upp a = (Hm.made P).upp b
        · exact eu
        · have hm : (a, b) ∈ tw.filter (fun q => !decide ((Hm.made P).upp q.1 = (Hm.made P).upp q.2)) := List.mem_filter.mpr ⟨twa a ha b hb e1 e2, by show (!decide _) = true; rw [decide_eq_false eu]; rfl⟩
          rw [e] at hm
          exact nomatch hm
      generalize tw.filter (fun q => !decide ((Hm.made P).upp q.1 = (Hm.made P).upp q.2)) = bd at hp5 bdm bda
      refine ⟨Nat.zero_le _, fun k0 nk0 => ?_⟩
      have s6 := same_new (o := .lst []) nk0
      refine ⟨.list (dTs (prL bd)), .list [], .lst (.inl (.inl (s6 _ _ hD5))) (dp_tups (pairs_tup (Paired.steady steady_pair (.of s6) hp5))), .lst (.inl (.inl upd_same)) .nil, sh_tups _ ?_, rfl, _, rfl, ?_⟩
      · intro z hz y hy
        obtain ⟨q0, hq0, rfl⟩ := List.mem_map.mp hz
        obtain ⟨h1, h2⟩ := bdm q0 hq0
        rcases List.mem_cons.mp hy with h | h
        · rw [h]; exact hN _ h1
        · rw [List.mem_singleton.mp h]; exact hN _ h2
      rw [eqv_nil]
      have s36 := (s3.trans s5).trans s6
      have Tb6 := Tb.ext s36
      have T36 := T3.same s36
      cases bd with
      | nil =>
        have FR := bda rfl
        refine iteT ⟨.ref p3, rfl, p3, dx3, _, rfl, T36.ob, tf_no rfl, p3, dx3, o3, dp3, dw3, du3, PT, rfl, T36, okT, hNT, Tb6, fun Hi v3 l3 en3 Tb3 T3' fv3 => ⟨rfl, _, rfl, rfl, rfl, _, rfl, ?_⟩⟩
        rw [flv_non fv3, hv1, LT.flaw FR, decide_eq_true rfl]
        refine iteF ?_
        refine ⟨(by show 5 ≤ sizeLine; decide), fun kw nkw => ?_⟩
        have skw := same_new (o := .lst (uK.map V.str)) nkw
        refine ⟨rfl, fun Hu pu dxu ou dpu dwu duu su nu Tu => ?_⟩
        refine ⟨.ref kw, rfl, (by show 5 ≤ sizeLine; decide), fun k5 nk5 => ?_⟩
        have s5 := same_new (o := .lst (allR.map rV)) nk5
        refine ⟨kw, k5, uK, allR, rfl, .inl (.inl (s5 _ _ (su _ _ upd_same))), .inl (.inl upd_same), rfl, by decide, uPl_ok.nd, uK_nm, fun Hy py sy Dy => ?_⟩
        refine ⟨py, Hm.byRights uK allR, rfl, Dy, PlOk.up (Hm.byRights_ok (by decide) (by decide) uPl_ok.nd) (by decide), uK_nm, fun Hq pm dxm om dpm dwm dum sm nm Tm => ?_⟩
        have TuE := Tu.same ((s5.trans sy).trans sm)
        refine ⟨⟨pu, pm, dxu, dxm, _, _, rfl, rfl, TuE.ob, Tm.ob, uPl, Hm.byRights uK allR, ⟨_, _, _, _, _, _, TuE⟩, ⟨_, _, _, _, _, _, Tm⟩, rights_k, rights_p, rights_w, rights_u, uK_nm, uPl_ok.nd⟩, fun Hr er => ⟨true, rfl, iteT ?_⟩⟩
        have TbR := (((((Tb3.ext skw).ext su).ext s5).ext sy).ext sm).ext er
        refine ⟨rfl, fun Hs pz dxz oz dpz dwz duz sz nz Tz => ?_⟩
        refine ⟨pz, dxz, _, rfl, Tz.ob, tf_no rfl, pz, dxz, oz, dpz, dwz, duz, uPl, rfl, Tz, PlOk.up uPl_ok (by decide), uK_nm, TbR.ext sz, fun Ht vz lz enz Tbz Tz' fvz => ⟨rfl, ?_⟩⟩
        rw [flv_non fvz, usual_flaw]
        exact q _
      | cons q0 qr =>
        refine iteF ?_
        refine ⟨(by show 5 ≤ sizeLine; decide), fun kw nkw => ?_⟩
        have skw := same_new (o := .lst (uK.map V.str)) nkw
        refine ⟨rfl, fun Hu pu dxu ou dpu dwu duu su nu Tu => ?_⟩
        refine ⟨.ref kw, rfl, (by show 5 ≤ sizeLine; decide), fun k5 nk5 => ?_⟩
        have s5 := same_new (o := .lst (allR.map rV)) nk5
        refine ⟨kw, k5, uK, allR, rfl, .inl (.inl (s5 _ _ (su _ _ upd_same))), .inl (.inl upd_same), rfl, by decide, uPl_ok.nd, uK_nm, fun Hy py sy Dy => ?_⟩
        refine ⟨py, Hm.byRights uK allR, rfl, Dy, PlOk.up (Hm.byRights_ok (by decide) (by decide) uPl_ok.nd) (by decide), uK_nm, fun Hq pm dxm om dpm dwm dum sm nm Tm => ?_⟩
        have TuE := Tu.same ((s5.trans sy).trans sm)
        refine ⟨⟨pu, pm, dxu, dxm, _, _, rfl, rfl, TuE.ob, Tm.ob, uPl, Hm.byRights uK allR, ⟨_, _, _, _, _, _, TuE⟩, ⟨_, _, _, _, _, _, Tm⟩, rights_k, rights_p, rights_w, rights_u, uK_nm, uPl_ok.nd⟩, fun Hr er => ⟨true, rfl, iteT ?_⟩⟩
        have TbR := (((((Tb6.ext skw).ext su).ext s5).ext sy).ext sm).ext er
        refine ⟨rfl, fun Hs pz dxz oz dpz dwz duz sz nz Tz => ?_⟩
        refine ⟨pz, dxz, _, rfl, Tz.ob, tf_no rfl, pz, dxz, oz, dpz, dwz, duz, uPl, rfl, Tz, PlOk.up uPl_ok (by decide), uK_nm, TbR.ext sz, fun Ht vz lz enz Tbz Tz' fvz => ⟨rfl, ?_⟩⟩
        rw [flv_non fvz, usual_flaw]
        exact q _

end

end Ho
set_option Elab.async false
set_option linter.all false
set_option maxRecDepth 100000
set_option maxHeartbeats 4000000
/-! All that the walk asks of the top. -/
namespace Ho
open PySem PySem.Spec PyProof.Rows L2
open LamX NdefX
theorem all_mk {l : PySem.W.OpenLaw} {w : World} {K : PySem.W.Frag} {h : Heap} {mg : Str → Option Value}
    {C Pt cF fa fRow fName fMode fModes fPairs fDict fUsual fBegin fMore fNext fPick fWord fNames fSide fRights fSpoilt fAny fTable fMade fLed fAlike fRight fLaw fInit fNeed fBeside fGives fAbove fBears fJoined fQuarrel fOver fFlaws fFlaw fEq aW aM aB pB0 pB1 pB2 pB3 pB4 pB5 aG pG0 pG1 pG2 aA pA0 pA1 pA2 : Addr} {odRow anRow odName anName odMode anMode odModes anModes odPairs anPairs odDict anDict odUsual anUsual odBegin anBegin odMore anMore odNext anNext odPick anPick odWord anWord odNames anNames odSide anSide odRights anRights odSpoilt anSpoilt odAny anAny odTable anTable odMade anMade odLed anLed odAlike anAlike odRight anRight odLaw anLaw odInit anInit odNeed anNeed odBeside anBeside odGives anGives odAbove anAbove odBears anBears odJoined anJoined odQuarrel anQuarrel odOver anOver odFlaws anFlaws odFlaw anFlaw odEq anEq : Option Addr} {slRow slName slMode slModes slPairs slDict slUsual slBegin slMore slNext slPick slWord slNames slSide slRights slSpoilt slAny slTable slMade slLed slAlike slRight slLaw slInit slNeed slBeside slGives slAbove slBears slJoined slQuarrel slOver slFlaws slFlaw slEq sW sM sB spB0 spB1 spB2 spB3 spB4 spB5 sG spG0 spG1 spG2 sA spA0 spA1 spA2 : Array (Option Value)} {ocRow kVRow dcRow pmRow ctRow cdRow ocName kVName dcName pmName ctName cdName ocMode kVMode dcMode pmMode ctMode cdMode ocModes kVModes dcModes pmModes ctModes cdModes ocPairs kVPairs dcPairs pmPairs ctPairs cdPairs ocDict kVDict dcDict pmDict ctDict cdDict ocUsual kVUsual dcUsual pmUsual ctUsual cdUsual ocBegin kVBegin dcBegin pmBegin ctBegin cdBegin ocMore kVMore dcMore pmMore ctMore cdMore ocNext kVNext dcNext pmNext ctNext cdNext ocPick kVPick dcPick pmPick ctPick cdPick ocWord kVWord dcWord pmWord ctWord cdWord ocNames kVNames dcNames pmNames ctNames cdNames ocSide kVSide dcSide pmSide ctSide cdSide ocRights kVRights dcRights pmRights ctRights cdRights ocSpoilt kVSpoilt dcSpoilt pmSpoilt ctSpoilt cdSpoilt ocAny kVAny dcAny pmAny ctAny cdAny ocTable kVTable dcTable pmTable ctTable cdTable ocMade kVMade dcMade pmMade ctMade cdMade ocLed kVLed dcLed pmLed ctLed cdLed ocAlike kVAlike dcAlike pmAlike ctAlike cdAlike ocRight kVRight dcRight pmRight ctRight cdRight ocLaw kVLaw dcLaw pmLaw ctLaw cdLaw ocInit kVInit dcInit pmInit ctInit cdInit ocNeed kVNeed dcNeed pmNeed ctNeed cdNeed ocBeside kVBeside dcBeside pmBeside ctBeside cdBeside ocGives kVGives dcGives pmGives ctGives cdGives ocAbove kVAbove dcAbove pmAbove ctAbove cdAbove ocBears kVBears dcBears pmBears ctBears cdBears ocJoined kVJoined dcJoined pmJoined ctJoined cdJoined ocQuarrel kVQuarrel dcQuarrel pmQuarrel ctQuarrel cdQuarrel ocOver kVOver dcOver pmOver ctOver cdOver ocFlaws kVFlaws dcFlaws pmFlaws ctFlaws ocFlaw kVFlaw dcFlaw pmFlaw ctFlaw cdFlaw ocEq kVEq dcEq pmEq ctEq cdEq : Value} {tL tLo tMM tMP tW0 tW1 tW2 tM0 tM1 tM2 tM3 tM4 tpB0 upB0 tpB1 upB1 tpB2 upB2 tpB3 upB3 tpB4 upB4 tpB5 upB5 tpG0 upG0 tpG1 upG1 tpG2 upG2 tpA0 upA0 tpA1 upA1 tpA2 upA2 : Tok} {nW' nM nB npB0 npB1 npB2 npB3 npB4 npB5 nG npG0 npG1 npG2 nA npA0 npA1 npA2 : Nat}
    (X : K.In h) (G : h.Ns mainGlobals mg) (hfa : mg "law" = some (.ref fa)) (hT : ∀ P ∈ [Pt], h.get? P = some (PySem.W.tabObj #[]))
    (aC : PySem.W.nsIn K mainGlobals "Table" = some (some (.ref C)))
    (aRow : PySem.W.nsIn K mainGlobals "is_row" = some (some (.ref fRow)))
    (lRow : K.lookup fRow = some ⟨ocRow, odRow, .func (PySem.W.fnOf "is_row" "is_row" (defArgs sRow) (defBody sRow) (defScope sRow) .none kVRow dcRow pmRow anRow cdRow ctRow), slRow⟩)
    (cRow : PySem.W.codeIn K cdRow "is_row" = true)
    (kRow : PySem.W.keepIn K (.ref fRow) = true)
    (aName : PySem.W.nsIn K mainGlobals "is_name" = some (some (.ref fName)))
    (lName : K.lookup fName = some ⟨ocName, odName, .func (PySem.W.fnOf "is_name" "is_name" (defArgs sName) (defBody sName) (defScope sName) .none kVName dcName pmName anName cdName ctName), slName⟩)
    (cName : PySem.W.codeIn K cdName "is_name" = true)
    (kName : PySem.W.keepIn K (.ref fName) = true)
    (aMode : PySem.W.nsIn K mainGlobals "is_mode" = some (some (.ref fMode)))
    (lMode : K.lookup fMode = some ⟨ocMode, odMode, .func (PySem.W.fnOf "is_mode" "is_mode" (defArgs sMode) (defBody sMode) (defScope sMode) .none kVMode dcMode pmMode anMode cdMode ctMode), slMode⟩)
    (cMode : PySem.W.codeIn K cdMode "is_mode" = true)
    (kMode : PySem.W.keepIn K (.ref fMode) = true)
    (aModes : PySem.W.nsIn K mainGlobals "are_modes" = some (some (.ref fModes)))
    (lModes : K.lookup fModes = some ⟨ocModes, odModes, .func (PySem.W.fnOf "are_modes" "are_modes" (defArgs sModes) (defBody sModes) (defScope sModes) .none kVModes dcModes pmModes anModes cdModes ctModes), slModes⟩)
    (cModes : PySem.W.codeIn K cdModes "are_modes" = true)
    (kModes : PySem.W.keepIn K (.ref fModes) = true)
    (aPairs : PySem.W.nsIn K mainGlobals "are_pairs" = some (some (.ref fPairs)))
    (lPairs : K.lookup fPairs = some ⟨ocPairs, odPairs, .func (PySem.W.fnOf "are_pairs" "are_pairs" (defArgs sPairs) (defBody sPairs) (defScope sPairs) .none kVPairs dcPairs pmPairs anPairs cdPairs ctPairs), slPairs⟩)
    (cPairs : PySem.W.codeIn K cdPairs "are_pairs" = true)
    (kPairs : PySem.W.keepIn K (.ref fPairs) = true)
    (aDict : PySem.W.nsIn K mainGlobals "is_dict" = some (some (.ref fDict)))
    (lDict : K.lookup fDict = some ⟨ocDict, odDict, .func (PySem.W.fnOf "is_dict" "is_dict" (defArgs sDict) (defBody sDict) (defScope sDict) .none kVDict dcDict pmDict anDict cdDict ctDict), slDict⟩)
    (cDict : PySem.W.codeIn K cdDict "is_dict" = true)
    (kDict : PySem.W.keepIn K (.ref fDict) = true)
    (aUsual : PySem.W.nsIn K mainGlobals "usual" = some (some (.ref fUsual)))
    (lUsual : K.lookup fUsual = some ⟨ocUsual, odUsual, .func (PySem.W.fnOf "usual" "usual" (defArgs sUsual) (defBody sUsual) (defScope sUsual) .none kVUsual dcUsual pmUsual anUsual cdUsual ctUsual), slUsual⟩)
    (cUsual : PySem.W.codeIn K cdUsual "usual" = true)
    (kUsual : PySem.W.keepIn K (.ref fUsual) = true)
    (aBegin : PySem.W.nsIn K mainGlobals "_law_begin" = some (some (.ref fBegin)))
    (lBegin : K.lookup fBegin = some ⟨ocBegin, odBegin, .func (PySem.W.fnOf "_law_begin" "_law_begin" (defArgs sBegin) (defBody sBegin) (defScope sBegin) .none kVBegin dcBegin pmBegin anBegin cdBegin ctBegin), slBegin⟩)
    (cBegin : PySem.W.codeIn K cdBegin "_law_begin" = true)
    (kBegin : PySem.W.keepIn K (.ref fBegin) = true)
    (aMore : PySem.W.nsIn K mainGlobals "_law_more" = some (some (.ref fMore)))
    (lMore : K.lookup fMore = some ⟨ocMore, odMore, .func (PySem.W.fnOf "_law_more" "_law_more" (defArgs sMore) (defBody sMore) (defScope sMore) .none kVMore dcMore pmMore anMore cdMore ctMore), slMore⟩)
    (cMore : PySem.W.codeIn K cdMore "_law_more" = true)
    (kMore : PySem.W.keepIn K (.ref fMore) = true)
    (aNext : PySem.W.nsIn K mainGlobals "_law_next" = some (some (.ref fNext)))
    (lNext : K.lookup fNext = some ⟨ocNext, odNext, .func (PySem.W.fnOf "_law_next" "_law_next" (defArgs sNext) (defBody sNext) (defScope sNext) .none kVNext dcNext pmNext anNext cdNext ctNext), slNext⟩)
    (cNext : PySem.W.codeIn K cdNext "_law_next" = true)
    (kNext : PySem.W.keepIn K (.ref fNext) = true)
    (aPick : PySem.W.nsIn K mainGlobals "_law_pick" = some (some (.ref fPick)))
    (lPick : K.lookup fPick = some ⟨ocPick, odPick, .func (PySem.W.fnOf "_law_pick" "_law_pick" (defArgs sPick) (defBody sPick) (defScope sPick) .none kVPick dcPick pmPick anPick cdPick ctPick), slPick⟩)
    (cPick : PySem.W.codeIn K cdPick "_law_pick" = true)
    (kPick : PySem.W.keepIn K (.ref fPick) = true)
    (aWord : PySem.W.nsIn K mainGlobals "_law_word" = some (some (.ref fWord)))
    (lWord : K.lookup fWord = some ⟨ocWord, odWord, .func (PySem.W.fnOf "_law_word" "_law_word" (defArgs sWord) (defBody sWord) (defScope sWord) .none kVWord dcWord pmWord anWord cdWord ctWord), slWord⟩)
    (cWord : PySem.W.codeIn K cdWord "_law_word" = true)
    (kWord : PySem.W.keepIn K (.ref fWord) = true)
    (aNames : PySem.W.nsIn K mainGlobals "_law_names" = some (some (.ref fNames)))
    (lNames : K.lookup fNames = some ⟨ocNames, odNames, .func (PySem.W.fnOf "_law_names" "_law_names" (defArgs sNames) (defBody sNames) (defScope sNames) .none kVNames dcNames pmNames anNames cdNames ctNames), slNames⟩)
    (cNames : PySem.W.codeIn K cdNames "_law_names" = true)
    (kNames : PySem.W.keepIn K (.ref fNames) = true)
    (aSide : PySem.W.nsIn K mainGlobals "_law_side" = some (some (.ref fSide)))
    (lSide : K.lookup fSide = some ⟨ocSide, odSide, .func (PySem.W.fnOf "_law_side" "_law_side" (defArgs sSide) (defBody sSide) (defScope sSide) .none kVSide dcSide pmSide anSide cdSide ctSide), slSide⟩)
    (cSide : PySem.W.codeIn K cdSide "_law_side" = true)
    (kSide : PySem.W.keepIn K (.ref fSide) = true)
    (aRights : PySem.W.nsIn K mainGlobals "_law_by_rights" = some (some (.ref fRights)))
    (lRights : K.lookup fRights = some ⟨ocRights, odRights, .func (PySem.W.fnOf "_law_by_rights" "_law_by_rights" (defArgs sRights) (defBody sRights) (defScope sRights) .none kVRights dcRights pmRights anRights cdRights ctRights), slRights⟩)
    (cRights : PySem.W.codeIn K cdRights "_law_by_rights" = true)
    (kRights : PySem.W.keepIn K (.ref fRights) = true)
    (aSpoilt : PySem.W.nsIn K mainGlobals "_law_spoilt" = some (some (.ref fSpoilt)))
    (lSpoilt : K.lookup fSpoilt = some ⟨ocSpoilt, odSpoilt, .func (PySem.W.fnOf "_law_spoilt" "_law_spoilt" (defArgs sSpoilt) (defBody sSpoilt) (defScope sSpoilt) .none kVSpoilt dcSpoilt pmSpoilt anSpoilt cdSpoilt ctSpoilt), slSpoilt⟩)
    (cSpoilt : PySem.W.codeIn K cdSpoilt "_law_spoilt" = true)
    (kSpoilt : PySem.W.keepIn K (.ref fSpoilt) = true)
    (aAny : PySem.W.nsIn K mainGlobals "_law_any" = some (some (.ref fAny)))
    (lAny : K.lookup fAny = some ⟨ocAny, odAny, .func (PySem.W.fnOf "_law_any" "_law_any" (defArgs sAny) (defBody sAny) (defScope sAny) .none kVAny dcAny pmAny anAny cdAny ctAny), slAny⟩)
    (cAny : PySem.W.codeIn K cdAny "_law_any" = true)
    (kAny : PySem.W.keepIn K (.ref fAny) = true)
    (aTable : PySem.W.nsIn K mainGlobals "_law_table" = some (some (.ref fTable)))
    (lTable : K.lookup fTable = some ⟨ocTable, odTable, .func (PySem.W.fnOf "_law_table" "_law_table" (defArgs sTable) (defBody sTable) (defScope sTable) .none kVTable dcTable pmTable anTable cdTable ctTable), slTable⟩)
    (cTable : PySem.W.codeIn K cdTable "_law_table" = true)
    (kTable : PySem.W.keepIn K (.ref fTable) = true)
    (aMade : PySem.W.nsIn K mainGlobals "_law_made" = some (some (.ref fMade)))
    (lMade : K.lookup fMade = some ⟨ocMade, odMade, .func (PySem.W.fnOf "_law_made" "_law_made" (defArgs sMade) (defBody sMade) (defScope sMade) .none kVMade dcMade pmMade anMade cdMade ctMade), slMade⟩)
    (cMade : PySem.W.codeIn K cdMade "_law_made" = true)
    (kMade : PySem.W.keepIn K (.ref fMade) = true)
    (aLed : PySem.W.nsIn K mainGlobals "_law_led" = some (some (.ref fLed)))
    (lLed : K.lookup fLed = some ⟨ocLed, odLed, .func (PySem.W.fnOf "_law_led" "_law_led" (defArgs sLed) (defBody sLed) (defScope sLed) .none kVLed dcLed pmLed anLed cdLed ctLed), slLed⟩)
    (cLed : PySem.W.codeIn K cdLed "_law_led" = true)
    (kLed : PySem.W.keepIn K (.ref fLed) = true)
    (aAlike : PySem.W.nsIn K mainGlobals "_law_two_alike" = some (some (.ref fAlike)))
    (lAlike : K.lookup fAlike = some ⟨ocAlike, odAlike, .func (PySem.W.fnOf "_law_two_alike" "_law_two_alike" (defArgs sAlike) (defBody sAlike) (defScope sAlike) .none kVAlike dcAlike pmAlike anAlike cdAlike ctAlike), slAlike⟩)
    (cAlike : PySem.W.codeIn K cdAlike "_law_two_alike" = true)
    (kAlike : PySem.W.keepIn K (.ref fAlike) = true)
    (aRight : PySem.W.nsIn K mainGlobals "_law_turned_right" = some (some (.ref fRight)))
    (lRight : K.lookup fRight = some ⟨ocRight, odRight, .func (PySem.W.fnOf "_law_turned_right" "_law_turned_right" (defArgs sRight) (defBody sRight) (defScope sRight) .none kVRight dcRight pmRight anRight cdRight ctRight), slRight⟩)
    (cRight : PySem.W.codeIn K cdRight "_law_turned_right" = true)
    (kRight : PySem.W.keepIn K (.ref fRight) = true)
    (aLaw : PySem.W.nsIn K mainGlobals "law" = some (some (.ref fLaw)))
    (lLaw : K.lookup fLaw = some ⟨ocLaw, odLaw, .func (PySem.W.fnOf "law" "law" (defArgs sLaw) (defBody sLaw) (defScope sLaw) .none kVLaw dcLaw pmLaw anLaw cdLaw ctLaw), slLaw⟩)
    (cLaw : PySem.W.codeIn K cdLaw "law" = true)
    (kLaw : PySem.W.keepIn K (.ref fLaw) = true)
    (aInit : PySem.W.findIn K (.ref C) "__init__" = some (some (.ref fInit)))
    (iInit : PySem.W.isFn K (.ref fInit) = true)
    (lInit : K.lookup fInit = some ⟨ocInit, odInit, .func (PySem.W.fnOf "__init__" "Table.__init__" (defArgs sInit) (defBody sInit) (defScope sInit) .none kVInit dcInit pmInit anInit cdInit ctInit), slInit⟩)
    (cInit : PySem.W.codeIn K cdInit "Table.__init__" = true)
    (kInit : PySem.W.keepIn K (.ref fInit) = true)
    (aNeed : PySem.W.findIn K (.ref C) "need" = some (some (.ref fNeed)))
    (iNeed : PySem.W.isFn K (.ref fNeed) = true)
    (lNeed : K.lookup fNeed = some ⟨ocNeed, odNeed, .func (PySem.W.fnOf "need" "Table.need" (defArgs sNeed) (defBody sNeed) (defScope sNeed) .none kVNeed dcNeed pmNeed anNeed cdNeed ctNeed), slNeed⟩)
    (cNeed : PySem.W.codeIn K cdNeed "Table.need" = true)
    (kNeed : PySem.W.keepIn K (.ref fNeed) = true)
    (aBeside : PySem.W.findIn K (.ref C) "beside" = some (some (.ref fBeside)))
    (iBeside : PySem.W.isFn K (.ref fBeside) = true)
    (lBeside : K.lookup fBeside = some ⟨ocBeside, odBeside, .func (PySem.W.fnOf "beside" "Table.beside" (defArgs sBeside) (defBody sBeside) (defScope sBeside) .none kVBeside dcBeside pmBeside anBeside cdBeside ctBeside), slBeside⟩)
    (cBeside : PySem.W.codeIn K cdBeside "Table.beside" = true)
    (kBeside : PySem.W.keepIn K (.ref fBeside) = true)
    (aGives : PySem.W.findIn K (.ref C) "gives" = some (some (.ref fGives)))
    (iGives : PySem.W.isFn K (.ref fGives) = true)
    (lGives : K.lookup fGives = some ⟨ocGives, odGives, .func (PySem.W.fnOf "gives" "Table.gives" (defArgs sGives) (defBody sGives) (defScope sGives) .none kVGives dcGives pmGives anGives cdGives ctGives), slGives⟩)
    (cGives : PySem.W.codeIn K cdGives "Table.gives" = true)
    (kGives : PySem.W.keepIn K (.ref fGives) = true)
    (aAbove : PySem.W.findIn K (.ref C) "above" = some (some (.ref fAbove)))
    (iAbove : PySem.W.isFn K (.ref fAbove) = true)
    (lAbove : K.lookup fAbove = some ⟨ocAbove, odAbove, .func (PySem.W.fnOf "above" "Table.above" (defArgs sAbove) (defBody sAbove) (defScope sAbove) .none kVAbove dcAbove pmAbove anAbove cdAbove ctAbove), slAbove⟩)
    (cAbove : PySem.W.codeIn K cdAbove "Table.above" = true)
    (kAbove : PySem.W.keepIn K (.ref fAbove) = true)
    (aBears : PySem.W.findIn K (.ref C) "bears" = some (some (.ref fBears)))
    (iBears : PySem.W.isFn K (.ref fBears) = true)
    (lBears : K.lookup fBears = some ⟨ocBears, odBears, .func (PySem.W.fnOf "bears" "Table.bears" (defArgs sBears) (defBody sBears) (defScope sBears) .none kVBears dcBears pmBears anBears cdBears ctBears), slBears⟩)
    (cBears : PySem.W.codeIn K cdBears "Table.bears" = true)
    (kBears : PySem.W.keepIn K (.ref fBears) = true)
    (aJoined : PySem.W.findIn K (.ref C) "joined" = some (some (.ref fJoined)))
    (iJoined : PySem.W.isFn K (.ref fJoined) = true)
    (lJoined : K.lookup fJoined = some ⟨ocJoined, odJoined, .func (PySem.W.fnOf "joined" "Table.joined" (defArgs sJoined) (defBody sJoined) (defScope sJoined) .none kVJoined dcJoined pmJoined anJoined cdJoined ctJoined), slJoined⟩)
    (cJoined : PySem.W.codeIn K cdJoined "Table.joined" = true)
    (kJoined : PySem.W.keepIn K (.ref fJoined) = true)
    (aQuarrel : PySem.W.findIn K (.ref C) "quarrel" = some (some (.ref fQuarrel)))
    (iQuarrel : PySem.W.isFn K (.ref fQuarrel) = true)
    (lQuarrel : K.lookup fQuarrel = some ⟨ocQuarrel, odQuarrel, .func (PySem.W.fnOf "quarrel" "Table.quarrel" (defArgs sQuarrel) (defBody sQuarrel) (defScope sQuarrel) .none kVQuarrel dcQuarrel pmQuarrel anQuarrel cdQuarrel ctQuarrel), slQuarrel⟩)
    (cQuarrel : PySem.W.codeIn K cdQuarrel "Table.quarrel" = true)
    (kQuarrel : PySem.W.keepIn K (.ref fQuarrel) = true)
    (aOver : PySem.W.findIn K (.ref C) "is_over" = some (some (.ref fOver)))
    (iOver : PySem.W.isFn K (.ref fOver) = true)
    (lOver : K.lookup fOver = some ⟨ocOver, odOver, .func (PySem.W.fnOf "is_over" "Table.is_over" (defArgs sOver) (defBody sOver) (defScope sOver) .none kVOver dcOver pmOver anOver cdOver ctOver), slOver⟩)
    (cOver : PySem.W.codeIn K cdOver "Table.is_over" = true)
    (kOver : PySem.W.keepIn K (.ref fOver) = true)
    (aFlaws : PySem.W.findIn K (.ref C) "flaws" = some (some (.ref fFlaws)))
    (iFlaws : PySem.W.isFn K (.ref fFlaws) = true)
    (lFlaws : K.lookup fFlaws = some ⟨ocFlaws, odFlaws, .func (PySem.W.fnOf "flaws" "Table.flaws" (defArgs sFlaws) (defBody sFlaws) (defScope sFlaws) .none kVFlaws dcFlaws pmFlaws anFlaws (.ref cF) ctFlaws), slFlaws⟩)
    (cFlaws : PySem.W.codeIn K (.ref cF) "Table.flaws" = true)
    (kFlaws : PySem.W.keepIn K (.ref fFlaws) = true)
    (aFlaw : PySem.W.findIn K (.ref C) "flaw" = some (some (.ref fFlaw)))
    (iFlaw : PySem.W.isFn K (.ref fFlaw) = true)
    (lFlaw : K.lookup fFlaw = some ⟨ocFlaw, odFlaw, .func (PySem.W.fnOf "flaw" "Table.flaw" (defArgs sFlaw) (defBody sFlaw) (defScope sFlaw) .none kVFlaw dcFlaw pmFlaw anFlaw cdFlaw ctFlaw), slFlaw⟩)
    (cFlaw : PySem.W.codeIn K cdFlaw "Table.flaw" = true)
    (kFlaw : PySem.W.keepIn K (.ref fFlaw) = true)
    (aEq : PySem.W.findIn K (.ref C) "__eq__" = some (some (.ref fEq)))
    (iEq : PySem.W.isFn K (.ref fEq) = true)
    (lEq : K.lookup fEq = some ⟨ocEq, odEq, .func (PySem.W.fnOf "__eq__" "Table.__eq__" (defArgs sEq) (defBody sEq) (defScope sEq) .none kVEq dcEq pmEq anEq cdEq ctEq), slEq⟩)
    (cEq : PySem.W.codeIn K cdEq "Table.__eq__" = true)
    (kEq : PySem.W.keepIn K (.ref fEq) = true)
    (pg : PySem.W.plainGet K C Str.empty = true)
    (hd : PySem.W.hasDictIn K C = true)
    (po : PySem.W.plainOver K C = true)
    (sa : PySem.W.findIn K (.ref C) "__setattr__" = some (some (.builtin "object.__setattr__")))
    (mk : PySem.W.makesIn K C = true)
    (kc : PySem.W.keepIn K (.ref C) = true)
    (nO : PySem.W.findIn K (.ref C) "order" = some none)
    (nP : PySem.W.findIn K (.ref C) "pairs" = some none)
    (nW : PySem.W.findIn K (.ref C) "worth" = some none)
    (nU : PySem.W.findIn K (.ref C) "upper" = some none)
    (nJ : PySem.W.findIn K (.ref C) "judged" = some none)
    (ha : PySem.W.findIn K (.ref C) "__class__" = some (some (.builtin "object.__class__")))
    (hn : PySem.W.specialIn K (.builtin "object.__class__") "__get__" = some (some (.builtin "getset_descriptor.__get__")))
    (htk : PySem.W.takesIn K (.builtin "object.__class__") = some true)
    (hm : PySem.W.mroIn K C (.type "object") = some true)
    (zlen : PySem.W.nsIn K mainGlobals "len" = some none)
    (zall : PySem.W.nsIn K mainGlobals "all" = some none)
    (zset : PySem.W.nsIn K mainGlobals "set" = some none)
    (zisi : PySem.W.nsIn K mainGlobals "isinstance" = some none)
    (zstr : PySem.W.nsIn K mainGlobals "str" = some none)
    (zlist : PySem.W.nsIn K mainGlobals "list" = some none)
    (ztuple : PySem.W.nsIn K mainGlobals "tuple" = some none)
    (zdict : PySem.W.nsIn K mainGlobals "dict" = some none)
    (zrange : PySem.W.nsIn K mainGlobals "range" = some none)
    (zzip : PySem.W.nsIn K mainGlobals "zip" = some none)
    (zenum : PySem.W.nsIn K mainGlobals "enumerate" = some none)
    (zsorted : PySem.W.nsIn K mainGlobals "sorted" = some none)
    (zint : PySem.W.nsIn K mainGlobals "int" = some none)
    (vL : PySem.W.nsIn K mainGlobals "LETTERS" = some (some (.str letters tL)))
    (vLo : PySem.W.nsIn K mainGlobals "LONGEST" = some (some (.int 8 tLo)))
    (vMM : PySem.W.nsIn K mainGlobals "MOST_MODES" = some (some (.int 8 tMM)))
    (vMP : PySem.W.nsIn K mainGlobals "MOST_PAIRS" = some (some (.int 64 tMP)))
    (vW : PySem.W.nsIn K mainGlobals "WORTHS" = some (some (.ref aW)))
    (qW : K.lookup aW = some ⟨.type "tuple", none, .seq #[.str "" tW0, .str "see" tW1, .str "change" tW2] nW', sW⟩)
    (vM : PySem.W.nsIn K mainGlobals "USUAL_MODES" = some (some (.ref aM)))
    (qM : K.lookup aM = some ⟨.type "tuple", none, .seq #[.str "look" tM0, .str "work" tM1, .str "see" tM2, .str "seework" tM3, .str "change" tM4] nM, sM⟩)
    (vB : PySem.W.nsIn K mainGlobals "USUAL_BESIDE" = some (some (.ref aB)))
    (qB : K.lookup aB = some ⟨.type "tuple", none, .seq #[.ref pB0, .ref pB1, .ref pB2, .ref pB3, .ref pB4, .ref pB5] nB, sB⟩)
    (qpB0 : K.lookup pB0 = some ⟨.type "tuple", none, .seq #[.str "look" tpB0, .str "look" upB0] npB0, spB0⟩)
    (qpB1 : K.lookup pB1 = some ⟨.type "tuple", none, .seq #[.str "look" tpB1, .str "work" upB1] npB1, spB1⟩)
    (qpB2 : K.lookup pB2 = some ⟨.type "tuple", none, .seq #[.str "look" tpB2, .str "see" upB2] npB2, spB2⟩)
    (qpB3 : K.lookup pB3 = some ⟨.type "tuple", none, .seq #[.str "look" tpB3, .str "seework" upB3] npB3, spB3⟩)
    (qpB4 : K.lookup pB4 = some ⟨.type "tuple", none, .seq #[.str "work" tpB4, .str "work" upB4] npB4, spB4⟩)
    (qpB5 : K.lookup pB5 = some ⟨.type "tuple", none, .seq #[.str "see" tpB5, .str "see" upB5] npB5, spB5⟩)
    (vG : PySem.W.nsIn K mainGlobals "USUAL_GIVES" = some (some (.ref aG)))
    (qG : K.lookup aG = some ⟨.type "tuple", none, .seq #[.ref pG0, .ref pG1, .ref pG2] nG, sG⟩)
    (qpG0 : K.lookup pG0 = some ⟨.type "tuple", none, .seq #[.str "see" tpG0, .str "see" upG0] npG0, spG0⟩)
    (qpG1 : K.lookup pG1 = some ⟨.type "tuple", none, .seq #[.str "seework" tpG1, .str "see" upG1] npG1, spG1⟩)
    (qpG2 : K.lookup pG2 = some ⟨.type "tuple", none, .seq #[.str "change" tpG2, .str "change" upG2] npG2, spG2⟩)
    (vA : PySem.W.nsIn K mainGlobals "USUAL_ABOVE" = some (some (.ref aA)))
    (qA : K.lookup aA = some ⟨.type "tuple", none, .seq #[.ref pA0, .ref pA1, .ref pA2] nA, sA⟩)
    (qpA0 : K.lookup pA0 = some ⟨.type "tuple", none, .seq #[.str "see" tpA0, .str "look" upA0] npA0, spA0⟩)
    (qpA1 : K.lookup pA1 = some ⟨.type "tuple", none, .seq #[.str "seework" tpA1, .str "work" upA1] npA1, spA1⟩)
    (qpA2 : K.lookup pA2 = some ⟨.type "tuple", none, .seq #[.str "change" tpA2, .str "work" upA2] npA2, spA2⟩)
    (hC : PySem.W.codeHdIn K cF Pt = true)
    (hL : K.lookup Pt = none) :
    LamX.LawAtS l w K CX0 8 63 "_law_script" mg fa h := by
  have e := hfa.symm.trans (PySem.W.mg_of X G aLaw)
  cases e
  have T : Tt K mg C := ⟨⟨pg, hd, po, sa⟩, nO, nP, nW, nU, nJ, PySem.W.mg_of X G aC⟩
  have TI : TtI K C := ⟨ha, hn, htk, hm⟩
  have B : Blt mg := ⟨PySem.W.mg_none_of X G zlen, PySem.W.mg_none_of X G zall, PySem.W.mg_none_of X G zset, PySem.W.mg_none_of X G zisi, PySem.W.mg_none_of X G zstr, PySem.W.mg_none_of X G zlist, PySem.W.mg_none_of X G ztuple, PySem.W.mg_none_of X G zdict, PySem.W.mg_none_of X G zrange, PySem.W.mg_none_of X G zzip, PySem.W.mg_none_of X G zenum, PySem.W.mg_none_of X G zsorted, PySem.W.mg_none_of X G zint⟩
  have Wd : Wds mg := ⟨⟨_, PySem.W.mg_of X G vL⟩, ⟨_, PySem.W.mg_of X G vLo⟩⟩
  have Li : Lim mg := ⟨⟨_, PySem.W.mg_of X G vMM⟩, ⟨_, PySem.W.mg_of X G vMP⟩⟩
  have Wo : Wor K mg aW := ⟨PySem.W.mg_of X G vW, _, tW0, tW1, tW2, nW', qW, rfl, rfl, rfl⟩
  have Us : Usl K mg aM aB aG aA := ⟨PySem.W.mg_of X G vM, PySem.W.mg_of X G vB, PySem.W.mg_of X G vG, PySem.W.mg_of X G vA, ⟨_, tM0, tM1, tM2, tM3, tM4, nM, qM, rfl, rfl, rfl⟩, ⟨[pB0, pB1, pB2, pB3, pB4, pB5], _, nB, qB, rfl, rfl, rfl, .cons ⟨_, tpB0, upB0, npB0, qpB0, rfl, rfl, rfl⟩ (.cons ⟨_, tpB1, upB1, npB1, qpB1, rfl, rfl, rfl⟩ (.cons ⟨_, tpB2, upB2, npB2, qpB2, rfl, rfl, rfl⟩ (.cons ⟨_, tpB3, upB3, npB3, qpB3, rfl, rfl, rfl⟩ (.cons ⟨_, tpB4, upB4, npB4, qpB4, rfl, rfl, rfl⟩ (.cons ⟨_, tpB5, upB5, npB5, qpB5, rfl, rfl, rfl⟩ .nil)))))⟩, ⟨[pG0, pG1, pG2], _, nG, qG, rfl, rfl, rfl, .cons ⟨_, tpG0, upG0, npG0, qpG0, rfl, rfl, rfl⟩ (.cons ⟨_, tpG1, upG1, npG1, qpG1, rfl, rfl, rfl⟩ (.cons ⟨_, tpG2, upG2, npG2, qpG2, rfl, rfl, rfl⟩ .nil))⟩, ⟨[pA0, pA1, pA2], _, nA, qA, rfl, rfl, rfl, .cons ⟨_, tpA0, upA0, npA0, qpA0, rfl, rfl, rfl⟩ (.cons ⟨_, tpA1, upA1, npA1, qpA1, rfl, rfl, rfl⟩ (.cons ⟨_, tpA2, upA2, npA2, qpA2, rfl, rfl, rfl⟩ .nil))⟩⟩
  have FRow := fun_mk (st := sRow) lRow cRow kRow
  have gRow := PySem.W.mg_of X G aRow
  have FName := fun_mk (st := sName) lName cName kName
  have gName := PySem.W.mg_of X G aName
  have FMode := fun_mk (st := sMode) lMode cMode kMode
  have gMode := PySem.W.mg_of X G aMode
  have FModes := fun_mk (st := sModes) lModes cModes kModes
  have gModes := PySem.W.mg_of X G aModes
  have FPairs := fun_mk (st := sPairs) lPairs cPairs kPairs
  have gPairs := PySem.W.mg_of X G aPairs
  have FDict := fun_mk (st := sDict) lDict cDict kDict
  have gDict := PySem.W.mg_of X G aDict
  have FUsual := fun_mk (st := sUsual) lUsual cUsual kUsual
  have gUsual := PySem.W.mg_of X G aUsual
  have FBegin := fun_mk (st := sBegin) lBegin cBegin kBegin
  have gBegin := PySem.W.mg_of X G aBegin
  have FMore := fun_mk (st := sMore) lMore cMore kMore
  have gMore := PySem.W.mg_of X G aMore
  have FNext := fun_mk (st := sNext) lNext cNext kNext
  have gNext := PySem.W.mg_of X G aNext
  have FPick := fun_mk (st := sPick) lPick cPick kPick
  have gPick := PySem.W.mg_of X G aPick
  have FWord := fun_mk (st := sWord) lWord cWord kWord
  have gWord := PySem.W.mg_of X G aWord
  have FNames := fun_mk (st := sNames) lNames cNames kNames
  have gNames := PySem.W.mg_of X G aNames
  have FSide := fun_mk (st := sSide) lSide cSide kSide
  have gSide := PySem.W.mg_of X G aSide
  have FRights := fun_mk (st := sRights) lRights cRights kRights
  have gRights := PySem.W.mg_of X G aRights
  have FSpoilt := fun_mk (st := sSpoilt) lSpoilt cSpoilt kSpoilt
  have gSpoilt := PySem.W.mg_of X G aSpoilt
  have FAny := fun_mk (st := sAny) lAny cAny kAny
  have gAny := PySem.W.mg_of X G aAny
  have FTable := fun_mk (st := sTable) lTable cTable kTable
  have gTable := PySem.W.mg_of X G aTable
  have FMade := fun_mk (st := sMade) lMade cMade kMade
  have gMade := PySem.W.mg_of X G aMade
  have FLed := fun_mk (st := sLed) lLed cLed kLed
  have gLed := PySem.W.mg_of X G aLed
  have FAlike := fun_mk (st := sAlike) lAlike cAlike kAlike
  have gAlike := PySem.W.mg_of X G aAlike
  have FRight := fun_mk (st := sRight) lRight cRight kRight
  have gRight := PySem.W.mg_of X G aRight
  have FLaw := fun_mk (st := sLaw) lLaw cLaw kLaw
  have gLaw := PySem.W.mg_of X G aLaw
  have FInit := fun_mk (st := sInit) lInit cInit kInit
  have mInit : Meth K C "__init__" fInit := ⟨aInit, iInit, kInit⟩
  have FNeed := fun_mk (st := sNeed) lNeed cNeed kNeed
  have mNeed : Meth K C "need" fNeed := ⟨aNeed, iNeed, kNeed⟩
  have FBeside := fun_mk (st := sBeside) lBeside cBeside kBeside
  have mBeside : Meth K C "beside" fBeside := ⟨aBeside, iBeside, kBeside⟩
  have FGives := fun_mk (st := sGives) lGives cGives kGives
  have mGives : Meth K C "gives" fGives := ⟨aGives, iGives, kGives⟩
  have FAbove := fun_mk (st := sAbove) lAbove cAbove kAbove
  have mAbove : Meth K C "above" fAbove := ⟨aAbove, iAbove, kAbove⟩
  have FBears := fun_mk (st := sBears) lBears cBears kBears
  have mBears : Meth K C "bears" fBears := ⟨aBears, iBears, kBears⟩
  have FJoined := fun_mk (st := sJoined) lJoined cJoined kJoined
  have mJoined : Meth K C "joined" fJoined := ⟨aJoined, iJoined, kJoined⟩
  have FQuarrel := fun_mk (st := sQuarrel) lQuarrel cQuarrel kQuarrel
  have mQuarrel : Meth K C "quarrel" fQuarrel := ⟨aQuarrel, iQuarrel, kQuarrel⟩
  have FOver := fun_mk (st := sOver) lOver cOver kOver
  have mOver : Meth K C "is_over" fOver := ⟨aOver, iOver, kOver⟩
  have FFlaws := fun_mk (st := sFlaws) lFlaws cFlaws kFlaws
  have mFlaws : Meth K C "flaws" fFlaws := ⟨aFlaws, iFlaws, kFlaws⟩
  have FFlaw := fun_mk (st := sFlaw) lFlaw cFlaw kFlaw
  have mFlaw : Meth K C "flaw" fFlaw := ⟨aFlaw, iFlaw, kFlaw⟩
  have FEq := fun_mk (st := sEq) lEq cEq kEq
  have mEq : Meth K C "__eq__" fEq := ⟨aEq, iEq, kEq⟩
  have bRow := FRow.binds (ps := ["thing"]) fun _ _ _ _ _ _ us hl => match us, hl with | [_], _ => rfl
  have bName := FName.binds (ps := ["thing"]) fun _ _ _ _ _ _ us hl => match us, hl with | [_], _ => rfl
  have bMode := FMode.binds (ps := ["thing", "modes"]) fun _ _ _ _ _ _ us hl => match us, hl with | [_, _], _ => rfl
  have bModes := FModes.binds (ps := ["thing"]) fun _ _ _ _ _ _ us hl => match us, hl with | [_], _ => rfl
  have bPairs := FPairs.binds (ps := ["thing", "modes"]) fun _ _ _ _ _ _ us hl => match us, hl with | [_, _], _ => rfl
  have bDict := FDict.binds (ps := ["thing", "modes", "goals"]) fun _ _ _ _ _ _ us hl => match us, hl with | [_, _, _], _ => rfl
  have bUsual := FUsual.binds (ps := []) fun _ _ _ _ _ _ us hl => match us, hl with | [], _ => rfl
  have bBegin := FBegin.binds (ps := ["_law_script"]) fun _ _ _ _ _ _ us hl => match us, hl with | [_], _ => rfl
  have bMore := FMore.binds (ps := ["_law_state"]) fun _ _ _ _ _ _ us hl => match us, hl with | [_], _ => rfl
  have bNext := FNext.binds (ps := ["_law_state", "_law_many"]) fun _ _ _ _ _ _ us hl => match us, hl with | [_, _], _ => rfl
  have bPick := FPick.binds (ps := ["_law_state", "_law_some"]) fun _ _ _ _ _ _ us hl => match us, hl with | [_, _], _ => rfl
  have bWord := FWord.binds (ps := ["_law_state"]) fun _ _ _ _ _ _ us hl => match us, hl with | [_], _ => rfl
  have bNames := FNames.binds (ps := ["_law_state", "_law_many"]) fun _ _ _ _ _ _ us hl => match us, hl with | [_, _], _ => rfl
  have bSide := FSide.binds (ps := ["_law_one", "_law_other"]) fun _ _ _ _ _ _ us hl => match us, hl with | [_, _], _ => rfl
  have bRights := FRights.binds (ps := ["_law_names_here", "_law_rights"]) fun _ _ _ _ _ _ us hl => match us, hl with | [_, _], _ => rfl
  have bSpoilt := FSpoilt.binds (ps := ["_law_state", "_law_plain"]) fun _ _ _ _ _ _ us hl => match us, hl with | [_, _], _ => rfl
  have bAny := FAny.binds (ps := ["_law_state", "_law_names_here"]) fun _ _ _ _ _ _ us hl => match us, hl with | [_, _], _ => rfl
  have bTable := FTable.binds (ps := ["_law_state"]) fun _ _ _ _ _ _ us hl => match us, hl with | [_], _ => rfl
  have bMade := FMade.binds (ps := ["_law_plain"]) fun _ _ _ _ _ _ us hl => match us, hl with | [_], _ => rfl
  have bLed := FLed.binds (ps := ["_law_plain", "_law_names_here"]) fun _ _ _ _ _ _ us hl => match us, hl with | [_, _], _ => rfl
  have bAlike := FAlike.binds (ps := ["_law_table_here", "_law_other", "_law_names_here", "_law_pair"]) fun _ _ _ _ _ _ us hl => match us, hl with | [_, _, _, _], _ => rfl
  have bRight := FRight.binds (ps := ["_law_table_here", "_law_other", "_law_pair"]) fun _ _ _ _ _ _ us hl => match us, hl with | [_, _, _], _ => rfl
  have bLaw := FLaw.binds (ps := ["_law_script"]) fun _ _ _ _ _ _ us hl => match us, hl with | [_], _ => rfl
  have bNeed := FNeed.binds (ps := ["self", "mode"]) fun _ _ _ _ _ _ us hl => match us, hl with | [_, _], _ => rfl
  have bBeside := FBeside.binds (ps := ["self", "one", "other"]) fun _ _ _ _ _ _ us hl => match us, hl with | [_, _, _], _ => rfl
  have bGives := FGives.binds (ps := ["self", "mode"]) fun _ _ _ _ _ _ us hl => match us, hl with | [_, _], _ => rfl
  have bAbove := FAbove.binds (ps := ["self", "mode"]) fun _ _ _ _ _ _ us hl => match us, hl with | [_, _], _ => rfl
  have bBears := FBears.binds (ps := ["self", "one", "other"]) fun _ _ _ _ _ _ us hl => match us, hl with | [_, _, _], _ => rfl
  have bJoined := FJoined.binds (ps := ["self", "one", "other"]) fun _ _ _ _ _ _ us hl => match us, hl with | [_, _, _], _ => rfl
  have bQuarrel := FQuarrel.binds (ps := ["self", "one", "other"]) fun _ _ _ _ _ _ us hl => match us, hl with | [_, _, _], _ => rfl
  have bOver := FOver.binds (ps := ["self", "one", "other"]) fun _ _ _ _ _ _ us hl => match us, hl with | [_, _, _], _ => rfl
  have bFlaws := FFlaws.binds (ps := ["self"]) fun _ _ _ _ _ _ us hl => match us, hl with | [_], _ => rfl
  have bFlaw := FFlaw.binds (ps := ["self"]) fun _ _ _ _ _ _ us hl => match us, hl with | [_], _ => rfl
  have bEq := FEq.binds (ps := ["self", "other"]) fun _ _ _ _ _ _ us hl => match us, hl with | [_, _], _ => rfl
  have Mt : Mk K C fInit := ⟨mk, aInit, iInit, kc⟩
  have KB := kb_init FInit
  refine ⟨PySem.W.fnOf "law" "law" (defArgs sLaw) (defBody sLaw) (defScope sLaw) .none kVLaw dcLaw pmLaw anLaw cdLaw ctLaw, [(cF, Pt)], spLaw K Pt, ?_, ?_, ?_, fun s v => .of_eq rfl, ?_, ?_⟩
  · intro p hp; rw [List.mem_singleton.mp hp]; exact hT Pt (List.mem_singleton.mpr rfl)
  · intro p hp; rw [List.mem_singleton.mp hp]; exact hL
  · intro p hp; rw [List.mem_singleton.mp hp]; exact PySem.W.codeHd_of_K X hC
  · intro H a ns _ _ hP hS; exact ⟨a, ns, rfl, hS, hP (cF, Pt) (List.mem_singleton.mpr rfl), fun _ => rfl⟩
  intro base X2 G2 hTB
  have TB : TabB base mg cF Pt := hTB (cF, Pt) (List.mem_singleton.mpr rfl)
  have ORow := ok_row (P := l.prog) (w := w) (base := base) (mg := mg) FRow B
  have OName := ok_name (P := l.prog) (w := w) (base := base) (mg := mg) FName B Wd
  have OMode := ok_mode (P := l.prog) (w := w) (base := base) (mg := mg) FMode B
  have OModes := ok_modes (P := l.prog) (w := w) (base := base) (mg := mg) FModes B Li FRow bRow gRow FName bName gName ORow OName
  have OPairs := ok_pairs (P := l.prog) (w := w) (base := base) (mg := mg) FPairs B Li FRow bRow gRow FMode bMode gMode ORow OMode
  have ODict := ok_dict (P := l.prog) (w := w) (base := base) (mg := mg) FDict B FMode bMode gMode OMode
  have OInit := ok_init (P := l.prog) (w := w) (base := base) (mg := mg) FInit B T Wo FModes bModes gModes FPairs bPairs gPairs FDict bDict gDict OModes OPairs ODict
  have ONeed := ok_need (P := l.prog) (w := w) (base := base) (mg := mg) FNeed T FMode bMode gMode OMode
  have OBeside := ok_beside (P := l.prog) (w := w) (base := base) (mg := mg) FBeside T FNeed bNeed mNeed ONeed
  have OGives := ok_gives (P := l.prog) (w := w) (base := base) (mg := mg) FGives T FNeed bNeed mNeed ONeed
  have OAbove := ok_above (P := l.prog) (w := w) (base := base) (mg := mg) FAbove T FNeed bNeed mNeed ONeed
  have OBears := ok_bears (P := l.prog) (w := w) (base := base) (mg := mg) FBears B T Wo FNeed bNeed mNeed ONeed
  have OQuarrel := ok_quarrel (P := l.prog) (w := w) (base := base) (mg := mg) FQuarrel T
  have OJoined := ok_joined (P := l.prog) (w := w) (base := base) (mg := mg) FJoined B T FBears bBears mBears OBears
  have OOver := ok_over (P := l.prog) (w := w) (base := base) (mg := mg) FOver T FBears bBears mBears OBears FJoined bJoined mJoined OJoined
  have FC : FunC K "flaws" "Table.flaws" sFlaws fFlaws _ cF := ⟨⟨_, _, _, _, _, _, _, _, rfl, lFlaws, cFlaws⟩, kFlaws⟩
  have OFlaws := ok_flaws (P := l.prog) (w := w) (base := base) (mg := mg) FC B T TB FBears bBears mBears OBears FJoined bJoined mJoined OJoined FOver bOver mOver OOver FQuarrel bQuarrel mQuarrel OQuarrel
  have OFlaw := ok_flaw (P := l.prog) (w := w) (base := base) (mg := mg) FFlaw T FFlaws bFlaws mFlaws OFlaws
  have OEq := ok_eq (P := l.prog) (w := w) (base := base) (mg := mg) FEq B T TI
  have OUsual := ok_usual (P := l.prog) (w := w) (base := base) (mg := mg) FUsual B T Mt KB OInit Us
  have OMade := ok_made (P := l.prog) (w := w) (base := base) (mg := mg) FMade T Mt KB OInit
  have OBegin := ok_begin (P := l.prog) (w := w) (base := base) (mg := mg) FBegin B
  have OMore := ok_more (P := l.prog) (w := w) (base := base) (mg := mg) FMore B
  have ONext := ok_next (P := l.prog) (w := w) (base := base) (mg := mg) FNext FMore bMore gMore OMore
  have OPick := ok_pick (P := l.prog) (w := w) (base := base) (mg := mg) FPick B FNext bNext gNext ONext
  have OWord := ok_word (P := l.prog) (w := w) (base := base) (mg := mg) FWord B FNext bNext gNext ONext FPick bPick gPick OPick
  have ONames := ok_names (P := l.prog) (w := w) (base := base) (mg := mg) FNames B FWord bWord gWord OWord
  have OSide := ok_side (P := l.prog) (w := w) (base := base) (mg := mg) FSide 
  have ORights := ok_rights (P := l.prog) (w := w) (base := base) (mg := mg) FRights B FSide bSide gSide OSide
  have OSpoilt := ok_spoilt (P := l.prog) (w := w) (base := base) (mg := mg) FSpoilt B FNext bNext gNext ONext FPick bPick gPick OPick
  have OAny := ok_any (P := l.prog) (w := w) (base := base) (mg := mg) FAny B FNext bNext gNext ONext FPick bPick gPick OPick
  have OTable := ok_table (P := l.prog) (w := w) (base := base) (mg := mg) FTable B FNext bNext gNext ONext FPick bPick gPick OPick FAny bAny gAny OAny FNames bNames gNames ONames FRights bRights gRights ORights FSpoilt bSpoilt gSpoilt OSpoilt
  have OLed := ok_led (P := l.prog) (w := w) (base := base) (mg := mg) FLed 
  have OAlike := ok_alike (P := l.prog) (w := w) (base := base) (mg := mg) FAlike T FJoined bJoined mJoined OJoined FBears bBears mBears OBears FBeside bBeside mBeside OBeside
  have ORight := ok_right (P := l.prog) (w := w) (base := base) (mg := mg) FRight T FJoined bJoined mJoined OJoined FBears bBears mBears OBears
  exact ok_law (P := l.prog) (w := w) (base := base) (mg := mg) FLaw B T FBegin bBegin gBegin OBegin FTable bTable gTable OTable FNames bNames gNames ONames FNext bNext gNext ONext FMade bMade gMade OMade FLed bLed gLed OLed FAlike bAlike gAlike OAlike FRight bRight gRight ORight FRights bRights gRights ORights FUsual bUsual gUsual OUsual FFlaw bFlaw mFlaw OFlaw FBears bBears mBears OBears FGives bGives mGives OGives FAbove bAbove mAbove OAbove bEq aEq iEq OEq
end Ho
open PySem PySem.W PyProof.Rows
set_option maxRecDepth 100000 in
set_option maxHeartbeats 0 in
theorem PySem.Challenge.cw_holdtree_k06_whole_tables_led_over_holds : PySem.Challenge.rw_holdtree_k06_whole_tables_led_over.Holds := by
  w_on; o_law; k_head; (case hw => w_witness2)
  k_fill
  refine LamX.walk_ofTs (l := PySem.Challenge.rw_holdtree_k06_whole_tables_led_over) (n := 63) (k := 8) (x := "_law_script") (CX := fun _ => L2.CX0) rfl (by decide) rfl ⟨rfl, by decide, by decide⟩ (fun w h Y => PySem.W.km_in_of Y) ?F fun _ _ _ _ _ z => z
  case F =>
    intro w mg fa h Y KX G hmg
    refine' Ho.all_mk KX G hmg (PySem.W.km_tabs_of Y) ?aC ?aRow ?lRow ?cRow ?kRow ?aName ?lName ?cName ?kName ?aMode ?lMode ?cMode ?kMode ?aModes ?lModes ?cModes ?kModes ?aPairs ?lPairs ?cPairs ?kPairs ?aDict ?lDict ?cDict ?kDict ?aUsual ?lUsual ?cUsual ?kUsual ?aBegin ?lBegin ?cBegin ?kBegin ?aMore ?lMore ?cMore ?kMore ?aNext ?lNext ?cNext ?kNext ?aPick ?lPick ?cPick ?kPick ?aWord ?lWord ?cWord ?kWord ?aNames ?lNames ?cNames ?kNames ?aSide ?lSide ?cSide ?kSide ?aRights ?lRights ?cRights ?kRights ?aSpoilt ?lSpoilt ?cSpoilt ?kSpoilt ?aAny ?lAny ?cAny ?kAny ?aTable ?lTable ?cTable ?kTable ?aMade ?lMade ?cMade ?kMade ?aLed ?lLed ?cLed ?kLed ?aAlike ?lAlike ?cAlike ?kAlike ?aRight ?lRight ?cRight ?kRight ?aLaw ?lLaw ?cLaw ?kLaw ?aInit ?iInit ?lInit ?cInit ?kInit ?aNeed ?iNeed ?lNeed ?cNeed ?kNeed ?aBeside ?iBeside ?lBeside ?cBeside ?kBeside ?aGives ?iGives ?lGives ?cGives ?kGives ?aAbove ?iAbove ?lAbove ?cAbove ?kAbove ?aBears ?iBears ?lBears ?cBears ?kBears ?aJoined ?iJoined ?lJoined ?cJoined ?kJoined ?aQuarrel ?iQuarrel ?lQuarrel ?cQuarrel ?kQuarrel ?aOver ?iOver ?lOver ?cOver ?kOver ?aFlaws ?iFlaws ?lFlaws ?cFlaws ?kFlaws ?aFlaw ?iFlaw ?lFlaw ?cFlaw ?kFlaw ?aEq ?iEq ?lEq ?cEq ?kEq ?pg ?hd ?po ?sa ?mk ?kc ?nO ?nP ?nW ?nU ?nJ ?ha ?hn ?htk ?hm ?zlen ?zall ?zset ?zisi ?zstr ?zlist ?ztuple ?zdict ?zrange ?zzip ?zenum ?zsorted ?zint ?vL ?vLo ?vMM ?vMP ?vW ?qW ?vM ?qM ?vB ?qB ?qpB0 ?qpB1 ?qpB2 ?qpB3 ?qpB4 ?qpB5 ?vG ?qG ?qpG0 ?qpG1 ?qpG2 ?vA ?qA ?qpA0 ?qpA1 ?qpA2 ?hC ?hL
    (case aC => k_is)
    (case aRow => k_is)
    (case lRow => k_is)
    (case cRow => k_is)
    (case kRow => k_is)
    (case aName => k_is)
    (case lName => k_is)
    (case cName => k_is)
    (case kName => k_is)
    (case aMode => k_is)
    (case lMode => k_is)
    (case cMode => k_is)
    (case kMode => k_is)
    (case aModes => k_is)
    (case lModes => k_is)
    (case cModes => k_is)
    (case kModes => k_is)
    (case aPairs => k_is)
    (case lPairs => k_is)
    (case cPairs => k_is)
    (case kPairs => k_is)
    (case aDict => k_is)
    (case lDict => k_is)
    (case cDict => k_is)
    (case kDict => k_is)
    (case aUsual => k_is)
    (case lUsual => k_is)
    (case cUsual => k_is)
    (case kUsual => k_is)
    (case aBegin => k_is)
    (case lBegin => k_is)
    (case cBegin => k_is)
    (case kBegin => k_is)
    (case aMore => k_is)
    (case lMore => k_is)
    (case cMore => k_is)
    (case kMore => k_is)
    (case aNext => k_is)
    (case lNext => k_is)
    (case cNext => k_is)
    (case kNext => k_is)
    (case aPick => k_is)
    (case lPick => k_is)
    (case cPick => k_is)
    (case kPick => k_is)
    (case aWord => k_is)
    (case lWord => k_is)
    (case cWord => k_is)
    (case kWord => k_is)
    (case aNames => k_is)
    (case lNames => k_is)
    (case cNames => k_is)
    (case kNames => k_is)
    (case aSide => k_is)
    (case lSide => k_is)
    (case cSide => k_is)
    (case kSide => k_is)
    (case aRights => k_is)
    (case lRights => k_is)
    (case cRights => k_is)
    (case kRights => k_is)
    (case aSpoilt => k_is)
    (case lSpoilt => k_is)
    (case cSpoilt => k_is)
    (case kSpoilt => k_is)
    (case aAny => k_is)
    (case lAny => k_is)
    (case cAny => k_is)
    (case kAny => k_is)
    (case aTable => k_is)
    (case lTable => k_is)
    (case cTable => k_is)
    (case kTable => k_is)
    (case aMade => k_is)
    (case lMade => k_is)
    (case cMade => k_is)
    (case kMade => k_is)
    (case aLed => k_is)
    (case lLed => k_is)
    (case cLed => k_is)
    (case kLed => k_is)
    (case aAlike => k_is)
    (case lAlike => k_is)
    (case cAlike => k_is)
    (case kAlike => k_is)
    (case aRight => k_is)
    (case lRight => k_is)
    (case cRight => k_is)
    (case kRight => k_is)
    (case aLaw => k_is)
    (case lLaw => k_is)
    (case cLaw => k_is)
    (case kLaw => k_is)
    (case aInit => k_is)
    (case iInit => k_is)
    (case lInit => k_is)
    (case cInit => k_is)
    (case kInit => k_is)
    (case aNeed => k_is)
    (case iNeed => k_is)
    (case lNeed => k_is)
    (case cNeed => k_is)
    (case kNeed => k_is)
    (case aBeside => k_is)
    (case iBeside => k_is)
    (case lBeside => k_is)
    (case cBeside => k_is)
    (case kBeside => k_is)
    (case aGives => k_is)
    (case iGives => k_is)
    (case lGives => k_is)
    (case cGives => k_is)
    (case kGives => k_is)
    (case aAbove => k_is)
    (case iAbove => k_is)
    (case lAbove => k_is)
    (case cAbove => k_is)
    (case kAbove => k_is)
    (case aBears => k_is)
    (case iBears => k_is)
    (case lBears => k_is)
    (case cBears => k_is)
    (case kBears => k_is)
    (case aJoined => k_is)
    (case iJoined => k_is)
    (case lJoined => k_is)
    (case cJoined => k_is)
    (case kJoined => k_is)
    (case aQuarrel => k_is)
    (case iQuarrel => k_is)
    (case lQuarrel => k_is)
    (case cQuarrel => k_is)
    (case kQuarrel => k_is)
    (case aOver => k_is)
    (case iOver => k_is)
    (case lOver => k_is)
    (case cOver => k_is)
    (case kOver => k_is)
    (case aFlaws => k_is)
    (case iFlaws => k_is)
    (case lFlaws => k_is)
    (case cFlaws => k_is)
    (case kFlaws => k_is)
    (case aFlaw => k_is)
    (case iFlaw => k_is)
    (case lFlaw => k_is)
    (case cFlaw => k_is)
    (case kFlaw => k_is)
    (case aEq => k_is)
    (case iEq => k_is)
    (case lEq => k_is)
    (case cEq => k_is)
    (case kEq => k_is)
    (case pg => k_is)
    (case hd => k_is)
    (case po => k_is)
    (case sa => k_is)
    (case mk => k_is)
    (case kc => k_is)
    (case nO => k_is)
    (case nP => k_is)
    (case nW => k_is)
    (case nU => k_is)
    (case nJ => k_is)
    (case ha => k_is)
    (case hn => k_is)
    (case htk => k_is)
    (case hm => k_is)
    (case zlen => k_is)
    (case zall => k_is)
    (case zset => k_is)
    (case zisi => k_is)
    (case zstr => k_is)
    (case zlist => k_is)
    (case ztuple => k_is)
    (case zdict => k_is)
    (case zrange => k_is)
    (case zzip => k_is)
    (case zenum => k_is)
    (case zsorted => k_is)
    (case zint => k_is)
    (case vL => k_is)
    (case vLo => k_is)
    (case vMM => k_is)
    (case vMP => k_is)
    (case vW => k_is)
    (case qW => k_is)
    (case vM => k_is)
    (case qM => k_is)
    (case vB => k_is)
    (case qB => k_is)
    (case qpB0 => k_is)
    (case qpB1 => k_is)
    (case qpB2 => k_is)
    (case qpB3 => k_is)
    (case qpB4 => k_is)
    (case qpB5 => k_is)
    (case vG => k_is)
    (case qG => k_is)
    (case qpG0 => k_is)
    (case qpG1 => k_is)
    (case qpG2 => k_is)
    (case vA => k_is)
    (case qA => k_is)
    (case qpA0 => k_is)
    (case qpA1 => k_is)
    (case qpA2 => k_is)
    (case hC => first | kernel_rfl | rfl)
    (case hL => first | k_is | kernel_rfl | rfl | decide)
