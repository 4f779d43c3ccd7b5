import PyProof.Rows.All
import Wide.All
import OpenK.AllK
import Wide.FinOn
import HandS.ForMost
import HandS.Defaults
import HandS.Star
import HandS.Conv
import HandS.TupAny
import HandS.SortRule
import HandS.SortInts
import HandS.Wide
import HandS.Deep
import HandS.Style
import HandS.Flow
import HandS.IsInst
import HandS.DictComp
import PyProof.DictFindH
import HandS.WordsDict
import HandS.TupLen
import KE.SortData
import KE.DataCmp
import HandS.Zip
import KE.GoesEnum
import HandS.TupLe
import KE.SortKeyHeap
import HandS.SortKw
import HandS.HeadHook2
import HandS.HeadHook4
import PySem.Challenge.RW_standahead_k47_whole_taken_parts_of_term
import HandS.Head0
import HandS.Head1
import HandS.Head2
import HandS.HeadEnd
import HandS.HeadHook1
import HandS.Words
set_option Elab.async false
set_option linter.all false
set_option maxRecDepth 100000
set_option maxHeartbeats 1000000
/-! Me1: pure data over the abstract heap; what a step of the program does to data alone. -/
namespace Me
open PySem PySem.Spec PyProof.Rows L2
variable {K : PySem.W.Frag}

abbrev D := PyData
/-- what a name holds: data that never changes, or the k-th changing thing -/
inductive P where
  | dat (d : D)
  | obj (k : Nat)
  | fz (xs : List D)
/-- a changing thing -/
inductive MO where
  | lst (xs : List D)
  | dK (kvs : List (Key × D))
  | dT (kvs : List (List Key × D))
  | raw (o : HO)
  | dead
abbrev Ev := List (Option P)
abbrev Sto := List MO
/-- where the changing things stand -/
abbrev Ad := List (Option Addr)

mutual
/-- a value tells data, none of it among the changing things -/
inductive Rp (H : Hp) (α : Ad) : V → D → Prop
  | non : Rp H α .non .none
  | bl (b : Bool) : Rp H α (.bl b) (.bool b)
  | int (i : Int) : Rp H α (.int i) (.int i)
  | str (x : Str) : Rp H α (.str x) (.str x)
  | lst {a : Addr} {xs : List V} {ds : List D} : H a = some (.lst xs) → some a ∉ α → xs.length ≤ sizeLine → RpL H α xs ds → Rp H α (.ref a) (.list ds)
  | tup {a : Addr} {xs : List V} {ds : List D} : H a = some (.tup xs) → some a ∉ α → xs.length ≤ sizeLine → RpL H α xs ds → Rp H α (.ref a) (.tuple ds)
inductive RpL (H : Hp) (α : Ad) : List V → List D → Prop
  | nil : RpL H α [] []
  | cons {v : V} {vs : List V} {d : D} {ds : List D} : Rp H α v d → RpL H α vs ds → RpL H α (v :: vs) (d :: ds)
end

/-- the heap and the changing things go on -/
structure Adv (H : Hp) (α : Ad) (H' : Hp) (α' : Ad) : Prop where
  keep : ∀ a o, H a = some o → some a ∉ α → H' a = some o
  old : ∀ a, some a ∈ α' → some a ∈ α ∨ H a = none
  len : α.length ≤ α'.length
  pre : ∀ (k : Nat) (a : Addr), k < α.length → α'[k]? = some (some a) → α[k]? = some (some a)

theorem Adv.refl {H : Hp} {α : Ad} : Adv H α H α := ⟨fun _ _ h _ => h, fun _ h => .inl h, Nat.le_refl _, fun _ _ _ h => h⟩
theorem Adv.trans {H H1 H2 : Hp} {α α1 α2 : Ad} (a : Adv H α H1 α1) (b : Adv H1 α1 H2 α2) : Adv H α H2 α2 where
  keep := fun c o h n => by
    refine b.keep c o (a.keep c o h n) fun m => ?_
    rcases a.old c m with z | z
    · exact n z
    · rw [h] at z; cases z
  old := fun c m => by
    rcases b.old c m with z | z
    · exact a.old c z
    · cases q : H c with
      | none => exact .inr rfl
      | some o =>
        by_cases hm : some c ∈ α
        · exact .inl hm
        · rw [a.keep c o q hm] at z; cases z
  len := Nat.le_trans a.len b.len
  pre := fun k c hk h => a.pre k c hk (b.pre k c (Nat.lt_of_lt_of_le hk a.len) h)

theorem Adv.out {H H' : Hp} {α α' : Ad} (e : Adv H α H' α') {a : Addr} {o : HO} (h : H a = some o) (n : some a ∉ α) : some a ∉ α' := fun m => by
  rcases e.old a m with z | z
  · exact n z
  · rw [h] at z; cases z

mutual
theorem Rp.mono {H H' : Hp} {α α' : Ad} (e : Adv H α H' α') : ∀ {v : V} {d : D}, Rp H α v d → Rp H' α' v d
  | _, _, .non => .non
  | _, _, .bl b => .bl b
  | _, _, .int i => .int i
  | _, _, .str x => .str x
  | _, _, .lst h n l r => .lst (e.keep _ _ h n) (e.out h n) l (RpL.mono e r)
  | _, _, .tup h n l r => .tup (e.keep _ _ h n) (e.out h n) l (RpL.mono e r)
theorem RpL.mono {H H' : Hp} {α α' : Ad} (e : Adv H α H' α') : ∀ {vs : List V} {ds : List D}, RpL H α vs ds → RpL H' α' vs ds
  | _, _, .nil => .nil
  | _, _, .cons h t => .cons (Rp.mono e h) (RpL.mono e t)
end
mutual
theorem Rp.sub {H : Hp} {α α' : Ad} (e : ∀ a, some a ∈ α' → some a ∈ α) : ∀ {v : V} {d : D}, Rp H α v d → Rp H α' v d
  | _, _, .non => .non
  | _, _, .bl b => .bl b
  | _, _, .int i => .int i
  | _, _, .str x => .str x
  | _, _, .lst h n l r => .lst h (fun m => n (e _ m)) l (RpL.sub e r)
  | _, _, .tup h n l r => .tup h (fun m => n (e _ m)) l (RpL.sub e r)
theorem RpL.sub {H : Hp} {α α' : Ad} (e : ∀ a, some a ∈ α' → some a ∈ α) : ∀ {vs : List V} {ds : List D}, RpL H α vs ds → RpL H α' vs ds
  | _, _, .nil => .nil
  | _, _, .cons h t => .cons (Rp.sub e h) (RpL.sub e t)
end
theorem RpL.length {H : Hp} {α : Ad} : ∀ {vs : List V} {ds : List D}, RpL H α vs ds → vs.length = ds.length
  | _, _, .nil => rfl
  | _, _, .cons _ t => congrArg (· + 1) t.length
theorem RpL.append {H : Hp} {α : Ad} : ∀ {vs ws : List V} {ds es : List D}, RpL H α vs ds → RpL H α ws es → RpL H α (vs ++ ws) (ds ++ es)
  | _, _, _, _, .nil, s => s
  | _, _, _, _, .cons h t, s => .cons h (t.append s)
theorem RpL.get {H : Hp} {α : Ad} : ∀ {vs : List V} {ds : List D} {i : Nat} {d : D}, RpL H α vs ds → ds[i]? = some d → ∃ v, vs[i]? = some v ∧ Rp H α v d
  | _, _, _, _, .nil, e => by simp at e
  | _, _, 0, _, .cons h _, e => by simp at e; subst e; exact ⟨_, rfl, h⟩
  | _, _, i + 1, d, .cons _ t, e => by
    obtain ⟨v, h1, h2⟩ := t.get (i := i) (d := d) (by simpa using e)
    exact ⟨v, by simpa using h1, h2⟩
theorem RpL.get' {H : Hp} {α : Ad} : ∀ {vs : List V} {ds : List D} {i : Nat} {v : V}, RpL H α vs ds → vs[i]? = some v → ∃ d, ds[i]? = some d ∧ Rp H α v d
  | _, _, _, _, .nil, e => by simp at e
  | _, _, 0, _, .cons h _, e => by simp at e; subst e; exact ⟨_, rfl, h⟩
  | _, _, i + 1, d, .cons _ t, e => by
    obtain ⟨v, h1, h2⟩ := t.get' (i := i) (v := d) (by simpa using e)
    exact ⟨v, by simpa using h1, h2⟩
theorem RpL.take {H : Hp} {α : Ad} : ∀ {vs : List V} {ds : List D} (n : Nat), RpL H α vs ds → RpL H α (vs.take n) (ds.take n)
  | _, _, 0, _ => .nil
  | _, _, _ + 1, .nil => .nil
  | _, _, n + 1, .cons h t => .cons h (RpL.take n t)
theorem RpL.drop {H : Hp} {α : Ad} : ∀ {vs : List V} {ds : List D} (n : Nat), RpL H α vs ds → RpL H α (vs.drop n) (ds.drop n)
  | _, _, 0, r => r
  | _, _, _ + 1, .nil => .nil
  | _, _, n + 1, .cons _ t => RpL.drop n t
theorem RpL.set {H : Hp} {α : Ad} {v : V} {d : D} (r : Rp H α v d) : ∀ {vs : List V} {ds : List D} (i : Nat), RpL H α vs ds → RpL H α (vs.set i v) (ds.set i d)
  | _, _, _, .nil => .nil
  | _, _, 0, .cons _ t => .cons r t
  | _, _, i + 1, .cons h t => .cons h (RpL.set r i t)
theorem RpL.eraseIdx {H : Hp} {α : Ad} : ∀ {vs : List V} {ds : List D} (i : Nat), RpL H α vs ds → RpL H α (vs.eraseIdx i) (ds.eraseIdx i)
  | _, _, _, .nil => .nil
  | _, _, 0, .cons _ t => t
  | _, _, i + 1, .cons h t => .cons h (RpL.eraseIdx i t)
theorem RpL.reverse {H : Hp} {α : Ad} : ∀ {vs : List V} {ds : List D}, RpL H α vs ds → RpL H α vs.reverse ds.reverse
  | _, _, .nil => .nil
  | _, _, .cons h t => by
    rw [List.reverse_cons, List.reverse_cons]
    exact t.reverse.append (.cons h .nil)

/-- a list that is read alone -/
def FzL (K : PySem.W.Frag) (H : Hp) (α : Ad) (a : Addr) (xs : List V) : Prop :=
  (∃ o, H a = some (.frz o (.lst xs)) ∧ some a ∉ α) ∨
    ∃ (o : Obj) (its : Array Value) (n : Nat), K.lookup a = some o ∧ o.cls = .type "list" ∧ o.dict = none ∧ o.data = .seq its n ∧ its.size ≤ sizeLine ∧ Vals xs its.toList
theorem FzL.seq {K : PySem.W.Frag} {H : Hp} {α : Ad} {a : Addr} {xs : List V} : FzL K H α a xs → SqL K H a xs
  | .inl ⟨o, h, _⟩ => .inl (.inr ⟨o, h⟩)
  | .inr h => .inr h
theorem FzL.mono {K : PySem.W.Frag} {H H' : Hp} {α α' : Ad} (e : Adv H α H' α') {a : Addr} {xs : List V} : FzL K H α a xs → FzL K H' α' a xs
  | .inl ⟨o, h, n⟩ => .inl ⟨o, e.keep _ _ h n, e.out h n⟩
  | .inr h => .inr h
/-- what a name's value tells -/
def RpP (K : PySem.W.Frag) (H : Hp) (α : Ad) (v : V) : P → Prop
  | .dat d => Rp H α v d
  | .obj k => k < α.length ∧ ∃ b, v = .ref b ∧ ∀ a, α[k]? = some (some a) → a = b
  | .fz ds => ∃ a xs, v = .ref a ∧ FzL K H α a xs ∧ xs.length ≤ sizeLine ∧ RpL H α xs ds
theorem RpP.mono {H H' : Hp} {α α' : Ad} (e : Adv H α H' α') {v : V} : ∀ {p : P}, RpP K H α v p → RpP K H' α' v p
  | .dat _, h => Rp.mono e h
  | .obj _, ⟨h1, b, h2, h3⟩ => ⟨Nat.lt_of_lt_of_le h1 e.len, b, h2, fun a z => h3 a (e.pre _ a h1 z)⟩
  | .fz _, ⟨a, xs, e1, e2, l, e3⟩ => ⟨a, xs, e1, FzL.mono e e2, l, RpL.mono e e3⟩
inductive RpPs (K : PySem.W.Frag) (H : Hp) (α : Ad) : List V → List P → Prop
  | nil : RpPs K H α [] []
  | cons {v : V} {vs : List V} {p : P} {ps : List P} : RpP K H α v p → RpPs K H α vs ps → RpPs K H α (v :: vs) (p :: ps)
theorem RpPs.mono {H H' : Hp} {α α' : Ad} (e : Adv H α H' α') : ∀ {vs : List V} {ps : List P}, RpPs K H α vs ps → RpPs K H' α' vs ps
  | _, _, .nil => .nil
  | _, _, .cons h t => .cons (RpP.mono e h) (t.mono e)
theorem RpPs.length {H : Hp} {α : Ad} : ∀ {vs : List V} {ps : List P}, RpPs K H α vs ps → vs.length = ps.length
  | _, _, .nil => rfl
  | _, _, .cons _ t => congrArg (· + 1) t.length
theorem RpPs.get {H : Hp} {α : Ad} : ∀ {vs : List V} {ps : List P} {i : Nat} {p : P}, RpPs K H α vs ps → ps[i]? = some p → ∃ v, vs[i]? = some v ∧ RpP K H α v p
  | _, _, _, _, .nil, e => by simp at e
  | _, _, 0, _, .cons h _, e => by simp at e; subst e; exact ⟨_, rfl, h⟩
  | _, _, i + 1, p, .cons _ t, e => by
    obtain ⟨v, h1, h2⟩ := t.get (i := i) (p := p) (by simpa using e)
    exact ⟨v, by simpa using h1, h2⟩

abbrev Kv {κ : Type} (H : Hp) (α : Ad) : List (κ × V) → List (κ × D) → Prop := Paired fun p q => p.1 = q.1 ∧ Rp H α p.2 q.2
theorem Kv.mono {κ : Type} {H H' : Hp} {α α' : Ad} (e : Adv H α H' α') {ws : List (κ × V)} {kvs : List (κ × D)} (r : Kv H α ws kvs) : Kv H' α' ws kvs := Paired.mapP r fun _ _ z => ⟨z.1, Rp.mono e z.2⟩
theorem Kv.sub {κ : Type} {H : Hp} {α α' : Ad} (e : ∀ a, some a ∈ α' → some a ∈ α) {ws : List (κ × V)} {kvs : List (κ × D)} (r : Kv H α ws kvs) : Kv H α' ws kvs := Paired.mapP r fun _ _ z => ⟨z.1, Rp.sub e z.2⟩

def MRep (H : Hp) (α : Ad) (a : Addr) : MO → Prop
  | .lst ds => ∃ vs, H a = some (.lst vs) ∧ vs.length ≤ sizeLine ∧ RpL H α vs ds
  | .dK kvs => ∃ ws, H a = some (.dK ws) ∧ Kv H α ws kvs
  | .dT kvs => ∃ ws, H a = some (.dT ws) ∧ Kv H α ws kvs
  | .raw o => H a = some o
  | .dead => ∃ o, H a = some o
theorem MRep.there {H : Hp} {α : Ad} {a : Addr} : ∀ {m : MO}, MRep H α a m → ∃ o, H a = some o
  | .lst _, ⟨_, h, _⟩ => ⟨_, h⟩
  | .dK _, ⟨_, h, _⟩ => ⟨_, h⟩
  | .dT _, ⟨_, h, _⟩ => ⟨_, h⟩
  | .raw _, h => ⟨_, h⟩
  | .dead, h => h
theorem MRep.mono {H H' : Hp} {α α' : Ad} {a : Addr} (e : Adv H α H' α') (ha : H' a = H a) : ∀ {m : MO}, MRep H α a m → MRep H' α' a m
  | .lst _, ⟨vs, h, l, r⟩ => ⟨vs, ha.trans h, l, RpL.mono e r⟩
  | .dK _, ⟨ws, h, r⟩ => ⟨ws, ha.trans h, Kv.mono e r⟩
  | .dT _, ⟨ws, h, r⟩ => ⟨ws, ha.trans h, Kv.mono e r⟩
  | .raw _, h => ha.trans h
  | .dead, ⟨o, h⟩ => ⟨o, ha.trans h⟩
theorem MRep.sub {H : Hp} {α α' : Ad} {a : Addr} (e : ∀ a, some a ∈ α' → some a ∈ α) : ∀ {m : MO}, MRep H α a m → MRep H α' a m
  | .lst _, ⟨vs, h, l, r⟩ => ⟨vs, h, l, RpL.sub e r⟩
  | .dK _, ⟨ws, h, r⟩ => ⟨ws, h, Kv.sub e r⟩
  | .dT _, ⟨ws, h, r⟩ => ⟨ws, h, Kv.sub e r⟩
  | .raw _, h => h
  | .dead, h => h

/-- the changing things stand as told -/
structure Wd (H : Hp) (α : Ad) (S : Sto) : Prop where
  len : α.length = S.length
  inj : ∀ (i j : Nat) (a : Addr), α[i]? = some (some a) → α[j]? = some (some a) → i = j
  at_ : ∀ (k : Nat) (a : Addr) (m : MO), α[k]? = some (some a) → S[k]? = some m → MRep H α a m
  dd : ∀ (k : Nat), α[k]? = some none → S[k]? = some .dead
theorem Wd.there {H : Hp} {α : Ad} {S : Sto} (w : Wd H α S) {a : Addr} (h : some a ∈ α) : ∃ o, H a = some o := by
  obtain ⟨k, hk, e⟩ := List.mem_iff_getElem.mp h
  have e1 : α[k]? = some (some a) := by rw [List.getElem?_eq_getElem hk, e]
  have hk2 : k < S.length := w.len ▸ hk
  exact (w.at_ k a S[k] e1 (List.getElem?_eq_getElem hk2)).there
theorem Wd.fresh {H : Hp} {α : Ad} {S : Sto} (w : Wd H α S) {a : Addr} (h : H a = none) : some a ∉ α := fun m => by
  obtain ⟨o, q⟩ := w.there m
  rw [h] at q; cases q

/-- the names' values -/
structure Sl (K : PySem.W.Frag) (H : Hp) (α : Ad) (σ : L2.St) (ρ : Ev) : Prop where
  len : σ.length = ρ.length
  at_ : ∀ (i : Nat) (p : P), ρ[i]? = some (some p) → ∃ v, σ[i]? = some (some v) ∧ RpP K H α v p
theorem Sl.mono {H H' : Hp} {α α' : Ad} {σ : L2.St} {ρ : Ev} (e : Adv H α H' α') (s : Sl K H α σ ρ) : Sl K H' α' σ ρ :=
  ⟨s.len, fun i p h => let ⟨v, h1, h2⟩ := s.at_ i p h; ⟨v, h1, RpP.mono e h2⟩⟩
theorem Sl.set {H : Hp} {α : Ad} {σ : L2.St} {ρ : Ev} {v : V} {p : P} (s : Sl K H α σ ρ) (i : Nat) (r : RpP K H α v p) : Sl K H α (σ.set i (some v)) (ρ.set i (some p)) where
  len := by rw [List.length_set, List.length_set]; exact s.len
  at_ := fun j q h => by
    by_cases e : i = j
    · subst e
      rw [List.getElem?_set_self'] at h
      cases hi : ρ[i]? with
      | none => rw [hi] at h; cases h
      | some z =>
        rw [hi] at h
        have e1 : p = q := Option.some.inj (Option.some.inj h)
        subst e1
        have hl : i < σ.length := by rw [s.len]; exact (List.getElem?_eq_some_iff.mp hi).1
        exact ⟨v, by rw [List.getElem?_set_self hl], r⟩
    · rw [List.getElem?_set_ne e] at h
      obtain ⟨w, h1, h2⟩ := s.at_ j q h
      exact ⟨w, by rw [List.getElem?_set_ne e]; exact h1, h2⟩
theorem Sl.wipe {H : Hp} {α : Ad} {σ : L2.St} {ρ : Ev} (s : Sl K H α σ ρ) (i : Nat) : Sl K H α (σ.set i none) (ρ.set i none) where
  len := by rw [List.length_set, List.length_set]; exact s.len
  at_ := fun j q h => by
    by_cases e : i = j
    · subst e
      rw [List.getElem?_set_self'] at h
      cases hi : ρ[i]? with
      | none => rw [hi] at h; cases h
      | some z => rw [hi] at h; cases h
    · rw [List.getElem?_set_ne e] at h
      obtain ⟨w, h1, h2⟩ := s.at_ j q h
      exact ⟨w, by rw [List.getElem?_set_ne e]; exact h1, h2⟩

/-! ### how the changing things change -/
section
variable {H : Hp} {α : Ad} {S : Sto} {p : Addr} {o : HO}
theorem Adv.new (w : Wd H α S) (h : H p = none) : Adv H α (upd H p o) α :=
  ⟨fun a u q _ => by rw [upd_ne (ne_of_none q h)]; exact q, fun _ m => .inl m, Nat.le_refl _, fun _ _ _ z => z⟩
theorem Adv.newObj (w : Wd H α S) (h : H p = none) : Adv H α (upd H p o) (α ++ [some p]) where
  keep := fun a u q _ => by rw [upd_ne (ne_of_none q h)]; exact q
  old := fun a m => by
    rcases List.mem_append.mp m with z | z
    · exact .inl z
    · have e : a = p := by simpa using z
      rw [e]; exact .inr h
  len := by rw [List.length_append]; exact Nat.le_add_right _ _
  pre := fun k a hk z => by rwa [List.getElem?_append_left hk] at z
/-- a new thing that never changes -/
theorem Wd.new (w : Wd H α S) (h : H p = none) : Wd (upd H p o) α S :=
  ⟨w.len, w.inj, fun k a m z s => (w.at_ k a m z s).mono (Adv.new w h) (by
    have hn : a ≠ p := fun e => by
      obtain ⟨u, q⟩ := w.there (List.mem_of_getElem? z)
      rw [e, h] at q; cases q
    rw [upd_ne hn]), w.dd⟩
/-- a new changing thing -/
theorem Wd.newObj (w : Wd H α S) (h : H p = none) {m : MO} (r : MRep (upd H p o) (α ++ [some p]) p m) : Wd (upd H p o) (α ++ [some p]) (S ++ [m]) where
  len := by rw [List.length_append, List.length_append, w.len]; rfl
  inj := fun i j a hi hj => by
    have nf := w.fresh h
    have key : ∀ i, (α ++ [some p])[i]? = some (some a) → (i < α.length ∧ α[i]? = some (some a)) ∨ (i = α.length ∧ a = p) := fun i hi => by
      by_cases hl : i < α.length
      · rw [List.getElem?_append_left hl] at hi; exact .inl ⟨hl, hi⟩
      · rw [List.getElem?_append_right (Nat.le_of_not_lt hl)] at hi
        have h0 : i - α.length = 0 := by
          cases q : i - α.length with
          | zero => rfl
          | succ n => rw [q] at hi; simp at hi
        rw [h0] at hi
        have e : p = a := by simpa using hi
        exact .inr ⟨by omega, e.symm⟩
    rcases key i hi with ⟨h1, h2⟩ | ⟨h1, h2⟩
    · rcases key j hj with ⟨h3, h4⟩ | ⟨h3, h4⟩
      · exact w.inj i j a h2 h4
      · subst h4; exact absurd (List.mem_of_getElem? h2) nf
    · rcases key j hj with ⟨h3, h4⟩ | ⟨h3, h4⟩
      · subst h2; exact absurd (List.mem_of_getElem? h4) nf
      · omega
  at_ := fun k a m' hk hs => by
    by_cases hl : k < α.length
    · rw [List.getElem?_append_left hl] at hk
      rw [List.getElem?_append_left (w.len ▸ hl)] at hs
      refine (w.at_ k a m' hk hs).mono (Adv.newObj w h) ?_
      have hn : a ≠ p := fun e => by
        subst e; exact w.fresh h (List.mem_of_getElem? hk)
      rw [upd_ne hn]
    · rw [List.getElem?_append_right (Nat.le_of_not_lt hl)] at hk
      rw [List.getElem?_append_right (by rw [← w.len]; exact Nat.le_of_not_lt hl)] at hs
      have h0 : k - α.length = 0 := by
        cases q : k - α.length with
        | zero => rfl
        | succ n => rw [q] at hk; simp at hk
      rw [h0] at hk
      rw [← w.len, h0] at hs
      have e : p = a := by simpa using hk
      have e2 : m = m' := by simpa using hs
      subst e; subst e2; exact r
  dd := fun k hk => by
    by_cases hl : k < α.length
    · rw [List.getElem?_append_left hl] at hk
      rw [List.getElem?_append_left (w.len ▸ hl)]
      exact w.dd k hk
    · rw [List.getElem?_append_right (Nat.le_of_not_lt hl)] at hk
      cases q : k - α.length with
      | zero => rw [q] at hk; simp at hk
      | succ n => rw [q] at hk; simp at hk
/-- the k-th changing thing changes -/
theorem Adv.write {k : Nat} (hk : α[k]? = some (some p)) : Adv H α (upd H p o) α :=
  ⟨fun a u q n => by
    have hn : a ≠ p := fun e => n (e ▸ List.mem_of_getElem? hk)
    rw [upd_ne hn]; exact q, fun _ m => .inl m, Nat.le_refl _, fun _ _ _ z => z⟩
theorem Wd.write (w : Wd H α S) {k : Nat} (hk : α[k]? = some (some p)) {m : MO} (r : MRep (upd H p o) α p m) : Wd (upd H p o) α (S.set k m) where
  len := by rw [List.length_set]; exact w.len
  inj := w.inj
  at_ := fun j a m' hj hs => by
    by_cases e : k = j
    · subst e
      rw [hk] at hj
      have e1 : p = a := Option.some.inj (Option.some.inj hj)
      subst e1
      have hl : k < S.length := by rw [← w.len]; exact (List.getElem?_eq_some_iff.mp hk).1
      rw [List.getElem?_set_self hl] at hs
      cases hs; exact r
    · rw [List.getElem?_set_ne e] at hs
      refine (w.at_ j a m' hj hs).mono (Adv.write hk) ?_
      have hn : a ≠ p := fun z => e (w.inj k j a (z ▸ hk) hj)
      rw [upd_ne hn]
  dd := fun j hj => by
    by_cases e : k = j
    · subst e; rw [hk] at hj; cases hj
    · rw [List.getElem?_set_ne e]; exact w.dd j hj
/-- the k-th changing thing stands still from here on -/
theorem Adv.kill {k : Nat} : Adv H α H (α.set k none) where
  keep := fun _ _ h _ => h
  old := fun a m => by
    rcases List.mem_or_eq_of_mem_set m with z | z
    · exact .inl z
    · cases z
  len := by rw [List.length_set]; exact Nat.le_refl _
  pre := fun j a hj z => by
    by_cases e : k = j
    · subst e; rw [List.getElem?_set_self hj] at z; cases z
    · rwa [List.getElem?_set_ne e] at z
theorem sub_kill {k : Nat} : ∀ a, some a ∈ α.set k none → some a ∈ α := fun a m => by
  rcases List.mem_or_eq_of_mem_set m with z | z
  · exact z
  · cases z
theorem Wd.kill (w : Wd H α S) {k : Nat} : Wd H (α.set k none) (S.set k .dead) where
  len := by rw [List.length_set, List.length_set]; exact w.len
  inj := fun i j a hi hj => by
    have key : ∀ i, (α.set k none)[i]? = some (some a) → α[i]? = some (some a) := fun i hi => by
      by_cases e : k = i
      · subst e
        rw [List.getElem?_set_self'] at hi
        cases q : α[k]? with
        | none => rw [q] at hi; cases hi
        | some z => rw [q] at hi; cases hi
      · rwa [List.getElem?_set_ne e] at hi
    exact w.inj i j a (key i hi) (key j hj)
  at_ := fun j a m hj hs => by
    by_cases e : k = j
    · subst e
      rw [List.getElem?_set_self'] at hj
      cases q : α[k]? with
      | none => rw [q] at hj; cases hj
      | some z => rw [q] at hj; cases hj
    · rw [List.getElem?_set_ne e] at hj hs
      exact (w.at_ j a m hj hs).sub sub_kill
  dd := fun j hj => by
    by_cases e : k = j
    · subst e
      have hl : k < S.length := by
        rw [← w.len]
        have := (List.getElem?_eq_some_iff.mp hj).1
        rwa [List.length_set] at this
      rw [List.getElem?_set_self hl]
    · rw [List.getElem?_set_ne e] at hj ⊢
      exact w.dd j hj
theorem kill_out {k : Nat} {a : Addr} (w : Wd H α S) (hk : α[k]? = some (some a)) : some a ∉ α.set k none := fun m => by
  obtain ⟨j, hj, e⟩ := List.mem_iff_getElem.mp m
  have e1 : (α.set k none)[j]? = some (some a) := by rw [List.getElem?_eq_getElem hj, e]
  by_cases q : k = j
  · subst q
    have hl : k < α.length := (List.getElem?_eq_some_iff.mp hk).1
    rw [List.getElem?_set_self hl] at e1; cases e1
  · rw [List.getElem?_set_ne q] at e1
    exact q (w.inj k j a hk e1)
theorem take_at {β : Type} {l : List β} {n i : Nat} {x : β} (h : (l.take n)[i]? = some x) : i < n ∧ l[i]? = some x := by
  rw [List.getElem?_take] at h
  split at h
  · rename_i hi; exact ⟨hi, h⟩
  · cases h
/-- what was made since is forgotten -/
theorem Wd.take (w : Wd H α S) (n : Nat) : Wd H (α.take n) (S.take n) where
  len := by rw [List.length_take, List.length_take, w.len]
  inj := fun i j a hi hj => w.inj i j a (take_at hi).2 (take_at hj).2
  at_ := fun k a m hk hs => (w.at_ k a m (take_at hk).2 (take_at hs).2).sub fun b z => List.mem_of_mem_take z
  dd := fun k hk => by
    obtain ⟨h1, h2⟩ := take_at hk
    rw [List.getElem?_take, if_pos h1]; exact w.dd k h2
theorem Adv.take {H' : Hp} {α' : Ad} (e : Adv H α H' α') : Adv H α H' (α'.take α.length) where
  keep := e.keep
  old := fun a m => e.old a (List.mem_of_mem_take m)
  len := by rw [List.length_take]; exact Nat.le_min.mpr ⟨Nat.le_refl _, e.len⟩
  pre := fun k a hk z => e.pre k a hk (take_at z).2
/-- .. but the k-th, which becomes the last -/
theorem Wd.takeObj (w : Wd H α S) (n : Nat) {k : Nat} {oa : Option Addr} {m : MO} (hnk : n ≤ k) (hk : α[k]? = some oa) (hs : S[k]? = some m) : Wd H (α.take n ++ [oa]) (S.take n ++ [m]) where
  len := by rw [List.length_append, List.length_append, List.length_take, List.length_take, w.len]; rfl
  inj := fun i j a hi hj => by
    have hn : (α.take n).length = n := by
      rw [List.length_take]
      have := (List.getElem?_eq_some_iff.mp hk).1
      omega
    have key : ∀ i, (α.take n ++ [oa])[i]? = some (some a) → (i < n ∧ α[i]? = some (some a)) ∨ (i = n ∧ oa = some a) := fun i hi => by
      by_cases hl : i < n
      · rw [List.getElem?_append_left (by omega)] at hi
        exact .inl (take_at hi)
      · rw [List.getElem?_append_right (by omega), hn] at hi
        have h0 : i - n = 0 := by
          cases q : i - n with
          | zero => rfl
          | succ n => rw [q] at hi; simp at hi
        rw [h0] at hi
        exact .inr ⟨by omega, by simpa using hi⟩
    rcases key i hi with ⟨h1, h2⟩ | ⟨h1, h2⟩ <;> rcases key j hj with ⟨h3, h4⟩ | ⟨h3, h4⟩
    · exact w.inj i j a h2 h4
    · have := w.inj i k a h2 (h4 ▸ hk); omega
    · have := w.inj j k a h4 (h2 ▸ hk); omega
    · omega
  at_ := fun j a m' hj hs' => by
    have hn : (α.take n).length = n := by
      rw [List.length_take]
      have := (List.getElem?_eq_some_iff.mp hk).1
      omega
    have hn2 : (S.take n).length = n := by
      rw [List.length_take]
      have := (List.getElem?_eq_some_iff.mp hs).1
      omega
    have sub : ∀ a, some a ∈ α.take n ++ [oa] → some a ∈ α := fun a z => by
      rcases List.mem_append.mp z with z | z
      · exact List.mem_of_mem_take z
      · have e : oa = some a := (List.mem_singleton.mp z).symm
        exact List.mem_of_getElem? (e ▸ hk)
    by_cases hl : j < n
    · rw [List.getElem?_append_left (by omega)] at hj hs'
      exact (w.at_ j a m' (take_at hj).2 (take_at hs').2).sub sub
    · rw [List.getElem?_append_right (by omega), hn] at hj
      rw [List.getElem?_append_right (by omega), hn2] at hs'
      have h0 : j - n = 0 := by
        cases q : j - n with
        | zero => rfl
        | succ n => rw [q] at hj; simp at hj
      rw [h0] at hj hs'
      have e1 : oa = some a := by simpa using hj
      have e2 : m = m' := by simpa using hs'
      subst e2
      exact (w.at_ k a m (e1 ▸ hk) hs).sub sub
  dd := fun j hj => by
    have hn : (α.take n).length = n := by
      rw [List.length_take]
      have := (List.getElem?_eq_some_iff.mp hk).1
      omega
    have hn2 : (S.take n).length = n := by
      rw [List.length_take]
      have := (List.getElem?_eq_some_iff.mp hs).1
      omega
    by_cases hl : j < n
    · rw [List.getElem?_append_left (by omega)] at hj ⊢
      obtain ⟨h1, h2⟩ := take_at hj
      rw [List.getElem?_take, if_pos h1]; exact w.dd j h2
    · rw [List.getElem?_append_right (by omega), hn] at hj
      rw [List.getElem?_append_right (by omega), hn2]
      have h0 : j - n = 0 := by
        cases q : j - n with
        | zero => rfl
        | succ n => rw [q] at hj; simp at hj
      rw [h0] at hj ⊢
      have e1 : oa = none := by simpa using hj
      have e2 := w.dd k (e1 ▸ hk)
      rw [hs] at e2
      simpa using e2
theorem Adv.takeObj {H' : Hp} {α' : Ad} (e : Adv H α H' α') {k : Nat} {oa : Option Addr} (hnk : α.length ≤ k) (hk : α'[k]? = some oa) : Adv H α H' (α'.take α.length ++ [oa]) where
  keep := e.keep
  old := fun a m => by
    rcases List.mem_append.mp m with z | z
    · exact e.old a (List.mem_of_mem_take z)
    · have q : oa = some a := (List.mem_singleton.mp z).symm
      exact e.old a (List.mem_of_getElem? (q ▸ hk))
  len := by
    rw [List.length_append, List.length_take]
    have := e.len
    omega
  pre := fun j a hj z => by
    have hn : (α'.take α.length).length = α.length := by
      rw [List.length_take]
      have := e.len
      omega
    rw [List.getElem?_append_left (by omega)] at z
    exact e.pre j a hj (take_at z).2
/-- a changing list, as it stands -/
theorem Wd.lst (w : Wd H α S) {v : V} {k : Nat} {xs : List D} (r : RpP K H α v (.obj k)) (h : S[k]? = some (.lst xs)) : ∃ a vs, v = .ref a ∧ α[k]? = some (some a) ∧ H a = some (.lst vs) ∧ vs.length ≤ sizeLine ∧ RpL H α vs xs := by
  obtain ⟨h1, b, hb, h2⟩ := r
  subst hb
  cases q : α[k]? with
  | none => rw [List.getElem?_eq_none_iff] at q; omega
  | some o =>
    cases o with
    | none => rw [w.dd k q] at h; cases h
    | some a =>
      obtain ⟨vs, h3, h4, h5⟩ := w.at_ k a _ q h
      exact ⟨a, vs, congrArg V.ref (h2 a q).symm, rfl, h3, h4, h5⟩
theorem Wd.dK (w : Wd H α S) {v : V} {k : Nat} {kvs : List (Key × D)} (r : RpP K H α v (.obj k)) (h : S[k]? = some (.dK kvs)) : ∃ a ws, v = .ref a ∧ α[k]? = some (some a) ∧ H a = some (.dK ws) ∧ Kv H α ws kvs := by
  obtain ⟨h1, b, hb, h2⟩ := r
  subst hb
  cases q : α[k]? with
  | none => rw [List.getElem?_eq_none_iff] at q; omega
  | some o =>
    cases o with
    | none => rw [w.dd k q] at h; cases h
    | some a =>
      obtain ⟨vs, h3, h4⟩ := w.at_ k a _ q h
      exact ⟨a, vs, congrArg V.ref (h2 a q).symm, rfl, h3, h4⟩
theorem Wd.dT (w : Wd H α S) {v : V} {k : Nat} {kvs : List (List Key × D)} (r : RpP K H α v (.obj k)) (h : S[k]? = some (.dT kvs)) : ∃ a ws, v = .ref a ∧ α[k]? = some (some a) ∧ H a = some (.dT ws) ∧ Kv H α ws kvs := by
  obtain ⟨h1, b, hb, h2⟩ := r
  subst hb
  cases q : α[k]? with
  | none => rw [List.getElem?_eq_none_iff] at q; omega
  | some o =>
    cases o with
    | none => rw [w.dd k q] at h; cases h
    | some a =>
      obtain ⟨vs, h3, h4⟩ := w.at_ k a _ q h
      exact ⟨a, vs, congrArg V.ref (h2 a q).symm, rfl, h3, h4⟩
end
end Me
set_option Elab.async false
set_option linter.all false
set_option maxRecDepth 100000
set_option maxHeartbeats 1000000
/-! Me2: readings by what is done to data; expressions. -/
namespace Me
open PySem PySem.Spec PyProof.Rows L2
variable {K : PySem.W.Frag}

abbrev EF := Ev → Sto → Option (P × Sto)
abbrev CF := Ev → Sto → Option (Bool × Sto)
abbrev AF := Ev → Sto → Option (List P × Sto)
abbrev OF := P → P → Sto → Option (P × Sto)
abbrev UF := P → Sto → Option (P × Sto)
abbrev VF := List P → Sto → Option (P × Sto)

/-- what is to hold behind an expression -/
def Aft (K : PySem.W.Frag) (H : Hp) (α : Ad) (S' : Sto) (p : P) (Q : VK) : Prop := ∀ v H' α', Adv H α H' α' → Wd H' α' S' → RpP K H' α' v p → Q v H'
theorem Aft.mono {H H1 : Hp} {α α1 : Ad} {S' : Sto} {p : P} {Q : VK} (a : Adv H α H1 α1) (k : Aft K H α S' p Q) : Aft K H1 α1 S' p Q := fun v H' α' b w r => k v H' α' (a.trans b) w r
theorem Aft.now {H : Hp} {α : Ad} {S : Sto} {p : P} {Q : VK} (k : Aft K H α S p Q) (w : Wd H α S) {v : V} (r : RpP K H α v p) : Q v H := k v H α .refl w r

def tE (K : PySem.W.Frag) (f : EF) : TE := fun σ H Q => ∃ ρ S α p S', Wd H α S ∧ Sl K H α σ ρ ∧ f ρ S = some (p, S') ∧ Aft K H α S' p Q
def tT (K : PySem.W.Frag) (c : CF) : TT := fun σ H Q => ∃ ρ S α b S', Wd H α S ∧ Sl K H α σ ρ ∧ c ρ S = some (b, S') ∧ ∀ H' α', Adv H α H' α' → Wd H' α' S' → Q b H'
def tA (K : PySem.W.Frag) (f : AF) : TA := fun σ H Q => ∃ ρ S α ps S', Wd H α S ∧ Sl K H α σ ρ ∧ f ρ S = some (ps, S') ∧ ∀ vs H' α', Adv H α H' α' → Wd H' α' S' → RpPs K H' α' vs ps → Q vs H'

section
variable {X : Cx}
theorem _root_.L2.PE.imp {e : Expr} {t t' : TE} (h : PE X e t) (k : ∀ σ H Q, t' σ H Q → t σ H Q) : PE X e t' := ⟨fun pins s σ H Q I q => h.run pins s σ H Q I (k σ H Q q)⟩
theorem _root_.L2.PT.imp {e : Expr} {t t' : TT} (h : PT X e t) (k : ∀ σ H Q, t' σ H Q → t σ H Q) : PT X e t' := ⟨fun pins s σ H Q I q => h.run pins s σ H Q I (k σ H Q q)⟩
theorem _root_.L2.PW.imp {e : Expr} {t t' : TT} (h : PW X e t) (k : ∀ σ H Q, t' σ H Q → t σ H Q) : PW X e t' := ⟨fun w pins s σ H Q I q => h.run w pins s σ H Q I (k σ H Q q)⟩
theorem _root_.L2.PA.imp {e : List Expr} {t t' : TA} (h : PA X e t) (k : ∀ σ H Q, t' σ H Q → t σ H Q) : PA X e t' := ⟨fun p pins s σ H Q I q => h.run p pins s σ H Q I (k σ H Q q)⟩
theorem _root_.L2.PS.imp {e : Stmt} {t t' : TS} (h : PS X e t) (k : ∀ D σ H, t' D σ H → t D σ H) : PS X e t' := ⟨fun pins s σ H D I q => h.run pins s σ H D I (k D σ H q)⟩
theorem _root_.L2.PSs.imp {e : List Stmt} {t t' : TS} (h : PSs X e t) (k : ∀ D σ H, t' D σ H → t D σ H) : PSs X e t' := ⟨fun pins s σ H D I q => h.run pins s σ H D I (k D σ H q)⟩
end

abbrev bd {β γ : Type} (x : Option β) (f : β → Option γ) : Option γ := x.bind f
theorem bd_of {β γ : Type} {x : Option β} {f : β → Option γ} {y : γ} (h : bd x f = some y) : ∃ z, x = some z ∧ f z = some y := Option.bind_eq_some_iff.mp h

/-! ### names, constants -/
def eVar (i : Nat) : EF := fun ρ S => bd (ρ.getD i none) fun p => some (p, S)
def eC (d : D) : EF := fun _ S => some (.dat d, S)
theorem eVar_at {i : Nat} {ρ : Ev} {S S' : Sto} {p : P} (h : eVar i ρ S = some (p, S')) : ρ[i]? = some (some p) ∧ S' = S := by
  obtain ⟨q, h1, h2⟩ := bd_of h
  cases h2
  rw [List.getD_eq_getElem?_getD] at h1
  cases e : ρ[i]? with
  | none => rw [e] at h1; cases h1
  | some z => rw [e] at h1; exact ⟨congrArg some h1, rfl⟩
section
variable {X : Cx}
theorem me_var (i : Nat) {x : Str} {pos : Pos} (hN : X.N[i]? = some x := by rfl) (hv : Vis X.env.scope x := by first | exact Or.inl rfl | exact Or.inr (Or.inl rfl) | exact Or.inr (Or.inr rfl)) (hd : (x == ("__debug__" : Str)) = false := by decide)
    (hcd : (x == ("__classdict__" : Str)) = false := by decide) : PE X (.Name x pos) (tE X.K (eVar i)) :=
  (pe_var hN hv hd hcd).imp fun σ H Q ⟨ρ, S, α, p, S', w, s, e, k⟩ => by
    obtain ⟨h1, rfl⟩ := eVar_at e
    obtain ⟨v, h2, r⟩ := s.at_ i p h1
    exact ⟨v, h2, k.now w r⟩
theorem me_c {e : Expr} {v : V} {d : D} (h : PE X e (tC v)) (r : ∀ H α, Rp H α v d) : PE X e (tE X.K (eC d)) :=
  h.imp fun σ H Q ⟨ρ, S, α, p, S', w, s, e, k⟩ => by
    cases e
    exact k.now w (r H α)
theorem me_int {i j pos} : PE X (.Constant (.int i) j pos) (tE X.K (eC (.int i))) := me_c pe_int fun _ _ => .int _
theorem me_bl {b j pos} : PE X (.Constant (.bool b) j pos) (tE X.K (eC (.bool b))) := me_c pe_bl fun _ _ => .bl _
theorem me_non {j pos} : PE X (.Constant .none j pos) (tE X.K (eC .none)) := me_c pe_non fun _ _ => .non
theorem me_str {x j pos} : PE X (.Constant (.str x) j pos) (tE X.K (eC (.str x))) := me_c pe_str fun _ _ => .str _
theorem me_gint {x : Str} {i : Int} {pos : Pos} (hm : ∃ t, X.mg x = some (.int i t)) (hg : Gl X x := by rfl) (hd : (x == ("__debug__" : Str)) = false := by decide) : PE X (.Name x pos) (tE X.K (eC (.int i))) := by
  obtain ⟨t, hm⟩ := hm
  exact me_c (pe_glob hg hm (v := .int i) ⟨t, rfl⟩ hd) fun _ _ => .int _
theorem me_gstr {x y : Str} {pos : Pos} (hm : ∃ t, X.mg x = some (.str y t)) (hg : Gl X x := by rfl) (hd : (x == ("__debug__" : Str)) = false := by decide) : PE X (.Name x pos) (tE X.K (eC (.str y))) := by
  obtain ⟨t, hm⟩ := hm
  exact me_c (pe_glob hg hm (v := .str y) ⟨t, rfl⟩ hd) fun _ _ => .str _
end

/-! ### operators on values -/
def OpD (K : PySem.W.Frag) (r : R2) (o : OF) : Prop := ∀ (H : Hp) (α : Ad) (S : Sto) (x y : V) (p q z : P) (S' : Sto) (Q : VK), Wd H α S → RpP K H α x p → RpP K H α y q → o p q S = some (z, S') → Aft K H α S' z Q → r x y H Q
def UnD (K : PySem.W.Frag) (r : V → Hp → VK → Prop) (o : UF) : Prop := ∀ (H : Hp) (α : Ad) (S : Sto) (x : V) (p z : P) (S' : Sto) (Q : VK), Wd H α S → RpP K H α x p → o p S = some (z, S') → Aft K H α S' z Q → r x H Q
def CaD (K : PySem.W.Frag) (r : List V → Hp → VK → Prop) (o : VF) : Prop := ∀ (H : Hp) (α : Ad) (S : Sto) (xs : List V) (ps : List P) (z : P) (S' : Sto) (Q : VK), Wd H α S → RpPs K H α xs ps → o ps S = some (z, S') → Aft K H α S' z Q → r xs H Q
def MtD (K : PySem.W.Frag) (r : V → List V → Hp → VK → Prop) (o : P → VF) : Prop := ∀ (H : Hp) (α : Ad) (S : Sto) (x : V) (xs : List V) (p : P) (ps : List P) (z : P) (S' : Sto) (Q : VK), Wd H α S → RpP K H α x p → RpPs K H α xs ps → o p ps S = some (z, S') → Aft K H α S' z Q → r x xs H Q
def eOp (o : OF) (a b : EF) : EF := fun ρ S => bd (a ρ S) fun x => bd (b ρ x.2) fun y => o x.1 y.1 y.2
def eUn (o : UF) (a : EF) : EF := fun ρ S => bd (a ρ S) fun x => o x.1 x.2
def cE (a : EF) : CF := fun ρ S => bd (a ρ S) fun x => match x.1 with
  | .dat (.bool b) => some (b, x.2)
  | _ => none
theorem rd_op {r : R2} {o : OF} {fa fb : EF} (hd : OpD K r o) {σ : L2.St} {H : Hp} {Q : VK} : tE K (eOp o fa fb) σ H Q → tOp r (tE K fa) (tE K fb) σ H Q := by
  rintro ⟨ρ, S, α, p, S', w, s, e, k⟩
  obtain ⟨⟨x, S1⟩, e1, e⟩ := bd_of e
  obtain ⟨⟨y, S2⟩, e2, e⟩ := bd_of e
  exact ⟨ρ, S, α, x, S1, w, s, e1, fun v H1 α1 a1 w1 r1 => ⟨ρ, S1, α1, y, S2, w1, s.mono a1, e2, fun u H2 α2 a2 w2 r2 => hd H2 α2 S2 v u x y p S' Q w2 (r1.mono a2) r2 e (k.mono (a1.trans a2))⟩⟩
theorem rd_un {r : V → Hp → VK → Prop} {o : UF} {fa : EF} (hd : UnD K r o) {σ : L2.St} {H : Hp} {Q : VK} : tE K (eUn o fa) σ H Q → tUn r (tE K fa) σ H Q := by
  rintro ⟨ρ, S, α, p, S', w, s, e, k⟩
  obtain ⟨⟨x, S1⟩, e1, e⟩ := bd_of e
  exact ⟨ρ, S, α, x, S1, w, s, e1, fun v H1 α1 a1 w1 r1 => hd H1 α1 S1 v x p S' Q w1 r1 e (k.mono a1)⟩
theorem bool_of {H : Hp} {α : Ad} {v : V} {b : Bool} (r : RpP K H α v (.dat (.bool b))) : v = .bl b := by
  cases r with
  | bl _ => rfl
theorem int_of {H : Hp} {α : Ad} {v : V} {i : Int} (r : RpP K H α v (.dat (.int i))) : v = .int i := by
  cases r with
  | int _ => rfl
theorem cE_of {a : EF} {ρ : Ev} {S S' : Sto} {b : Bool} (h : cE a ρ S = some (b, S')) : a ρ S = some (.dat (.bool b), S') := by
  obtain ⟨⟨p, S1⟩, h1, h2⟩ := bd_of h
  match p, h1, h2 with
  | .dat (.bool c), h1, h2 => cases h2; exact h1
  | .dat .none, _, h2 => cases h2
  | .dat (.int _), _, h2 => cases h2
  | .dat (.str _), _, h2 => cases h2
  | .dat (.list _), _, h2 => cases h2
  | .dat (.tuple _), _, h2 => cases h2
  | .dat (.dict _), _, h2 => cases h2
  | .obj _, _, h2 => cases h2
  | .fz _, _, h2 => cases h2
theorem rd_test {fa : EF} {t : TE} (ht : ∀ σ H Q, tE K fa σ H Q → t σ H Q) {σ : L2.St} {H : Hp} {Q : Bool → Hp → Prop} : tT K (cE fa) σ H Q → tTest t σ H Q := by
  rintro ⟨ρ, S, α, b, S', w, s, e, k⟩
  refine ht σ H _ ⟨ρ, S, α, _, S', w, s, cE_of e, fun v H1 α1 a1 w1 r1 => ?_⟩
  exact ⟨b, bool_of r1, k H1 α1 a1 w1⟩
section
variable {X : Cx} {a b c : Expr} {fa fb fc : EF} {pos : Pos}
theorem me_op {op : Operator} {r : R2} {o : OF} (ho : OpR X (binaryOp op) r) (hd : OpD X.K r o) (ha : PE X a (tE X.K fa)) (hb : PE X b (tE X.K fb)) : PE X (.BinOp a op b pos) (tE X.K (eOp o fa fb)) := (pe_op ho ha hb).imp fun _ _ _ => rd_op hd
theorem me_un {op : UnaryOp} {r : V → Hp → VK → Prop} {o : UF} (ho : UnR X (unaryOp op) r) (hd : UnD X.K r o) (ha : PE X a (tE X.K fa)) : PE X (.UnaryOp op a pos) (tE X.K (eUn o fa)) := (pe_un ho ha).imp fun _ _ _ => rd_un hd
theorem me_cmp {op : CmpOp} {r : R2} {o : OF} (ho : OpR X (compareOp op) r) (hd : OpD X.K r o) (ha : PE X a (tE X.K fa)) (hb : PE X b (tE X.K fb)) (hm : behindInMarks op b = false) : PE X (.Compare a [op] [b] pos) (tE X.K (eOp o fa fb)) := (pe_cmpR ho ha hb hm).imp fun _ _ _ => rd_op hd
theorem mt_cmp {op : CmpOp} {r : R2} {o : OF} (ho : OpR X (compareOp op) r) (hd : OpD X.K r o) (ha : PE X a (tE X.K fa)) (hb : PE X b (tE X.K fb)) (hm : behindInMarks op b = false) : PT X (.Compare a [op] [b] pos) (tT X.K (cE (eOp o fa fb))) := (pt_cmpR ho ha hb hm).imp fun _ _ _ => rd_test fun _ _ _ => rd_op hd
/-- an expression that gives a bool, as a test -/
theorem mt_val {e : Expr} (h : PE X e (tE X.K fa)) (he : ∀ whole, isTrue e X.env whole = (do let v ← whole; standAt e.pos; holding [v] (truthy v)) := by intro _; rfl) : PT X e (tT X.K (cE fa)) :=
  (pt_val h he).imp fun σ H Q q => by
    obtain ⟨b, z⟩ : ∃ _ : Unit, tTest (tE X.K fa) σ H Q := ⟨(), rd_test (fun _ _ _ z => z) q⟩
    exact z
def eChain (o o' : OF) (a b c : EF) : EF := fun ρ S => bd (a ρ S) fun x => bd (b ρ x.2) fun y => bd (o x.1 y.1 y.2) fun z => match z.1 with
  | .dat (.bool true) => bd (c ρ z.2) fun u => o' y.1 u.1 u.2
  | .dat (.bool false) => some (.dat (.bool false), z.2)
  | _ => none
theorem rd_chain {r r' : R2} {o o' : OF} (hd : OpD X.K r o) (hd' : OpD X.K r' o') (hk : ∀ {x y : V} {H H' : Hp} {Q : VK}, True) {σ : L2.St} {H : Hp} {Q : VK} : tE X.K (eChain o o' fa fb fc) σ H Q → tChain r r' (tE X.K fa) (tE X.K fb) (tE X.K fc) σ H Q := by
  rintro ⟨ρ, S, α, p, S', w, s, e, k⟩
  obtain ⟨⟨x, S1⟩, e1, e⟩ := bd_of e
  obtain ⟨⟨y, S2⟩, e2, e⟩ := bd_of e
  obtain ⟨⟨z, S3⟩, e3, e⟩ := bd_of e
  refine ⟨ρ, S, α, x, S1, w, s, e1, fun v H1 α1 a1 w1 r1 => ⟨ρ, S1, α1, y, S2, w1, s.mono a1, e2, fun u H2 α2 a2 w2 r2 => ?_⟩⟩
  refine hd H2 α2 S2 v u x y z S3 _ w2 (r1.mono a2) r2 e3 fun v3 H3 α3 a3 w3 r3 => ?_
  match z, e, r3 with
  | .dat (.bool true), e, r3 =>
    obtain ⟨⟨q, S4⟩, e4, e⟩ := bd_of e
    refine ⟨true, bool_of r3, ?_⟩
    rw [if_pos rfl]
    exact ⟨ρ, S3, α3, q, S4, w3, s.mono (a1.trans (a2.trans a3)), e4, fun v4 H4 α4 a4 w4 r4 => hd' H4 α4 S4 u v4 y q p S' Q w4 (r2.mono (a3.trans a4)) r4 e (k.mono (a1.trans (a2.trans (a3.trans a4))))⟩
  | .dat (.bool false), e, r3 =>
    refine ⟨false, bool_of r3, ?_⟩
    rw [if_neg Bool.false_ne_true]
    cases e
    exact k.mono (a1.trans (a2.trans a3)) |>.now w3 (.bl false)
  | .dat .none, e, _ => cases e
  | .dat (.int _), e, _ => cases e
  | .dat (.str _), e, _ => cases e
  | .dat (.list _), e, _ => cases e
  | .dat (.tuple _), e, _ => cases e
  | .dat (.dict _), e, _ => cases e
  | .obj _, e, _ => cases e
  | .fz _, e, _ => cases e
theorem me_chain {op op' : CmpOp} {r r' : R2} {o o' : OF} (ho : OpR X (compareOp op) r) (hd : OpD X.K r o) (ho' : OpR X (compareOp op') r') (hd' : OpD X.K r' o') (ha : PE X a (tE X.K fa)) (hb : PE X b (tE X.K fb)) (hc : PE X c (tE X.K fc))
    (hm : lastMarks [op, op'] [b, c] = false := by with_unfolding_all rfl) : PE X (.Compare a [op, op'] [b, c] pos) (tE X.K (eChain o o' fa fb fc)) := (pe_chain ho ho' ha hb hc hm).imp fun _ _ _ => rd_chain hd hd' trivial
theorem mt_chain {op op' : CmpOp} {r r' : R2} {o o' : OF} (ho : OpR X (compareOp op) r) (hd : OpD X.K r o) (ho' : OpR X (compareOp op') r') (hd' : OpD X.K r' o') (ha : PE X a (tE X.K fa)) (hb : PE X b (tE X.K fb)) (hc : PE X c (tE X.K fc))
    (hm : lastMarks [op, op'] [b, c] = false := by with_unfolding_all rfl) : PT X (.Compare a [op, op'] [b, c] pos) (tT X.K (cE (eChain o o' fa fb fc))) := (pt_chain ho ho' ha hb hc hm).imp fun _ _ _ => rd_test fun _ _ _ => rd_chain hd hd' trivial
end

/-! ### and, or, not, if -/
def cAnd (a b : CF) : CF := fun ρ S => bd (a ρ S) fun x => if x.1 = true then b ρ x.2 else some (false, x.2)
def cOr (a b : CF) : CF := fun ρ S => bd (a ρ S) fun x => if x.1 = true then some (true, x.2) else b ρ x.2
def cNot (a : CF) : CF := fun ρ S => bd (a ρ S) fun x => some (!x.1, x.2)
def eB (a : CF) : EF := fun ρ S => bd (a ρ S) fun x => some (.dat (.bool x.1), x.2)
def eIf (c : CF) (a b : EF) : EF := fun ρ S => bd (c ρ S) fun x => if x.1 = true then a ρ x.2 else b ρ x.2
/-- a and b, a or b as values, a a bool -/
def eAnd (a b : EF) : EF := fun ρ S => bd (cE a ρ S) fun x => if x.1 = true then b ρ x.2 else some (.dat (.bool false), x.2)
def eOr (a b : EF) : EF := fun ρ S => bd (cE a ρ S) fun x => if x.1 = true then some (.dat (.bool true), x.2) else b ρ x.2
def eNot (a : EF) : EF := fun ρ S => bd (cE a ρ S) fun x => some (.dat (.bool (!x.1)), x.2)
section
variable {X : Cx} {a b c : Expr} {fa fb fc : EF} {ca cb : CF} {pos : Pos} {rest : List Expr}
theorem mw_one (ha : PT X a (tT X.K ca)) : PW X (.BoolOp .And [a] pos) (tT X.K ca) := pw_and1 ha
theorem mw_one' (ha : PT X a (tT X.K ca)) : PW X (.BoolOp .Or [a] pos) (tT X.K ca) := pw_or1 ha
theorem mw_and (ha : PT X a (tT X.K ca)) (hb : PW X (.BoolOp .And (b :: rest) pos) (tT X.K cb)) : PW X (.BoolOp .And (a :: b :: rest) pos) (tT X.K (cAnd ca cb)) :=
  (pw_and ha hb).imp fun σ H Q => by
    rintro ⟨ρ, S, α, z, S', w, s, e, k⟩
    obtain ⟨⟨x, S1⟩, e1, e⟩ := bd_of e
    refine ⟨ρ, S, α, x, S1, w, s, e1, fun H1 α1 a1 w1 => ?_⟩
    cases x with
    | true =>
      rw [if_pos rfl] at e ⊢
      exact ⟨ρ, S1, α1, z, S', w1, s.mono a1, e, fun H2 α2 a2 w2 => k H2 α2 (a1.trans a2) w2⟩
    | false =>
      rw [if_neg Bool.false_ne_true] at e ⊢
      cases e
      exact k H1 α1 a1 w1
theorem mw_or (ha : PT X a (tT X.K ca)) (hb : PW X (.BoolOp .Or (b :: rest) pos) (tT X.K cb)) : PW X (.BoolOp .Or (a :: b :: rest) pos) (tT X.K (cOr ca cb)) :=
  (pw_or ha hb).imp fun σ H Q => by
    rintro ⟨ρ, S, α, z, S', w, s, e, k⟩
    obtain ⟨⟨x, S1⟩, e1, e⟩ := bd_of e
    refine ⟨ρ, S, α, x, S1, w, s, e1, fun H1 α1 a1 w1 => ?_⟩
    cases x with
    | true =>
      rw [if_pos rfl] at e ⊢
      cases e
      exact k H1 α1 a1 w1
    | false =>
      rw [if_neg Bool.false_ne_true] at e ⊢
      exact ⟨ρ, S1, α1, z, S', w1, s.mono a1, e, fun H2 α2 a2 w2 => k H2 α2 (a1.trans a2) w2⟩
theorem mt_not (ha : PT X a (tT X.K ca)) : PT X (.UnaryOp .Not a pos) (tT X.K (cNot ca)) :=
  (pt_not ha).imp fun σ H Q => by
    rintro ⟨ρ, S, α, z, S', w, s, e, k⟩
    obtain ⟨⟨x, S1⟩, e1, e⟩ := bd_of e
    cases e
    exact ⟨ρ, S, α, x, S1, w, s, e1, fun H1 α1 a1 w1 => k H1 α1 a1 w1⟩
theorem me_one {op} (ha : PE X a (tE X.K fa)) : PE X (.BoolOp op [a] pos) (tE X.K fa) := pe_one ha
theorem me_and (ha : PE X a (tE X.K fa)) (hb : PE X (.BoolOp .And (b :: rest) pos) (tE X.K fb)) : PE X (.BoolOp .And (a :: b :: rest) pos) (tE X.K (eAnd fa fb)) :=
  (pe_and ha hb).imp fun σ H Q => by
    rintro ⟨ρ, S, α, z, S', w, s, e, k⟩
    obtain ⟨⟨x, S1⟩, e1, e⟩ := bd_of e
    refine ⟨ρ, S, α, _, S1, w, s, cE_of e1, fun v H1 α1 a1 w1 r1 => ⟨x, bool_of r1, ?_⟩⟩
    cases x with
    | true =>
      rw [if_pos rfl] at e ⊢
      exact ⟨ρ, S1, α1, z, S', w1, s.mono a1, e, k.mono a1⟩
    | false =>
      rw [if_neg Bool.false_ne_true] at e ⊢
      cases e
      exact k.mono a1 |>.now w1 (.bl false)
theorem me_or (ha : PE X a (tE X.K fa)) (hb : PE X (.BoolOp .Or (b :: rest) pos) (tE X.K fb)) : PE X (.BoolOp .Or (a :: b :: rest) pos) (tE X.K (eOr fa fb)) :=
  (pe_or ha hb).imp fun σ H Q => by
    rintro ⟨ρ, S, α, z, S', w, s, e, k⟩
    obtain ⟨⟨x, S1⟩, e1, e⟩ := bd_of e
    refine ⟨ρ, S, α, _, S1, w, s, cE_of e1, fun v H1 α1 a1 w1 r1 => ⟨x, bool_of r1, ?_⟩⟩
    cases x with
    | true =>
      rw [if_pos rfl] at e ⊢
      cases e
      exact k.mono a1 |>.now w1 (.bl true)
    | false =>
      rw [if_neg Bool.false_ne_true] at e ⊢
      exact ⟨ρ, S1, α1, z, S', w1, s.mono a1, e, k.mono a1⟩
theorem me_not (ha : PE X a (tE X.K fa)) : PE X (.UnaryOp .Not a pos) (tE X.K (eNot fa)) :=
  (pe_not ha).imp fun σ H Q => by
    rintro ⟨ρ, S, α, z, S', w, s, e, k⟩
    obtain ⟨⟨x, S1⟩, e1, e⟩ := bd_of e
    cases e
    exact ⟨ρ, S, α, _, S1, w, s, cE_of e1, fun v H1 α1 a1 w1 r1 => ⟨x, bool_of r1, k.mono a1 |>.now w1 (.bl _)⟩⟩
theorem me_if (hc : PT X c (tT X.K ca)) (ha : PE X a (tE X.K fa)) (hb : PE X b (tE X.K fb)) : PE X (.IfExp c a b pos) (tE X.K (eIf ca fa fb)) :=
  (pe_ifExp hc ha hb).imp fun σ H Q => by
    rintro ⟨ρ, S, α, z, S', w, s, e, k⟩
    obtain ⟨⟨x, S1⟩, e1, e⟩ := bd_of e
    refine ⟨ρ, S, α, x, S1, w, s, e1, fun H1 α1 a1 w1 => ?_⟩
    cases x with
    | true =>
      rw [if_pos rfl] at e ⊢
      exact ⟨ρ, S1, α1, z, S', w1, s.mono a1, e, k.mono a1⟩
    | false =>
      rw [if_neg Bool.false_ne_true] at e ⊢
      exact ⟨ρ, S1, α1, z, S', w1, s.mono a1, e, k.mono a1⟩
end

/-! ### arguments, displays -/
def aNil : AF := fun _ S => some ([], S)
def aCons (a : EF) (r : AF) : AF := fun ρ S => bd (a ρ S) fun x => bd (r ρ x.2) fun y => some (x.1 :: y.1, y.2)
/-- the items that can be read -/
def seqOf (p : P) (S : Sto) : Option (List D) := match p with
  | .dat (.list xs) => some xs
  | .dat (.tuple xs) => some xs
  | .obj k => (match S[k]? with
    | some (.lst xs) => some xs
    | _ => none)
  | .fz xs => some xs
  | _ => none
def aStar (a : EF) (r : AF) : AF := fun ρ S => bd (a ρ S) fun x => bd (seqOf x.1 x.2) fun xs => bd (r ρ x.2) fun y => some (xs.map P.dat ++ y.1, y.2)
theorem seqOf_at {K : PySem.W.Frag} {H : Hp} {α : Ad} {S : Sto} (w : Wd H α S) {v : V} {p : P} (r : RpP K H α v p) {ds : List D} (h : seqOf p S = some ds) : ∃ a xs, v = .ref a ∧ (SqT K H a xs ∨ SqL K H a xs) ∧ xs.length ≤ sizeLine ∧ RpL H α xs ds := by
  match p, r, h with
  | .dat (.list xs), r, h =>
    cases h
    cases r with
    | lst h n l r => exact ⟨_, _, rfl, .inr (SqL.of h), l, r⟩
  | .dat (.tuple xs), r, h =>
    cases h
    cases r with
    | tup h n l r => exact ⟨_, _, rfl, .inl (SqT.of h), l, r⟩
  | .obj k, r, h =>
    have h' : (match S[k]? with | some (.lst xs) => some xs | _ => none) = some ds := h
    cases q : S[k]? with
    | none => rw [q] at h'; cases h'
    | some m =>
      rw [q] at h'
      cases m with
      | lst xs =>
        cases h'
        obtain ⟨a, vs, e1, e2, e3, e4, e5⟩ := w.lst r q
        exact ⟨a, vs, e1, .inr (SqL.of e3), e4, e5⟩
      | _ => cases h'
  | .fz xs, ⟨a, vs, e1, e2, l, e3⟩, h =>
    cases h
    exact ⟨a, vs, e1, .inr e2.seq, l, e3⟩
  | .dat .none, _, h => cases h
  | .dat (.bool _), _, h => cases h
  | .dat (.int _), _, h => cases h
  | .dat (.str _), _, h => cases h
  | .dat (.dict _), _, h => cases h
theorem RpPs.ofL {H : Hp} {α : Ad} : ∀ {vs : List V} {ds : List D}, RpL H α vs ds → RpPs K H α vs (ds.map P.dat)
  | _, _, .nil => .nil
  | _, _, .cons h t => .cons h (RpPs.ofL t)
theorem RpPs.append {H : Hp} {α : Ad} : ∀ {vs ws : List V} {ps qs : List P}, RpPs K H α vs ps → RpPs K H α ws qs → RpPs K H α (vs ++ ws) (ps ++ qs)
  | _, _, _, _, .nil, s => s
  | _, _, _, _, .cons h t, s => .cons h (t.append s)
section
variable {X : Cx} {e : Expr} {es : List Expr} {fa : EF} {fr : AF} {pos p : Pos}
theorem ma_nil : PA X [] (tA X.K aNil) := pa_nil.imp fun σ H Q => by
  rintro ⟨ρ, S, α, ps, S', w, s, e, k⟩
  cases e
  exact k [] H α .refl w .nil
theorem ma_cons (ha : PE X e (tE X.K fa)) (hr : PA X es (tA X.K fr)) (hs : starEach (e :: es) X.env = (false, eval e X.env) :: starEach es X.env := by rfl) : PA X (e :: es) (tA X.K (aCons fa fr)) := (pa_cons ha hr hs).imp fun σ H Q => by
  rintro ⟨ρ, S, α, ps, S', w, s, e, k⟩
  obtain ⟨⟨x, S1⟩, e1, e⟩ := bd_of e
  obtain ⟨⟨y, S2⟩, e2, e⟩ := bd_of e
  cases e
  exact ⟨ρ, S, α, x, S1, w, s, e1, fun v H1 α1 a1 w1 r1 => ⟨ρ, S1, α1, y, S2, w1, s.mono a1, e2, fun vs H2 α2 a2 w2 r2 => k (v :: vs) H2 α2 (a1.trans a2) w2 (.cons (r1.mono a2) r2)⟩⟩
end
end Me
set_option Elab.async false
set_option linter.all false
set_option maxRecDepth 100000
set_option maxHeartbeats 1000000
/-! Me3: operators, displays, calls. -/
namespace Me
open PySem PySem.Spec PyProof.Rows L2
variable {K : PySem.W.Frag}

abbrev lim : Nat := 16777216
theorem lim_eq : sizeLine = lim := by decide +kernel

/-! ### what a value is -/
def asInt : P → Option Int
  | .dat (.int i) => some i
  | _ => none
def asBool : P → Option Bool
  | .dat (.bool i) => some i
  | _ => none
def asStr : P → Option Str
  | .dat (.str i) => some i
  | _ => none
def asDat : P → Option D
  | .dat d => some d
  | _ => none
def asTup : P → Option (List D)
  | .dat (.tuple xs) => some xs
  | _ => none
def lstAt (k : Nat) (S : Sto) : Option (List D) := match S[k]? with
  | some (.lst xs) => some xs
  | _ => none
/-- a list of our own -/
def asLst (p : P) (S : Sto) : Option (List D) := match p with
  | .dat (.list xs) => some xs
  | .obj k => lstAt k S
  | _ => none
theorem asInt_of {p : P} {i : Int} (h : asInt p = some i) : p = .dat (.int i) := by
  match p, h with
  | .dat (.int j), h => cases h; rfl
theorem asBool_of {p : P} {i : Bool} (h : asBool p = some i) : p = .dat (.bool i) := by
  match p, h with
  | .dat (.bool j), h => cases h; rfl
theorem asStr_of {p : P} {i : Str} (h : asStr p = some i) : p = .dat (.str i) := by
  match p, h with
  | .dat (.str j), h => cases h; rfl
theorem asDat_of {p : P} {i : D} (h : asDat p = some i) : p = .dat i := by
  match p, h with
  | .dat _, h => cases h; rfl
theorem asTup_of {p : P} {i : List D} (h : asTup p = some i) : p = .dat (.tuple i) := by
  match p, h with
  | .dat (.tuple j), h => cases h; rfl
theorem lstAt_of {k : Nat} {S : Sto} {xs : List D} (h : lstAt k S = some xs) : S[k]? = some (.lst xs) := by
  unfold lstAt at h
  cases q : S[k]? with
  | none => rw [q] at h; cases h
  | some m =>
    rw [q] at h
    cases m with
    | lst ys => cases h; rfl
    | _ => cases h
section
variable {H : Hp} {α : Ad} {S : Sto} {v : V}
theorem str_of {x : Str} (r : RpP K H α v (.dat (.str x))) : v = .str x := by
  cases r with
  | str _ => rfl
theorem tup_of {ds : List D} (r : RpP K H α v (.dat (.tuple ds))) : ∃ a xs, v = .ref a ∧ H a = some (.tup xs) ∧ xs.length ≤ sizeLine ∧ RpL H α xs ds ∧ some a ∉ α := by
  cases r with
  | tup h n l q => exact ⟨_, _, rfl, h, l, q, n⟩
theorem asLst_of (w : Wd H α S) {p : P} {ds : List D} (r : RpP K H α v p) (h : asLst p S = some ds) : ∃ a xs, v = .ref a ∧ H a = some (.lst xs) ∧ xs.length ≤ sizeLine ∧ RpL H α xs ds := by
  match p, r, h with
  | .dat (.list xs), r, h =>
    cases h
    cases r with
    | lst h n l q => exact ⟨_, _, rfl, h, l, q⟩
  | .obj k, r, h =>
    obtain ⟨a, vs, e1, _, e2, e3, e4⟩ := w.lst r (lstAt_of h)
    exact ⟨a, vs, e1, e2, e3, e4⟩
  | .fz _, _, h => cases h
  | .dat .none, _, h => cases h
  | .dat (.bool _), _, h => cases h
  | .dat (.int _), _, h => cases h
  | .dat (.str _), _, h => cases h
  | .dat (.tuple _), _, h => cases h
  | .dat (.dict _), _, h => cases h
end
def intsOf : List D → Option (List Int)
  | [] => some []
  | .int i :: r => bd (intsOf r) fun ns => some (i :: ns)
  | _ :: _ => none
def boolsOf : List D → Option (List Bool)
  | [] => some []
  | .bool i :: r => bd (boolsOf r) fun ns => some (i :: ns)
  | _ :: _ => none
def dats : List P → Option (List D)
  | [] => some []
  | .dat d :: r => bd (dats r) fun ns => some (d :: ns)
  | _ :: _ => none
theorem intsOf_map : ∀ ns : List Int, intsOf (ns.map PyData.int) = some ns
  | [] => rfl
  | n :: ns => by
    show bd (intsOf (ns.map PyData.int)) _ = _
    rw [intsOf_map ns]; rfl
theorem boolsOf_map : ∀ ns : List Bool, boolsOf (ns.map PyData.bool) = some ns
  | [] => rfl
  | n :: ns => by
    show bd (boolsOf (ns.map PyData.bool)) _ = _
    rw [boolsOf_map ns]; rfl
theorem intsOf_eq : ∀ {ds : List D} {ns : List Int}, intsOf ds = some ns → ds = ns.map PyData.int
  | [], ns, h => by cases h; rfl
  | d :: r, ns, h => by
    match d, h with
    | .int i, h =>
      obtain ⟨z, h1, h2⟩ := bd_of h
      cases h2
      rw [intsOf_eq h1]; rfl
theorem boolsOf_eq : ∀ {ds : List D} {ns : List Bool}, boolsOf ds = some ns → ds = ns.map PyData.bool
  | [], ns, h => by cases h; rfl
  | d :: r, ns, h => by
    match d, h with
    | .bool i, h =>
      obtain ⟨z, h1, h2⟩ := bd_of h
      cases h2
      rw [boolsOf_eq h1]; rfl
theorem dats_eq : ∀ {ps : List P} {ds : List D}, dats ps = some ds → ps = ds.map P.dat
  | [], ds, h => by cases h; rfl
  | p :: r, ds, h => by
    match p, h with
    | .dat i, h =>
      obtain ⟨z, h1, h2⟩ := bd_of h
      cases h2
      rw [dats_eq h1]; rfl
theorem dats_map : ∀ ds : List D, dats (ds.map P.dat) = some ds
  | [] => rfl
  | d :: r => by
    show bd (dats (r.map P.dat)) _ = _
    rw [dats_map r]; rfl
section
variable {H : Hp} {α : Ad}
theorem RpL.ints : ∀ {vs : List V} {ns : List Int}, RpL H α vs (ns.map PyData.int) → vs = ns.map V.int
  | _, [], .nil => rfl
  | _, n :: ns, .cons (.int _) t => by rw [List.map_cons, ← t.ints]
theorem RpL.bools : ∀ {vs : List V} {ns : List Bool}, RpL H α vs (ns.map PyData.bool) → vs = ns.map V.bl
  | _, [], .nil => rfl
  | _, n :: ns, .cons (.bl _) t => by rw [List.map_cons, ← t.bools]
theorem RpL.ofInts : ∀ ns : List Int, RpL H α (ns.map V.int) (ns.map PyData.int)
  | [] => .nil
  | n :: ns => .cons (.int n) (RpL.ofInts ns)
theorem RpPs.dats : ∀ {vs : List V} {ds : List D}, RpPs K H α vs (ds.map P.dat) → RpL H α vs ds
  | _, [], .nil => .nil
  | _, d :: ds, .cons h t => .cons h t.dats
end

/-! ### arithmetic, comparisons -/
def oII (g : Int → Int → D) : OF := fun p q S => bd (asInt p) fun i => bd (asInt q) fun j => some (.dat (g i j), S)
def oIIc (c : Int → Int → Bool) (g : Int → Int → D) : OF := fun p q S => bd (asInt p) fun i => bd (asInt q) fun j => if c i j = true then some (.dat (g i j), S) else none
theorem od_ii {g : Int → Int → V} {g' : Int → Int → D} (hg : ∀ i j H α, Rp H α (g i j) (g' i j)) : OpD K (rI0 g) (oII g') := fun H α S x y p q z S' Q w rx ry e k => by
  obtain ⟨i, h1, e⟩ := bd_of e
  obtain ⟨j, h2, e⟩ := bd_of e
  cases e
  cases asInt_of h1
  cases asInt_of h2
  exact ⟨i, j, int_of rx, int_of ry, k.now w (hg i j H α)⟩
theorem od_iic {C : Int → Int → Prop} {c : Int → Int → Bool} {g : Int → Int → V} {g' : Int → Int → D} (hc : ∀ i j, c i j = true → C i j) (hg : ∀ i j H α, Rp H α (g i j) (g' i j)) : OpD K (rI C g) (oIIc c g') := fun H α S x y p q z S' Q w rx ry e k => by
  obtain ⟨i, h1, e⟩ := bd_of e
  obtain ⟨j, h2, e⟩ := bd_of e
  split at e
  · rename_i hcc
    cases e
    cases asInt_of h1
    cases asInt_of h2
    exact ⟨i, j, int_of rx, int_of ry, hc i j hcc, k.now w (hg i j H α)⟩
  · cases e
abbrev oSub : OF := oII fun i j => .int (i - j)
abbrev oLt : OF := oII fun i j => .bool (decide (i < j))
abbrev oLe : OF := oII fun i j => .bool (decide (i ≤ j))
abbrev oGt : OF := oII fun i j => .bool (decide (j < i))
abbrev oGe : OF := oII fun i j => .bool (decide (j ≤ i))
abbrev oMulI : OF := oIIc (fun i j => decide (i.natAbs < 2 ^ 500000) && decide (j.natAbs < 2 ^ 400000)) fun i j => .int (i * j)
abbrev oDiv : OF := oIIc (fun i j => decide (0 < j) && decide (j.natAbs < 2 ^ 1000)) fun i j => .int (i / j)
abbrev oMod : OF := oIIc (fun _ j => decide (0 < j)) fun i j => .int (i % j)
abbrev oPow : OF := oIIc (fun i j => decide (0 ≤ j) && (decide (j ≤ 1000) && decide (i.natAbs < 2 ^ 60))) fun i j => .int (i ^ j.toNat)
theorem od_sub : OpD K (rI0 fun i j => .int (i - j)) oSub := od_ii fun _ _ _ _ => .int _
theorem od_lt : OpD K (rI0 fun i j => .bl (decide (i < j))) oLt := od_ii fun _ _ _ _ => .bl _
theorem od_le : OpD K (rI0 fun i j => .bl (decide (i ≤ j))) oLe := od_ii fun _ _ _ _ => .bl _
theorem od_gt : OpD K (rI0 fun i j => .bl (decide (j < i))) oGt := od_ii fun _ _ _ _ => .bl _
theorem od_ge : OpD K (rI0 fun i j => .bl (decide (j ≤ i))) oGe := od_ii fun _ _ _ _ => .bl _
theorem log2_lt {n k : Nat} (h : n < 2 ^ k) (hk : 0 < k) : n.log2 < k := by
  by_cases h0 : n = 0
  · subst h0; simpa using hk
  · exact (Nat.log2_lt h0).mpr h
theorem od_mul : OpD K (rI CMulW fun i j => .int (i * j)) oMulI := od_iic (fun i j h => by
  obtain ⟨h1, h2⟩ := Bool.and_eq_true_iff.mp h
  have a1 := log2_lt (of_decide_eq_true h1) (by decide)
  have a2 := log2_lt (of_decide_eq_true h2) (by decide)
  unfold CMulW
  omega) fun _ _ _ _ => .int _
theorem od_div : OpD K (rI CDivW fun i j => .int (i / j)) oDiv := od_iic (fun i j h => by
  obtain ⟨h1, h2⟩ := Bool.and_eq_true_iff.mp h
  have a2 := log2_lt (of_decide_eq_true h2) (by decide)
  exact ⟨of_decide_eq_true h1, Nat.lt_trans a2 (by decide)⟩) fun _ _ _ _ => .int _
theorem od_mod : OpD K (rI (fun _ j => 0 < j) fun i j => .int (i % j)) oMod := od_iic (fun i j h => of_decide_eq_true h) fun _ _ _ _ => .int _
theorem od_pow : OpD K (rI CPow fun i j => .int (i ^ j.toNat)) oPow := od_iic (fun i j h => by
  obtain ⟨h1, h2⟩ := Bool.and_eq_true_iff.mp h
  obtain ⟨h3, h4⟩ := Bool.and_eq_true_iff.mp h2
  have a1 := of_decide_eq_true h1
  have a2 := of_decide_eq_true h3
  have a3 := of_decide_eq_true h4
  refine ⟨a1, by omega, Nat.lt_of_lt_of_le a3 (Nat.pow_le_pow_right (by decide) (by decide))⟩) fun _ _ _ _ => .int _
def oNeg : UF := fun p S => bd (asInt p) fun i => some (.dat (.int (-i)), S)
theorem ud_neg : UnD K (rU fun i => .int (-i)) oNeg := fun H α S x p z S' Q w rx e k => by
  obtain ⟨i, h1, e⟩ := bd_of e
  cases e
  cases asInt_of h1
  exact ⟨i, int_of rx, k.now w (.int _)⟩

/-! ### new things -/
section
variable {H : Hp} {α : Ad} {S : Sto}
theorem Aft.newDat {o : HO} {v : V} {d : D} {Q : VK} {p : Addr} (w : Wd H α S) (k : Aft K H α S (.dat d) Q) (hp : H p = none) (r : Rp (upd H p o) α v d) : Q v (upd H p o) :=
  k v _ α (Adv.new w hp) (w.new hp) r
theorem Aft.newObj {o : HO} {m : MO} {Q : VK} {p : Addr} (w : Wd H α S) (k : Aft K H α (S ++ [m]) (.obj S.length) Q) (hp : H p = none) (r : MRep (upd H p o) (α ++ [some p]) p m) : Q (.ref p) (upd H p o) :=
  k _ _ _ (Adv.newObj w hp) (w.newObj hp r) ⟨by rw [List.length_append, w.len]; exact Nat.lt_succ_self _, p, rfl, fun a e => by
    rw [List.getElem?_append_right (by rw [w.len]; exact Nat.le_refl _), w.len, Nat.sub_self] at e
    have : p = a := by simpa using e
    rw [this]⟩
theorem Aft.newLst {xs : List V} {ds : List D} {Q : VK} {p : Addr} (w : Wd H α S) (k : Aft K H α (S ++ [.lst ds]) (.obj S.length) Q) (hp : H p = none) (hl : xs.length ≤ sizeLine) (r : RpL H α xs ds) : Q (.ref p) (upd H p (.lst xs)) :=
  k.newObj w hp ⟨xs, upd_same, hl, RpL.mono (Adv.newObj w hp) r⟩
theorem Aft.newTup {xs : List V} {ds : List D} {Q : VK} {p : Addr} (w : Wd H α S) (k : Aft K H α S (.dat (.tuple ds)) Q) (hp : H p = none) (hl : xs.length ≤ sizeLine) (r : RpL H α xs ds) : Q (.ref p) (upd H p (.tup xs)) :=
  k.newDat w hp (.tup upd_same (w.fresh hp) hl (RpL.mono (Adv.new w hp) r))
end

/-! ### + -/
def oAdd : OF := fun p q S => match asInt p with
  | some i => bd (asInt q) fun j => some (.dat (.int (i + j)), S)
  | none => match asLst p S with
    | some xs => bd (asLst q S) fun ys => if xs.length + ys.length ≤ lim then some (.obj S.length, S ++ [.lst (xs ++ ys)]) else none
    | none => bd (asTup p) fun xs => bd (asTup q) fun ys => if xs.length + ys.length ≤ lim then some (.dat (.tuple (xs ++ ys)), S) else none
def rAddP (K : PySem.W.Frag) : R2 := fun x y H Q => (rI0 (fun i j => .int (i + j)) x y H Q ∨ rCat x y H Q) ∨ rCatA K x y H Q
theorem op_addP {X : Cx} : OpR X (binaryOp .Add) (rAddP X.K) := OpR.or (OpR.or op_add op_cat) op_catA
theorem RpL.nil_iff {H : Hp} {α : Ad} {vs : List V} {ds : List D} (r : RpL H α vs ds) : vs = [] ↔ ds = [] := by
  cases r with
  | nil => simp
  | cons _ _ => simp
theorem od_add : OpD K (rAddP K) oAdd := fun H α S x y p q z S' Q w rx ry e k => by
  unfold oAdd at e
  split at e
  · rename_i i h1
    obtain ⟨j, h2, e⟩ := bd_of e
    cases e
    cases asInt_of h1
    cases asInt_of h2
    exact .inl (.inl ⟨i, j, int_of rx, int_of ry, k.now w (.int _)⟩)
  · split at e
    · rename_i xs h1
      obtain ⟨ys, h2, e⟩ := bd_of e
      split at e
      · rename_i hl
        cases e
        obtain ⟨a, us, rfl, g1, g2, g3⟩ := asLst_of w rx h1
        obtain ⟨b, vs, rfl, g4, g5, g6⟩ := asLst_of w ry h2
        have hl' : us.length + vs.length ≤ sizeLine := by rw [g3.length, g6.length, lim_eq]; exact hl
        exact .inl (.inr ⟨a, b, us, vs, rfl, rfl, g1, g4, hl', fun p' hp => k.newLst w hp (by rw [List.length_append]; exact hl') (g3.append g6)⟩)
      · cases e
    · obtain ⟨xs, h1, e⟩ := bd_of e
      obtain ⟨ys, h2, e⟩ := bd_of e
      split at e
      · rename_i hl
        cases e
        cases asTup_of h1
        cases asTup_of h2
        obtain ⟨a, us, rfl, g1, g2, g3, gn⟩ := tup_of rx
        obtain ⟨b, vs, rfl, g4, g5, g6, gm⟩ := tup_of ry
        have hl' : us.length + vs.length ≤ sizeLine := by rw [g3.length, g6.length, lim_eq]; exact hl
        refine .inr ⟨a, b, us, vs, rfl, rfl, SqT.of g1, SqT.of g4, hl', fun h0 => ?_, fun h0 h3 => ?_, fun h0 h3 p' hp => k.newTup w hp (by rw [List.length_append]; exact hl') (g3.append g6)⟩
        · have hx := g3.nil_iff.mp h0
          subst hx
          exact k.now w (.tup g4 gm g5 g6)
        · have hy := g6.nil_iff.mp h3
          subst hy
          rw [List.append_nil] at k
          exact k.now w (.tup g1 gn g2 g3)
      · cases e
/-- list * int -/
def oMul : OF := fun p q S => match asLst p S with
  | some xs => bd (asInt q) fun n => if -(2 ^ 60) ≤ n ∧ n < 2 ^ 60 ∧ xs.length * n.toNat ≤ lim then some (.obj S.length, S ++ [.lst (List.replicate n.toNat xs).flatten]) else none
  | none => oMulI p q S
def rMulP : R2 := fun x y H Q => rI CMulW (fun i j => .int (i * j)) x y H Q ∨ rRep x y H Q
theorem op_mulP {X : Cx} : OpR X (binaryOp .Mult) rMulP := OpR.or op_mulW op_rep
theorem RpL.rep {H : Hp} {α : Ad} {vs : List V} {ds : List D} (r : RpL H α vs ds) : ∀ n, RpL H α (List.replicate n vs).flatten (List.replicate n ds).flatten
  | 0 => .nil
  | n + 1 => by
    rw [List.replicate_succ, List.replicate_succ, List.flatten_cons, List.flatten_cons]
    exact r.append (r.rep n)
theorem rep_len {β : Type} (xs : List β) : ∀ n, (List.replicate n xs).flatten.length = n * xs.length
  | 0 => by simp
  | n + 1 => by rw [List.replicate_succ, List.flatten_cons, List.length_append, rep_len xs n, Nat.succ_mul, Nat.add_comm]
theorem od_mulP : OpD K rMulP oMul := fun H α S x y p q z S' Q w rx ry e k => by
  unfold oMul at e
  split at e
  · rename_i xs h1
    obtain ⟨n, h2, e⟩ := bd_of e
    split at e
    · rename_i hl
      cases e
      cases asInt_of h2
      obtain ⟨a, us, rfl, g1, g2, g3⟩ := asLst_of w rx h1
      have hl' : us.length * n.toNat ≤ sizeLine := by rw [g3.length, lim_eq]; exact hl.2.2
      exact .inr ⟨a, n, us, rfl, int_of ry, g1, Int.le_trans (by decide) hl.1, Int.lt_of_lt_of_le hl.2.1 (by decide), hl', fun p' hp => k.newLst w hp (by rw [rep_len, Nat.mul_comm]; exact hl') (g3.rep _)⟩
    · cases e
  · exact .inl (od_mul H α S x y p q z S' Q w rx ry e k)

/-! ### == of data -/
def rdP (p : P) (S : Sto) : Option D := match p with
  | .dat d => some d
  | .obj k => bd (lstAt k S) fun xs => some (.list xs)
  | .fz xs => some (.list xs)
mutual
theorem Rp.dp {H : Hp} {α : Ad} : ∀ {v : V} {d : D}, Rp H α v d → Dp K H v d
  | _, _, .non => .non
  | _, _, .bl b => .bl b
  | _, _, .int i => .int i
  | _, _, .str x => .str x
  | _, _, .lst h _ _ r => .lst (SqL.of h) (RpL.dp r)
  | _, _, .tup h _ _ r => .tup (SqT.of h) (RpL.dp r)
theorem RpL.dp {H : Hp} {α : Ad} : ∀ {vs : List V} {ds : List D}, RpL H α vs ds → DpAll K H vs ds
  | _, _, .nil => .nil
  | _, _, .cons h t => .cons (Rp.dp h) (RpL.dp t)
end
theorem rdP_of {H : Hp} {α : Ad} {S : Sto} (w : Wd H α S) {v : V} {p : P} {d : D} (r : RpP K H α v p) (h : rdP p S = some d) : Dp K H v d := by
  match p, r, h with
  | .dat d, r, h => cases h; exact Rp.dp r
  | .obj k, r, h =>
    obtain ⟨xs, h1, h2⟩ := bd_of h
    cases h2
    obtain ⟨a, vs, rfl, _, e2, e3, e4⟩ := w.lst r (lstAt_of h1)
    exact .lst (SqL.of e2) (RpL.dp e4)
  | .fz xs, ⟨a, vs, e1, e2, l, e3⟩, h =>
    cases h
    subst e1
    exact .lst e2.seq (RpL.dp e3)
/-- data that == can tell -/
def okD (d : D) : Bool := SeqAt.shaped d
def oEq : OF := fun p q S => bd (rdP p S) fun d => bd (rdP q S) fun e => if (okD d && okD e) = true then some (.dat (.bool (PyData.eqv d e)), S) else none
def oNe : OF := fun p q S => bd (rdP p S) fun d => bd (rdP q S) fun e => if (okD d && okD e) = true then some (.dat (.bool (!PyData.eqv d e)), S) else none
theorem od_eq : OpD K (rEqD K) oEq := fun H α S x y p q z S' Q w rx ry e k => by
  obtain ⟨d, h1, e⟩ := bd_of e
  obtain ⟨d', h2, e⟩ := bd_of e
  split at e
  · rename_i hs
    cases e
    obtain ⟨s1, s2⟩ := Bool.and_eq_true_iff.mp hs
    exact ⟨d, d', rdP_of w rx h1, rdP_of w ry h2, s1, s2, k.now w (.bl _)⟩
  · cases e
theorem od_ne : OpD K (rNeD K) oNe := fun H α S x y p q z S' Q w rx ry e k => by
  obtain ⟨d, h1, e⟩ := bd_of e
  obtain ⟨d', h2, e⟩ := bd_of e
  split at e
  · rename_i hs
    cases e
    obtain ⟨s1, s2⟩ := Bool.and_eq_true_iff.mp hs
    exact ⟨d, d', rdP_of w rx h1, rdP_of w ry h2, s1, s2, k.now w (.bl _)⟩
  · cases e
/-- is None -/
def isNone : P → Bool
  | .dat .none => true
  | _ => false
def oIsN : OF := fun p q S => if isNone q = true then some (.dat (.bool (isNone p)), S) else none
def oNotN : OF := fun p q S => if isNone q = true then some (.dat (.bool (!isNone p)), S) else none
theorem isNone_of {H : Hp} {α : Ad} {v : V} {p : P} (r : RpP K H α v p) : decide (v = .non) = isNone p := by
  match p, r with
  | .dat .none, r => cases r; rfl
  | .dat (.bool _), r => cases r; rfl
  | .dat (.int _), r => cases r; rfl
  | .dat (.str _), r => cases r; rfl
  | .dat (.list _), r => cases r; rfl
  | .dat (.tuple _), r => cases r; rfl
  | .obj k, ⟨_, b, e1, _⟩ => rw [e1]; rfl
  | .fz xs, ⟨a, vs, e1, _⟩ => rw [e1]; rfl
theorem isN_y {H : Hp} {α : Ad} {v : V} {p : P} (r : RpP K H α v p) (h : isNone p = true) : v = .non := by
  rw [← isNone_of r] at h
  exact of_decide_eq_true h
theorem od_isN : OpD K (fun x y H Q => y = .non ∧ Q (.bl (decide (x = .non))) H) oIsN := fun H α S x y p q z S' Q w rx ry e k => by
  unfold oIsN at e
  split at e
  · rename_i h
    cases e
    refine ⟨isN_y ry h, ?_⟩
    rw [isNone_of rx]
    exact k.now w (.bl _)
  · cases e
theorem od_notN : OpD K (fun x y H Q => y = .non ∧ Q (.bl (!decide (x = .non))) H) oNotN := fun H α S x y p q z S' Q w rx ry e k => by
  unfold oNotN at e
  split at e
  · rename_i h
    cases e
    refine ⟨isN_y ry h, ?_⟩
    rw [isNone_of rx]
    exact k.now w (.bl _)
  · cases e

/-! ### in, among the items of a list or tuple -/
def flatD : D → Bool
  | .none => true
  | .bool _ => true
  | .int _ => true
  | .str _ => true
  | _ => false
theorem flat_of {H : Hp} {α : Ad} {v : V} {d : D} (r : Rp H α v d) : flatV v = flatD d := by
  cases r <;> rfl
theorem flats_of {H : Hp} {α : Ad} : ∀ {vs : List V} {ds : List D}, RpL H α vs ds → vs.all flatV = ds.all flatD
  | _, _, .nil => rfl
  | _, _, .cons h t => by rw [List.all_cons, List.all_cons, flat_of h, flats_of t]
theorem eqV_of {H : Hp} {α : Ad} {v u : V} {d e : D} (r : Rp H α v d) (s : Rp H α u e) (f : flatD d = true) (g : flatD e = true) : eqV v u = PyData.eqv d e := by
  cases r <;> cases s <;> first | rfl | cases f | cases g
theorem inV_of {H : Hp} {α : Ad} {v : V} {d : D} (r : Rp H α v d) (f : flatD d = true) : ∀ {vs : List V} {ds : List D}, RpL H α vs ds → ds.all flatD = true → inV v vs = ds.any fun e => PyData.eqv e d
  | _, _, .nil, _ => rfl
  | _, _, .cons h t, g => by
    rw [List.all_cons, Bool.and_eq_true_iff] at g
    unfold inV
    rw [List.any_cons, List.any_cons, eqV_of h r g.1 f]
    have := inV_of r f t g.2
    unfold inV at this
    rw [this]
/-- x in xs (neg: not in) -/
def oIn (neg : Bool) : OF := fun p q S => bd (asDat p) fun d => bd (seqOf q S) fun ds =>
  if (flatD d && ds.all flatD) = true then some (.dat (.bool (if neg then !(ds.any fun e => PyData.eqv e d) else ds.any fun e => PyData.eqv e d)), S) else none
theorem od_in {neg : Bool} : OpD K (rIn K neg) (oIn neg) := fun H α S x y p q z S' Q w rx ry e k => by
  obtain ⟨d, h1, e⟩ := bd_of e
  obtain ⟨ds, h2, e⟩ := bd_of e
  split at e
  · rename_i hs
    cases e
    cases asDat_of h1
    obtain ⟨s1, s2⟩ := Bool.and_eq_true_iff.mp hs
    obtain ⟨a, xs, rfl, g1, g2, g3⟩ := seqOf_at (K := K) w ry h2
    refine ⟨a, xs, rfl, g1.symm, (flat_of rx).trans s1, (flats_of g3).trans s2, ?_⟩
    rw [inV_of rx s1 g3 s2]
    exact k.now w (.bl _)
  · cases e
/-- x in xs, a list of data of any depth (neg: not in) -/
def oInD (neg : Bool) : OF := fun p q S => bd (rdP p S) fun d => bd (rdP q S) fun e => match e with
  | .list ds => if (okD d && okD (.list ds)) = true then some (.dat (.bool (if neg then !(ds.any fun z => PyData.eqv z d) else ds.any fun z => PyData.eqv z d)), S) else none
  | _ => none
theorem od_inD : OpD K (rInD K) (oInD false) := fun H α S x y p q z S' Q w rx ry e k => by
  obtain ⟨d, h1, e⟩ := bd_of e
  obtain ⟨d', h2, e⟩ := bd_of e
  split at e
  · rename_i ds
    split at e
    · rename_i hs
      cases e
      obtain ⟨s1, s2⟩ := Bool.and_eq_true_iff.mp hs
      exact ⟨d, ds, rdP_of w rx h1, rdP_of w ry h2, s1, s2, k.now w (.bl _)⟩
    · cases e
  · cases e
theorem od_notInD : OpD K (rNotInD K) (oInD true) := fun H α S x y p q z S' Q w rx ry e k => by
  obtain ⟨d, h1, e⟩ := bd_of e
  obtain ⟨d', h2, e⟩ := bd_of e
  split at e
  · rename_i ds
    split at e
    · rename_i hs
      cases e
      obtain ⟨s1, s2⟩ := Bool.and_eq_true_iff.mp hs
      exact ⟨d, ds, rdP_of w rx h1, rdP_of w ry h2, s1, s2, k.now w (.bl _)⟩
    · cases e
  · cases e

/-! ### displays -/
def eTup (f : AF) : EF := fun ρ S => bd (f ρ S) fun x => bd (dats x.1) fun ds => if ds.length ≤ lim then some (.dat (.tuple ds), x.2) else none
def eLst (f : AF) : EF := fun ρ S => bd (f ρ S) fun x => bd (dats x.1) fun ds => if ds.length ≤ lim then some (.obj x.2.length, x.2 ++ [.lst ds]) else none
section
variable {X : Cx} {es : List Expr} {e : Expr} {f fr : AF} {fa : EF} {pos p : Pos}
theorem me_tup {x1} (h : PA X es (tA X.K f)) : PE X (.Tuple es x1 pos) (tE X.K (eTup f)) := (pe_tup h).imp fun σ H Q => by
  rintro ⟨ρ, S, α, z, S', w, s, e, k⟩
  obtain ⟨⟨x, S1⟩, e1, e⟩ := bd_of e
  obtain ⟨ds, h1, e⟩ := bd_of e
  split at e
  · rename_i hl
    cases e
    refine ⟨ρ, S, α, x, S1, w, s, e1, fun vs H1 α1 a1 w1 r1 => ?_⟩
    cases dats_eq h1
    have hl' : vs.length ≤ sizeLine := by rw [r1.dats.length, lim_eq]; exact hl
    exact ⟨hl', fun p hp => (k.mono a1).newTup w1 hp hl' r1.dats⟩
  · cases e
theorem me_lst (h : PA X es (tA X.K f)) : PE X (.List es pos) (tE X.K (eLst f)) := (pe_lst h).imp fun σ H Q => by
  rintro ⟨ρ, S, α, z, S', w, s, e, k⟩
  obtain ⟨⟨x, S1⟩, e1, e⟩ := bd_of e
  obtain ⟨ds, h1, e⟩ := bd_of e
  split at e
  · rename_i hl
    cases e
    refine ⟨ρ, S, α, x, S1, w, s, e1, fun vs H1 α1 a1 w1 r1 => ?_⟩
    cases dats_eq h1
    have hl' : vs.length ≤ sizeLine := by rw [r1.dats.length, lim_eq]; exact hl
    exact ⟨hl', fun p hp => (k.mono a1).newLst w1 hp hl' r1.dats⟩
  · cases e
theorem ma_star (he : PE X e (tE X.K fa)) (hr : PA X es (tA X.K fr)) (hs : starEach (.Starred e p :: es) X.env = (true, eval e X.env) :: starEach es X.env := by rfl) : PA X (.Starred e p :: es) (tA X.K (aStar fa fr)) := (StX.pa_star he hr hs).imp fun σ H Q => by
  rintro ⟨ρ, S, α, z, S', w, s, e, k⟩
  obtain ⟨⟨x, S1⟩, e1, e⟩ := bd_of e
  obtain ⟨ds, h1, e⟩ := bd_of e
  obtain ⟨⟨y, S2⟩, e2, e⟩ := bd_of e
  cases e
  refine ⟨ρ, S, α, x, S1, w, s, e1, fun v H1 α1 a1 w1 r1 => ?_⟩
  obtain ⟨a, xs, g0, g1, g2, g3⟩ := seqOf_at (K := X.K) w1 r1 h1
  exact ⟨a, xs, g0, g1, ρ, S1, α1, y, S2, w1, s.mono a1, e2, fun vs H2 α2 a2 w2 r2 => k _ _ _ (a1.trans a2) w2 (RpPs.append (RpPs.ofL (RpL.mono a2 g3)) r2)⟩
end

/-! ### what stands still from here on -/
def frzP (n : Nat) (p : P) (S : Sto) : Option (P × Sto) := match p with
  | .obj k => bd (lstAt k S) fun xs => some (.dat (.list xs), if n ≤ k ∧ k + 1 = S.length then S.take k else S.set k .dead)
  | .dat d => some (.dat d, S)
  | .fz xs => some (.fz xs, S)
def eFrz (f : EF) : EF := fun ρ S => bd (f ρ S) fun x => frzP S.length x.1 x.2
theorem frz_new (S : Sto) (xs : List D) : frzP S.length (.obj S.length) (S ++ [.lst xs]) = some (.dat (.list xs), S) := by
  unfold frzP
  have h1 : lstAt S.length (S ++ [MO.lst xs]) = some xs := by
    unfold lstAt
    rw [List.getElem?_append_right (Nat.le_refl _), Nat.sub_self]
    rfl
  show bd (lstAt S.length (S ++ [MO.lst xs])) _ = _
  rw [h1]
  show some _ = _
  rw [if_pos ⟨Nat.le_refl _, by rw [List.length_append]; rfl⟩, List.take_left']
  rfl
theorem frz_aft {H : Hp} {α : Ad} {S : Sto} {p z : P} {S1 S' : Sto} {Q : VK} (hl : α.length = S.length) (e : frzP S.length p S1 = some (z, S')) (k : Aft K H α S' z Q) : Aft K H α S1 p Q := fun v H' α' a w r => by
  match p, e, r with
  | .dat d, e, r => cases e; exact k v H' α' a w r
  | .fz xs, e, r => cases e; exact k v H' α' a w r
  | .obj j, e, r =>
    obtain ⟨xs, h1, e⟩ := bd_of e
    obtain ⟨b, vs, rfl, g1, g2, g3, g4⟩ := w.lst r (lstAt_of h1)
    by_cases c : S.length ≤ j ∧ j + 1 = S1.length
    · rw [if_pos c] at e
      cases e
      have hs : ∀ x, some x ∈ α'.take j → some x ∈ α' := fun x m => List.mem_of_mem_take m
      have hb : some b ∉ α'.take j := fun m => by
        obtain ⟨i, hi, q⟩ := List.mem_iff_getElem.mp m
        have q1 : (α'.take j)[i]? = some (some b) := by rw [List.getElem?_eq_getElem hi, q]
        obtain ⟨q2, q3⟩ := take_at q1
        have := w.inj i j b q3 g1
        omega
      refine k _ H' (α'.take j) ⟨a.keep, fun x m => a.old x (hs x m), ?_, fun i x hi m => a.pre i x hi (take_at m).2⟩ (w.take j) (.lst g2 hb g3 (RpL.sub hs g4))
      rw [List.length_take, w.len]
      omega
    · rw [if_neg c] at e
      cases e
      exact k _ H' (α'.set j none) (a.trans Adv.kill) w.kill (.lst g2 (kill_out w g1) g3 (RpL.sub sub_kill g4))
theorem me_frz {X : Cx} {e : Expr} {f : EF} (h : PE X e (tE X.K f)) : PE X e (tE X.K (eFrz f)) := h.imp fun σ H Q => by
  rintro ⟨ρ, S, α, z, S', w, s, e, k⟩
  obtain ⟨⟨x, S1⟩, e1, e⟩ := bd_of e
  exact ⟨ρ, S, α, x, S1, w, s, e1, frz_aft w.len e k⟩

/-! ### calls -/
/-- a def's promise -/
def spF (K : PySem.W.Frag) (F : VF) : Sp := fun vs H Q _ => ∃ ps S α z S', Wd H α S ∧ RpPs K H α vs ps ∧ F ps S = some (z, S') ∧ Aft K H α S' z Q
def eCall (F : VF) (a : AF) : EF := fun ρ S => bd (a ρ S) fun x => F x.1 x.2
section
variable {X : Cx} {e : Expr} {es : List Expr} {f : AF} {fa : EF} {x : Str} {pos p : Pos}
theorem me_call {k : Nat} {g : Addr} {fd : FuncData} {prm : List Str} {G : VF} (F : FnOk X.prog X.w X.K X.mg X.base CX0 k g fd prm (spF X.K G)) (hr : Room k X.A) (hm : X.mg x = some (.ref g)) (hk : PySem.W.keepIn X.K (.ref g) = true) (hb : Binds X.K fd prm []) (ha : PA X (e :: es) (tA X.K f)) (hg : Gl X x := by rfl)
    (hdb : (x == ("__debug__" : Str)) = false := by decide) (he : starEach (e :: es) X.env = (false, eval e X.env) :: starEach es X.env := by rfl) (hpl : (backTo pos (starEach es X.env)).any (·.1) = false := by rfl) :
    PE X (.Call (.Name x p) (e :: es) [] pos) (tE X.K (eCall G f)) := (pe_call F hr hg hm hk hb .nil pass0 ha hdb he hpl).imp fun σ H Q => by
  rintro ⟨ρ, S, α, z, S', w, s, e, k⟩
  obtain ⟨⟨y, S1⟩, e1, e⟩ := bd_of e
  refine ⟨ρ, S, α, y, S1, w, s, e1, fun vs H1 α1 a1 w1 r1 => ?_⟩
  show spF X.K G (vs ++ []) H1 Q E0
  rw [List.append_nil]
  exact ⟨y, S1, α1, z, S', w1, r1, e, k.mono a1⟩
/-- a built-in function, a built-in type, called -/
theorem me_callB {id : String} {r : List V → Hp → VK → Prop} {o : VF} (hc : CallR X (.builtin id) r) (hd : CaD X.K r o) (hm : X.mg x = none) (hv : bootBuiltins x = some (.builtin id)) (ha : PA X (e :: es) (tA X.K f)) (hg : Gl X x := by rfl) (hn : x ≠ "__name__" := by decide) (hdb : (x == ("__debug__" : Str)) = false := by decide)
    (he : starEach (e :: es) X.env = (false, eval e X.env) :: starEach es X.env := by rfl) (hpl : (backTo pos (starEach es X.env)).any (·.1) = false := by rfl) : PE X (.Call (.Name x p) (e :: es) [] pos) (tE X.K (eCall o f)) :=
  (pe_callB hc hg hm hv ha hn hdb he hpl).imp fun σ H Q => by
  rintro ⟨ρ, S, α, z, S', w, s, e, k⟩
  obtain ⟨⟨y, S1⟩, e1, e⟩ := bd_of e
  exact ⟨ρ, S, α, y, S1, w, s, e1, fun vs H1 α1 a1 w1 r1 => hd H1 α1 S1 vs y z S' Q w1 r1 e (k.mono a1)⟩
theorem me_callTy {T : String} {r : List V → Hp → VK → Prop} {o : VF} (hc : CallR X (.type T) r) (hd : CaD X.K r o) (hm : X.mg x = none) (hv : bootBuiltins x = some (.type T)) (ha : PA X (e :: es) (tA X.K f)) (hg : Gl X x := by rfl) (hn : x ≠ "__name__" := by decide) (hdb : (x == ("__debug__" : Str)) = false := by decide)
    (he : starEach (e :: es) X.env = (false, eval e X.env) :: starEach es X.env := by rfl) (hpl : (backTo pos (starEach es X.env)).any (·.1) = false := by rfl) : PE X (.Call (.Name x p) (e :: es) [] pos) (tE X.K (eCall o f)) :=
  (pe_callTy hc hg hm hv ha hn hdb he hpl).imp fun σ H Q => by
  rintro ⟨ρ, S, α, z, S', w, s, e, k⟩
  obtain ⟨⟨y, S1⟩, e1, e⟩ := bd_of e
  exact ⟨ρ, S, α, y, S1, w, s, e1, fun vs H1 α1 a1 w1 r1 => hd H1 α1 S1 vs y z S' Q w1 r1 e (k.mono a1)⟩
end
end Me
set_option Elab.async false
set_option linter.all false
set_option maxRecDepth 100000
set_option maxHeartbeats 1000000
/-! Me4: statements, targets, loops, defs. -/
namespace Me
open PySem PySem.Spec PyProof.Rows L2
variable {K : PySem.W.Frag}

inductive Fl where
  | nx
  | brk
  | ct
  | ret (p : P)
abbrev SF := Ev → Sto → Option (Fl × Ev × Sto)
def Pst (K : PySem.W.Frag) (H : Hp) (α : Ad) (D : Ends) (r : Fl × Ev × Sto) : Prop := match r.1 with
  | .nx => ∀ σ' H' α', Adv H α H' α' → Wd H' α' r.2.2 → Sl K H' α' σ' r.2.1 → D.nx σ' H'
  | .brk => ∀ σ' H' α', Adv H α H' α' → Wd H' α' r.2.2 → Sl K H' α' σ' r.2.1 → D.bk σ' H'
  | .ct => ∀ σ' H' α', Adv H α H' α' → Wd H' α' r.2.2 → Sl K H' α' σ' r.2.1 → D.ct σ' H'
  | .ret p => Aft K H α r.2.2 p D.rt
theorem Pst.mono {H H1 : Hp} {α α1 : Ad} {E : Ends} {r : Fl × Ev × Sto} (a : Adv H α H1 α1) (k : Pst K H α E r) : Pst K H1 α1 E r := by
  obtain ⟨f, ρ', S'⟩ := r
  cases f with
  | nx => exact fun σ' H' α' b w s => k σ' H' α' (a.trans b) w s
  | brk => exact fun σ' H' α' b w s => k σ' H' α' (a.trans b) w s
  | ct => exact fun σ' H' α' b w s => k σ' H' α' (a.trans b) w s
  | ret p => exact Aft.mono a k
def tS (K : PySem.W.Frag) (g : SF) : TS := fun E σ H => ∃ ρ S α r, Wd H α S ∧ Sl K H α σ ρ ∧ g ρ S = some r ∧ Pst K H α E r

def sNil : SF := fun ρ S => some (.nx, ρ, S)
def sBrk : SF := fun ρ S => some (.brk, ρ, S)
def sCt : SF := fun ρ S => some (.ct, ρ, S)
def thenF (h : SF) (r : Fl × Ev × Sto) : Option (Fl × Ev × Sto) := match r.1 with
  | .nx => h r.2.1 r.2.2
  | .brk => some r
  | .ct => some r
  | .ret _ => some r
def sSeq (g h : SF) : SF := fun ρ S => bd (g ρ S) (thenF h)
def sSet (i : Nat) (e : EF) : SF := fun ρ S => bd (e ρ S) fun x => some (.nx, ρ.set i (some x.1), x.2)
def sRet (e : EF) : SF := fun ρ S => bd (e ρ S) fun x => some (.ret x.1, ρ, x.2)
def sRetN : SF := fun ρ S => some (.ret (.dat .none), ρ, S)
def sDrop (e : EF) : SF := fun ρ S => bd (e ρ S) fun x => some (.nx, ρ, x.2)
def sIf (c : CF) (a b : SF) : SF := fun ρ S => bd (c ρ S) fun x => if x.1 = true then a ρ x.2 else b ρ x.2
section
variable {X : Cx} {st : Stmt} {rest sts : List Stmt} {g h : SF} {e : Expr} {f : EF} {pos : Pos}
theorem mss_nil : PSs X [] (tS X.K sNil) := pss_nil.imp fun E σ H => by
  rintro ⟨ρ, S, α, r, w, s, e, k⟩
  cases e
  exact k σ H α .refl w s
theorem ms_pass : PS X (.Pass pos) (tS X.K sNil) := ps_pass.imp fun E σ H => by
  rintro ⟨ρ, S, α, r, w, s, e, k⟩
  cases e
  exact k σ H α .refl w s
theorem ms_brk : PS X (.Break pos) (tS X.K sBrk) := ps_break.imp fun E σ H => by
  rintro ⟨ρ, S, α, r, w, s, e, k⟩
  cases e
  exact k σ H α .refl w s
theorem ms_ct : PS X (.Continue pos) (tS X.K sCt) := ps_continue.imp fun E σ H => by
  rintro ⟨ρ, S, α, r, w, s, e, k⟩
  cases e
  exact k σ H α .refl w s
theorem mss_cons (h1 : PS X st (tS X.K g)) (h2 : PSs X rest (tS X.K h)) : PSs X (st :: rest) (tS X.K (sSeq g h)) := (pss_cons h1 h2).imp fun E σ H => by
  rintro ⟨ρ, S, α, r, w, s, e, k⟩
  obtain ⟨⟨f, ρ1, S1⟩, e1, e⟩ := bd_of e
  refine ⟨ρ, S, α, (f, ρ1, S1), w, s, e1, ?_⟩
  cases f with
  | nx => exact fun σ1 H1 α1 a1 w1 s1 => ⟨ρ1, S1, α1, r, w1, s1, e, k.mono a1⟩
  | brk => cases e; exact k
  | ct => cases e; exact k
  | ret p => cases e; exact k
theorem mss_one (h1 : PS X st (tS X.K g)) : PSs X [st] (tS X.K g) := pss_one h1
theorem ms_never {st : Stmt} : PS X st (tS X.K fun _ _ => none) := ps_never.imp fun E σ H => by
  rintro ⟨ρ, S, α, r, w, s, e, k⟩
  cases e
theorem mss_never {st : List Stmt} : PSs X st (tS X.K fun _ _ => none) := pss_never.imp fun E σ H => by
  rintro ⟨ρ, S, α, r, w, s, e, k⟩
  cases e
theorem ms_doc {x j pos pos'} : PS X (.Expr (.Constant (.str x) j pos) pos') (tS X.K sNil) := ps_doc.imp fun E σ H => by
  rintro ⟨ρ, S, α, r, w, s, e, k⟩
  cases e
  exact k σ H α .refl w s
theorem ms_set (i : Nat) {x : Str} {pos' : Pos} (hN : X.N.Nodup) (he : PE X e (tE X.K f)) (hi : X.N[i]? = some x := by rfl) (hx : Loc X.env.scope x := by first | exact Or.inl rfl | exact Or.inr rfl) (hs : swapsWith e (some (.Name x pos')) pos.line X.env = pure false := by rfl)
    (hf : X.fn x = true ∨ X.env.scope.names.lookup x = some .local := by first | exact .inl rfl | exact .inr rfl | assumption) : PS X (.Assign [.Name x pos'] e pos) (tS X.K (sSet i f)) := (ps_set hN hi hx he hs hf).imp fun E σ H => by
  rintro ⟨ρ, S, α, r, w, s, e, k⟩
  obtain ⟨⟨y, S1⟩, e1, e⟩ := bd_of e
  cases e
  exact ⟨ρ, S, α, y, S1, w, s, e1, fun v H1 α1 a1 w1 r1 => k _ H1 α1 a1 w1 ((s.mono a1).set i r1)⟩
theorem ms_ret (he : PE X e (tE X.K f)) : PS X (.Return (some e) pos) (tS X.K (sRet f)) := (ps_ret he).imp fun E σ H => by
  rintro ⟨ρ, S, α, r, w, s, e, k⟩
  obtain ⟨⟨y, S1⟩, e1, e⟩ := bd_of e
  cases e
  exact ⟨ρ, S, α, y, S1, w, s, e1, k⟩
theorem ms_retN : PS X (.Return none pos) (tS X.K sRetN) := ps_retN.imp fun E σ H => by
  rintro ⟨ρ, S, α, r, w, s, e, k⟩
  cases e
  exact Aft.now k w .non
theorem ms_expr (he : PE X e (tE X.K f)) (hs : swapsWith e none pos.line X.env = pure false := by rfl) : PS X (.Expr e pos) (tS X.K (sDrop f)) := (ps_expr he hs).imp fun E σ H => by
  rintro ⟨ρ, S, α, r, w, s, e, k⟩
  obtain ⟨⟨y, S1⟩, e1, e⟩ := bd_of e
  cases e
  exact ⟨ρ, S, α, y, S1, w, s, e1, fun v H1 α1 a1 w1 r1 => k _ H1 α1 a1 w1 (s.mono a1)⟩
theorem ms_if {c : Expr} {cf : CF} {a b : List Stmt} (hc : PT X c (tT X.K cf)) (ha : PSs X a (tS X.K g)) (hb : PSs X b (tS X.K h)) : PS X (.If c a b pos) (tS X.K (sIf cf g h)) := (ps_if hc ha hb).imp fun E σ H => by
  rintro ⟨ρ, S, α, r, w, s, e, k⟩
  obtain ⟨⟨y, S1⟩, e1, e⟩ := bd_of e
  refine ⟨ρ, S, α, y, S1, w, s, e1, fun H1 α1 a1 w1 => ?_⟩
  cases y with
  | true =>
    rw [if_pos rfl] at e ⊢
    exact ⟨ρ, S1, α1, r, w1, s.mono a1, e, k.mono a1⟩
  | false =>
    rw [if_neg Bool.false_ne_true] at e ⊢
    exact ⟨ρ, S1, α1, r, w1, s.mono a1, e, k.mono a1⟩
end

/-! ### two or three names at once -/
def sPar (i j : Nat) (f : AF) : SF := fun ρ S => bd (f ρ S) fun x => match x.1 with
  | [p, q] => some (.nx, (ρ.set i (some p)).set j (some q), x.2)
  | _ => none
def sPar3 (i j l : Nat) (f : AF) : SF := fun ρ S => bd (f ρ S) fun x => match x.1 with
  | [p, q, o] => some (.nx, ((ρ.set i (some p)).set j (some q)).set l (some o), x.2)
  | _ => none
section
variable {X : Cx} {f : AF}
theorem ms_par (i j : Nat) {x y : Str} {a b : Expr} {px py pt pos : Pos} {kt k2 pt2} (hN : X.N.Nodup) (ha : PA X [a, b] (tA X.K f)) (hc : X.calm = true := by rfl) (hi : X.N[i]? = some x := by rfl) (hj : X.N[j]? = some y := by rfl) (hij : i ≠ j := by decide)
    (hx : X.env.scope.names.lookup x = some .local := by rfl) (hy : X.env.scope.names.lookup y = some .local := by rfl)
    (hw : swappedStores [.Tuple [.Name x px, .Name y py] kt pt] (.Tuple [a, b] k2 pt2) X.env = pure (some [x, y]) := by rfl)
    (hs : swapsWithSole [.Tuple [.Name x px, .Name y py] kt pt] (.Tuple [a, b] k2 pt2) pos.line X.env = pure false := by rfl) :
    PS X (.Assign [.Tuple [.Name x px, .Name y py] kt pt] (.Tuple [a, b] k2 pt2) pos) (tS X.K (sPar i j f)) := (ps_par hc hN hi hj hij hx hy ha hw hs).imp fun E σ H => by
  rintro ⟨ρ, S, α, r, w, s, e, k⟩
  obtain ⟨⟨ps, S1⟩, e1, e⟩ := bd_of e
  match ps, e1, e with
  | [p, q], e1, e =>
    cases e
    refine ⟨ρ, S, α, _, S1, w, s, e1, fun vs H1 α1 a1 w1 r1 => ?_⟩
    match vs, r1 with
    | [v, u], .cons r1 (.cons r2 .nil) => exact ⟨v, u, rfl, k _ H1 α1 a1 w1 (((s.mono a1).set i r1).set j r2)⟩
  | [], _, e => cases e
  | [_], _, e => cases e
  | _ :: _ :: _ :: _, _, e => cases e
theorem ms_par3 (i j l : Nat) {x y z : Str} {a b c : Expr} {px py pz pt pos : Pos} {kt k2 pt2} (hN : X.N.Nodup) (ha : PA X [a, b, c] (tA X.K f)) (hc : X.calm = true := by rfl) (hi : X.N[i]? = some x := by rfl) (hj : X.N[j]? = some y := by rfl) (hl : X.N[l]? = some z := by rfl) (hij : i ≠ j := by decide) (hil : i ≠ l := by decide) (hjl : j ≠ l := by decide)
    (hx : X.env.scope.names.lookup x = some .local := by rfl) (hy : X.env.scope.names.lookup y = some .local := by rfl) (hz : X.env.scope.names.lookup z = some .local := by rfl)
    (hw : swappedStores [.Tuple [.Name x px, .Name y py, .Name z pz] kt pt] (.Tuple [a, b, c] k2 pt2) X.env = pure (some [x, y, z]) := by rfl)
    (hs : swapsWithSole [.Tuple [.Name x px, .Name y py, .Name z pz] kt pt] (.Tuple [a, b, c] k2 pt2) pos.line X.env = pure false := by rfl) :
    PS X (.Assign [.Tuple [.Name x px, .Name y py, .Name z pz] kt pt] (.Tuple [a, b, c] k2 pt2) pos) (tS X.K (sPar3 i j l f)) := (ps_par3 hc hN hi hj hl hij hil hjl hx hy hz ha hw hs).imp fun E σ H => by
  rintro ⟨ρ, S, α, r, w, s, e, k⟩
  obtain ⟨⟨ps, S1⟩, e1, e⟩ := bd_of e
  match ps, e1, e with
  | [p, q, o], e1, e =>
    cases e
    refine ⟨ρ, S, α, _, S1, w, s, e1, fun vs H1 α1 a1 w1 r1 => ?_⟩
    match vs, r1 with
    | [v, u, t], .cons r1 (.cons r2 (.cons r3 .nil)) => exact ⟨v, u, t, rfl, k _ H1 α1 a1 w1 ((((s.mono a1).set i r1).set j r2).set l r3)⟩
  | [], _, e => cases e
  | [_], _, e => cases e
  | [_, _], _, e => cases e
  | _ :: _ :: _ :: _ :: _, _, e => cases e
end

/-! ### targets -/
abbrev GF := D → Ev → Option Ev
abbrev GFs := List D → Ev → Option Ev
/-- but for the slots at is -/
structure Agr (is : List Nat) (σ σ' : L2.St) : Prop where
  len : σ'.length = σ.length
  at_ : ∀ j : Nat, j ∉ is → σ'[j]? = σ[j]?
theorem Agr.refl {is : List Nat} {σ : L2.St} : Agr is σ σ := ⟨rfl, fun _ _ => rfl⟩
theorem Agr.trans {is js : List Nat} {σ σ1 σ2 : L2.St} (a : Agr is σ σ1) (b : Agr js σ1 σ2) : Agr (is ++ js) σ σ2 :=
  ⟨b.len.trans a.len, fun j h => (b.at_ j fun z => h (List.mem_append_right _ z)).trans (a.at_ j fun z => h (List.mem_append_left _ z))⟩
theorem Agr.set {i : Nat} {v : Option V} {σ : L2.St} : Agr [i] σ (σ.set i v) := ⟨List.length_set, fun j h => List.getElem?_set_ne fun e => h (by rw [e]; exact List.mem_singleton.mpr rfl)⟩
def tG (K : PySem.W.Frag) (is : List Nat) (g : GF) : TG := fun v σ H Q => ∃ ρ S α d ρ', Wd H α S ∧ Sl K H α σ ρ ∧ Rp H α v d ∧ g d ρ = some ρ' ∧ ∀ σ', Sl K H α σ' ρ' → Agr is σ σ' → Q σ' H
def tGs (K : PySem.W.Frag) (is : List Nat) (g : GFs) : TGs := fun vs σ H Q => ∃ ρ S α ds ρ', Wd H α S ∧ Sl K H α σ ρ ∧ RpL H α vs ds ∧ g ds ρ = some ρ' ∧ ∀ σ', Sl K H α σ' ρ' → Agr is σ σ' → Q σ' H
def gNm (i : Nat) : GF := fun d ρ => some (ρ.set i (some (.dat d)))
def gsNil : GFs := fun ds ρ => match ds with
  | [] => some ρ
  | _ => none
def gsCons (g : GF) (h : GFs) : GFs := fun ds ρ => match ds with
  | [] => none
  | d :: r => bd (g d ρ) fun ρ1 => h r ρ1
def gTp (h : GFs) : GF := fun d ρ => match d with
  | .tuple ds => h ds ρ
  | _ => none
theorem _root_.L2.PG.imp {X : Cx} {e : Expr} {t t' : TG} (h : PG X e t) (k : ∀ v σ H Q, t' v σ H Q → t v σ H Q) : PG X e t' := ⟨fun pins s σ H v u Q I r q => h.run pins s σ H v u Q I r (k v σ H Q q)⟩
theorem _root_.L2.PGs.imp {X : Cx} {e : List Expr} {t t' : TGs} (h : PGs X e t) (k : ∀ v σ H Q, t' v σ H Q → t v σ H Q) : PGs X e t' := ⟨fun pins s σ H v u Q I r q => h.run pins s σ H v u Q I r (k v σ H Q q)⟩
theorem gsLen_of {H : Hp} {α : Ad} {h : GFs} {n : Nat} (hn : ∀ ds ρ ρ', h ds ρ = some ρ' → ds.length = n) {vs : List V} {ds : List D} (r : RpL H α vs ds) {ρ ρ' : Ev} (e : h ds ρ = some ρ') : vs.length = n := r.length.trans (hn ds ρ ρ' e)
theorem gsLen_nil {ds : List D} {ρ ρ' : Ev} (h : gsNil ds ρ = some ρ') : ds.length = 0 := by
  match ds, h with
  | [], _ => rfl
theorem gsLen_cons {g : GF} {h : GFs} {n : Nat} (hn : ∀ ds ρ ρ', h ds ρ = some ρ' → ds.length = n) {ds : List D} {ρ ρ' : Ev} (e : gsCons g h ds ρ = some ρ') : ds.length = n + 1 := by
  match ds, e with
  | d :: r, e =>
    obtain ⟨ρ1, _, e2⟩ := bd_of e
    exact congrArg (· + 1) (hn r ρ1 ρ' e2)
section
variable {X : Cx} {pos : Pos} {e : Expr} {es : List Expr} {g : GF} {h : GFs}
theorem mg_name (i : Nat) {x : Str} (hN : X.N.Nodup) (hi : X.N[i]? = some x := by rfl) (hx : Loc X.env.scope x := by first | exact Or.inl rfl | exact Or.inr rfl) (hf : X.fn x = true ∨ X.env.scope.names.lookup x = some .local := by first | exact .inl rfl | exact .inr rfl | assumption) : PG X (.Name x pos) (tG X.K [i] (gNm i)) :=
  (pg_name hN hi hx hf).imp fun v σ H Q => by
  rintro ⟨ρ, S, α, d, ρ', w, s, r, e, k⟩
  cases e
  exact k _ (s.set i r) .set
theorem mgs_nil : PGs X [] (tGs X.K [] gsNil) := pgs_nil.imp fun v σ H Q => by
  rintro ⟨ρ, S, α, d, ρ', w, s, r, e, k⟩
  match d, r, e with
  | [], .nil, e => cases e; exact ⟨rfl, k _ s .refl⟩
theorem mgs_cons {is js : List Nat} (h1 : PG X e (tG X.K is g)) (h2 : PGs X es (tGs X.K js h)) (hs : (assignEach (e :: es) X.env).map (·.2) = assign e X.env :: (assignEach es X.env).map (·.2) := by rfl) : PGs X (e :: es) (tGs X.K (is ++ js) (gsCons g h)) :=
  (pgs_cons h1 h2 hs).imp fun v σ H Q => by
  rintro ⟨ρ, S, α, d, ρ', w, s, r, e, k⟩
  match d, r, e with
  | d :: ds, .cons r1 r2, e =>
    obtain ⟨ρ1, e1, e2⟩ := bd_of e
    exact ⟨_, _, rfl, ρ, S, α, d, ρ1, w, s, r1, e1, fun σ1 s1 a1 => ⟨ρ1, S, α, ds, ρ', w, s1, r2, e2, fun σ2 s2 a2 => k σ2 s2 (a1.trans a2)⟩⟩
theorem mg_tup {k n : Nat} {is : List Nat} (h1 : PGs X es (tGs X.K is h)) (hl : ∀ ds ρ ρ', h ds ρ = some ρ' → ds.length = n) (hc : X.calm = true := by rfl) (hn : (assignEach es X.env).length = n := by rfl) (hst : (assignEach es X.env).findIdx? (·.1) = none := by rfl) : PG X (.Tuple es k pos) (tG X.K is (gTp h)) :=
  (pg_tup hc h1 hn hst).imp fun v σ H Q => by
  rintro ⟨ρ, S, α, d, ρ', w, s, r, e, k⟩
  match d, r, e with
  | .tuple ds, .tup (a := a) (xs := xs) g1 g2 g3 g4, e => exact ⟨a, xs, rfl, SqT.of g1, gsLen_of hl g4 e, ρ, S, α, ds, ρ', w, s, g4, e, k⟩
end
/-- target = value, the value data -/
def sAsg (f : EF) (g : GF) : SF := fun ρ S => bd (f ρ S) fun x => bd (asDat x.1) fun d => bd (g d ρ) fun ρ' => some (.nx, ρ', x.2)
theorem ms_asg {X : Cx} {tg e : Expr} {f : EF} {g : GF} {is : List Nat} {pos : Pos} (he : PE X e (tE X.K f)) (hg : PG X tg (tG X.K is g)) (hs : swapsWithSole [tg] e pos.line X.env = pure false := by rfl) (hw : swappedStores [tg] e X.env = pure none := by rfl) (h1 : (assignEach [tg] X.env).map (·.2) = [assign tg X.env] := by rfl) : PS X (.Assign [tg] e pos) (tS X.K (sAsg f g)) :=
  (ps_asg he hg hs hw h1).imp fun E σ H => by
  rintro ⟨ρ, S, α, r, w, s, e, k⟩
  obtain ⟨⟨y, S1⟩, e1, e⟩ := bd_of e
  obtain ⟨d, h1, e⟩ := bd_of e
  obtain ⟨ρ', h2, e⟩ := bd_of e
  cases e
  cases asDat_of h1
  exact ⟨ρ, S, α, _, S1, w, s, e1, fun v H1 α1 a1 w1 r1 => ⟨ρ, S1, α1, d, ρ', w1, s.mono a1, r1, h2, fun σ1 s1 _ => k σ1 H1 α1 a1 w1 s1⟩⟩

/-! ### what a loop walks -/
def grd (sk : Option Nat) (ds : List D) (S : Sto) : Prop := match sk with
  | none => True
  | some k => S[k]? = some (.lst ds)
structure Src (J : It) (sk : Option Nat) (ds : List D) (H0 : Hp) (α0 : Ad) : Prop where
  go : ∀ (i : Nat) (H : Hp) (α : Ad) (S : Sto) (d : D), Adv H0 α0 H α → Wd H α S → grd sk ds S → ds[i]? = some d → J.go i H
  yld : ∀ (i : Nat) (H : Hp) (α : Ad) (S : Sto) (d : D) (x : V) (H' : Hp), Adv H0 α0 H α → Wd H α S → grd sk ds S → ds[i]? = some d → J.yld i H x H' → Adv H α H' α ∧ Wd H' α S ∧ Rp H' α x d
  stop : ∀ (i : Nat) (H : Hp) (α : Ad) (S : Sto), Adv H0 α0 H α → Wd H α S → grd sk ds S → ds.length ≤ i → J.stop i H
abbrev WF := Ev → Sto → Option ((Option Nat × List D) × Sto)
def tI (K : PySem.W.Frag) (f : WF) : TI := fun σ H R => ∃ ρ S α sk ds S', Wd H α S ∧ Sl K H α σ ρ ∧ f ρ S = some ((sk, ds), S') ∧ ∀ J H' α', Adv H α H' α' → Wd H' α' S' → Src J sk ds H' α' → grd sk ds S' → ds.length ≤ sizeLine → R J H'
theorem _root_.L2.PI.imp {X : Cx} {tg e : Expr} {t t' : TI} (h : PI X tg e t) (k : ∀ σ H Q, t' σ H Q → t σ H Q) : PI X tg e t' := ⟨fun pins s σ H R I q => h.run pins s σ H R I (k σ H R q)⟩
theorem _root_.L2.PI.or {X : Cx} {tg e : Expr} {t t' : TI} (h : PI X tg e t) (h' : PI X tg e t') : PI X tg e (fun σ H R => t σ H R ∨ t' σ H R) := ⟨fun pins s σ H R I q => by
  rcases q with q | q
  · exact h.run pins s σ H R I q
  · exact h'.run pins s σ H R I q⟩
/-- a list as it stands -/
theorem src_list {a : Addr} {sk : Option Nat} {ds : List D} {H0 : Hp} {α0 : Ad} (h : ∀ H α S, Adv H0 α0 H α → Wd H α S → grd sk ds S → ∃ xs, SqL K H a xs ∧ RpL H α xs ds ∧ ∀ ys, SqL K H a ys → ys = xs) : Src (Itl K a) sk ds H0 α0 where
  go := fun i H α S d a w g e => by
    obtain ⟨xs, h1, h2, _⟩ := h H α S a w g
    obtain ⟨v, h3, _⟩ := h2.get e
    exact ⟨xs, v, h1, h3⟩
  yld := fun i H α S d x H' a w g e y => by
    obtain ⟨xs, h1, h2, _⟩ := h H α S a w g
    obtain ⟨rfl, q⟩ := y
    obtain ⟨v, h3, h4⟩ := h2.get e
    have h5 := q xs h1
    rw [h3] at h5
    cases h5
    exact ⟨.refl, w, h4⟩
  stop := fun i H α S a w g e => by
    obtain ⟨xs, h1, h2, _⟩ := h H α S a w g
    exact ⟨xs, h1, by rw [h2.length]; exact e⟩
theorem src_tup {a : Addr} {ds : List D} {H0 : Hp} {α0 : Ad} {xs : List V} (h : H0 a = some (.tup xs)) (n : some a ∉ α0) (r : RpL H0 α0 xs ds) : Src (Itt K a) none ds H0 α0 where
  go := fun i H α S d b w g e => by
    obtain ⟨v, h3, _⟩ := (RpL.mono b r).get e
    exact ⟨xs, v, SqT.of (b.keep _ _ h n), h3⟩
  yld := fun i H α S d x H' b w g e y => by
    obtain ⟨rfl, q⟩ := y
    obtain ⟨v, h3, h4⟩ := (RpL.mono b r).get e
    have h5 := q xs (SqT.of (b.keep _ _ h n))
    rw [h3] at h5
    cases h5
    exact ⟨.refl, w, h4⟩
  stop := fun i H α S b w g e => ⟨xs, SqT.of (b.keep _ _ h n), by rw [r.length]; exact e⟩
theorem lst_uniq {H : Hp} {a : Addr} {xs ys : List V} (h : H a = some (.lst xs)) (hk : K.lookup a = none ∨ True) : Rd H a (.lst ys) → ys = xs := by
  rintro (q | ⟨o, q⟩)
  · rw [h] at q; cases q; rfl
  · rw [h] at q; cases q
def iSeq (f : EF) : WF := fun ρ S => bd (f ρ S) fun x => match x.1 with
  | .dat (.list ds) => some ((none, ds), x.2)
  | .dat (.tuple ds) => some ((none, ds), x.2)
  | .obj k => bd (lstAt k x.2) fun ds => some ((some k, ds), x.2)
  | .fz ds => some ((none, ds), x.2)
  | _ => none
theorem src_list' {a : Addr} {sk : Option Nat} {ds : List D} {H0 : Hp} {α0 : Ad} (h : ∀ H α S, Adv H0 α0 H α → Wd H α S → grd sk ds S → ∃ xs, SqL K H a xs ∧ RpL H α xs ds) : Src (Itl K a) sk ds H0 α0 where
  go := fun i H α S d a w g e => by
    obtain ⟨xs, h1, h2⟩ := h H α S a w g
    obtain ⟨v, h3, _⟩ := h2.get e
    exact ⟨xs, v, h1, h3⟩
  yld := fun i H α S d x H' a w g e y => by
    obtain ⟨xs, h1, h2⟩ := h H α S a w g
    obtain ⟨rfl, q⟩ := y
    obtain ⟨v, h3, h4⟩ := h2.get e
    have h5 := q xs h1
    rw [h3] at h5
    cases h5
    exact ⟨.refl, w, h4⟩
  stop := fun i H α S a w g e => by
    obtain ⟨xs, h1, h2⟩ := h H α S a w g
    exact ⟨xs, h1, by rw [h2.length]; exact e⟩
theorem mi_seq {X : Cx} {tg e : Expr} {f : EF} (he : PE X e (tE X.K f)) : PI X tg e (tI X.K (iSeq f)) := ((pi_list he).or (pi_tup he)).imp fun σ H R => by
  rintro ⟨ρ, S, α, sk, ds, S', w, s, e, k⟩
  obtain ⟨⟨p, S1⟩, e1, e⟩ := bd_of e
  match p, e1, e with
  | .dat (.list xs), e1, e =>
    cases e
    refine .inl ⟨ρ, S, α, _, S1, w, s, e1, fun v H1 α1 a1 w1 r1 => ?_⟩
    cases r1 with
    | lst g1 g2 g3 g4 =>
      exact ⟨_, rfl, ⟨_, SqL.of g1⟩, k _ H1 α1 a1 w1 (src_list' fun H2 α2 S2 a2 w2 _ => ⟨_, SqL.of (a2.keep _ _ g1 g2), RpL.mono a2 g4⟩) trivial (by rw [← g4.length]; exact g3)⟩
  | .dat (.tuple xs), e1, e =>
    cases e
    refine .inr ⟨ρ, S, α, _, S1, w, s, e1, fun v H1 α1 a1 w1 r1 => ?_⟩
    cases r1 with
    | tup g1 g2 g3 g4 => exact ⟨_, rfl, ⟨_, SqT.of g1⟩, k _ H1 α1 a1 w1 (src_tup g1 g2 g4) trivial (by rw [← g4.length]; exact g3)⟩
  | .obj j, e1, e =>
    obtain ⟨xs, h1, e⟩ := bd_of e
    cases e
    refine .inl ⟨ρ, S, α, _, S1, w, s, e1, fun v H1 α1 a1 w1 r1 => ?_⟩
    obtain ⟨a, vs, rfl, g0, g1, g2, g3⟩ := w1.lst r1 (lstAt_of h1)
    refine ⟨a, rfl, ⟨vs, SqL.of g1⟩, k _ H1 α1 a1 w1 (src_list' fun H2 α2 S2 a2 w2 g => ?_) (lstAt_of h1) (by rw [← g3.length]; exact g2)⟩
    obtain ⟨b, us, q0, q1, q2, q3, q4⟩ := w2.lst (RpP.mono a2 r1) g
    cases q0
    exact ⟨us, SqL.of q2, q4⟩
  | .fz xs, e1, e =>
    cases e
    refine .inl ⟨ρ, S, α, _, S1, w, s, e1, fun v H1 α1 a1 w1 r1 => ?_⟩
    obtain ⟨a, vs, rfl, g1, g2, g3⟩ := r1
    exact ⟨a, rfl, ⟨vs, g1.seq⟩, k _ H1 α1 a1 w1 (src_list' fun H2 α2 S2 a2 w2 _ => ⟨vs, (FzL.mono a2 g1).seq, RpL.mono a2 g3⟩) trivial (by rw [← g3.length]; exact g2)⟩
  | .dat .none, _, e => cases e
  | .dat (.bool _), _, e => cases e
  | .dat (.int _), _, e => cases e
  | .dat (.str _), _, e => cases e
  | .dat (.dict _), _, e => cases e
def rngD (lo : Int) (n : Nat) : List D := (List.range n).map fun i => .int (lo + (i : Nat))
theorem rngD_at {lo : Int} {n i : Nat} {d : D} (h : (rngD lo n)[i]? = some d) : i < n ∧ d = .int (lo + (i : Nat)) := by
  unfold rngD at h
  rw [List.getElem?_map] at h
  cases q : (List.range n)[i]? with
  | none => rw [q] at h; cases h
  | some j =>
    rw [q] at h
    obtain ⟨h1, h2⟩ := List.getElem?_eq_some_iff.mp q
    rw [List.length_range] at h1
    rw [List.getElem_range] at h2
    subst h2
    exact ⟨h1, (Option.some.inj h).symm⟩
theorem rngD_len {lo : Int} {n : Nat} : (rngD lo n).length = n := by unfold rngD; rw [List.length_map, List.length_range]
theorem src_rng {lo : Int} {n : Nat} {H0 : Hp} {α0 : Ad} : Src (Itr lo n) none (rngD lo n) H0 α0 where
  go := fun i H α S d a w g e => (rngD_at e).1
  yld := fun i H α S d x H' a w g e y => by
    obtain ⟨rfl, rfl⟩ := y
    rw [(rngD_at e).2]
    exact ⟨.refl, w, .int _⟩
  stop := fun i H α S a w g e => by rw [rngD_len] at e; exact e
def iRng1D (f : AF) : WF := fun ρ S => bd (f ρ S) fun x => match x.1 with
  | [p] => bd (asInt p) fun j => if -(2 ^ 60) ≤ j ∧ j ≤ 16777216 then some ((none, rngD 0 j.toNat), x.2) else none
  | _ => none
def iRng2D (f : AF) : WF := fun ρ S => bd (f ρ S) fun x => match x.1 with
  | [p, q] => bd (asInt p) fun i => bd (asInt q) fun j => if -(2 ^ 60) ≤ i ∧ i < 2 ^ 60 ∧ -(2 ^ 60) ≤ j ∧ j < 2 ^ 60 ∧ j - i ≤ 16777216 then some ((none, rngD i (j - i).toNat), x.2) else none
  | _ => none
section
variable {X : Cx} {tg : Expr} {f : AF} {p pos : Pos}
theorem mi_rng1 {a : Expr} (ha : PA X [a] (tA X.K f)) (hm : X.mg "range" = none) (hg : Gl X "range" := by rfl) (hs : starEach [a] X.env = [(false, eval a X.env)] := by rfl) : PI X tg (.Call (.Name "range" p) [a] [] pos) (tI X.K (iRng1D f)) := (pi_range1 hg hm ha hs).imp fun σ H R => by
  rintro ⟨ρ, S, α, sk, ds, S', w, s, e, k⟩
  obtain ⟨⟨ps, S1⟩, e1, e⟩ := bd_of e
  match ps, e1, e with
  | [p], e1, e =>
    obtain ⟨j, h1, e⟩ := bd_of e
    split at e
    · rename_i hb
      cases e
      cases asInt_of h1
      refine ⟨ρ, S, α, _, S1, w, s, e1, fun vs H1 α1 a1 w1 r1 => ?_⟩
      match vs, r1 with
      | [v], .cons r1 .nil =>
        cases int_of r1
        exact ⟨j, rfl, by omega, by omega, k _ H1 α1 a1 w1 src_rng trivial (by rw [rngD_len, lim_eq]; show _ ≤ (16777216 : Nat); omega)⟩
    · cases e
  | [], _, e => cases e
  | _ :: _ :: _, _, e => cases e
theorem mi_rng2 {a b : Expr} (ha : PA X [a, b] (tA X.K f)) (hm : X.mg "range" = none) (hg : Gl X "range" := by rfl) (hs : starEach [a, b] X.env = [(false, eval a X.env), (false, eval b X.env)] := by rfl) (hs2 : starEach [b] X.env = [(false, eval b X.env)] := by rfl) : PI X tg (.Call (.Name "range" p) [a, b] [] pos) (tI X.K (iRng2D f)) := (pi_range2 hg hm ha hs hs2).imp fun σ H R => by
  rintro ⟨ρ, S, α, sk, ds, S', w, s, e, k⟩
  obtain ⟨⟨ps, S1⟩, e1, e⟩ := bd_of e
  match ps, e1, e with
  | [p, q], e1, e =>
    obtain ⟨i, h1, e⟩ := bd_of e
    obtain ⟨j, h2, e⟩ := bd_of e
    split at e
    · rename_i hb
      cases e
      cases asInt_of h1
      cases asInt_of h2
      refine ⟨ρ, S, α, _, S1, w, s, e1, fun vs H1 α1 a1 w1 r1 => ?_⟩
      match vs, r1 with
      | [v, u], .cons r1 (.cons r2 .nil) =>
        cases int_of r1
        cases int_of r2
        exact ⟨i, j, rfl, ⟨by omega, by omega, by omega, by omega⟩, k _ H1 α1 a1 w1 src_rng trivial (by rw [rngD_len, lim_eq]; show _ ≤ (16777216 : Nat); omega)⟩
    · cases e
  | [], _, e => cases e
  | [_], _, e => cases e
  | _ :: _ :: _ :: _, _, e => cases e
end

/-! ### for, while -/
open Classical in
noncomputable def chk {β : Type} (sk : Option Nat) (ds : List D) (S : Sto) (x : Option β) : Option β := if grd sk ds S then x else none
theorem chk_none {β : Type} {ds : List D} {S : Sto} {x : Option β} : chk none ds S x = x := if_pos trivial
theorem chk_some {β : Type} {k : Nat} {ds : List D} {S : Sto} {x : Option β} (h : S[k]? = some (.lst ds)) : chk (some k) ds S x = x := if_pos h
theorem chk_of {β : Type} {sk : Option Nat} {ds : List D} {S : Sto} {x : Option β} {y : β} (h : chk sk ds S x = some y) : grd sk ds S ∧ x = some y := by
  unfold chk at h
  split at h
  · rename_i g; exact ⟨g, h⟩
  · cases h
/-- behind a turn -/
def turnF (h : SF) (r : Fl × Ev × Sto) : Option (Fl × Ev × Sto) := match r.1 with
  | .nx => h r.2.1 r.2.2
  | .ct => h r.2.1 r.2.2
  | .brk => some (.nx, r.2.1, r.2.2)
  | .ret _ => some r
noncomputable def forD (sk : Option Nat) (all : List D) (g : GF) (b : SF) : List D → SF
  | [] => fun ρ S => chk sk all S (some (.nx, ρ, S))
  | d :: ds => fun ρ S => chk sk all S (bd (g d ρ) fun ρ1 => bd (b ρ1 S) (turnF (forD sk all g b ds)))
noncomputable def sFor (f : WF) (g : GF) (b : SF) : SF := fun ρ S => bd (f ρ S) fun x => forD x.1.1 x.1.2 g b x.1.2 ρ x.2
section
variable {X : Cx} {tg iter : Expr} {body : List Stmt} {f : WF} {g : GF} {b : SF} {is : List Nat} {pos : Pos}
theorem ms_for (hp : PassesOwn (model X.prog X.w) X.A X.env X.xe) (hi : PI X tg iter (tI X.K f)) (hg : PG X tg (tG X.K is g)) (hb : PSs X body (tS X.K b)) (hc : X.calm = true := by rfl)
    (hs : ∀ x, foldedSetIterable iter X.env x = pure x := by intro _; rfl) : PS X (.For tg iter body [] pos) (tS X.K (sFor f g b)) := (ps_for hp hc hi hg hb hs).imp fun E σ H => by
  rintro ⟨ρ, S, α, r, w, s, e, k⟩
  obtain ⟨⟨⟨sk, ds⟩, S1⟩, e1, e⟩ := bd_of e
  refine ⟨ρ, S, α, sk, ds, S1, w, s, e1, fun J H1 α1 a1 w1 src g1 hl => ?_⟩
  refine ⟨fun i m σ2 H2 => m + i = ds.length ∧ ∃ ρ2 S2 α2, Adv H1 α1 H2 α2 ∧ Wd H2 α2 S2 ∧ Sl X.K H2 α2 σ2 ρ2 ∧ forD sk ds g b (ds.drop i) ρ2 S2 = some r, ⟨ds.length, rfl, ρ, S1, α1, .refl, w1, s.mono a1, e⟩, ?_⟩
  rintro i m σ2 H2 ⟨hm, ρ2, S2, α2, a2, w2, s2, e2⟩
  by_cases hd : i < ds.length
  · rw [List.drop_eq_getElem_cons hd] at e2
    obtain ⟨g2, e2⟩ := chk_of (show chk sk ds S2 (bd (g ds[i] ρ2) fun ρ1 => bd (b ρ1 S2) (turnF (forD sk ds g b (ds.drop (i + 1))))) = some r from e2)
    obtain ⟨ρ3, e3, e2⟩ := bd_of e2
    obtain ⟨⟨fl, ρ4, S4⟩, e4, e2⟩ := bd_of e2
    have hdi : ds[i]? = some ds[i] := List.getElem?_eq_getElem hd
    refine .inr ⟨src.go i H2 α2 S2 _ a2 w2 g2 hdi, fun σ' H' => ∃ ρ2 S2 α2, Adv H1 α1 H' α2 ∧ Wd H' α2 S2 ∧ Sl X.K H' α2 σ' ρ2 ∧ forD sk ds g b (ds.drop (i + 1)) ρ2 S2 = some r, fun σ' H' q => ⟨m - 1, by omega, by omega, q⟩, fun x H' y => ?_⟩
    obtain ⟨a3, w3, r3⟩ := src.yld i H2 α2 S2 _ x H' a2 w2 g2 hdi y
    refine ⟨ρ2, S2, α2, ds[i], ρ3, w3, s2.mono a3, r3, e3, fun σ3 s3 _ => ⟨ρ3, S2, α2, (fl, ρ4, S4), w3, s3, e4, ?_⟩⟩
    cases fl with
    | nx => exact fun σ5 H5 α5 a5 w5 s5 => ⟨ρ4, S4, α5, a2.trans (a3.trans a5), w5, s5, e2⟩
    | ct => exact fun σ5 H5 α5 a5 w5 s5 => ⟨ρ4, S4, α5, a2.trans (a3.trans a5), w5, s5, e2⟩
    | brk =>
      cases e2
      exact fun σ5 H5 α5 a5 w5 s5 => k σ5 H5 α5 (a1.trans (a2.trans (a3.trans a5))) w5 s5
    | ret p =>
      cases e2
      exact Aft.mono (a1.trans (a2.trans a3)) k
  · rw [List.drop_eq_nil_of_le (Nat.le_of_not_lt hd)] at e2
    obtain ⟨g2, e2⟩ := chk_of (show chk sk ds S2 (some (Fl.nx, ρ2, S2)) = some r from e2)
    cases e2
    exact .inl ⟨src.stop i H2 α2 S2 a2 w2 g2 (Nat.le_of_not_lt hd), k σ2 H2 α2 (a1.trans a2) w2 s2⟩
def whileD (c : CF) (b : SF) : Nat → SF
  | 0 => fun _ _ => none
  | n + 1 => fun ρ S => bd (c ρ S) fun x => if x.1 = true then bd (b ρ x.2) (turnF (whileD c b n)) else some (.nx, ρ, x.2)
theorem ms_while {c : Expr} {cf : CF} (n : Nat) (hp : PassesOwn (model X.prog X.w) X.A X.env X.xe) (hc : PT X c (tT X.K cf)) (hb : PSs X body (tS X.K b)) : PS X (.While c body [] pos) (tS X.K (whileD cf b n)) := (ps_while hp hc hb).imp fun E σ H => by
  rintro ⟨ρ, S, α, r, w, s, e, k⟩
  refine ⟨fun m σ2 H2 => ∃ ρ2 S2 α2, Adv H α H2 α2 ∧ Wd H2 α2 S2 ∧ Sl X.K H2 α2 σ2 ρ2 ∧ whileD cf b m ρ2 S2 = some r, ⟨n, ρ, S, α, .refl, w, s, e⟩, ?_⟩
  rintro m σ2 H2 ⟨ρ2, S2, α2, a2, w2, s2, e2⟩
  cases m with
  | zero => cases e2
  | succ m =>
    obtain ⟨⟨x, S3⟩, e3, e2⟩ := bd_of (show bd (cf ρ2 S2) _ = some r from e2)
    refine ⟨ρ2, S2, α2, x, S3, w2, s2, e3, fun H3 α3 a3 w3 => ?_⟩
    cases x with
    | true =>
      rw [if_pos rfl] at e2 ⊢
      obtain ⟨⟨fl, ρ4, S4⟩, e4, e2⟩ := bd_of e2
      refine ⟨fun σ' H' => ∃ ρ2 S2 α2, Adv H α H' α2 ∧ Wd H' α2 S2 ∧ Sl X.K H' α2 σ' ρ2 ∧ whileD cf b m ρ2 S2 = some r, fun σ' H' q => ⟨m, Nat.lt_succ_self m, q⟩, ρ2, S3, α3, (fl, ρ4, S4), w3, s2.mono a3, e4, ?_⟩
      cases fl with
      | nx => exact fun σ5 H5 α5 a5 w5 s5 => ⟨ρ4, S4, α5, a2.trans (a3.trans a5), w5, s5, e2⟩
      | ct => exact fun σ5 H5 α5 a5 w5 s5 => ⟨ρ4, S4, α5, a2.trans (a3.trans a5), w5, s5, e2⟩
      | brk =>
        cases e2
        exact fun σ5 H5 α5 a5 w5 s5 => k σ5 H5 α5 (a2.trans (a3.trans a5)) w5 s5
      | ret p =>
        cases e2
        exact Aft.mono (a2.trans a3) k
    | false =>
      rw [if_neg Bool.false_ne_true] at e2 ⊢
      cases e2
      exact k σ2 H3 α3 (a2.trans a3) w3 (s2.mono a3)
end

/-! ### a def -/
def finP (n : Nat) (p : P) (S : Sto) : Option (P × Sto) := match p with
  | .obj k => if k < n then some (.obj k, S.take n) else bd S[k]? fun m => some (.obj n, S.take n ++ [m])
  | .dat d => some (.dat d, S.take n)
  | .fz xs => some (.fz xs, S.take n)
def finF (n : Nat) (r : Fl × Ev × Sto) : Option (P × Sto) := match r.1 with
  | .nx => finP n (.dat .none) r.2.2
  | .ret p => finP n p r.2.2
  | .brk => none
  | .ct => none
/-- n parameters, N names -/
def fnRun (n N : Nat) (b : SF) : VF := fun ps S => if ps.length = n then bd (b (ps.map some ++ List.replicate (N - n) none) S) (finF S.length) else none
theorem fin_aft {H : Hp} {α : Ad} {S S1 S' : Sto} {p z : P} {Q : VK} (hl : α.length = S.length) (e : finP S.length p S1 = some (z, S')) (k : Aft K H α S' z Q) : Aft K H α S1 p Q := fun v H' α' a w r => by
  have hs : ∀ x, some x ∈ α'.take S.length → some x ∈ α' := fun x m => List.mem_of_mem_take m
  match p, e, r with
  | .dat d, e, r =>
    cases e
    exact k v H' _ (hl ▸ a.take) (w.take _) (Rp.sub hs r)
  | .fz xs, e, ⟨b, vs, g0, g1, g2, g3⟩ =>
    cases e
    refine k v H' _ (hl ▸ a.take) (w.take _) ⟨b, vs, g0, ?_, g2, RpL.sub hs g3⟩
    rcases g1 with ⟨o, q1, q2⟩ | q
    · exact .inl ⟨o, q1, fun m => q2 (hs _ m)⟩
    · exact .inr q
  | .obj j, e, ⟨h1, b, h2, h3⟩ =>
    by_cases c : j < S.length
    · have e' : (if j < S.length then some (P.obj j, S1.take S.length) else bd S1[j]? fun m => some (P.obj S.length, S1.take S.length ++ [m])) = some (z, S') := e
      rw [if_pos c] at e'
      cases e'
      refine k v H' _ (hl ▸ a.take) (w.take _) ⟨?_, b, h2, fun x q => h3 x (take_at q).2⟩
      rw [List.length_take]; omega
    · have e' : (if j < S.length then some (P.obj j, S1.take S.length) else bd S1[j]? fun m => some (P.obj S.length, S1.take S.length ++ [m])) = some (z, S') := e
      rw [if_neg c] at e'
      obtain ⟨m, h4, e'⟩ := bd_of e'
      cases e'
      have h5 : α'[j]? = some α'[j] := List.getElem?_eq_getElem h1
      have hn : (α'.take S.length).length = S.length := by rw [List.length_take]; omega
      refine k v H' _ (hl ▸ a.takeObj (by omega) h5) (w.takeObj _ (by omega) h5 h4) ⟨by rw [List.length_append, hn]; exact Nat.lt_succ_self _, b, h2, fun x q => ?_⟩
      rw [List.getElem?_append_right (by omega), hn, Nat.sub_self] at q
      have q' : α'[j] = some x := by simpa using q
      exact h3 x (h5.trans (congrArg some q'))
theorem sl_start {H : Hp} {α : Ad} {vs : List V} {ps : List P} {N : List Str} (r : RpPs K H α vs ps) : Sl K H α (L2.start N vs) (ps.map some ++ List.replicate (N.length - ps.length) none) where
  len := by
    unfold L2.start
    rw [List.length_append, List.length_append, List.length_map, List.length_map, List.length_replicate, List.length_replicate, r.length]
  at_ := fun i p h => by
    by_cases c : i < ps.length
    · rw [List.getElem?_append_left (by rw [List.length_map]; exact c), List.getElem?_map] at h
      cases q : ps[i]? with
      | none => rw [q] at h; cases h
      | some p' =>
        rw [q] at h
        have e1 : p' = p := Option.some.inj (Option.some.inj h)
        subst e1
        obtain ⟨v, h1, h2⟩ := r.get q
        refine ⟨v, ?_, h2⟩
        unfold L2.start
        rw [List.getElem?_append_left (by rw [List.length_map, r.length]; exact c), List.getElem?_map, h1]
        rfl
    · rw [List.getElem?_append_right (by rw [List.length_map]; omega)] at h
      rw [List.getElem?_replicate] at h
      split at h
      · cases h
      · cases h
section
variable {P0 : Program} {w0 : World} {mg : Str → Option Value} {base : Heap} {x qual : Str} {params : Arguments} {body : List Stmt} {scope : Scope} {f : Addr} {fd : FuncData}
theorem fn_ok {N ps : List Str} {k : Nat} {b : SF} {kws : List (Str × V)} (F : FunD K x qual params body scope [] kws f fd) (S0 : FnScope N ps scope)
    (hbody : ∀ (cdv : Value) (A : Around) (outer : List Env) (s : Shared) (H : Hp) (E : XK), Room k (A.deeper (envOfC qual scope s.heap.objs.size f cdv)) → PSs (cxOf CX0 P0 w0 K mg base N qual scope f cdv A outer s H E).nox body (tS K b)) :
    FnOk P0 w0 K mg base CX0 (k + 1) f fd ps (spF K (fnRun ps.length N.length b)) := by
  refine F.ok S0 (fun vs H Q E h => ?_) (fun cdv A outer s H vs Q E hr h => ?_)
  · obtain ⟨ps', S, α, z, S', w, r, e, k⟩ := h
    unfold fnRun at e
    split at e
    · rename_i hl; rw [r.length]; exact hl
    · cases e
  · obtain ⟨ps', S, α, z, S', w, r, e, k⟩ := h
    refine ⟨tS K b, (hbody cdv A outer s H E hr).nox, ?_⟩
    unfold fnRun at e
    split at e
    · rename_i hl
      obtain ⟨⟨fl, ρ1, S1⟩, e1, e⟩ := bd_of e
      refine ⟨_, S, α, (fl, ρ1, S1), w, sl_start r, hl ▸ e1, ?_⟩
      cases fl with
      | nx => exact fun σ1 H1 α1 a1 w1 s1 => fin_aft (p := .dat .none) w.len e k _ H1 α1 a1 w1 Rp.non
      | ret p => exact fin_aft w.len e k
      | brk => cases e
      | ct => cases e
    · cases e
end
end Me
set_option Elab.async false
set_option linter.all false
set_option maxRecDepth 100000
set_option maxHeartbeats 1000000
/-! Me5: comprehensions. -/
namespace Me
open PySem PySem.Spec PyProof.Rows L2
variable {K : PySem.W.Frag}

def wipeE (ρ : Ev) : List Nat → Ev
  | [] => ρ
  | i :: is => (wipeE ρ is).set i none
theorem Sl.wipes {H : Hp} {α : Ad} {σ : L2.St} {ρ : Ev} (s : Sl K H α σ ρ) : ∀ is, Sl K H α (L2.wipe σ is) (wipeE ρ is)
  | [] => s
  | i :: is => (s.wipes is).wipe i
theorem wipe_in {σ : L2.St} {i : Nat} : ∀ {is : List Nat}, i ∈ is → (wipe σ is)[i]? = if i < σ.length then some none else none
  | [], h => by cases h
  | j :: is, h => by
    show ((wipe σ is).set j none)[i]? = _
    by_cases e : j = i
    · subst e
      rw [List.getElem?_set]
      simp [wipe_length]
    · rw [List.getElem?_set_ne e]
      exact wipe_in ((List.mem_cons.mp h).resolve_left fun z => e z.symm)
theorem wipe_agr {is js : List Nat} {σ σ' : L2.St} (a : Agr is (wipe σ js) σ') (hs : ∀ i ∈ is, i ∈ js) : wipe σ' js = wipe σ js := by
  apply List.ext_getElem?
  intro i
  have hl : σ'.length = σ.length := a.len.trans (wipe_length σ js)
  by_cases h : i ∈ js
  · rw [wipe_in h, wipe_in h, hl]
  · rw [wipe_out h, a.at_ i fun z => h (hs i z)]
theorem Adv.takeN {H H' : Hp} {α α' : Ad} (e : Adv H α H' α') {n : Nat} (hn : α.length ≤ n) : Adv H α H' (α'.take n) where
  keep := e.keep
  old := fun a m => e.old a (List.mem_of_mem_take m)
  len := by rw [List.length_take]; exact Nat.le_min.mpr ⟨hn, e.len⟩
  pre := fun k a hk z => e.pre k a hk (take_at z).2

/-- a clause's tests -/
def cYes : CF := fun _ S => some (true, S)
section
variable {X : Cx} {c : Expr} {cf : CF}
theorem _root_.L2.PTs.imp {X : Cx} {e : List Expr} {t t' : TT} (h : PTs X e t) (k : ∀ σ H Q, t' σ H Q → t σ H Q) : PTs X e t' := ⟨fun pins s σ H Q I q => h.run pins s σ H Q I (k σ H Q q)⟩
theorem mts_nil : PTs X [] (tT X.K cYes) := pts_nil.imp fun σ H Q => by
  rintro ⟨ρ, S, α, b, S', w, s, e, k⟩
  cases e
  exact k H α .refl w
theorem mts_one (h : PT X c (tT X.K cf)) : PTs X [c] (tT X.K cf) := pts_one h
end

noncomputable def compD (n : Nat) (sk : Option Nat) (all : List D) (g : GF) (t : CF) (f : EF) (ρ : Ev) : List D → List D → Sto → Option Sto
  | [], _, S => chk sk all S (some S)
  | d :: ds, acc, S => chk sk all S (bd (g d ρ) fun ρ1 => bd (t ρ1 S) fun b => if b.1 = true then bd (f ρ1 b.2) fun x => bd (asDat x.1) fun d' => chk (some n) acc x.2 (compD n sk all g t f ρ ds (acc ++ [d']) (x.2.set n (.lst (acc ++ [d'])))) else compD n sk all g t f ρ ds acc b.2)
noncomputable def eLc (ws : WF) (is : List Nat) (g : GF) (t : CF) (f : EF) : EF := fun ρ S => bd (ws ρ S) fun x => bd (compD x.2.length x.1.1 x.1.2 g t f (wipeE ρ is) x.1.2 [] (x.2 ++ [.lst []])) fun S' => some (.obj x.2.length, S'.take (x.2.length + 1))
theorem obj_at {H H' : Hp} {α α' : Ad} {n : Nat} {p : Addr} (hn : n = α.length) (a : Adv H (α ++ [some p]) H' α') : RpP K H' α' (.ref p) (.obj n) := by
  have hl := a.len
  rw [List.length_append, List.length_singleton] at hl
  refine ⟨by omega, p, rfl, fun x q => ?_⟩
  have h := a.pre n x (by rw [List.length_append, List.length_singleton]; omega) q
  rw [List.getElem?_append_right (by omega), hn, Nat.sub_self] at h
  have : p = x := by simpa using h
  exact this.symm
theorem rd_lc {ws : WF} {is vs : List Nat} {g : GF} {t : CF} {f : EF} (hv : ∀ i ∈ is, i ∈ vs) {σ : L2.St} {H : Hp} {Q : VK} : tE K (eLc ws vs g t f) σ H Q → tLc (tI K ws) (tG K is g) (tT K t) (tE K f) vs σ H Q := by
  rintro ⟨ρ, S, α, z, S', w, s, e, k⟩
  obtain ⟨⟨⟨sk, ds⟩, S1⟩, e1, e⟩ := bd_of e
  obtain ⟨SE, e2, e⟩ := bd_of e
  have e2 : compD S1.length sk ds g t f (wipeE ρ vs) ds [] (S1 ++ [.lst []]) = some SE := e2
  have e : some (P.obj S1.length, SE.take (S1.length + 1)) = some (z, S') := e
  injection e with e
  injection e with ez eS
  subst ez
  subst eS
  refine ⟨ρ, S, α, sk, ds, S1, w, s, e1, fun J H1 α1 a1 w1 src g1 hl p hp => ?_⟩
  have a0 := Adv.newObj (o := .lst []) w1 hp
  have w0 : Wd (upd H1 p (.lst [])) (α1 ++ [some p]) (S1 ++ [.lst []]) := w1.newObj hp ⟨[], upd_same, Nat.zero_le _, .nil⟩
  refine ⟨fun i m H2 => m + i = ds.length ∧ ∃ acc S2 α2, acc.length ≤ i ∧ Adv (upd H1 p (.lst [])) (α1 ++ [some p]) H2 α2 ∧ Wd H2 α2 S2 ∧ compD S1.length sk ds g t f (wipeE ρ vs) (ds.drop i) acc S2 = some SE,
    ⟨ds.length, rfl, [], _, _, Nat.zero_le _, .refl, w0, e2⟩, ?_⟩
  rintro i m H2 ⟨hm, acc, S2, α2, hacc, a2, w2, e3⟩
  by_cases hd : i < ds.length
  · rw [List.drop_eq_getElem_cons hd] at e3
    unfold compD at e3
    obtain ⟨g2, e3⟩ := chk_of e3
    obtain ⟨ρ3, e4, e3⟩ := bd_of e3
    obtain ⟨⟨b, S4⟩, e5, e3⟩ := bd_of e3
    have hdi : ds[i]? = some ds[i] := List.getElem?_eq_getElem hd
    refine .inr ⟨src.go i H2 α2 S2 _ (a0.trans a2) w2 g2 hdi, fun H' => ∃ acc S2 α2, acc.length ≤ i + 1 ∧ Adv (upd H1 p (.lst [])) (α1 ++ [some p]) H' α2 ∧ Wd H' α2 S2 ∧ compD S1.length sk ds g t f (wipeE ρ vs) (ds.drop (i + 1)) acc S2 = some SE, fun H' q => ⟨m - 1, by omega, by omega, q⟩, fun x H' y => ?_⟩
    obtain ⟨a3, w3, r3⟩ := src.yld i H2 α2 S2 _ x H' (a0.trans a2) w2 g2 hdi y
    refine ⟨wipeE ρ vs, S2, α2, ds[i], ρ3, w3, (s.wipes vs).mono (a1.trans (a0.trans (a2.trans a3))), r3, e4, fun σ3 s3 ag => ⟨wipe_agr ag hv, ρ3, S2, α2, b, S4, w3, s3, e5, fun H4 α4 a4 w4 => ?_⟩⟩
    cases b with
    | false =>
      rw [if_neg Bool.false_ne_true] at e3 ⊢
      exact ⟨acc, S4, α4, by omega, a2.trans (a3.trans a4), w4, e3⟩
    | true =>
      rw [if_pos rfl] at e3 ⊢
      obtain ⟨⟨q, S5⟩, e6, e3⟩ := bd_of e3
      obtain ⟨d', e7, e3⟩ := bd_of e3
      obtain ⟨g5, e3⟩ := chk_of e3
      cases asDat_of e7
      refine ⟨ρ3, S4, α4, _, S5, w4, s3.mono a4, e6, fun v H5 α5 a5 w5 r5 => ?_⟩
      have A := a2.trans (a3.trans (a4.trans a5))
      obtain ⟨b, us, q0, q1, q2, q3, q4⟩ := w5.lst (obj_at (K := K) w1.len.symm A) g5
      cases q0
      have hz : us.length < sizeLine := by rw [q4.length]; omega
      refine ⟨us, q2, hz, acc ++ [d'], S5.set S1.length (.lst (acc ++ [d'])), α5, by rw [List.length_append, List.length_singleton]; omega, A.trans (Adv.write q1), w5.write q1 ⟨us ++ [v], upd_same, by rw [List.length_append, List.length_singleton]; omega, ?_⟩, e3⟩
      exact (RpL.mono (Adv.write q1) q4).append (.cons (Rp.mono (Adv.write q1) r5) .nil)
  · rw [List.drop_eq_nil_of_le (Nat.le_of_not_lt hd)] at e3
    unfold compD at e3
    obtain ⟨g2, e3⟩ := chk_of e3
    cases e3
    refine .inl ⟨src.stop i H2 α2 SE (a0.trans a2) w2 g2 (Nat.le_of_not_lt hd), ?_⟩
    have A := a1.trans (a0.trans a2)
    have hl1 := a1.len
    have hl2 := w1.len
    obtain ⟨o1, b, o2, o3⟩ := obj_at (K := K) w1.len.symm a2
    refine k _ H2 (α2.take (S1.length + 1)) (A.takeN (by omega)) (w2.take _) ⟨?_, b, o2, fun x q => o3 x (take_at q).2⟩
    rw [List.length_take]; omega
section
variable {X : Cx} {elt tg iter : Expr} {ifs : List Expr} {scope : Scope} {pos spos : Pos} {ws : WF} {g : GF} {t : CF} {f : EF} {is : List Nat}
theorem me_lc (own : List (Str × Nat)) (hN : X.N.Nodup) (hi : PI X tg iter (tI X.K ws)) (ok : BlkOk X.N X.env.scope scope own)
    (hg : ∀ (s : Shared) (H : Hp) (C : Addr) (cl : List (Str × Addr)) (fp : List Addr), PG (X.blk s H scope (compEnvC scope cl C X.env) fp) tg (tG X.K is g)) (ht : ∀ (s : Shared) (H : Hp) (C : Addr) (cl : List (Str × Addr)) (fp : List Addr), PTs (X.blk s H scope (compEnvC scope cl C X.env) fp) ifs (tT X.K t))
    (he : ∀ (s : Shared) (H : Hp) (C : Addr) (cl : List (Str × Addr)) (fp : List Addr), PE (X.blk s H scope (compEnvC scope cl C X.env) fp) elt (tE X.K f)) (hv : ∀ i ∈ is, i ∈ own.map (·.2) := by decide) (hc : X.calm = true := by rfl) (hs : ∀ x, foldedSetIterable iter X.env x = pure x := by intro _; rfl) :
    PE X (.ListComp elt [⟨tg, iter, ifs, 0⟩] scope pos) (tE X.K (eLc ws (own.map (·.2)) g t f)) := (pe_lc hc hN hi ok hg ht he hs).imp fun _ _ _ => rd_lc hv
/-- name = [..], as it is | standing still from here on -/
theorem ms_setLc (i : Nat) {y : Str} {py : Pos} (own : List (Str × Nat)) (hN : X.N.Nodup) (hi : PI X tg iter (tI X.K ws)) (ok : BlkOk X.N X.env.scope scope own)
    (hg : ∀ (s : Shared) (H : Hp) (C : Addr) (cl : List (Str × Addr)) (fp : List Addr), PG (X.blk s H scope (compEnvC scope cl C X.env) fp) tg (tG X.K is g)) (ht : ∀ (s : Shared) (H : Hp) (C : Addr) (cl : List (Str × Addr)) (fp : List Addr), PTs (X.blk s H scope (compEnvC scope cl C X.env) fp) ifs (tT X.K t))
    (he : ∀ (s : Shared) (H : Hp) (C : Addr) (cl : List (Str × Addr)) (fp : List Addr), PE (X.blk s H scope (compEnvC scope cl C X.env) fp) elt (tE X.K f)) (hsw : swapsWith (.ListComp elt [⟨tg, iter, ifs, 0⟩] scope pos) (some (.Name y py)) spos.line X.env = pure true)
    (hy : X.N[i]? = some y := by rfl) (hyl : X.env.scope.names.lookup y = some .local := by rfl) (hv : ∀ i ∈ is, i ∈ own.map (·.2) := by decide) (hc : X.calm = true := by rfl) (hs : ∀ x, foldedSetIterable iter X.env x = pure x := by intro _; rfl) :
    PS X (.Assign [.Name y py] (.ListComp elt [⟨tg, iter, ifs, 0⟩] scope pos) spos) (tS X.K (sSet i (eLc ws (own.map (·.2)) g t f))) := (ps_setLc hc hN hy hyl hsw hi ok hg ht he hs).imp fun E σ H => by
  rintro ⟨ρ, S, α, r, w, s, e, k⟩
  obtain ⟨⟨x, S1⟩, e1, e⟩ := bd_of e
  cases e
  exact rd_lc hv ⟨ρ, S, α, x, S1, w, s, e1, fun v H1 α1 a1 w1 r1 => k _ H1 α1 a1 w1 ((s.mono a1).set i r1)⟩
theorem ms_setLcF (i : Nat) {y : Str} {py : Pos} (own : List (Str × Nat)) (hN : X.N.Nodup) (hi : PI X tg iter (tI X.K ws)) (ok : BlkOk X.N X.env.scope scope own)
    (hg : ∀ (s : Shared) (H : Hp) (C : Addr) (cl : List (Str × Addr)) (fp : List Addr), PG (X.blk s H scope (compEnvC scope cl C X.env) fp) tg (tG X.K is g)) (ht : ∀ (s : Shared) (H : Hp) (C : Addr) (cl : List (Str × Addr)) (fp : List Addr), PTs (X.blk s H scope (compEnvC scope cl C X.env) fp) ifs (tT X.K t))
    (he : ∀ (s : Shared) (H : Hp) (C : Addr) (cl : List (Str × Addr)) (fp : List Addr), PE (X.blk s H scope (compEnvC scope cl C X.env) fp) elt (tE X.K f)) (hsw : swapsWith (.ListComp elt [⟨tg, iter, ifs, 0⟩] scope pos) (some (.Name y py)) spos.line X.env = pure true)
    (hy : X.N[i]? = some y := by rfl) (hyl : X.env.scope.names.lookup y = some .local := by rfl) (hv : ∀ i ∈ is, i ∈ own.map (·.2) := by decide) (hc : X.calm = true := by rfl) (hs : ∀ x, foldedSetIterable iter X.env x = pure x := by intro _; rfl) :
    PS X (.Assign [.Name y py] (.ListComp elt [⟨tg, iter, ifs, 0⟩] scope pos) spos) (tS X.K (sSet i (eFrz (eLc ws (own.map (·.2)) g t f)))) := (ps_setLc hc hN hy hyl hsw hi ok hg ht he hs).imp fun E σ H => by
  rintro ⟨ρ, S, α, r, w, s, e, k⟩
  obtain ⟨⟨x, S1⟩, e1, e⟩ := bd_of e
  obtain ⟨⟨x0, S0⟩, e0, e1⟩ := bd_of e1
  cases e
  refine rd_lc hv ⟨ρ, S, α, x0, S0, w, s, e0, frz_aft (Q := fun v H1 => gName i v σ H1 E.nx) w.len e1 fun v H1 α1 a1 w1 r1 => k _ H1 α1 a1 w1 ((s.mono a1).set i r1)⟩
end

/-! ### a dict by a comprehension -/
section
variable {X : Cx}
/-- d[k] = v of a comprehension, k a tuple of ints and texts -/
theorem put_tuple {pins : List (Addr × Obj)} {σ : L2.St} {H : Hp} {s : Shared} {E : Value → Shared → Prop} {A : Around} {p b : Addr} {kvs : List (List Key × V)} {k : List Key} {v : V} {u : Value} {Q : Unit → Shared → Prop} (hu : A.units < cLine) (I : Inv X pins σ H s) (hp : H p = some (.dT kvs))
    (hb : H b = some (.tup (k.map kV))) (hl : kvs.length < sizeLine) (rv : RelV v u) (h : ∀ s', Inv X pins σ (upd H p (.dT (putK kvs k v))) s' → Q () s') : wpAny (model X.prog X.w) A (dictSet p (.ref b) u) Q E s := by
  obtain ⟨l0, l1, xs, rel, dd⟩ := dt_of I.hok hp
  have l2 : xs.length ≤ sizeLine := Paired.length rel ▸ l0
  have l3 := length_putK kvs k v
  refine wpAny_dictSet_heap (hsz := l2) (knd := tupleKind (mixKind X.prog X.w)) hu (key_of I.hok hb) dd fun h' d2 same => h _ ?_
  obtain ⟨q, es, ep, c1, c2, c3, c4, _, c6⟩ := d2
  have stay : ∀ c ys, H c = some (.tup ys) → (upd H p (.dT (putK kvs k v))) c = some (.tup ys) := fun c ys ec => (upd_ne (ne_of ec hp fun z => nomatch z)).trans ec
  exact d_write I (by rw [hp]; trivial) same ⟨q, c1⟩ ⟨by omega, l1, _, (rel.put k hb rv).keeps stay, q, es, ep, c1, c2, c3, c4, c6⟩
end

/-! a dict whose keys are tuples, by a comprehension -/
section
variable {X : Cx}
abbrev OfBlk (X : Cx) (scope : Scope) (J : Cx → Prop) : Prop := ∀ (s : Shared) (H : Hp) (C : Addr) (cl : List (Str × Addr)) (fp : List Addr), J (X.blk s H scope (compEnvC scope cl C X.env) fp)
/-- D the new dict; W by the turn and a measure -/
def tDcT (wi : TI) (g : TG) (tt : TT) (tk tv : TE) (vs : List Nat) : TE := fun σ H Q => wi σ H fun J H1 => ∀ p, H1 p = none → ∃ W : Nat → Nat → Hp → Prop, (∃ m, W 0 m (upd H1 p (.dT []))) ∧ ∀ i m H, W i m H →
  (J.stop i H ∧ Q (.ref p) H) ∨ (J.go i H ∧ ∃ Nx : Hp → Prop, (∀ H', Nx H' → ∃ m', m' < m ∧ W (i + 1) m' H') ∧ ∀ x H', J.yld i H x H' → g x (wipe σ vs) H' fun σ2 H2 => wipe σ2 vs = wipe σ vs ∧ tt σ2 H2 fun b H3 =>
    if b = true then tk σ2 H3 fun y H4 => tv σ2 H4 fun z H5 => ∃ kvs k b, y = .ref b ∧ H5 b = some (.tup (k.map kV)) ∧ H5 p = some (.dT kvs) ∧ kvs.length < sizeLine ∧ Nx (upd H5 p (.dT (putK kvs k z))) else Nx H3)
variable {kx vx tg iter : Expr} {ifs : List Expr} {scope : Scope} {own : List (Str × Nat)} {pos pos' : Pos} {wi : TI} {g : TG} {tt : TT} {tk tv : TE}
theorem core_dcT {pins : List (Addr × Obj)} {s0 : Shared} {σ : L2.St} {H0 : Hp} {Q : VK} {use : Option (Value → Sem Unit)} {Qf : Value → Shared → Prop} (hu : X.A.units < cLine)
    (hc : X.calm = true) (hN : X.N.Nodup) (I0 : Inv X pins σ H0 s0) (hi : PI X tg iter wi) (ok : BlkOk X.N X.env.scope scope own)
    (hg : OfBlk X scope fun Y => PG Y tg g) (ht : OfBlk X scope fun Y => PTs Y ifs tt) (hk : OfBlk X scope fun Y => PE Y kx tk) (he : OfBlk X scope fun Y => PE Y vx tv) (hs : ∀ x, foldedSetIterable iter X.env x = pure x)
    (rd : tDcT wi g tt tk tv (own.map (·.2)) σ H0 Q)
    (out : ∀ p C t m H', Inv X pins σ H' t → Q (.ref p) H' → t.heap.Ns C m → FpOk X pins H' C → compPost (model X.prog X.w) X.A X.xe use Qf (.ref p) C (.ok .next) t) :
    wpAny (model X.prog X.w) X.A (comprehension (.DictComp kx vx [⟨tg, iter, ifs, 0⟩] scope pos) scope X.env pos' newDict false (eval iter X.env) use) Qf X.xe s0 := by
  have frees : ∀ y ∈ scope.names, y.2 = .free → ∃ c, X.env.cells.lookup y.1 = some c := fun y hy e =>
    (ok.free y hy e).elim (fun k => I0.ok.has _ (.inl k)) fun k => I0.ok.has _ (.inr k)
  refine wpAny_comprehension_free (use := use) rfl hs (closure_ok frees) ok.kind (fun y hy e => by rw [ok.uniq y hy, e]) (thn (hi.run pins s0 σ H0 _ I0 rd) fun _ _ hx => thn hx fun _ s2 z2 => ?_)
  obtain ⟨it, fp, tn, J, H2, rfl, I2, T, t2, f2, q⟩ := z2
  refine wpAny_newObj_type (newEnv_comp ?_)
  generalize hp : s2.heap.objs.size = p
  have freeP : H2 p = none := I2.hok.fresh (Nat.le_of_eq hp)
  obtain ⟨W, ⟨m0, w0⟩, turn⟩ := q p freeP
  have below : ∀ b ∈ fp, b < p := fun b hb => by
    obtain ⟨o, e, _⟩ := T.obj _ _ t2 b hb
    rw [← hp]; exact Heap.lt_size e
  generalize hs3 : ({ s2 with heap := s2.heap.push { cls := .type "dict", data := .dict #[] } } : Shared) = s3
  have heap3 : s3.heap = s2.heap.push { cls := .type "dict", data := .dict #[] } := hs3 ▸ rfl
  have I3 : Inv X pins σ (upd H2 p (.dT [])) s3 := by
    subst hs3
    subst hp
    exact I2.laid (t' := s2.toks) (fun b o e => Heap.get?_push_of_some _ e) (Nat.le_refl _) (dt_empty s2.heap I2.big)
  have f3 : ∀ b ∈ fp, FpOk X pins (upd H2 p (.dT [])) b ∧ b < s3.heap.objs.size := fun b hb => by
    have lt := below b hb
    refine ⟨⟨(upd_ne (Nat.ne_of_lt lt)).trans (f2 b hb).1, (f2 b hb).2⟩, ?_⟩
    rw [heap3, Heap.size_push, hp]; exact Nat.lt_succ_of_lt lt
  have t3 : tn 0 s3.heap := T.keep _ _ _ t2 fun b _ o e => by rw [heap3]; exact Heap.get?_push_of_some _ e
  have I4 := block_start I3 ok hN f3
  generalize hcl : cellsFrom (s3.heap.objs.size + 1) scope.names (cloFrom X.env.cells scope.names []) = cl at I4
  generalize hC : s3.heap.objs.size = C at I4
  generalize hH3 : upd H2 p (.dT []) = H3 at I3 I4 w0 f3
  have pg := hg s3 H3 C cl fp
  have pt := ht s3 H3 C cl fp
  have pk := hk s3 H3 C cl fp
  have pe := he s3 H3 C cl fp
  have atC : (compEnvC scope cl C X.env).locals = C := rfl
  show codeAny (model X.prog X.w) X.A (.compStart (.DictComp kx vx [⟨tg, iter, ifs, 0⟩] scope pos) 0 (.ref it) (.ref p) (compEnvC scope cl C X.env)) (compPost (model X.prog X.w) X.A X.xe use Qf (.ref p) C) _
  generalize compEnvC scope cl C X.env = ce at I4 pg pt pk pe atC ⊢
  generalize hs4 : ({ s3 with heap := pushCells (s3.heap.push { cls := .type "dict", data := .dict #[] }) scope.names } : Shared) = s4 at I4
  have t4 : tn 0 s4.heap := T.keep _ _ _ t3 fun b _ o e => by rw [← hs4]; exact pushCells_keeps _ _ _ _ (Heap.get?_push_of_some _ e)
  have still : ∀ {σ' : L2.St} {H' : Hp} {t : Shared}, Inv (X.blk s3 H3 scope ce fp) [] σ' H' t → (∀ b ∈ fp, H' b = none) → ∀ b ∈ fp, FpOk (X.blk s3 H3 scope ce fp) [] H' b := fun {_ _ _} I' n b hb =>
    ⟨n b hb, (I'.ok.exf b hb).1, I'.ok.exfs b hb, .inl hb, fun x c e => (I'.ok.exf b hb).2 x c e, fun _ h => by cases h⟩
  have run : codeAny (model X.prog X.w) X.A (.compLoop (.DictComp kx vx [⟨tg, iter, ifs, 0⟩] scope pos) 0 (.ref it) (.ref p) ce) (compPost (model X.prog X.w) X.A X.xe use Qf (.ref p) C) s4 := by
    refine compLoop_anyD (fun k t => ∃ i G, W i k G ∧ Inv (X.blk s3 H3 scope ce fp) [] (wipe σ (own.map (·.2))) G t ∧ tn i t.heap ∧ ∀ b ∈ fp, G b = none) ?_ m0 ⟨0, H3, w0, I4, t4, fun b hb => (f3 b hb).1.1⟩
    rintro k s5 ⟨i, H5, w5, I5, t5, n5⟩
    rcases turn i k H5 w5 with ⟨stop, fin⟩ | ⟨go, Nx, less, body⟩
    · refine thnF (T.done (X.blk s3 H3 scope ce fp) rfl rfl rfl hc i [] s5 _ H5 (fun _ _ => False) I5 (still I5 n5) t5 stop) fun r s6 ⟨er, I6⟩ => ?_
      cases er
      have back : Inv X pins σ H5 s6 := I3.call' (ch := fp) I6.os I6.base I6.hok I6.bare fun b hb => ⟨(f3 b hb).1.2.2.2.1, (f3 b hb).1.2.1, (f3 b hb).1.2.2.2.2.1, (f3 b hb).1.2.2.2.2.2⟩
      obtain ⟨m, ns, _⟩ := id I6.loc
      have hl : (X.blk s3 H3 scope ce fp).env.locals = C := atC
      rw [hl] at ns
      exact out p C s6 m H5 back fin ns (I3.fpOk (Nat.le_of_eq hC) (hl ▸ I6.free))
    · refine thnF (T.item (X.blk s3 H3 scope ce fp) rfl rfl rfl hc i [] s5 _ H5 (fun _ _ => False) I5 (still I5 n5) t5 go) fun r s6 ⟨u, er, z6⟩ => ?_
      cases er
      refine thnF z6 fun _ s7 ⟨x, H7, I7, r7, y7, t7, n7⟩ => ?_
      refine thnF (pg.run _ s7 _ H7 x u _ (I7.pinned (still I7 n7) (T.obj _ _ t7)) r7 (body x H7 y7)) fun _ s8 ⟨σ8, H8, I8, same, q8⟩ => ?_
      refine thnF (pt.run _ s8 σ8 H8 _ I8 q8) fun b s9 ⟨H9, I9, q9⟩ => ?_
      have again : ∀ {t : Shared} {G : Hp}, Inv (X.blk s3 H3 scope ce fp) ([] ++ pinsAt fp s7.heap) σ8 G t → Nx G → ∃ m, m < k ∧ ∃ i G, W i m G ∧ Inv (X.blk s3 H3 scope ce fp) [] (wipe σ (own.map (·.2))) G t ∧ tn i t.heap ∧ ∀ b ∈ fp, G b = none := fun {t G} I' nx => by
        obtain ⟨m', lt, w'⟩ := less G nx
        have held : ∀ b ∈ fp, ∀ o, s7.heap.get? b = some o → t.heap.get? b = some o ∧ G b = none := fun b hb o e => by
          have z := I'.pin (b, o) (List.mem_append_right _ (List.mem_append_right _ (mem_pinsAt hb e)))
          exact ⟨z.1, z.2.1⟩
        refine ⟨m', lt, i + 1, G, w', (I'.unpinned (pins := [])).weak (by rw [← same, wipe_length]) fun j v e => (wipe_some (same ▸ e)).1, T.keep _ _ _ t7 fun b hb o e => (held b hb o e).1, fun b hb => ?_⟩
        obtain ⟨o, e, _⟩ := T.obj _ _ t7 b hb
        exact (held b hb o e).2
      cases b with
      | false =>
        rw [if_neg Bool.false_ne_true] at q9 ⊢
        exact again I9 q9
      | true =>
        rw [if_pos rfl] at q9 ⊢
        refine thnF (pk.run _ s9 σ8 H9 _ I9 q9) fun _ s10 ⟨yk, H10, I10, r10, q10⟩ => ?_
        refine thnF (pe.run _ s10 σ8 H10 _ I10 q10) fun _ s11 ⟨yv, H11, I11, r11, kvs, key, kb, ek, hb, hD, hz, nx⟩ => ?_
        subst ek
        cases r10
        exact put_tuple (X := X.blk s3 H3 scope ce fp) hu I11 hD hb hz r11 fun s12 I12 => again I12 nx
  exact codeAny_compStart_dict run (T.self X.A 0 _ _ _ t4 run)
theorem pe_dcT (hu : X.A.units < cLine) (hc : X.calm = true) (hN : X.N.Nodup) (hi : PI X tg iter wi) (ok : BlkOk X.N X.env.scope scope own)
    (hg : OfBlk X scope fun Y => PG Y tg g) (ht : OfBlk X scope fun Y => PTs Y ifs tt) (hk : OfBlk X scope fun Y => PE Y kx tk) (he : OfBlk X scope fun Y => PE Y vx tv) (hs : ∀ x, foldedSetIterable iter X.env x = pure x) :
    PE X (.DictComp kx vx [⟨tg, iter, ifs, 0⟩] scope pos) (tDcT wi g tt tk tv (own.map (·.2))) := ⟨fun pins s σ H Q I h => by
  rw [arm_eval_DictComp]
  refine core_dcT hu hc hN I hi ok hg ht hk he hs h fun p C t m H' I' q ns fpc => ⟨m, ns, fun h2 same => ?_⟩
  exact ⟨.ref p, H', I'.turned (t' := t.toks) (fun b o hb e => (same.2 b hb).trans e) fpc.1 fpc.2.1 fpc.2.2.2.1 fpc.2.2.2.2.1 fpc.2.2.2.2.2, rfl, q⟩⟩
end
end Me
set_option Elab.async false
set_option linter.all false
set_option maxRecDepth 100000
set_option maxHeartbeats 1000000
/-! Me6: dicts, subscripts, slices, methods, built-ins. -/
namespace Me
open PySem PySem.Spec PyProof.Rows L2
variable {K : PySem.W.Frag}

/-! ### dicts of data -/
section
variable {κ : Type} [DecidableEq κ]
def dfind (kvs : List (κ × D)) (k : κ) : Option D := (kvs.find? fun kv => decide (kv.1 = k)).map (·.2)
def dput (kvs : List (κ × D)) (k : κ) (d : D) : List (κ × D) := if (kvs.any fun kv => decide (kv.1 = k)) = true then kvs.map (fun kv => if kv.1 = k then (kv.1, d) else kv) else kvs ++ [(k, d)]
def ddrop (kvs : List (κ × D)) (k : κ) : List (κ × D) := kvs.filter fun kv => decide (kv.1 ≠ k)
theorem Kv.find {H : Hp} {α : Ad} {k : κ} : ∀ {ws : List (κ × V)} {kvs : List (κ × D)}, Kv H α ws kvs → (∃ v d, valV ws k = some v ∧ dfind kvs k = some d ∧ Rp H α v d) ∨ (valV ws k = none ∧ dfind kvs k = none)
  | _, _, .nil => .inr ⟨rfl, rfl⟩
  | (k1, v) :: ws, (k2, d) :: kvs, .cons ⟨e, r⟩ t => by
    have e : k1 = k2 := e
    subst e
    by_cases h : k1 = k
    · exact .inl ⟨v, d, valV_pos h, by unfold dfind; rw [List.find?_cons_of_pos (by simpa using h)]; rfl, r⟩
    · have e1 : dfind ((k1, d) :: kvs) k = dfind kvs k := by unfold dfind; rw [List.find?_cons_of_neg (by simpa using h)]
      rw [valV_neg (p := (k1, v)) h, e1]
      exact Kv.find t
theorem Kv.anyK {H : Hp} {α : Ad} {k : κ} : ∀ {ws : List (κ × V)} {kvs : List (κ × D)}, Kv H α ws kvs → (ws.any fun kv => decide (kv.1 = k)) = (kvs.any fun kv => decide (kv.1 = k))
  | _, _, .nil => rfl
  | (k1, v) :: ws, (k2, d) :: kvs, .cons ⟨e, r⟩ t => by
    have e : k1 = k2 := e
    subst e
    rw [List.any_cons, List.any_cons, Kv.anyK t]
theorem Kv.mapK {H : Hp} {α : Ad} {k : κ} {v : V} {d : D} (r : Rp H α v d) : ∀ {ws : List (κ × V)} {kvs : List (κ × D)}, Kv H α ws kvs → Kv H α (ws.map fun kv => if kv.1 = k then (kv.1, v) else kv) (kvs.map fun kv => if kv.1 = k then (kv.1, d) else kv)
  | _, _, .nil => .nil
  | (k1, _) :: ws, (k2, _) :: kvs, .cons ⟨e, q⟩ t => by
    have e : k1 = k2 := e
    subst e
    refine .cons ?_ (Kv.mapK r t)
    by_cases h : k1 = k
    · simp only [if_pos h]; exact ⟨trivial, r⟩
    · simp only [if_neg h]; exact ⟨trivial, q⟩
theorem Kv.app {H : Hp} {α : Ad} : ∀ {ws us : List (κ × V)} {kvs ls : List (κ × D)}, Kv H α ws kvs → Kv H α us ls → Kv H α (ws ++ us) (kvs ++ ls)
  | _, _, _, _, .nil, s => s
  | _, _, _, _, .cons h t, s => .cons h (Kv.app t s)
theorem Kv.put {H : Hp} {α : Ad} {k : κ} {v : V} {d : D} (r : Rp H α v d) {ws : List (κ × V)} {kvs : List (κ × D)} (h : Kv H α ws kvs) : Kv H α (putK ws k v) (dput kvs k d) := by
  unfold putK dput
  rw [Kv.anyK h]
  split
  · exact Kv.mapK r h
  · exact Kv.app h (.cons ⟨rfl, r⟩ .nil)
theorem Kv.drop {H : Hp} {α : Ad} {k : κ} : ∀ {ws : List (κ × V)} {kvs : List (κ × D)}, Kv H α ws kvs → Kv H α (dropK ws k) (ddrop kvs k)
  | _, _, .nil => .nil
  | (k1, v) :: ws, (k2, d) :: kvs, .cons ⟨e, q⟩ t => by
    have e : k1 = k2 := e
    subst e
    unfold dropK ddrop
    by_cases h : k1 = k
    · rw [List.filter_cons_of_neg (by simpa using h), List.filter_cons_of_neg (by simpa using h)]
      exact Kv.drop t
    · rw [List.filter_cons_of_pos (by simpa using h), List.filter_cons_of_pos (by simpa using h)]
      exact .cons ⟨rfl, q⟩ (Kv.drop t)
theorem Kv.len {H : Hp} {α : Ad} : ∀ {ws : List (κ × V)} {kvs : List (κ × D)}, Kv H α ws kvs → ws.length = kvs.length
  | _, _, .nil => rfl
  | _, _, .cons _ t => congrArg (· + 1) (Kv.len t)
end
def keyD : Key → D
  | .inl i => .int i
  | .inr x => .str x
def asKey : D → Option Key
  | .int i => some (.inl i)
  | .str x => some (.inr x)
  | _ => none
def asKeys : List D → Option (List Key)
  | [] => some []
  | d :: ds => bd (asKey d) fun k => bd (asKeys ds) fun ks => some (k :: ks)
theorem asKey_of {H : Hp} {α : Ad} {v : V} {d : D} {k : Key} (r : Rp H α v d) (h : asKey d = some k) : v = kV k := by
  match d, r, h with
  | .int i, .int _, h => cases h; rfl
  | .str x, .str _, h => cases h; rfl
theorem asKeys_of {H : Hp} {α : Ad} : ∀ {vs : List V} {ds : List D} {ks : List Key}, RpL H α vs ds → asKeys ds = some ks → vs = ks.map kV
  | _, _, _, .nil, h => by cases h; rfl
  | _, _, _, .cons r t, h => by
    obtain ⟨k, h1, h⟩ := bd_of h
    obtain ⟨ks, h2, h⟩ := bd_of h
    cases h
    rw [asKey_of r h1, asKeys_of t h2]; rfl
/-- a tuple of ints and texts -/
def asKeyT (p : P) : Option (List Key) := bd (asTup p) asKeys
def asKeyP (p : P) : Option Key := bd (asDat p) asKey
theorem asKeyT_of {H : Hp} {α : Ad} {v : V} {p : P} {ks : List Key} (r : RpP K H α v p) (h : asKeyT p = some ks) : ∃ b, v = .ref b ∧ H b = some (.tup (ks.map kV)) := by
  obtain ⟨ds, h1, h2⟩ := bd_of h
  cases asTup_of h1
  obtain ⟨a, xs, rfl, g1, g2, g3, _⟩ := tup_of r
  rw [asKeys_of g3 h2] at g1
  exact ⟨a, rfl, g1⟩
theorem asKeyP_of {H : Hp} {α : Ad} {v : V} {p : P} {k : Key} (r : RpP K H α v p) (h : asKeyP p = some k) : v = kV k := by
  obtain ⟨d, h1, h2⟩ := bd_of h
  cases asDat_of h1
  exact asKey_of r h2
/-- what the thing p holds at q: none where it is no dict, or no key -/
def dlook (p q : P) (S : Sto) : Option (Option D) := match p with
  | .obj k => (match S[k]? with
    | some (.dK kvs) => bd (asKeyP q) fun key => some (dfind kvs key)
    | some (.dT kvs) => bd (asKeyT q) fun key => some (dfind kvs key)
    | _ => none)
  | _ => none
theorem dlook_of {H : Hp} {α : Ad} {S : Sto} (w : Wd H α S) {x y : V} {p q : P} (rx : RpP K H α x p) (ry : RpP K H α y q) {o : Option D} (h : dlook p q S = some o) :
    ∃ a o', x = .ref a ∧ DGet H a y o' ∧ ((∃ v d, o' = some v ∧ o = some d ∧ Rp H α v d) ∨ (o' = none ∧ o = none)) := by
  unfold dlook at h
  match p, rx, h with
  | .obj k, rx, h =>
    have h : (match S[k]? with
      | some (.dK kvs) => bd (asKeyP q) fun key => some (dfind kvs key)
      | some (.dT kvs) => bd (asKeyT q) fun key => some (dfind kvs key)
      | _ => none) = some o := h
    split at h
    · rename_i kvs e
      obtain ⟨key, h1, h⟩ := bd_of h
      cases h
      obtain ⟨a, ws, rfl, _, g1, g2⟩ := w.dK rx e
      rw [asKeyP_of ry h1]
      exact ⟨a, _, rfl, DGet.k g1, g2.find⟩
    · rename_i kvs e
      obtain ⟨key, h1, h⟩ := bd_of h
      cases h
      obtain ⟨a, ws, rfl, _, g1, g2⟩ := w.dT rx e
      obtain ⟨b, rfl, g3⟩ := asKeyT_of ry h1
      exact ⟨a, _, rfl, DGet.t g1 g3, g2.find⟩
    · cases h
  | .dat _, _, h => cases h
  | .fz _, _, h => cases h

theorem _root_.L2.PE.or {X : Cx} {e : Expr} {t t' : TE} (h : PE X e t) (h' : PE X e t') : PE X e (fun σ H Q => t σ H Q ∨ t' σ H Q) := ⟨fun pins s σ H Q I q => q.elim (h.run pins s σ H Q I) (h'.run pins s σ H Q I)⟩
theorem _root_.L2.PT.or {X : Cx} {e : Expr} {t t' : TT} (h : PT X e t) (h' : PT X e t') : PT X e (fun σ H Q => t σ H Q ∨ t' σ H Q) := ⟨fun pins s σ H Q I q => q.elim (h.run pins s σ H Q I) (h'.run pins s σ H Q I)⟩
theorem _root_.L2.PS.or {X : Cx} {e : Stmt} {t t' : TS} (h : PS X e t) (h' : PS X e t') : PS X e (fun D σ H => t D σ H ∨ t' D σ H) := ⟨fun pins s σ H D I q => q.elim (h.run pins s σ H D I) (h'.run pins s σ H D I)⟩

/-! ### a[i] -/
theorem atI_of {H : Hp} {α : Ad} {vs : List V} {ds : List D} {i : Int} {d : D} (r : RpL H α vs ds) (h : atI ds i = some d) : ∃ v, atI vs i = some v ∧ Rp H α v d := by
  unfold atI at h ⊢
  rw [r.length]
  cases q : ixN ds.length i with
  | none => rw [q] at h; cases h
  | some j =>
    rw [q] at h
    exact r.get h
def oIx : OF := fun p q S => match seqOf p S with
  | some ds => bd (asInt q) fun i => bd (atI ds i) fun d => some (.dat d, S)
  | none => bd (dlook p q S) fun o => bd o fun d => some (.dat d, S)
theorem me_ix {X : Cx} {a b : Expr} {fa fb : EF} {pos : Pos} (hu : X.A.units + 1 < cLine) (ha : PE X a (tE X.K fa)) (hb : PE X b (tE X.K fb)) (hs : PlainIx b := by exact fun _ _ => rfl) : PE X (.Subscript a b pos) (tE X.K (eOp oIx fa fb)) :=
  ((pe_ix ix_seq ha hb hs).or (pe_dget hu ha hb hs)).imp fun σ H Q => by
  rintro ⟨ρ, S, α, z, S', w, s, e, k⟩
  obtain ⟨⟨x, S1⟩, e1, e⟩ := bd_of e
  obtain ⟨⟨y, S2⟩, e2, e⟩ := bd_of e
  have e : (match seqOf x S2 with
    | some ds => bd (asInt y) fun i => bd (atI ds i) fun d => some (P.dat d, S2)
    | none => bd (dlook x y S2) fun o => bd o fun d => some (P.dat d, S2)) = some (z, S') := e
  split at e
  · rename_i ds hq
    obtain ⟨i, h1, e⟩ := bd_of e
    obtain ⟨d, h2, e⟩ := bd_of e
    cases e
    cases asInt_of h1
    refine .inl ⟨ρ, S, α, x, S1, w, s, e1, fun v H1 α1 a1 w1 r1 => ⟨ρ, S1, α1, _, _, w1, s.mono a1, e2, fun u H2 α2 a2 w2 r2 => ?_⟩⟩
    obtain ⟨b, xs, rfl, g1, _, g2⟩ := seqOf_at (K := X.K) w2 (r1.mono a2) hq
    obtain ⟨c, g3, g4⟩ := atI_of g2 h2
    have fin := (k.mono (a1.trans a2)).now w2 (v := c) g4
    rcases g1 with g1 | g1
    · exact .inr (.inl ⟨b, xs, i, c, rfl, int_of r2, g1, g3, fin⟩)
    · exact .inl ⟨b, xs, i, c, rfl, int_of r2, g1, g3, fin⟩
  · obtain ⟨o, h1, e⟩ := bd_of e
    obtain ⟨d, h2, e⟩ := bd_of e
    cases e
    refine .inr ⟨ρ, S, α, x, S1, w, s, e1, fun v H1 α1 a1 w1 r1 => ⟨ρ, S1, α1, y, _, w1, s.mono a1, e2, fun u H2 α2 a2 w2 r2 => ?_⟩⟩
    obtain ⟨b, o', rfl, g1, g2⟩ := dlook_of w2 (r1.mono a2) r2 h1
    rcases g2 with ⟨c, d', rfl, g3, g4⟩ | ⟨_, g3⟩
    · rw [h2] at g3
      cases g3
      exact ⟨b, c, rfl, g1, (k.mono (a1.trans a2)).now w2 (v := c) g4⟩
    · rw [h2] at g3; cases g3

/-! ### in -/
def oInX (neg : Bool) : OF := fun p q S => match dlook q p S with
  | some o => some (.dat (.bool (if neg then !o.isSome else o.isSome)), S)
  | none => match oIn neg p q S with
    | some r => some r
    | none => oInD neg p q S
theorem rd_inX {t : TE} {neg : Bool} {r : R2} {fa fb : EF} (hd : OpD K r (oInD neg)) {σ : L2.St} {H : Hp} {Q : VK}
    (ht : (tE K fa σ H fun y H1 => tE K fb σ H1 fun x H2 => ∃ a o, x = .ref a ∧ DGet H2 a y o ∧ Q (.bl (if neg then !o.isSome else o.isSome)) H2) → t σ H Q) :
    tE K (eOp (oInX neg) fa fb) σ H Q → t σ H Q ∨ tOp (rIn K neg) (tE K fa) (tE K fb) σ H Q ∨ tOp r (tE K fa) (tE K fb) σ H Q := by
  rintro ⟨ρ, S, α, z, S', w, s, e, k⟩
  obtain ⟨⟨x, S1⟩, e1, e⟩ := bd_of e
  obtain ⟨⟨y, S2⟩, e2, e⟩ := bd_of e
  have e : oInX neg x y S2 = some (z, S') := e
  unfold oInX at e
  split at e
  · rename_i o h1
    cases e
    refine .inl (ht ⟨ρ, S, α, x, S1, w, s, e1, fun v H1 α1 a1 w1 r1 => ⟨ρ, S1, α1, y, _, w1, s.mono a1, e2, fun u H2 α2 a2 w2 r2 => ?_⟩⟩)
    obtain ⟨b, o', rfl, g1, g2⟩ := dlook_of w2 r2 (r1.mono a2) h1
    have eo : o'.isSome = o.isSome := by
      rcases g2 with ⟨c, d', rfl, rfl, g4⟩ | ⟨rfl, rfl⟩ <;> rfl
    refine ⟨b, o', rfl, g1, ?_⟩
    rw [eo]
    exact (k.mono (a1.trans a2)).now w2 (.bl _)
  · split at e
    · rename_i r0 h1
      cases e
      exact .inr (.inl ⟨ρ, S, α, x, S1, w, s, e1, fun v H1 α1 a1 w1 r1 => ⟨ρ, S1, α1, y, _, w1, s.mono a1, e2, fun u H2 α2 a2 w2 r2 => od_in H2 α2 _ v u x y z S' Q w2 (r1.mono a2) r2 h1 (k.mono (a1.trans a2))⟩⟩)
    · exact .inr (.inr ⟨ρ, S, α, x, S1, w, s, e1, fun v H1 α1 a1 w1 r1 => ⟨ρ, S1, α1, y, _, w1, s.mono a1, e2, fun u H2 α2 a2 w2 r2 => hd H2 α2 _ v u x y z S' Q w2 (r1.mono a2) r2 e (k.mono (a1.trans a2))⟩⟩)
section
variable {X : Cx} {a b : Expr} {fa fb : EF} {pos : Pos}
theorem me_in (hu : X.A.units + 65 < cLine) (ha : PE X a (tE X.K fa)) (hb : PE X b (tE X.K fb)) (hm : behindInMarks .In b = false) : PE X (.Compare a [.In] [b] pos) (tE X.K (eOp (oInX false) fa fb)) :=
  ((pe_cmp (pc_din (by omega) ha hb) hm).or ((pe_cmpR op_in_seq ha hb hm).or (pe_cmpR (op_inD hu) ha hb hm))).imp fun _ _ _ => rd_inX od_inD fun h => h
theorem me_notIn (hu : X.A.units + 65 < cLine) (ha : PE X a (tE X.K fa)) (hb : PE X b (tE X.K fb)) (hm : behindInMarks .NotIn b = false) : PE X (.Compare a [.NotIn] [b] pos) (tE X.K (eOp (oInX true) fa fb)) :=
  ((pe_cmp (pc_dnotin (by omega) ha hb) hm).or ((pe_cmpR op_notIn_seq ha hb hm).or (pe_cmpR (op_notInD hu) ha hb hm))).imp fun _ _ _ => rd_inX od_notInD fun h => h
theorem mt_in (hu : X.A.units + 65 < cLine) (ha : PE X a (tE X.K fa)) (hb : PE X b (tE X.K fb)) (hm : behindInMarks .In b = false) : PT X (.Compare a [.In] [b] pos) (tT X.K (cE (eOp (oInX false) fa fb))) :=
  ((pt_cmp (pc_din (by omega) ha hb) hm).or ((pt_cmpR op_in_seq ha hb hm).or (pt_cmpR (op_inD hu) ha hb hm))).imp fun σ H Q h => by
  have h := rd_test (t := fun σ H Q => tDIn (tE X.K fa) (tE X.K fb) σ H Q ∨ tOp (rIn X.K false) (tE X.K fa) (tE X.K fb) σ H Q ∨ tOp (rInD X.K) (tE X.K fa) (tE X.K fb) σ H Q) (fun _ _ _ => rd_inX od_inD fun h => h) h
  exact h
theorem mt_notIn (hu : X.A.units + 65 < cLine) (ha : PE X a (tE X.K fa)) (hb : PE X b (tE X.K fb)) (hm : behindInMarks .NotIn b = false) : PT X (.Compare a [.NotIn] [b] pos) (tT X.K (cE (eOp (oInX true) fa fb))) :=
  ((pt_cmp (pc_dnotin (by omega) ha hb) hm).or ((pt_cmpR op_notIn_seq ha hb hm).or (pt_cmpR (op_notInD hu) ha hb hm))).imp fun σ H Q h => by
  have h := rd_test (t := fun σ H Q => tDNotIn (tE X.K fa) (tE X.K fb) σ H Q ∨ tOp (rIn X.K true) (tE X.K fa) (tE X.K fb) σ H Q ∨ tOp (rNotInD X.K) (tE X.K fa) (tE X.K fb) σ H Q) (fun _ _ _ => rd_inX od_notInD fun h => h) h
  exact h
end

/-! ### stores -/
def oPut (p q : P) (d : D) (S : Sto) : Option Sto := match p with
  | .obj k => (match S[k]? with
    | some (.lst xs) => bd (asInt q) fun i => bd (ixN xs.length i) fun j => some (S.set k (.lst (xs.set j d)))
    | some (.dK kvs) => bd (asKeyP q) fun key => if kvs.length < lim then some (S.set k (.dK (dput kvs key d))) else none
    | some (.dT kvs) => bd (asKeyT q) fun key => if kvs.length < lim then some (S.set k (.dT (dput kvs key d))) else none
    | _ => none)
  | _ => none
theorem put_of {H : Hp} {α : Ad} {S S' : Sto} (w : Wd H α S) {x y v : V} {p q : P} {d : D} (rx : RpP K H α x p) (ry : RpP K H α y q) (rv : Rp H α v d) (h : oPut p q d S = some S') {Q : Hp → Prop} (k : ∀ H' , Adv H α H' α → Wd H' α S' → Q H') :
    rSetL x y v H Q ∨ ∃ a H4, x = .ref a ∧ DPut H a y v H4 ∧ Q H4 := by
  match p, rx, h with
  | .obj j, rx, h =>
    have h : (match S[j]? with
      | some (.lst xs) => bd (asInt q) fun i => bd (ixN xs.length i) fun n => some (S.set j (.lst (xs.set n d)))
      | some (.dK kvs) => bd (asKeyP q) fun key => if kvs.length < lim then some (S.set j (.dK (dput kvs key d))) else none
      | some (.dT kvs) => bd (asKeyT q) fun key => if kvs.length < lim then some (S.set j (.dT (dput kvs key d))) else none
      | _ => none) = some S' := h
    split at h
    · rename_i xs e
      obtain ⟨i, h1, h⟩ := bd_of h
      obtain ⟨n, h2, h⟩ := bd_of h
      cases h
      cases asInt_of h1
      obtain ⟨a, us, rfl, g0, g1, g2, g3⟩ := w.lst rx e
      refine .inl ⟨a, us, i, n, rfl, int_of ry, g1, by rw [g3.length]; exact h2, k _ (Adv.write g0) (w.write g0 ⟨_, upd_same, by rw [List.length_set]; exact g2, RpL.set (Rp.mono (Adv.write g0) rv) n (RpL.mono (Adv.write g0) g3)⟩)⟩
    · rename_i kvs e
      obtain ⟨key, h1, h⟩ := bd_of h
      split at h
      · rename_i hl
        cases h
        obtain ⟨a, ws, rfl, g0, g1, g2⟩ := w.dK rx e
        rw [asKeyP_of ry h1]
        exact .inr ⟨a, _, rfl, DPut.k g1 (by rw [g2.len, lim_eq]; exact hl), k _ (Adv.write g0) (w.write g0 ⟨_, upd_same, Kv.put (Rp.mono (Adv.write g0) rv) (g2.mono (Adv.write g0))⟩)⟩
      · cases h
    · rename_i kvs e
      obtain ⟨key, h1, h⟩ := bd_of h
      split at h
      · rename_i hl
        cases h
        obtain ⟨a, ws, rfl, g0, g1, g2⟩ := w.dT rx e
        obtain ⟨b, rfl, g3⟩ := asKeyT_of ry h1
        exact .inr ⟨a, _, rfl, DPut.t g1 g3 (by rw [g2.len, lim_eq]; exact hl), k _ (Adv.write g0) (w.write g0 ⟨_, upd_same, Kv.put (Rp.mono (Adv.write g0) rv) (g2.mono (Adv.write g0))⟩)⟩
      · cases h
    · cases h
  | .dat _, _, h => cases h
  | .fz _, _, h => cases h
/-- o[i] = v -/
def sPut (o i v : EF) : SF := fun ρ S => bd (v ρ S) fun z => bd (asDat z.1) fun d => bd (o ρ z.2) fun x => bd (i ρ x.2) fun y => bd (oPut x.1 y.1 d y.2) fun S' => some (.nx, ρ, S')
theorem ms_put {X : Cx} {o i v : Expr} {fo fi fv : EF} {pos pos' : Pos} (hu : X.A.units + 1 < cLine) (ho : PE X o (tE X.K fo)) (hi : PE X i (tE X.K fi)) (hv : PE X v (tE X.K fv)) (hs : swapsWith v (some (.Subscript o i pos')) pos.line X.env = pure false := by rfl)
    (hs1 : swapsWithSole [.Subscript o i pos'] v pos.line X.env = pure false := by rfl) (hw : swappedStores [.Subscript o i pos'] v X.env = pure none := by rfl) (h1 : (assignEach [.Subscript o i pos'] X.env).map (·.2) = [assign (.Subscript o i pos') X.env] := by rfl)
    (ha : ∀ v, assign (.Subscript o i pos') X.env v = (do
      let ov ← holding [v] (eval o X.env)
      let iv ← holding [v, ov] (eval i X.env)
      standAt pos'
      holding [v, ov, iv] (setItem ov iv v)
      release [v, ov, iv] []) := by intro _; rfl) : PS X (.Assign [.Subscript o i pos'] v pos) (tS X.K (sPut fo fi fv)) :=
  ((ps_asg hv (pg_sub ho hi set_list ha) hs1 hw h1).or (ps_dput hu ho hi hv hs)).imp fun E σ H => by
  rintro ⟨ρ, S, α, r, w, s, e, k⟩
  obtain ⟨⟨z, S1⟩, e1, e⟩ := bd_of e
  obtain ⟨d, h1, e⟩ := bd_of e
  obtain ⟨⟨x, S2⟩, e2, e⟩ := bd_of e
  obtain ⟨⟨y, S3⟩, e3, e⟩ := bd_of e
  obtain ⟨S4, e4, e⟩ := bd_of e
  cases e
  cases asDat_of h1
  -- which of both is told by the store
  have both : ∀ v1 H1 α1, Adv H α H1 α1 → Wd H1 α1 S1 → RpP X.K H1 α1 v1 (.dat d) → ∀ v2 H2 α2, Adv H1 α1 H2 α2 → Wd H2 α2 S2 → RpP X.K H2 α2 v2 x → ∀ v3 H3 α3, Adv H2 α2 H3 α3 → Wd H3 α3 S3 → RpP X.K H3 α3 v3 y →
      rSetL v2 v3 v1 H3 (E.nx σ) ∨ ∃ a H4, v2 = .ref a ∧ DPut H3 a v3 v1 H4 ∧ E.nx σ H4 := fun v1 H1 α1 a1 w1 r1 v2 H2 α2 a2 w2 r2 v3 H3 α3 a3 w3 r3 =>
    put_of w3 (r2.mono a3) r3 (Rp.mono (a2.trans a3) r1) e4 fun H' a4 w4 => k σ H' α3 (a1.trans (a2.trans (a3.trans a4))) w4 (s.mono (a1.trans (a2.trans (a3.trans a4))))
  match x, e2, both, e4 with
  | .obj j, e2, both, e4 =>
    have e4 : (match S3[j]? with
      | some (.lst xs) => bd (asInt y) fun i => bd (ixN xs.length i) fun n => some (S3.set j (.lst (xs.set n d)))
      | some (.dK kvs) => bd (asKeyP y) fun key => if kvs.length < lim then some (S3.set j (.dK (dput kvs key d))) else none
      | some (.dT kvs) => bd (asKeyT y) fun key => if kvs.length < lim then some (S3.set j (.dT (dput kvs key d))) else none
      | _ => none) = some S4 := e4
    by_cases hl : ∃ xs, S3[j]? = some (.lst xs)
    · obtain ⟨xs, hl⟩ := hl
      refine .inl ⟨ρ, S, α, _, S1, w, s, e1, fun v1 H1 α1 a1 w1 r1 => ⟨ρ, S1, α1, _, S2, w1, s.mono a1, e2, fun v2 H2 α2 a2 w2 r2 => ⟨ρ, S2, α2, y, S3, w2, s.mono (a1.trans a2), e3, fun v3 H3 α3 a3 w3 r3 => ?_⟩⟩⟩
      rcases both v1 H1 α1 a1 w1 r1 v2 H2 α2 a2 w2 r2 v3 H3 α3 a3 w3 r3 with q | ⟨a, H4, rfl, q, _⟩
      · exact q
      · obtain ⟨b, us, q0, _, q1, _⟩ := w3.lst (r2.mono a3) hl
        cases q0
        rcases q with ⟨_, _, q2, _⟩ | ⟨_, _, _, q2, _⟩
        · rw [q1] at q2; cases q2
        · rw [q1] at q2; cases q2
    · refine .inr ⟨ρ, S, α, _, S1, w, s, e1, fun v1 H1 α1 a1 w1 r1 => ⟨ρ, S1, α1, _, S2, w1, s.mono a1, e2, fun v2 H2 α2 a2 w2 r2 => ⟨ρ, S2, α2, y, S3, w2, s.mono (a1.trans a2), e3, fun v3 H3 α3 a3 w3 r3 => ?_⟩⟩⟩
      rcases both v1 H1 α1 a1 w1 r1 v2 H2 α2 a2 w2 r2 v3 H3 α3 a3 w3 r3 with ⟨a, us, _, _, rfl, _, q1, _⟩ | q
      · exfalso
        split at e4
        · rename_i xs e; exact hl ⟨xs, e⟩
        · rename_i kvs e
          obtain ⟨b, ws, q0, _, q2, _⟩ := w3.dK (r2.mono a3) e
          cases q0
          rw [q1] at q2; cases q2
        · rename_i kvs e
          obtain ⟨b, ws, q0, _, q2, _⟩ := w3.dT (r2.mono a3) e
          cases q0
          rw [q1] at q2; cases q2
        · cases e4
      · exact q
  | .dat _, _, _, e4 => cases e4
  | .fz _, _, _, e4 => cases e4

/-! ### new dicts -/
def eDnK : EF := fun _ S => some (.obj S.length, S ++ [.dK []])
def eDnT : EF := fun _ S => some (.obj S.length, S ++ [.dT []])
section
variable {X : Cx} {pos : Pos}
theorem me_dnK : PE X (.Dict [] [] pos) (tE X.K eDnK) := pe_dnewK.imp fun σ H Q => by
  rintro ⟨ρ, S, α, z, S', w, s, e, k⟩
  cases e
  exact fun p hp => k.newObj w hp ⟨[], upd_same, .nil⟩
theorem me_dnT : PE X (.Dict [] [] pos) (tE X.K eDnT) := pe_dnewT.imp fun σ H Q => by
  rintro ⟨ρ, S, α, z, S', w, s, e, k⟩
  cases e
  exact fun p hp => k.newObj w hp ⟨[], upd_same, .nil⟩
end
end Me
set_option Elab.async false
set_option linter.all false
set_option maxRecDepth 100000
set_option maxHeartbeats 1000000
/-! Me7: slices, methods of lists, built-ins. -/
namespace Me
open PySem PySem.Spec PyProof.Rows L2
variable {K : PySem.W.Frag}

/-! ### slices -/
abbrev OPF := Ev → Sto → Option (Option Int × Sto)
def tO (K : PySem.W.Frag) (f : OPF) : TO := fun σ H Q => ∃ ρ S α o S', Wd H α S ∧ Sl K H α σ ρ ∧ f ρ S = some (o, S') ∧ ∀ H' α', Adv H α H' α' → Wd H' α' S' → Q o H'
def pNo : OPF := fun _ S => some (none, S)
def pSo (f : EF) : OPF := fun ρ S => bd (f ρ S) fun x => bd (asInt x.1) fun i => some (some i, x.2)
theorem _root_.L2.PO.imp {X : Cx} {e : Option Expr} {t t' : TO} (h : PO X e t) (k : ∀ σ H Q, t' σ H Q → t σ H Q) : PO X e t' := ⟨fun pins s σ H Q I q => h.run pins s σ H Q I (k σ H Q q)⟩
theorem mo_none {X : Cx} : PO X none (tO X.K pNo) := po_none.imp fun σ H Q => by
  rintro ⟨ρ, S, α, z, S', w, s, e, k⟩
  cases e
  exact k H α .refl w
theorem mo_some {X : Cx} {e : Expr} {f : EF} (h : PE X e (tE X.K f)) : PO X (some e) (tO X.K (pSo f)) := (po_some h).imp fun σ H Q => by
  rintro ⟨ρ, S, α, z, S', w, s, e, k⟩
  obtain ⟨⟨x, S1⟩, e1, e⟩ := bd_of e
  obtain ⟨i, h1, e⟩ := bd_of e
  cases e
  cases asInt_of h1
  exact ⟨ρ, S, α, _, _, w, s, e1, fun v H1 α1 a1 w1 r1 => ⟨i, int_of r1, k H1 α1 a1 w1⟩⟩
def cutD {β : Type} (xs : List β) (lo hi : Option Int) : List β := (xs.drop (HT.sIx xs.length 0 lo)).take (HT.sIx xs.length xs.length hi - HT.sIx xs.length 0 lo)
theorem RpL.cut {H : Hp} {α : Ad} {vs : List V} {ds : List D} (r : RpL H α vs ds) (lo hi : Option Int) : RpL H α (cutV vs lo hi) (cutD ds lo hi) := by
  unfold cutV cutD
  rw [r.length]
  exact RpL.take _ (RpL.drop _ r)
/-- the items of a list, not of a tuple -/
def lsqOf (p : P) (S : Sto) : Option (List D) := match p with
  | .dat (.list xs) => some xs
  | .obj k => lstAt k S
  | .fz xs => some xs
  | _ => none
theorem lsqOf_at {H : Hp} {α : Ad} {S : Sto} (w : Wd H α S) {v : V} {p : P} (r : RpP K H α v p) {ds : List D} (h : lsqOf p S = some ds) : ∃ a xs, v = .ref a ∧ SqL K H a xs ∧ xs.length ≤ sizeLine ∧ RpL H α xs ds := by
  match p, r, h with
  | .dat (.list xs), r, h =>
    cases h
    cases r with
    | lst h n l q => exact ⟨_, _, rfl, SqL.of h, l, q⟩
  | .obj k, r, h =>
    obtain ⟨a, vs, e1, _, e2, e3, e4⟩ := w.lst r (lstAt_of h)
    exact ⟨a, vs, e1, SqL.of e2, e3, e4⟩
  | .fz xs, ⟨a, vs, e1, e2, l, e3⟩, h =>
    cases h
    exact ⟨a, vs, e1, e2.seq, l, e3⟩
  | .dat .none, _, h => cases h
  | .dat (.bool _), _, h => cases h
  | .dat (.int _), _, h => cases h
  | .dat (.str _), _, h => cases h
  | .dat (.tuple _), _, h => cases h
  | .dat (.dict _), _, h => cases h
def slP (p : P) (lo hi : Option Int) (S : Sto) : Option (P × Sto) := match asTup p with
  | some xs => some (.dat (.tuple (cutD xs lo hi)), S)
  | none => bd (lsqOf p S) fun xs => some (.obj S.length, S ++ [.lst (cutD xs lo hi)])
def eSl (f : EF) (l u : OPF) : EF := fun ρ S => bd (f ρ S) fun x => bd (l ρ x.2) fun lo => bd (u ρ lo.2) fun hi => slP x.1 lo.1 hi.1 hi.2
theorem me_slice {X : Cx} {e : Expr} {lo hi : Option Expr} {f : EF} {l u : OPF} {pos p2 : Pos} (he : PE X e (tE X.K f)) (hl : PO X lo (tO X.K l)) (hu : PO X hi (tO X.K u)) : PE X (.Subscript e (.Slice lo hi none p2) pos) (tE X.K (eSl f l u)) :=
  (pe_slice (sl_list.or sl_tupA) he hl hu).imp fun σ H Q => by
  rintro ⟨ρ, S, α, z, S', w, s, e, k⟩
  obtain ⟨⟨x, S1⟩, e1, e⟩ := bd_of e
  obtain ⟨⟨lo, S2⟩, e2, e⟩ := bd_of e
  obtain ⟨⟨hi, S3⟩, e3, e⟩ := bd_of e
  refine ⟨ρ, S, α, x, S1, w, s, e1, fun v H1 α1 a1 w1 r1 => ⟨ρ, S1, α1, lo, S2, w1, s.mono a1, e2, fun H2 α2 a2 w2 => ⟨ρ, S2, α2, hi, S3, w2, s.mono (a1.trans a2), e3, fun H3 α3 a3 w3 => ?_⟩⟩⟩
  have r3 := r1.mono (a2.trans a3)
  have k3 := k.mono (a1.trans (a2.trans a3))
  have e : slP x lo hi S3 = some (z, S') := e
  unfold slP at e
  split at e
  · rename_i xs h1
    cases e
    cases asTup_of h1
    obtain ⟨a, us, rfl, g1, g2, g3, gn⟩ := tup_of r3
    refine .inr ⟨a, us, rfl, SqT.of g1, fun hw => ?_, fun _ p hp => k3.newTup w3 hp (Nat.le_trans (cutV_length us lo hi) g2) (g3.cut lo hi)⟩
    have hc : cutD xs lo hi = xs := by
      unfold cutD
      rw [← g3.length, hw.1, hw.2, g3.length]
      simp
    rw [hc] at k3
    exact k3.now w3 (.tup g1 gn g2 g3)
  · obtain ⟨xs, h1, e⟩ := bd_of e
    cases e
    obtain ⟨a, us, rfl, g1, g2, g3⟩ := lsqOf_at (K := X.K) w3 r3 h1
    exact .inl ⟨a, us, rfl, g1, fun p hp => k3.newLst w3 hp (Nat.le_trans (cutV_length us lo hi) g2) (g3.cut lo hi)⟩
/-- xs[::-1] of a list -/
def eRev (f : EF) : EF := fun ρ S => bd (f ρ S) fun x => bd (lsqOf x.1 x.2) fun xs => some (.obj x.2.length, x.2 ++ [.lst xs.reverse])
theorem me_rev {X : Cx} {e : Expr} {f : EF} {k : Nat} {p1 p2 p3 pos : Pos} (he : PE X e (tE X.K f)) : PE X (.Subscript e (.Slice none none (some (.UnaryOp .USub (.Constant (.int 1) k p1) p2)) p3) pos) (tE X.K (eRev f)) := (pe_revL he).imp fun σ H Q => by
  rintro ⟨ρ, S, α, z, S', w, s, e, k⟩
  obtain ⟨⟨x, S1⟩, e1, e⟩ := bd_of e
  obtain ⟨xs, h1, e⟩ := bd_of e
  cases e
  refine ⟨ρ, S, α, x, _, w, s, e1, fun v H1 α1 a1 w1 r1 => ?_⟩
  obtain ⟨a, us, rfl, g1, g2, g3⟩ := lsqOf_at (K := X.K) w1 r1 h1
  exact ⟨a, us, rfl, g1, fun p hp => (k.mono a1).newLst w1 hp (by rw [List.length_reverse]; exact g2) g3.reverse⟩

/-! ### methods of lists -/
def eMt (o : P → VF) (f : EF) (a : AF) : EF := fun ρ S => bd (f ρ S) fun x => bd (lsqOf x.1 x.2) fun _ => bd (a ρ x.2) fun y => o x.1 y.1 y.2
section
variable {X : Cx} {o e : Expr} {es : List Expr} {name : Str} {apos cpos : Pos} {id : String} {f : EF} {a : AF} {r : V → List V → Hp → VK → Prop} {g : P → VF}
theorem me_bm (slot : Slot "list" name id) (hty : typeOf (.builtin id) = pure (.type "method_descriptor")) (hm : MtR X id r) (hd : MtD X.K r g) (ho : PE X o (tE X.K f)) (ha : PA X (e :: es) (tA X.K a))
    (hbase : attributeBase o name X.env (eval o X.env) = eval o X.env := by rfl)
    (hfew : ((backTo cpos (starEach (e :: es) X.env)).all (fun x => !x.1) && (backToKw cpos (keywordEach [] X.env)).all (fun x => x.1.isSome)
      && decide ((e :: es).length + ([] : List Keyword).length + (if ([] : List Keyword).isEmpty then 0 else 1) < 30)) = true := by rfl)
    (hline : (apos.endLine == cpos.line) = true := by rfl) (hs : starEach (e :: es) X.env = (false, eval e X.env) :: starEach es X.env := by rfl) (hplain : (backTo cpos (starEach es X.env)).any (·.1) = false := by rfl) :
    PE X (.Call (.Attribute o name apos) (e :: es) [] cpos) (tE X.K (eMt g f a)) := (pe_bm PySem.F.plainAttrs_list slot hty hm ho ha hbase hfew hline hs hplain).imp fun σ H Q => by
  rintro ⟨ρ, S, α, z, S', w, s, e, k⟩
  obtain ⟨⟨x, S1⟩, e1, e⟩ := bd_of e
  obtain ⟨xs, h1, e⟩ := bd_of e
  obtain ⟨⟨y, S2⟩, e2, e⟩ := bd_of e
  refine ⟨ρ, S, α, x, S1, w, s, e1, fun v H1 α1 a1 w1 r1 => ?_⟩
  obtain ⟨b, us, rfl, g1, _, _⟩ := lsqOf_at (K := X.K) w1 r1 h1
  exact ⟨.inl ⟨rfl, us, g1⟩, ρ, S1, α1, y, S2, w1, s.mono a1, e2, fun vs H2 α2 a2 w2 r2 => hd H2 α2 S2 _ vs x y z S' Q w2 (r1.mono a2) r2 e (k.mono (a1.trans a2))⟩
theorem me_bm0 (slot : Slot "list" name id) (hty : typeOf (.builtin id) = pure (.type "method_descriptor")) (hm : MtR X id r) (hd : MtD X.K r g) (ho : PE X o (tE X.K f))
    (hbase : attributeBase o name X.env (eval o X.env) = eval o X.env := by rfl) (hline : (apos.endLine == cpos.line) = true := by rfl) : PE X (.Call (.Attribute o name apos) [] [] cpos) (tE X.K (eMt g f aNil)) := (pe_bm0 PySem.F.plainAttrs_list slot hty hm ho hbase hline).imp fun σ H Q => by
  rintro ⟨ρ, S, α, z, S', w, s, e, k⟩
  obtain ⟨⟨x, S1⟩, e1, e⟩ := bd_of e
  obtain ⟨xs, h1, e⟩ := bd_of e
  obtain ⟨⟨y, S2⟩, e2, e⟩ := bd_of e
  cases e2
  refine ⟨ρ, S, α, x, S1, w, s, e1, fun v H1 α1 a1 w1 r1 => ?_⟩
  obtain ⟨b, us, rfl, g1, _, _⟩ := lsqOf_at (K := X.K) w1 r1 h1
  exact ⟨.inl ⟨rfl, us, g1⟩, hd H1 α1 S1 _ [] x [] z S' Q w1 r1 .nil e (k.mono a1)⟩
end
def asObj : P → Option Nat
  | .obj k => some k
  | _ => none
theorem asObj_of {p : P} {i : Nat} (h : asObj p = some i) : p = .obj i := by
  match p, h with
  | .obj j, h => cases h; rfl
def one1 : List P → Option P
  | [p] => some p
  | _ => none
theorem one1_of {ps : List P} {p : P} (h : one1 ps = some p) : ps = [p] := by
  match ps, h with
  | [q], h => cases h; rfl
def two2 : List P → Option (P × P)
  | [p, q] => some (p, q)
  | _ => none
theorem two2_of {ps : List P} {p : P × P} (h : two2 ps = some p) : ps = [p.1, p.2] := by
  match ps, h with
  | [q, r], h => cases h; rfl
def oAppend : P → VF := fun p ps S => bd (asObj p) fun k => bd (one1 ps) fun q => bd (asDat q) fun d => bd (lstAt k S) fun xs => if xs.length < lim then some (.dat .none, S.set k (.lst (xs ++ [d]))) else none
theorem md_append : MtD K rAppend oAppend := fun H α S x xs p ps z S' Q w rx rs e k => by
  obtain ⟨j, h1, e⟩ := bd_of e
  obtain ⟨q, h2, e⟩ := bd_of e
  obtain ⟨d, h3, e⟩ := bd_of e
  obtain ⟨ds, h4, e⟩ := bd_of e
  split at e
  · rename_i hl
    cases e
    cases asObj_of h1
    cases one1_of h2
    cases asDat_of h3
    obtain ⟨a, us, rfl, g0, g1, g2, g3⟩ := w.lst rx (lstAt_of h4)
    match xs, rs with
    | [y], .cons ry .nil =>
      have hl' : us.length < sizeLine := by rw [g3.length, lim_eq]; exact hl
      exact ⟨a, us, y, rfl, rfl, g1, hl', k _ _ α (Adv.write g0) (w.write g0 ⟨_, upd_same, by rw [List.length_append, List.length_singleton]; omega, (RpL.mono (Adv.write g0) g3).append (.cons (Rp.mono (Adv.write g0) ry) .nil)⟩) .non⟩
  · cases e
def oExtend : P → VF := fun p ps S => bd (asObj p) fun k => bd (one1 ps) fun q => bd (lstAt k S) fun xs => bd (asLst q S) fun ys => if xs.length + ys.length ≤ lim then some (.dat .none, S.set k (.lst (xs ++ ys))) else none
theorem md_extend : MtD K rExtend oExtend := fun H α S x xs p ps z S' Q w rx rs e k => by
  obtain ⟨j, h1, e⟩ := bd_of e
  obtain ⟨q, h2, e⟩ := bd_of e
  obtain ⟨ds, h4, e⟩ := bd_of e
  obtain ⟨es, h5, e⟩ := bd_of e
  split at e
  · rename_i hl
    cases e
    cases asObj_of h1
    cases one1_of h2
    obtain ⟨a, us, rfl, g0, g1, g2, g3⟩ := w.lst rx (lstAt_of h4)
    match xs, rs with
    | [y], .cons ry .nil =>
      obtain ⟨b, vs, rfl, q1, q2, q3⟩ := asLst_of w ry h5
      have hl' : us.length + vs.length ≤ sizeLine := by rw [g3.length, q3.length, lim_eq]; exact hl
      exact ⟨a, b, us, vs, rfl, rfl, g1, q1, hl', k _ _ α (Adv.write g0) (w.write g0 ⟨_, upd_same, by rw [List.length_append]; exact hl', (RpL.mono (Adv.write g0) g3).append (RpL.mono (Adv.write g0) q3)⟩) .non⟩
  · cases e
theorem RpL.dropLast {H : Hp} {α : Ad} : ∀ {vs : List V} {ds : List D}, RpL H α vs ds → RpL H α vs.dropLast ds.dropLast
  | _, _, .nil => .nil
  | _, _, .cons h .nil => .nil
  | _, _, .cons h (.cons h2 t) => .cons h (RpL.dropLast (.cons h2 t))
def oPop : P → VF := fun p ps S => bd (asObj p) fun k => bd (lstAt k S) fun xs => match ps with
  | [] => bd xs[xs.length - 1]? fun d => some (.dat d, S.set k (.lst xs.dropLast))
  | _ => none
theorem md_pop : MtD K rPop oPop := fun H α S x xs p ps z S' Q w rx rs e k => by
  obtain ⟨j, h1, e⟩ := bd_of e
  obtain ⟨ds, h4, e⟩ := bd_of e
  match ps, xs, rs, e with
  | [], [], .nil, e =>
    obtain ⟨d, h5, e⟩ := bd_of e
    cases e
    cases asObj_of h1
    obtain ⟨a, us, rfl, g0, g1, g2, g3⟩ := w.lst rx (lstAt_of h4)
    rw [← g3.length] at h5
    obtain ⟨y, q1, q2⟩ := g3.get h5
    exact ⟨a, us, y, rfl, rfl, g1, q1, k _ _ α (Adv.write g0) (w.write g0 ⟨_, upd_same, by rw [List.length_dropLast]; omega, (RpL.mono (Adv.write g0) g3).dropLast⟩) (Rp.mono (Adv.write g0) q2)⟩
  | _ :: _, _, _, e => cases e
def oPopAt : P → VF := fun p ps S => bd (asObj p) fun k => bd (lstAt k S) fun xs => bd (one1 ps) fun q => bd (asInt q) fun i => if -(2 ^ 60) ≤ i ∧ i < 2 ^ 60 then bd (seqIndex? i xs.length) fun j => bd xs[j]? fun d => some (.dat d, S.set k (.lst (xs.eraseIdx j))) else none
theorem md_popAt : MtD K rPopAt oPopAt := fun H α S x xs p ps z S' Q w rx rs e k => by
  obtain ⟨j, h1, e⟩ := bd_of e
  obtain ⟨ds, h4, e⟩ := bd_of e
  obtain ⟨q, h2, e⟩ := bd_of e
  obtain ⟨i, h3, e⟩ := bd_of e
  split at e
  · rename_i hb
    obtain ⟨n, h6, e⟩ := bd_of e
    obtain ⟨d, h5, e⟩ := bd_of e
    cases e
    cases asObj_of h1
    cases one1_of h2
    cases asInt_of h3
    obtain ⟨a, us, rfl, g0, g1, g2, g3⟩ := w.lst rx (lstAt_of h4)
    match xs, rs with
    | [y], .cons ry .nil =>
      cases int_of ry
      obtain ⟨y, q1, q2⟩ := g3.get h5
      have h6' : seqIndex? i us.length = some n := by rw [g3.length]; exact h6
      refine ⟨a, us, i, n, y, rfl, rfl, g1, by omega, by omega, h6', q1, k _ _ α (Adv.write g0) (w.write g0 ⟨_, upd_same, ?_, RpL.eraseIdx n (RpL.mono (Adv.write g0) g3)⟩) (Rp.mono (Adv.write g0) q2)⟩
      exact Nat.le_trans (List.length_eraseIdx_le us n) g2
  · cases e
section
variable {X : Cx} {o e : Expr} {apos cpos : Pos} {f : EF} {a : AF}
theorem me_append (ho : PE X o (tE X.K f)) (ha : PA X [e] (tA X.K a)) (hbase : attributeBase o "append" X.env (eval o X.env) = eval o X.env := by rfl)
    (hfew : ((backTo cpos (starEach [e] X.env)).all (fun x => !x.1) && (backToKw cpos (keywordEach [] X.env)).all (fun x => x.1.isSome)
      && decide (([e] : List Expr).length + ([] : List Keyword).length + (if ([] : List Keyword).isEmpty then 0 else 1) < 30)) = true := by rfl)
    (hline : (apos.endLine == cpos.line) = true := by rfl) (hs : starEach [e] X.env = (false, eval e X.env) :: starEach [] X.env := by rfl) : PE X (.Call (.Attribute o "append" apos) [e] [] cpos) (tE X.K (eMt oAppend f a)) :=
  me_bm PySem.F.slot_list_append PySem.F.type_list_append mt_append md_append ho ha hbase hfew hline hs rfl
theorem me_extend (ho : PE X o (tE X.K f)) (ha : PA X [e] (tA X.K a)) (hbase : attributeBase o "extend" X.env (eval o X.env) = eval o X.env := by rfl)
    (hfew : ((backTo cpos (starEach [e] X.env)).all (fun x => !x.1) && (backToKw cpos (keywordEach [] X.env)).all (fun x => x.1.isSome)
      && decide (([e] : List Expr).length + ([] : List Keyword).length + (if ([] : List Keyword).isEmpty then 0 else 1) < 30)) = true := by rfl)
    (hline : (apos.endLine == cpos.line) = true := by rfl) (hs : starEach [e] X.env = (false, eval e X.env) :: starEach [] X.env := by rfl) : PE X (.Call (.Attribute o "extend" apos) [e] [] cpos) (tE X.K (eMt oExtend f a)) :=
  me_bm PySem.F.slot_list_extend PySem.F.type_list_extend mt_extend md_extend ho ha hbase hfew hline hs rfl
theorem me_pop (ho : PE X o (tE X.K f)) (hbase : attributeBase o "pop" X.env (eval o X.env) = eval o X.env := by rfl) (hline : (apos.endLine == cpos.line) = true := by rfl) : PE X (.Call (.Attribute o "pop" apos) [] [] cpos) (tE X.K (eMt oPop f aNil)) :=
  me_bm0 PySem.F.slot_list_pop PySem.F.type_list_pop mt_pop md_pop ho hbase hline
end
/-- o.pop(i) of a list, o.pop(k) of a dict -/
def dpop (p q : P) (S : Sto) : Option (P × Sto) := bd (asObj p) fun k => match S[k]? with
  | some (.dK kvs) => bd (asKeyP q) fun key => bd (dfind kvs key) fun d => some (.dat d, S.set k (.dK (ddrop kvs key)))
  | _ => none
def ePopX (f : EF) (b : EF) : EF := fun ρ S => bd (f ρ S) fun x => match lsqOf x.1 x.2 with
  | some _ => bd (b ρ x.2) fun y => oPopAt x.1 [y.1] y.2
  | none => bd (asObj x.1) fun k => match x.2[k]? with
    | some (.dK _) => bd (b ρ x.2) fun y => dpop x.1 y.1 y.2
    | _ => none
theorem ddrop_le {κ : Type} [DecidableEq κ] (kvs : List (κ × D)) (k : κ) : (ddrop kvs k).length ≤ kvs.length := List.length_filter_le _ _
section
variable {X : Cx} {o e : Expr} {apos cpos : Pos} {f b : EF}
theorem me_popX (ho : PE X o (tE X.K f)) (hb : PE X e (tE X.K b)) (hbase : attributeBase o "pop" X.env (eval o X.env) = eval o X.env := by rfl)
    (hfew : ((backTo cpos (starEach [e] X.env)).all (fun x => !x.1) && (backToKw cpos (keywordEach [] X.env)).all (fun x => x.1.isSome)
      && decide (([e] : List Expr).length + ([] : List Keyword).length + (if ([] : List Keyword).isEmpty then 0 else 1) < 30)) = true := by rfl)
    (hline : (apos.endLine == cpos.line) = true := by rfl) (hs : starEach [e] X.env = (false, eval e X.env) :: starEach [] X.env := by rfl) (ht : backTo cpos (starEach [e] X.env) = [(false, eval e X.env)] := by rfl) : PE X (.Call (.Attribute o "pop" apos) [e] [] cpos) (tE X.K (ePopX f b)) :=
  ((pe_bm PySem.F.plainAttrs_list PySem.F.slot_list_pop PySem.F.type_list_pop mt_popAt ho (ma_cons hb ma_nil hs) hbase hfew hline hs rfl).or (pe_dpop1 ho hb ⟨hbase, hfew, hline, ht⟩)).imp fun σ H Q => by
  rintro ⟨ρ, S, α, z, S', w, s, e, k⟩
  obtain ⟨⟨x, S1⟩, e1, e⟩ := bd_of e
  have e : (match lsqOf x S1 with
    | some _ => bd (b ρ S1) fun y => oPopAt x [y.1] y.2
    | none => bd (asObj x) fun k => match S1[k]? with
      | some (.dK _) => bd (b ρ S1) fun y => dpop x y.1 y.2
      | _ => none) = some (z, S') := e
  split at e
  · rename_i xs h1
    obtain ⟨⟨y, S2⟩, e2, e⟩ := bd_of e
    refine .inl ⟨ρ, S, α, x, S1, w, s, e1, fun v H1 α1 a1 w1 r1 => ?_⟩
    obtain ⟨c, us, rfl, g1, _, _⟩ := lsqOf_at (K := X.K) w1 r1 h1
    refine ⟨.inl ⟨rfl, us, g1⟩, ρ, S1, α1, [y], S2, w1, s.mono a1, ?_, fun vs H2 α2 a2 w2 r2 => md_popAt H2 α2 S2 _ vs x [y] z S' Q w2 (r1.mono a2) r2 e (k.mono (a1.trans a2))⟩
    show bd (b ρ S1) _ = _
    rw [e2]; rfl
  · obtain ⟨j, h1, e⟩ := bd_of e
    split at e
    · rename_i kvs h2
      obtain ⟨⟨y, S2⟩, e2, e⟩ := bd_of e
      have hx := asObj_of h1
      subst hx
      refine .inr ⟨ρ, S, α, _, S1, w, s, e1, fun v H1 α1 a1 w1 r1 => ?_⟩
      obtain ⟨c, ws, rfl, _, g1, _⟩ := w1.dK r1 h2
      refine ⟨c, rfl, .inl ⟨ws, .inl g1⟩, ρ, S1, α1, y, S2, w1, s.mono a1, e2, fun u H2 α2 a2 w2 r2 => ?_⟩
      obtain ⟨j', h3, e⟩ := bd_of (show (bd (asObj (P.obj j)) fun k => match S2[k]? with
        | some (.dK kvs) => bd (asKeyP y) fun key => bd (dfind kvs key) fun d => some (P.dat d, S2.set k (.dK (ddrop kvs key)))
        | _ => none) = some (z, S') from e)
      split at e
      · rename_i kvs2 h4
        obtain ⟨key, h5, e⟩ := bd_of e
        obtain ⟨d, h6, e⟩ := bd_of e
        cases e
        cases h3
        obtain ⟨c2, ws2, q0, q1, q2, q3⟩ := w2.dK (r1.mono a2) h4
        cases q0
        rcases q3.find (k := key) with ⟨v', d', t1, t2, t3⟩ | ⟨_, t2⟩
        · rw [h6] at t2
          cases t2
          exact ⟨ws2, key, v', q2, asKeyP_of r2 h5, t1, (k.mono (a1.trans a2)) _ _ α2 (Adv.write q1) (w2.write q1 ⟨_, upd_same, Kv.drop (q3.mono (Adv.write q1))⟩) (Rp.mono (Adv.write q1) t3)⟩
        · rw [h6] at t2; cases t2
      · cases e
    · cases e
/-- d.get(k) of a dict: None where k is not there -/
def eGet (f b : EF) : EF := fun ρ S => bd (f ρ S) fun x => bd (asObj x.1) fun k => match x.2[k]? with
  | some (.dK _) => bd (b ρ x.2) fun y => bd (dlook x.1 y.1 y.2) fun o => some (.dat (o.getD .none), y.2)
  | some (.dT _) => bd (b ρ x.2) fun y => bd (dlook x.1 y.1 y.2) fun o => some (.dat (o.getD .none), y.2)
  | _ => none
theorem me_get (hu : X.A.units + 1 < cLine) (ho : PE X o (tE X.K f)) (hb : PE X e (tE X.K b)) (hbase : attributeBase o "get" X.env (eval o X.env) = eval o X.env := by rfl)
    (hfew : ((backTo cpos (starEach [e] X.env)).all (fun x => !x.1) && (backToKw cpos (keywordEach [] X.env)).all (fun x => x.1.isSome)
      && decide (([e] : List Expr).length + ([] : List Keyword).length + (if ([] : List Keyword).isEmpty then 0 else 1) < 30)) = true := by rfl)
    (hline : (apos.endLine == cpos.line) = true := by rfl) (ht : backTo cpos (starEach [e] X.env) = [(false, eval e X.env)] := by rfl) : PE X (.Call (.Attribute o "get" apos) [e] [] cpos) (tE X.K (eGet f b)) :=
  (pe_dget1 hu ho hb ⟨hbase, hfew, hline, ht⟩).imp fun σ H Q => by
  rintro ⟨ρ, S, α, z, S', w, s, e, k⟩
  obtain ⟨⟨x, S1⟩, e1, e⟩ := bd_of e
  obtain ⟨j, h1, e⟩ := bd_of e
  cases asObj_of h1
  refine ⟨ρ, S, α, _, S1, w, s, e1, fun v H1 α1 a1 w1 r1 => ?_⟩
  have go : (bd (b ρ S1) fun y => bd (dlook (.obj j) y.1 y.2) fun o => some (P.dat (o.getD .none), y.2)) = some (z, S') → tE X.K b σ H1 fun y H2 => ∀ a, v = .ref a → ∃ o, DGet H2 a y o ∧ Q (o.getD .non) H2 := fun e => by
    obtain ⟨⟨y, S2⟩, e2, e⟩ := bd_of e
    obtain ⟨o, h3, e⟩ := bd_of e
    cases e
    refine ⟨ρ, S1, α1, y, _, w1, s.mono a1, e2, fun u H2 α2 a2 w2 r2 c hc => ?_⟩
    obtain ⟨c2, o', q0, q1, q2⟩ := dlook_of w2 (r1.mono a2) r2 h3
    have hcc : c = c2 := by rw [q0] at hc; cases hc; rfl
    subst hcc
    refine ⟨o', q1, ?_⟩
    rcases q2 with ⟨v', d', rfl, rfl, t3⟩ | ⟨rfl, rfl⟩
    · exact (k.mono (a1.trans a2)).now w2 t3
    · exact (k.mono (a1.trans a2)).now w2 .non
  have fin : ∀ c, v = .ref c → IsD H1 c → (tE X.K b σ H1 fun y H2 => ∀ a, v = .ref a → ∃ o, DGet H2 a y o ∧ Q (o.getD .non) H2) → ∃ a, v = .ref a ∧ IsD H1 a ∧ tE X.K b σ H1 fun y H2 => ∃ o, DGet H2 a y o ∧ Q (o.getD .non) H2 := fun c hc hd t => by
    refine ⟨c, hc, hd, ?_⟩
    obtain ⟨ρ', S0, α0, p0, S9, t1, t2, t3, t4⟩ := t
    exact ⟨ρ', S0, α0, p0, S9, t1, t2, t3, fun u H2 α2 a2 w2 r2 => t4 u H2 α2 a2 w2 r2 c hc⟩
  have e : (match S1[j]? with
    | some (.dK _) => bd (b ρ S1) fun y => bd (dlook (.obj j) y.1 y.2) fun o => some (P.dat (o.getD .none), y.2)
    | some (.dT _) => bd (b ρ S1) fun y => bd (dlook (.obj j) y.1 y.2) fun o => some (P.dat (o.getD .none), y.2)
    | _ => none) = some (z, S') := e
  split at e
  · rename_i kvs h2
    obtain ⟨c, ws, hc, _, g1, _⟩ := w1.dK r1 h2
    exact fin c hc (.inl ⟨ws, .inl g1⟩) (go e)
  · rename_i kvs h2
    obtain ⟨c, ws, hc, _, g1, _⟩ := w1.dT r1 h2
    exact fin c hc (.inr ⟨ws, .inl g1⟩) (go e)
  · cases e
end
end Me
set_option Elab.async false
set_option linter.all false
set_option maxRecDepth 100000
set_option maxHeartbeats 1000000
/-! Me8: order of data, sorted, built-in functions. -/
namespace Me
open PySem PySem.Spec PyProof.Rows L2
variable {K : PySem.W.Frag}

/-! ### order of data -/
def okLt (d e : D) : Bool := PySem.W.alike d e && (decide (d.depth ≤ 64) && !(isNone (.dat d)))
def rLtD (K : PySem.W.Frag) (f : D → D → Bool) : R2 := fun x y H Q => ∃ d e, Dp K H x d ∧ Dp K H y e ∧ okLt d e = true ∧ Q (.bl (f d e)) H
theorem okLt_of {d e : D} (h : okLt d e = true) {A : Around} (hu : A.units + 64 < cLine) : PySem.W.alike d e = true ∧ d ≠ .none ∧ A.units + min d.depth e.depth < cLine := by
  obtain ⟨h1, h2⟩ := Bool.and_eq_true_iff.mp h
  obtain ⟨h3, h4⟩ := Bool.and_eq_true_iff.mp h2
  refine ⟨h1, fun z => ?_, ?_⟩
  · subst z; cases h4
  · have := of_decide_eq_true h3
    have := Nat.min_le_left d.depth e.depth
    omega
section
variable {X : Cx}
theorem op_ltD (hu : X.A.units + 64 < cLine) : OpR X (compareOp .Lt) (rLtD X.K PySem.W.dataLt) := fun pins s σ H x y v u Q I rx ry ⟨d, e, hd, he, ok, q⟩ => by
  obtain ⟨as, r1⟩ := Dp.reads I d x v hd rx
  obtain ⟨bs, r2⟩ := Dp.reads I e y u he ry
  obtain ⟨h1, h2, h3⟩ := okLt_of ok hu
  exact PySem.W.lt_data r1 r2 h1 h2 h3 ⟨.bl _, H, I, rfl, q⟩
theorem op_gtD (hu : X.A.units + 64 < cLine) : OpR X (compareOp .Gt) (rLtD X.K fun d e => PySem.W.dataLt e d) := fun pins s σ H x y v u Q I rx ry ⟨d, e, hd, he, ok, q⟩ => by
  obtain ⟨as, r1⟩ := Dp.reads I d x v hd rx
  obtain ⟨bs, r2⟩ := Dp.reads I e y u he ry
  obtain ⟨h1, h2, h3⟩ := okLt_of ok hu
  exact PySem.W.gt_data r1 r2 h1 h2 h3 ⟨.bl _, H, I, rfl, q⟩
end
def oCmpD (f : D → D → Bool) : OF := fun p q S => bd (rdP p S) fun d => bd (rdP q S) fun e => if okLt d e = true then some (.dat (.bool (f d e)), S) else none
theorem od_cmpD {f : D → D → Bool} : OpD K (rLtD K f) (oCmpD f) := fun H α S x y p q z S' Q w rx ry e k => by
  obtain ⟨d, h1, e⟩ := bd_of e
  obtain ⟨d', h2, e⟩ := bd_of e
  split at e
  · rename_i hs
    cases e
    exact ⟨d, d', rdP_of w rx h1, rdP_of w ry h2, hs, k.now w (.bl _)⟩
  · cases e
def orO (o o' : OF) : OF := fun p q S => match o p q S with
  | some r => some r
  | none => o' p q S
theorem od_or {r r' : R2} {o o' : OF} (h : OpD K r o) (h' : OpD K r' o') : OpD K (fun x y H Q => r x y H Q ∨ r' x y H Q) (orO o o') := fun H α S x y p q z S' Q w rx ry e k => by
  unfold orO at e
  split at e
  · rename_i r0 h1
    cases e
    exact .inl (h H α S x y p q z S' Q w rx ry h1 k)
  · exact .inr (h' H α S x y p q z S' Q w rx ry e k)
abbrev oLtX : OF := orO oLt (oCmpD PySem.W.dataLt)
abbrev oGtX : OF := orO oGt (oCmpD fun d e => PySem.W.dataLt e d)
abbrev rLtX (K : PySem.W.Frag) : R2 := fun x y H Q => rI0 (fun i j => .bl (decide (i < j))) x y H Q ∨ rLtD K PySem.W.dataLt x y H Q
abbrev rGtX (K : PySem.W.Frag) : R2 := fun x y H Q => rI0 (fun i j => .bl (decide (j < i))) x y H Q ∨ rLtD K (fun d e => PySem.W.dataLt e d) x y H Q
theorem op_ltX {X : Cx} (hu : X.A.units + 64 < cLine) : OpR X (compareOp .Lt) (rLtX X.K) := op_lt.or (op_ltD hu)
theorem op_gtX {X : Cx} (hu : X.A.units + 64 < cLine) : OpR X (compareOp .Gt) (rGtX X.K) := op_gt.or (op_gtD hu)
theorem od_ltX : OpD K (rLtX K) oLtX := od_or od_lt od_cmpD
theorem od_gtX : OpD K (rGtX K) oGtX := od_or od_gt od_cmpD

/-! ### sorted -/
structure SortOk (ds : List D) : Prop where
  al : PySem.W.AllAlike ds
  so : PySem.W.Sortable ds
  de : ∀ d ∈ ds, d.depth ≤ 64
def sortD (ds : List D) : List D := ds.mergeSort (PySem.W.dataLe false id)
def rSortD (K : PySem.W.Frag) : List V → Hp → VK → Prop := fun vs H Q => ∃ a xs ds α, vs = [.ref a] ∧ SqL K H a xs ∧ xs.length ≤ sizeLine ∧ RpL H α xs ds ∧ SortOk ds ∧ ∀ ys p, RpL H α ys (sortD ds) → H p = none → Q (.ref p) (upd H p (.lst ys))
theorem eachIs_of {H : Hp} {α : Ad} : ∀ {xs : List V} {us : List Value} {ds : List D}, Vals xs us → RpL H α xs ds → PySem.W.EachIs (fun u d => ∃ x, RelV x u ∧ Rp H α x d) us ds
  | _, _, _, .nil, .nil => .nil
  | _, _, _, .cons r t, .cons q s => .cons ⟨_, r, q⟩ (eachIs_of t s)
theorem of_eachIs {H : Hp} {α : Ad} : ∀ {us : List Value} {ds : List D}, PySem.W.EachIs (fun u d => ∃ x, RelV x u ∧ Rp H α x d) us ds → ∃ xs, Vals xs us ∧ RpL H α xs ds
  | _, _, .nil => ⟨[], .nil, .nil⟩
  | _, _, .cons ⟨x, r, q⟩ t => let ⟨xs, h1, h2⟩ := of_eachIs t; ⟨x :: xs, .cons r h1, .cons q h2⟩
theorem eachIs_reads {X : Cx} {pins : List (Addr × Obj)} {σ : L2.St} {H : Hp} {s : Shared} {α : Ad} (I : Inv X pins σ H s) : ∀ {us : List Value} {ds : List D}, PySem.W.EachIs (fun u d => ∃ x, RelV x u ∧ Rp H α x d) us ds → PySem.W.EachIs (fun u d => ∃ as, Reads s.heap u d as) us ds
  | _, _, .nil => .nil
  | _, _, .cons ⟨x, r, q⟩ t => .cons (Dp.reads I _ x _ (Rp.dp q) r) (eachIs_reads I t)
theorem cr_sortD {X : Cx} (hu : X.A.units + 70 < cLine) : CallR X (.builtin "sorted") (rSortD X.K) := fun pins s σ H vs us Q I r ⟨a, xs, ds, α, ev, hs, hl, rl, ok, q⟩ => by
  subst ev
  cases r with
  | cons r0 rr =>
    cases rr
    cases r0
    obtain ⟨its, rv, pl, _⟩ := I.list hs
    have E1 := eachIs_of rv rl
    have hid : ds.map id = ds := List.map_id ds
    refine PySem.W.sorted_data (enc := id) (vs := its) pl.isList E1 (eachIs_reads I E1) (by rw [hid]; exact ok.al) (by rw [hid]; exact ok.so) (by rw [← rl.length]; exact hl) (fun b hb => ?_) fun out ho eo => ?_
    · have h1 := ok.de b hb
      show X.A.units + 2 + b.depth < cLine
      omega
    · obtain ⟨ys, h1, h2⟩ := of_eachIs eo
      obtain ⟨n, hn⟩ := PyProof.Rows.sortedAll_at s.heap its out.toArray
      have hz : ys.length ≤ sizeLine := by rw [h1.length, ho, ← rl.length]; exact hl
      have I2 : Inv X pins σ (upd H (s.heap.objs.size + 1) (.lst ys)) { s with heap := PyProof.Rows.sortedAll s.heap its out.toArray } :=
        I.laid (t' := s.toks) (fun b o e => PyProof.Rows.sortedAll_old e) (Nat.le_succ _) ⟨hz, out, n, h1, hn⟩
      exact ⟨.ref (s.heap.objs.size + 1), _, I2, rfl, q ys _ h2 (I.hok.fresh (Nat.le_succ _))⟩
open Classical in
noncomputable def oSorted : VF := fun ps S => bd (one1 ps) fun p => bd (lsqOf p S) fun ds => if SortOk ds then some (.obj S.length, S ++ [.lst (sortD ds)]) else none
theorem sortD_len (ds : List D) : (sortD ds).length = ds.length := List.length_mergeSort ds
theorem cd_sorted : CaD K (rSortD K) oSorted := fun H α S xs ps z S' Q w rs e k => by
  obtain ⟨p, h1, e⟩ := bd_of e
  obtain ⟨ds, h2, e⟩ := bd_of e
  split at e
  · rename_i ok
    cases e
    cases one1_of h1
    match xs, rs with
    | [x], .cons rx .nil =>
      obtain ⟨a, us, rfl, g1, g2, g3⟩ := lsqOf_at (K := K) w rx h2
      exact ⟨a, us, ds, α, rfl, g1, g2, g3, ok, fun ys p r hp => k.newLst w hp (by rw [r.length, sortD_len, ← g3.length]; exact g2) r⟩
  · cases e

/-! ### len, all, any, sum, max, min, abs, int, tuple, list -/
def oLen : VF := fun ps S => bd (one1 ps) fun p => match seqOf p S with
  | some ds => some (.dat (.int ds.length), S)
  | none => match asStr p with
    | some x => if x.length ≤ lim then some (.dat (.int x.length), S) else none
    | none => bd (asObj p) fun k => match S[k]? with
      | some (.dK kvs) => some (.dat (.int kvs.length), S)
      | some (.dT kvs) => some (.dat (.int kvs.length), S)
      | _ => none
def rLenX (K : PySem.W.Frag) : List V → Hp → VK → Prop := fun xs H Q => ((∃ x n, xs = [x] ∧ LenV K x H n ∧ Q (.int n) H) ∨ (∃ a kvs, xs = [V.ref a] ∧ H a = some (.dK kvs) ∧ Q (.int kvs.length) H)) ∨ rLenT xs H Q
theorem call_lenX {X : Cx} : CallR X (.builtin "len") (rLenX X.K) := CallR.or (CallR.or call_len call_lenD) call_len_dT
theorem cd_len : CaD K (rLenX K) oLen := fun H α S xs ps z S' Q w rs e k => by
  obtain ⟨p, h1, e⟩ := bd_of e
  cases one1_of h1
  match xs, rs with
  | [x], .cons rx .nil =>
    have e : (match seqOf p S with
      | some ds => some (P.dat (.int ds.length), S)
      | none => match asStr p with
        | some x => if x.length ≤ lim then some (P.dat (.int x.length), S) else none
        | none => bd (asObj p) fun k => match S[k]? with
          | some (.dK kvs) => some (P.dat (.int kvs.length), S)
          | some (.dT kvs) => some (P.dat (.int kvs.length), S)
          | _ => none) = some (z, S') := e
    split at e
    · rename_i ds h2
      cases e
      obtain ⟨a, us, rfl, g1, g2, g3⟩ := seqOf_at (K := K) w rx h2
      have hq := k.now w (v := .int ds.length) (.int _)
      rcases g1 with g1 | g1
      · exact .inl (.inl ⟨_, ds.length, rfl, .inr ⟨us, g1, g3.length.symm⟩, hq⟩)
      · exact .inl (.inl ⟨_, ds.length, rfl, .inl ⟨us, g1, g3.length.symm⟩, hq⟩)
    · split at e
      · rename_i y h2
        split at e
        · rename_i hl
          cases e
          cases asStr_of h2
          cases str_of rx
          exact .inl (.inl ⟨_, y.length, rfl, ⟨by rw [lim_eq]; exact hl, rfl⟩, k.now w (.int _)⟩)
        · cases e
      · obtain ⟨j, h2, e⟩ := bd_of e
        split at e
        · rename_i kvs h3
          cases e
          cases asObj_of h2
          obtain ⟨a, ws, rfl, _, g1, g2⟩ := w.dK rx h3
          refine .inl (.inr ⟨a, ws, rfl, g1, ?_⟩)
          rw [g2.len]
          exact k.now w (.int _)
        · rename_i kvs h3
          cases e
          cases asObj_of h2
          obtain ⟨a, ws, rfl, _, g1, g2⟩ := w.dT rx h3
          refine .inr ⟨a, ws, rfl, g1, ?_⟩
          rw [g2.len]
          exact k.now w (.int _)
        · cases e
def oBools (f : List Bool → Bool) : VF := fun ps S => bd (one1 ps) fun p => bd (lsqOf p S) fun ds => bd (boolsOf ds) fun bs => some (.dat (.bool (f bs)), S)
theorem cd_bools {f : List Bool → Bool} : CaD K (fun vs H Q => ∃ (a : Addr) (bs : List Bool), vs = [V.ref a] ∧ SqL K H a (bs.map V.bl) ∧ Q (.bl (f bs)) H) (oBools f) := fun H α S xs ps z S' Q w rs e k => by
  obtain ⟨p, h1, e⟩ := bd_of e
  obtain ⟨ds, h2, e⟩ := bd_of e
  obtain ⟨bs, h3, e⟩ := bd_of e
  cases e
  cases one1_of h1
  match xs, rs with
  | [x], .cons rx .nil =>
    obtain ⟨a, us, rfl, g1, g2, g3⟩ := lsqOf_at (K := K) w rx h2
    rw [boolsOf_eq h3] at g3
    rw [g3.bools] at g1
    exact ⟨a, bs, rfl, g1, k.now w (.bl _)⟩
def oInts (f : List Int → Option Int) : VF := fun ps S => bd (one1 ps) fun p => bd (lsqOf p S) fun ds => bd (intsOf ds) fun ns => bd (f ns) fun i => some (.dat (.int i), S)
theorem ints_arg {H : Hp} {α : Ad} {S S' : Sto} {f : List Int → Option Int} {xs : List V} {ps : List P} {z : P} {Q : VK} (w : Wd H α S) (rs : RpPs K H α xs ps) (e : oInts f ps S = some (z, S')) (k : Aft K H α S' z Q) :
    ∃ a ns i, xs = [V.ref a] ∧ SqL K H a (ns.map V.int) ∧ f ns = some i ∧ Q (.int i) H := by
  obtain ⟨p, h1, e⟩ := bd_of e
  obtain ⟨ds, h2, e⟩ := bd_of e
  obtain ⟨ns, h3, e⟩ := bd_of e
  obtain ⟨i, h4, e⟩ := bd_of e
  cases e
  cases one1_of h1
  match xs, rs with
  | [x], .cons rx .nil =>
    obtain ⟨a, us, rfl, g1, g2, g3⟩ := lsqOf_at (K := K) w rx h2
    rw [intsOf_eq h3] at g3
    rw [g3.ints] at g1
    exact ⟨a, ns, i, rfl, g1, h4, k.now w (.int _)⟩
abbrev oSum : VF := oInts fun ns => some ns.sum
theorem cd_sum : CaD K (rSum K) oSum := fun H α S xs ps z S' Q w rs e k => by
  obtain ⟨a, ns, i, rfl, g1, g2, g3⟩ := ints_arg w rs e k
  cases g2
  exact ⟨a, ns, rfl, g1, g3⟩
def maxL : List Int → Option Int
  | [] => none
  | x :: xs => some (xs.foldl max x)
def minL : List Int → Option Int
  | [] => none
  | x :: xs => some (xs.foldl min x)
theorem foldl_max (xs : List Int) : ∀ x : Int, (xs.foldl max x = x ∨ xs.foldl max x ∈ xs) ∧ x ≤ xs.foldl max x ∧ ∀ y ∈ xs, y ≤ xs.foldl max x := by
  induction xs with
  | nil => exact fun x => ⟨.inl rfl, Int.le_refl _, fun _ h => by cases h⟩
  | cons a r ih =>
    intro x
    obtain ⟨h1, h2, h3⟩ := ih (max x a)
    refine ⟨?_, ?_, fun y hy => ?_⟩
    · show r.foldl max (max x a) = x ∨ r.foldl max (max x a) ∈ a :: r
      rcases h1 with h1 | h1
      · rw [h1]
        by_cases c : x ≤ a
        · exact .inr (by rw [Int.max_eq_right c]; exact List.mem_cons_self)
        · exact .inl (Int.max_eq_left (by omega))
      · exact .inr (List.mem_cons_of_mem _ h1)
    · exact Int.le_trans (Int.le_max_left x a) h2
    · rcases List.mem_cons.mp hy with rfl | hy
      · exact Int.le_trans (Int.le_max_right x y) h2
      · exact h3 y hy
theorem foldl_min (xs : List Int) : ∀ x : Int, (xs.foldl min x = x ∨ xs.foldl min x ∈ xs) ∧ xs.foldl min x ≤ x ∧ ∀ y ∈ xs, xs.foldl min x ≤ y := by
  induction xs with
  | nil => exact fun x => ⟨.inl rfl, Int.le_refl _, fun _ h => by cases h⟩
  | cons a r ih =>
    intro x
    obtain ⟨h1, h2, h3⟩ := ih (min x a)
    refine ⟨?_, ?_, fun y hy => ?_⟩
    · show r.foldl min (min x a) = x ∨ r.foldl min (min x a) ∈ a :: r
      rcases h1 with h1 | h1
      · rw [h1]
        by_cases c : x ≤ a
        · exact .inl (Int.min_eq_left c)
        · exact .inr (by rw [Int.min_eq_right (by omega)]; exact List.mem_cons_self)
      · exact .inr (List.mem_cons_of_mem _ h1)
    · exact Int.le_trans h2 (Int.min_le_left x a)
    · rcases List.mem_cons.mp hy with rfl | hy
      · exact Int.le_trans h2 (Int.min_le_right x y)
      · exact h3 y hy
theorem maxL_spec {ns : List Int} {m : Int} (h : maxL ns = some m) : m ∈ ns ∧ ∀ y ∈ ns, y ≤ m := by
  match ns, h with
  | x :: xs, h =>
    cases h
    obtain ⟨h1, h2, h3⟩ := foldl_max xs x
    exact ⟨h1.elim (fun e => by rw [e]; exact List.mem_cons_self) (List.mem_cons_of_mem _), fun y hy => (List.mem_cons.mp hy).elim (fun e => e ▸ h2) (h3 y)⟩
theorem minL_spec {ns : List Int} {m : Int} (h : minL ns = some m) : m ∈ ns ∧ ∀ y ∈ ns, m ≤ y := by
  match ns, h with
  | x :: xs, h =>
    cases h
    obtain ⟨h1, h2, h3⟩ := foldl_min xs x
    exact ⟨h1.elim (fun e => by rw [e]; exact List.mem_cons_self) (List.mem_cons_of_mem _), fun y hy => (List.mem_cons.mp hy).elim (fun e => e ▸ h2) (h3 y)⟩
abbrev oMaxL : VF := oInts maxL
abbrev oMinL : VF := oInts minL
theorem cd_maxL : CaD K (rMax K) oMaxL := fun H α S xs ps z S' Q w rs e k => by
  obtain ⟨a, ns, i, rfl, g1, g2, g3⟩ := ints_arg w rs e k
  obtain ⟨m1, m2⟩ := maxL_spec g2
  refine ⟨a, ns, rfl, g1, List.length_pos_of_mem m1, fun m q1 q2 => ?_⟩
  have : m = i := Int.le_antisymm (m2 m q1) (q2 i m1)
  rw [this]; exact g3
theorem cd_minL : CaD K (rMin K) oMinL := fun H α S xs ps z S' Q w rs e k => by
  obtain ⟨a, ns, i, rfl, g1, g2, g3⟩ := ints_arg w rs e k
  obtain ⟨m1, m2⟩ := minL_spec g2
  refine ⟨a, ns, rfl, g1, List.length_pos_of_mem m1, fun m q1 q2 => ?_⟩
  have : m = i := Int.le_antisymm (q2 i m1) (m2 m q1)
  rw [this]; exact g3
def oTwo (f : Int → Int → Int) : VF := fun ps S => bd (two2 ps) fun p => bd (asInt p.1) fun i => bd (asInt p.2) fun j => some (.dat (.int (f i j)), S)
theorem cd_two {f : Int → Int → Int} : CaD K (fun xs H Q => ∃ i j, xs = [.int i, .int j] ∧ Q (.int (f i j)) H) (oTwo f) := fun H α S xs ps z S' Q w rs e k => by
  obtain ⟨⟨p, q⟩, h1, e⟩ := bd_of e
  obtain ⟨i, h2, e⟩ := bd_of e
  obtain ⟨j, h3, e⟩ := bd_of e
  cases e
  cases two2_of h1
  cases asInt_of h2
  cases asInt_of h3
  match xs, rs with
  | [x, y], .cons rx (.cons ry .nil) =>
    cases int_of rx
    cases int_of ry
    exact ⟨i, j, rfl, k.now w (.int _)⟩
abbrev oMax2 : VF := oTwo fun i j => if j > i then j else i
abbrev oMin2 : VF := oTwo fun i j => if j < i then j else i
def oAbs : VF := fun ps S => bd (one1 ps) fun p => bd (asInt p) fun i => some (.dat (.int (if i < 0 then -i else i)), S)
theorem cd_abs : CaD K (fun xs H Q => ∃ i, xs = [.int i] ∧ Q (.int (if i < 0 then -i else i)) H) oAbs := fun H α S xs ps z S' Q w rs e k => by
  obtain ⟨p, h1, e⟩ := bd_of e
  obtain ⟨i, h2, e⟩ := bd_of e
  cases e
  cases one1_of h1
  cases asInt_of h2
  match xs, rs with
  | [x], .cons rx .nil =>
    cases int_of rx
    exact ⟨i, rfl, k.now w (.int _)⟩
def oIntC : VF := fun ps S => bd (one1 ps) fun p => match asInt p with
  | some i => some (.dat (.int i), S)
  | none => bd (asBool p) fun b => some (.dat (.int (if b then 1 else 0)), S)
theorem cd_intC : CaD K (fun xs H Q => (∃ i, xs = [.int i] ∧ Q (.int i) H) ∨ ∃ k, xs = [.bl k] ∧ Q (.int (if k then 1 else 0)) H) oIntC := fun H α S xs ps z S' Q w rs e k => by
  obtain ⟨p, h1, e⟩ := bd_of e
  cases one1_of h1
  have e : (match asInt p with
    | some i => some (P.dat (.int i), S)
    | none => bd (asBool p) fun b => some (P.dat (.int (if b then 1 else 0)), S)) = some (z, S') := e
  match xs, rs with
  | [x], .cons rx .nil =>
    split at e
    · rename_i i h2
      cases e
      cases asInt_of h2
      cases int_of rx
      exact .inl ⟨i, rfl, k.now w (.int _)⟩
    · obtain ⟨b, h2, e⟩ := bd_of e
      cases e
      cases asBool_of h2
      cases bool_of rx
      exact .inr ⟨b, rfl, k.now w (.int _)⟩
def oTuple : VF := fun ps S => bd (one1 ps) fun p => match asTup p with
  | some ds => some (.dat (.tuple ds), S)
  | none => bd (lsqOf p S) fun ds => some (.dat (.tuple ds), S)
theorem cd_tuple : CaD K (fun xs H Q => ∃ p ys, xs = [.ref p] ∧ ((SqL K H p ys ∧ ∀ l, H l = none → Q (.ref l) (upd H l (.tup ys))) ∨ (SqT K H p ys ∧ Q (.ref p) H))) oTuple := fun H α S xs ps z S' Q w rs e k => by
  obtain ⟨p, h1, e⟩ := bd_of e
  cases one1_of h1
  have e : (match asTup p with
    | some ds => some (P.dat (.tuple ds), S)
    | none => bd (lsqOf p S) fun ds => some (P.dat (.tuple ds), S)) = some (z, S') := e
  match xs, rs with
  | [x], .cons rx .nil =>
    split at e
    · rename_i ds h2
      cases e
      cases asTup_of h2
      obtain ⟨a, us, rfl, g1, g2, g3, gn⟩ := tup_of rx
      exact ⟨a, us, rfl, .inr ⟨SqT.of g1, k.now w (.tup g1 gn g2 g3)⟩⟩
    · obtain ⟨ds, h2, e⟩ := bd_of e
      cases e
      obtain ⟨a, us, rfl, g1, g2, g3⟩ := lsqOf_at (K := K) w rx h2
      exact ⟨a, us, rfl, .inl ⟨g1, fun l hl => k.newTup w hl g2 g3⟩⟩
def oList : VF := fun ps S => bd (one1 ps) fun p => bd (seqOf p S) fun ds => some (.obj S.length, S ++ [.lst ds])
theorem cd_list : CaD K (fun xs H Q => ∃ p ys, xs = [.ref p] ∧ (SqL K H p ys ∨ SqT K H p ys) ∧ ∀ l, H l = none → Q (.ref l) (upd H l (.lst ys))) oList := fun H α S xs ps z S' Q w rs e k => by
  obtain ⟨p, h1, e⟩ := bd_of e
  obtain ⟨ds, h2, e⟩ := bd_of e
  cases e
  cases one1_of h1
  match xs, rs with
  | [x], .cons rx .nil =>
    obtain ⟨a, us, rfl, g1, g2, g3⟩ := seqOf_at (K := K) w rx h2
    exact ⟨a, us, rfl, g1.symm, fun l hl => k.newLst w hl g2 g3⟩

/-! ### list(range(..)), tuple(range(..)) -/
abbrev RF := Ev → Sto → Option ((Int × Int) × Sto)
def tR (K : PySem.W.Frag) (f : RF) : L2.St → Hp → (Int → Int → Hp → Prop) → Prop := fun σ H Q => ∃ ρ S α i j S', Wd H α S ∧ Sl K H α σ ρ ∧ f ρ S = some ((i, j), S') ∧ ∀ H' α', Adv H α H' α' → Wd H' α' S' → Q i j H'
theorem PRg_imp {X : Cx} {e : Expr} {t t' : L2.St → Hp → (Int → Int → Hp → Prop) → Prop} (h : PRg X e t) (k : ∀ σ H Q, t' σ H Q → t σ H Q) : PRg X e t' := fun pins s σ H Q I q => h pins s σ H Q I (k σ H Q q)
def rg1 (a : EF) : RF := fun ρ S => bd (a ρ S) fun x => bd (asInt x.1) fun n => some ((0, n), x.2)
def rg2 (a b : EF) : RF := fun ρ S => bd (a ρ S) fun x => bd (b ρ x.2) fun y => bd (asInt x.1) fun n => bd (asInt y.1) fun m => some ((n, m), y.2)
section
variable {X : Cx} {a b : Expr} {fa fb : EF} {p pos : Pos} {e : Expr} {f : RF}
theorem mr_1 (ha : PE X a (tE X.K fa)) (hm : X.mg "range" = none) (hg : Gl X "range" := by rfl) (na : starEach [a] X.env = (false, eval a X.env) :: starEach [] X.env := by rfl) : PRg X (.Call (.Name "range" p) [a] [] pos) (tR X.K (rg1 fa)) := PRg_imp (prg_1 hg hm ha na) fun σ H Q => by
  rintro ⟨ρ, S, α, i, j, S', w, s, e, k⟩
  obtain ⟨⟨x, S1⟩, e1, e⟩ := bd_of e
  obtain ⟨n, h1, e⟩ := bd_of e
  cases e
  cases asInt_of h1
  exact ⟨ρ, S, α, _, _, w, s, e1, fun v H1 α1 a1 w1 r1 => ⟨j, int_of r1, k H1 α1 a1 w1⟩⟩
theorem mr_2 (ha : PE X a (tE X.K fa)) (hb : PE X b (tE X.K fb)) (hm : X.mg "range" = none) (hg : Gl X "range" := by rfl) (na : starEach [a, b] X.env = (false, eval a X.env) :: starEach [b] X.env := by rfl) (nb : starEach [b] X.env = (false, eval b X.env) :: starEach [] X.env := by rfl) (hp : (backTo pos (starEach [b] X.env)).any (·.1) = false := by rfl) : PRg X (.Call (.Name "range" p) [a, b] [] pos) (tR X.K (rg2 fa fb)) := PRg_imp (prg_2 hg hm ha hb na nb hp) fun σ H Q => by
  rintro ⟨ρ, S, α, i, j, S', w, s, e, k⟩
  obtain ⟨⟨x, S1⟩, e1, e⟩ := bd_of e
  obtain ⟨⟨y, S2⟩, e2, e⟩ := bd_of e
  obtain ⟨n, h1, e⟩ := bd_of e
  obtain ⟨m, h2, e⟩ := bd_of e
  cases e
  cases asInt_of h1
  cases asInt_of h2
  exact ⟨ρ, S, α, _, S1, w, s, e1, fun v H1 α1 a1 w1 r1 => ⟨ρ, S1, α1, _, _, w1, s.mono a1, e2, fun u H2 α2 a2 w2 r2 => ⟨i, j, int_of r1, int_of r2, k H2 α2 (a1.trans a2) w2⟩⟩⟩
def rgOkB (i j : Int) : Bool := decide (-(2 ^ 60) ≤ i) && (decide (i < 2 ^ 60) && (decide (-(2 ^ 60) ≤ j) && (decide (j < 2 ^ 60) && decide (j - i ≤ 16777216))))
theorem rgOk_of {i j : Int} (h : rgOkB i j = true) : RgOk i j ∧ (j - i).toNat ≤ sizeLine := by
  simp only [rgOkB, Bool.and_eq_true, decide_eq_true_eq] at h
  refine ⟨⟨by omega, by omega, by omega, by omega, ?_⟩, ?_⟩
  · show _ ≤ 16777216; omega
  · rw [lim_eq]; show _ ≤ 16777216; omega
theorem rgV_rp {H : Hp} {α : Ad} (i j : Int) : RpL H α (rgV i j) (rngD i (j - i).toNat) := by
  unfold rgV rngD
  have h : ∀ l : List Nat, RpL H α (l.map fun n => V.int (i + (n : Nat))) (l.map fun n => PyData.int (i + (n : Nat))) := fun l => by
    induction l with
    | nil => exact .nil
    | cons a r ih => exact .cons (.int _) ih
  exact h _
def eLstRg (f : RF) : EF := fun ρ S => bd (f ρ S) fun x => if rgOkB x.1.1 x.1.2 = true then some (.obj x.2.length, x.2 ++ [.lst (rngD x.1.1 (x.1.2 - x.1.1).toNat)]) else none
def eTupRg (f : RF) : EF := fun ρ S => bd (f ρ S) fun x => if rgOkB x.1.1 x.1.2 = true then some (.dat (.tuple (rngD x.1.1 (x.1.2 - x.1.1).toNat)), x.2) else none
theorem me_lstRg (he : PRg X e (tR X.K f)) (hm : X.mg "list" = none) (hc : X.calm = true := by rfl) (hg : Gl X "list" := by rfl) (na : starEach [e] X.env = (false, eval e X.env) :: starEach [] X.env := by rfl) : PE X (.Call (.Name "list" p) [e] [] pos) (tE X.K (eLstRg f)) := (pe_listRg hc hg hm he na).imp fun σ H Q => by
  rintro ⟨ρ, S, α, z, S', w, s, e, k⟩
  obtain ⟨⟨⟨i, j⟩, S1⟩, e1, e⟩ := bd_of e
  split at e
  · rename_i hb
    cases e
    refine ⟨ρ, S, α, i, j, S1, w, s, e1, fun H1 α1 a1 w1 => ⟨(rgOk_of hb).1, fun q hq => (k.mono a1).newLst w1 hq ?_ (rgV_rp i j)⟩⟩
    rw [rgV_length]; exact (rgOk_of hb).2
  · cases e
theorem me_tupRg (he : PRg X e (tR X.K f)) (hm : X.mg "tuple" = none) (hc : X.calm = true := by rfl) (hg : Gl X "tuple" := by rfl) (na : starEach [e] X.env = (false, eval e X.env) :: starEach [] X.env := by rfl) : PE X (.Call (.Name "tuple" p) [e] [] pos) (tE X.K (eTupRg f)) := (pe_tupRg hc hg hm he na).imp fun σ H Q => by
  rintro ⟨ρ, S, α, z, S', w, s, e, k⟩
  obtain ⟨⟨⟨i, j⟩, S1⟩, e1, e⟩ := bd_of e
  split at e
  · rename_i hb
    cases e
    refine ⟨ρ, S, α, i, j, _, w, s, e1, fun H1 α1 a1 w1 => ⟨(rgOk_of hb).1, fun q hq => (k.mono a1).newTup w1 hq ?_ (rgV_rp i j)⟩⟩
    rw [rgV_length]; exact (rgOk_of hb).2
  · cases e
end

/-! ### isinstance -/
def isiB (a b : String) : Bool := a == b || (a == "bool" && b == "int")
theorem kitB_eq : ∀ a ∈ ["NoneType", "bool", "int", "str", "list", "tuple", "dict"], ∀ b ∈ ["bool", "int", "str", "list", "tuple", "dict"], kitB a b = some (isiB a b) := by decide +kernel
def tyN (p : P) (S : Sto) : Option String := match p with
  | .dat .none => some "NoneType"
  | .dat (.bool _) => some "bool"
  | .dat (.int _) => some "int"
  | .dat (.str _) => some "str"
  | .dat (.list _) => some "list"
  | .dat (.tuple _) => some "tuple"
  | .dat (.dict _) => none
  | .fz _ => none
  | .obj k => (match S[k]? with
    | some (.lst _) => some "list"
    | some (.dK _) => some "dict"
    | some (.dT _) => some "dict"
    | _ => none)
theorem tyN_of {H : Hp} {α : Ad} {S : Sto} (w : Wd H α S) {v : V} {p : P} (r : RpP K H α v p) {t : String} (h : tyN p S = some t) : TyX K H v (.type t) ∧ t ∈ ["NoneType", "bool", "int", "str", "list", "tuple", "dict"] := by
  match p, r, h with
  | .dat .none, r, h => cases h; cases r; exact ⟨.base .non, by decide⟩
  | .dat (.bool _), r, h => cases h; cases r; exact ⟨.base (.bl _), by decide⟩
  | .dat (.int _), r, h => cases h; cases r; exact ⟨.base (.int _), by decide⟩
  | .dat (.str _), r, h => cases h; cases r; exact ⟨.base (.str _), by decide⟩
  | .dat (.list _), r, h =>
    cases h
    cases r with
    | lst g _ _ _ => exact ⟨.base (.lst g), by decide⟩
  | .dat (.tuple _), r, h =>
    cases h
    cases r with
    | tup g _ _ _ => exact ⟨.base (.tup g), by decide⟩
  | .dat (.dict _), _, h => cases h
  | .fz _, _, h => cases h
  | .obj k, r, h =>
    have h : (match S[k]? with
      | some (.lst _) => some "list"
      | some (.dK _) => some "dict"
      | some (.dT _) => some "dict"
      | _ => none) = some t := h
    split at h
    · rename_i e
      cases h
      obtain ⟨a, vs, rfl, _, g, _⟩ := w.lst r e
      exact ⟨.base (.lst g), by decide⟩
    · rename_i e
      cases h
      obtain ⟨a, vs, rfl, _, g, _⟩ := w.dK r e
      exact ⟨.base (.dK g), by decide⟩
    · rename_i e
      cases h
      obtain ⟨a, vs, rfl, _, g, _⟩ := w.dT r e
      exact ⟨.base (.dT g), by decide⟩
    · cases h
def eIsi (T : String) (f : EF) : EF := fun ρ S => bd (f ρ S) fun x => bd (tyN x.1 x.2) fun t => some (.dat (.bool (isiB t T)), x.2)
theorem me_isi {X : Cx} {e : Expr} {f : EF} {T : String} {x : Str} {p pt pos : Pos} (he : PE X e (tE X.K f)) (hm : X.mg "isinstance" = none) (hmT : X.mg x = none) (hT : bootBuiltins x = some (.type T)) (hb : T ∈ ["bool", "int", "str", "list", "tuple", "dict"]) (hg : Gl X "isinstance" := by rfl) (hgT : Gl X x := by rfl)
    (hn : x ≠ "__name__" := by decide) (hdb : (x == ("__debug__" : Str)) = false := by decide) (h1 : starEach [e, .Name x pt] X.env = (false, eval e X.env) :: starEach [.Name x pt] X.env := by rfl) (h2 : starEach [.Name x pt] X.env = (false, eval (.Name x pt) X.env) :: starEach [] X.env := by rfl)
    (hpl : (backTo pos (starEach [.Name x pt] X.env)).any (·.1) = false := by rfl) (hv : bootBuiltins "isinstance" = some (.builtin "isinstance") := by decide +kernel) : PE X (.Call (.Name "isinstance" p) [e, .Name x pt] [] pos) (tE X.K (eIsi T f)) :=
  (pe_callB call_isi hg hm hv (pa_cons he (pa_cons (pe_bltn (v := .ty T) hgT hmT hT rfl hn hdb) pa_nil h2) h1) (by decide) (by decide) h1 hpl).imp fun σ H Q => by
  rintro ⟨ρ, S, α, z, S', w, s, e, k⟩
  obtain ⟨⟨y, S1⟩, e1, e⟩ := bd_of e
  obtain ⟨t, h3, e⟩ := bd_of e
  cases e
  refine ⟨ρ, S, α, y, _, w, s, e1, fun v H1 α1 a1 w1 r1 => ?_⟩
  obtain ⟨g1, g2⟩ := tyN_of w1 r1 h3
  exact ⟨v, .ty T, .type t, .type T, isiB t T, rfl, .ty T, g1, kit_ty (kitB_eq t g2 T hb), (k.mono a1).now w1 (.bl _)⟩
end Me
set_option Elab.async false
set_option linter.all false
set_option maxRecDepth 100000
set_option maxHeartbeats 1000000
/-! Me9: enumerate and zip. -/
namespace Me
open PySem PySem.Spec PyProof.Rows L2
variable {K : PySem.W.Frag}

abbrev enO (i : Addr) : Obj := { cls := .type "enumerate", data := .fields #[.none, .bool false, .ref i, rawInt 0, .none, .none] }
set_option maxHeartbeats 1000000 in
theorem en_new {v : Value} {o : Obj} {G : Heap → Prop} (B : Begins v o G) :
    Meets (Builtin.«enumerate.__new__» ⟨[.type "enumerate", v], []⟩) (fun _ R s => G s.heap ∧ R (.ok (.ret (.ref (s.heap.push o).objs.size))) { s with heap := (s.heap.push o).push (enO s.heap.objs.size) }) :=
  .of_wp fun P0 w0 A0 R0 s0 hs0 => by
    obtain ⟨h0, g0, d0, t0, z0⟩ := s0
    obtain ⟨hG, hR⟩ := hs0
    have hsub0 := sub_enumerate
    have hI : ∀ {A1 : Around} {E1 : Value → Shared → Prop} {Q1 : Value → Shared → Prop}, Q1 (.ref h0.objs.size) ⟨h0.push o, g0, d0, t0, z0⟩ → wpAny (model P0 w0) A1 (pyIter v) Q1 E1 ⟨h0, g0, d0, t0, z0⟩ :=
      fun z => B.iter P0 w0 _ _ ⟨h0, g0, d0, t0, z0⟩ _ hG z
    wp_walk using hI
    refine wpAny_stack_any fun st0 => wpAny_pure ?_
    split
    · rename_i c0 _ _ _ _ _
      cases (c0 == Value.type "enumerate")
      all_goals (wp_walk using hI; exact ⟨_, rfl, hR⟩)
    · wp_walk using hI
      exact ⟨_, rfl, hR⟩
theorem en_call {P0 : Program} {w0 : World} {A0 : Around} {E : Value → Shared → Prop} {s : Shared} {v : Value} {o : Obj} {G : Heap → Prop} {Q : Value → Shared → Prop} (B : Begins v o G) (hG : G s.heap)
    (h : ∀ h', IsEnum h' (s.heap.objs.size + 1) s.heap.objs.size 0 .none → h'.get? s.heap.objs.size = some o → (∀ b u, s.heap.get? b = some u → h'.get? b = some u) → Q (.ref (s.heap.objs.size + 1)) { s with heap := h' }) :
    wpAny (model P0 w0) A0 (call (.type "enumerate") [v]) Q E s := by
  refine callType_new F.called_enumerate (by decide) (F.typeCall_enumerate_1 _) (F.newCall_enumerate_1 _) (fun ob => F.args_object_init_2 ob _) F.entry_enumerate_new (en_new B) ⟨hG, ?_⟩
  have hz : (s.heap.push o).objs.size = s.heap.objs.size + 1 := Heap.size_push ..
  show _ ∧ _
  rw [hz]
  have he : IsEnum ((s.heap.push o).push (enO s.heap.objs.size)) (s.heap.objs.size + 1) s.heap.objs.size 0 .none := by
    have hh := Heap.get?_push_size (s.heap.push o) (o := enO s.heap.objs.size) rfl
    rw [hz] at hh
    exact hh
  exact ⟨⟨_, he, rfl⟩, h _ he (Heap.get?_push_of_some _ (Heap.get?_push_size _ B.free)) fun b u x => Heap.get?_push_of_some _ (Heap.get?_push_of_some _ x)⟩

theorem en_end {P0 : Program} {w0 : World} {A0 : Around} (hh : A0.handled = none) (it a : Addr) (i : Nat) (hne : a ≠ it) (its : Array Value) (hx : its[i]? = none) :
    Draws P0 w0 A0 it [it, a] i (fun _ _ => True) (fun j h => j = i ∧ h.IsTupleIter it a i ∧ h.IsTuple a its) where
  live := fun _ _ st => let ⟨_, ⟨o, ho, _⟩, _⟩ := st; ⟨o, ho⟩
  frame := fun _ _ _ st hk => ⟨st.1, st.2.1.at fun o e => hk it (by simp) o e, st.2.2.at fun o e => hk a (by simp) o e⟩
  item := fun j s Q E hj st hQ => absurd hj (by rw [st.1]; exact Nat.lt_irrefl _)
  done := fun s Q E st hE => wpAny_nextOf_tuple_end hh st.2.1 st.2.2 hx hE
/-- the tuple at a, each item in a new pair -/
def IteT (K : PySem.W.Frag) (a : Addr) : It :=
  ⟨fun i H => ∃ (xs : List V) (x : V), SqT K H a xs ∧ xs[i]? = some x, fun i H v H' => ∃ T x, v = .ref T ∧ H T = none ∧ H' = upd H T (.tup [.int (i : Nat), x]) ∧ ∀ xs, SqT K H a xs → xs[i]? = some x, fun i H => ∃ xs : List V, SqT K H a xs ∧ xs.length ≤ i⟩
theorem turn_enT {P : Program} {w : World} {elts : List Expr} {kk : Nat} {tpos : Pos} (a e it : Addr) (hat : a ≠ it) (hae : a ≠ e) :
    Turn P w K (.Tuple elts kk tpos) (IteT K a) [e, it] e (fun i h => (∃ old, IsEnum h e it ((i : Nat) : Int) old) ∧ h.IsTupleIter it a i ∧ e ≠ it) where
  mem := by simp
  obj := fun i h st b hb => by
    obtain ⟨⟨old, he⟩, ⟨o, ho, hc, hd⟩, _⟩ := st
    rcases (show b = e ∨ b = it by simpa using hb) with z | z
    · subst z; exact ⟨_, he, fun v q => nomatch q⟩
    · subst z; exact ⟨o, ho, fun v q => by rw [hd] at q; cases q⟩
  keep := fun i h h' ⟨⟨old, he⟩, hi, hne⟩ k => ⟨⟨old, k e (by simp) _ he⟩, hi.at fun o q => k it (by simp) o q, hne⟩
  item := by
    intro X hP hw hK hc i pins s σ H E I hf st hg
    subst hP hw hK
    obtain ⟨⟨old, he⟩, hit, hne⟩ := st
    obtain ⟨xs, x, hq, hx⟩ := hg
    obtain ⟨its, rv, p, hz⟩ := I.tuple hq
    obtain ⟨u, hu, ru⟩ := rv.get hx
    have hel : e < s.heap.objs.size := Heap.lt_size he
    have hil : it < s.heap.objs.size := by obtain ⟨_, q, _⟩ := hit; exact Heap.lt_size q
    have hlt : i < its.toArray.size := by
      have hh := (List.getElem?_eq_some_iff.mp hu).1
      simpa using hh
    refine wpAny_pyNext_enum_itemD (Draws.tuple (A := X.A.in1) (I.ok.hd hc) it a hat its.toArray) he ⟨hit, p⟩ hlt hne (by
      intro z
      rcases (show e = it ∨ e = a by simpa using z) with z | z
      · exact hne z
      · exact hae z.symm) fun x' h' tk hx' ho hst' hT hsz hk => ?_
    obtain rfl : x' = u := by
      have h1 : its.toArray[i]? = some u := by simpa using hu
      exact Option.some.inj (hx'.symm.trans h1)
    refine ⟨_, rfl, wpAny_letOwnedTupleGo_enum (s := { s with heap := h', toks := tk + 1 }) ho fun h'' he' sb => ?_⟩
    have hT2 : h''.get? s.heap.objs.size = some { cls := .type "tuple", data := .seq #[.int i tk, x'] } := (sb.2 _ (Nat.ne_of_gt hel)).trans hT
    have nw : ObjOk X.prog X.w (upd H s.heap.objs.size (.tup [.int (i : Nat), x])) h'' s.heap.objs.size (.tup [.int (i : Nat), x]) :=
      ⟨by show 2 ≤ sizeLine; decide, [.int i tk, x'], .cons ⟨_, rfl⟩ (.cons ru .nil), ⟨_, hT2, rfl, _, rfl⟩⟩
    have I1 : Inv X pins σ (upd H s.heap.objs.size (.tup [.int (i : Nat), x])) { s with heap := h'', toks := tk + 1 } :=
      I.turnedNew (ch := [e, it]) (fun b ob hb q => (sb.2 b (fun z => hb (by simp [z]))).trans (hk b ob (fun z => hb (by simp [z])) (fun z => hb (by simp [z])) q)) hf (Nat.le_refl _) nw
    refine ⟨.ref s.heap.objs.size, _, I1, rfl, ⟨_, x, rfl, I.hok.fresh (Nat.le_refl _), rfl, fun ys hy => by rw [I.tuple_inj hy hq]; exact hx⟩, ⟨⟨x', ?_⟩, hst'.1.at fun o q => (sb.2 it (Ne.symm hne)).trans q, hne⟩, fun b hb => ?_⟩
    · have e1 : ((i + 1 : Nat) : Int) = (i : Int) + 1 := by omega
      rw [e1]; exact he'
    · have hb' : b < s.heap.objs.size := by
        rcases (show b = e ∨ b = it by simpa using hb) with z | z
        · subst z; exact hel
        · subst z; exact hil
      rw [upd_ne (Nat.ne_of_lt hb')]
      exact (hf b hb).1
  done := by
    intro X hP hw hK hc i pins s σ H E I hf st hg
    subst hP hw hK
    obtain ⟨⟨old, he⟩, hit, hne⟩ := st
    obtain ⟨xs, hq, hx⟩ := hg
    obtain ⟨its, rv, p, hz⟩ := I.tuple hq
    obtain ⟨f0, f1, f2, f3, f4, f5⟩ := hf it (by simp)
    have hl := rv.length
    obtain ⟨o, ho, h1, h2⟩ := id hit
    exact wpAny_pyNext_enum_endD (en_end (A0 := X.A.in1) (I.ok.hd hc) it a i hat its.toArray (by simp; omega)) he ⟨rfl, hit, p⟩ fun h' eb => ⟨rfl, I.turned (t' := s.toks) (fun b o hb q => eb b o hb q) f0 f1 f3 f4 f5⟩
  self := fun A i s Q E ⟨⟨_, he⟩, _⟩ h => wpAny_pyIter_enum he h

def iEnT (K : PySem.W.Frag) (ta : TA) : TI := fun σ H R => ta σ H fun vs H1 => ∃ a xs, vs = [.ref a] ∧ SqT K H1 a xs ∧ R (IteT K a) H1
theorem pi_enT {X : Cx} {e : Expr} {ta : TA} {p pos tpos : Pos} {elts : List Expr} {kk : Nat} (hg : Gl X "enumerate") (hm : X.mg "enumerate" = none) (ha : PA X [e] ta) (hs : starEach [e] X.env = [(false, eval e X.env)] := by rfl) :
    PI X (.Tuple elts kk tpos) (.Call (.Name "enumerate" p) [e] [] pos) (iEnT X.K ta) := by
  refine ⟨fun pins s σ H R I h => Call_ (ld_blt I hg hm boot_enumerate (PyProof.Rows.callWith_type1 (thn (ha.run pos pins s σ H _ I h) fun us s1 ⟨vs, H1, I1, r1, a, xs, ex, hq, q⟩ => ?_) hs rfl))⟩
  subst ex
  cases r1 with
  | cons r rr =>
    cases rr
    cases r
    obtain ⟨its, rv, p', hz⟩ := I1.tuple hq
    obtain ⟨ob, hob, _⟩ := id p'
    have hal : a < s1.heap.objs.size := Heap.lt_size hob
    refine en_call (begins_tuple a its.toArray) p' fun h' he hit hk => wpAny_pyIter_enum he ?_
    have I2 : Inv X pins σ H1 { s1 with heap := h' } := I1.kept (t' := s1.toks) hk
    refine ⟨s1.heap.objs.size + 1, [s1.heap.objs.size + 1, s1.heap.objs.size], _, _, H1, rfl, I2, turn_enT a (s1.heap.objs.size + 1) s1.heap.objs.size (Nat.ne_of_lt hal) (Nat.ne_of_lt (Nat.lt_succ_of_lt hal)), ⟨⟨.none, he⟩, ⟨_, hit, rfl, rfl⟩, Nat.succ_ne_self _⟩, fun b hb => ?_, q⟩
    have hle : s1.heap.objs.size ≤ b := by
      rcases (show b = s1.heap.objs.size + 1 ∨ b = s1.heap.objs.size by simpa using hb) with z | z
      · rw [z]; exact Nat.le_add_right _ _
      · rw [z]; exact Nat.le_refl _
    exact I1.fpOk hle (I1.hok.fresh hle)

/-- a list (false) or tuple (true) that stands still -/
def fixQ : P → Option (Bool × List D)
  | .dat (.list ds) => some (false, ds)
  | .dat (.tuple ds) => some (true, ds)
  | .fz ds => some (false, ds)
  | _ => none
theorem fixQ_of {H : Hp} {α : Ad} {v : V} {p : P} {q : Bool × List D} (r : RpP K H α v p) (h : fixQ p = some q) :
    ∃ a xs, v = .ref a ∧ xs.length = q.2.length ∧ q.2.length ≤ sizeLine ∧ ∀ H' α', Adv H α H' α' → RpL H' α' xs q.2 ∧ if q.1 = true then SqT K H' a xs else SqL K H' a xs := by
  match p, r, h with
  | .dat (.list ds), r, h =>
    cases h
    cases r with
    | lst g1 g2 g3 g4 => exact ⟨_, _, rfl, g4.length, by rw [← g4.length]; exact g3, fun H' α' e => ⟨RpL.mono e g4, SqL.of (e.keep _ _ g1 g2)⟩⟩
  | .dat (.tuple ds), r, h =>
    cases h
    cases r with
    | tup g1 g2 g3 g4 => exact ⟨_, _, rfl, g4.length, by rw [← g4.length]; exact g3, fun H' α' e => ⟨RpL.mono e g4, SqT.of (e.keep _ _ g1 g2)⟩⟩
  | .fz ds, r, h =>
    cases h
    obtain ⟨a, vs, rfl, g1, g2, g3⟩ := r
    exact ⟨a, vs, rfl, g3.length, by rw [← g3.length]; exact g2, fun H' α' e => ⟨RpL.mono e g3, (FzL.mono e g1).seq⟩⟩
  | .obj _, _, h => cases h
  | .dat .none, _, h => cases h
  | .dat (.bool _), _, h => cases h
  | .dat (.int _), _, h => cases h
  | .dat (.str _), _, h => cases h
  | .dat (.dict _), _, h => cases h

def enD : Nat → List D → List D
  | _, [] => []
  | i, d :: ds => .tuple [.int (i : Nat), d] :: enD (i + 1) ds
theorem enD_len : ∀ (ds : List D) (i : Nat), (enD i ds).length = ds.length
  | [], _ => rfl
  | _ :: ds, i => congrArg (· + 1) (enD_len ds (i + 1))
theorem enD_at : ∀ {ds : List D} {j i : Nat} {d : D}, (enD j ds)[i]? = some d → ∃ x, ds[i]? = some x ∧ d = .tuple [.int ((j + i : Nat) : Int), x]
  | [], _, _, _, h => by simp [enD] at h
  | x :: ds, j, 0, d, h => by simp [enD] at h; exact ⟨x, rfl, h.symm⟩
  | _ :: ds, j, i + 1, d, h => by
    obtain ⟨x, h1, h2⟩ := enD_at (ds := ds) (j := j + 1) (i := i) h
    exact ⟨x, h1, by rw [h2, show j + 1 + i = j + (i + 1) by omega]⟩
def iEnD (f : AF) : WF := fun ρ S => bd (f ρ S) fun x => bd (one1 x.1) fun p => bd (fixQ p) fun q => some ((none, enD 0 q.2), x.2)
/-- a new pair -/
theorem pair_new {H : Hp} {α : Ad} {S : Sto} (w : Wd H α S) {T : Addr} {x y : V} {d e : D} (hT : H T = none) (rx : Rp H α x d) (ry : Rp H α y e) :
    Adv H α (upd H T (.tup [x, y])) α ∧ Wd (upd H T (.tup [x, y])) α S ∧ Rp (upd H T (.tup [x, y])) α (.ref T) (.tuple [d, e]) := by
  have a : Adv H α (upd H T (.tup [x, y])) α := Adv.new w hT
  exact ⟨a, w.new hT, .tup (by simp [upd]) (w.fresh hT) (by show 2 ≤ sizeLine; decide) (.cons (Rp.mono a rx) (.cons (Rp.mono a ry) .nil))⟩
theorem src_en {a : Addr} {ds : List D} {H0 : Hp} {α0 : Ad} {xs : List V} (h : ∀ H' α', Adv H0 α0 H' α' → RpL H' α' xs ds ∧ SqL K H' a xs) : Src (Ite K a) none (enD 0 ds) H0 α0 where
  go := fun i H α S d b w g e => by
    obtain ⟨x, h1, _⟩ := enD_at e
    obtain ⟨v, h3, _⟩ := (h H α b).1.get h1
    exact ⟨xs, v, (h H α b).2, h3⟩
  yld := fun i H α S d x H' b w g e ⟨T, y, e1, e2, e3, q⟩ => by
    obtain ⟨z, h1, h2⟩ := enD_at e
    obtain ⟨v, h3, h4⟩ := (h H α b).1.get h1
    have h5 := q xs (h H α b).2
    rw [h3] at h5
    cases h5
    subst e1 e3 h2
    rw [Nat.zero_add]
    exact pair_new w e2 (.int _) h4
  stop := fun i H α S b w g e => ⟨xs, (h H α b).2, by rw [(h H α b).1.length, ← enD_len ds 0]; exact e⟩
theorem src_enT {a : Addr} {ds : List D} {H0 : Hp} {α0 : Ad} {xs : List V} (h : ∀ H' α', Adv H0 α0 H' α' → RpL H' α' xs ds ∧ SqT K H' a xs) : Src (IteT K a) none (enD 0 ds) H0 α0 where
  go := fun i H α S d b w g e => by
    obtain ⟨x, h1, _⟩ := enD_at e
    obtain ⟨v, h3, _⟩ := (h H α b).1.get h1
    exact ⟨xs, v, (h H α b).2, h3⟩
  yld := fun i H α S d x H' b w g e ⟨T, y, e1, e2, e3, q⟩ => by
    obtain ⟨z, h1, h2⟩ := enD_at e
    obtain ⟨v, h3, h4⟩ := (h H α b).1.get h1
    have h5 := q xs (h H α b).2
    rw [h3] at h5
    cases h5
    subst e1 e3 h2
    rw [Nat.zero_add]
    exact pair_new w e2 (.int _) h4
  stop := fun i H α S b w g e => ⟨xs, (h H α b).2, by rw [(h H α b).1.length, ← enD_len ds 0]; exact e⟩
theorem mi_en {X : Cx} {e : Expr} {f : AF} {p pos tpos : Pos} {elts : List Expr} {kk : Nat} (ha : PA X [e] (tA X.K f)) (hm : X.mg "enumerate" = none) (hg : Gl X "enumerate" := by rfl) (hs : starEach [e] X.env = [(false, eval e X.env)] := by rfl) :
    PI X (.Tuple elts kk tpos) (.Call (.Name "enumerate" p) [e] [] pos) (tI X.K (iEnD f)) := ((pi_enum hg hm ha hs).or (pi_enT hg hm ha hs)).imp fun σ H R => by
  rintro ⟨ρ, S, α, sk, ds, S', w, s, e, k⟩
  obtain ⟨⟨ps, S1⟩, e1, e⟩ := bd_of e
  obtain ⟨p, e2, e⟩ := bd_of e
  obtain ⟨⟨b, q⟩, e3, e⟩ := bd_of e
  cases one1_of e2
  cases e
  cases b with
  | false =>
    refine .inl ⟨ρ, S, α, _, S1, w, s, e1, fun vs H1 α1 a1 w1 r1 => ?_⟩
    cases r1 with
    | cons r rr =>
      cases rr
      obtain ⟨a, xs, rfl, hl, hz, hh⟩ := fixQ_of r e3
      exact ⟨a, xs, rfl, (hh H1 α1 .refl).2, k _ H1 α1 a1 w1 (src_en fun H' α' z => hh H' α' z) trivial (by rw [enD_len]; exact hz)⟩
  | true =>
    refine .inr ⟨ρ, S, α, _, S1, w, s, e1, fun vs H1 α1 a1 w1 r1 => ?_⟩
    cases r1 with
    | cons r rr =>
      cases rr
      obtain ⟨a, xs, rfl, hl, hz, hh⟩ := fixQ_of r e3
      exact ⟨a, xs, rfl, (hh H1 α1 .refl).2, k _ H1 α1 a1 w1 (src_enT fun H' α' z => hh H' α' z) trivial (by rw [enD_len]; exact hz)⟩

def zpD : List D → List D → List D
  | d :: ds, e :: es => .tuple [d, e] :: zpD ds es
  | _, _ => []
theorem zpD_len : ∀ (ds es : List D), (zpD ds es).length = min ds.length es.length
  | [], _ => by simp [zpD]
  | _ :: _, [] => by simp [zpD]
  | _ :: ds, _ :: es => by simp [zpD, zpD_len ds es, Nat.succ_min_succ]
theorem zpD_at : ∀ {ds es : List D} {i : Nat} {d : D}, (zpD ds es)[i]? = some d → ∃ x y, ds[i]? = some x ∧ es[i]? = some y ∧ d = .tuple [x, y]
  | [], _, _, _, h => by simp [zpD] at h
  | _ :: _, [], _, _, h => by simp [zpD] at h
  | x :: ds, y :: es, 0, d, h => by simp [zpD] at h; exact ⟨x, y, rfl, rfl, h.symm⟩
  | _ :: ds, _ :: es, i + 1, d, h => zpD_at (ds := ds) (es := es) (i := i) h
def iZpD (f : AF) : WF := fun ρ S => bd (f ρ S) fun x => bd (two2 x.1) fun p => bd (fixQ p.1) fun q => bd (fixQ p.2) fun q' => if q.1 = q'.1 then some ((none, zpD q.2 q'.2), x.2) else none
theorem src_zp {a b : Addr} {ds es : List D} {H0 : Hp} {α0 : Ad} {xs ys : List V} (h : ∀ H' α', Adv H0 α0 H' α' → (RpL H' α' xs ds ∧ SqL K H' a xs) ∧ RpL H' α' ys es ∧ SqL K H' b ys) : Src (Itz K a b) none (zpD ds es) H0 α0 where
  go := fun i H α S d c w g e => by
    obtain ⟨x, y, h1, h2, _⟩ := zpD_at e
    obtain ⟨⟨g1, g2⟩, g3, g4⟩ := h H α c
    obtain ⟨v, h3, _⟩ := g1.get h1
    obtain ⟨u, h4, _⟩ := g3.get h2
    exact ⟨xs, ys, v, u, g2, g4, h3, h4⟩
  yld := fun i H α S d x H' c w g e ⟨T, y, y', e1, e2, e3, q, q'⟩ => by
    obtain ⟨z, z', h1, h2, e4⟩ := zpD_at e
    obtain ⟨⟨g1, g2⟩, g3, g4⟩ := h H α c
    obtain ⟨v, h3, r3⟩ := g1.get h1
    obtain ⟨u, h4, r4⟩ := g3.get h2
    have h5 := q xs g2
    have h6 := q' ys g4
    rw [h3] at h5
    rw [h4] at h6
    cases h5
    cases h6
    subst e1 e3 e4
    exact pair_new w e2 r3 r4
  stop := fun i H α S c w g e => by
    obtain ⟨⟨g1, g2⟩, g3, g4⟩ := h H α c
    refine ⟨xs, ys, g2, g4, ?_⟩
    rw [g1.length, g3.length]
    rw [zpD_len] at e
    omega
theorem src_zpT {a b : Addr} {ds es : List D} {H0 : Hp} {α0 : Ad} {xs ys : List V} (h : ∀ H' α', Adv H0 α0 H' α' → (RpL H' α' xs ds ∧ SqT K H' a xs) ∧ RpL H' α' ys es ∧ SqT K H' b ys) : Src (RZ.ItzT K a b) none (zpD ds es) H0 α0 where
  go := fun i H α S d c w g e => by
    obtain ⟨x, y, h1, h2, _⟩ := zpD_at e
    obtain ⟨⟨g1, g2⟩, g3, g4⟩ := h H α c
    obtain ⟨v, h3, _⟩ := g1.get h1
    obtain ⟨u, h4, _⟩ := g3.get h2
    exact ⟨xs, ys, v, u, g2, g4, h3, h4⟩
  yld := fun i H α S d x H' c w g e ⟨T, y, y', e1, e2, e3, q, q'⟩ => by
    obtain ⟨z, z', h1, h2, e4⟩ := zpD_at e
    obtain ⟨⟨g1, g2⟩, g3, g4⟩ := h H α c
    obtain ⟨v, h3, r3⟩ := g1.get h1
    obtain ⟨u, h4, r4⟩ := g3.get h2
    have h5 := q xs g2
    have h6 := q' ys g4
    rw [h3] at h5
    rw [h4] at h6
    cases h5
    cases h6
    subst e1 e3 e4
    exact pair_new w e2 r3 r4
  stop := fun i H α S c w g e => by
    obtain ⟨⟨g1, g2⟩, g3, g4⟩ := h H α c
    refine ⟨xs, ys, g2, g4, ?_⟩
    rw [g1.length, g3.length]
    rw [zpD_len] at e
    omega
theorem mi_zp {X : Cx} {e e2 : Expr} {f : AF} {p pos tpos : Pos} {elts : List Expr} {kk : Nat} (ha : PA X [e, e2] (tA X.K f)) (hm : X.mg "zip" = none) (hg : Gl X "zip" := by rfl)
    (hs : starEach [e, e2] X.env = (false, eval e X.env) :: starEach [e2] X.env := by rfl) (hpl : (backTo pos (starEach [e2] X.env)).any (·.1) = false := by rfl) :
    PI X (.Tuple elts kk tpos) (.Call (.Name "zip" p) [e, e2] [] pos) (tI X.K (iZpD f)) := (RZ.pi_zipA hg hm ha hs hpl).imp fun σ H R => by
  rintro ⟨ρ, S, α, sk, ds, S', w, s, e, k⟩
  obtain ⟨⟨ps, S1⟩, e1, z1⟩ := bd_of e
  obtain ⟨⟨p1, p2⟩, e2, z2⟩ := bd_of z1
  obtain ⟨⟨b, q⟩, e3, z3⟩ := bd_of z2
  obtain ⟨⟨b', q'⟩, e4, z4⟩ := bd_of z3
  clear e z1 z2 z3
  have e2' := two2_of e2
  dsimp only at e2' z4
  subst e2'
  by_cases hb : b = b'
  case neg => rw [if_neg hb] at z4; cases z4
  case pos =>
  rw [if_pos hb] at z4
  cases z4
  subst hb
  refine ⟨ρ, S, α, _, _, w, s, e1, fun vs H1 α1 a1 w1 r1 => ?_⟩
  cases r1 with
  | cons r rr =>
    cases rr with
    | cons r' rr =>
      cases rr
      obtain ⟨a, xs, rfl, hl, hz, hh⟩ := fixQ_of r e3
      obtain ⟨c, ys, rfl, hl', hz', hh'⟩ := fixQ_of r' e4
      have hlen : (zpD q q').length ≤ sizeLine := by rw [zpD_len]; exact Nat.le_trans (Nat.min_le_left _ _) hz
      refine ⟨a, c, xs, ys, rfl, ?_⟩
      cases b with
      | false => exact .inl ⟨(hh H1 α1 .refl).2, (hh' H1 α1 .refl).2, k _ H1 α1 a1 w1 (src_zp fun H' α' z => ⟨hh H' α' z, hh' H' α' z⟩) trivial hlen⟩
      | true => exact .inr ⟨(hh H1 α1 .refl).2, (hh' H1 α1 .refl).2, k _ H1 α1 a1 w1 (src_zpT fun H' α' z => ⟨hh H' α' z, hh' H' α' z⟩) trivial hlen⟩
end Me
set_option Elab.async false
set_option linter.all false
set_option maxRecDepth 100000
set_option maxHeartbeats 1000000
/-! Me10: dict comprehensions, augmented assignment. -/
namespace Me
open PySem PySem.Spec PyProof.Rows L2
variable {K : PySem.W.Frag}

open Classical in
noncomputable def chkM {β : Type} (n : Nat) (m : MO) (S : Sto) (x : Option β) : Option β := if S[n]? = some m then x else none
theorem chkM_of {β : Type} {n : Nat} {m : MO} {S : Sto} {x : Option β} {y : β} (h : chkM n m S x = some y) : S[n]? = some m ∧ x = some y := by
  unfold chkM at h
  split at h
  · exact ⟨‹_›, h⟩
  · cases h
theorem chkM_at {β : Type} {n : Nat} {m : MO} {S : Sto} {x : Option β} (h : S[n]? = some m) : chkM n m S x = x := if_pos h
/-- a dict's loop; F wraps the pairs so far, kf reads a key -/
noncomputable def dcD {κ : Type} [DecidableEq κ] (F : List (κ × D) → MO) (kf : P → Option κ) (n : Nat) (sk : Option Nat) (all : List D) (g : GF) (t : CF) (f h : EF) (ρ : Ev) : List D → List (κ × D) → Sto → Option Sto
  | [], _, S => chk sk all S (some S)
  | d :: ds, acc, S => chk sk all S (bd (g d ρ) fun ρ1 => bd (t ρ1 S) fun b => if b.1 = true then bd (f ρ1 b.2) fun x => bd (kf x.1) fun k => bd (h ρ1 x.2) fun y => bd (asDat y.1) fun d' => chkM n (F acc) y.2 (dcD F kf n sk all g t f h ρ ds (dput acc k d') (y.2.set n (F (dput acc k d')))) else dcD F kf n sk all g t f h ρ ds acc b.2)
noncomputable def eDc {κ : Type} [DecidableEq κ] (F : List (κ × D) → MO) (kf : P → Option κ) (ws : WF) (is : List Nat) (g : GF) (t : CF) (f h : EF) : EF := fun ρ S => bd (ws ρ S) fun x => bd (dcD F kf x.2.length x.1.1 x.1.2 g t f h (wipeE ρ is) x.1.2 [] (x.2 ++ [F []])) fun S' => some (.obj x.2.length, S'.take (x.2.length + 1))
theorem dput_le {κ : Type} [DecidableEq κ] (kvs : List (κ × D)) (k : κ) (d : D) : (dput kvs k d).length ≤ kvs.length + 1 := by
  unfold dput
  split
  · rw [List.length_map]; exact Nat.le_succ _
  · rw [List.length_append, List.length_singleton]; exact Nat.le_refl _
/-- the two kinds of dict -/
structure DKind (κ : Type) [DecidableEq κ] (F : List (κ × D) → MO) (kf : P → Option κ) (ho : List (κ × V) → HO) (kv : V → Hp → κ → Prop) : Prop where
  rep : ∀ (H : Hp) (α : Ad) (a : Addr) (kvs : List (κ × D)), MRep H α a (F kvs) ↔ ∃ ws, H a = some (ho ws) ∧ Kv H α ws kvs
  get : ∀ {H : Hp} {α : Ad} {S : Sto} {v : V} {k : Nat} {kvs : List (κ × D)}, Wd H α S → RpP K H α v (.obj k) → S[k]? = some (F kvs) → ∃ a ws, v = .ref a ∧ α[k]? = some (some a) ∧ H a = some (ho ws) ∧ Kv H α ws kvs
  key : ∀ {H H' : Hp} {α α' : Ad} {v : V} {p : P} {k : κ}, RpP K H α v p → kf p = some k → Adv H α H' α' → kv v H' k
theorem dkK : DKind (K := K) Key MO.dK asKeyP HO.dK (fun v _ k => v = kV k) where
  rep := fun _ _ _ _ => Iff.rfl
  get := fun w r h => w.dK r h
  key := fun r h _ => asKeyP_of r h
theorem dkT : DKind (K := K) (List Key) MO.dT asKeyT HO.dT (fun v H k => ∃ b, v = .ref b ∧ H b = some (.tup (k.map kV))) where
  rep := fun _ _ _ _ => Iff.rfl
  get := fun w r h => w.dT r h
  key := fun r h e => asKeyT_of (RpP.mono e r) h
def tDcG {κ : Type} [DecidableEq κ] (ho : List (κ × V) → HO) (kv : V → Hp → κ → Prop) (wi : TI) (g : TG) (tt : TT) (tk tv : TE) (vs : List Nat) : TE := fun σ H Q => wi σ H fun J H1 => ∀ p, H1 p = none → ∃ W : Nat → Nat → Hp → Prop, (∃ m, W 0 m (upd H1 p (ho []))) ∧ ∀ i m H, W i m H →
  (J.stop i H ∧ Q (.ref p) H) ∨ (J.go i H ∧ ∃ Nx : Hp → Prop, (∀ H', Nx H' → ∃ m', m' < m ∧ W (i + 1) m' H') ∧ ∀ x H', J.yld i H x H' → g x (wipe σ vs) H' fun σ2 H2 => wipe σ2 vs = wipe σ vs ∧ tt σ2 H2 fun b H3 =>
    if b = true then tk σ2 H3 fun y H4 => tv σ2 H4 fun z H5 => ∃ kvs k, kv y H5 k ∧ H5 p = some (ho kvs) ∧ kvs.length < sizeLine ∧ Nx (upd H5 p (ho (putK kvs k z))) else Nx H3)
theorem rd_dc {κ : Type} [DecidableEq κ] {F : List (κ × D) → MO} {kf : P → Option κ} {ho : List (κ × V) → HO} {kv : V → Hp → κ → Prop} (B : DKind (K := K) κ F kf ho kv)
    {ws : WF} {is vs : List Nat} {g : GF} {t : CF} {f h : EF} (hv : ∀ i ∈ is, i ∈ vs) {σ : L2.St} {H : Hp} {Q : VK} : tE K (eDc F kf ws vs g t f h) σ H Q → tDcG ho kv (tI K ws) (tG K is g) (tT K t) (tE K f) (tE K h) vs σ H Q := by
  rintro ⟨ρ, S, α, z, S', w, s, e, k⟩
  obtain ⟨⟨⟨sk, ds⟩, S1⟩, e1, z1⟩ := bd_of e
  obtain ⟨SE, e2, z2⟩ := bd_of z1
  clear z1 e
  have e2 : dcD F kf S1.length sk ds g t f h (wipeE ρ vs) ds [] (S1 ++ [F []]) = some SE := e2
  have z2 : some (P.obj S1.length, SE.take (S1.length + 1)) = some (z, S') := z2
  injection z2 with z2
  injection z2 with ez eS
  subst ez
  subst eS
  refine ⟨ρ, S, α, sk, ds, S1, w, s, e1, fun J H1 α1 a1 w1 src g1 hl p hp => ?_⟩
  have a0 := Adv.newObj (o := ho []) w1 hp
  have w0 : Wd (upd H1 p (ho [])) (α1 ++ [some p]) (S1 ++ [F []]) := w1.newObj hp ((B.rep _ _ _ _).mpr ⟨[], upd_same, .nil⟩)
  refine ⟨fun i m H2 => m + i = ds.length ∧ ∃ acc S2 α2, acc.length ≤ i ∧ Adv (upd H1 p (ho [])) (α1 ++ [some p]) H2 α2 ∧ Wd H2 α2 S2 ∧ dcD F kf S1.length sk ds g t f h (wipeE ρ vs) (ds.drop i) acc S2 = some SE,
    ⟨ds.length, rfl, [], _, _, Nat.zero_le _, .refl, w0, e2⟩, ?_⟩
  rintro i m H2 ⟨hm, acc, S2, α2, hacc, a2, w2, e3⟩
  by_cases hd : i < ds.length
  · rw [List.drop_eq_getElem_cons hd] at e3
    unfold dcD at e3
    obtain ⟨g2, y3⟩ := chk_of e3
    obtain ⟨ρ3, e4, y4⟩ := bd_of y3
    obtain ⟨⟨b, S4⟩, e5, y5⟩ := bd_of y4
    clear e3 y3 y4
    have hdi : ds[i]? = some ds[i] := List.getElem?_eq_getElem hd
    refine .inr ⟨src.go i H2 α2 S2 _ (a0.trans a2) w2 g2 hdi, fun H' => ∃ acc S2 α2, acc.length ≤ i + 1 ∧ Adv (upd H1 p (ho [])) (α1 ++ [some p]) H' α2 ∧ Wd H' α2 S2 ∧ dcD F kf S1.length sk ds g t f h (wipeE ρ vs) (ds.drop (i + 1)) acc S2 = some SE, fun H' q => ⟨m - 1, by omega, by omega, q⟩, fun x H' y => ?_⟩
    obtain ⟨a3, w3, r3⟩ := src.yld i H2 α2 S2 _ x H' (a0.trans a2) w2 g2 hdi y
    refine ⟨wipeE ρ vs, S2, α2, ds[i], ρ3, w3, (s.wipes vs).mono (a1.trans (a0.trans (a2.trans a3))), r3, e4, fun σ3 s3 ag => ⟨wipe_agr ag hv, ρ3, S2, α2, b, S4, w3, s3, e5, fun H4 α4 a4 w4 => ?_⟩⟩
    cases b with
    | false =>
      rw [if_neg Bool.false_ne_true] at y5 ⊢
      exact ⟨acc, S4, α4, by omega, a2.trans (a3.trans a4), w4, y5⟩
    | true =>
      rw [if_pos rfl] at y5 ⊢
      obtain ⟨⟨q, S5⟩, e6, y6⟩ := bd_of y5
      obtain ⟨key, e7, y7⟩ := bd_of y6
      obtain ⟨⟨q', S6⟩, e8, y8⟩ := bd_of y7
      obtain ⟨d', e9, y9⟩ := bd_of y8
      obtain ⟨g6, y10⟩ := chkM_of y9
      cases asDat_of e9
      refine ⟨ρ3, S4, α4, _, S5, w4, s3.mono a4, e6, fun v H5 α5 a5 w5 r5 => ⟨ρ3, S5, α5, _, S6, w5, s3.mono (a4.trans a5), e8, fun u H6 α6 a6 w6 r6 => ?_⟩⟩
      have A := a2.trans (a3.trans (a4.trans (a5.trans a6)))
      obtain ⟨b, us, q0, q1, q2, q4⟩ := B.get w6 (obj_at (K := K) w1.len.symm A) g6
      cases q0
      have hz : us.length < sizeLine := by rw [q4.len]; omega
      refine ⟨us, key, B.key r5 e7 a6, q2, hz, dput acc key d', S6.set S1.length (F (dput acc key d')), α6, Nat.le_trans (dput_le ..) (by omega), A.trans (Adv.write q1), w6.write q1 ((B.rep _ _ _ _).mpr ⟨putK us key u, upd_same, ?_⟩), y10⟩
      exact (q4.mono (Adv.write q1)).put (Rp.mono (Adv.write q1) r6)
  · rw [List.drop_eq_nil_of_le (Nat.le_of_not_lt hd)] at e3
    unfold dcD at e3
    obtain ⟨g2, y3⟩ := chk_of e3
    cases y3
    refine .inl ⟨src.stop i H2 α2 SE (a0.trans a2) w2 g2 (Nat.le_of_not_lt hd), ?_⟩
    have A := a1.trans (a0.trans a2)
    have hl1 := a1.len
    have hl2 := w1.len
    obtain ⟨o1, b, o2, o3⟩ := obj_at (K := K) w1.len.symm a2
    refine k _ H2 (α2.take (S1.length + 1)) (A.takeN (by omega)) (w2.take _) ⟨?_, b, o2, fun x q => o3 x (take_at q).2⟩
    rw [List.length_take]; omega
section
variable {X : Cx} {kx vx tg iter : Expr} {ifs : List Expr} {scope : Scope} {pos : Pos} {ws : WF} {g : GF} {t : CF} {f h : EF} {is : List Nat}
theorem me_dcK (own : List (Str × Nat)) (hN : X.N.Nodup) (hi : PI X tg iter (tI X.K ws)) (ok : BlkOk X.N X.env.scope scope own)
    (hg : OfBlk X scope fun Y => PG Y tg (tG X.K is g)) (ht : OfBlk X scope fun Y => PTs Y ifs (tT X.K t)) (hk : OfBlk X scope fun Y => PE Y kx (tE X.K f)) (he : OfBlk X scope fun Y => PE Y vx (tE X.K h))
    (hv : ∀ i ∈ is, i ∈ own.map (·.2) := by decide) (hc : X.calm = true := by rfl) (hs : ∀ x, foldedSetIterable iter X.env x = pure x := by intro _; rfl) :
    PE X (.DictComp kx vx [⟨tg, iter, ifs, 0⟩] scope pos) (tE X.K (eDc MO.dK asKeyP ws (own.map (·.2)) g t f h)) := (pe_dc hc hN hi ok hg ht hk he hs).imp fun σ H Q q => rd_dc dkK hv q
theorem me_dcT (own : List (Str × Nat)) (hu : X.A.units < cLine) (hN : X.N.Nodup) (hi : PI X tg iter (tI X.K ws)) (ok : BlkOk X.N X.env.scope scope own)
    (hg : OfBlk X scope fun Y => PG Y tg (tG X.K is g)) (ht : OfBlk X scope fun Y => PTs Y ifs (tT X.K t)) (hk : OfBlk X scope fun Y => PE Y kx (tE X.K f)) (he : OfBlk X scope fun Y => PE Y vx (tE X.K h))
    (hv : ∀ i ∈ is, i ∈ own.map (·.2) := by decide) (hc : X.calm = true := by rfl) (hs : ∀ x, foldedSetIterable iter X.env x = pure x := by intro _; rfl) :
    PE X (.DictComp kx vx [⟨tg, iter, ifs, 0⟩] scope pos) (tE X.K (eDc MO.dT asKeyT ws (own.map (·.2)) g t f h)) := (pe_dcT hu hc hN hi ok hg ht hk he hs).imp fun σ H Q q => by
  obtain ⟨ρ, S, α, sk, ds, S', w, s, e, k⟩ := rd_dc dkT hv q
  refine ⟨ρ, S, α, sk, ds, S', w, s, e, fun J H1 α1 a1 w1 src g1 hl p hp => ?_⟩
  obtain ⟨W, h0, hW⟩ := k J H1 α1 a1 w1 src g1 hl p hp
  refine ⟨W, h0, fun i m H2 hw => (hW i m H2 hw).imp id fun ⟨go, Nx, hN, st⟩ => ⟨go, Nx, hN, fun x H' y => ?_⟩⟩
  obtain ⟨ρ, S, α, d, ρ', w, s, rd, e, k⟩ := st x H' y
  refine ⟨ρ, S, α, d, ρ', w, s, rd, e, fun σ' s' ag => ?_⟩
  obtain ⟨q1, ρ, S, α, b, S', w, s, e, k⟩ := k σ' s' ag
  refine ⟨q1, ρ, S, α, b, S', w, s, e, fun H' α' a' w' => ?_⟩
  have k := k H' α' a' w'
  dsimp only at k ⊢
  split at k
  · rename_i hb
    rw [if_pos hb]
    obtain ⟨ρ, S, α, z, S', w, s, e, k⟩ := k
    refine ⟨ρ, S, α, z, S', w, s, e, fun v H5 α5 a5 w5 r5 => ?_⟩
    obtain ⟨ρ, S, α, z, S', w, s, e, k⟩ := k v H5 α5 a5 w5 r5
    refine ⟨ρ, S, α, z, S', w, s, e, fun v H5 α5 a5 w5 r5 => ?_⟩
    obtain ⟨kvs, key, ⟨b, e1, e2⟩, e3, e4, e5⟩ := k v H5 α5 a5 w5 r5
    exact ⟨kvs, key, b, e1, e2, e3, e4, e5⟩
  · rename_i hb
    rw [if_neg hb]
    exact k
end

/-! ### op= -/
def sAug (i : Nat) (g : Int → Int → Int) (f : EF) : SF := fun ρ S => bd (ρ.getD i none) fun p => bd (asInt p) fun a => bd (f ρ S) fun x => bd (asInt x.1) fun b => some (.nx, ρ.set i (some (.dat (.int (g a b)))), x.2)
section
variable {X : Cx} {op : Operator} {g : Int → Int → Int}
theorem ms_aug (i : Nat) {x : Str} {e : Expr} {f : EF} {pos pos' : Pos} (hN : X.N.Nodup) (he : PE X e (tE X.K f)) (ho : PIp X op (ipI g)) (hi : X.N[i]? = some x := by rfl) (hx : Loc X.env.scope x := by first | exact Or.inl rfl | exact Or.inr rfl)
    (hf : X.fn x = true ∨ X.env.scope.names.lookup x = some .local := by first | exact .inl rfl | exact .inr rfl | assumption) : PS X (.AugAssign (.Name x pos') op e pos) (tS X.K (sAug i g f)) := (ps_aug hN hi hx he ho hf).imp fun E σ H => by
  rintro ⟨ρ, S, α, r, w, s, e, k⟩
  obtain ⟨p, e1, z1⟩ := bd_of e
  obtain ⟨a, e2, z2⟩ := bd_of z1
  obtain ⟨⟨y, S1⟩, e3, z3⟩ := bd_of z2
  obtain ⟨b, e4, z4⟩ := bd_of z3
  clear e z1 z2 z3
  cases z4
  cases asInt_of e2
  have e5 : ρ[i]? = some (some (.dat (.int a))) := by
    rw [List.getD_eq_getElem?_getD] at e1
    cases hh : ρ[i]? with
    | none => rw [hh] at e1; cases e1
    | some q => rw [hh] at e1; exact congrArg some e1
  obtain ⟨v, h1, h2⟩ := s.at_ i _ e5
  refine ⟨v, h1, ρ, S, α, y, S1, w, s, e3, fun u H1 α1 a1 w1 r1 => ?_⟩
  have e4' : asInt y = some b := e4
  cases asInt_of e4'
  exact ⟨a, b, int_of h2, int_of r1, k _ H1 α1 a1 w1 ((s.mono a1).set i (p := .dat (.int (g a b))) (.int _))⟩
def rgL (K : PySem.W.Frag) : V → V → Hp → VK → Prop := fun o i H Q => ∃ p xs k v, o = .ref p ∧ i = .int k ∧ SqL K H p xs ∧ atI xs k = some v ∧ Q v H
theorem get_lst : PGet X (rgL X.K) := by
  intro pins s σ H o i ov iv Q I ro ri h
  obtain ⟨p, xs, k, v, rfl, rfl, hq, he, q⟩ := h
  cases ro
  obtain ⟨t, rfl⟩ := ri
  obtain ⟨its, r, pl, hz⟩ := I.list hq
  obtain ⟨j, j1, j2, j3, j4, j5⟩ := atI_get he
  obtain ⟨u, eu, ru⟩ := r.get j2
  have lenE := r.length
  have bnd := line63
  have out : EP X pins σ Q u s := ⟨v, H, I, ru, q⟩
  by_cases h0 : 0 ≤ k
  · have hj : k.toNat = j := by
      rw [seqIndex_of h0 j5] at j1
      exact Option.some.inj j1
    exact wpAny_getItem_list pl.isList h0 (by omega) (by rw [hj]; simpa using eu) out
  · have hj : (k + (its.toArray.size : Int)).toNat = j := by
      rw [seqIndex_neg (by omega) j4] at j1
      rw [List.size_toArray, ← lenE]
      exact Option.some.inj j1
    exact wpAny_getItem_list_neg pl.isList (by omega) (by rw [List.size_toArray] <;> omega) (by omega) (by rw [hj]; simpa using eu) out
/-- o[i] op= v of a changing list of ints -/
def sAugIx (g : Int → Int → Int) (o i v : EF) : SF := fun ρ S => bd (o ρ S) fun x => bd (i ρ x.2) fun y => bd (asObj x.1) fun j => bd (lstAt j y.2) fun ds => bd (asInt y.1) fun n => bd (atI ds n) fun d => bd (asInt (.dat d)) fun a => bd (v ρ y.2) fun z => bd (asInt z.1) fun b => bd (lstAt j z.2) fun es => bd (ixN es.length n) fun m => some (.nx, ρ, z.2.set j (.lst (es.set m (.int (g a b)))))
theorem ms_augIx {o i v : Expr} {fo fi fv : EF} {pos tpos : Pos} (ho : PE X o (tE X.K fo)) (hi : PE X i (tE X.K fi)) (hv : PE X v (tE X.K fv)) (hp : PIp X op (ipI g))
    (ha : ∀ ov iv new, augStore i ov iv new = (do holding [new, ov, iv] (setItem ov iv new); release [new, ov, iv] []; pure .next) := by intros; rfl) : PS X (.AugAssign (.Subscript o i tpos) op v pos) (tS X.K (sAugIx g fo fi fv)) := (ps_augS ho hi get_lst hv hp set_list ha).imp fun E σ H => by
  rintro ⟨ρ, S, α, r, w, s, e, k⟩
  obtain ⟨⟨x, S1⟩, e1, z1⟩ := bd_of e
  obtain ⟨⟨y, S2⟩, e2, z2⟩ := bd_of z1
  obtain ⟨j, e10, z3⟩ := bd_of z2
  obtain ⟨ds, e3, z4⟩ := bd_of z3
  obtain ⟨n, e4, z5⟩ := bd_of z4
  obtain ⟨d, e5, z6⟩ := bd_of z5
  obtain ⟨a, e6, z7⟩ := bd_of z6
  obtain ⟨⟨z, S3⟩, e7, z8⟩ := bd_of z7
  obtain ⟨b, e8, z9⟩ := bd_of z8
  obtain ⟨es, e9, z10⟩ := bd_of z9
  obtain ⟨m, e11, z11⟩ := bd_of z10
  clear e z1 z2 z3 z4 z5 z6 z7 z8 z9 z10
  cases z11
  have hx : x = .obj j := asObj_of e10
  have hy : asInt y = some n := e4
  have hz : asInt z = some b := e8
  subst hx
  cases asInt_of hy
  cases asInt_of e6
  cases asInt_of hz
  refine ⟨ρ, S, α, _, S1, w, s, e1, fun vo H1 α1 a1 w1 r1 => ⟨ρ, S1, α1, _, S2, w1, s.mono a1, e2, fun vi H2 α2 a2 w2 r2 => ?_⟩⟩
  obtain ⟨p, xs, rfl, g0, g1, _, g2⟩ := w2.lst (r1.mono a2) (lstAt_of e3)
  obtain ⟨c, g3, g4⟩ := atI_of g2 e5
  refine ⟨p, xs, n, c, rfl, int_of r2, SqL.of g1, g3, ρ, S2, α2, _, S3, w2, s.mono (a1.trans a2), e7, fun u H3 α3 a3 w3 r3 => ⟨a, b, int_of (K := X.K) (show RpP X.K _ _ c (.dat (.int a)) from g4), int_of r3, ?_⟩⟩
  obtain ⟨p', us, q0, q1, q2, q3, q4⟩ := w3.lst ((r1.mono a2).mono a3) (lstAt_of e9)
  cases q0
  have A := a1.trans (a2.trans (a3.trans (Adv.write (o := .lst (us.set m (.int (g a b)))) q1)))
  exact ⟨p, us, n, m, rfl, int_of (r2.mono a3), q2, by rw [q4.length]; exact e11, k _ _ α3 A (w3.write q1 ⟨_, upd_same, by rw [List.length_set]; exact q3, RpL.set (.int _) m (RpL.mono (Adv.write q1) q4)⟩) (s.mono A)⟩
end
end Me
set_option Elab.async false
set_option linter.all false
set_option maxRecDepth 100000
set_option maxHeartbeats 1000000
/-! Me11: sum of lists from a list. -/
namespace Me
open PySem PySem.Spec PyProof.Rows L2
variable {K : PySem.W.Frag}

abbrev lsO (xs : List Value) (c : Nat) : Obj := { cls := .type "list", dict := none, data := .seq xs.toArray c, slots := #[] }
def accs (g : Nat → List Value) (xs : List Value) : Nat → List Value
  | 0 => xs
  | i + 1 => accs g xs i ++ g i
theorem accs_le {g : Nat → List Value} {xs : List Value} : ∀ {n i : Nat}, i ≤ n → (accs g xs i).length ≤ (accs g xs n).length
  | 0, i, h => by rw [Nat.le_zero.mp h]; exact Nat.le_refl _
  | n + 1, i, h => by
    rcases Nat.lt_or_ge n i with z | z
    · rw [Nat.le_antisymm h z]; exact Nat.le_refl _
    · refine Nat.le_trans (accs_le z) ?_
      show _ ≤ (accs g xs n ++ g n).length
      rw [List.length_append]; exact Nat.le_add_right _ _
theorem args_sum2 (a b : Value) : argsOk "sum" ⟨[a, b], []⟩ := by unfold argsOk; kernel_rfl
theorem sub_list_ba : isSubtype (.type "list") (.type "bytearray") = pure false := by rw [isSubtype_type]; kernel_rfl
section
variable {P0 : Program} {w0 : World} {A : Around} {R : Result → Shared → Prop} {it l : Addr} {g : Nat → List Value} {xs : List Value} {its : Array Value}
/-- the loop: z the start, T its cell -/
theorem su_loop (hh : A.handled = none) (hl : l ≠ it) (T : Addr) (hT : T ≠ it) (hTl : T ≠ l) (z : Addr) (N : Nat) (hN : (accs g xs its.size).length ≤ sizeLine)
    (hNT : N ≤ T) (h0 : Heap) (hg : ∀ (i : Nat) (v : Value), its[i]? = some v → ∃ b c, v = .ref b ∧ b ≠ it ∧ b ≠ T ∧ h0.get? b = some (lsO (g i) c)) :
    ∀ (k i : Nat) (s : Shared) (p : Addr) (c d : Nat), its.size - i = k → i ≤ its.size → s.heap.IsListIter it l i → s.heap.IsList l its → (∀ b o, b ≠ it → b ≠ T → h0.get? b = some o → s.heap.get? b = some o) →
    s.heap.get? T = some (lsO [.ref p] c) → s.heap.get? p = some (lsO (accs g xs i) d) → p ≠ it → p ≠ T → (i = 0 ∧ p = z ∨ 0 < i ∧ N ≤ p) →
    (∀ h' tk p' d', (∀ b o, b ≠ it → b ≠ T → h0.get? b = some o → h'.get? b = some o) → h'.get? p' = some (lsO (accs g xs its.size) d') → (its.size = 0 ∧ p' = z ∨ 0 < its.size ∧ N ≤ p') → R (.ok (.ret (.ref p'))) { s with heap := h', toks := tk }) →
    codeAny (model P0 w0) A (.builtin "sum.loop" ⟨[.ref it, .ref T, rawInt 2, rawInt 0], []⟩) R s := by
  intro k
  induction k with
  | zero =>
    intro i s p c d hk hi hiter hlist keep hTc hp hpi hpT hor hR
    have hin : i = its.size := by omega
    subst hin
    refine codeAny_builtin F.entry_sum_loop ?_
    rw [Around.under_plainId F.plain_sum_loop _]
    show wpAny _ A.in1 (seqItems? (.ref T) >>= _) _ _ s
    refine wpAny_bind (wpAny_seqItems hTc rfl ?_)
    show wpAny _ A.in1 (tryCatch (pyNext (.ref it)) _ >>= _) _ _ s
    refine wpAny_bind (wpAny_tryCatch ((Walks.list (A := A.in1) hh it l hl its).done s _ _ ⟨hiter, hlist⟩ fun h' tk kp => ?_))
    exact wpAny_pure (hR h' tk p d (fun b o h1 h2 e => kp b o (by simpa using h1) (keep b o h1 h2 e)) (kp p _ (by simpa using hpi) hp) hor)
  | succ k ih =>
    intro i s p c d hk hi hiter hlist keep hTc hp hpi hpT hor hR
    have hlt : i < its.size := by omega
    refine codeAny_builtin F.entry_sum_loop ?_
    rw [Around.under_plainId F.plain_sum_loop _]
    show wpAny _ A.in1 (seqItems? (.ref T) >>= _) _ _ s
    refine wpAny_bind (wpAny_seqItems hTc rfl ?_)
    show wpAny _ A.in1 (tryCatch (pyNext (.ref it)) _ >>= _) _ _ s
    refine wpAny_bind (wpAny_tryCatch ((Walks.list (A := A.in1) hh it l hl its).item i s _ _ hlt ⟨hiter, hlist⟩ fun v h1 tk hv ⟨hiter1, hlist1⟩ kp => ?_))
    obtain ⟨b, cb, rfl, hbi, hbT, hb0⟩ := hg i v hv
    have hb1 : h1.get? b = some (lsO (g i) cb) := kp b _ (by simpa using hbi) (keep b _ hbi hbT hb0)
    have hp1 : h1.get? p = some (lsO (accs g xs i) d) := kp p _ (by simpa using hpi) hp
    have hT1 : h1.get? T = some (lsO [.ref p] c) := kp T _ (by simpa using hT) hTc
    have hN1 : N ≤ h1.objs.size := Nat.le_of_lt (Nat.lt_of_le_of_lt hNT (Heap.lt_size hT1))
    show wpAny _ A.in1 ((holding [Value.ref b] (binaryOp .Add (.ref p) (.ref b))).attempt >>= _) _ _ _
    refine wpAny_bind (wpAny_attempt (wpAny_holding (PySem.P.add_list (s := { s with heap := h1, toks := tk }) hp1 hb1 ?_ ?_)))
    · have ea : (accs g xs i).toArray ++ (g i).toArray = (accs g xs (i + 1)).toArray := by
        show _ = (accs g xs i ++ g i).toArray
        simp
      rw [ea]
      show wpAny _ A.in1 (updateSeq T (fun _ => #[.ref h1.objs.size]) >>= _) _ _ _
      have hT2 : (h1.push (lsO (accs g xs (i + 1)) 0)).get? T = some (lsO [.ref p] c) := Heap.get?_push_of_some _ hT1
      refine wpAny_bind (wpAny_updateSeq hT2 rfl ?_)
      have hT3 := Heap.get?_update_self (Obj.mapSeq fun _ => #[Value.ref h1.objs.size]) hT2 rfl
      refine wpAny_bind (wpAny_letGo ?_)
      have hne : h1.objs.size ≠ T := Nat.ne_of_gt (Heap.lt_size hT1)
      have step : ∀ b o, b ≠ T → h1.get? b = some o → (((h1.push (lsO (accs g xs (i + 1)) 0)).update T (Obj.mapSeq fun _ => #[Value.ref h1.objs.size])).update T (Obj.mapSeq fun _ => #[Value.ref h1.objs.size])).get? b = some o := fun b o h2 e =>
        (Heap.get?_update_other _ _ (Ne.symm h2)).trans ((Heap.get?_update_other _ _ (Ne.symm h2)).trans (Heap.get?_push_of_some _ e))
      refine wpAny_bind (wpAny_updateSeq hT3 rfl (wpAny_pure ⟨plainId_quiet F.plain_sum_loop _, ih (i + 1) _ h1.objs.size _ 0 (by omega) hlt (hiter1.at fun o e => step it o (Ne.symm hT) e) (hlist1.at fun o e => step l o (Ne.symm hTl) e) (fun b o h2 h3 e => step b o h3 (kp b o (by simpa using h2) (keep b o h2 h3 e))) (Heap.get?_update_self _ hT3 rfl) ?_ ?_ hne (.inr ⟨Nat.succ_pos _, hN1⟩) fun h' tk' p' d' q1 q2 q3 => hR h' tk' p' d' q1 q2 q3⟩))
      · exact (Heap.get?_update_other _ _ (Ne.symm hne)).trans ((Heap.get?_update_other _ _ (Ne.symm hne)).trans (Heap.get?_push_size _ rfl))
      · obtain ⟨o, ho, _⟩ := hiter1
        exact Nat.ne_of_gt (Heap.lt_size ho)
    · have := accs_le (g := g) (xs := xs) (show i + 1 ≤ its.size from hlt)
      have e : (accs g xs (i + 1)).length = (accs g xs i).length + (g i).length := List.length_append
      simp only [List.size_toArray]
      omega
theorem su_call {E : Value → Shared → Prop} {s : Shared} {Q : Value → Shared → Prop} {z : Addr} {cz : Nat} (hh : A.handled = none) (hls : s.heap.IsList l its) (hz : s.heap.get? z = some (lsO xs cz)) (hN : (accs g xs its.size).length ≤ sizeLine)
    (hg : ∀ (i : Nat) (v : Value), its[i]? = some v → ∃ b c, v = .ref b ∧ s.heap.get? b = some (lsO (g i) c))
    (h : ∀ h' tk p d, (∀ b o, s.heap.get? b = some o → h'.get? b = some o) → h'.get? p = some (lsO (accs g xs its.size) d) → (its.size = 0 ∧ p = z ∨ 0 < its.size ∧ s.heap.objs.size ≤ p) → Q (.ref p) { s with heap := h', toks := tk }) :
    wpAny (model P0 w0) A (call (.builtin "sum") [.ref l, .ref z]) Q E s := by
  refine call_function_tree F.kind_sum F.plain_sum F.entry_sum (args_sum2 _ _) ?_
  unfold Builtin.«sum»
  simp only [List.length_cons, List.length_nil]
  rw [if_neg (by decide)]
  refine wpAny_bind (wpAny_of_eq (show Builtin.Builtins.bindParams "sum" ["start"] 0 ⟨[.ref z], []⟩ = pure [some (.ref z)] from rfl) ?_)
  refine wpAny_bind (wpAny_pyIter_list hls ?_)
  refine wpAny_bind (wpAny_pure ?_)
  have hzt : ∀ {hp : Heap}, (∀ b o, s.heap.get? b = some o → hp.get? b = some o) → ∀ {g d t o}, Shared.TypeIs ⟨hp, g, d, t, o⟩ (.ref z) "list" := by
    intro hp k g d t o
    exact ⟨_, k z _ hz, rfl⟩
  have hk1 : ∀ b o, s.heap.get? b = some o → (s.heap.push { cls := .type "list_iterator", data := .fields #[.ref l, .int 0 0] }).get? b = some o := fun b o e => Heap.get?_push_of_some _ e
  simp only [List.forIn_cons, List.forIn_nil]
  refine wpAny_bind (wpAny_bind (wpAny_bind (wpAny_isInstance (T := "list") (b := false) (hzt hk1) F.sub_list_str ?_)))
  simp only [Bool.false_eq_true, if_false]
  refine wpAny_pure (wpAny_bind (wpAny_bind (wpAny_isInstance (T := "list") (b := false) (hzt hk1) F.sub_list_bytes ?_)))
  simp only [Bool.false_eq_true, if_false]
  refine wpAny_pure (wpAny_bind (wpAny_bind (wpAny_isInstance (T := "list") (b := false) (hzt hk1) sub_list_ba ?_)))
  simp only [Bool.false_eq_true, if_false]
  refine wpAny_pure (wpAny_pure ?_)
  refine wpAny_bind (wpAny_newObj_type ?_)
  obtain ⟨ol, hol, _⟩ := id hls
  have hll : l < s.heap.objs.size := Heap.lt_size hol
  have hsz1 : (s.heap.push { cls := .type "list_iterator", data := .fields #[.ref l, .int 0 0] }).objs.size = s.heap.objs.size + 1 := Heap.size_push ..
  have lt : ∀ {b o}, s.heap.get? b = some o → b ≠ s.heap.objs.size ∧ b ≠ s.heap.objs.size + 1 := fun e => ⟨Nat.ne_of_lt (Heap.lt_size e), Nat.ne_of_lt (Nat.lt_succ_of_lt (Heap.lt_size e))⟩
  refine wpAny_pure ⟨plainId_quiet F.plain_sum_loop _, ?_⟩
  show codeAny _ _ (.builtin "sum.loop" ⟨[.ref s.heap.objs.size, .ref (s.heap.push { cls := .type "list_iterator", data := .fields #[.ref l, .int 0 0] }).objs.size, rawInt 2, rawInt 0], []⟩) _ _
  have hT := Heap.get?_push_size (s.heap.push { cls := .type "list_iterator", data := .fields #[.ref l, .int 0 0] }) (o := lsO [.ref z] 0) rfl
  rw [hsz1] at hT ⊢
  refine su_loop (g := g) (xs := xs) (its := its) (l := l) hh (Nat.ne_of_lt hll) (s.heap.objs.size + 1) (Nat.succ_ne_self _) (Nat.ne_of_gt (Nat.lt_succ_of_lt hll)) z s.heap.objs.size hN (Nat.le_succ _) s.heap
    (fun i v hv => ?_) its.size 0 _ z 0 cz rfl (Nat.zero_le _) ?_ ?_ ?_ ?_ ?_ (lt hz).1 (lt hz).2 (.inl ⟨rfl, rfl⟩) ?_
  · obtain ⟨b, c, e1, e2⟩ := hg i v hv
    exact ⟨b, c, e1, (lt e2).1, (lt e2).2, e2⟩
  · exact ⟨_, Heap.get?_push_of_some _ (Heap.get?_push_size _ rfl), rfl, rfl⟩
  · exact (hls.push _).push _
  · exact fun b o _ _ e => Heap.get?_push_of_some _ (hk1 b o e)
  · exact hT
  · exact Heap.get?_push_of_some _ (hk1 z _ hz)
  · intro h' tk p d q1 q2 q3
    exact h h' tk p d (fun b o e => q1 b o (lt e).1 (lt e).2 e) q2 q3
end

theorem accs_take {gs : List (List Value)} : ∀ i, i ≤ gs.length → accs (fun j => gs.getD j []) [] i = (gs.take i).flatten
  | 0, _ => by simp [accs]
  | i + 1, h => by
    have hi : i < gs.length := h
    show accs _ [] i ++ gs.getD i [] = _
    have e : gs.take (i + 1) = gs.take i ++ [gs[i]] := by rw [List.take_add_one, List.getElem?_eq_getElem hi]; rfl
    rw [accs_take i (Nat.le_of_lt hi), e, List.getD_eq_getElem?_getD, List.getElem?_eq_getElem hi, List.flatten_append]
    simp only [Option.getD_some, List.flatten_cons, List.flatten_nil, List.append_nil]
/-- xs are lists of ys, each -/
inductive LL (H : Hp) : List V → List (List V) → Prop
  | nil : LL H [] []
  | cons {b : Addr} {ys : List V} {xs : List V} {yss : List (List V)} : H b = some (.lst ys) → LL H xs yss → LL H (.ref b :: xs) (ys :: yss)
theorem LL.reads {X : Cx} {pins : List (Addr × Obj)} {σ : L2.St} {H : Hp} {s : Shared} (I : Inv X pins σ H s) : ∀ {xs : List V} {yss : List (List V)} {its : List Value}, LL H xs yss → Vals xs its →
    ∃ gs : List (List Value), gs.length = its.length ∧ Vals yss.flatten gs.flatten ∧ ∀ (i : Nat) (v : Value), its[i]? = some v → ∃ b c, v = .ref b ∧ s.heap.get? b = some (lsO (gs.getD i []) c)
  | _, _, _, .nil, .nil => ⟨[], rfl, .nil, fun i v h => by simp at h⟩
  | _, _, _, .cons e t, .cons r rs => by
    obtain ⟨gs, h1, h2, h3⟩ := LL.reads I t rs
    obtain ⟨_, us, n, ru, _, eu⟩ := I.lstM e
    cases r
    refine ⟨us :: gs, congrArg (· + 1) h1, by rw [List.flatten_cons, List.flatten_cons]; exact ru.append h2, fun i v h => ?_⟩
    cases i with
    | zero => simp at h; exact ⟨_, n, h.symm, eu⟩
    | succ i => exact h3 i v (by simpa using h)
def rSumLL (K : PySem.W.Frag) : List V → Hp → VK → Prop := fun vs H Q => ∃ a b xs yss, vs = [.ref a, .ref b] ∧ SqL K H a xs ∧ H b = some (.lst []) ∧ LL H xs yss ∧ yss.flatten.length ≤ sizeLine ∧ (yss = [] → Q (.ref b) H) ∧ (yss ≠ [] → ∀ p, H p = none → Q (.ref p) (upd H p (.lst yss.flatten)))
theorem cr_sumLL {X : Cx} (hc : X.calm = true) : CallR X (.builtin "sum") (rSumLL X.K) := by
  intro pins s σ H vs us Q I r h
  obtain ⟨a, b, xs, yss, rfl, hs, hb, ll, hz, q0, q1⟩ := h
  cases r with
  | cons ra r =>
    cases r with
    | cons rb r =>
      cases r
      cases ra
      cases rb
      obtain ⟨its, rv, hl, _⟩ := I.list hs
      obtain ⟨_, z, n, rz, _, ez⟩ := I.lstM hb
      cases rz
      obtain ⟨gs, g1, g2, g3⟩ := ll.reads I rv
      have hfl : accs (fun j => gs.getD j []) [] its.toArray.size = gs.flatten := by
        rw [accs_take _ (by simp [g1]), List.size_toArray, ← g1, List.take_length]
      refine su_call (g := fun j => gs.getD j []) (xs := []) (I.ok.hd hc) hl.isList ez (by rw [hfl, ← g2.length]; exact hz) (fun i v hv => g3 i v (by simpa using hv)) fun h' tk p d k e alt => ?_
      rw [hfl] at e
      have hlen : yss.length = its.length := by
        have : ∀ {xs : List V} {yss : List (List V)}, LL H xs yss → yss.length = xs.length := fun h => by
          induction h with
          | nil => rfl
          | cons _ _ ih => exact congrArg (· + 1) ih
        rw [this ll]
        exact rv.length
      rcases alt with ⟨h0, rfl⟩ | ⟨h0, hp⟩
      · have hy : yss = [] := List.eq_nil_of_length_eq_zero (by rw [hlen]; simpa using h0)
        exact ⟨.ref p, H, I.kept (t' := tk) k, rfl, q0 hy⟩
      · have hy : yss ≠ [] := fun z => by rw [z] at hlen; simp at h0 hlen; omega
        exact ⟨.ref p, _, I.laid (o := .lst yss.flatten) (t' := tk) k hp ⟨hz, gs.flatten, d, g2, e⟩, rfl, q1 hy p (I.hok.fresh hp)⟩
/-- lists of lists, one after the other -/
def lists : List D → Option (List (List D))
  | [] => some []
  | .list xs :: ds => bd (lists ds) fun r => some (xs :: r)
  | _ :: _ => none
theorem lists_of {H : Hp} {α : Ad} : ∀ {vs : List V} {ds : List D} {dss : List (List D)}, RpL H α vs ds → lists ds = some dss → ∃ yss, LL H vs yss ∧ RpL H α yss.flatten dss.flatten ∧ (yss = [] ↔ dss = [])
  | _, _, _, .nil, h => by cases h; exact ⟨[], .nil, .nil, by simp⟩
  | _, .list xs :: ds, _, .cons r t, h => by
    obtain ⟨dss, h1, h2⟩ := bd_of h
    cases h2
    obtain ⟨yss, g1, g2, _⟩ := lists_of t h1
    cases r with
    | lst e1 e2 e3 e4 => exact ⟨_ :: yss, .cons e1 g1, by rw [List.flatten_cons, List.flatten_cons]; exact e4.append g2, by simp⟩
  | _, .none :: _, _, .cons _ _, h => by cases h
  | _, .bool _ :: _, _, .cons _ _, h => by cases h
  | _, .int _ :: _, _, .cons _ _, h => by cases h
  | _, .str _ :: _, _, .cons _ _, h => by cases h
  | _, .tuple _ :: _, _, .cons _ _, h => by cases h
  | _, .dict _ :: _, _, .cons _ _, h => by cases h
def isNilL : P → Bool
  | .dat (.list []) => true
  | _ => false
theorem isNilL_of {p : P} (h : isNilL p = true) : p = .dat (.list []) := by
  unfold isNilL at h
  split at h
  · rfl
  · cases h
/-- sum(lists, []) -/
def oSumLL : VF := fun ps S => bd (two2 ps) fun p => bd (lsqOf p.1 S) fun ds => bd (lists ds) fun dss => if isNilL p.2 = true ∧ dss.flatten.length ≤ lim then some (.dat (.list dss.flatten), S) else none
theorem cd_sumLL : CaD K (rSumLL K) oSumLL := fun H α S xs ps z S' Q w rs e k => by
  obtain ⟨⟨p1, p2⟩, e1, z1⟩ := bd_of e
  obtain ⟨ds, e2, z2⟩ := bd_of z1
  obtain ⟨dss, e3, z3⟩ := bd_of z2
  clear e z1 z2
  have e1' := two2_of e1
  dsimp only at e1' e2 z3
  subst e1'
  split at z3
  case isFalse => cases z3
  case isTrue hh =>
  cases z3
  cases isNilL_of hh.1
  cases rs with
  | cons r1 rs =>
    cases rs with
    | cons r2 rs =>
      cases rs
      obtain ⟨a, us, rfl, hq, hz, ru⟩ := lsqOf_at w r1 e2
      obtain ⟨yss, g1, g2, g3⟩ := lists_of ru e3
      cases r2 with
      | lst b1 b2 b3 b4 =>
        cases b4
        have hlen : yss.flatten.length ≤ sizeLine := by rw [g2.length, lim_eq]; exact hh.2
        refine ⟨a, _, us, yss, rfl, hq, b1, g1, hlen, fun hy => ?_, fun hy p hp => ?_⟩
        · have hd : dss = [] := g3.mp hy
          subst hd
          exact k _ H α .refl w (Rp.lst b1 b2 b3 .nil)
        · have ad : Adv H α (upd H p (.lst yss.flatten)) α := Adv.new w hp
          exact k _ _ α ad (w.new hp) (.lst (by simp [upd]) (w.fresh hp) hlen (RpL.mono ad g2))
end Me
set_option Elab.async false
set_option linter.all false
set_option maxRecDepth 100000
set_option maxHeartbeats 1000000
/-! Me12: sorted(xs, key=a def of the text). -/
namespace Me
open PySem PySem.Spec PyProof.Rows L2
variable {K : PySem.W.Frag}

theorem un_tail {fs : List Addr} {H Hi : Hp} {h h1 h2 : Heap} {A B : Addr} {ob : HO} (u : Un fs [] H Hi h h1) (hok : ∀ b o, H b = some o → b < h.objs.size) (hA : h.objs.size ≤ A) (hB : h.objs.size ≤ B)
    (k : ∀ b o, b ≠ A → b ≠ B → h1.get? b = some o → h2.get? b = some o) : Un fs [] H (upd Hi A ob) h h2 := by
  have old : ∀ {b o}, h.get? b = some o → b ≠ A ∧ b ≠ B := fun e => ⟨Nat.ne_of_lt (Nat.lt_of_lt_of_le (Heap.lt_size e) hA), Nat.ne_of_lt (Nat.lt_of_lt_of_le (Heap.lt_size e) hB)⟩
  have oldT : ∀ {b o}, H b = some o → b ≠ A := fun e => Nat.ne_of_lt (Nat.lt_of_lt_of_le (hok _ _ e) hA)
  exact {
    keep := fun b o e n f x => k b o (old e).1 (old e).2 (u.keep b o e n f x)
    slot := fun b o e n f x => (u.slot b o e n f x).imp fun sl q => k b _ (old e).1 (old e).2 q
    free := fun b o e n x => by rw [upd_ne (old e).1]; exact u.free b o e n x
    there := fun b o e x => (u.there b o e x).imp fun o' q => k b _ (old e).1 (old e).2 q
    tups := fun b xs e => by rw [upd_ne (oldT e)]; exact u.tups b xs e
    frzs := fun b o w e => by rw [upd_ne (oldT e)]; exact u.frzs b o w e
    tbls := fun b ps e => by rw [upd_ne (oldT e)]; exact u.tbls b ps e }
theorem hok_same {P : Program} {w : World} {H : Hp} {h h' : Heap} (x : HOk P w H h) (k : ∀ b o t, H b = some t → h.get? b = some o → h'.get? b = some o) : HOk P w H h' := fun b o e =>
  (x b o e).stay (fun c u hc q => by
    rcases hc with rfl | hc
    · exact k _ u _ e q
    · exact k _ u _ hc q) (fun _ q => q) fun _ _ q => q
theorem hok_adopt {P : Program} {w : World} {H : Hp} {h : Heap} {A : Addr} {ob : HO} (x : HOk P w H h) (n : H A = none) (new : ObjOk P w (upd H A ob) h A ob) : HOk P w (upd H A ob) h := fun b o e => by
  by_cases hb : b = A
  · subst hb
    rw [upd_same] at e
    cases e
    exact new
  · rw [upd_ne hb] at e
    exact (x b o e).stay (fun c v _ q => q) (fun c q => by rw [upd_ne (ne_of_none q n)]; exact q) fun c xs q => by rw [upd_ne (ne_of_none q n)]; exact q
theorem eachIs_at {β : Type} {R : Value → β → Prop} : ∀ {vs : List Value} {bs : List β}, PySem.W.EachIs R vs bs → ∀ {i : Nat} {v : Value}, vs[i]? = some v → ∃ b, bs[i]? = some b ∧ R v b
  | _, _, .nil, _, _, h => by simp at h
  | _, _, .cons r t, 0, _, h => by simp at h; subst h; exact ⟨_, rfl, r⟩
  | _, _, .cons _ t, i + 1, _, h => eachIs_at t (i := i) (by simpa using h)
theorem eachIs_snoc {β : Type} {R : Value → β → Prop} {v : Value} {b : β} (r : R v b) : ∀ {vs : List Value} {bs : List β}, PySem.W.EachIs R vs bs → PySem.W.EachIs R (vs ++ [v]) (bs ++ [b])
  | _, _, .nil => .cons r .nil
  | _, _, .cons r' t => .cons r' (eachIs_snoc r t)
theorem eachIs_imp {β : Type} {R R' : Value → β → Prop} (h : ∀ v b, R v b → R' v b) : ∀ {vs : List Value} {bs : List β}, PySem.W.EachIs R vs bs → PySem.W.EachIs R' vs bs
  | _, _, .nil => .nil
  | _, _, .cons r t => .cons (h _ _ r) (eachIs_imp h t)
theorem eachIs_len {β : Type} {R : Value → β → Prop} : ∀ {vs : List Value} {bs : List β}, PySem.W.EachIs R vs bs → vs.length = bs.length
  | _, _, .nil => rfl
  | _, _, .cons _ t => congrArg (· + 1) (eachIs_len t)
/-- the keys of all items -/
def keysOf (F : VF) (S : Sto) : List D → Option (List Int)
  | [] => some []
  | d :: ds => bd (F [.dat d] S) fun z => bd (asInt z.1) fun i => bd (keysOf F S ds) fun r => some (i :: r)
theorem keysOf_len {F : VF} {S : Sto} : ∀ {ds : List D} {ks : List Int}, keysOf F S ds = some ks → ks.length = ds.length
  | [], _, h => by cases h; rfl
  | d :: ds, _, h => by
    obtain ⟨z, h1, h⟩ := bd_of h
    obtain ⟨i, h2, h⟩ := bd_of h
    obtain ⟨r, h3, h⟩ := bd_of h
    cases h
    exact congrArg (· + 1) (keysOf_len h3)
theorem keysOf_at {F : VF} {S : Sto} : ∀ {ds : List D} {ks : List Int} {i : Nat} {d : D} {k : Int}, keysOf F S ds = some ks → ds[i]? = some d → ks[i]? = some k → ∃ S', F [.dat d] S = some (.dat (.int k), S')
  | [], _, _, _, _, h, hd, _ => by simp at hd
  | d :: ds, _, i, _, _, h, hd, hk => by
    obtain ⟨z, h1, h⟩ := bd_of h
    obtain ⟨j, h2, h⟩ := bd_of h
    obtain ⟨r, h3, h⟩ := bd_of h
    cases h
    cases i with
    | zero =>
      simp at hd hk
      subst hd hk
      obtain ⟨z1, z2⟩ := z
      have h2' : asInt z1 = some j := h2
      cases asInt_of h2'
      exact ⟨z2, h1⟩
    | succ i => exact keysOf_at h3 (by simpa using hd) (by simpa using hk)

theorem sub_adv {H H' : Hp} {α : Ad} (h : ∀ a o, H a = some o → H' a = some o) : Adv H α H' α where
  keep := fun a o e _ => h a o e
  old := fun a m => .inl m
  len := Nat.le_refl _
  pre := fun _ _ _ z => z
theorem sub_wd {H H' : Hp} {α : Ad} {S : Sto} (h : ∀ a o, H a = some o → H' a = some o) (w : Wd H α S) : Wd H' α S :=
  ⟨w.len, w.inj, fun k a m z s => (w.at_ k a m z s).mono (sub_adv h) (by
    obtain ⟨o, q⟩ := w.there (List.mem_of_getElem? z)
    rw [q, h a o q]), w.dd⟩
theorem wd0 {H : Hp} : Wd H [] [] := ⟨rfl, fun _ _ _ e => by simp at e, fun _ _ _ e => by simp at e, fun _ e => by simp at e⟩
def skD (ds : List D) (ks : List Int) : List D := ((ds.zip ks).mergeSort (PySem.W.dataLe false fun b => .int b.2)).map (·.1)
theorem eachIs_zip {R : Value → D → Prop} : ∀ {us : List Value} {ds : List D} {ks : List Int}, PySem.W.EachIs R us ds → ks.length = ds.length → PySem.W.EachIs (fun u b => R u b.1) us (ds.zip ks)
  | _, _, [], .nil, _ => .nil
  | _, _, _ :: _, .cons r t, h => .cons r (eachIs_zip t (by simpa using h))
  | _, _, _ :: _, .nil, h => by simp at h
  | _, _, [], .cons _ _, h => by simp at h
theorem eachIs_fst {R : Value → D → Prop} : ∀ {us : List Value} {bs : List (D × Int)}, PySem.W.EachIs (fun u b => R u b.1) us bs → PySem.W.EachIs R us (bs.map (·.1))
  | _, _, .nil => .nil
  | _, _, .cons r t => .cons r (eachIs_fst t)
theorem zip_keys : ∀ {ds : List D} {ks : List Int}, ks.length = ds.length → (ds.zip ks).map (fun b => PyData.int b.2) = ks.map .int
  | [], [], _ => rfl
  | _ :: _, _ :: _, h => congrArg (_ :: ·) (zip_keys (by simpa using h))
  | [], _ :: _, h => by simp at h
  | _ :: _, [], h => by simp at h
theorem alike_keys (ks : List Int) : PySem.W.AllAlike (ks.map PyData.int) := fun d hd e he => by
  obtain ⟨i, _, rfl⟩ := List.mem_map.mp hd
  obtain ⟨j, _, rfl⟩ := List.mem_map.mp he
  rfl
theorem sort_keys (ks : List Int) : PySem.W.Sortable (ks.map PyData.int) := .inr fun d hd => by
  obtain ⟨i, _, rfl⟩ := List.mem_map.mp hd
  exact ⟨(by intro z; cases z), (by intro _ z; cases z)⟩

section
variable {X : Cx} {pins : List (Addr × Obj)} {σ : L2.St} {H : Hp} {s : Shared}
/-- while the keys are asked: D the copy, T the keys so far -/
def KeyJ (X : Cx) (H : Hp) (s : Shared) (ks : List Int) (A B : Addr) (n : Nat) (i : Nat) (t : Shared) : Prop :=
  ∃ Hi ka e, t.os = s.os ∧ AllBare t.gens ∧ Un (frs X.stack) [] H Hi s.heap t.heap ∧ HOk X.prog X.w Hi t.heap ∧ (∀ a o, H a = some o → Hi a = some o) ∧ t.heap.get? A = some (seqObj "list" #[] n) ∧ Hi A = none ∧
    t.heap.get? B = some (seqObj "list" ka e) ∧ Hi B = none ∧ PySem.W.EachIs (fun v k => ∃ u, v = .int k u) ka.toList (ks.take i)
theorem key_call {k : Nat} {g : Addr} {fd : FuncData} {prm : Str} {G : VF} (F : FnOk X.prog X.w X.K X.mg X.base CX0 k g fd [prm] (spF X.K G)) (hr : Room (k + 2) X.A) (hb : Binds X.K fd [prm] []) (I : Inv X pins σ H s)
    {α : Ad} {x : V} {v : Value} {d : D} {key : Int} {S' : Sto} (rx : RelV x v) (rd : Rp H α x d) (hG : G [.dat d] [] = some (.dat (.int key), S')) {Hi : Hp} {t : Shared} (os : t.os = s.os) (bare : AllBare t.gens) (un : Un (frs X.stack) [] H Hi s.heap t.heap) (hok : HOk X.prog X.w Hi t.heap) (ext : ∀ a o, H a = some o → Hi a = some o) :
    wpAny (model X.prog X.w) X.A.in1.in1 (call (.ref g) [v]) (fun u t' => (∃ z, u = .int key z) ∧ ∃ Hj, t'.os = s.os ∧ AllBare t'.gens ∧ Un (frs X.stack) [] Hi Hj t.heap t'.heap ∧ HOk X.prog X.w Hj t'.heap ∧ ∀ a o, Hi a = some o → Hj a = some o) (fun _ _ => False) t := by
  have I' : Inv X pins σ Hi t := I.call' (ch := []) os un hok bare fun b z => absurd z (by simp)
  have rd' : Rp Hi [] x d := Rp.mono (sub_adv ext) (Rp.sub (fun a z => absurd z (by simp)) rd)
  refine wpAny_call (codeAny_mono (F.run X.A.in1.in1 X.stack t Hi ⟨[v], []⟩ [v] [x] (fun u Hj => u = .int key ∧ ∀ a o, Hi a = some o → Hj a = some o) E0 hr.in1.in1 I'.env0.in1.in1 (hb t [v] I'.kIn rfl) (.cons rx .nil)
    ⟨[.dat d], [], [], _, _, wd0, .cons rd' .nil, hG, fun u Hj αj a w r => ⟨int_of r, fun b o e => a.keep b o e (by simp)⟩⟩) fun r t' hq => ?_)
  cases r with
  | error e => exact hq
  | ok fl =>
    cases fl with
    | ret u =>
      obtain ⟨y, Hj, o1, o2, o3, o4, o5, rfl, o7⟩ := hq
      exact ⟨o5, Hj, o1.trans os, o2, o3, o4, o7⟩
    | next => exact False.elim hq
    | brk => exact False.elim hq
    | cont => exact False.elim hq
theorem srt_key {k : Nat} {g : Addr} {fd : FuncData} {prm : Str} {G : VF} (F : FnOk X.prog X.w X.K X.mg X.base CX0 k g fd [prm] (spF X.K G)) (hr : Room (k + 2) X.A) (hb : Binds X.K fd [prm] []) (I : Inv X pins σ H s)
    {α : Ad} {S : Sto} {l : Addr} {xs : List V} {its : List Value} {ds : List D} {ks : List Int} {Q : VK} (hl : s.heap.IsList l its.toArray) (rv : Vals xs its) (rl : RpL H α xs ds) (hk : keysOf G [] ds = some ks) (hL : xs.length ≤ sizeLine)
    (q : ∀ ys H' p, (∀ a o, H a = some o → H' a = some o) → RpL H' α ys (skD ds ks) → H' p = none → Q (.ref p) (upd H' p (.lst ys))) :
    wpAny (model X.prog X.w) X.A (call (.builtin "sorted") [.ref l] [(Str.ofString "key", .ref g)]) (EP X pins σ Q) X.xe s := by
  have hz : ks.length = ds.length := keysOf_len hk
  have hits : its.length = ds.length := by rw [← rv.length]; exact rl.length
  have hlen : its.length ≤ sizeLine := by rw [← rv.length]; exact hL
  have E1 := eachIs_of rv rl
  refine PySem.W.sorted_of_sort hl hlen (ksk_s1 _ _) (fun _ => ksk_l1 _ _) fun E' => ?_
  rw [ksk_t1]
  have hcp := PySem.W.copyHeap_at s.heap its
  generalize hA : s.heap.objs.size + 1 = A at hcp ⊢
  have hAs : s.heap.objs.size ≤ A := hA ▸ Nat.le_succ _
  have up0 : ∀ b o, s.heap.get? b = some o → (PySem.W.copyHeap s.heap its).get? b = some o := fun b o e => PySem.W.copyHeap_old e
  generalize hh1 : PySem.W.copyHeap s.heap its = h1 at hcp up0 ⊢
  unfold ksk_tree
  refine wpAny_bind (listItems_at hcp rfl ?_)
  refine wpAny_bind (listUpdate_at hcp rfl ?_ (by rw [List.size_toArray]; exact hlen) (Nat.zero_le _))
  obtain ⟨n, hA2⟩ : ∃ n, (h1.update A (Obj.mapSeq fun _ => (#[] : Array Value))).get? A = some (seqObj "list" #[] n) := ⟨_, get?_update_seq hcp fun _ => #[]⟩
  generalize hh2 : h1.update A (Obj.mapSeq fun _ => (#[] : Array Value)) = h2 at hA2
  have up2 : ∀ b o, s.heap.get? b = some o → h2.get? b = some o := fun b o e => by
    rw [← hh2]
    exact (Heap.get?_update_other _ _ (Nat.ne_of_gt (Nat.lt_of_lt_of_le (Heap.lt_size e) hAs))).trans (up0 b o e)
  refine wpAny_bind (seqEpoch_at hA2 rfl ?_)
  refine wpAny_bind (wpAny_newTuple ?_ (by show its.length ≤ _; exact hlen))
  refine wpAny_bind (wpAny_newList ?_ (Nat.zero_le _))
  refine wpAny_holding ?_
  generalize hh3 : h2.push { cls := .type "tuple", data := .seq its.toArray } = h3
  have up3 : ∀ b o, h2.get? b = some o → h3.get? b = some o := fun b o e => by rw [← hh3]; exact Heap.get?_push_of_some _ e
  have hsz : s.heap.objs.size ≤ h3.objs.size := by
    have z1 : h3.objs.size = h2.objs.size + 1 := by rw [← hh3]; exact Heap.size_push ..
    have z2 : A < h2.objs.size := Heap.lt_size hA2
    have z3 : h2.objs.size ≤ h3.objs.size := z1 ▸ Nat.le_succ _
    exact Nat.le_trans hAs (Nat.le_trans (Nat.le_of_lt z2) z3)
  generalize hB : h3.objs.size = B at hsz
  have hAB : A ≠ B := by
    rw [← hB]
    exact Nat.ne_of_lt (Heap.lt_size (up3 _ _ hA2))
  have frm : ∀ b ∈ frs X.stack, b < s.heap.objs.size := fun b hb => by
    obtain ⟨_, o, e, _⟩ := I.stack.mem hb
    exact Heap.lt_size e
  have tl : ∀ b o, H b = some o → b < s.heap.objs.size := fun b o e => I.hok.lt e
  have nA : ∀ {Hi : Hp} {t : Heap}, Un (frs X.stack) [] H Hi s.heap t → True := fun _ => trivial
  have J0 : KeyJ X H s ks A B n 0 { s with heap := h3.push (seqObj "list" #[] 0) } := by
    have kp : ∀ b o, s.heap.get? b = some o → (h3.push (seqObj "list" #[] 0)).get? b = some o := fun b o e => Heap.get?_push_of_some _ (up3 b o (up2 b o e))
    refine ⟨H, #[], 0, rfl, I.bare, Un.kept kp, I.hok.kept kp, fun _ _ e => e, Heap.get?_push_of_some _ (up3 _ _ hA2), I.hok.fresh hAs, ?_, I.hok.fresh hsz, .nil⟩
    rw [← hB]
    exact Heap.get?_push_size _ rfl
  generalize hs3 : ({ s with heap := h3.push (seqObj "list" #[] 0) } : Shared) = s3 at J0
  have goal3 : wpAny (model X.prog X.w) X.A.in1.in1 (ksk_rest A (.ref g) false its.toArray n (.ref B)) (fun f s' => f = .done (.ret .none) ∧ EP X pins σ Q (.ref A) s') E' s3 := by
    unfold ksk_rest
    refine wpAny_bind (wpAny_rule ?_)
    first
      | rw [List.forIn_toArray]
      | (rw [← Array.forIn_toList]; simp only [List.toList_toArray])
    refine wpAny_bind (ksk_fold (KeyJ X H s ks A B n) its 0 s3 J0 ?_ ?_)
    · rintro j u t hu ⟨Hi, ka, e, os, bare, un, hok, ext, gA, fA, gB, fB, ek⟩
      simp only [Nat.zero_add] at ek ⊢
      obtain ⟨d, hd, x, rx, rd⟩ := eachIs_at E1 hu
      have hj : j < ds.length := (List.getElem?_eq_some_iff.mp hd).1
      obtain ⟨key, hkey⟩ : ∃ key, ks[j]? = some key := ⟨ks[j]'(by omega), List.getElem?_eq_getElem (by omega)⟩
      obtain ⟨S', hG⟩ := keysOf_at hk hd hkey
      refine wpAny_bind (wpAny_attempt (wpAny_mono (key_call F hr hb I rx rd hG os bare un hok ext) (fun v t' h => ?_) fun _ _ h => h.elim))
      obtain ⟨⟨z, rfl⟩, Hj, os', bare', un', hok', ext'⟩ := h
      have fr : ∀ b, s.heap.objs.size ≤ b → b ∉ frs X.stack := fun b hb m => absurd (frm b m) (Nat.not_lt.mpr hb)
      have gA' := un'.keep A _ gA fA (fr A hAs) (by simp)
      have gB' := un'.keep B _ gB fB (fr B hsz) (by simp)
      have fA' := un'.free A _ gA fA (by simp)
      have fB' := un'.free B _ gB fB (by simp)
      obtain ⟨c2, hc2⟩ : ∃ c2, (t'.heap.update B (Obj.mapSeq (·.push (.int key z)))).get? B = some (seqObj "list" (ka.push (.int key z)) c2) := ⟨_, get?_update_seq gB' (·.push (.int key z))⟩
      have elen : ka.size = j := by
        have h1 := eachIs_len ek
        rw [Array.length_toList, List.length_take] at h1
        omega
      have kz : ka.size ≤ sizeLine := by omega
      refine wpAny_bind (listUpdate_at gB' rfl ?_ kz (Nat.le_trans (Nat.le_of_eq (Array.size_push ..)) (Nat.succ_le_succ kz)))
      have oth : ∀ b o, b ≠ B → t'.heap.get? b = some o → (t'.heap.update B (Obj.mapSeq (·.push (.int key z)))).get? b = some o := fun b o hb q => (Heap.get?_update_other _ _ (Ne.symm hb)).trans q
      refine wpAny_pure ⟨rfl, Hj, ka.push (.int key z), c2, os', bare', ?_, hok_same hok' (fun b o w hw q => oth b o (fun y => by rw [y, fB'] at hw; cases hw) q), fun a o q => ext' a o (ext a o q), oth A _ hAB gA', fA', hc2, fB', ?_⟩
      · have u2 := un.trans un'
        have old : ∀ {b o}, s.heap.get? b = some o → b ≠ B := fun e => Nat.ne_of_lt (Nat.lt_of_lt_of_le (Heap.lt_size e) hsz)
        exact {
          keep := fun b o e n f x => oth b o (old e) (u2.keep b o e n f x)
          slot := fun b o e n f x => (u2.slot b o e n f x).imp fun sl q => oth b _ (old e) q
          free := u2.free
          there := fun b o e x => (u2.there b o e x).imp fun o' q => oth b _ (old e) q
          tups := u2.tups
          frzs := u2.frzs
          tbls := u2.tbls }
      · have e1 : ks.take (j + 1) = ks.take j ++ [key] := by rw [List.take_add_one, hkey]; rfl
        rw [e1, show (ka.push (.int key z)).toList = ka.toList ++ [.int key z] by simp]
        exact eachIs_snoc ⟨z, rfl⟩ ek
    · rintro t ⟨Hi, ka, e, os, bare, un, hok, ext, gA, fA, gB, fB, ek⟩
      have e0 : ks.take (0 + its.length) = ks := List.take_of_length_le (by omega)
      rw [e0] at ek
      refine wpAny_bind (listItems_at gB rfl ?_)
      have kl : ka.size = its.length := by
        have h1 := eachIs_len ek
        rw [Array.length_toList] at h1
        omega
      have hid : PySem.W.KeepsBut A (PySem.W.hideAll t.heap [B]) t.heap := fun b o _ q => PySem.W.of_hideAll [B] q
      have rk : PySem.W.EachIs (fun v d => ∃ as, Reads t.heap v d as) ka.toList (ks.map PyData.int) := PySem.W.each_map (R := fun v d => ∃ as, Reads t.heap v d as) PyData.int (eachIs_imp (fun v k ⟨u, hu⟩ => ⟨[], by subst hu; exact .int _ _⟩) ek)
      have room := hr.units0
      refine PySem.W.keyH_end (κ := PySem.W.dataKind t.heap (ks.map PyData.int)) hid (PySem.W.hideAll_none [B] (List.mem_singleton.mpr rfl)) gB gA (Ne.symm hAB)
        (PySem.W.SortsAt.data (s := t) rk (alike_keys ks) (sort_keys ks) fun d hd => ?_) kl hlen fun h' tk c kp gd => ⟨rfl, ?_⟩
      · obtain ⟨i, _, rfl⟩ := List.mem_map.mp hd
        have := hr.units
        show X.A.units + 1 + 1 + 0 < cLine
        omega
      · have ko : PySem.W.KeyedOut false (ks.map PyData.int) its (PySem.W.sortVals (PySem.W.dataKind t.heap (ks.map PyData.int)) false ka.toList its) := ⟨t.heap, ka.toList, alike_keys ks, rfl, rk⟩
        generalize PySem.W.sortVals (PySem.W.dataKind t.heap (ks.map PyData.int)) false ka.toList its = out at gd ko
        have E2 := eachIs_zip E1 hz
        rw [← zip_keys hz] at ko
        have eo := eachIs_fst (R := fun u d => ∃ x, L2.RelV x u ∧ Rp H α x d) (PySem.W.keyedOut_each (R := fun u b => ∃ x, L2.RelV x u ∧ Rp H α x b.1) (fun b : D × Int => PyData.int b.2) ko E2)
        obtain ⟨ys, r1, r2⟩ := of_eachIs eo
        have ol : out.length = its.length := PySem.W.KeyedOut.length ko (by simp [hz, hits])
        have yl : ys.length ≤ sizeLine := by rw [r1.length, ol]; exact hlen
        have pass : ∀ b o, b ≠ A → b ≠ B → t.heap.get? b = some o → h'.get? b = some o := fun b o h1 h2 q => kp b o h1 (PySem.W.hideAll_get [B] q (by simpa using h2))
        have hok2 : HOk X.prog X.w Hi h' := hok_same hok fun b o w hw q => pass b o (fun y => by rw [y, fA] at hw; cases hw) (fun y => by rw [y, fB] at hw; cases hw) q
        have un2 : Un (frs X.stack) [] H (upd Hi A (.lst ys)) s.heap h' := un_tail un tl hAs hsz pass
        have hok3 : HOk X.prog X.w (upd Hi A (.lst ys)) h' := hok_adopt hok2 fA ⟨yl, out, c, r1, gd⟩
        exact ⟨.ref A, _, I.call' (ch := []) (s' := { t with heap := h', toks := tk }) os un2 hok3 bare (fun b z => absurd z (by simp)), rfl, q ys Hi A ext (RpL.mono (sub_adv ext) r2) fA⟩
  exact goal3
end

theorem pe_own {X : Cx} {x : Str} {g : Addr} {pos : Pos} (hm : X.mg x = some (.ref g)) (hg : Gl X x := by rfl) (hd : (x == ("__debug__" : Str)) = false := by decide) : PE X (.Name x pos) (tC (.ref g)) :=
  ⟨fun pins s σ H Q I h => ld_glob I hg hm ⟨.ref g, H, I, rfl, h⟩ hd⟩
def rSrtK (K : PySem.W.Frag) (G : VF) (g : Addr) : List V → List V → Hp → VK → Prop := fun vs zs H Q => ∃ l xs ds ks α, vs = [.ref l] ∧ zs = [.ref g] ∧ SqL K H l xs ∧ xs.length ≤ sizeLine ∧ RpL H α xs ds ∧ keysOf G [] ds = some ks ∧
  ∀ ys H' p, (∀ a o, H a = some o → H' a = some o) → RpL H' α ys (skD ds ks) → H' p = none → Q (.ref p) (upd H' p (.lst ys))
theorem cr_srtK {X : Cx} {k : Nat} {g : Addr} {fd : FuncData} {prm : Str} {G : VF} (F : FnOk X.prog X.w X.K X.mg X.base CX0 k g fd [prm] (spF X.K G)) (hr : Room (k + 2) X.A) (hb : Binds X.K fd [prm] []) : CallRK X (.builtin "sorted") [Str.ofString "key"] (rSrtK X.K G g) := by
  intro pins s σ H vs zs us ws Q I rv rz h
  obtain ⟨l, xs, ds, ks, α, rfl, rfl, hq, hL, rl, hk, q⟩ := h
  cases rv with
  | cons r1 rv =>
    cases rv
    cases rz with
    | cons r2 rz =>
      cases rz
      cases r1
      cases r2
      obtain ⟨its, rvs, pl, _⟩ := I.list hq
      exact srt_key (S := []) F hr hb I pl.isList rvs rl hk hL q
def eSrtK (G : VF) (f : AF) : EF := fun ρ S => bd (f ρ S) fun x => bd (one1 x.1) fun p => bd (lsqOf p x.2) fun ds => bd (keysOf G [] ds) fun ks => some (.obj x.2.length, x.2 ++ [.lst (skD ds ks)])
theorem skD_len {ds : List D} {ks : List Int} (h : ks.length = ds.length) : (skD ds ks).length = ds.length := by
  unfold skD
  rw [List.length_map, List.length_mergeSort, List.length_zip, h, Nat.min_self]
theorem me_srtK {X : Cx} {k : Nat} {g : Addr} {fd : FuncData} {prm x : Str} {G : VF} {e : Expr} {f : AF} {p pos kpos npos : Pos} (F : FnOk X.prog X.w X.K X.mg X.base CX0 k g fd [prm] (spF X.K G)) (hr : Room (k + 2) X.A) (hb : Binds X.K fd [prm] [])
    (ha : PA X [e] (tA X.K f)) (hx : X.mg x = some (.ref g)) (hm : X.mg "sorted" = none) (hv : bootBuiltins ("sorted" : Str) = some (.builtin "sorted") := by rfl) (hg : Gl X x := by rfl) (hgs : Gl X "sorted" := by rfl) (hd : (x == ("__debug__" : Str)) = false := by decide)
    (he : backTo pos (starEach [e] X.env) = (false, eval e X.env) :: backTo pos (starEach [] X.env) := by rfl) (hpl : (backTo pos (starEach [e] X.env)).any (·.1) = false := by rfl) :
    PE X (.Call (.Name "sorted" p) [e] [⟨some "key", .Name x npos, kpos⟩] pos) (tE X.K (eSrtK G f)) :=
  (pe_callBK (cr_srtK F hr hb) hgs hm hv ha (pk_cons (pe_own hx hg hd) pk_nil) (he := he) (hpl := hpl)).imp fun σ H Q => by
  rintro ⟨ρ, S, α, z, S', w, s, e, kk⟩
  obtain ⟨⟨ps, S1⟩, e1, z1⟩ := bd_of e
  obtain ⟨q, e2, z2⟩ := bd_of z1
  obtain ⟨ds, e3, z3⟩ := bd_of z2
  obtain ⟨ks, e4, z4⟩ := bd_of z3
  clear e z1 z2 z3
  have e2' := one1_of e2
  dsimp only at e2' e3 z4
  subst e2'
  cases z4
  refine ⟨ρ, S, α, _, S1, w, s, e1, fun vs H1 α1 a1 w1 r1 => ?_⟩
  cases r1 with
  | cons r rr =>
    cases rr
    obtain ⟨l, us, rfl, g1, g2, g3⟩ := lsqOf_at w1 r e3
    refine ⟨l, us, ds, ks, α1, rfl, rfl, g1, g2, g3, e4, fun ys H' p ext ry hp => ?_⟩
    exact (kk.mono (a1.trans (sub_adv ext))).newLst (sub_wd ext w1) hp (by rw [ry.length, skD_len (keysOf_len e4), ← g3.length]; exact g2) ry
end Me
set_option Elab.async false
set_option linter.all false
set_option maxRecDepth 100000
set_option maxHeartbeats 1000000
/-! Me13: lists of lists that a loop fills. -/
namespace Me
open PySem PySem.Spec PyProof.Rows L2
variable {K : PySem.W.Frag}

/-- found[x].append(y) -/
def tRow (fi xi yi : Nat) : TS := fun E σ H => ∃ a us i b ws v, σ[fi]? = some (some (.ref a)) ∧ σ[xi]? = some (some (.int i)) ∧ σ[yi]? = some (some v) ∧ H a = some (.lst us) ∧ atI us i = some (.ref b) ∧ H b = some (.lst ws) ∧ ws.length < sizeLine ∧ E.nx σ (upd H b (.lst (ws ++ [v])))
def tRows (fi : Nat) : List (Nat × Nat) → TS
  | [] => fun E σ H => E.nx σ H
  | p :: ps => fun E σ H => tRow fi p.1 p.2 { E with nx := fun σ H => tRows fi ps E σ H } σ H
section
variable {X : Cx} {fi xi yi : Nat} {y x v : Str} {p1 p2 p3 p4 p5 p6 : Pos}
theorem ms_row (hfi : X.N[fi]? = some y := by rfl) (hxi : X.N[xi]? = some x := by rfl) (hyi : X.N[yi]? = some v := by rfl) (hf : Vis X.env.scope y := by first | exact Or.inl rfl | exact Or.inr (Or.inl rfl) | exact Or.inr (Or.inr rfl)) (hx : Vis X.env.scope x := by first | exact Or.inl rfl | exact Or.inr (Or.inl rfl) | exact Or.inr (Or.inr rfl)) (hv : Vis X.env.scope v := by first | exact Or.inl rfl | exact Or.inr (Or.inl rfl) | exact Or.inr (Or.inr rfl))
    (d1 : (y == ("__debug__" : Str)) = false := by decide) (d2 : (x == ("__debug__" : Str)) = false := by decide) (d3 : (v == ("__debug__" : Str)) = false := by decide) (c1 : (y == ("__classdict__" : Str)) = false := by decide) (c2 : (x == ("__classdict__" : Str)) = false := by decide) (c3 : (v == ("__classdict__" : Str)) = false := by decide)
    (hline : (p4.endLine == p6.line) = true := by rfl) :
    PS X (.Expr (.Call (.Attribute (.Subscript (.Name y p1) (.Name x p2) p3) "append" p4) [.Name v p5] [] p6) p6) (tRow fi xi yi) := by
  refine PS.imp (ps_expr (pe_bm PySem.F.plainAttrs_list PySem.F.slot_list_append PySem.F.type_list_append mt_append (pe_ix ix_list (pe_var hfi hf d1 c1) (pe_var hxi hx d2 c2) (fun _ _ => rfl)) (pa_cons (pe_var hyi hv d3 c3) pa_nil) (hline := hline))) fun E σ H => ?_
  rintro ⟨a, us, i, b, ws, z, h1, h2, h3, h4, h5, h6, h7, q⟩
  exact ⟨_, h1, _, h2, a, us, i, _, rfl, rfl, SqL.of h4, h5, .inl ⟨rfl, ws, SqL.of h6⟩, z, h3, b, ws, z, rfl, rfl, h6, h7, q⟩
end

theorem mss_row1 {X : Cx} {fi : Nat} {st : Stmt} {p : Nat × Nat} (h : PS X st (tRow fi p.1 p.2)) : PSs X [st] (tRows fi [p]) :=
  (pss_cons h pss_nil).imp fun _ _ _ q => q
theorem mss_row {X : Cx} {fi : Nat} {st : Stmt} {rest : List Stmt} {p : Nat × Nat} {ps : List (Nat × Nat)} (h : PS X st (tRow fi p.1 p.2)) (hr : PSs X rest (tRows fi ps)) : PSs X (st :: rest) (tRows fi (p :: ps)) :=
  (pss_cons h hr).imp fun _ _ _ q => q
/-- the world while rows are filled -/
structure Rw (H : Hp) (α : Ad) (S1 : Sto) (p : Addr) (bs : List Addr) (rows : List (List D)) : Prop where
  wd : Wd H α (S1 ++ .raw (.lst (bs.map V.ref)) :: rows.map MO.lst)
  len : bs.length = rows.length
  at0 : α[S1.length]? = some (some p)
  at_ : ∀ (j : Nat) (b : Addr), bs[j]? = some b → α[S1.length + 1 + j]? = some (some b)
theorem Rw.sto {S1 : Sto} {m : MO} {ms : List MO} {j : Nat} : (S1 ++ m :: ms)[S1.length + 1 + j]? = ms[j]? := by
  rw [List.getElem?_append_right (by omega), show S1.length + 1 + j - S1.length = j + 1 by omega]
  rfl
theorem Rw.sto0 {S1 : Sto} {m : MO} {ms : List MO} : (S1 ++ m :: ms)[S1.length]? = some m := by
  rw [List.getElem?_append_right (Nat.le_refl _), Nat.sub_self]
  rfl
theorem live_at {H0 H : Hp} {α0 α : Ad} {S : Sto} {k : Nat} {a : Addr} {m : MO} (w : Wd H α S) (e : Adv H0 α0 H α) (h0 : α0[k]? = some (some a)) (hs : S[k]? = some m) (hm : m ≠ .dead) : α[k]? = some (some a) := by
  have hk0 : k < α0.length := (List.getElem?_eq_some_iff.mp h0).1
  have hk : k < α.length := Nat.lt_of_lt_of_le hk0 e.len
  have e1 : α[k]? = some α[k] := List.getElem?_eq_getElem hk
  cases hc : α[k] with
  | none =>
    rw [hc] at e1
    have := w.dd k e1
    rw [hs] at this
    cases this
    exact absurd rfl hm
  | some b =>
    rw [hc] at e1
    have := e.pre k b hk0 e1
    rw [h0] at this
    cases this
    exact e1
theorem Rw.adv {H H' : Hp} {α α' : Ad} {S1 : Sto} {p : Addr} {bs : List Addr} {rows : List (List D)} (r : Rw H α S1 p bs rows) (e : Adv H α H' α') (w : Wd H' α' (S1 ++ .raw (.lst (bs.map V.ref)) :: rows.map MO.lst)) : Rw H' α' S1 p bs rows where
  wd := w
  len := r.len
  at0 := live_at w e r.at0 Rw.sto0 (by intro z; cases z)
  at_ := fun j b h => by
    have hj : j < rows.length := by rw [← r.len]; exact (List.getElem?_eq_some_iff.mp h).1
    exact live_at w e (r.at_ j b h) (by rw [Rw.sto, List.getElem?_map, List.getElem?_eq_getElem hj]; rfl) (by intro z; cases z)
theorem Rw.outer {H : Hp} {α : Ad} {S1 : Sto} {p : Addr} {bs : List Addr} {rows : List (List D)} (r : Rw H α S1 p bs rows) : H p = some (.lst (bs.map V.ref)) :=
  r.wd.at_ _ _ _ r.at0 Rw.sto0
theorem Rw.row {H : Hp} {α : Ad} {S1 : Sto} {p b : Addr} {bs : List Addr} {rows : List (List D)} {j : Nat} {ds : List D} (r : Rw H α S1 p bs rows) (hb : bs[j]? = some b) (hj : rows[j]? = some ds) : ∃ vs, H b = some (.lst vs) ∧ vs.length ≤ sizeLine ∧ RpL H α vs ds :=
  r.wd.at_ _ _ (.lst ds) (r.at_ j b hb) (by rw [Rw.sto, List.getElem?_map, hj]; rfl)
theorem Rw.put {H : Hp} {α : Ad} {S1 : Sto} {p b : Addr} {bs : List Addr} {rows : List (List D)} {j : Nat} {ds : List D} {vs : List V} (r : Rw H α S1 p bs rows) (hb : bs[j]? = some b) (hl : vs.length ≤ sizeLine) (rv : RpL H α vs ds) :
    Adv H α (upd H b (.lst vs)) α ∧ Rw (upd H b (.lst vs)) α S1 p bs (rows.set j ds) := by
  have hk := r.at_ j b hb
  have w2 := r.wd.write (o := .lst vs) hk (m := .lst ds) ⟨vs, upd_same, hl, RpL.mono (Adv.write hk) rv⟩
  have e : (S1 ++ MO.raw (.lst (bs.map V.ref)) :: rows.map MO.lst).set (S1.length + 1 + j) (.lst ds) = S1 ++ MO.raw (.lst (bs.map V.ref)) :: (rows.set j ds).map MO.lst := by
    rw [List.set_append_right _ _ (by omega), show S1.length + 1 + j - S1.length = j + 1 by omega, List.set_cons_succ, List.map_set]
  rw [e] at w2
  exact ⟨Adv.write hk, w2, by rw [List.length_set]; exact r.len, r.at0, r.at_⟩
/-- each (x, y): row x gets y -/
def rowsStep (ρ : Ev) : List (Nat × Nat) → List (List D) → Option (List (List D))
  | [], rows => some rows
  | p :: ps, rows => bd (ρ.getD p.1 none) fun q => bd (asInt q) fun i => bd (ρ.getD p.2 none) fun r => bd (asDat r) fun d => bd (ixN rows.length i) fun j => bd rows[j]? fun ds => if ds.length < lim then rowsStep ρ ps (rows.set j (ds ++ [d])) else none
theorem getD_at {ρ : Ev} {i : Nat} {p : P} (h : ρ.getD i none = some p) : ρ[i]? = some (some p) := by
  rw [List.getD_eq_getElem?_getD] at h
  cases hh : ρ[i]? with
  | none => rw [hh] at h; cases h
  | some q => rw [hh] at h; exact congrArg some h
theorem rows_run {fi : Nat} {p : Addr} {bs : List Addr} {S1 : Sto} {σ : L2.St} {ρ : Ev} {E : Ends} (hf : σ[fi]? = some (some (.ref p))) : ∀ (ps : List (Nat × Nat)) {rows rows' : List (List D)} {H : Hp} {α : Ad}, Rw H α S1 p bs rows → Sl K H α σ ρ → rowsStep ρ ps rows = some rows' →
    (∀ H' α', Adv H α H' α' → Rw H' α' S1 p bs rows' → E.nx σ H') → tRows fi ps E σ H
  | [], rows, rows', H, α, r, s, e, k => by
    cases e
    exact k H α .refl r
  | (x, y) :: ps, rows, rows', H, α, r, s, e, k => by
    obtain ⟨q1, e1, z1⟩ := bd_of e
    obtain ⟨i, e2, z2⟩ := bd_of z1
    obtain ⟨q2, e3, z3⟩ := bd_of z2
    obtain ⟨d, e4, z4⟩ := bd_of z3
    obtain ⟨j, e5, z5⟩ := bd_of z4
    obtain ⟨ds, e6, z6⟩ := bd_of z5
    clear e z1 z2 z3 z4 z5
    split at z6
    case isFalse => cases z6
    case isTrue hl =>
    cases asInt_of e2
    cases asDat_of e4
    obtain ⟨v1, h1, r1⟩ := s.at_ _ _ (getD_at e1)
    obtain ⟨v2, h2, r2⟩ := s.at_ _ _ (getD_at e3)
    cases int_of r1
    have hj : j < bs.length := by rw [r.len]; exact (List.getElem?_eq_some_iff.mp e6).1
    have hb : bs[j]? = some bs[j] := List.getElem?_eq_getElem hj
    obtain ⟨vs, g1, g2, g3⟩ := r.row hb e6
    have hat : atI (bs.map V.ref) i = some (.ref bs[j]) := by
      unfold atI
      rw [List.length_map, r.len, e5]
      show (bs.map V.ref)[j]? = _
      rw [List.getElem?_map, hb]
      rfl
    have hz : vs.length < sizeLine := by rw [g3.length, lim_eq]; exact hl
    obtain ⟨a2, rw2⟩ := r.put (vs := vs ++ [v2]) (ds := ds ++ [d]) hb (by rw [List.length_append, List.length_singleton]; exact hz) (g3.append (.cons r2 .nil))
    exact ⟨p, bs.map V.ref, i, bs[j], vs, v2, hf, h1, h2, r.outer, hat, g1, hz, rows_run hf ps rw2 (s.mono a2) z6 fun H' α' a3 r3 => k H' α' (a2.trans a3) r3⟩

theorem Wd.recast {H : Hp} {α : Ad} {S : Sto} (w : Wd H α S) {k : Nat} {a : Addr} {m : MO} (hk : α[k]? = some (some a)) (r : MRep H α a m) : Wd H α (S.set k m) where
  len := by rw [List.length_set]; exact w.len
  inj := w.inj
  at_ := fun j b m' hj hs => by
    by_cases e : k = j
    · subst e
      rw [hk] at hj
      cases hj
      have hl : k < S.length := by rw [← w.len]; exact (List.getElem?_eq_some_iff.mp hk).1
      rw [List.getElem?_set_self hl] at hs
      cases hs
      exact r
    · rw [List.getElem?_set_ne e] at hs
      exact w.at_ j b m' hj hs
  dd := fun j hj => by
    by_cases e : k = j
    · subst e
      rw [hk] at hj
      cases hj
    · rw [List.getElem?_set_ne e]
      exact w.dd j hj
theorem Sl.hide {H : Hp} {α : Ad} {σ : L2.St} {ρ : Ev} (s : Sl K H α σ ρ) (i : Nat) (v : Option V) : Sl K H α (σ.set i v) (ρ.set i none) where
  len := by rw [List.length_set, List.length_set]; exact s.len
  at_ := fun j p h => by
    by_cases e : i = j
    · subst e
      rw [List.getElem?_set] at h
      split at h
      · split at h
        · cases h
        · cases h
      · contradiction
    · rw [List.getElem?_set_ne e] at h ⊢
      exact s.at_ j p h
theorem Rw.grow {H : Hp} {α : Ad} {S1 : Sto} {p q : Addr} {bs : List Addr} {rows : List (List D)} (r : Rw H α S1 p bs rows) (hq : H q = none) :
    Adv H α (upd (upd H q (.lst [])) p (.lst (bs.map V.ref ++ [.ref q]))) (α ++ [some q]) ∧ Rw (upd (upd H q (.lst [])) p (.lst (bs.map V.ref ++ [.ref q]))) (α ++ [some q]) S1 p (bs ++ [q]) (rows ++ [[]]) := by
  have w1 := r.wd.newObj (o := .lst []) hq (m := .lst []) ⟨[], upd_same, Nat.zero_le _, .nil⟩
  have a1 := Adv.newObj (o := .lst []) r.wd hq
  have hl := r.wd.len
  rw [List.length_append, List.length_cons, List.length_map] at hl
  have hk : (α ++ [some q])[S1.length]? = some (some p) := by rw [List.getElem?_append_left (by omega)]; exact r.at0
  have w2 := w1.write (o := .lst (bs.map V.ref ++ [.ref q])) hk (m := .raw (.lst (bs.map V.ref ++ [V.ref q]))) (show upd _ p _ p = some _ from upd_same)
  have e : ((S1 ++ MO.raw (.lst (bs.map V.ref)) :: rows.map MO.lst) ++ [MO.lst []]).set S1.length (.raw (.lst (bs.map V.ref ++ [.ref q]))) = S1 ++ MO.raw (.lst ((bs ++ [q]).map V.ref)) :: (rows ++ [[]]).map MO.lst := by
    rw [List.append_assoc, List.set_append_right _ _ (Nat.le_refl _), Nat.sub_self, List.cons_append, List.set_cons_zero, List.map_append, List.map_append]
    rfl
  rw [e] at w2
  refine ⟨a1.trans (Adv.write hk), w2, by rw [List.length_append, List.length_append, r.len]; rfl, hk, fun j b hj => ?_⟩
  by_cases hb : j < bs.length
  · rw [List.getElem?_append_left hb] at hj
    have h := r.at_ j b hj
    rw [List.getElem?_append_left (List.getElem?_eq_some_iff.mp h).1]
    exact h
  · rw [List.getElem?_append_right (by omega)] at hj
    have hj0 : j - bs.length = 0 := by
      have := (List.getElem?_eq_some_iff.mp hj).1
      simp at this
      omega
    rw [hj0] at hj
    cases hj
    have hlen : α.length = S1.length + 1 + j := by rw [r.len] at hb hj0; omega
    rw [← hlen, List.getElem?_append_right (Nat.le_refl _), Nat.sub_self]
    rfl
/-- the loop; ia, ib the target's names -/
def pairG (ia ib : Nat) : GF := gTp (gsCons (gNm ia) (gsCons (gNm ib) gsNil))
def rowsLoop (ia ib : Nat) (ps : List (Nat × Nat)) : List D → Ev → List (List D) → Option (Ev × List (List D))
  | [], ρ, rows => some (ρ, rows)
  | d :: ds, ρ, rows => bd (pairG ia ib d ρ) fun ρ1 => bd (rowsStep ρ1 ps rows) fun rows1 => rowsLoop ia ib ps ds ρ1 rows1
def sRows (fi : Nat) (ws0 : WF) (src : Ev → Option (List D)) (ia ib : Nat) (ps : List (Nat × Nat)) : SF := fun ρ S => bd (ws0 ρ S) fun x => if x.1.1.isNone = true ∧ fi < ρ.length then bd (src (ρ.set fi none)) fun ds => bd (rowsLoop ia ib ps ds (ρ.set fi none) (List.replicate x.1.2.length [])) fun r => some (.nx, r.1.set fi (some (.obj x.2.length)), x.2 ++ [.lst (r.2.map .list)]) else none
theorem pairG_old {ia ib : Nat} {d : D} {ρ ρ' : Ev} (h : pairG ia ib d ρ = some ρ') {j : Nat} {q : P} (hq : ρ'[j]? = some (some q)) : (∃ e, q = .dat e) ∨ ρ[j]? = some (some q) := by
  match d, h with
  | .tuple [x, y], h =>
    have h' : some ((ρ.set ia (some (.dat x))).set ib (some (.dat y))) = some ρ' := h
    cases h'
    rw [List.getElem?_set] at hq
    split at hq
    · split at hq
      · cases hq; exact .inl ⟨_, rfl⟩
      · cases hq
    · rw [List.getElem?_set] at hq
      split at hq
      · split at hq
        · cases hq; exact .inl ⟨_, rfl⟩
        · cases hq
      · exact .inr hq
  | .tuple [], h => cases h
  | .tuple [_], h => cases h
  | .tuple (_ :: _ :: _ :: _), h => cases h
  | .none, h => cases h
  | .bool _, h => cases h
  | .int _, h => cases h
  | .str _, h => cases h
  | .list _, h => cases h
  | .dict _, h => cases h

theorem rowsStep_len {ρ : Ev} : ∀ {ps : List (Nat × Nat)} {rows rows' : List (List D)}, rowsStep ρ ps rows = some rows' → rows'.length = rows.length
  | [], rows, rows', e => by cases e; rfl
  | p :: ps, rows, rows', e => by
    obtain ⟨q1, e1, z1⟩ := bd_of e
    obtain ⟨i, e2, z2⟩ := bd_of z1
    obtain ⟨q2, e3, z3⟩ := bd_of z2
    obtain ⟨d, e4, z4⟩ := bd_of z3
    obtain ⟨j, e5, z5⟩ := bd_of z4
    obtain ⟨ds, e6, z6⟩ := bd_of z5
    split at z6
    · rw [rowsStep_len z6, List.length_set]
    · cases z6
theorem FzL.sub {H : Hp} {α α' : Ad} (e : ∀ a, some a ∈ α' → some a ∈ α) {a : Addr} {xs : List V} : FzL K H α a xs → FzL K H α' a xs
  | .inl ⟨o, h, n⟩ => .inl ⟨o, h, fun m => n (e _ m)⟩
  | .inr h => .inr h
theorem rl_rows {H : Hp} {α : Ad} : ∀ {bs : List Addr} {rows : List (List D)}, bs.length = rows.length → (∀ (j : Nat) (b : Addr) (rs : List D), bs[j]? = some b → rows[j]? = some rs → Rp H α (.ref b) (.list rs)) → RpL H α (bs.map V.ref) (rows.map .list)
  | [], [], _, _ => .nil
  | b :: bs, r :: rows, h, k => .cons (k 0 b r rfl rfl) (rl_rows (by simpa using h) fun j c rs h1 h2 => k (j + 1) c rs h1 h2)
  | [], _ :: _, h, _ => by simp at h
  | _ :: _, [], h, _ => by simp at h
section
variable {X : Cx} {fi : Nat} {y : Str} {py : Pos} {tg0 iter0 tg iter : Expr} {scope : Scope} {lp pos spos fpos : Pos} {body rest : List Stmt} {ws0 ws : WF} {j0 ia ib : Nat} {src : Ev → Option (List D)} {ps : List (Nat × Nat)} {h : SF}
theorem mss_rows (fi : Nat) (own : List (Str × Nat)) (src : Ev → Option (List D)) (hN : X.N.Nodup) (hi0 : PI X tg0 iter0 (tI X.K ws0)) (ok : BlkOk X.N X.env.scope scope own)
    (hg0 : OfBlk X scope fun Y => PG Y tg0 (tG X.K [j0] (gNm j0))) (hsw : swapsWith (.ListComp (.List [] lp) [⟨tg0, iter0, [], 0⟩] scope pos) (some (.Name y py)) spos.line X.env = pure true)
    (hp : PassesOwn (model X.prog X.w) X.A X.env X.xe) (hi : PI X tg iter (tI X.K ws)) (hsrc : ∀ ρ S ds, src ρ = some ds → ws ρ S = some ((none, ds), S)) (hg : PG X tg (tG X.K [ia, ib] (pairG ia ib))) (hb : PSs X body (tRows fi ps)) (hr : PSs X rest (tS X.K h))
    (hy : X.N[fi]? = some y := by rfl) (hyl : X.env.scope.names.lookup y = some .local := by rfl) (hv : ∀ i ∈ [j0], i ∈ own.map (·.2) := by decide) (hd : fi ∉ [ia, ib] := by decide) (hc : X.calm = true := by rfl) (hs0 : ∀ x, foldedSetIterable iter0 X.env x = pure x := by intro _; rfl) (hs : ∀ x, foldedSetIterable iter X.env x = pure x := by intro _; rfl) :
    PSs X (.Assign [.Name y py] (.ListComp (.List [] lp) [⟨tg0, iter0, [], 0⟩] scope pos) spos :: .For tg iter body [] fpos :: rest) (tS X.K (sSeq (sRows fi ws0 src ia ib ps) h)) := by
  refine (pss_cons (ps_setLc hc hN hy hyl hsw hi0 ok hg0 (fun _ _ _ _ _ => pts_nil) (fun _ _ _ _ _ => pe_lst pa_nil) hs0) (pss_cons (ps_for hp hc hi hg hb hs) hr)).imp fun E σ H => ?_
  rintro ⟨ρ, S, α, r, w, s, e, k⟩
  obtain ⟨r0, e0, z0⟩ := bd_of e
  obtain ⟨⟨⟨sk, ds0⟩, S1⟩, e1, z1⟩ := bd_of e0
  dsimp only at z1
  split at z1
  case isFalse => cases z1
  case isTrue hsk =>
  obtain ⟨ds, e2, z2⟩ := bd_of z1
  obtain ⟨⟨ρn, rows⟩, e3, z3⟩ := bd_of z2
  clear e e0 z1 z2
  cases sk with
  | some _ => exact absurd hsk.1 (by simp)
  | none =>
  cases z3
  have z0 : h (ρn.set fi (some (.obj S1.length))) (S1 ++ [.lst (rows.map .list)]) = some r := z0
  refine ⟨ρ, S, α, none, ds0, S1, w, s, e1, fun J H1 α1 a1 w1 sr _ hl p hp0 => ?_⟩
  refine ⟨fun i m H2 => m + i = ds0.length ∧ ∃ bs α2, bs.length = i ∧ Adv H1 α1 H2 α2 ∧ Rw H2 α2 S1 p bs (List.replicate i []), ⟨ds0.length, rfl, [], α1 ++ [some p], rfl, Adv.newObj w1 hp0, ?_⟩, ?_⟩
  · refine ⟨w1.newObj hp0 (m := .raw (.lst [])) (show upd _ p _ p = some _ from upd_same), rfl, ?_, fun j b hj => by simp at hj⟩
    rw [← w1.len, List.getElem?_append_right (Nat.le_refl _), Nat.sub_self]
    rfl
  rintro i m H2 ⟨hm, bs, α2, hbl, a2, rw2⟩
  by_cases hd0 : i < ds0.length
  · have hdi : ds0[i]? = some ds0[i] := List.getElem?_eq_getElem hd0
    refine .inr ⟨sr.go i H2 α2 _ _ a2 rw2.wd trivial hdi, fun H' => ∃ bs α2, bs.length = i + 1 ∧ Adv H1 α1 H' α2 ∧ Rw H' α2 S1 p bs (List.replicate (i + 1) []), fun H' q => ⟨m - 1, by omega, by omega, q⟩, fun x H' yl => ?_⟩
    obtain ⟨a3, w3, r3⟩ := sr.yld i H2 α2 _ _ x H' a2 rw2.wd trivial hdi yl
    have rw3 := rw2.adv a3 w3
    refine ⟨wipeE ρ (own.map (·.2)), _, α2, ds0[i], _, w3, (s.wipes _).mono (a1.trans (a2.trans a3)), r3, rfl, fun σ3 s3 ag => ⟨wipe_agr ag hv, ?_⟩⟩
    simp only [tYes, if_true]
    refine ⟨Nat.zero_le _, fun q hq => ⟨bs.map V.ref, ?_, ?_, ?_⟩⟩
    · rw [upd_ne (fun z => by rw [← z, rw3.outer] at hq; cases hq)]
      exact rw3.outer
    · rw [List.length_map, hbl]; omega
    · obtain ⟨a4, rw4⟩ := rw3.grow hq
      refine ⟨bs ++ [q], α2 ++ [some q], by rw [List.length_append, hbl]; rfl, a2.trans (a3.trans a4), ?_⟩
      rw [List.replicate_succ']
      exact rw4
  · refine .inl ⟨sr.stop i H2 α2 _ a2 rw2.wd trivial (Nat.le_of_not_lt hd0), ?_⟩
    have him : i = ds0.length := by omega
    rw [him] at hbl rw2
    have sl2 : Sl X.K H2 α2 (σ.set fi (some (.ref p))) (ρ.set fi none) := (s.mono (a1.trans a2)).hide fi _
    refine ⟨ρ.set fi none, _, α2, none, ds, _, rw2.wd, sl2, hsrc _ _ _ e2, fun J2 H3 α3 a3 w3 sr3 _ hl3 => ?_⟩
    have rw3 := rw2.adv a3 w3
    have hfi : fi < σ.length := by rw [s.len]; exact hsk.2
    refine ⟨fun i m σ' H' => m + i = ds.length ∧ ∃ ρ' rows' α', Adv H3 α3 H' α' ∧ Rw H' α' S1 p bs rows' ∧ Sl X.K H' α' σ' ρ' ∧ σ'[fi]? = some (some (.ref p)) ∧ rowsLoop ia ib ps (ds.drop i) ρ' rows' = some (ρn, rows) ∧ ∀ (j : Nat) (q : P), ρ'[j]? = some (some q) → (∃ d, q = P.dat d) ∨ ρ[j]? = some (some q),
      ⟨ds.length, rfl, _, _, α3, .refl, rw3, sl2.mono a3, by rw [List.getElem?_set_self hfi], e3, fun j q hj => .inr ?_⟩, ?_⟩
    · rw [List.getElem?_set] at hj
      split at hj
      · split at hj
        · cases hj
        · cases hj
      · exact hj
    rintro i m σ4 H4 ⟨hm4, ρ4, rows4, α4, a4, rw4, s4, f4, e4, o4⟩
    by_cases hd4 : i < ds.length
    · rw [List.drop_eq_getElem_cons hd4] at e4
      obtain ⟨ρ5, g5, y5⟩ := bd_of e4
      obtain ⟨rows5, g6, y6⟩ := bd_of y5
      have hdi : ds[i]? = some ds[i] := List.getElem?_eq_getElem hd4
      refine .inr ⟨sr3.go i H4 α4 _ _ a4 rw4.wd trivial hdi, fun σ' H' => ∃ ρ' rows' α', Adv H3 α3 H' α' ∧ Rw H' α' S1 p bs rows' ∧ Sl X.K H' α' σ' ρ' ∧ σ'[fi]? = some (some (.ref p)) ∧ rowsLoop ia ib ps (ds.drop (i + 1)) ρ' rows' = some (ρn, rows) ∧ ∀ (j : Nat) (q : P), ρ'[j]? = some (some q) → (∃ d, q = P.dat d) ∨ ρ[j]? = some (some q), fun σ' H' q => ⟨m - 1, by omega, by omega, q⟩, fun x H' yl => ?_⟩
      obtain ⟨a5, w5, r5⟩ := sr3.yld i H4 α4 _ _ x H' a4 rw4.wd trivial hdi yl
      have rw5 := rw4.adv a5 w5
      refine ⟨ρ4, _, α4, ds[i], ρ5, w5, s4.mono a5, r5, g5, fun σ6 s6 ag => ?_⟩
      have f6 : σ6[fi]? = some (some (.ref p)) := by rw [ag.at_ fi hd]; exact f4
      refine rows_run f6 ps rw5 s6 g6 fun H7 α7 a7 rw7 => ⟨ρ5, rows5, α7, a4.trans (a5.trans a7), rw7, s6.mono a7, f6, y6, fun j q hj => ?_⟩
      exact (pairG_old g5 hj).elim .inl (o4 j q)
    · rw [List.drop_eq_nil_of_le (Nat.le_of_not_lt hd4)] at e4
      have e4 : some (ρ4, rows4) = some (ρn, rows) := e4
      cases e4
      refine .inl ⟨sr3.stop i H4 α4 _ a4 rw4.wd trivial (Nat.le_of_not_lt hd4), ?_⟩
      have hal : α.length ≤ S1.length := by rw [← w1.len]; exact a1.len
      have A4 : Adv H α H4 α4 := a1.trans (a2.trans (a3.trans a4))
      have hlen4 := rw4.wd.len
      rw [List.length_append, List.length_cons, List.length_map] at hlen4
      have hk4 : (α4.take (S1.length + 1))[S1.length]? = some (some p) := by rw [List.getElem?_take_of_lt (Nat.lt_succ_self _)]; exact rw4.at0
      have hsub : ∀ a, some a ∈ α4.take (S1.length + 1) → some a ∈ α4 := fun a m => List.mem_of_mem_take m
      have wt := rw4.wd.take (S1.length + 1)
      have et : (S1 ++ MO.raw (.lst (bs.map V.ref)) :: rows.map MO.lst).take (S1.length + 1) = S1 ++ [MO.raw (.lst (bs.map V.ref))] := by
        rw [List.take_append, List.take_of_length_le (Nat.le_succ _), show S1.length + 1 - S1.length = 1 by omega]
        rfl
      rw [et] at wt
      have hrl : rows.length ≤ sizeLine := by
        have z : ∀ (ds : List D) {ρ : Ev} {rows : List (List D)} {x : Ev × List (List D)}, rowsLoop ia ib ps ds ρ rows = some x → x.2.length = rows.length := fun ds => by
          induction ds with
          | nil => intro ρ rows x e; cases e; rfl
          | cons d ds ih =>
            intro ρ rows x e
            obtain ⟨ρ1, _, e⟩ := bd_of e
            obtain ⟨rows1, e5, e⟩ := bd_of e
            rw [ih e]
            exact rowsStep_len e5
        have := z _ e3
        dsimp only at this
        rw [this, List.length_replicate]
        exact hl
      have rp : MRep H4 (α4.take (S1.length + 1)) p (.lst (rows.map .list)) := by
        refine ⟨bs.map V.ref, rw4.outer, by rw [List.length_map, rw4.len]; exact hrl, ?_⟩
        refine rl_rows rw4.len fun j b rs hb hj => ?_
        obtain ⟨vs, g1, g2, g3⟩ := rw4.row hb hj
        refine .lst g1 (fun m => ?_) g2 (RpL.sub hsub g3)
        obtain ⟨q, hq⟩ := List.mem_iff_getElem?.mp m
        obtain ⟨q1, q2⟩ := take_at hq
        have := rw4.wd.inj _ _ _ q2 (rw4.at_ j b hb)
        omega
      have wf := Wd.recast wt hk4 rp
      have ef : (S1 ++ [MO.raw (.lst (bs.map V.ref))]).set S1.length (.lst (rows.map .list)) = S1 ++ [.lst (rows.map .list)] := by
        rw [List.set_append_right _ _ (Nat.le_refl _), Nat.sub_self]
        rfl
      rw [ef] at wf
      have hl4 : fi < ρn.length := by rw [← s4.len]; exact (List.getElem?_eq_some_iff.mp f4).1
      refine ⟨ρn.set fi (some (.obj S1.length)), _, α4.take (S1.length + 1), r, wf, ⟨by rw [List.length_set]; exact s4.len, fun j q hj => ?_⟩, z0, Pst.mono (A4.takeN (by omega)) k⟩
      by_cases hjf : fi = j
      · subst hjf
        rw [List.getElem?_set_self hl4] at hj
        cases hj
        refine ⟨_, f4, by rw [List.length_take]; omega, p, rfl, fun a ha => ?_⟩
        rw [hk4] at ha
        cases ha
        rfl
      · rw [List.getElem?_set_ne hjf] at hj
        obtain ⟨v, hv1, hv2⟩ := s4.at_ j q hj
        refine ⟨v, hv1, ?_⟩
        rcases o4 j q hj with ⟨d, rfl⟩ | ho
        · exact Rp.sub hsub hv2
        · obtain ⟨v0, _, hv0⟩ := s.at_ j q ho
          match q, hv2, hv0 with
          | .dat d, hv2, _ => exact Rp.sub hsub hv2
          | .fz xs, ⟨a, us, g1, g2, g3, g4⟩, _ => exact ⟨a, us, g1, FzL.sub hsub g2, g3, RpL.sub hsub g4⟩
          | .obj n, ⟨g1, b, g2, g3⟩, ⟨g0, _⟩ => exact ⟨by rw [List.length_take]; omega, b, g2, fun a ha => g3 a (take_at ha).2⟩
end
end Me
set_option Elab.async false
set_option linter.all false
set_option maxRecDepth 100000
set_option maxHeartbeats 1000000
/-! Me14: range with a step, is True, index, a module's tuple of texts. -/
namespace Me
open PySem PySem.Spec PyProof.Rows L2
variable {K : PySem.W.Frag}

/-! ### range(i, j, -1) -/
def dwnD (hi : Int) (n : Nat) : List D := (List.range n).map fun i => .int (hi + (i : Nat) * (-1))
theorem dwnD_at {hi : Int} {n i : Nat} {d : D} (h : (dwnD hi n)[i]? = some d) : i < n ∧ d = .int (hi + (i : Nat) * (-1)) := by
  unfold dwnD at h
  rw [List.getElem?_map] at h
  cases q : (List.range n)[i]? with
  | none => rw [q] at h; cases h
  | some j =>
    rw [q] at h
    obtain ⟨h1, h2⟩ := List.getElem?_eq_some_iff.mp q
    rw [List.length_range] at h1
    rw [List.getElem_range] at h2
    subst h2
    exact ⟨h1, (Option.some.inj h).symm⟩
theorem dwnD_len {hi : Int} {n : Nat} : (dwnD hi n).length = n := by simp [dwnD]
theorem src_dwn {hi : Int} {n : Nat} {H0 : Hp} {α0 : Ad} : Src (Itc hi (-1) n) none (dwnD hi n) H0 α0 where
  go := fun i H α S d a w g e => (dwnD_at e).1
  yld := fun i H α S d x H' a w g e y => by
    obtain ⟨rfl, rfl⟩ := y
    obtain ⟨_, rfl⟩ := dwnD_at e
    exact ⟨.refl, w, .int _⟩
  stop := fun i H α S a w g e => by
    rw [dwnD_len] at e
    exact e
def three3 : List P → Option (P × P × P)
  | [p, q, r] => some (p, q, r)
  | _ => none
theorem three3_of {ps : List P} {p : P × P × P} (h : three3 ps = some p) : ps = [p.1, p.2.1, p.2.2] := by
  unfold three3 at h
  split at h
  · cases h; rfl
  · cases h
def iDwnD (f : AF) : WF := fun ρ S => bd (f ρ S) fun x => bd (three3 x.1) fun p => bd (asInt p.1) fun i => bd (asInt p.2.1) fun j => bd (asInt p.2.2) fun c => if c = -1 ∧ -(2 ^ 60) ≤ i ∧ i < 2 ^ 60 ∧ -(2 ^ 60) ≤ j ∧ j < 2 ^ 60 ∧ i - j ≤ 16777216 then some ((none, dwnD i (i - j).toNat), x.2) else none
theorem mi_dwn {X : Cx} {tg a b c : Expr} {f : AF} {p pos : Pos} (ha : PA X [a, b, c] (tA X.K f)) (hm : X.mg "range" = none) (hg : Gl X "range" := by rfl)
    (hs : starEach [a, b, c] X.env = (false, eval a X.env) :: starEach [b, c] X.env := by rfl) (hpl : (backTo pos (starEach [b, c] X.env)).any (·.1) = false := by rfl) :
    PI X tg (.Call (.Name "range" p) [a, b, c] [] pos) (tI X.K (iDwnD f)) := (pi_range3 hg hm ha hs hpl).imp fun σ H R => by
  rintro ⟨ρ, S, α, sk, ds, S', w, s, e, k⟩
  obtain ⟨⟨ps, S1⟩, e1, z1⟩ := bd_of e
  obtain ⟨q, e2, z2⟩ := bd_of z1
  obtain ⟨i, e3, z3⟩ := bd_of z2
  obtain ⟨j, e4, z4⟩ := bd_of z3
  obtain ⟨d, e5, z5⟩ := bd_of z4
  clear e z1 z2 z3 z4
  split at z5
  case isFalse => cases z5
  case isTrue hh =>
  obtain ⟨rfl, h1, h2, h3, h4, h5⟩ := hh
  have e2' := three3_of e2
  obtain ⟨q1, q2, q3⟩ := q
  dsimp only at e2' e3 e4 e5
  subst e2'
  cases asInt_of e3
  cases asInt_of e4
  cases asInt_of e5
  cases z5
  refine ⟨ρ, S, α, _, _, w, s, e1, fun vs H1 α1 a1 w1 r1 => ?_⟩
  cases r1 with
  | cons r1 rr =>
    cases rr with
    | cons r2 rr =>
      cases rr with
      | cons r3 rr =>
        cases rr
        have hz : (i - j).toNat ≤ sizeLine := by rw [sizeLine_eq]; omega
        refine ⟨i, j, -1, (i - j).toNat, by rw [int_of r1, int_of r2, int_of r3], RgC.neg (by omega) (by omega) (by omega) (by omega), k _ H1 α1 a1 w1 src_dwn trivial (by rw [dwnD_len]; exact hz)⟩

/-! ### is not True -/
def asBl (p : P) : Option Bool := bd (asDat p) fun d => match d with
  | .bool b => some b
  | _ => none
theorem asBl_of {p : P} {b : Bool} (h : asBl p = some b) : p = .dat (.bool b) := by
  obtain ⟨d, h1, h2⟩ := bd_of h
  cases asDat_of h1
  split at h2
  · cases h2; rfl
  · cases h2
theorem bl_of {H : Hp} {α : Ad} {v : V} {b : Bool} (r : RpP K H α v (.dat (.bool b))) : v = .bl b := by
  cases r with
  | bl _ => rfl
def oIsB (neg : Bool) : OF := fun p q S => bd (asBl p) fun a => bd (asBl q) fun b => some (.dat (.bool (if neg then !decide (a = b) else decide (a = b))), S)
theorem od_isB : OpD K (fun x y H Q => ∃ a b, x = .bl a ∧ y = .bl b ∧ Q (.bl (decide (a = b))) H) (oIsB false) := fun H α S x y p q z S' Q w rx ry e k => by
  obtain ⟨a, h1, z1⟩ := bd_of e
  obtain ⟨b, h2, z2⟩ := bd_of z1
  cases z2
  cases asBl_of h1
  cases asBl_of h2
  exact ⟨a, b, bl_of rx, bl_of ry, k.now w (.bl _)⟩
theorem od_notB : OpD K (fun x y H Q => ∃ a b, x = .bl a ∧ y = .bl b ∧ Q (.bl (!decide (a = b))) H) (oIsB true) := fun H α S x y p q z S' Q w rx ry e k => by
  obtain ⟨a, h1, z1⟩ := bd_of e
  obtain ⟨b, h2, z2⟩ := bd_of z1
  cases z2
  cases asBl_of h1
  cases asBl_of h2
  exact ⟨a, b, bl_of rx, bl_of ry, k.now w (.bl _)⟩

/-! ### x in, not in a module's tuple -/
def oInG (ds : List D) (neg : Bool) : UF := fun p S => bd (asDat p) fun d => if (flatD d && ds.all flatD) = true then some (.dat (.bool (if neg then !(ds.any fun e => PyData.eqv e d) else ds.any fun e => PyData.eqv e d)), S) else none
theorem rd_inG {neg : Bool} {fa : EF} {p : Addr} {xs : List V} {ds : List D} (hT : ∀ H, SqT K H p xs) (hr : ∀ H α, RpL H α xs ds) {σ : L2.St} {H : Hp} {Q : VK} : tE K (eUn (oInG ds neg) fa) σ H Q → tOp (rIn K neg) (tE K fa) (tC (.ref p)) σ H Q := by
  rintro ⟨ρ, S, α, z, S', w, s, e, k⟩
  obtain ⟨⟨x, S1⟩, e1, z1⟩ := bd_of e
  obtain ⟨d, e2, z2⟩ := bd_of z1
  clear e z1
  split at z2
  case isFalse => cases z2
  case isTrue hs =>
  cases z2
  have e2 : asDat x = some d := e2
  cases asDat_of e2
  obtain ⟨s1, s2⟩ := Bool.and_eq_true_iff.mp hs
  refine ⟨ρ, S, α, _, S1, w, s, e1, fun v H1 α1 a1 w1 r1 => ⟨p, xs, rfl, .inr (hT H1), (flat_of r1).trans s1, (flats_of (hr H1 α1)).trans s2, ?_⟩⟩
  rw [inV_of r1 s1 (hr H1 α1) s2]
  exact (k.mono a1).now w1 (.bl _)
section
variable {X : Cx} {a : Expr} {fa : EF} {x : Str} {p : Addr} {xs : List V} {ds : List D} {pos pb : Pos}
theorem me_inG (ha : PE X a (tE X.K fa)) (hx : X.mg x = some (.ref p)) (hT : ∀ H, SqT X.K H p xs) (hr : ∀ H α, RpL H α xs ds) (hm : behindInMarks .In (.Name x pb) = false := by rfl) (hg : Gl X x := by rfl) (hd : (x == ("__debug__" : Str)) = false := by decide) : PE X (.Compare a [.In] [.Name x pb] pos) (tE X.K (eUn (oInG ds false) fa)) :=
  (pe_cmpR op_in_seq ha (pe_own hx hg hd) hm).imp fun _ _ _ => rd_inG hT hr
theorem me_notInG (ha : PE X a (tE X.K fa)) (hx : X.mg x = some (.ref p)) (hT : ∀ H, SqT X.K H p xs) (hr : ∀ H α, RpL H α xs ds) (hm : behindInMarks .NotIn (.Name x pb) = false := by rfl) (hg : Gl X x := by rfl) (hd : (x == ("__debug__" : Str)) = false := by decide) : PE X (.Compare a [.NotIn] [.Name x pb] pos) (tE X.K (eUn (oInG ds true) fa)) :=
  (pe_cmpR op_notIn_seq ha (pe_own hx hg hd) hm).imp fun _ _ _ => rd_inG hT hr
theorem mt_inG (ha : PE X a (tE X.K fa)) (hx : X.mg x = some (.ref p)) (hT : ∀ H, SqT X.K H p xs) (hr : ∀ H α, RpL H α xs ds) (hm : behindInMarks .In (.Name x pb) = false := by rfl) (hg : Gl X x := by rfl) (hd : (x == ("__debug__" : Str)) = false := by decide) : PT X (.Compare a [.In] [.Name x pb] pos) (tT X.K (cE (eUn (oInG ds false) fa))) :=
  (pt_cmpR op_in_seq ha (pe_own hx hg hd) hm).imp fun _ _ _ => rd_test fun _ _ _ => rd_inG hT hr
theorem mt_notInG (ha : PE X a (tE X.K fa)) (hx : X.mg x = some (.ref p)) (hT : ∀ H, SqT X.K H p xs) (hr : ∀ H α, RpL H α xs ds) (hm : behindInMarks .NotIn (.Name x pb) = false := by rfl) (hg : Gl X x := by rfl) (hd : (x == ("__debug__" : Str)) = false := by decide) : PT X (.Compare a [.NotIn] [.Name x pb] pos) (tT X.K (cE (eUn (oInG ds true) fa))) :=
  (pt_cmpR op_notIn_seq ha (pe_own hx hg hd) hm).imp fun _ _ _ => rd_test fun _ _ _ => rd_inG hT hr
end

/-! ### xs.index(x) -/
def idxD (d : D) : List D → Option Nat
  | [] => none
  | e :: ds => if PyData.eqv e d = true then some 0 else bd (idxD d ds) fun j => some (j + 1)
theorem idxD_of {d : D} : ∀ {ds : List D} {j : Nat}, idxD d ds = some j → ∃ z, ds[j]? = some z ∧ PyData.eqv z d = true ∧ ∀ (m : Nat) (z' : D), m < j → ds[m]? = some z' → PyData.eqv z' d = false
  | [], _, h => by cases h
  | e :: ds, j, h => by
    unfold idxD at h
    by_cases he : PyData.eqv e d = true
    · rw [if_pos he] at h
      cases h
      exact ⟨e, rfl, he, fun m z' hm _ => absurd hm (Nat.not_lt_zero _)⟩
    · rw [if_neg he] at h
      obtain ⟨i, h1, h2⟩ := bd_of h
      cases h2
      obtain ⟨z, g1, g2, g3⟩ := idxD_of h1
      refine ⟨z, g1, g2, fun m z' hm hz => ?_⟩
      cases m with
      | zero => cases hz; exact Bool.eq_false_iff.mpr he
      | succ m => exact g3 m z' (Nat.lt_of_succ_lt_succ hm) hz
def oIndex : P → VF := fun p ps S => bd (lsqOf p S) fun ds => bd (one1 ps) fun q => bd (rdP q S) fun d => bd (idxD d ds) fun j => if (okD d && okD (.list ds)) = true then some (.dat (.int (j : Nat)), S) else none
theorem lsq_rd {p : P} {S : Sto} {ds : List D} (h : lsqOf p S = some ds) : rdP p S = some (.list ds) := by
  match p, h with
  | .dat (.list _), h => cases h; rfl
  | .obj k, h =>
    have h : lstAt k S = some ds := h
    show bd (lstAt k S) _ = _
    rw [h]; rfl
  | .fz _, h => cases h; rfl
  | .dat .none, h => cases h
  | .dat (.bool _), h => cases h
  | .dat (.int _), h => cases h
  | .dat (.str _), h => cases h
  | .dat (.tuple _), h => cases h
  | .dat (.dict _), h => cases h
theorem md_index : MtD K (rIndexD K) oIndex := fun H α S x xs p ps z S' Q w rx rs e k => by
  obtain ⟨ds, h1, z1⟩ := bd_of e
  obtain ⟨q, h2, z2⟩ := bd_of z1
  obtain ⟨d, h3, z3⟩ := bd_of z2
  obtain ⟨j, h4, z4⟩ := bd_of z3
  clear e z1 z2 z3
  split at z4
  case isFalse => cases z4
  case isTrue hs =>
  cases z4
  cases one1_of h2
  obtain ⟨s1, s2⟩ := Bool.and_eq_true_iff.mp hs
  cases rs with
  | cons ry rs =>
    cases rs
    obtain ⟨a, us, rfl, g1, g2, g3⟩ := lsqOf_at w rx h1
    obtain ⟨u, i1, i2, i3⟩ := idxD_of h4
    exact ⟨a, _, d, ds, j, u, rfl, rfl, rdP_of w rx (lsq_rd h1), rdP_of w ry h3, s2, s1, i1, i2, i3, k.now w (.int _)⟩
section
variable {X : Cx} {o e : Expr} {f : EF} {a : AF} {apos cpos : Pos}
theorem me_index (hu : X.A.units + 65 < cLine) (ho : PE X o (tE X.K f)) (ha : PA X [e] (tA X.K a)) (hbase : attributeBase o "index" X.env (eval o X.env) = eval o X.env := by rfl)
    (hfew : ((backTo cpos (starEach [e] X.env)).all (fun x => !x.1) && (backToKw cpos (keywordEach [] X.env)).all (fun x => x.1.isSome)
      && decide (([e] : List Expr).length + ([] : List Keyword).length + (if ([] : List Keyword).isEmpty then 0 else 1) < 30)) = true := by rfl)
    (hline : (apos.endLine == cpos.line) = true := by rfl) (hs : starEach [e] X.env = (false, eval e X.env) :: starEach [] X.env := by rfl) : PE X (.Call (.Attribute o "index" apos) [e] [] cpos) (tE X.K (eMt oIndex f a)) :=
  me_bm PySem.F.slot_list_index PySem.F.type_list_index (mt_indexD hu) md_index ho ha hbase hfew hline hs rfl
end

/-! ### sources that a name tells -/
def seqD : D → Option (List D)
  | .tuple ds => some ds
  | .list ds => some ds
  | _ => none
def srcVar (i : Nat) : Ev → Option (List D) := fun ρ => bd (ρ.getD i none) fun p => bd (asDat p) seqD
def srcIx (i j : Nat) : Ev → Option (List D) := fun ρ => bd (ρ.getD i none) fun p => bd (asDat p) fun d => bd (seqD d) fun ds => bd ds[j]? seqD
theorem seqD_of {d : D} {ds : List D} (h : seqD d = some ds) : d = .tuple ds ∨ d = .list ds := by
  unfold seqD at h
  split at h
  · cases h; exact .inl rfl
  · cases h; exact .inr rfl
  · cases h
theorem src_var {i : Nat} (ρ : Ev) (S : Sto) (ds : List D) (h : srcVar i ρ = some ds) : iSeq (eVar i) ρ S = some ((none, ds), S) := by
  obtain ⟨p, h1, z1⟩ := bd_of h
  obtain ⟨d, h2, z2⟩ := bd_of z1
  cases asDat_of h2
  unfold iSeq eVar
  rw [h1]
  rcases seqD_of z2 with rfl | rfl <;> rfl
theorem src_ix {i j : Nat} (hj : j < 2 ^ 60) (ρ : Ev) (S : Sto) (ds : List D) (h : srcIx i j ρ = some ds) : iSeq (eOp oIx (eVar i) (eC (.int (j : Nat)))) ρ S = some ((none, ds), S) := by
  obtain ⟨p, h1, z1⟩ := bd_of h
  obtain ⟨d, h2, z2⟩ := bd_of z1
  obtain ⟨es, h3, z3⟩ := bd_of z2
  obtain ⟨d', h4, z4⟩ := bd_of z3
  cases asDat_of h2
  have hl : j < es.length := (List.getElem?_eq_some_iff.mp h4).1
  have hat : atI es ((j : Nat) : Int) = some d' := by
    unfold atI ixN
    rw [if_pos (by omega), if_pos (by omega)]
    simpa using h4
  have e1 : eOp oIx (eVar i) (eC (.int (j : Nat))) ρ S = some (.dat d', S) := by
    unfold eOp eVar eC
    rw [h1]
    rcases seqD_of h3 with rfl | rfl
    · show bd (atI es ((j : Nat) : Int)) (fun d => some (P.dat d, S)) = _
      rw [hat]; rfl
    · show bd (atI es ((j : Nat) : Int)) (fun d => some (P.dat d, S)) = _
      rw [hat]; rfl
  unfold iSeq
  rw [e1]
  rcases seqD_of z4 with rfl | rfl <;> rfl
end Me
set_option Elab.async false
set_option linter.all false
set_option maxRecDepth 100000
set_option maxHeartbeats 1000000
/-! Me15: the text's own defs, as they call one another. -/
namespace Me
open PySem PySem.Spec PyProof.Rows L2

/-- the def x answers as G tells -/
structure Own (P0 : Program) (w0 : World) (K : PySem.W.Frag) (mg : Str → Option Value) (base : Heap) (k : Nat) (x : Str) (ps : List Str) (G : VF) : Prop where
  ex : ∃ g fd, FnOk P0 w0 K mg base CX0 k g fd ps (spF K G) ∧ Binds K fd ps [] ∧ PySem.W.keepIn K (.ref g) = true ∧ mg x = some (.ref g)
section
variable {P0 : Program} {w0 : World} {K : PySem.W.Frag} {mg : Str → Option Value} {base : Heap} {k k' : Nat} {x : Str} {ps : List Str} {G : VF}
theorem Own.mono (O : Own P0 w0 K mg base k x ps G) (h : k ≤ k') : Own P0 w0 K mg base k' x ps G := by
  obtain ⟨g, fd, F, b, kp, m⟩ := O.ex
  exact ⟨g, fd, F.mono h, b, kp, m⟩
theorem Own.none {g : Addr} {fd : FuncData} (b : Binds K fd ps []) (kp : PySem.W.keepIn K (.ref g) = true) (m : mg x = some (.ref g)) : Own P0 w0 K mg base k x ps (fun _ _ => Option.none) := by
  refine ⟨g, fd, ⟨fun vs H Q E h => ?_, fun A outer s H args us vs Q E _ _ _ _ h => ?_⟩, b, kp, m⟩
  · obtain ⟨_, _, _, _, _, _, _, e, _⟩ := h
    cases e
  · obtain ⟨_, _, _, _, _, _, _, e, _⟩ := h
    cases e
end
section
variable {X : Cx} {k k' : Nat} {x : Str} {ps : List Str} {G : VF} {e : Expr} {es : List Expr} {f : AF} {p pos : Pos}
theorem me_own (O : Own X.prog X.w X.K X.mg X.base k' x ps G) (hr : Room k X.A) (ha : PA X (e :: es) (tA X.K f)) (hk : k' ≤ k := by decide) (hg : Gl X x := by rfl) (hdb : (x == ("__debug__" : Str)) = false := by decide)
    (he : starEach (e :: es) X.env = (false, eval e X.env) :: starEach es X.env := by rfl) (hpl : (backTo pos (starEach es X.env)).any (·.1) = false := by rfl) : PE X (.Call (.Name x p) (e :: es) [] pos) (tE X.K (eCall G f)) := by
  obtain ⟨g, fd, F, b, kp, m⟩ := O.ex
  exact me_call (F.mono hk) hr m kp b ha hg hdb he hpl
theorem me_sortBy {prm : Str} {npos kpos : Pos} (O : Own X.prog X.w X.K X.mg X.base k' x [prm] G) (hr : Room k X.A) (ha : PA X [e] (tA X.K f)) (hm : X.mg "sorted" = none) (hk : k' + 2 ≤ k := by decide) (hg : Gl X x := by rfl) (hgs : Gl X "sorted" := by rfl) (hd : (x == ("__debug__" : Str)) = false := by decide)
    (hv : bootBuiltins ("sorted" : Str) = some (.builtin "sorted") := by rfl)
    (he : backTo pos (starEach [e] X.env) = (false, eval e X.env) :: backTo pos (starEach [] X.env) := by rfl) (hpl : (backTo pos (starEach [e] X.env)).any (·.1) = false := by rfl) :
    PE X (.Call (.Name "sorted" p) [e] [⟨some "key", .Name x npos, kpos⟩] pos) (tE X.K (eSrtK G f)) := by
  obtain ⟨g, fd, F, b, kp, m⟩ := O.ex
  exact me_srtK F (hr.mono hk) b ha m hm hv hg hgs hd he hpl
end
/-- x, y = a, b by a tuple that is made -/
theorem ms_parC {X : Cx} (i j : Nat) {x y : Str} {a b : Expr} {f : AF} {px py pt pos : Pos} {kt k2 pt2} (hN : X.N.Nodup) (ha : PA X [a, b] (tA X.K f)) (hc : X.calm = true := by rfl) (hi : X.N[i]? = some x := by rfl) (hj : X.N[j]? = some y := by rfl)
    (hx : Loc X.env.scope x := by first | exact Or.inl rfl | exact Or.inr rfl) (hy : Loc X.env.scope y := by first | exact Or.inl rfl | exact Or.inr rfl) (hf : X.fn x = true ∨ X.env.scope.names.lookup x = some .local := by first | exact .inl rfl | exact .inr rfl | assumption) (hg : X.fn y = true ∨ X.env.scope.names.lookup y = some .local := by first | exact .inl rfl | exact .inr rfl | assumption)
    (hw : swappedStores [.Tuple [.Name x px, .Name y py] kt pt] (.Tuple [a, b] k2 pt2) X.env = pure none := by rfl)
    (hs : swapsWithSole [.Tuple [.Name x px, .Name y py] kt pt] (.Tuple [a, b] k2 pt2) pos.line X.env = pure false := by rfl)
    (h1 : (assignEach [.Tuple [.Name x px, .Name y py] kt pt] X.env).map (·.2) = [assign (.Tuple [.Name x px, .Name y py] kt pt) X.env] := by rfl)
    (hn : (assignEach [.Name x px, .Name y py] X.env).length = 2 := by rfl) (hst : (assignEach [.Name x px, .Name y py] X.env).findIdx? (·.1) = none := by rfl)
    (h2 : (assignEach [.Name x px, .Name y py] X.env).map (·.2) = assign (.Name x px) X.env :: (assignEach [.Name y py] X.env).map (·.2) := by rfl) (h3 : (assignEach [.Name y py] X.env).map (·.2) = assign (.Name y py) X.env :: (assignEach [] X.env).map (·.2) := by rfl) :
    PS X (.Assign [.Tuple [.Name x px, .Name y py] kt pt] (.Tuple [a, b] k2 pt2) pos) (tS X.K (sPar i j f)) :=
  (ps_asg (pe_tup ha) (pg_tup hc (pgs_cons (pg_name hN hi hx hf) (pgs_cons (pg_name hN hj hy hg) pgs_nil h3) h2) hn hst) hs hw h1).imp fun E σ H => by
  rintro ⟨ρ, S, α, r, w, s, e, k⟩
  obtain ⟨⟨ps, S1⟩, e1, e⟩ := bd_of e
  match ps, e1, e with
  | [p, q], e1, e =>
    cases e
    refine ⟨ρ, S, α, _, S1, w, s, e1, fun vs H1 α1 a1 w1 r1 => ?_⟩
    match vs, r1 with
    | [v, u], .cons r1 (.cons r2 .nil) =>
      refine ⟨by show 2 ≤ sizeLine; decide, fun t ht => ?_⟩
      have an := Adv.new (o := .tup [v, u]) w1 ht
      exact ⟨t, [v, u], rfl, SqT.of upd_same, rfl, v, [u], rfl, u, [], rfl, rfl, k _ _ α1 (a1.trans an) (w1.new ht) (((s.mono (a1.trans an)).set i (r1.mono an)).set j (r2.mono an))⟩
  | [], _, e => cases e
  | [_], _, e => cases e
  | _ :: _ :: _ :: _, _, e => cases e
/-- by fuel -/
def recF (n N : Nat) (b : VF → SF) : Nat → VF
  | 0 => fun _ _ => none
  | i + 1 => fnRun n N (b (recF n N b i))
section
variable {P0 : Program} {w0 : World} {K : PySem.W.Frag} {mg : Str → Option Value} {base : Heap} {k : Nat} {x qual : Str} {ps N : List Str} {b : SF} {params : Arguments} {body : List Stmt} {scope : Scope} {g : Addr} {fd : FuncData}
theorem own_ok {kws : List (Str × V)} (F : FunD K x qual params body scope [] kws g fd) (m : mg x = some (.ref g)) (S0 : FnScope N ps scope) (bi : Binds K fd ps [])
    (hbody : ∀ (cdv : Value) (A : Around) (outer : List Env) (s : Shared) (H : Hp) (E : XK), Room k (A.deeper (envOfC qual scope s.heap.objs.size g cdv)) → PSs (cxOf CX0 P0 w0 K mg base N qual scope g cdv A outer s H E).nox body (tS K b)) :
    Own P0 w0 K mg base (k + 1) x ps (fnRun ps.length N.length b) := ⟨g, fd, fn_ok F S0 hbody, bi, F.kp, m⟩
end

theorem _root_.L2.Room.u70 {k : Nat} {A : Around} (r : Room k A) : A.units + 70 < cLine := by have := r.un; omega
theorem _root_.L2.Room.u65 {k : Nat} {A : Around} (r : Room k A) : A.units + 65 < cLine := by have := r.un; omega
theorem _root_.L2.Room.u64 {k : Nat} {A : Around} (r : Room k A) : A.units + 64 < cLine := by have := r.un; omega
theorem _root_.L2.Room.u1 {k : Nat} {A : Around} (r : Room k A) : A.units + 1 < cLine := by have := r.un; omega
theorem _root_.L2.Room.u0 {k : Nat} {A : Around} (r : Room k A) : A.units < cLine := by have := r.un; omega
end Me
set_option Elab.async false
set_option linter.all false
set_option maxRecDepth 100000
set_option maxHeartbeats 1000000
/-! Me16: how the pure functions are worked out. -/
namespace Me
open PySem PySem.Spec PyProof.Rows L2

theorem bd_some {β γ : Type} (x : β) (f : β → Option γ) : bd (some x) f = f x := rfl
theorem frz_obj {S : Sto} {xs : List D} {n : Nat} (h : n = S.length) : frzP n (.obj S.length) (S ++ [.lst xs]) = some (.dat (.list xs), S) := by
  subst h
  simp [frzP, lstAt, bd]
theorem frz_dat {S : Sto} {d : D} {n : Nat} : frzP n (.dat d) S = some (.dat d, S) := rfl
theorem eFrz_obj {f : EF} {ρ : Ev} {S : Sto} {xs : List D} (h : f ρ S = some (.obj S.length, S ++ [.lst xs])) : eFrz f ρ S = some (.dat (.list xs), S) := by
  unfold eFrz
  rw [h]
  exact frz_obj rfl
theorem eFrz_objS {f : EF} {ρ : Ev} {S S1 : Sto} {xs : List D} (h : f ρ S = some (.obj S.length, S1 ++ [.lst xs])) (hl : S1.length = S.length) : eFrz f ρ S = some (.dat (.list xs), S1) := by
  unfold eFrz
  rw [h, ← hl]
  exact frz_obj rfl
theorem eFrz_dat {f : EF} {ρ : Ev} {S S' : Sto} {d : D} (h : f ρ S = some (.dat d, S')) : eFrz f ρ S = some (.dat d, S') := by
  unfold eFrz
  rw [h]
  rfl

/-! ### comprehensions -/
theorem compD_pure {n : Nat} {all : List D} {g : GF} {t : CF} {f : EF} {ρ : Ev} {S : Sto} (hn : n = S.length) (val : D → Option D) : ∀ (ds acc : List D),
    (∀ d ∈ ds, ∀ a, ∃ ρ1, g d ρ = some ρ1 ∧ match val d with
      | none => t ρ1 (S ++ [.lst a]) = some (false, S ++ [.lst a])
      | some e => t ρ1 (S ++ [.lst a]) = some (true, S ++ [.lst a]) ∧ f ρ1 (S ++ [.lst a]) = some (.dat e, S ++ [.lst a])) →
    compD n none all g t f ρ ds acc (S ++ [.lst acc]) = some (S ++ [.lst (acc ++ ds.filterMap val)])
  | [], acc, _ => by simp [compD, chk_none]
  | d :: ds, acc, h => by
    obtain ⟨ρ1, h1, h2⟩ := h d (List.mem_cons_self ..) acc
    have ih := compD_pure (all := all) (g := g) (t := t) (f := f) (ρ := ρ) hn val ds
    unfold compD
    rw [chk_none, h1]
    cases hv : val d with
    | none =>
      rw [hv] at h2
      show bd (t ρ1 _) _ = _
      rw [h2, List.filterMap_cons_none hv]
      exact ih acc fun e he => h e (List.mem_cons_of_mem _ he)
    | some e =>
      rw [hv] at h2
      show bd (t ρ1 _) _ = _
      rw [h2.1, List.filterMap_cons_some hv]
      show bd (f ρ1 _) _ = _
      rw [h2.2]
      show chk (some n) acc (S ++ [.lst acc]) (compD n none all g t f ρ ds (acc ++ [e]) ((S ++ [MO.lst acc]).set n (MO.lst (acc ++ [e])))) = _
      rw [chk_some (by rw [hn, List.getElem?_append_right (Nat.le_refl _), Nat.sub_self]; rfl)]
      have e1 : (S ++ [MO.lst acc]).set n (MO.lst (acc ++ [e])) = S ++ [MO.lst (acc ++ [e])] := by
        rw [hn, List.set_append_right _ _ (Nat.le_refl _), Nat.sub_self]
        rfl
      rw [e1, ih (acc ++ [e]) fun e he => h e (List.mem_cons_of_mem _ he), List.append_assoc]
      rfl
theorem lc_pure {ws : WF} {is : List Nat} {g : GF} {t : CF} {f : EF} {ρ : Ev} {S : Sto} {ds : List D} (val : D → Option D) (hw : ws ρ S = some ((none, ds), S))
    (h : ∀ d ∈ ds, ∀ a, ∃ ρ1, g d (wipeE ρ is) = some ρ1 ∧ match val d with
      | none => t ρ1 (S ++ [.lst a]) = some (false, S ++ [.lst a])
      | some e => t ρ1 (S ++ [.lst a]) = some (true, S ++ [.lst a]) ∧ f ρ1 (S ++ [.lst a]) = some (.dat e, S ++ [.lst a])) :
    eLc ws is g t f ρ S = some (.obj S.length, S ++ [.lst (ds.filterMap val)]) := by
  unfold eLc
  rw [hw]
  show bd (compD S.length none ds g t f (wipeE ρ is) ds [] (S ++ [.lst []])) _ = _
  rw [compD_pure rfl val ds [] h]
  show some (P.obj S.length, (S ++ [MO.lst ([] ++ ds.filterMap val)]).take (S.length + 1)) = _
  rw [List.take_of_length_le (by simp)]
  rfl
/-- all kept -/
theorem lc_map {ws : WF} {is : List Nat} {g : GF} {f : EF} {ρ : Ev} {S : Sto} {ds : List D} (val : D → D) (hw : ws ρ S = some ((none, ds), S))
    (h : ∀ d ∈ ds, ∀ a, ∃ ρ1, g d (wipeE ρ is) = some ρ1 ∧ f ρ1 (S ++ [.lst a]) = some (.dat (val d), S ++ [.lst a])) :
    eLc ws is g cYes f ρ S = some (.obj S.length, S ++ [.lst (ds.map val)]) := by
  have := lc_pure (t := cYes) (fun d => some (val d)) hw (fun d hd a => by
    obtain ⟨ρ1, h1, h2⟩ := h d hd a
    exact ⟨ρ1, h1, rfl, h2⟩)
  rw [this, show ds.filterMap (fun d => some (val d)) = ds.map val from List.filterMap_eq_map (f := val) ▸ rfl]
/-- with a changing store: R what has been gone through, what is told so far, the store -/
theorem compD_st {n : Nat} {all : List D} {g : GF} {t : CF} {f : EF} {ρ : Ev} (R : List D → List D → Sto → Prop) (hR : ∀ p a S, R p a S → S.length = n) : ∀ (ds pre acc : List D) (S : Sto), R pre acc S →
    (∀ pre d suf acc S, pre ++ d :: suf = all → R pre acc S → ∃ ρ1 S1 e, g d ρ = some ρ1 ∧ t ρ1 (S ++ [.lst acc]) = some (true, S ++ [.lst acc]) ∧ f ρ1 (S ++ [.lst acc]) = some (.dat e, S1 ++ [.lst acc]) ∧ R (pre ++ [d]) (acc ++ [e]) S1) →
    pre ++ ds = all → ∃ acc' S', compD n none all g t f ρ ds acc (S ++ [.lst acc]) = some (S' ++ [.lst acc']) ∧ R all acc' S'
  | [], pre, acc, S, r, _, e => ⟨acc, S, by simp [compD, chk_none], by rw [← e, List.append_nil]; exact r⟩
  | d :: ds, pre, acc, S, r, h, he => by
    obtain ⟨ρ1, S1, e, h1, h2, h3, h4⟩ := h pre d ds acc S he r
    have hl := hR _ _ _ h4
    obtain ⟨acc', S', q1, q2⟩ := compD_st R hR ds (pre ++ [d]) (acc ++ [e]) S1 h4 h (by rw [List.append_assoc]; exact he)
    refine ⟨acc', S', ?_, q2⟩
    unfold compD
    rw [chk_none, h1]
    show bd (t ρ1 _) _ = _
    rw [h2]
    show bd (f ρ1 _) _ = _
    rw [h3]
    show chk (some n) acc (S1 ++ [.lst acc]) (compD n none all g t f ρ ds (acc ++ [e]) ((S1 ++ [MO.lst acc]).set n (MO.lst (acc ++ [e])))) = _
    rw [chk_some (by rw [← hl, List.getElem?_append_right (Nat.le_refl _), Nat.sub_self]; rfl)]
    have e1 : (S1 ++ [MO.lst acc]).set n (MO.lst (acc ++ [e])) = S1 ++ [MO.lst (acc ++ [e])] := by
      rw [← hl, List.set_append_right _ _ (Nat.le_refl _), Nat.sub_self]
      rfl
    rw [e1, q1]
theorem lc_st {ws : WF} {is : List Nat} {g : GF} {f : EF} {ρ : Ev} {S S0 : Sto} {ds : List D} (R : List D → List D → Sto → Prop) (hR : ∀ p a S', R p a S' → S'.length = S.length) (hw : ws ρ S = some ((none, ds), S0)) (r0 : R [] [] S0)
    (h : ∀ pre d suf acc S, pre ++ d :: suf = ds → R pre acc S → ∃ ρ1 S1 e, g d (wipeE ρ is) = some ρ1 ∧ f ρ1 (S ++ [.lst acc]) = some (.dat e, S1 ++ [.lst acc]) ∧ R (pre ++ [d]) (acc ++ [e]) S1) :
    ∃ acc S', eLc ws is g cYes f ρ S = some (.obj S.length, S' ++ [.lst acc]) ∧ R ds acc S' := by
  have hl0 := hR _ _ _ r0
  obtain ⟨acc, S', h1, h2⟩ := compD_st (n := S0.length) (all := ds) (t := cYes) (g := g) (f := f) (ρ := wipeE ρ is) R (fun p a S' r => (hR p a S' r).trans hl0.symm) ds [] [] S0 r0 (fun pre d suf acc S e r => by
    obtain ⟨ρ1, S1, e, q1, q2, q3⟩ := h pre d suf acc S e r
    exact ⟨ρ1, S1, e, q1, rfl, q2, q3⟩) rfl
  refine ⟨acc, S', ?_, h2⟩
  unfold eLc
  rw [hw]
  show bd (compD S0.length none ds g cYes f (wipeE ρ is) ds [] (S0 ++ [.lst []])) _ = _
  rw [h1, ← hl0]
  show some (P.obj S0.length, (S' ++ [MO.lst acc]).take (S0.length + 1)) = _
  rw [List.take_of_length_le (by simp [hR _ _ _ h2, hl0])]

/-! ### dicts -/
theorem dcD_pure {κ : Type} [DecidableEq κ] {F : List (κ × D) → MO} {kf : P → Option κ} {n : Nat} {all : List D} {g : GF} {f h : EF} {ρ : Ev} {S : Sto} (hn : n = S.length) (val : D → κ × D) : ∀ (ds : List D) (acc : List (κ × D)),
    (∀ d ∈ ds, ∀ a, ∃ ρ1 k e, g d ρ = some ρ1 ∧ f ρ1 (S ++ [F a]) = some (k, S ++ [F a]) ∧ kf k = some (val d).1 ∧ h ρ1 (S ++ [F a]) = some (.dat e, S ++ [F a]) ∧ e = (val d).2) →
    dcD F kf n none all g cYes f h ρ ds acc (S ++ [F acc]) = some (S ++ [F (ds.foldl (fun a d => dput a (val d).1 (val d).2) acc)])
  | [], acc, _ => by simp [dcD, chk_none]
  | d :: ds, acc, hh => by
    obtain ⟨ρ1, k, e, h1, h2, h3, h4, h5⟩ := hh d (List.mem_cons_self ..) acc
    subst h5
    have ih := dcD_pure (F := F) (kf := kf) (all := all) (g := g) (f := f) (h := h) (ρ := ρ) hn val ds
    unfold dcD
    rw [chk_none, h1]
    simp only [bd_some, cYes, if_true]
    rw [h2]
    show bd (kf k) _ = _
    rw [h3]
    show bd (h ρ1 _) _ = _
    rw [h4]
    show chkM n (F acc) (S ++ [F acc]) (dcD F kf n none all g cYes f h ρ ds (dput acc (val d).1 (val d).2) ((S ++ [F acc]).set n (F (dput acc (val d).1 (val d).2)))) = _
    rw [chkM_at (by rw [hn, List.getElem?_append_right (Nat.le_refl _), Nat.sub_self]; rfl)]
    have e1 : (S ++ [F acc]).set n (F (dput acc (val d).1 (val d).2)) = S ++ [F (dput acc (val d).1 (val d).2)] := by
      rw [hn, List.set_append_right _ _ (Nat.le_refl _), Nat.sub_self]
      rfl
    rw [e1, ih _ fun e he => hh e (List.mem_cons_of_mem _ he)]
    rfl
theorem dc_pure {κ : Type} [DecidableEq κ] {F : List (κ × D) → MO} {kf : P → Option κ} {ws : WF} {is : List Nat} {g : GF} {f h : EF} {ρ : Ev} {S : Sto} {ds : List D} (val : D → κ × D) (hw : ws ρ S = some ((none, ds), S))
    (hh : ∀ d ∈ ds, ∀ a, ∃ ρ1 k e, g d (wipeE ρ is) = some ρ1 ∧ f ρ1 (S ++ [F a]) = some (k, S ++ [F a]) ∧ kf k = some (val d).1 ∧ h ρ1 (S ++ [F a]) = some (.dat e, S ++ [F a]) ∧ e = (val d).2) :
    eDc F kf ws is g cYes f h ρ S = some (.obj S.length, S ++ [F (ds.foldl (fun a d => dput a (val d).1 (val d).2) [])]) := by
  unfold eDc
  rw [hw]
  show bd (dcD F kf S.length none ds g cYes f h (wipeE ρ is) ds [] (S ++ [F []])) _ = _
  rw [dcD_pure rfl val ds [] hh]
  show some (P.obj S.length, (S ++ [F _]).take (S.length + 1)) = _
  rw [List.take_of_length_le (by simp)]

/-! ### loops -/
theorem forD_run {all : List D} {g : GF} {b : SF} (R : List D → Ev → Sto → Prop) : ∀ (ds pre : List D) (ρ : Ev) (S : Sto), R pre ρ S →
    (∀ pre d suf ρ S, pre ++ d :: suf = all → R pre ρ S → ∃ ρ1 fl ρ' S', g d ρ = some ρ1 ∧ b ρ1 S = some (fl, ρ', S') ∧ (fl = .nx ∨ fl = .ct) ∧ R (pre ++ [d]) ρ' S') →
    pre ++ ds = all → ∃ ρ' S', forD none all g b ds ρ S = some (.nx, ρ', S') ∧ R all ρ' S'
  | [], pre, ρ, S, r, _, e => ⟨ρ, S, by simp [forD, chk_none], by rw [← e, List.append_nil]; exact r⟩
  | d :: ds, pre, ρ, S, r, h, he => by
    obtain ⟨ρ1, fl, ρ2, S2, h1, h2, h3, h4⟩ := h pre d ds ρ S he r
    obtain ⟨ρ', S', q1, q2⟩ := forD_run R ds (pre ++ [d]) ρ2 S2 h4 h (by rw [List.append_assoc]; exact he)
    refine ⟨ρ', S', ?_, q2⟩
    unfold forD
    rw [chk_none, h1]
    show bd (b ρ1 S) _ = _
    rw [h2]
    rcases h3 with rfl | rfl <;> exact q1
theorem sFor_run {ws : WF} {g : GF} {b : SF} {ρ : Ev} {S S0 : Sto} {ds : List D} (R : List D → Ev → Sto → Prop) (hw : ws ρ S = some ((none, ds), S0)) (r0 : R [] ρ S0)
    (h : ∀ pre d suf ρ S, pre ++ d :: suf = ds → R pre ρ S → ∃ ρ1 fl ρ' S', g d ρ = some ρ1 ∧ b ρ1 S = some (fl, ρ', S') ∧ (fl = .nx ∨ fl = .ct) ∧ R (pre ++ [d]) ρ' S') :
    ∃ ρ' S', sFor ws g b ρ S = some (.nx, ρ', S') ∧ R ds ρ' S' := by
  unfold sFor
  rw [hw]
  exact forD_run R ds [] ρ S0 r0 h rfl
theorem while_run {c : CF} {b : SF} (R : Nat → Ev → Sto → Prop) (h : ∀ m ρ S, R m ρ S → (∃ S1, c ρ S = some (false, S1) ∧ R 0 ρ S1) ∨ ∃ S1 ρ' S' m', c ρ S = some (true, S1) ∧ b ρ S1 = some (.nx, ρ', S') ∧ m' < m ∧ R m' ρ' S') :
    ∀ (n m : Nat) (ρ : Ev) (S : Sto), m < n → R m ρ S → ∃ ρ' S', whileD c b n ρ S = some (.nx, ρ', S') ∧ R 0 ρ' S' ∧ ∃ S1, c ρ' S1 = some (false, S')
  | 0, m, _, _, hm, _ => absurd hm (Nat.not_lt_zero _)
  | n + 1, m, ρ, S, hm, r => by
    rcases h m ρ S r with ⟨S1, e, r1⟩ | ⟨S1, ρ1, S2, m', e, e2, hlt, r1⟩
    · exact ⟨ρ, S1, by simp [whileD, e, bd], r1, S, e⟩
    · obtain ⟨ρ', S', q1, q2⟩ := while_run R h n m' ρ1 S2 (by omega) r1
      refine ⟨ρ', S', ?_, q2⟩
      unfold whileD
      rw [e]
      simp only [bd_some, if_true]
      rw [e2]
      exact q1

/-! ### defs -/
theorem fn_dat {n N : Nat} {b : SF} {ps : List P} {S S' S1 : Sto} {d : D} {ρ' : Ev} (hn : ps.length = n) (h : b (ps.map some ++ List.replicate (N - n) none) S = some (.ret (.dat d), ρ', S')) (ht : S'.take S.length = S1) : fnRun n N b ps S = some (.dat d, S1) := by
  unfold fnRun
  rw [if_pos hn, h]
  show some (P.dat d, S'.take S.length) = _
  rw [ht]
theorem fn_nx {n N : Nat} {b : SF} {ps : List P} {S S' S1 : Sto} {ρ' : Ev} (hn : ps.length = n) (h : b (ps.map some ++ List.replicate (N - n) none) S = some (.nx, ρ', S')) (ht : S'.take S.length = S1) : fnRun n N b ps S = some (.dat .none, S1) := by
  unfold fnRun
  rw [if_pos hn, h]
  show some (P.dat .none, S'.take S.length) = _
  rw [ht]
theorem fn_obj {n N : Nat} {b : SF} {ps : List P} {S S' S1 : Sto} {k : Nat} {m : MO} {ρ' : Ev} (hn : ps.length = n) (h : b (ps.map some ++ List.replicate (N - n) none) S = some (.ret (.obj k), ρ', S')) (hk : S.length ≤ k) (hm : S'[k]? = some m) (ht : S'.take S.length = S1) : fnRun n N b ps S = some (.obj S.length, S1 ++ [m]) := by
  unfold fnRun
  rw [if_pos hn, h]
  show (if k < S.length then some (P.obj k, S'.take S.length) else bd S'[k]? fun m => some (.obj S.length, S'.take S.length ++ [m])) = _
  rw [if_neg (Nat.not_lt.mpr hk), hm, ht]
  rfl
theorem take_app {S J : Sto} : (S ++ J).take S.length = S := List.take_left
theorem seq_nx {g h : SF} {ρ ρ' : Ev} {S S' : Sto} (e : g ρ S = some (.nx, ρ', S')) : sSeq g h ρ S = h ρ' S' := by
  unfold sSeq
  rw [e]
  rfl
theorem seq_ret {g h : SF} {ρ ρ' : Ev} {S S' : Sto} {p : P} (e : g ρ S = some (.ret p, ρ', S')) : sSeq g h ρ S = some (.ret p, ρ', S') := by
  unfold sSeq
  rw [e]
  rfl

/-! ### over things that are told by others -/
theorem map_cut {β : Type} {en : β → D} {xs : List β} {pre suf : List D} {d : D} (h : pre ++ d :: suf = xs.map en) : ∃ a x b, xs = a ++ x :: b ∧ pre = a.map en ∧ d = en x ∧ suf = b.map en := by
  obtain ⟨a, r, e, h1, h2⟩ := List.map_eq_append_iff.mp h.symm
  obtain ⟨x, b, e2, h3, h4⟩ := List.map_eq_cons_iff.mp h2
  exact ⟨a, x, b, by rw [e, e2], h1.symm, h3.symm, h4.symm⟩
theorem sFor_map {β : Type} {ws : WF} {g : GF} {b : SF} {ρ : Ev} {S S0 : Sto} {xs : List β} (en : β → D) (R : List β → Ev → Sto → Prop) (hw : ws ρ S = some ((none, xs.map en), S0)) (r0 : R [] ρ S0)
    (h : ∀ pre x suf ρ S, pre ++ x :: suf = xs → R pre ρ S → ∃ ρ1 fl ρ' S', g (en x) ρ = some ρ1 ∧ b ρ1 S = some (fl, ρ', S') ∧ (fl = .nx ∨ fl = .ct) ∧ R (pre ++ [x]) ρ' S') :
    ∃ ρ' S', sFor ws g b ρ S = some (.nx, ρ', S') ∧ R xs ρ' S' := by
  obtain ⟨ρ', S', e, xs', e1, e2, r⟩ := sFor_run (fun ds ρ S => ∃ a c, a ++ c = xs ∧ ds = a.map en ∧ R a ρ S) hw ⟨[], xs, rfl, rfl, r0⟩ (fun pre d suf ρ S e ⟨a, c, e1, e2, r⟩ => by
    obtain ⟨a', x, c', h1, h2, h3, h4⟩ := map_cut e
    have hl : a.length = a'.length := by
      have := congrArg List.length (e2.symm.trans h2)
      simpa using this
    have ea : a = a' := by
      have h5 := e1.trans h1
      exact (List.append_inj h5 hl).1
    subst ea
    obtain ⟨ρ1, fl, ρ', S', q1, q2, q3, q4⟩ := h a x c' ρ S h1.symm r
    subst h3
    exact ⟨ρ1, fl, ρ', S', q1, q2, q3, a ++ [x], c', by rw [List.append_assoc]; exact h1.symm, by rw [h2, List.map_append]; rfl, q4⟩)
  have hl : xs'.length = xs.length := by
    have := congrArg List.length r.1
    simpa using this.symm
  have : xs' = xs := (List.append_inj (t₁ := e1) (t₂ := []) (by rw [e2, List.append_nil]) hl).1
  exact ⟨ρ', S', e, this ▸ r.2⟩
theorem lc_maps {β : Type} {ws : WF} {is : List Nat} {g : GF} {f : EF} {ρ : Ev} {S : Sto} {xs : List β} (en val : β → D) (hw : ws ρ S = some ((none, xs.map en), S))
    (h : ∀ x ∈ xs, ∀ a, ∃ ρ1, g (en x) (wipeE ρ is) = some ρ1 ∧ f ρ1 (S ++ [.lst a]) = some (.dat (val x), S ++ [.lst a])) :
    eLc ws is g cYes f ρ S = some (.obj S.length, S ++ [.lst (xs.map val)]) := by
  have key : ∀ (ys : List β) (acc : List D), (∀ y ∈ ys, y ∈ xs) → compD S.length none (xs.map en) g cYes f (wipeE ρ is) (ys.map en) acc (S ++ [.lst acc]) = some (S ++ [.lst (acc ++ ys.map val)]) := fun ys => by
    induction ys with
    | nil => intro acc _; simp [compD, chk_none]
    | cons y ys ih =>
      intro acc hy
      obtain ⟨ρ1, h1, h2⟩ := h y (hy y (List.mem_cons_self ..)) acc
      rw [List.map_cons]
      unfold compD
      rw [chk_none, h1]
      simp only [bd_some, cYes, if_true]
      rw [h2]
      show chk (some S.length) acc (S ++ [.lst acc]) (compD S.length none (xs.map en) g cYes f (wipeE ρ is) (ys.map en) (acc ++ [val y]) ((S ++ [MO.lst acc]).set S.length (MO.lst (acc ++ [val y])))) = _
      rw [chk_some (by rw [List.getElem?_append_right (Nat.le_refl _), Nat.sub_self]; rfl)]
      have e1 : (S ++ [MO.lst acc]).set S.length (MO.lst (acc ++ [val y])) = S ++ [MO.lst (acc ++ [val y])] := by
        rw [List.set_append_right _ _ (Nat.le_refl _), Nat.sub_self]
        rfl
      rw [e1, ih (acc ++ [val y]) fun z hz => hy z (List.mem_cons_of_mem _ hz), List.append_assoc]
      rfl
  unfold eLc
  rw [hw]
  show bd (compD S.length none (xs.map en) g cYes f (wipeE ρ is) (xs.map en) [] (S ++ [.lst []])) _ = _
  rw [key xs [] fun _ h => h]
  show some (P.obj S.length, (S ++ [MO.lst ([] ++ xs.map val)]).take (S.length + 1)) = _
  rw [List.take_of_length_le (by simp)]
  rfl
theorem lc_filter {β : Type} {ws : WF} {is : List Nat} {g : GF} {t : CF} {f : EF} {ρ : Ev} {S : Sto} {xs : List β} (en : β → D) (val : β → Option D) (hw : ws ρ S = some ((none, xs.map en), S))
    (h : ∀ x ∈ xs, ∀ a, ∃ ρ1, g (en x) (wipeE ρ is) = some ρ1 ∧ match val x with
      | none => t ρ1 (S ++ [.lst a]) = some (false, S ++ [.lst a])
      | some e => t ρ1 (S ++ [.lst a]) = some (true, S ++ [.lst a]) ∧ f ρ1 (S ++ [.lst a]) = some (.dat e, S ++ [.lst a])) :
    eLc ws is g t f ρ S = some (.obj S.length, S ++ [.lst (xs.filterMap val)]) := by
  have key : ∀ (ys : List β) (acc : List D), (∀ y ∈ ys, y ∈ xs) → compD S.length none (xs.map en) g t f (wipeE ρ is) (ys.map en) acc (S ++ [.lst acc]) = some (S ++ [.lst (acc ++ ys.filterMap val)]) := fun ys => by
    induction ys with
    | nil => intro acc _; simp [compD, chk_none]
    | cons y ys ih =>
      intro acc hy
      have ih := fun acc => ih acc fun z hz => hy z (List.mem_cons_of_mem _ hz)
      obtain ⟨ρ1, h1, h2⟩ := h y (hy y (List.mem_cons_self ..)) acc
      rw [List.map_cons]
      unfold compD
      rw [chk_none, h1]
      cases hv : val y with
      | none =>
        rw [hv] at h2
        have h2 : t ρ1 (S ++ [.lst acc]) = some (false, S ++ [.lst acc]) := h2
        simp only [bd_some, h2, Bool.false_eq_true, if_false]
        rw [ih, List.filterMap_cons_none hv]
      | some e =>
        rw [hv] at h2
        have h2 : t ρ1 (S ++ [.lst acc]) = some (true, S ++ [.lst acc]) ∧ f ρ1 (S ++ [.lst acc]) = some (.dat e, S ++ [.lst acc]) := h2
        simp only [bd_some, h2.1, if_true]
        rw [h2.2, List.filterMap_cons_some hv]
        show chk (some S.length) acc (S ++ [.lst acc]) (compD S.length none (xs.map en) g t f (wipeE ρ is) (ys.map en) (acc ++ [e]) ((S ++ [MO.lst acc]).set S.length (MO.lst (acc ++ [e])))) = _
        rw [chk_some (by rw [List.getElem?_append_right (Nat.le_refl _), Nat.sub_self]; rfl)]
        have e1 : (S ++ [MO.lst acc]).set S.length (MO.lst (acc ++ [e])) = S ++ [MO.lst (acc ++ [e])] := by
          rw [List.set_append_right _ _ (Nat.le_refl _), Nat.sub_self]
          rfl
        rw [e1, ih, List.append_assoc]
        rfl
  unfold eLc
  rw [hw]
  show bd (compD S.length none (xs.map en) g t f (wipeE ρ is) (xs.map en) [] (S ++ [.lst []])) _ = _
  rw [key xs [] fun _ h => h]
  show some (P.obj S.length, (S ++ [MO.lst ([] ++ xs.filterMap val)]).take (S.length + 1)) = _
  rw [List.take_of_length_le (by simp)]
  rfl

/-! ### small readings -/
theorem var_eq {i : Nat} {ρ : Ev} {S : Sto} {p : P} (h : ρ.getD i none = some p) : eVar i ρ S = some (p, S) := by
  unfold eVar
  rw [h]
  rfl
theorem cut1 (a : D) (l : List D) : cutD (a :: l) (some 1) none = l := by
  simp [cutD, HT.sIx]
theorem tail_src {i : Nat} {ρ : Ev} {S : Sto} {a : D} {l : List D} (h : ρ.getD i none = some (.dat (.tuple (a :: l)))) : eFrz (eSl (eVar i) (pSo (eC (.int 1))) pNo) ρ S = some (.dat (.tuple l), S) := by
  apply eFrz_dat
  unfold eSl
  rw [var_eq h]
  show some (P.dat (.tuple (cutD (a :: l) (some 1) none)), S) = _
  rw [cut1]
theorem tail_seq {i : Nat} {ρ : Ev} {S : Sto} {a : D} {l : List D} (h : ρ.getD i none = some (.dat (.tuple (a :: l)))) : iSeq (eFrz (eSl (eVar i) (pSo (eC (.int 1))) pNo)) ρ S = some ((none, l), S) := by
  unfold iSeq
  rw [tail_src h]
  rfl
theorem ix0 {i : Nat} {ρ : Ev} {S : Sto} {a : D} {l : List D} (h : ρ.getD i none = some (.dat (.tuple (a :: l)))) : eOp oIx (eVar i) (eC (.int 0)) ρ S = some (.dat a, S) := by
  unfold eOp
  rw [var_eq h]
  simp [eC, bd, oIx, seqOf, asInt, atI, ixN]
end Me
set_option Elab.async false
set_option linter.all false
set_option maxRecDepth 100000
set_option maxHeartbeats 0
namespace Lw
open PySem PySem.Spec PyProof.Rows L2 Me
def top (i : Nat) : Stmt := PySem.Challenge.pw_standahead_k47_whole_taken_parts_of_term.main.body.getD i (.Pass ⟨0, 0, 0, 0⟩)
def dd (x : Str) (i : Nat) : He.DefD := ⟨(x, none), x, x, defArgs (top i), defBody (top i), defScope (top i), [], []⟩
def fn_0 : List He.DefD := [dd "is_whole" 10, dd "is_short" 11, dd "is_within" 12, dd "is_pair" 13, dd "is_ascending" 14, dd "require_number" 15, dd "are_told" 18, dd "has_form" 19, dd "is_order_in" 20, dd "are_things" 21, dd "befores_in" 22, dd "behinds_in" 23, dd "turned_in" 24, dd "taken_in" 25, dd "tied_in" 26, dd "free_in" 27, dd "partners_in" 28, dd "require_order" 29, dd "require_things" 30, dd "turned" 31, dd "taken" 32, dd "things_of_term" 39, dd "is_term_in" 40, dd "sized" 41, dd "least_of" 42, dd "pairs_of_term" 43, dd "plain_in" 44, dd "pieces_by" 45, dd "term_among" 46, dd "term_in" 47]
def fn_1 : List He.DefD := [dd "turned_members" 48, dd "struck" 49, dd "chosen" 50, dd "lines_of_term" 51, dd "multiplied_by" 52, dd "sizes_of_term" 53, dd "extent" 54, dd "require_term" 55, dd "is_term" 56, dd "order_of_term" 57, dd "term_of" 58, dd "plain_term" 59, dd "turned_term" 60, dd "taken_term" 61, dd "term_numbers" 62, dd "_law_dice" 64, dd "_law_roll" 65, dd "_law_one_of" 66, dd "_law_mixed" 67, dd "_law_term" 68, dd "_law_deep" 69, dd "_law_things" 70, dd "_law_struck" 71, dd "_law_plain" 72, dd "_law_part_right" 73, dd "law" 74]
def fn : List He.DefD := fn_0 ++ fn_1
def frees : List Str := ["len", "range", "isinstance", "int", "bool", "tuple", "list", "sorted", "all", "any", "zip", "sum", "max", "min", "enumerate", "abs", "str"]
def gints : List (Str × Int) := [("FAR", 10 ^ 60), ("PAIR_SIZE", 2), ("MOST_THINGS", 30), ("LEAST_SIZE", 3)]
def gstrs : List (Str × Str) := [("BEHIND", "behind"), ("BESIDE", "beside"), ("AN_N", "an N")]
def gtups : List (Str × List He.Dv) := [("WORDS", [.str "behind", .str "beside"])]
def tu_WORDS : List D := [.str "behind", .str "beside"]
structure Fs (K : PySem.W.Frag) (mg : Str → Option Value) : Prop where
  dfn : ∀ (k : Nat) (d : He.DefD), fn[k]? = some d → (∃ fd, FunD K d.name d.qual d.params d.body d.scope (d.dvs K) (d.kws K) (He.fAd K d.at_) fd) ∧ mg d.name = some (.ref (He.fAd K d.at_))
  fre : ∀ (k : Nat) {x : Str}, frees[k]? = some x → mg x = none
  gin : ∀ (k : Nat) {q : Str × Int}, gints[k]? = some q → ∃ t, mg q.1 = some (.int q.2 t)
  gst : ∀ (k : Nat) {q : Str × Str}, gstrs[k]? = some q → ∃ t, mg q.1 = some (.str q.2 t)
  gtp : ∀ (k : Nat) {q : Str × List He.Dv}, gtups[k]? = some q → mg q.1 = some (.ref (He.ga K q.1)) ∧ ∀ H, SqT K H (He.ga K q.1) (q.2.map (He.Dv.v K))
theorem tr_WORDS {K : PySem.W.Frag} (H : Hp) (α : Ad) : RpL H α (([.str "behind", .str "beside"] : List He.Dv).map (He.Dv.v K)) tu_WORDS := .cons (.str _) (.cons (.str _) (.nil))
end Lw
set_option Elab.async false
set_option linter.all false
set_option maxRecDepth 100000
set_option maxHeartbeats 4000000
namespace Lw
open PySem PySem.Spec PyProof.Rows L2 Me
variable {P0 : Program} {w0 : World} {K : PySem.W.Frag} {mg : Str → Option Value} {base : Heap}
/-! is_whole -/
abbrev N_is_whole : List Str := ["value"]
abbrev P_is_whole : List Str := ["value"]
theorem sc_is_whole : FnScope N_is_whole P_is_whole (defScope (top 10)) := ⟨rfl, rfl, rfl, by decide +kernel, rfl, by decide +kernel, by decide +kernel⟩
noncomputable def b_is_whole : SF := (sRet (eAnd (eIsi "int" (eVar 0)) (eNot (eIsi "bool" (eVar 0)))))
noncomputable def F_is_whole : VF := fnRun 1 1 b_is_whole
theorem ok_is_whole (fs : Fs K mg) : Own P0 w0 K mg base 1 "is_whole" P_is_whole F_is_whole := by
  obtain ⟨⟨fd, F⟩, m⟩ := fs.dfn 0 (dd "is_whole" 10) rfl
  exact own_ok (N := N_is_whole) (b := b_is_whole) F m sc_is_whole (FunD.bindsN F fun _ _ _ _ _ _ us hl => match us, hl with | [_], _ => rfl) fun cdv A outer s H E hr =>
    (mss_one (ms_ret (me_and (me_isi (me_var 0) (fs.fre 2 rfl) (fs.fre 3 rfl) (by decide +kernel) (by decide)) (me_one (me_not (me_isi (me_var 0) (fs.fre 2 rfl) (fs.fre 4 rfl) (by decide +kernel) (by decide)))))))
/-! is_short -/
abbrev N_is_short : List Str := ["value"]
abbrev P_is_short : List Str := ["value"]
theorem sc_is_short : FnScope N_is_short P_is_short (defScope (top 11)) := ⟨rfl, rfl, rfl, by decide +kernel, rfl, by decide +kernel, by decide +kernel⟩
noncomputable def b_is_short : SF := (sRet (eAnd (eCall (F_is_whole) (aCons (eVar 0) aNil)) (eChain oLtX oLtX (eUn oNeg (eC (.int (10 ^ 60)))) (eVar 0) (eC (.int (10 ^ 60))))))
noncomputable def F_is_short : VF := fnRun 1 1 b_is_short
theorem ok_is_short (fs : Fs K mg) : Own P0 w0 K mg base 2 "is_short" P_is_short F_is_short := by
  obtain ⟨⟨fd, F⟩, m⟩ := fs.dfn 1 (dd "is_short" 11) rfl
  exact own_ok (N := N_is_short) (b := b_is_short) F m sc_is_short (FunD.bindsN F fun _ _ _ _ _ _ us hl => match us, hl with | [_], _ => rfl) fun cdv A outer s H E hr =>
    (mss_one (ms_ret (me_and (me_own (ok_is_whole fs) hr (ma_cons (me_var 0) ma_nil)) (me_one (me_chain (op_ltX hr.u64) od_ltX (op_ltX hr.u64) od_ltX (me_un un_neg ud_neg (me_gint (fs.gin 0 rfl))) (me_var 0) (me_gint (fs.gin 0 rfl)))))))
/-! is_within -/
abbrev N_is_within : List Str := ["value", "least", "most"]
abbrev P_is_within : List Str := ["value", "least", "most"]
theorem sc_is_within : FnScope N_is_within P_is_within (defScope (top 12)) := ⟨rfl, rfl, rfl, by decide +kernel, rfl, by decide +kernel, by decide +kernel⟩
noncomputable def b_is_within : SF := (sRet (eAnd (eCall (F_is_whole) (aCons (eVar 0) aNil)) (eChain oLe oLe (eVar 1) (eVar 0) (eVar 2))))
noncomputable def F_is_within : VF := fnRun 3 3 b_is_within
theorem ok_is_within (fs : Fs K mg) : Own P0 w0 K mg base 2 "is_within" P_is_within F_is_within := by
  obtain ⟨⟨fd, F⟩, m⟩ := fs.dfn 2 (dd "is_within" 12) rfl
  exact own_ok (N := N_is_within) (b := b_is_within) F m sc_is_within (FunD.bindsN F fun _ _ _ _ _ _ us hl => match us, hl with | [_, _, _], _ => rfl) fun cdv A outer s H E hr =>
    (mss_one (ms_ret (me_and (me_own (ok_is_whole fs) hr (ma_cons (me_var 0) ma_nil)) (me_one (me_chain op_le od_le op_le od_le (me_var 1) (me_var 0) (me_var 2))))))
/-! is_pair -/
abbrev N_is_pair : List Str := ["value"]
abbrev P_is_pair : List Str := ["value"]
theorem sc_is_pair : FnScope N_is_pair P_is_pair (defScope (top 13)) := ⟨rfl, rfl, rfl, by decide +kernel, rfl, by decide +kernel, by decide +kernel⟩
noncomputable def b_is_pair : SF := (sRet (eAnd (eIsi "tuple" (eVar 0)) (eOp oEq (eCall oLen (aCons (eVar 0) aNil)) (eC (.int (2))))))
noncomputable def F_is_pair : VF := fnRun 1 1 b_is_pair
theorem ok_is_pair (fs : Fs K mg) : Own P0 w0 K mg base 1 "is_pair" P_is_pair F_is_pair := by
  obtain ⟨⟨fd, F⟩, m⟩ := fs.dfn 3 (dd "is_pair" 13) rfl
  exact own_ok (N := N_is_pair) (b := b_is_pair) F m sc_is_pair (FunD.bindsN F fun _ _ _ _ _ _ us hl => match us, hl with | [_], _ => rfl) fun cdv A outer s H E hr =>
    (mss_one (ms_ret (me_and (me_isi (me_var 0) (fs.fre 2 rfl) (fs.fre 5 rfl) (by decide +kernel) (by decide)) (me_one (me_cmp (op_eqD hr.u64) od_eq (me_callB call_lenX cd_len (fs.fre 0 rfl) (by decide +kernel) (ma_cons (me_var 0) ma_nil)) (me_gint (fs.gin 1 rfl)) (nomark _))))))
/-! is_ascending -/
abbrev N_is_ascending : List Str := ["items", "one", "other"]
abbrev P_is_ascending : List Str := ["items"]
theorem sc_is_ascending : FnScope N_is_ascending P_is_ascending (defScope (top 14)) := ⟨rfl, rfl, rfl, by decide +kernel, rfl, by decide +kernel, by decide +kernel⟩
noncomputable def b_is_ascending : SF := (sRet (eCall (oBools fun bs => bs.all id) (aCons (eFrz (eLc (iZpD (aCons (eVar 0) (aCons (eFrz (eSl (eVar 0) (pSo (eC (.int 1))) pNo)) aNil))) [1, 2] (gTp (gsCons (gNm 1) (gsCons (gNm 2) gsNil))) cYes (eOp oLtX (eVar 1) (eVar 2)))) aNil)))
noncomputable def F_is_ascending : VF := fnRun 1 3 b_is_ascending
theorem ok_is_ascending (fs : Fs K mg) : Own P0 w0 K mg base 1 "is_ascending" P_is_ascending F_is_ascending := by
  obtain ⟨⟨fd, F⟩, m⟩ := fs.dfn 4 (dd "is_ascending" 14) rfl
  exact own_ok (N := N_is_ascending) (b := b_is_ascending) F m sc_is_ascending (FunD.bindsN F fun _ _ _ _ _ _ us hl => match us, hl with | [_], _ => rfl) fun cdv A outer s H E hr =>
    (mss_one (ms_ret (me_callB (cr_all rfl) cd_bools (fs.fre 8 rfl) (by decide +kernel) (ma_cons (me_frz (me_lc [("one", 1), ("other", 2)] sc_is_ascending.nd (mi_zp (ma_cons (me_var 0) (ma_cons (me_frz (me_slice (me_var 0) (mo_some me_int) mo_none)) ma_nil)) (fs.fre 10 rfl)) (blkOk_by (by kernel_rfl)) (fun _ _ _ _ _ => (mg_tup (mgs_cons (mg_name 1 sc_is_ascending.nd) (mgs_cons (mg_name 2 sc_is_ascending.nd) mgs_nil)) (fun _ _ _ h => gsLen_cons (fun _ _ _ h => gsLen_cons (fun _ _ _ h => gsLen_nil h) h) h))) (fun _ _ _ _ _ => mts_nil) (fun _ _ _ _ _ => (me_cmp (op_ltX hr.u64) od_ltX (me_var 1) (me_var 2) (nomark _))))) ma_nil))))
/-! require_number -/
abbrev N_require_number : List Str := ["value", "least", "most"]
abbrev P_require_number : List Str := ["value", "least", "most"]
theorem sc_require_number : FnScope N_require_number P_require_number (defScope (top 15)) := ⟨rfl, rfl, rfl, by decide +kernel, rfl, by decide +kernel, by decide +kernel⟩
noncomputable def b_require_number : SF := (sIf (cOr (cNot (cE (eCall (F_is_short) (aCons (eVar 0) aNil)))) (cOr (cAnd (cE (eOp oNotN (eVar 1) (eC .none))) (cE (eOp oLtX (eVar 0) (eVar 1)))) (cAnd (cE (eOp oNotN (eVar 2) (eC .none))) (cE (eOp oGtX (eVar 0) (eVar 2)))))) (fun _ _ => none) sNil)
noncomputable def F_require_number : VF := fnRun 3 3 b_require_number
theorem ok_require_number (fs : Fs K mg) : Own P0 w0 K mg base 3 "require_number" P_require_number F_require_number := by
  obtain ⟨⟨fd, F⟩, m⟩ := fs.dfn 5 (dd "require_number" 15) rfl
  exact own_ok (N := N_require_number) (b := b_require_number) F m sc_require_number (FunD.bindsN F fun _ _ _ _ _ _ us hl => match us, hl with | [_, _, _], _ => rfl) fun cdv A outer s H E hr =>
    (mss_one (ms_if (mw_or (mt_not (mt_val (me_own (ok_is_short fs) hr (ma_cons (me_var 0) ma_nil)))) (mw_or (mw_and (mt_cmp op_notN od_notN (me_var 1) me_non (nomark _)) (mw_one (mt_cmp (op_ltX hr.u64) od_ltX (me_var 0) (me_var 1) (nomark _)))).pt (mw_one' (mw_and (mt_cmp op_notN od_notN (me_var 2) me_non (nomark _)) (mw_one (mt_cmp (op_gtX hr.u64) od_gtX (me_var 0) (me_var 2) (nomark _)))).pt))).pt mss_never mss_nil))
/-! are_told -/
abbrev N_are_told : List Str := ["n", "value", "one", "other"]
abbrev P_are_told : List Str := ["n", "value"]
theorem sc_are_told : FnScope N_are_told P_are_told (defScope (top 18)) := ⟨rfl, rfl, rfl, by decide +kernel, rfl, by decide +kernel, by decide +kernel⟩
noncomputable def b_are_told : SF := (sSeq (sIf (cOr (cNot (cE (eIsi "tuple" (eVar 1)))) (cNot (cE (eCall (oBools fun bs => bs.all id) (aCons (eFrz (eLc (iSeq (eVar 1)) [2] (gNm 2) cYes (eCall (F_is_pair) (aCons (eVar 2) aNil)))) aNil))))) (sRet (eC (.bool false))) sNil)
    (sSeq (sIf (cNot (cE (eCall (oBools fun bs => bs.all id) (aCons (eFrz (eLc (iSeq (eVar 1)) [2, 3] (gTp (gsCons (gNm 2) (gsCons (gNm 3) gsNil))) cYes (eAnd (eCall (F_is_within) (aCons (eVar 2) (aCons (eC (.int 0)) (aCons (eOp oSub (eVar 0) (eC (.int 1))) aNil)))) (eCall (F_is_within) (aCons (eVar 3) (aCons (eC (.int 0)) (aCons (eOp oSub (eVar 0) (eC (.int 1))) aNil))))))) aNil)))) (sRet (eC (.bool false))) sNil)
    (sRet (eCall (F_is_ascending) (aCons (eVar 1) aNil)))))
noncomputable def F_are_told : VF := fnRun 2 4 b_are_told
theorem ok_are_told (fs : Fs K mg) : Own P0 w0 K mg base 3 "are_told" P_are_told F_are_told := by
  obtain ⟨⟨fd, F⟩, m⟩ := fs.dfn 6 (dd "are_told" 18) rfl
  exact own_ok (N := N_are_told) (b := b_are_told) F m sc_are_told (FunD.bindsN F fun _ _ _ _ _ _ us hl => match us, hl with | [_, _], _ => rfl) fun cdv A outer s H E hr =>
    (mss_cons (ms_if (mw_or (mt_not (mt_val (me_isi (me_var 1) (fs.fre 2 rfl) (fs.fre 5 rfl) (by decide +kernel) (by decide)))) (mw_one' (mt_not (mt_val (me_callB (cr_all rfl) cd_bools (fs.fre 8 rfl) (by decide +kernel) (ma_cons (me_frz (me_lc [("one", 2)] sc_are_told.nd (mi_seq (me_var 1)) (blkOk_by (by kernel_rfl)) (fun _ _ _ _ _ => (mg_name 2 sc_are_told.nd)) (fun _ _ _ _ _ => mts_nil) (fun _ _ _ _ _ => (me_own (ok_is_pair fs) hr (ma_cons (me_var 2) ma_nil))))) ma_nil)))))).pt (mss_one (ms_ret me_bl)) mss_nil)
      (mss_cons (ms_if (mt_not (mt_val (me_callB (cr_all rfl) cd_bools (fs.fre 8 rfl) (by decide +kernel) (ma_cons (me_frz (me_lc [("one", 2), ("other", 3)] sc_are_told.nd (mi_seq (me_var 1)) (blkOk_by (by kernel_rfl)) (fun _ _ _ _ _ => (mg_tup (mgs_cons (mg_name 2 sc_are_told.nd) (mgs_cons (mg_name 3 sc_are_told.nd) mgs_nil)) (fun _ _ _ h => gsLen_cons (fun _ _ _ h => gsLen_cons (fun _ _ _ h => gsLen_nil h) h) h))) (fun _ _ _ _ _ => mts_nil) (fun _ _ _ _ _ => (me_and (me_own (ok_is_within fs) hr (ma_cons (me_var 2) (ma_cons me_int (ma_cons (me_op op_sub od_sub (me_var 0) me_int) ma_nil)))) (me_one (me_own (ok_is_within fs) hr (ma_cons (me_var 3) (ma_cons me_int (ma_cons (me_op op_sub od_sub (me_var 0) me_int) ma_nil))))))))) ma_nil)))) (mss_one (ms_ret me_bl)) mss_nil)
      (mss_one (ms_ret (me_own (ok_is_ascending fs) hr (ma_cons (me_var 1) ma_nil))))))
/-! has_form -/
abbrev N_has_form : List Str := ["value"]
abbrev P_has_form : List Str := ["value"]
theorem sc_has_form : FnScope N_has_form P_has_form (defScope (top 19)) := ⟨rfl, rfl, rfl, by decide +kernel, rfl, by decide +kernel, by decide +kernel⟩
noncomputable def b_has_form : SF := (sRet (eAnd (eCall (F_is_pair) (aCons (eVar 0) aNil)) (eAnd (eCall (F_is_within) (aCons (eOp oIx (eVar 0) (eC (.int 0))) (aCons (eC (.int 1)) (aCons (eC (.int (30))) aNil)))) (eCall (F_are_told) (aCons (eOp oIx (eVar 0) (eC (.int 0))) (aCons (eOp oIx (eVar 0) (eC (.int 1))) aNil))))))
noncomputable def F_has_form : VF := fnRun 1 1 b_has_form
theorem ok_has_form (fs : Fs K mg) : Own P0 w0 K mg base 4 "has_form" P_has_form F_has_form := by
  obtain ⟨⟨fd, F⟩, m⟩ := fs.dfn 7 (dd "has_form" 19) rfl
  exact own_ok (N := N_has_form) (b := b_has_form) F m sc_has_form (FunD.bindsN F fun _ _ _ _ _ _ us hl => match us, hl with | [_], _ => rfl) fun cdv A outer s H E hr =>
    (mss_one (ms_ret (me_and (me_own (ok_is_pair fs) hr (ma_cons (me_var 0) ma_nil)) (me_and (me_own (ok_is_within fs) hr (ma_cons (me_ix hr.u1 (me_var 0) me_int) (ma_cons me_int (ma_cons (me_gint (fs.gin 2 rfl)) ma_nil)))) (me_one (me_own (ok_are_told fs) hr (ma_cons (me_ix hr.u1 (me_var 0) me_int) (ma_cons (me_ix hr.u1 (me_var 0) me_int) ma_nil))))))))
/-! behinds_in -/
abbrev N_behinds_in : List Str := ["order", "found", "one", "other", "thing"]
abbrev P_behinds_in : List Str := ["order"]
theorem sc_behinds_in : FnScope N_behinds_in P_behinds_in (defScope (top 23)) := ⟨rfl, rfl, rfl, by decide +kernel, rfl, by decide +kernel, by decide +kernel⟩
noncomputable def b_behinds_in : SF := (sSeq (sRows 1 (iRng1D (aCons (eOp oIx (eVar 0) (eC (.int 0))) aNil)) (srcIx 0 1) 2 3 [(2, 3)])
    (sRet (eVar 1)))
noncomputable def F_behinds_in : VF := fnRun 1 5 b_behinds_in
theorem ok_behinds_in (fs : Fs K mg) : Own P0 w0 K mg base 1 "behinds_in" P_behinds_in F_behinds_in := by
  obtain ⟨⟨fd, F⟩, m⟩ := fs.dfn 11 (dd "behinds_in" 23) rfl
  exact own_ok (N := N_behinds_in) (b := b_behinds_in) F m sc_behinds_in (FunD.bindsN F fun _ _ _ _ _ _ us hl => match us, hl with | [_], _ => rfl) fun cdv A outer s H E hr =>
    (mss_rows 1 [("thing", 4)] (srcIx 0 1) sc_behinds_in.nd (mi_rng1 (ma_cons (me_ix hr.u1 (me_var 0) me_int) ma_nil) (fs.fre 1 rfl)) (blkOk_by (by kernel_rfl)) (fun _ _ _ _ _ => (mg_name 4 sc_behinds_in.nd)) (sw_true rfl rfl rfl (by kernel_rfl)) .never (mi_seq (me_ix hr.u1 (me_var 0) me_int)) (src_ix (by decide)) (mg_tup (mgs_cons (mg_name 2 sc_behinds_in.nd) (mgs_cons (mg_name 3 sc_behinds_in.nd) mgs_nil)) (fun _ _ _ h => gsLen_cons (fun _ _ _ h => gsLen_cons (fun _ _ _ h => gsLen_nil h) h) h)) (ps := [(2, 3)]) (mss_row1 ms_row) (mss_one (ms_ret (me_var 1))))
/-! is_order_in -/
abbrev N_is_order_in : List Str := ["value", "known", "goals", "pair", "one", "other", "third"]
abbrev P_is_order_in : List Str := ["value"]
theorem sc_is_order_in : FnScope N_is_order_in P_is_order_in (defScope (top 20)) := ⟨rfl, rfl, rfl, by decide +kernel, rfl, by decide +kernel, by decide +kernel⟩
noncomputable def b_is_order_in : SF := (sSeq (sIf (cNot (cE (eCall (F_has_form) (aCons (eVar 0) aNil)))) (sRet (eC (.bool false))) sNil)
    (sSeq (sSet 1 (eDc MO.dT asKeyT (iSeq (eOp oIx (eVar 0) (eC (.int 1)))) [3] (gNm 3) cYes (eVar 3) (eC (.bool true))))
    (sSeq (sIf (cE (eCall (oBools fun bs => bs.any id) (aCons (eFrz (eLc (iSeq (eOp oIx (eVar 0) (eC (.int 1)))) [4, 5] (gTp (gsCons (gNm 4) (gsCons (gNm 5) gsNil))) cYes (eOp oEq (eVar 4) (eVar 5)))) aNil))) (sRet (eC (.bool false))) sNil)
    (sSeq (sSet 2 (eFrz (eCall (F_behinds_in) (aCons (eVar 0) aNil))))
    (sRet (eCall (oBools fun bs => bs.all id) (aCons (eFrz (eLc (iSeq (eOp oIx (eVar 0) (eC (.int 1)))) [4, 5] (gTp (gsCons (gNm 4) (gsCons (gNm 5) gsNil))) cYes (eCall (oBools fun bs => bs.all id) (aCons (eFrz (eLc (iSeq (eOp oIx (eVar 2) (eVar 5))) [6] (gNm 6) cYes (eOp (oInX false) (eTup (aCons (eVar 4) (aCons (eVar 6) aNil))) (eVar 1)))) aNil)))) aNil)))))))
noncomputable def F_is_order_in : VF := fnRun 1 7 b_is_order_in
theorem ok_is_order_in (fs : Fs K mg) : Own P0 w0 K mg base 5 "is_order_in" P_is_order_in F_is_order_in := by
  obtain ⟨⟨fd, F⟩, m⟩ := fs.dfn 8 (dd "is_order_in" 20) rfl
  exact own_ok (N := N_is_order_in) (b := b_is_order_in) F m sc_is_order_in (FunD.bindsN F fun _ _ _ _ _ _ us hl => match us, hl with | [_], _ => rfl) fun cdv A outer s H E hr =>
    (mss_cons (ms_if (mt_not (mt_val (me_own (ok_has_form fs) hr (ma_cons (me_var 0) ma_nil)))) (mss_one (ms_ret me_bl)) mss_nil)
      (mss_cons (ms_set 1 sc_is_order_in.nd (me_dcT [("pair", 3)] hr.u0 sc_is_order_in.nd (mi_seq (me_ix hr.u1 (me_var 0) me_int)) (blkOk_by (by kernel_rfl)) (fun _ _ _ _ _ => (mg_name 3 sc_is_order_in.nd)) (fun _ _ _ _ _ => mts_nil) (fun _ _ _ _ _ => (me_var 3)) (fun _ _ _ _ _ => me_bl)))
      (mss_cons (ms_if (mt_val (me_callB (cr_any rfl) cd_bools (fs.fre 9 rfl) (by decide +kernel) (ma_cons (me_frz (me_lc [("one", 4), ("other", 5)] sc_is_order_in.nd (mi_seq (me_ix hr.u1 (me_var 0) me_int)) (blkOk_by (by kernel_rfl)) (fun _ _ _ _ _ => (mg_tup (mgs_cons (mg_name 4 sc_is_order_in.nd) (mgs_cons (mg_name 5 sc_is_order_in.nd) mgs_nil)) (fun _ _ _ h => gsLen_cons (fun _ _ _ h => gsLen_cons (fun _ _ _ h => gsLen_nil h) h) h))) (fun _ _ _ _ _ => mts_nil) (fun _ _ _ _ _ => (me_cmp (op_eqD hr.u64) od_eq (me_var 4) (me_var 5) (nomark _))))) ma_nil))) (mss_one (ms_ret me_bl)) mss_nil)
      (mss_cons (ms_set 2 sc_is_order_in.nd (me_frz (me_own (ok_behinds_in fs) hr (ma_cons (me_var 0) ma_nil))))
      (mss_one (ms_ret (me_callB (cr_all rfl) cd_bools (fs.fre 8 rfl) (by decide +kernel) (ma_cons (me_frz (me_lc [("one", 4), ("other", 5)] sc_is_order_in.nd (mi_seq (me_ix hr.u1 (me_var 0) me_int)) (blkOk_by (by kernel_rfl)) (fun _ _ _ _ _ => (mg_tup (mgs_cons (mg_name 4 sc_is_order_in.nd) (mgs_cons (mg_name 5 sc_is_order_in.nd) mgs_nil)) (fun _ _ _ h => gsLen_cons (fun _ _ _ h => gsLen_cons (fun _ _ _ h => gsLen_nil h) h) h))) (fun _ _ _ _ _ => mts_nil) (fun _ _ _ _ _ => (me_callB (cr_all rfl) cd_bools (fs.fre 8 rfl) (by decide +kernel) (ma_cons (me_frz (me_lc [("third", 6)] sc_is_order_in.nd (mi_seq (me_ix hr.u1 (me_var 2) (me_var 5))) (blkOk_by (by kernel_rfl)) (fun _ _ _ _ _ => (mg_name 6 sc_is_order_in.nd)) (fun _ _ _ _ _ => mts_nil) (fun _ _ _ _ _ => (me_in hr.u65 (me_tup (ma_cons (me_var 4) (ma_cons (me_var 6) ma_nil))) (me_var 1) (by with_unfolding_all rfl))))) ma_nil))))) ma_nil))))))))
/-! are_things -/
abbrev N_are_things : List Str := ["order", "value", "one"]
abbrev P_are_things : List Str := ["order", "value"]
theorem sc_are_things : FnScope N_are_things P_are_things (defScope (top 21)) := ⟨rfl, rfl, rfl, by decide +kernel, rfl, by decide +kernel, by decide +kernel⟩
noncomputable def b_are_things : SF := (sSeq (sIf (cOr (cNot (cE (eIsi "tuple" (eVar 1)))) (cNot (cE (eCall (oBools fun bs => bs.all id) (aCons (eFrz (eLc (iSeq (eVar 1)) [2] (gNm 2) cYes (eCall (F_is_within) (aCons (eVar 2) (aCons (eC (.int 0)) (aCons (eOp oSub (eOp oIx (eVar 0) (eC (.int 0))) (eC (.int 1))) aNil)))))) aNil))))) (sRet (eC (.bool false))) sNil)
    (sRet (eCall (F_is_ascending) (aCons (eVar 1) aNil))))
noncomputable def F_are_things : VF := fnRun 2 3 b_are_things
theorem ok_are_things (fs : Fs K mg) : Own P0 w0 K mg base 3 "are_things" P_are_things F_are_things := by
  obtain ⟨⟨fd, F⟩, m⟩ := fs.dfn 9 (dd "are_things" 21) rfl
  exact own_ok (N := N_are_things) (b := b_are_things) F m sc_are_things (FunD.bindsN F fun _ _ _ _ _ _ us hl => match us, hl with | [_, _], _ => rfl) fun cdv A outer s H E hr =>
    (mss_cons (ms_if (mw_or (mt_not (mt_val (me_isi (me_var 1) (fs.fre 2 rfl) (fs.fre 5 rfl) (by decide +kernel) (by decide)))) (mw_one' (mt_not (mt_val (me_callB (cr_all rfl) cd_bools (fs.fre 8 rfl) (by decide +kernel) (ma_cons (me_frz (me_lc [("one", 2)] sc_are_things.nd (mi_seq (me_var 1)) (blkOk_by (by kernel_rfl)) (fun _ _ _ _ _ => (mg_name 2 sc_are_things.nd)) (fun _ _ _ _ _ => mts_nil) (fun _ _ _ _ _ => (me_own (ok_is_within fs) hr (ma_cons (me_var 2) (ma_cons me_int (ma_cons (me_op op_sub od_sub (me_ix hr.u1 (me_var 0) me_int) me_int) ma_nil))))))) ma_nil)))))).pt (mss_one (ms_ret me_bl)) mss_nil)
      (mss_one (ms_ret (me_own (ok_is_ascending fs) hr (ma_cons (me_var 1) ma_nil)))))
/-! befores_in -/
abbrev N_befores_in : List Str := ["order", "found", "one", "other", "thing"]
abbrev P_befores_in : List Str := ["order"]
theorem sc_befores_in : FnScope N_befores_in P_befores_in (defScope (top 22)) := ⟨rfl, rfl, rfl, by decide +kernel, rfl, by decide +kernel, by decide +kernel⟩
noncomputable def b_befores_in : SF := (sSeq (sRows 1 (iRng1D (aCons (eOp oIx (eVar 0) (eC (.int 0))) aNil)) (srcIx 0 1) 2 3 [(3, 2)])
    (sRet (eVar 1)))
noncomputable def F_befores_in : VF := fnRun 1 5 b_befores_in
theorem ok_befores_in (fs : Fs K mg) : Own P0 w0 K mg base 1 "befores_in" P_befores_in F_befores_in := by
  obtain ⟨⟨fd, F⟩, m⟩ := fs.dfn 10 (dd "befores_in" 22) rfl
  exact own_ok (N := N_befores_in) (b := b_befores_in) F m sc_befores_in (FunD.bindsN F fun _ _ _ _ _ _ us hl => match us, hl with | [_], _ => rfl) fun cdv A outer s H E hr =>
    (mss_rows 1 [("thing", 4)] (srcIx 0 1) sc_befores_in.nd (mi_rng1 (ma_cons (me_ix hr.u1 (me_var 0) me_int) ma_nil) (fs.fre 1 rfl)) (blkOk_by (by kernel_rfl)) (fun _ _ _ _ _ => (mg_name 4 sc_befores_in.nd)) (sw_true rfl rfl rfl (by kernel_rfl)) .never (mi_seq (me_ix hr.u1 (me_var 0) me_int)) (src_ix (by decide)) (mg_tup (mgs_cons (mg_name 2 sc_befores_in.nd) (mgs_cons (mg_name 3 sc_befores_in.nd) mgs_nil)) (fun _ _ _ h => gsLen_cons (fun _ _ _ h => gsLen_cons (fun _ _ _ h => gsLen_nil h) h) h)) (ps := [(3, 2)]) (mss_row1 ms_row) (mss_one (ms_ret (me_var 1))))
/-! turned_in -/
abbrev N_turned_in : List Str := ["order", "one", "other"]
abbrev P_turned_in : List Str := ["order"]
theorem sc_turned_in : FnScope N_turned_in P_turned_in (defScope (top 24)) := ⟨rfl, rfl, rfl, by decide +kernel, rfl, by decide +kernel, by decide +kernel⟩
noncomputable def b_turned_in : SF := (sRet (eTup (aCons (eOp oIx (eVar 0) (eC (.int 0))) (aCons (eCall oTuple (aCons (eFrz (eCall oSorted (aCons (eFrz (eLc (iSeq (eOp oIx (eVar 0) (eC (.int 1)))) [1, 2] (gTp (gsCons (gNm 1) (gsCons (gNm 2) gsNil))) cYes (eTup (aCons (eVar 2) (aCons (eVar 1) aNil))))) aNil))) aNil)) aNil))))
noncomputable def F_turned_in : VF := fnRun 1 3 b_turned_in
theorem ok_turned_in (fs : Fs K mg) : Own P0 w0 K mg base 1 "turned_in" P_turned_in F_turned_in := by
  obtain ⟨⟨fd, F⟩, m⟩ := fs.dfn 12 (dd "turned_in" 24) rfl
  exact own_ok (N := N_turned_in) (b := b_turned_in) F m sc_turned_in (FunD.bindsN F fun _ _ _ _ _ _ us hl => match us, hl with | [_], _ => rfl) fun cdv A outer s H E hr =>
    (mss_one (ms_ret (me_tup (ma_cons (me_ix hr.u1 (me_var 0) me_int) (ma_cons (me_callTy call_tuple_of cd_tuple (fs.fre 5 rfl) (by decide +kernel) (ma_cons (me_frz (me_callB (cr_sortD hr.u70) cd_sorted (fs.fre 7 rfl) (by decide +kernel) (ma_cons (me_frz (me_lc [("one", 1), ("other", 2)] sc_turned_in.nd (mi_seq (me_ix hr.u1 (me_var 0) me_int)) (blkOk_by (by kernel_rfl)) (fun _ _ _ _ _ => (mg_tup (mgs_cons (mg_name 1 sc_turned_in.nd) (mgs_cons (mg_name 2 sc_turned_in.nd) mgs_nil)) (fun _ _ _ h => gsLen_cons (fun _ _ _ h => gsLen_cons (fun _ _ _ h => gsLen_nil h) h) h))) (fun _ _ _ _ _ => mts_nil) (fun _ _ _ _ _ => (me_tup (ma_cons (me_var 2) (ma_cons (me_var 1) ma_nil)))))) ma_nil))) ma_nil)) ma_nil)))))
/-! taken_in -/
abbrev N_taken_in : List Str := ["order", "things", "names", "kept", "at", "thing", "one", "other"]
abbrev P_taken_in : List Str := ["order", "things"]
theorem sc_taken_in : FnScope N_taken_in P_taken_in (defScope (top 25)) := ⟨rfl, rfl, rfl, by decide +kernel, rfl, by decide +kernel, by decide +kernel⟩
noncomputable def b_taken_in : SF := (sSeq (sSet 2 (eDc MO.dK asKeyP (iEnD (aCons (eVar 1) aNil)) [4, 5] (gTp (gsCons (gNm 4) (gsCons (gNm 5) gsNil))) cYes (eVar 5) (eVar 4)))
    (sSeq (sSet 3 (eFrz (eLc (iSeq (eOp oIx (eVar 0) (eC (.int 1)))) [6, 7] (gTp (gsCons (gNm 6) (gsCons (gNm 7) gsNil))) (cAnd (cE (eOp (oInX false) (eVar 6) (eVar 2))) (cE (eOp (oInX false) (eVar 7) (eVar 2)))) (eTup (aCons (eOp oIx (eVar 2) (eVar 6)) (aCons (eOp oIx (eVar 2) (eVar 7)) aNil))))))
    (sRet (eTup (aCons (eCall oLen (aCons (eVar 1) aNil)) (aCons (eCall oTuple (aCons (eFrz (eCall oSorted (aCons (eVar 3) aNil))) aNil)) aNil))))))
noncomputable def F_taken_in : VF := fnRun 2 8 b_taken_in
theorem ok_taken_in (fs : Fs K mg) : Own P0 w0 K mg base 1 "taken_in" P_taken_in F_taken_in := by
  obtain ⟨⟨fd, F⟩, m⟩ := fs.dfn 13 (dd "taken_in" 25) rfl
  exact own_ok (N := N_taken_in) (b := b_taken_in) F m sc_taken_in (FunD.bindsN F fun _ _ _ _ _ _ us hl => match us, hl with | [_, _], _ => rfl) fun cdv A outer s H E hr =>
    (mss_cons (ms_set 2 sc_taken_in.nd (me_dcK [("at", 4), ("thing", 5)] sc_taken_in.nd (mi_en (ma_cons (me_var 1) ma_nil) (fs.fre 14 rfl)) (blkOk_by (by kernel_rfl)) (fun _ _ _ _ _ => (mg_tup (mgs_cons (mg_name 4 sc_taken_in.nd) (mgs_cons (mg_name 5 sc_taken_in.nd) mgs_nil)) (fun _ _ _ h => gsLen_cons (fun _ _ _ h => gsLen_cons (fun _ _ _ h => gsLen_nil h) h) h))) (fun _ _ _ _ _ => mts_nil) (fun _ _ _ _ _ => (me_var 5)) (fun _ _ _ _ _ => (me_var 4))))
      (mss_cons (ms_setLcF 3 [("one", 6), ("other", 7)] sc_taken_in.nd (mi_seq (me_ix hr.u1 (me_var 0) me_int)) (blkOk_by (by kernel_rfl)) (fun _ _ _ _ _ => (mg_tup (mgs_cons (mg_name 6 sc_taken_in.nd) (mgs_cons (mg_name 7 sc_taken_in.nd) mgs_nil)) (fun _ _ _ h => gsLen_cons (fun _ _ _ h => gsLen_cons (fun _ _ _ h => gsLen_nil h) h) h))) (fun _ _ _ _ _ => (mts_one (mw_and (mt_in hr.u65 (me_var 6) (me_var 2) (by with_unfolding_all rfl)) (mw_one (mt_in hr.u65 (me_var 7) (me_var 2) (by with_unfolding_all rfl)))).pt)) (fun _ _ _ _ _ => (me_tup (ma_cons (me_ix hr.u1 (me_var 2) (me_var 6)) (ma_cons (me_ix hr.u1 (me_var 2) (me_var 7)) ma_nil)))) (sw_true rfl rfl rfl (by kernel_rfl)))
      (mss_one (ms_ret (me_tup (ma_cons (me_callB call_lenX cd_len (fs.fre 0 rfl) (by decide +kernel) (ma_cons (me_var 1) ma_nil)) (ma_cons (me_callTy call_tuple_of cd_tuple (fs.fre 5 rfl) (by decide +kernel) (ma_cons (me_frz (me_callB (cr_sortD hr.u70) cd_sorted (fs.fre 7 rfl) (by decide +kernel) (ma_cons (me_var 3) ma_nil))) ma_nil)) ma_nil)))))))
/-! tied_in -/
abbrev N_tied_in : List Str := ["order", "one", "other"]
abbrev P_tied_in : List Str := ["order"]
theorem sc_tied_in : FnScope N_tied_in P_tied_in (defScope (top 26)) := ⟨rfl, rfl, rfl, by decide +kernel, rfl, by decide +kernel, by decide +kernel⟩
noncomputable def b_tied_in : SF := (sRet (eCall oTuple (aCons (eFrz (eCall oSorted (aCons (eFrz (eLc (iSeq (eOp oIx (eVar 0) (eC (.int 1)))) [1, 2] (gTp (gsCons (gNm 1) (gsCons (gNm 2) gsNil))) cYes (eTup (aCons (eCall oMin2 (aCons (eVar 1) (aCons (eVar 2) aNil))) (aCons (eCall oMax2 (aCons (eVar 1) (aCons (eVar 2) aNil))) aNil))))) aNil))) aNil)))
noncomputable def F_tied_in : VF := fnRun 1 3 b_tied_in
theorem ok_tied_in (fs : Fs K mg) : Own P0 w0 K mg base 1 "tied_in" P_tied_in F_tied_in := by
  obtain ⟨⟨fd, F⟩, m⟩ := fs.dfn 14 (dd "tied_in" 26) rfl
  exact own_ok (N := N_tied_in) (b := b_tied_in) F m sc_tied_in (FunD.bindsN F fun _ _ _ _ _ _ us hl => match us, hl with | [_], _ => rfl) fun cdv A outer s H E hr =>
    (mss_one (ms_ret (me_callTy call_tuple_of cd_tuple (fs.fre 5 rfl) (by decide +kernel) (ma_cons (me_frz (me_callB (cr_sortD hr.u70) cd_sorted (fs.fre 7 rfl) (by decide +kernel) (ma_cons (me_frz (me_lc [("one", 1), ("other", 2)] sc_tied_in.nd (mi_seq (me_ix hr.u1 (me_var 0) me_int)) (blkOk_by (by kernel_rfl)) (fun _ _ _ _ _ => (mg_tup (mgs_cons (mg_name 1 sc_tied_in.nd) (mgs_cons (mg_name 2 sc_tied_in.nd) mgs_nil)) (fun _ _ _ h => gsLen_cons (fun _ _ _ h => gsLen_cons (fun _ _ _ h => gsLen_nil h) h) h))) (fun _ _ _ _ _ => mts_nil) (fun _ _ _ _ _ => (me_tup (ma_cons (me_callB (call_min2 rfl) cd_two (fs.fre 13 rfl) (by decide +kernel) (ma_cons (me_var 1) (ma_cons (me_var 2) ma_nil))) (ma_cons (me_callB (call_max2 rfl) cd_two (fs.fre 12 rfl) (by decide +kernel) (ma_cons (me_var 1) (ma_cons (me_var 2) ma_nil))) ma_nil)))))) ma_nil))) ma_nil))))
/-! free_in -/
abbrev N_free_in : List Str := ["order", "tied", "found", "one", "tie", "other"]
abbrev P_free_in : List Str := ["order"]
theorem sc_free_in : FnScope N_free_in P_free_in (defScope (top 27)) := ⟨rfl, rfl, rfl, by decide +kernel, rfl, by decide +kernel, by decide +kernel⟩
noncomputable def b_free_in : SF := (sSeq (sPar 1 2 (aCons (eDc MO.dT asKeyT (iSeq (eCall (F_tied_in) (aCons (eVar 0) aNil))) [4] (gNm 4) cYes (eVar 4) (eC (.bool true))) (aCons (eLst aNil) aNil)))
    (sSeq (sFor (iRng1D (aCons (eOp oIx (eVar 0) (eC (.int 0))) aNil)) (gNm 3) (sDrop (eMt oExtend (eVar 2) (aCons (eFrz (eLc (iRng2D (aCons (eOp oAdd (eVar 3) (eC (.int 1))) (aCons (eOp oIx (eVar 0) (eC (.int 0))) aNil))) [5] (gNm 5) (cE (eOp (oInX true) (eTup (aCons (eVar 3) (aCons (eVar 5) aNil))) (eVar 1))) (eTup (aCons (eVar 3) (aCons (eVar 5) aNil))))) aNil))))
    (sRet (eCall oTuple (aCons (eVar 2) aNil)))))
noncomputable def F_free_in : VF := fnRun 1 6 b_free_in
theorem ok_free_in (fs : Fs K mg) : Own P0 w0 K mg base 2 "free_in" P_free_in F_free_in := by
  obtain ⟨⟨fd, F⟩, m⟩ := fs.dfn 15 (dd "free_in" 27) rfl
  exact own_ok (N := N_free_in) (b := b_free_in) F m sc_free_in (FunD.bindsN F fun _ _ _ _ _ _ us hl => match us, hl with | [_], _ => rfl) fun cdv A outer s H E hr =>
    (mss_cons (ms_parC 1 2 sc_free_in.nd (ma_cons (me_dcT [("tie", 4)] hr.u0 sc_free_in.nd (mi_seq (me_own (ok_tied_in fs) hr (ma_cons (me_var 0) ma_nil))) (blkOk_by (by kernel_rfl)) (fun _ _ _ _ _ => (mg_name 4 sc_free_in.nd)) (fun _ _ _ _ _ => mts_nil) (fun _ _ _ _ _ => (me_var 4)) (fun _ _ _ _ _ => me_bl)) (ma_cons (me_lst ma_nil) ma_nil)))
      (mss_cons (ms_for .never (mi_rng1 (ma_cons (me_ix hr.u1 (me_var 0) me_int) ma_nil) (fs.fre 1 rfl)) (mg_name 3 sc_free_in.nd) (mss_one (ms_expr (me_extend (me_var 2) (ma_cons (me_frz (me_lc [("other", 5)] sc_free_in.nd (mi_rng2 (ma_cons (me_op op_addP od_add (me_var 3) me_int) (ma_cons (me_ix hr.u1 (me_var 0) me_int) ma_nil)) (fs.fre 1 rfl)) (blkOk_by (by kernel_rfl)) (fun _ _ _ _ _ => (mg_name 5 sc_free_in.nd)) (fun _ _ _ _ _ => (mts_one (mt_notIn hr.u65 (me_tup (ma_cons (me_var 3) (ma_cons (me_var 5) ma_nil))) (me_var 1) (by with_unfolding_all rfl)))) (fun _ _ _ _ _ => (me_tup (ma_cons (me_var 3) (ma_cons (me_var 5) ma_nil)))))) ma_nil)))))
      (mss_one (ms_ret (me_callTy call_tuple_of cd_tuple (fs.fre 5 rfl) (by decide +kernel) (ma_cons (me_var 2) ma_nil))))))
/-! partners_in -/
abbrev N_partners_in : List Str := ["n", "pairs", "found", "one", "other", "thing", "row"]
abbrev P_partners_in : List Str := ["n", "pairs"]
theorem sc_partners_in : FnScope N_partners_in P_partners_in (defScope (top 28)) := ⟨rfl, rfl, rfl, by decide +kernel, rfl, by decide +kernel, by decide +kernel⟩
noncomputable def b_partners_in : SF := (sSeq (sRows 2 (iRng1D (aCons (eVar 0) aNil)) (srcVar 1) 3 4 [(3, 4), (4, 3)])
    (sRet (eLc (iSeq (eVar 2)) [6] (gNm 6) cYes (eFrz (eCall oSorted (aCons (eVar 6) aNil))))))
noncomputable def F_partners_in : VF := fnRun 2 7 b_partners_in
theorem ok_partners_in (fs : Fs K mg) : Own P0 w0 K mg base 1 "partners_in" P_partners_in F_partners_in := by
  obtain ⟨⟨fd, F⟩, m⟩ := fs.dfn 16 (dd "partners_in" 28) rfl
  exact own_ok (N := N_partners_in) (b := b_partners_in) F m sc_partners_in (FunD.bindsN F fun _ _ _ _ _ _ us hl => match us, hl with | [_, _], _ => rfl) fun cdv A outer s H E hr =>
    (mss_rows 2 [("thing", 5)] (srcVar 1) sc_partners_in.nd (mi_rng1 (ma_cons (me_var 0) ma_nil) (fs.fre 1 rfl)) (blkOk_by (by kernel_rfl)) (fun _ _ _ _ _ => (mg_name 5 sc_partners_in.nd)) (sw_true rfl rfl rfl (by kernel_rfl)) .never (mi_seq (me_var 1)) src_var (mg_tup (mgs_cons (mg_name 3 sc_partners_in.nd) (mgs_cons (mg_name 4 sc_partners_in.nd) mgs_nil)) (fun _ _ _ h => gsLen_cons (fun _ _ _ h => gsLen_cons (fun _ _ _ h => gsLen_nil h) h) h)) (ps := [(3, 4), (4, 3)]) (mss_row ms_row (mss_row1 ms_row)) (mss_one (ms_ret (me_lc [("row", 6)] sc_partners_in.nd (mi_seq (me_var 2)) (blkOk_by (by kernel_rfl)) (fun _ _ _ _ _ => (mg_name 6 sc_partners_in.nd)) (fun _ _ _ _ _ => mts_nil) (fun _ _ _ _ _ => (me_frz (me_callB (cr_sortD hr.u70) cd_sorted (fs.fre 7 rfl) (by decide +kernel) (ma_cons (me_var 6) ma_nil))))))))
/-! require_order -/
abbrev N_require_order : List Str := ["value"]
abbrev P_require_order : List Str := ["value"]
theorem sc_require_order : FnScope N_require_order P_require_order (defScope (top 29)) := ⟨rfl, rfl, rfl, by decide +kernel, rfl, by decide +kernel, by decide +kernel⟩
noncomputable def b_require_order : SF := (sIf (cNot (cE (eCall (F_is_order_in) (aCons (eVar 0) aNil)))) (fun _ _ => none) sNil)
noncomputable def F_require_order : VF := fnRun 1 1 b_require_order
theorem ok_require_order (fs : Fs K mg) : Own P0 w0 K mg base 6 "require_order" P_require_order F_require_order := by
  obtain ⟨⟨fd, F⟩, m⟩ := fs.dfn 17 (dd "require_order" 29) rfl
  exact own_ok (N := N_require_order) (b := b_require_order) F m sc_require_order (FunD.bindsN F fun _ _ _ _ _ _ us hl => match us, hl with | [_], _ => rfl) fun cdv A outer s H E hr =>
    (mss_one (ms_if (mt_not (mt_val (me_own (ok_is_order_in fs) hr (ma_cons (me_var 0) ma_nil)))) mss_never mss_nil))
/-! require_things -/
abbrev N_require_things : List Str := ["order", "value"]
abbrev P_require_things : List Str := ["order", "value"]
theorem sc_require_things : FnScope N_require_things P_require_things (defScope (top 30)) := ⟨rfl, rfl, rfl, by decide +kernel, rfl, by decide +kernel, by decide +kernel⟩
noncomputable def b_require_things : SF := (sIf (cNot (cE (eCall (F_are_things) (aCons (eVar 0) (aCons (eVar 1) aNil))))) (fun _ _ => none) sNil)
noncomputable def F_require_things : VF := fnRun 2 2 b_require_things
theorem ok_require_things (fs : Fs K mg) : Own P0 w0 K mg base 4 "require_things" P_require_things F_require_things := by
  obtain ⟨⟨fd, F⟩, m⟩ := fs.dfn 18 (dd "require_things" 30) rfl
  exact own_ok (N := N_require_things) (b := b_require_things) F m sc_require_things (FunD.bindsN F fun _ _ _ _ _ _ us hl => match us, hl with | [_, _], _ => rfl) fun cdv A outer s H E hr =>
    (mss_one (ms_if (mt_not (mt_val (me_own (ok_are_things fs) hr (ma_cons (me_var 0) (ma_cons (me_var 1) ma_nil))))) mss_never mss_nil))
/-! turned -/
abbrev N_turned : List Str := ["order"]
abbrev P_turned : List Str := ["order"]
theorem sc_turned : FnScope N_turned P_turned (defScope (top 31)) := ⟨rfl, rfl, rfl, by decide +kernel, rfl, by decide +kernel, by decide +kernel⟩
noncomputable def b_turned : SF := (sSeq (sDrop (eCall (F_require_order) (aCons (eVar 0) aNil)))
    (sRet (eCall (F_turned_in) (aCons (eVar 0) aNil))))
noncomputable def F_turned : VF := fnRun 1 1 b_turned
theorem ok_turned (fs : Fs K mg) : Own P0 w0 K mg base 7 "turned" P_turned F_turned := by
  obtain ⟨⟨fd, F⟩, m⟩ := fs.dfn 19 (dd "turned" 31) rfl
  exact own_ok (N := N_turned) (b := b_turned) F m sc_turned (FunD.bindsN F fun _ _ _ _ _ _ us hl => match us, hl with | [_], _ => rfl) fun cdv A outer s H E hr =>
    (mss_cons (ms_expr (me_own (ok_require_order fs) hr (ma_cons (me_var 0) ma_nil)))
      (mss_one (ms_ret (me_own (ok_turned_in fs) hr (ma_cons (me_var 0) ma_nil)))))
/-! taken -/
abbrev N_taken : List Str := ["order", "things"]
abbrev P_taken : List Str := ["order", "things"]
theorem sc_taken : FnScope N_taken P_taken (defScope (top 32)) := ⟨rfl, rfl, rfl, by decide +kernel, rfl, by decide +kernel, by decide +kernel⟩
noncomputable def b_taken : SF := (sSeq (sDrop (eCall (F_require_order) (aCons (eVar 0) aNil)))
    (sSeq (sDrop (eCall (F_require_things) (aCons (eVar 0) (aCons (eVar 1) aNil))))
    (sSeq (sIf (cE (eOp oEq (eVar 1) (eTup aNil))) (fun _ _ => none) sNil)
    (sRet (eCall (F_taken_in) (aCons (eVar 0) (aCons (eVar 1) aNil)))))))
noncomputable def F_taken : VF := fnRun 2 2 b_taken
theorem ok_taken (fs : Fs K mg) : Own P0 w0 K mg base 7 "taken" P_taken F_taken := by
  obtain ⟨⟨fd, F⟩, m⟩ := fs.dfn 20 (dd "taken" 32) rfl
  exact own_ok (N := N_taken) (b := b_taken) F m sc_taken (FunD.bindsN F fun _ _ _ _ _ _ us hl => match us, hl with | [_, _], _ => rfl) fun cdv A outer s H E hr =>
    (mss_cons (ms_expr (me_own (ok_require_order fs) hr (ma_cons (me_var 0) ma_nil)))
      (mss_cons (ms_expr (me_own (ok_require_things fs) hr (ma_cons (me_var 0) (ma_cons (me_var 1) ma_nil))))
      (mss_cons (ms_if (mt_cmp (op_eqD hr.u64) od_eq (me_var 1) (me_tup ma_nil) (nomark _)) mss_never mss_nil)
      (mss_one (ms_ret (me_own (ok_taken_in fs) hr (ma_cons (me_var 0) (ma_cons (me_var 1) ma_nil))))))))
/-! things_of_term -/
abbrev N_things_of_term : List Str := ["value", "found", "member"]
abbrev P_things_of_term : List Str := ["value"]
theorem sc_things_of_term : FnScope N_things_of_term P_things_of_term (defScope (top 39)) := ⟨rfl, rfl, rfl, by decide +kernel, rfl, by decide +kernel, by decide +kernel⟩
noncomputable def b_things_of_term (R : VF) : SF := (sSeq (sIf (cNot (cE (eIsi "tuple" (eVar 0)))) (sRet (eLst (aCons (eIf (cE (eCall (F_is_within) (aCons (eVar 0) (aCons (eC (.int 0)) (aCons (eC (.int (30))) aNil))))) (eVar 0) (eC .none)) aNil))) sNil)
    (sSeq (sIf (cOr (cE (eOp oLtX (eCall oLen (aCons (eVar 0) aNil)) (eC (.int (3))))) (cOr (cNot (cE (eIsi "str" (eOp oIx (eVar 0) (eC (.int 0)))))) (cE (eUn (oInG tu_WORDS true) (eOp oIx (eVar 0) (eC (.int 0))))))) (sRet (eLst (aCons (eC .none) aNil))) sNil)
    (sSeq (sSet 1 (eLst aNil))
    (sSeq (sFor (iSeq (eFrz (eSl (eVar 0) (pSo (eC (.int 1))) pNo))) (gNm 2) (sSeq (sIf (cAnd (cE (eIsi "tuple" (eVar 2))) (cAnd (cE (eOp oNe (eVar 2) (eTup aNil))) (cAnd (cE (eIsi "str" (eOp oIx (eVar 2) (eC (.int 0))))) (cE (eOp oEq (eOp oIx (eVar 2) (eC (.int 0))) (eOp oIx (eVar 0) (eC (.int 0)))))))) (sRet (eLst (aCons (eC .none) aNil))) sNil)
    (sDrop (eMt oExtend (eVar 1) (aCons (eFrz (eCall R (aCons (eVar 2) aNil))) aNil)))))
    (sRet (eVar 1))))))
noncomputable def F_things_of_term : Nat → VF := recF 1 3 b_things_of_term
theorem ok_things_of_term (fs : Fs K mg) : ∀ i : Nat, Own P0 w0 K mg base (3 + i) "things_of_term" P_things_of_term (F_things_of_term i)
  | 0 => by
    obtain ⟨⟨fd, F⟩, m⟩ := fs.dfn 21 (dd "things_of_term" 39) rfl
    exact .none (FunD.bindsN F fun _ _ _ _ _ _ us hl => match us, hl with | [_], _ => rfl) F.kp m
  | j + 1 => by
    obtain ⟨⟨fd, F⟩, m⟩ := fs.dfn 21 (dd "things_of_term" 39) rfl
    have hR := ok_things_of_term fs j
    generalize hRR : F_things_of_term j = R at hR
    have h0 := own_ok (N := N_things_of_term) (b := b_things_of_term R) F m sc_things_of_term (FunD.bindsN F fun _ _ _ _ _ _ us hl => match us, hl with | [_], _ => rfl) fun cdv A outer s H E hr =>
      (mss_cons (ms_if (mt_not (mt_val (me_isi (me_var 0) (fs.fre 2 rfl) (fs.fre 5 rfl) (by decide +kernel) (by decide)))) (mss_one (ms_ret (me_lst (ma_cons (me_if (mt_val (me_own (ok_is_within fs) hr (ma_cons (me_var 0) (ma_cons me_int (ma_cons (me_gint (fs.gin 2 rfl)) ma_nil))) (Nat.le_trans (by decide : 2 ≤ 3) (Nat.le_add_right _ _)))) (me_var 0) me_non) ma_nil)))) mss_nil)
      (mss_cons (ms_if (mw_or (mt_cmp (op_ltX hr.u64) od_ltX (me_callB call_lenX cd_len (fs.fre 0 rfl) (by decide +kernel) (ma_cons (me_var 0) ma_nil)) (me_gint (fs.gin 3 rfl)) (nomark _)) (mw_or (mt_not (mt_val (me_isi (me_ix hr.u1 (me_var 0) me_int) (fs.fre 2 rfl) (fs.fre 16 rfl) (by decide +kernel) (by decide)))) (mw_one' (mt_notInG (me_ix hr.u1 (me_var 0) me_int) (fs.gtp 0 rfl).1 (fs.gtp 0 rfl).2 tr_WORDS)))).pt (mss_one (ms_ret (me_lst (ma_cons me_non ma_nil)))) mss_nil)
      (mss_cons (ms_set 1 sc_things_of_term.nd (me_lst ma_nil))
      (mss_cons (ms_for .never (mi_seq (me_frz (me_slice (me_var 0) (mo_some me_int) mo_none))) (mg_name 2 sc_things_of_term.nd) (mss_cons (ms_if (mw_and (mt_val (me_isi (me_var 2) (fs.fre 2 rfl) (fs.fre 5 rfl) (by decide +kernel) (by decide))) (mw_and (mt_cmp (op_neD hr.u64) od_ne (me_var 2) (me_tup ma_nil) (nomark _)) (mw_and (mt_val (me_isi (me_ix hr.u1 (me_var 2) me_int) (fs.fre 2 rfl) (fs.fre 16 rfl) (by decide +kernel) (by decide))) (mw_one (mt_cmp (op_eqD hr.u64) od_eq (me_ix hr.u1 (me_var 2) me_int) (me_ix hr.u1 (me_var 0) me_int) (nomark _)))))).pt (mss_one (ms_ret (me_lst (ma_cons me_non ma_nil)))) mss_nil)
      (mss_one (ms_expr (me_extend (me_var 1) (ma_cons (me_frz (me_own hR hr (ma_cons (me_var 2) ma_nil) (Nat.le_refl _))) ma_nil))))))
      (mss_one (ms_ret (me_var 1)))))))
    rw [← hRR] at h0
    exact h0
/-! is_term_in -/
abbrev N_is_term_in : List Str := ["n", "value", "things"]
abbrev P_is_term_in : List Str := ["n", "value"]
theorem sc_is_term_in : FnScope N_is_term_in P_is_term_in (defScope (top 40)) := ⟨rfl, rfl, rfl, by decide +kernel, rfl, by decide +kernel, by decide +kernel⟩
noncomputable def b_is_term_in : SF := (sSeq (sSet 2 (eFrz (eCall (F_things_of_term 40) (aCons (eVar 1) aNil))))
    (sRet (eAnd (eOp (oInX true) (eC .none) (eVar 2)) (eOp oEq (eFrz (eCall oSorted (aCons (eVar 2) aNil))) (eFrz (eLstRg (rg1 (eVar 0))))))))
noncomputable def F_is_term_in : VF := fnRun 2 3 b_is_term_in
theorem ok_is_term_in (fs : Fs K mg) : Own P0 w0 K mg base 44 "is_term_in" P_is_term_in F_is_term_in := by
  obtain ⟨⟨fd, F⟩, m⟩ := fs.dfn 22 (dd "is_term_in" 40) rfl
  exact own_ok (N := N_is_term_in) (b := b_is_term_in) F m sc_is_term_in (FunD.bindsN F fun _ _ _ _ _ _ us hl => match us, hl with | [_, _], _ => rfl) fun cdv A outer s H E hr =>
    (mss_cons (ms_set 2 sc_is_term_in.nd (me_frz (me_own (ok_things_of_term fs 40) hr (ma_cons (me_var 1) ma_nil))))
      (mss_one (ms_ret (me_and (me_notIn hr.u65 me_non (me_var 2) (by with_unfolding_all rfl)) (me_one (me_cmp (op_eqD hr.u64) od_eq (me_frz (me_callB (cr_sortD hr.u70) cd_sorted (fs.fre 7 rfl) (by decide +kernel) (ma_cons (me_var 2) ma_nil))) (me_frz (me_lstRg (mr_1 (me_var 0) (fs.fre 1 rfl)) (fs.fre 6 rfl))) (nomark _)))))))
/-! sized -/
abbrev N_sized : List Str := ["term", "member"]
abbrev P_sized : List Str := ["term"]
theorem sc_sized : FnScope N_sized P_sized (defScope (top 41)) := ⟨rfl, rfl, rfl, by decide +kernel, rfl, by decide +kernel, by decide +kernel⟩
noncomputable def b_sized (R : VF) : SF := (sRet (eIf (cE (eIsi "tuple" (eVar 0))) (eCall oSum (aCons (eFrz (eLc (iSeq (eFrz (eSl (eVar 0) (pSo (eC (.int 1))) pNo))) [1] (gNm 1) cYes (eCall R (aCons (eVar 1) aNil)))) aNil)) (eC (.int 1))))
noncomputable def F_sized : Nat → VF := recF 1 2 b_sized
theorem ok_sized (fs : Fs K mg) : ∀ i : Nat, Own P0 w0 K mg base (1 + i) "sized" P_sized (F_sized i)
  | 0 => by
    obtain ⟨⟨fd, F⟩, m⟩ := fs.dfn 23 (dd "sized" 41) rfl
    exact .none (FunD.bindsN F fun _ _ _ _ _ _ us hl => match us, hl with | [_], _ => rfl) F.kp m
  | j + 1 => by
    obtain ⟨⟨fd, F⟩, m⟩ := fs.dfn 23 (dd "sized" 41) rfl
    have hR := ok_sized fs j
    generalize hRR : F_sized j = R at hR
    have h0 := own_ok (N := N_sized) (b := b_sized R) F m sc_sized (FunD.bindsN F fun _ _ _ _ _ _ us hl => match us, hl with | [_], _ => rfl) fun cdv A outer s H E hr =>
      (mss_one (ms_ret (me_if (mt_val (me_isi (me_var 0) (fs.fre 2 rfl) (fs.fre 5 rfl) (by decide +kernel) (by decide))) (me_callB (cr_sum rfl) cd_sum (fs.fre 11 rfl) (by decide +kernel) (ma_cons (me_frz (me_lc [("member", 1)] sc_sized.nd (mi_seq (me_frz (me_slice (me_var 0) (mo_some me_int) mo_none))) (blkOk_by (by kernel_rfl)) (fun _ _ _ _ _ => (mg_name 1 sc_sized.nd)) (fun _ _ _ _ _ => mts_nil) (fun _ _ _ _ _ => (me_own hR hr (ma_cons (me_var 1) ma_nil) (Nat.le_refl _))))) ma_nil)) me_int)))
    rw [← hRR] at h0
    exact h0
/-! least_of -/
abbrev N_least_of : List Str := ["term", "member"]
abbrev P_least_of : List Str := ["term"]
theorem sc_least_of : FnScope N_least_of P_least_of (defScope (top 42)) := ⟨rfl, rfl, rfl, by decide +kernel, rfl, by decide +kernel, by decide +kernel⟩
noncomputable def b_least_of (R : VF) : SF := (sRet (eIf (cE (eIsi "tuple" (eVar 0))) (eCall oMinL (aCons (eFrz (eLc (iSeq (eFrz (eSl (eVar 0) (pSo (eC (.int 1))) pNo))) [1] (gNm 1) cYes (eCall R (aCons (eVar 1) aNil)))) aNil)) (eVar 0)))
noncomputable def F_least_of : Nat → VF := recF 1 2 b_least_of
theorem ok_least_of (fs : Fs K mg) : ∀ i : Nat, Own P0 w0 K mg base (1 + i) "least_of" P_least_of (F_least_of i)
  | 0 => by
    obtain ⟨⟨fd, F⟩, m⟩ := fs.dfn 24 (dd "least_of" 42) rfl
    exact .none (FunD.bindsN F fun _ _ _ _ _ _ us hl => match us, hl with | [_], _ => rfl) F.kp m
  | j + 1 => by
    obtain ⟨⟨fd, F⟩, m⟩ := fs.dfn 24 (dd "least_of" 42) rfl
    have hR := ok_least_of fs j
    generalize hRR : F_least_of j = R at hR
    have h0 := own_ok (N := N_least_of) (b := b_least_of R) F m sc_least_of (FunD.bindsN F fun _ _ _ _ _ _ us hl => match us, hl with | [_], _ => rfl) fun cdv A outer s H E hr =>
      (mss_one (ms_ret (me_if (mt_val (me_isi (me_var 0) (fs.fre 2 rfl) (fs.fre 5 rfl) (by decide +kernel) (by decide))) (me_callB (cr_min rfl) cd_minL (fs.fre 13 rfl) (by decide +kernel) (ma_cons (me_frz (me_lc [("member", 1)] sc_least_of.nd (mi_seq (me_frz (me_slice (me_var 0) (mo_some me_int) mo_none))) (blkOk_by (by kernel_rfl)) (fun _ _ _ _ _ => (mg_name 1 sc_least_of.nd)) (fun _ _ _ _ _ => mts_nil) (fun _ _ _ _ _ => (me_own hR hr (ma_cons (me_var 1) ma_nil) (Nat.le_refl _))))) ma_nil)) (me_var 0))))
    rw [← hRR] at h0
    exact h0
/-! pairs_of_term -/
abbrev N_pairs_of_term : List Str := ["term", "found", "ahead", "member", "things", "one", "other"]
abbrev P_pairs_of_term : List Str := ["term"]
theorem sc_pairs_of_term : FnScope N_pairs_of_term P_pairs_of_term (defScope (top 43)) := ⟨rfl, rfl, rfl, by decide +kernel, rfl, by decide +kernel, by decide +kernel⟩
noncomputable def b_pairs_of_term (R : VF) : SF := (sSeq (sIf (cNot (cE (eIsi "tuple" (eVar 0)))) (sRet (eLst aNil)) sNil)
    (sSeq (sPar 1 2 (aCons (eLst aNil) (aCons (eLst aNil) aNil)))
    (sSeq (sFor (iSeq (eFrz (eSl (eVar 0) (pSo (eC (.int 1))) pNo))) (gNm 3) (sSeq (sDrop (eMt oExtend (eVar 1) (aCons (eFrz (eCall R (aCons (eVar 3) aNil))) aNil)))
    (sSeq (sSet 4 (eFrz (eCall (F_things_of_term 40) (aCons (eVar 3) aNil))))
    (sSeq (sIf (cE (eOp oEq (eOp oIx (eVar 0) (eC (.int 0))) (eC (.str "behind")))) (sFor (iSeq (eVar 2)) (gNm 5) (sDrop (eMt oExtend (eVar 1) (aCons (eFrz (eLc (iSeq (eVar 4)) [6] (gNm 6) cYes (eTup (aCons (eVar 5) (aCons (eVar 6) aNil))))) aNil)))) sNil)
    (sDrop (eMt oExtend (eVar 2) (aCons (eVar 4) aNil)))))))
    (sRet (eVar 1)))))
noncomputable def F_pairs_of_term : Nat → VF := recF 1 7 b_pairs_of_term
theorem ok_pairs_of_term (fs : Fs K mg) : ∀ i : Nat, Own P0 w0 K mg base (44 + i) "pairs_of_term" P_pairs_of_term (F_pairs_of_term i)
  | 0 => by
    obtain ⟨⟨fd, F⟩, m⟩ := fs.dfn 25 (dd "pairs_of_term" 43) rfl
    exact .none (FunD.bindsN F fun _ _ _ _ _ _ us hl => match us, hl with | [_], _ => rfl) F.kp m
  | j + 1 => by
    obtain ⟨⟨fd, F⟩, m⟩ := fs.dfn 25 (dd "pairs_of_term" 43) rfl
    have hR := ok_pairs_of_term fs j
    generalize hRR : F_pairs_of_term j = R at hR
    have h0 := own_ok (N := N_pairs_of_term) (b := b_pairs_of_term R) F m sc_pairs_of_term (FunD.bindsN F fun _ _ _ _ _ _ us hl => match us, hl with | [_], _ => rfl) fun cdv A outer s H E hr =>
      (mss_cons (ms_if (mt_not (mt_val (me_isi (me_var 0) (fs.fre 2 rfl) (fs.fre 5 rfl) (by decide +kernel) (by decide)))) (mss_one (ms_ret (me_lst ma_nil))) mss_nil)
      (mss_cons (ms_par 1 2 sc_pairs_of_term.nd (ma_cons (me_lst ma_nil) (ma_cons (me_lst ma_nil) ma_nil)))
      (mss_cons (ms_for .never (mi_seq (me_frz (me_slice (me_var 0) (mo_some me_int) mo_none))) (mg_name 3 sc_pairs_of_term.nd) (mss_cons (ms_expr (me_extend (me_var 1) (ma_cons (me_frz (me_own hR hr (ma_cons (me_var 3) ma_nil) (Nat.le_refl _))) ma_nil)))
      (mss_cons (ms_set 4 sc_pairs_of_term.nd (me_frz (me_own (ok_things_of_term fs 40) hr (ma_cons (me_var 3) ma_nil) (Nat.le_trans (by decide : 43 ≤ 44) (Nat.le_add_right _ _)))))
      (mss_cons (ms_if (mt_cmp (op_eqD hr.u64) od_eq (me_ix hr.u1 (me_var 0) me_int) (me_gstr (fs.gst 0 rfl)) (nomark _)) (mss_one (ms_for .never (mi_seq (me_var 2)) (mg_name 5 sc_pairs_of_term.nd) (mss_one (ms_expr (me_extend (me_var 1) (ma_cons (me_frz (me_lc [("other", 6)] sc_pairs_of_term.nd (mi_seq (me_var 4)) (blkOk_by (by kernel_rfl)) (fun _ _ _ _ _ => (mg_name 6 sc_pairs_of_term.nd)) (fun _ _ _ _ _ => mts_nil) (fun _ _ _ _ _ => (me_tup (ma_cons (me_var 5) (ma_cons (me_var 6) ma_nil)))))) ma_nil)))))) mss_nil)
      (mss_one (ms_expr (me_extend (me_var 2) (ma_cons (me_var 4) ma_nil))))))))
      (mss_one (ms_ret (me_var 1))))))
    rw [← hRR] at h0
    exact h0
/-! plain_in -/
abbrev N_plain_in : List Str := ["term", "members", "member"]
abbrev P_plain_in : List Str := ["term"]
theorem sc_plain_in : FnScope N_plain_in P_plain_in (defScope (top 44)) := ⟨rfl, rfl, rfl, by decide +kernel, rfl, by decide +kernel, by decide +kernel⟩
noncomputable def b_plain_in (R : VF) : SF := (sSeq (sIf (cNot (cE (eIsi "tuple" (eVar 0)))) (sRet (eVar 0)) sNil)
    (sSeq (sSet 1 (eFrz (eLc (iSeq (eFrz (eSl (eVar 0) (pSo (eC (.int 1))) pNo))) [2] (gNm 2) cYes (eCall R (aCons (eVar 2) aNil)))))
    (sSeq (sIf (cE (eOp oEq (eOp oIx (eVar 0) (eC (.int 0))) (eC (.str "beside")))) (sSet 1 (eFrz (eSrtK (F_least_of 40) (aCons (eVar 1) aNil)))) sNil)
    (sRet (eTup (aCons (eOp oIx (eVar 0) (eC (.int 0))) (aStar (eVar 1) aNil)))))))
noncomputable def F_plain_in : Nat → VF := recF 1 3 b_plain_in
theorem ok_plain_in (fs : Fs K mg) : ∀ i : Nat, Own P0 w0 K mg base (44 + i) "plain_in" P_plain_in (F_plain_in i)
  | 0 => by
    obtain ⟨⟨fd, F⟩, m⟩ := fs.dfn 26 (dd "plain_in" 44) rfl
    exact .none (FunD.bindsN F fun _ _ _ _ _ _ us hl => match us, hl with | [_], _ => rfl) F.kp m
  | j + 1 => by
    obtain ⟨⟨fd, F⟩, m⟩ := fs.dfn 26 (dd "plain_in" 44) rfl
    have hR := ok_plain_in fs j
    generalize hRR : F_plain_in j = R at hR
    have h0 := own_ok (N := N_plain_in) (b := b_plain_in R) F m sc_plain_in (FunD.bindsN F fun _ _ _ _ _ _ us hl => match us, hl with | [_], _ => rfl) fun cdv A outer s H E hr =>
      (mss_cons (ms_if (mt_not (mt_val (me_isi (me_var 0) (fs.fre 2 rfl) (fs.fre 5 rfl) (by decide +kernel) (by decide)))) (mss_one (ms_ret (me_var 0))) mss_nil)
      (mss_cons (ms_setLcF 1 [("member", 2)] sc_plain_in.nd (mi_seq (me_frz (me_slice (me_var 0) (mo_some me_int) mo_none))) (blkOk_by (by kernel_rfl)) (fun _ _ _ _ _ => (mg_name 2 sc_plain_in.nd)) (fun _ _ _ _ _ => mts_nil) (fun _ _ _ _ _ => (me_own hR hr (ma_cons (me_var 2) ma_nil) (Nat.le_refl _))) (sw_true rfl rfl rfl (by kernel_rfl)))
      (mss_cons (ms_if (mt_cmp (op_eqD hr.u64) od_eq (me_ix hr.u1 (me_var 0) me_int) (me_gstr (fs.gst 1 rfl)) (nomark _)) (mss_one (ms_set 1 sc_plain_in.nd (me_frz (me_sortBy (ok_least_of fs 40) hr (ma_cons (me_var 1) ma_nil) (fs.fre 7 rfl) (Nat.le_trans (by decide : 41 + 2 ≤ 44) (Nat.le_add_right _ _)))))) mss_nil)
      (mss_one (ms_ret (me_tup (ma_cons (me_ix hr.u1 (me_var 0) me_int) (ma_star (me_var 1) ma_nil))))))))
    rw [← hRR] at h0
    exact h0
/-! pieces_by -/
abbrev N_pieces_by : List Str := ["things", "partners", "left", "found", "thing", "piece", "waiting", "other"]
abbrev P_pieces_by : List Str := ["things", "partners"]
theorem sc_pieces_by : FnScope N_pieces_by P_pieces_by (defScope (top 45)) := ⟨rfl, rfl, rfl, by decide +kernel, rfl, by decide +kernel, by decide +kernel⟩
noncomputable def b_pieces_by : SF := (sSeq (sPar 2 3 (aCons (eDc MO.dK asKeyP (iSeq (eVar 0)) [4] (gNm 4) cYes (eVar 4) (eC (.bool true))) (aCons (eLst aNil) aNil)))
    (sSeq (sFor (iSeq (eVar 0)) (gNm 4) (sIf (cE (eOp (oInX false) (eVar 4) (eVar 2))) (sSeq (sDrop (ePopX (eVar 2) (eVar 4)))
    (sSeq (sPar 5 6 (aCons (eLst (aCons (eVar 4) aNil)) (aCons (eLst (aCons (eVar 4) aNil)) aNil)))
    (sSeq (whileD (cE (eOp oNe (eVar 6) (eFrz (eLst aNil)))) (sFor (iSeq (eOp oIx (eVar 1) (eMt oPop (eVar 6) aNil))) (gNm 7) (sIf (cE (eOp (oInX false) (eVar 7) (eVar 2))) (sSeq (sDrop (ePopX (eVar 2) (eVar 7)))
    (sSeq (sDrop (eMt oAppend (eVar 5) (aCons (eVar 7) aNil)))
    (sDrop (eMt oAppend (eVar 6) (aCons (eVar 7) aNil))))) sNil)) 40)
    (sDrop (eMt oAppend (eVar 3) (aCons (eFrz (eCall oSorted (aCons (eVar 5) aNil))) aNil)))))) sNil))
    (sRet (eVar 3))))
noncomputable def F_pieces_by : VF := fnRun 2 8 b_pieces_by
theorem ok_pieces_by (fs : Fs K mg) : Own P0 w0 K mg base 1 "pieces_by" P_pieces_by F_pieces_by := by
  obtain ⟨⟨fd, F⟩, m⟩ := fs.dfn 27 (dd "pieces_by" 45) rfl
  exact own_ok (N := N_pieces_by) (b := b_pieces_by) F m sc_pieces_by (FunD.bindsN F fun _ _ _ _ _ _ us hl => match us, hl with | [_, _], _ => rfl) fun cdv A outer s H E hr =>
    (mss_cons (ms_par 2 3 sc_pieces_by.nd (ma_cons (me_dcK [("thing", 4)] sc_pieces_by.nd (mi_seq (me_var 0)) (blkOk_by (by kernel_rfl)) (fun _ _ _ _ _ => (mg_name 4 sc_pieces_by.nd)) (fun _ _ _ _ _ => mts_nil) (fun _ _ _ _ _ => (me_var 4)) (fun _ _ _ _ _ => me_bl)) (ma_cons (me_lst ma_nil) ma_nil)))
      (mss_cons (ms_for .never (mi_seq (me_var 0)) (mg_name 4 sc_pieces_by.nd) (mss_one (ms_if (mt_in hr.u65 (me_var 4) (me_var 2) (by with_unfolding_all rfl)) (mss_cons (ms_expr (me_popX (me_var 2) (me_var 4)))
      (mss_cons (ms_par 5 6 sc_pieces_by.nd (ma_cons (me_lst (ma_cons (me_var 4) ma_nil)) (ma_cons (me_lst (ma_cons (me_var 4) ma_nil)) ma_nil)))
      (mss_cons (ms_while 40 .never (mt_cmp (op_neD hr.u64) od_ne (me_var 6) (me_frz (me_lst ma_nil)) (nomark _)) (mss_one (ms_for .never (mi_seq (me_ix hr.u1 (me_var 1) (me_pop (me_var 6)))) (mg_name 7 sc_pieces_by.nd) (mss_one (ms_if (mt_in hr.u65 (me_var 7) (me_var 2) (by with_unfolding_all rfl)) (mss_cons (ms_expr (me_popX (me_var 2) (me_var 7)))
      (mss_cons (ms_expr (me_append (me_var 5) (ma_cons (me_var 7) ma_nil)))
      (mss_one (ms_expr (me_append (me_var 6) (ma_cons (me_var 7) ma_nil)))))) mss_nil)))))
      (mss_one (ms_expr (me_append (me_var 3) (ma_cons (me_frz (me_callB (cr_sortD hr.u70) cd_sorted (fs.fre 7 rfl) (by decide +kernel) (ma_cons (me_var 5) ma_nil))) ma_nil))))))) mss_nil)))
      (mss_one (ms_ret (me_var 3)))))
/-! term_among -/
abbrev N_term_among : List Str := ["things", "tied", "free", "befores", "pieces", "word", "known", "counts", "piece", "ahead", "members", "thing", "one", "count"]
abbrev P_term_among : List Str := ["things", "tied", "free", "befores"]
theorem sc_term_among : FnScope N_term_among P_term_among (defScope (top 46)) := ⟨rfl, rfl, rfl, by decide +kernel, rfl, by decide +kernel, by decide +kernel⟩
noncomputable def b_term_among (R : VF) : SF := (sSeq (sIf (cE (eOp oEq (eCall oLen (aCons (eVar 0) aNil)) (eC (.int 1)))) (sRet (eOp oIx (eVar 0) (eC (.int 0)))) sNil)
    (sSeq (sPar 4 5 (aCons (eFrz (eCall (F_pieces_by) (aCons (eVar 0) (aCons (eVar 1) aNil)))) (aCons (eC (.str "beside")) aNil)))
    (sSeq (sIf (cE (eOp oEq (eCall oLen (aCons (eVar 4) aNil)) (eC (.int 1)))) (sSeq (sPar 4 5 (aCons (eFrz (eCall (F_pieces_by) (aCons (eVar 0) (aCons (eVar 2) aNil)))) (aCons (eC (.str "behind")) aNil)))
    (sSeq (sIf (cE (eOp oEq (eCall oLen (aCons (eVar 4) aNil)) (eC (.int 1)))) (sRet (eC .none)) sNil)
    (sSeq (sSet 6 (eDc MO.dK asKeyP (iSeq (eVar 0)) [11] (gNm 11) cYes (eVar 11) (eC (.bool true))))
    (sSeq (sSet 7 (eLst aNil))
    (sSeq (sFor (iSeq (eVar 4)) (gNm 8) (sSeq (sSet 9 (eFrz (eLc (iSeq (eOp oIx (eVar 3) (eOp oIx (eVar 8) (eC (.int 0))))) [12] (gNm 12) (cAnd (cE (eOp (oInX false) (eVar 12) (eVar 6))) (cE (eOp (oInX true) (eVar 12) (eVar 8)))) (eVar 12))))
    (sDrop (eMt oAppend (eVar 7) (aCons (eTup (aCons (eCall oLen (aCons (eVar 9) aNil)) (aCons (eVar 8) aNil))) aNil)))))
    (sSet 4 (eFrz (eLc (iSeq (eFrz (eCall oSorted (aCons (eVar 7) aNil)))) [13, 8] (gTp (gsCons (gNm 13) (gsCons (gNm 8) gsNil))) cYes (eVar 8))))))))) sNil)
    (sSeq (sSet 10 (eFrz (eLc (iSeq (eVar 4)) [8] (gNm 8) cYes (eCall R (aCons (eVar 8) (aCons (eVar 1) (aCons (eVar 2) (aCons (eVar 3) aNil))))))))
    (sRet (eIf (cE (eOp (oInX false) (eC .none) (eVar 10))) (eC .none) (eTup (aCons (eVar 5) (aStar (eVar 10) aNil)))))))))
noncomputable def F_term_among : Nat → VF := recF 4 14 b_term_among
theorem ok_term_among (fs : Fs K mg) : ∀ i : Nat, Own P0 w0 K mg base (2 + i) "term_among" P_term_among (F_term_among i)
  | 0 => by
    obtain ⟨⟨fd, F⟩, m⟩ := fs.dfn 28 (dd "term_among" 46) rfl
    exact .none (FunD.bindsN F fun _ _ _ _ _ _ us hl => match us, hl with | [_, _, _, _], _ => rfl) F.kp m
  | j + 1 => by
    obtain ⟨⟨fd, F⟩, m⟩ := fs.dfn 28 (dd "term_among" 46) rfl
    have hR := ok_term_among fs j
    generalize hRR : F_term_among j = R at hR
    have h0 := own_ok (N := N_term_among) (b := b_term_among R) F m sc_term_among (FunD.bindsN F fun _ _ _ _ _ _ us hl => match us, hl with | [_, _, _, _], _ => rfl) fun cdv A outer s H E hr =>
      (mss_cons (ms_if (mt_cmp (op_eqD hr.u64) od_eq (me_callB call_lenX cd_len (fs.fre 0 rfl) (by decide +kernel) (ma_cons (me_var 0) ma_nil)) me_int (nomark _)) (mss_one (ms_ret (me_ix hr.u1 (me_var 0) me_int))) mss_nil)
      (mss_cons (ms_par 4 5 sc_term_among.nd (ma_cons (me_frz (me_own (ok_pieces_by fs) hr (ma_cons (me_var 0) (ma_cons (me_var 1) ma_nil)) (Nat.le_trans (by decide : 1 ≤ 2) (Nat.le_add_right _ _)))) (ma_cons (me_gstr (fs.gst 1 rfl)) ma_nil)))
      (mss_cons (ms_if (mt_cmp (op_eqD hr.u64) od_eq (me_callB call_lenX cd_len (fs.fre 0 rfl) (by decide +kernel) (ma_cons (me_var 4) ma_nil)) me_int (nomark _)) (mss_cons (ms_par 4 5 sc_term_among.nd (ma_cons (me_frz (me_own (ok_pieces_by fs) hr (ma_cons (me_var 0) (ma_cons (me_var 2) ma_nil)) (Nat.le_trans (by decide : 1 ≤ 2) (Nat.le_add_right _ _)))) (ma_cons (me_gstr (fs.gst 0 rfl)) ma_nil)))
      (mss_cons (ms_if (mt_cmp (op_eqD hr.u64) od_eq (me_callB call_lenX cd_len (fs.fre 0 rfl) (by decide +kernel) (ma_cons (me_var 4) ma_nil)) me_int (nomark _)) (mss_one (ms_ret me_non)) mss_nil)
      (mss_cons (ms_set 6 sc_term_among.nd (me_dcK [("thing", 11)] sc_term_among.nd (mi_seq (me_var 0)) (blkOk_by (by kernel_rfl)) (fun _ _ _ _ _ => (mg_name 11 sc_term_among.nd)) (fun _ _ _ _ _ => mts_nil) (fun _ _ _ _ _ => (me_var 11)) (fun _ _ _ _ _ => me_bl)))
      (mss_cons (ms_set 7 sc_term_among.nd (me_lst ma_nil))
      (mss_cons (ms_for .never (mi_seq (me_var 4)) (mg_name 8 sc_term_among.nd) (mss_cons (ms_setLcF 9 [("one", 12)] sc_term_among.nd (mi_seq (me_ix hr.u1 (me_var 3) (me_ix hr.u1 (me_var 8) me_int))) (blkOk_by (by kernel_rfl)) (fun _ _ _ _ _ => (mg_name 12 sc_term_among.nd)) (fun _ _ _ _ _ => (mts_one (mw_and (mt_in hr.u65 (me_var 12) (me_var 6) (by with_unfolding_all rfl)) (mw_one (mt_notIn hr.u65 (me_var 12) (me_var 8) (by with_unfolding_all rfl)))).pt)) (fun _ _ _ _ _ => (me_var 12)) (sw_true rfl rfl rfl (by kernel_rfl)))
      (mss_one (ms_expr (me_append (me_var 7) (ma_cons (me_tup (ma_cons (me_callB call_lenX cd_len (fs.fre 0 rfl) (by decide +kernel) (ma_cons (me_var 9) ma_nil)) (ma_cons (me_var 8) ma_nil))) ma_nil))))))
      (mss_one (ms_setLcF 4 [("count", 13), ("piece", 8)] sc_term_among.nd (mi_seq (me_frz (me_callB (cr_sortD hr.u70) cd_sorted (fs.fre 7 rfl) (by decide +kernel) (ma_cons (me_var 7) ma_nil)))) (blkOk_by (by kernel_rfl)) (fun _ _ _ _ _ => (mg_tup (mgs_cons (mg_name 13 sc_term_among.nd) (mgs_cons (mg_name 8 sc_term_among.nd) mgs_nil)) (fun _ _ _ h => gsLen_cons (fun _ _ _ h => gsLen_cons (fun _ _ _ h => gsLen_nil h) h) h))) (fun _ _ _ _ _ => mts_nil) (fun _ _ _ _ _ => (me_var 8)) (sw_true rfl rfl rfl (by kernel_rfl))))))))) mss_nil)
      (mss_cons (ms_setLcF 10 [("piece", 8)] sc_term_among.nd (mi_seq (me_var 4)) (blkOk_by (by kernel_rfl)) (fun _ _ _ _ _ => (mg_name 8 sc_term_among.nd)) (fun _ _ _ _ _ => mts_nil) (fun _ _ _ _ _ => (me_own hR hr (ma_cons (me_var 8) (ma_cons (me_var 1) (ma_cons (me_var 2) (ma_cons (me_var 3) ma_nil)))) (Nat.le_refl _))) (sw_true rfl rfl rfl (by kernel_rfl)))
      (mss_one (ms_ret (me_if (mt_in hr.u65 me_non (me_var 10) (by with_unfolding_all rfl)) me_non (me_tup (ma_cons (me_var 5) (ma_star (me_var 10) ma_nil))))))))))
    rw [← hRR] at h0
    exact h0
/-! term_in -/
abbrev N_term_in : List Str := ["order", "many", "tied", "free"]
abbrev P_term_in : List Str := ["order"]
theorem sc_term_in : FnScope N_term_in P_term_in (defScope (top 47)) := ⟨rfl, rfl, rfl, by decide +kernel, rfl, by decide +kernel, by decide +kernel⟩
noncomputable def b_term_in : SF := (sSeq (sSet 1 (eOp oIx (eVar 0) (eC (.int 0))))
    (sSeq (sPar 2 3 (aCons (eFrz (eCall (F_partners_in) (aCons (eVar 1) (aCons (eCall (F_tied_in) (aCons (eVar 0) aNil)) aNil)))) (aCons (eFrz (eCall (F_partners_in) (aCons (eVar 1) (aCons (eCall (F_free_in) (aCons (eVar 0) aNil)) aNil)))) aNil)))
    (sRet (eCall (F_term_among 40) (aCons (eFrz (eLstRg (rg1 (eVar 1)))) (aCons (eVar 2) (aCons (eVar 3) (aCons (eFrz (eCall (F_befores_in) (aCons (eVar 0) aNil))) aNil))))))))
noncomputable def F_term_in : VF := fnRun 1 4 b_term_in
theorem ok_term_in (fs : Fs K mg) : Own P0 w0 K mg base 43 "term_in" P_term_in F_term_in := by
  obtain ⟨⟨fd, F⟩, m⟩ := fs.dfn 29 (dd "term_in" 47) rfl
  exact own_ok (N := N_term_in) (b := b_term_in) F m sc_term_in (FunD.bindsN F fun _ _ _ _ _ _ us hl => match us, hl with | [_], _ => rfl) fun cdv A outer s H E hr =>
    (mss_cons (ms_set 1 sc_term_in.nd (me_ix hr.u1 (me_var 0) me_int))
      (mss_cons (ms_par 2 3 sc_term_in.nd (ma_cons (me_frz (me_own (ok_partners_in fs) hr (ma_cons (me_var 1) (ma_cons (me_own (ok_tied_in fs) hr (ma_cons (me_var 0) ma_nil)) ma_nil)))) (ma_cons (me_frz (me_own (ok_partners_in fs) hr (ma_cons (me_var 1) (ma_cons (me_own (ok_free_in fs) hr (ma_cons (me_var 0) ma_nil)) ma_nil)))) ma_nil)))
      (mss_one (ms_ret (me_own (ok_term_among fs 40) hr (ma_cons (me_frz (me_lstRg (mr_1 (me_var 1) (fs.fre 1 rfl)) (fs.fre 6 rfl))) (ma_cons (me_var 2) (ma_cons (me_var 3) (ma_cons (me_frz (me_own (ok_befores_in fs) hr (ma_cons (me_var 0) ma_nil))) ma_nil)))))))))
/-! turned_members -/
abbrev N_turned_members : List Str := ["term", "members", "member"]
abbrev P_turned_members : List Str := ["term"]
theorem sc_turned_members : FnScope N_turned_members P_turned_members (defScope (top 48)) := ⟨rfl, rfl, rfl, by decide +kernel, rfl, by decide +kernel, by decide +kernel⟩
noncomputable def b_turned_members (R : VF) : SF := (sSeq (sIf (cNot (cE (eIsi "tuple" (eVar 0)))) (sRet (eVar 0)) sNil)
    (sSeq (sSet 1 (eFrz (eLc (iSeq (eFrz (eSl (eVar 0) (pSo (eC (.int 1))) pNo))) [2] (gNm 2) cYes (eCall R (aCons (eVar 2) aNil)))))
    (sRet (eIf (cE (eOp oEq (eOp oIx (eVar 0) (eC (.int 0))) (eC (.str "beside")))) (eTup (aCons (eOp oIx (eVar 0) (eC (.int 0))) (aStar (eVar 1) aNil))) (eTup (aCons (eOp oIx (eVar 0) (eC (.int 0))) (aStar (eFrz (eRev (eVar 1))) aNil)))))))
noncomputable def F_turned_members : Nat → VF := recF 1 3 b_turned_members
theorem ok_turned_members (fs : Fs K mg) : ∀ i : Nat, Own P0 w0 K mg base (1 + i) "turned_members" P_turned_members (F_turned_members i)
  | 0 => by
    obtain ⟨⟨fd, F⟩, m⟩ := fs.dfn 30 (dd "turned_members" 48) rfl
    exact .none (FunD.bindsN F fun _ _ _ _ _ _ us hl => match us, hl with | [_], _ => rfl) F.kp m
  | j + 1 => by
    obtain ⟨⟨fd, F⟩, m⟩ := fs.dfn 30 (dd "turned_members" 48) rfl
    have hR := ok_turned_members fs j
    generalize hRR : F_turned_members j = R at hR
    have h0 := own_ok (N := N_turned_members) (b := b_turned_members R) F m sc_turned_members (FunD.bindsN F fun _ _ _ _ _ _ us hl => match us, hl with | [_], _ => rfl) fun cdv A outer s H E hr =>
      (mss_cons (ms_if (mt_not (mt_val (me_isi (me_var 0) (fs.fre 2 rfl) (fs.fre 5 rfl) (by decide +kernel) (by decide)))) (mss_one (ms_ret (me_var 0))) mss_nil)
      (mss_cons (ms_setLcF 1 [("member", 2)] sc_turned_members.nd (mi_seq (me_frz (me_slice (me_var 0) (mo_some me_int) mo_none))) (blkOk_by (by kernel_rfl)) (fun _ _ _ _ _ => (mg_name 2 sc_turned_members.nd)) (fun _ _ _ _ _ => mts_nil) (fun _ _ _ _ _ => (me_own hR hr (ma_cons (me_var 2) ma_nil) (Nat.le_refl _))) (sw_true rfl rfl rfl (by kernel_rfl)))
      (mss_one (ms_ret (me_if (mt_cmp (op_eqD hr.u64) od_eq (me_ix hr.u1 (me_var 0) me_int) (me_gstr (fs.gst 1 rfl)) (nomark _)) (me_tup (ma_cons (me_ix hr.u1 (me_var 0) me_int) (ma_star (me_var 1) ma_nil))) (me_tup (ma_cons (me_ix hr.u1 (me_var 0) me_int) (ma_star (me_frz (me_rev (me_var 1))) ma_nil))))))))
    rw [← hRR] at h0
    exact h0
/-! struck -/
abbrev N_struck : List Str := ["term", "names", "members", "member", "left", "is_same"]
abbrev P_struck : List Str := ["term", "names"]
theorem sc_struck : FnScope N_struck P_struck (defScope (top 49)) := ⟨rfl, rfl, rfl, by decide +kernel, rfl, by decide +kernel, by decide +kernel⟩
noncomputable def b_struck (R : VF) : SF := (sSeq (sIf (cNot (cE (eIsi "tuple" (eVar 0)))) (sRet (eGet (eVar 1) (eVar 0))) sNil)
    (sSeq (sSet 2 (eLst aNil))
    (sSeq (sFor (iSeq (eFrz (eSl (eVar 0) (pSo (eC (.int 1))) pNo))) (gNm 3) (sSeq (sSet 4 (eCall R (aCons (eVar 3) (aCons (eVar 1) aNil))))
    (sIf (cE (eOp oNotN (eVar 4) (eC .none))) (sSeq (sSet 5 (eAnd (eIsi "tuple" (eVar 4)) (eOp oEq (eOp oIx (eVar 4) (eC (.int 0))) (eOp oIx (eVar 0) (eC (.int 0))))))
    (sDrop (eMt oExtend (eVar 2) (aCons (eFrz (eIf (cE (eVar 5)) (eFrz (eCall oList (aCons (eFrz (eSl (eVar 4) (pSo (eC (.int 1))) pNo)) aNil))) (eFrz (eLst (aCons (eVar 4) aNil))))) aNil)))) sNil)))
    (sSeq (sIf (cE (eOp oEq (eVar 2) (eFrz (eLst aNil)))) (sRet (eC .none)) sNil)
    (sRet (eIf (cE (eOp oEq (eCall oLen (aCons (eVar 2) aNil)) (eC (.int 1)))) (eOp oIx (eVar 2) (eC (.int 0))) (eTup (aCons (eOp oIx (eVar 0) (eC (.int 0))) (aStar (eVar 2) aNil)))))))))
noncomputable def F_struck : Nat → VF := recF 2 6 b_struck
theorem ok_struck (fs : Fs K mg) : ∀ i : Nat, Own P0 w0 K mg base (1 + i) "struck" P_struck (F_struck i)
  | 0 => by
    obtain ⟨⟨fd, F⟩, m⟩ := fs.dfn 31 (dd "struck" 49) rfl
    exact .none (FunD.bindsN F fun _ _ _ _ _ _ us hl => match us, hl with | [_, _], _ => rfl) F.kp m
  | j + 1 => by
    obtain ⟨⟨fd, F⟩, m⟩ := fs.dfn 31 (dd "struck" 49) rfl
    have hR := ok_struck fs j
    generalize hRR : F_struck j = R at hR
    have h0 := own_ok (N := N_struck) (b := b_struck R) F m sc_struck (FunD.bindsN F fun _ _ _ _ _ _ us hl => match us, hl with | [_, _], _ => rfl) fun cdv A outer s H E hr =>
      (mss_cons (ms_if (mt_not (mt_val (me_isi (me_var 0) (fs.fre 2 rfl) (fs.fre 5 rfl) (by decide +kernel) (by decide)))) (mss_one (ms_ret (me_get hr.u1 (me_var 1) (me_var 0)))) mss_nil)
      (mss_cons (ms_set 2 sc_struck.nd (me_lst ma_nil))
      (mss_cons (ms_for .never (mi_seq (me_frz (me_slice (me_var 0) (mo_some me_int) mo_none))) (mg_name 3 sc_struck.nd) (mss_cons (ms_set 4 sc_struck.nd (me_own hR hr (ma_cons (me_var 3) (ma_cons (me_var 1) ma_nil)) (Nat.le_refl _)))
      (mss_one (ms_if (mt_cmp op_notN od_notN (me_var 4) me_non (nomark _)) (mss_cons (ms_set 5 sc_struck.nd (me_and (me_isi (me_var 4) (fs.fre 2 rfl) (fs.fre 5 rfl) (by decide +kernel) (by decide)) (me_one (me_cmp (op_eqD hr.u64) od_eq (me_ix hr.u1 (me_var 4) me_int) (me_ix hr.u1 (me_var 0) me_int) (nomark _)))))
      (mss_one (ms_expr (me_extend (me_var 2) (ma_cons (me_frz (me_if (mt_val (me_var 5)) (me_frz (me_callTy call_list_of cd_list (fs.fre 6 rfl) (by decide +kernel) (ma_cons (me_frz (me_slice (me_var 4) (mo_some me_int) mo_none)) ma_nil))) (me_frz (me_lst (ma_cons (me_var 4) ma_nil))))) ma_nil))))) mss_nil))))
      (mss_cons (ms_if (mt_cmp (op_eqD hr.u64) od_eq (me_var 2) (me_frz (me_lst ma_nil)) (nomark _)) (mss_one (ms_ret me_non)) mss_nil)
      (mss_one (ms_ret (me_if (mt_cmp (op_eqD hr.u64) od_eq (me_callB call_lenX cd_len (fs.fre 0 rfl) (by decide +kernel) (ma_cons (me_var 2) ma_nil)) me_int (nomark _)) (me_ix hr.u1 (me_var 2) me_int) (me_tup (ma_cons (me_ix hr.u1 (me_var 0) me_int) (ma_star (me_var 2) ma_nil))))))))))
    rw [← hRR] at h0
    exact h0
/-! chosen -/
abbrev N_chosen : List Str := ["many", "some", "found", "at"]
abbrev P_chosen : List Str := ["many", "some"]
theorem sc_chosen : FnScope N_chosen P_chosen (defScope (top 50)) := ⟨rfl, rfl, rfl, by decide +kernel, rfl, by decide +kernel, by decide +kernel⟩
noncomputable def b_chosen : SF := (sSeq (sSet 2 (eC (.int 1)))
    (sSeq (sFor (iRng1D (aCons (eVar 1) aNil)) (gNm 3) (sSet 2 (eOp oDiv (eOp oMul (eVar 2) (eOp oSub (eVar 0) (eVar 3))) (eOp oAdd (eVar 3) (eC (.int 1))))))
    (sRet (eVar 2))))
noncomputable def F_chosen : VF := fnRun 2 4 b_chosen
theorem ok_chosen (fs : Fs K mg) : Own P0 w0 K mg base 1 "chosen" P_chosen F_chosen := by
  obtain ⟨⟨fd, F⟩, m⟩ := fs.dfn 32 (dd "chosen" 50) rfl
  exact own_ok (N := N_chosen) (b := b_chosen) F m sc_chosen (FunD.bindsN F fun _ _ _ _ _ _ us hl => match us, hl with | [_, _], _ => rfl) fun cdv A outer s H E hr =>
    (mss_cons (ms_set 2 sc_chosen.nd me_int)
      (mss_cons (ms_for .never (mi_rng1 (ma_cons (me_var 1) ma_nil) (fs.fre 1 rfl)) (mg_name 3 sc_chosen.nd) (mss_one (ms_set 2 sc_chosen.nd (me_op op_fdivW od_div (me_op op_mulP od_mulP (me_var 2) (me_op op_sub od_sub (me_var 0) (me_var 3))) (me_op op_addP od_add (me_var 3) me_int)))))
      (mss_one (ms_ret (me_var 2)))))
/-! lines_of_term -/
abbrev N_lines_of_term : List Str := ["term", "found", "before", "member", "size"]
abbrev P_lines_of_term : List Str := ["term"]
theorem sc_lines_of_term : FnScope N_lines_of_term P_lines_of_term (defScope (top 51)) := ⟨rfl, rfl, rfl, by decide +kernel, rfl, by decide +kernel, by decide +kernel⟩
noncomputable def b_lines_of_term (R : VF) : SF := (sSeq (sIf (cNot (cE (eIsi "tuple" (eVar 0)))) (sRet (eC (.int 1))) sNil)
    (sSeq (sPar 1 2 (aCons (eC (.int 1)) (aCons (eC (.int 0)) aNil)))
    (sSeq (sFor (iSeq (eFrz (eSl (eVar 0) (pSo (eC (.int 1))) pNo))) (gNm 3) (sSeq (sSet 4 (eCall (F_sized 40) (aCons (eVar 3) aNil)))
    (sSeq (sSet 1 (eOp oMul (eVar 1) (eCall R (aCons (eVar 3) aNil))))
    (sSeq (sIf (cE (eOp oEq (eOp oIx (eVar 0) (eC (.int 0))) (eC (.str "beside")))) (sSet 1 (eOp oMul (eVar 1) (eCall (F_chosen) (aCons (eOp oAdd (eVar 2) (eVar 4)) (aCons (eVar 4) aNil))))) sNil)
    (sAug 2 (fun i j => i + j) (eVar 4))))))
    (sRet (eVar 1)))))
noncomputable def F_lines_of_term : Nat → VF := recF 1 5 b_lines_of_term
theorem ok_lines_of_term (fs : Fs K mg) : ∀ i : Nat, Own P0 w0 K mg base (42 + i) "lines_of_term" P_lines_of_term (F_lines_of_term i)
  | 0 => by
    obtain ⟨⟨fd, F⟩, m⟩ := fs.dfn 33 (dd "lines_of_term" 51) rfl
    exact .none (FunD.bindsN F fun _ _ _ _ _ _ us hl => match us, hl with | [_], _ => rfl) F.kp m
  | j + 1 => by
    obtain ⟨⟨fd, F⟩, m⟩ := fs.dfn 33 (dd "lines_of_term" 51) rfl
    have hR := ok_lines_of_term fs j
    generalize hRR : F_lines_of_term j = R at hR
    have h0 := own_ok (N := N_lines_of_term) (b := b_lines_of_term R) F m sc_lines_of_term (FunD.bindsN F fun _ _ _ _ _ _ us hl => match us, hl with | [_], _ => rfl) fun cdv A outer s H E hr =>
      (mss_cons (ms_if (mt_not (mt_val (me_isi (me_var 0) (fs.fre 2 rfl) (fs.fre 5 rfl) (by decide +kernel) (by decide)))) (mss_one (ms_ret me_int)) mss_nil)
      (mss_cons (ms_parC 1 2 sc_lines_of_term.nd (ma_cons me_int (ma_cons me_int ma_nil)))
      (mss_cons (ms_for .never (mi_seq (me_frz (me_slice (me_var 0) (mo_some me_int) mo_none))) (mg_name 3 sc_lines_of_term.nd) (mss_cons (ms_set 4 sc_lines_of_term.nd (me_own (ok_sized fs 40) hr (ma_cons (me_var 3) ma_nil) (Nat.le_trans (by decide : 41 ≤ 42) (Nat.le_add_right _ _))))
      (mss_cons (ms_set 1 sc_lines_of_term.nd (me_op op_mulP od_mulP (me_var 1) (me_own hR hr (ma_cons (me_var 3) ma_nil) (Nat.le_refl _))))
      (mss_cons (ms_if (mt_cmp (op_eqD hr.u64) od_eq (me_ix hr.u1 (me_var 0) me_int) (me_gstr (fs.gst 1 rfl)) (nomark _)) (mss_one (ms_set 1 sc_lines_of_term.nd (me_op op_mulP od_mulP (me_var 1) (me_own (ok_chosen fs) hr (ma_cons (me_op op_addP od_add (me_var 2) (me_var 4)) (ma_cons (me_var 4) ma_nil)) (Nat.le_trans (by decide : 1 ≤ 42) (Nat.le_add_right _ _)))))) mss_nil)
      (mss_one (ms_aug 2 sc_lines_of_term.nd (me_var 4) ip_add))))))
      (mss_one (ms_ret (me_var 1))))))
    rw [← hRR] at h0
    exact h0
/-! multiplied_by -/
abbrev N_multiplied_by : List Str := ["one", "other", "found", "at", "number", "to", "factor"]
abbrev P_multiplied_by : List Str := ["one", "other"]
theorem sc_multiplied_by : FnScope N_multiplied_by P_multiplied_by (defScope (top 52)) := ⟨rfl, rfl, rfl, by decide +kernel, rfl, by decide +kernel, by decide +kernel⟩
noncomputable def b_multiplied_by : SF := (sSeq (sSet 2 (eOp oMul (eFrz (eLst (aCons (eC (.int 0)) aNil))) (eOp oSub (eOp oAdd (eCall oLen (aCons (eVar 0) aNil)) (eCall oLen (aCons (eVar 1) aNil))) (eC (.int 1)))))
    (sSeq (sFor (iEnD (aCons (eVar 0) aNil)) (gTp (gsCons (gNm 3) (gsCons (gNm 4) gsNil))) (sFor (iEnD (aCons (eVar 1) aNil)) (gTp (gsCons (gNm 5) (gsCons (gNm 6) gsNil))) (sAugIx (fun i j => i + j) (eVar 2) (eOp oAdd (eVar 3) (eVar 5)) (eOp oMul (eVar 4) (eVar 6)))))
    (sRet (eVar 2))))
noncomputable def F_multiplied_by : VF := fnRun 2 7 b_multiplied_by
theorem ok_multiplied_by (fs : Fs K mg) : Own P0 w0 K mg base 1 "multiplied_by" P_multiplied_by F_multiplied_by := by
  obtain ⟨⟨fd, F⟩, m⟩ := fs.dfn 34 (dd "multiplied_by" 52) rfl
  exact own_ok (N := N_multiplied_by) (b := b_multiplied_by) F m sc_multiplied_by (FunD.bindsN F fun _ _ _ _ _ _ us hl => match us, hl with | [_, _], _ => rfl) fun cdv A outer s H E hr =>
    (mss_cons (ms_set 2 sc_multiplied_by.nd (me_op op_mulP od_mulP (me_frz (me_lst (ma_cons me_int ma_nil))) (me_op op_sub od_sub (me_op op_addP od_add (me_callB call_lenX cd_len (fs.fre 0 rfl) (by decide +kernel) (ma_cons (me_var 0) ma_nil)) (me_callB call_lenX cd_len (fs.fre 0 rfl) (by decide +kernel) (ma_cons (me_var 1) ma_nil))) me_int)))
      (mss_cons (ms_for .never (mi_en (ma_cons (me_var 0) ma_nil) (fs.fre 14 rfl)) (mg_tup (mgs_cons (mg_name 3 sc_multiplied_by.nd) (mgs_cons (mg_name 4 sc_multiplied_by.nd) mgs_nil)) (fun _ _ _ h => gsLen_cons (fun _ _ _ h => gsLen_cons (fun _ _ _ h => gsLen_nil h) h) h)) (mss_one (ms_for .never (mi_en (ma_cons (me_var 1) ma_nil) (fs.fre 14 rfl)) (mg_tup (mgs_cons (mg_name 5 sc_multiplied_by.nd) (mgs_cons (mg_name 6 sc_multiplied_by.nd) mgs_nil)) (fun _ _ _ h => gsLen_cons (fun _ _ _ h => gsLen_cons (fun _ _ _ h => gsLen_nil h) h) h)) (mss_one (ms_augIx (me_var 2) (me_op op_addP od_add (me_var 3) (me_var 5)) (me_op op_mulP od_mulP (me_var 4) (me_var 6)) ip_add)))))
      (mss_one (ms_ret (me_var 2)))))
/-! sizes_of_term -/
abbrev N_sizes_of_term : List Str := ["term", "found", "member", "sizes"]
abbrev P_sizes_of_term : List Str := ["term"]
theorem sc_sizes_of_term : FnScope N_sizes_of_term P_sizes_of_term (defScope (top 53)) := ⟨rfl, rfl, rfl, by decide +kernel, rfl, by decide +kernel, by decide +kernel⟩
noncomputable def b_sizes_of_term (R : VF) : SF := (sSeq (sIf (cNot (cE (eIsi "tuple" (eVar 0)))) (sRet (eLst (aCons (eC (.int 1)) (aCons (eC (.int 1)) aNil)))) sNil)
    (sSeq (sSet 1 (eFrz (eLst (aCons (eC (.int 1)) aNil))))
    (sSeq (sFor (iSeq (eFrz (eSl (eVar 0) (pSo (eC (.int 1))) pNo))) (gNm 2) (sSeq (sSet 3 (eFrz (eCall R (aCons (eVar 2) aNil))))
    (sSet 1 (eFrz (eIf (cE (eOp oEq (eOp oIx (eVar 0) (eC (.int 0))) (eC (.str "beside")))) (eFrz (eCall (F_multiplied_by) (aCons (eVar 1) (aCons (eVar 3) aNil)))) (eFrz (eOp oAdd (eVar 1) (eFrz (eSl (eVar 3) (pSo (eC (.int 1))) pNo)))))))))
    (sRet (eVar 1)))))
noncomputable def F_sizes_of_term : Nat → VF := recF 1 4 b_sizes_of_term
theorem ok_sizes_of_term (fs : Fs K mg) : ∀ i : Nat, Own P0 w0 K mg base (2 + i) "sizes_of_term" P_sizes_of_term (F_sizes_of_term i)
  | 0 => by
    obtain ⟨⟨fd, F⟩, m⟩ := fs.dfn 35 (dd "sizes_of_term" 53) rfl
    exact .none (FunD.bindsN F fun _ _ _ _ _ _ us hl => match us, hl with | [_], _ => rfl) F.kp m
  | j + 1 => by
    obtain ⟨⟨fd, F⟩, m⟩ := fs.dfn 35 (dd "sizes_of_term" 53) rfl
    have hR := ok_sizes_of_term fs j
    generalize hRR : F_sizes_of_term j = R at hR
    have h0 := own_ok (N := N_sizes_of_term) (b := b_sizes_of_term R) F m sc_sizes_of_term (FunD.bindsN F fun _ _ _ _ _ _ us hl => match us, hl with | [_], _ => rfl) fun cdv A outer s H E hr =>
      (mss_cons (ms_if (mt_not (mt_val (me_isi (me_var 0) (fs.fre 2 rfl) (fs.fre 5 rfl) (by decide +kernel) (by decide)))) (mss_one (ms_ret (me_lst (ma_cons me_int (ma_cons me_int ma_nil))))) mss_nil)
      (mss_cons (ms_set 1 sc_sizes_of_term.nd (me_frz (me_lst (ma_cons me_int ma_nil))))
      (mss_cons (ms_for .never (mi_seq (me_frz (me_slice (me_var 0) (mo_some me_int) mo_none))) (mg_name 2 sc_sizes_of_term.nd) (mss_cons (ms_set 3 sc_sizes_of_term.nd (me_frz (me_own hR hr (ma_cons (me_var 2) ma_nil) (Nat.le_refl _))))
      (mss_one (ms_set 1 sc_sizes_of_term.nd (me_frz (me_if (mt_cmp (op_eqD hr.u64) od_eq (me_ix hr.u1 (me_var 0) me_int) (me_gstr (fs.gst 1 rfl)) (nomark _)) (me_frz (me_own (ok_multiplied_by fs) hr (ma_cons (me_var 1) (ma_cons (me_var 3) ma_nil)) (Nat.le_trans (by decide : 1 ≤ 2) (Nat.le_add_right _ _)))) (me_frz (me_op op_addP od_add (me_var 1) (me_frz (me_slice (me_var 3) (mo_some me_int) mo_none))))))))))
      (mss_one (ms_ret (me_var 1))))))
    rw [← hRR] at h0
    exact h0
/-! extent -/
abbrev N_extent : List Str := ["term", "word", "members", "member"]
abbrev P_extent : List Str := ["term", "word"]
theorem sc_extent : FnScope N_extent P_extent (defScope (top 54)) := ⟨rfl, rfl, rfl, by decide +kernel, rfl, by decide +kernel, by decide +kernel⟩
noncomputable def b_extent (R : VF) : SF := (sSeq (sIf (cNot (cE (eIsi "tuple" (eVar 0)))) (sRet (eC (.int 1))) sNil)
    (sSeq (sSet 2 (eFrz (eLc (iSeq (eFrz (eSl (eVar 0) (pSo (eC (.int 1))) pNo))) [3] (gNm 3) cYes (eCall R (aCons (eVar 3) (aCons (eVar 1) aNil))))))
    (sRet (eIf (cE (eOp oEq (eOp oIx (eVar 0) (eC (.int 0))) (eVar 1))) (eCall oSum (aCons (eVar 2) aNil)) (eCall oMaxL (aCons (eVar 2) aNil))))))
noncomputable def F_extent : Nat → VF := recF 2 4 b_extent
theorem ok_extent (fs : Fs K mg) : ∀ i : Nat, Own P0 w0 K mg base (1 + i) "extent" P_extent (F_extent i)
  | 0 => by
    obtain ⟨⟨fd, F⟩, m⟩ := fs.dfn 36 (dd "extent" 54) rfl
    exact .none (FunD.bindsN F fun _ _ _ _ _ _ us hl => match us, hl with | [_, _], _ => rfl) F.kp m
  | j + 1 => by
    obtain ⟨⟨fd, F⟩, m⟩ := fs.dfn 36 (dd "extent" 54) rfl
    have hR := ok_extent fs j
    generalize hRR : F_extent j = R at hR
    have h0 := own_ok (N := N_extent) (b := b_extent R) F m sc_extent (FunD.bindsN F fun _ _ _ _ _ _ us hl => match us, hl with | [_, _], _ => rfl) fun cdv A outer s H E hr =>
      (mss_cons (ms_if (mt_not (mt_val (me_isi (me_var 0) (fs.fre 2 rfl) (fs.fre 5 rfl) (by decide +kernel) (by decide)))) (mss_one (ms_ret me_int)) mss_nil)
      (mss_cons (ms_setLcF 2 [("member", 3)] sc_extent.nd (mi_seq (me_frz (me_slice (me_var 0) (mo_some me_int) mo_none))) (blkOk_by (by kernel_rfl)) (fun _ _ _ _ _ => (mg_name 3 sc_extent.nd)) (fun _ _ _ _ _ => mts_nil) (fun _ _ _ _ _ => (me_own hR hr (ma_cons (me_var 3) (ma_cons (me_var 1) ma_nil)) (Nat.le_refl _))) (sw_true rfl rfl rfl (by kernel_rfl)))
      (mss_one (ms_ret (me_if (mt_cmp (op_eqD hr.u64) od_eq (me_ix hr.u1 (me_var 0) me_int) (me_var 1) (nomark _)) (me_callB (cr_sum rfl) cd_sum (fs.fre 11 rfl) (by decide +kernel) (ma_cons (me_var 2) ma_nil)) (me_callB (cr_max rfl) cd_maxL (fs.fre 12 rfl) (by decide +kernel) (ma_cons (me_var 2) ma_nil)))))))
    rw [← hRR] at h0
    exact h0
/-! require_term -/
abbrev N_require_term : List Str := ["n", "term"]
abbrev P_require_term : List Str := ["n", "term"]
theorem sc_require_term : FnScope N_require_term P_require_term (defScope (top 55)) := ⟨rfl, rfl, rfl, by decide +kernel, rfl, by decide +kernel, by decide +kernel⟩
noncomputable def b_require_term : SF := (sSeq (sDrop (eCall (F_require_number) (aCons (eVar 0) (aCons (eC (.int 1)) (aCons (eC (.int (30))) aNil)))))
    (sIf (cNot (cE (eCall (F_is_term_in) (aCons (eVar 0) (aCons (eVar 1) aNil))))) (fun _ _ => none) sNil))
noncomputable def F_require_term : VF := fnRun 2 2 b_require_term
theorem ok_require_term (fs : Fs K mg) : Own P0 w0 K mg base 45 "require_term" P_require_term F_require_term := by
  obtain ⟨⟨fd, F⟩, m⟩ := fs.dfn 37 (dd "require_term" 55) rfl
  exact own_ok (N := N_require_term) (b := b_require_term) F m sc_require_term (FunD.bindsN F fun _ _ _ _ _ _ us hl => match us, hl with | [_, _], _ => rfl) fun cdv A outer s H E hr =>
    (mss_cons (ms_expr (me_own (ok_require_number fs) hr (ma_cons (me_var 0) (ma_cons me_int (ma_cons (me_gint (fs.gin 2 rfl)) ma_nil)))))
      (mss_one (ms_if (mt_not (mt_val (me_own (ok_is_term_in fs) hr (ma_cons (me_var 0) (ma_cons (me_var 1) ma_nil))))) mss_never mss_nil)))
/-! is_term -/
abbrev N_is_term : List Str := ["n", "value"]
abbrev P_is_term : List Str := ["n", "value"]
theorem sc_is_term : FnScope N_is_term P_is_term (defScope (top 56)) := ⟨rfl, rfl, rfl, by decide +kernel, rfl, by decide +kernel, by decide +kernel⟩
noncomputable def b_is_term : SF := (sSeq (sDrop (eCall (F_require_number) (aCons (eVar 0) (aCons (eC (.int 1)) (aCons (eC (.int (30))) aNil)))))
    (sRet (eCall (F_is_term_in) (aCons (eVar 0) (aCons (eVar 1) aNil)))))
noncomputable def F_is_term : VF := fnRun 2 2 b_is_term
theorem ok_is_term (fs : Fs K mg) : Own P0 w0 K mg base 45 "is_term" P_is_term F_is_term := by
  obtain ⟨⟨fd, F⟩, m⟩ := fs.dfn 38 (dd "is_term" 56) rfl
  exact own_ok (N := N_is_term) (b := b_is_term) F m sc_is_term (FunD.bindsN F fun _ _ _ _ _ _ us hl => match us, hl with | [_, _], _ => rfl) fun cdv A outer s H E hr =>
    (mss_cons (ms_expr (me_own (ok_require_number fs) hr (ma_cons (me_var 0) (ma_cons me_int (ma_cons (me_gint (fs.gin 2 rfl)) ma_nil)))))
      (mss_one (ms_ret (me_own (ok_is_term_in fs) hr (ma_cons (me_var 0) (ma_cons (me_var 1) ma_nil))))))
/-! order_of_term -/
abbrev N_order_of_term : List Str := ["n", "term"]
abbrev P_order_of_term : List Str := ["n", "term"]
theorem sc_order_of_term : FnScope N_order_of_term P_order_of_term (defScope (top 57)) := ⟨rfl, rfl, rfl, by decide +kernel, rfl, by decide +kernel, by decide +kernel⟩
noncomputable def b_order_of_term : SF := (sSeq (sDrop (eCall (F_require_term) (aCons (eVar 0) (aCons (eVar 1) aNil))))
    (sRet (eTup (aCons (eVar 0) (aCons (eCall oTuple (aCons (eFrz (eCall oSorted (aCons (eFrz (eCall (F_pairs_of_term 40) (aCons (eVar 1) aNil))) aNil))) aNil)) aNil)))))
noncomputable def F_order_of_term : VF := fnRun 2 2 b_order_of_term
theorem ok_order_of_term (fs : Fs K mg) : Own P0 w0 K mg base 85 "order_of_term" P_order_of_term F_order_of_term := by
  obtain ⟨⟨fd, F⟩, m⟩ := fs.dfn 39 (dd "order_of_term" 57) rfl
  exact own_ok (N := N_order_of_term) (b := b_order_of_term) F m sc_order_of_term (FunD.bindsN F fun _ _ _ _ _ _ us hl => match us, hl with | [_, _], _ => rfl) fun cdv A outer s H E hr =>
    (mss_cons (ms_expr (me_own (ok_require_term fs) hr (ma_cons (me_var 0) (ma_cons (me_var 1) ma_nil))))
      (mss_one (ms_ret (me_tup (ma_cons (me_var 0) (ma_cons (me_callTy call_tuple_of cd_tuple (fs.fre 5 rfl) (by decide +kernel) (ma_cons (me_frz (me_callB (cr_sortD hr.u70) cd_sorted (fs.fre 7 rfl) (by decide +kernel) (ma_cons (me_frz (me_own (ok_pairs_of_term fs 40) hr (ma_cons (me_var 1) ma_nil))) ma_nil))) ma_nil)) ma_nil))))))
/-! term_of -/
abbrev N_term_of : List Str := ["order", "term"]
abbrev P_term_of : List Str := ["order"]
theorem sc_term_of : FnScope N_term_of P_term_of (defScope (top 58)) := ⟨rfl, rfl, rfl, by decide +kernel, rfl, by decide +kernel, by decide +kernel⟩
noncomputable def b_term_of : SF := (sSeq (sDrop (eCall (F_require_order) (aCons (eVar 0) aNil)))
    (sSeq (sSet 1 (eCall (F_term_in) (aCons (eVar 0) aNil)))
    (sSeq (sIf (cE (eOp oIsN (eVar 1) (eC .none))) (fun _ _ => none) sNil)
    (sRet (eVar 1)))))
noncomputable def F_term_of : VF := fnRun 1 2 b_term_of
theorem ok_term_of (fs : Fs K mg) : Own P0 w0 K mg base 44 "term_of" P_term_of F_term_of := by
  obtain ⟨⟨fd, F⟩, m⟩ := fs.dfn 40 (dd "term_of" 58) rfl
  exact own_ok (N := N_term_of) (b := b_term_of) F m sc_term_of (FunD.bindsN F fun _ _ _ _ _ _ us hl => match us, hl with | [_], _ => rfl) fun cdv A outer s H E hr =>
    (mss_cons (ms_expr (me_own (ok_require_order fs) hr (ma_cons (me_var 0) ma_nil)))
      (mss_cons (ms_set 1 sc_term_of.nd (me_own (ok_term_in fs) hr (ma_cons (me_var 0) ma_nil)))
      (mss_cons (ms_if (mt_cmp op_isN od_isN (me_var 1) me_non (nomark _)) mss_never mss_nil)
      (mss_one (ms_ret (me_var 1))))))
/-! plain_term -/
abbrev N_plain_term : List Str := ["n", "term"]
abbrev P_plain_term : List Str := ["n", "term"]
theorem sc_plain_term : FnScope N_plain_term P_plain_term (defScope (top 59)) := ⟨rfl, rfl, rfl, by decide +kernel, rfl, by decide +kernel, by decide +kernel⟩
noncomputable def b_plain_term : SF := (sSeq (sDrop (eCall (F_require_term) (aCons (eVar 0) (aCons (eVar 1) aNil))))
    (sRet (eCall (F_plain_in 40) (aCons (eVar 1) aNil))))
noncomputable def F_plain_term : VF := fnRun 2 2 b_plain_term
theorem ok_plain_term (fs : Fs K mg) : Own P0 w0 K mg base 85 "plain_term" P_plain_term F_plain_term := by
  obtain ⟨⟨fd, F⟩, m⟩ := fs.dfn 41 (dd "plain_term" 59) rfl
  exact own_ok (N := N_plain_term) (b := b_plain_term) F m sc_plain_term (FunD.bindsN F fun _ _ _ _ _ _ us hl => match us, hl with | [_, _], _ => rfl) fun cdv A outer s H E hr =>
    (mss_cons (ms_expr (me_own (ok_require_term fs) hr (ma_cons (me_var 0) (ma_cons (me_var 1) ma_nil))))
      (mss_one (ms_ret (me_own (ok_plain_in fs 40) hr (ma_cons (me_var 1) ma_nil)))))
/-! turned_term -/
abbrev N_turned_term : List Str := ["n", "term"]
abbrev P_turned_term : List Str := ["n", "term"]
theorem sc_turned_term : FnScope N_turned_term P_turned_term (defScope (top 60)) := ⟨rfl, rfl, rfl, by decide +kernel, rfl, by decide +kernel, by decide +kernel⟩
noncomputable def b_turned_term : SF := (sSeq (sDrop (eCall (F_require_term) (aCons (eVar 0) (aCons (eVar 1) aNil))))
    (sRet (eCall (F_plain_in 40) (aCons (eCall (F_turned_members 40) (aCons (eVar 1) aNil)) aNil))))
noncomputable def F_turned_term : VF := fnRun 2 2 b_turned_term
theorem ok_turned_term (fs : Fs K mg) : Own P0 w0 K mg base 85 "turned_term" P_turned_term F_turned_term := by
  obtain ⟨⟨fd, F⟩, m⟩ := fs.dfn 42 (dd "turned_term" 60) rfl
  exact own_ok (N := N_turned_term) (b := b_turned_term) F m sc_turned_term (FunD.bindsN F fun _ _ _ _ _ _ us hl => match us, hl with | [_, _], _ => rfl) fun cdv A outer s H E hr =>
    (mss_cons (ms_expr (me_own (ok_require_term fs) hr (ma_cons (me_var 0) (ma_cons (me_var 1) ma_nil))))
      (mss_one (ms_ret (me_own (ok_plain_in fs 40) hr (ma_cons (me_own (ok_turned_members fs 40) hr (ma_cons (me_var 1) ma_nil)) ma_nil)))))
/-! taken_term -/
abbrev N_taken_term : List Str := ["n", "term", "things", "at", "thing"]
abbrev P_taken_term : List Str := ["n", "term", "things"]
theorem sc_taken_term : FnScope N_taken_term P_taken_term (defScope (top 61)) := ⟨rfl, rfl, rfl, by decide +kernel, rfl, by decide +kernel, by decide +kernel⟩
noncomputable def b_taken_term : SF := (sSeq (sDrop (eCall (F_require_term) (aCons (eVar 0) (aCons (eVar 1) aNil))))
    (sSeq (sIf (cOr (cNot (cE (eCall (F_are_things) (aCons (eTup (aCons (eVar 0) (aCons (eTup aNil) aNil))) (aCons (eVar 2) aNil))))) (cE (eOp oEq (eVar 2) (eTup aNil)))) (fun _ _ => none) sNil)
    (sRet (eCall (F_plain_in 40) (aCons (eCall (F_struck 40) (aCons (eVar 1) (aCons (eDc MO.dK asKeyP (iEnD (aCons (eVar 2) aNil)) [3, 4] (gTp (gsCons (gNm 3) (gsCons (gNm 4) gsNil))) cYes (eVar 4) (eVar 3)) aNil))) aNil)))))
noncomputable def F_taken_term : VF := fnRun 3 5 b_taken_term
theorem ok_taken_term (fs : Fs K mg) : Own P0 w0 K mg base 85 "taken_term" P_taken_term F_taken_term := by
  obtain ⟨⟨fd, F⟩, m⟩ := fs.dfn 43 (dd "taken_term" 61) rfl
  exact own_ok (N := N_taken_term) (b := b_taken_term) F m sc_taken_term (FunD.bindsN F fun _ _ _ _ _ _ us hl => match us, hl with | [_, _, _], _ => rfl) fun cdv A outer s H E hr =>
    (mss_cons (ms_expr (me_own (ok_require_term fs) hr (ma_cons (me_var 0) (ma_cons (me_var 1) ma_nil))))
      (mss_cons (ms_if (mw_or (mt_not (mt_val (me_own (ok_are_things fs) hr (ma_cons (me_tup (ma_cons (me_var 0) (ma_cons (me_tup ma_nil) ma_nil))) (ma_cons (me_var 2) ma_nil))))) (mw_one' (mt_cmp (op_eqD hr.u64) od_eq (me_var 2) (me_tup ma_nil) (nomark _)))).pt mss_never mss_nil)
      (mss_one (ms_ret (me_own (ok_plain_in fs 40) hr (ma_cons (me_own (ok_struck fs 40) hr (ma_cons (me_var 1) (ma_cons (me_dcK [("at", 3), ("thing", 4)] sc_taken_term.nd (mi_en (ma_cons (me_var 2) ma_nil) (fs.fre 14 rfl)) (blkOk_by (by kernel_rfl)) (fun _ _ _ _ _ => (mg_tup (mgs_cons (mg_name 3 sc_taken_term.nd) (mgs_cons (mg_name 4 sc_taken_term.nd) mgs_nil)) (fun _ _ _ h => gsLen_cons (fun _ _ _ h => gsLen_cons (fun _ _ _ h => gsLen_nil h) h) h))) (fun _ _ _ _ _ => mts_nil) (fun _ _ _ _ _ => (me_var 4)) (fun _ _ _ _ _ => (me_var 3))) ma_nil))) ma_nil))))))
/-! term_numbers -/
abbrev N_term_numbers : List Str := ["n", "term"]
abbrev P_term_numbers : List Str := ["n", "term"]
theorem sc_term_numbers : FnScope N_term_numbers P_term_numbers (defScope (top 62)) := ⟨rfl, rfl, rfl, by decide +kernel, rfl, by decide +kernel, by decide +kernel⟩
noncomputable def b_term_numbers : SF := (sSeq (sDrop (eCall (F_require_term) (aCons (eVar 0) (aCons (eVar 1) aNil))))
    (sRet (eTup (aCons (eCall (F_lines_of_term 40) (aCons (eVar 1) aNil)) (aCons (eCall oSum (aCons (eFrz (eCall (F_sizes_of_term 40) (aCons (eVar 1) aNil))) aNil)) (aCons (eCall (F_extent 40) (aCons (eVar 1) (aCons (eC (.str "beside")) aNil))) (aCons (eCall (F_extent 40) (aCons (eVar 1) (aCons (eC (.str "behind")) aNil))) aNil)))))))
noncomputable def F_term_numbers : VF := fnRun 2 2 b_term_numbers
theorem ok_term_numbers (fs : Fs K mg) : Own P0 w0 K mg base 83 "term_numbers" P_term_numbers F_term_numbers := by
  obtain ⟨⟨fd, F⟩, m⟩ := fs.dfn 44 (dd "term_numbers" 62) rfl
  exact own_ok (N := N_term_numbers) (b := b_term_numbers) F m sc_term_numbers (FunD.bindsN F fun _ _ _ _ _ _ us hl => match us, hl with | [_, _], _ => rfl) fun cdv A outer s H E hr =>
    (mss_cons (ms_expr (me_own (ok_require_term fs) hr (ma_cons (me_var 0) (ma_cons (me_var 1) ma_nil))))
      (mss_one (ms_ret (me_tup (ma_cons (me_own (ok_lines_of_term fs 40) hr (ma_cons (me_var 1) ma_nil)) (ma_cons (me_callB (cr_sum rfl) cd_sum (fs.fre 11 rfl) (by decide +kernel) (ma_cons (me_frz (me_own (ok_sizes_of_term fs 40) hr (ma_cons (me_var 1) ma_nil))) ma_nil)) (ma_cons (me_own (ok_extent fs 40) hr (ma_cons (me_var 1) (ma_cons (me_gstr (fs.gst 1 rfl)) ma_nil))) (ma_cons (me_own (ok_extent fs 40) hr (ma_cons (me_var 1) (ma_cons (me_gstr (fs.gst 0 rfl)) ma_nil))) ma_nil))))))))
/-! _law_dice -/
abbrev N__law_dice : List Str := ["script", "spot", "cell", "great"]
abbrev P__law_dice : List Str := ["script", "spot"]
theorem sc__law_dice : FnScope N__law_dice P__law_dice (defScope (top 64)) := ⟨rfl, rfl, rfl, by decide +kernel, rfl, by decide +kernel, by decide +kernel⟩
noncomputable def b__law_dice : SF := (sSeq (sSet 2 (eIf (cE (eOp oLtX (eVar 1) (eCall oLen (aCons (eVar 0) aNil)))) (eCall oIntC (aCons (eOp oIx (eVar 0) (eVar 1)) aNil)) (eOp oAdd (eOp oMul (eC (.int 131)) (eVar 1)) (eC (.int 71)))))
    (sSeq (sSet 3 (eOp oMod (eCall oMax2 (aCons (eC (.int 0)) (aCons (eOp oSub (eCall oAbs (aCons (eVar 2) aNil)) (eOp oPow (eC (.int 10)) (eC (.int 16)))) aNil))) (eOp oMul (eOp oPow (eC (.int 10)) (eC (.int 55))) (eOp oPow (eC (.int 10)) (eC (.int 55))))))
    (sRet (eLst (aCons (eVar 3) (aCons (eOp oMod (eOp oAdd (eOp oAdd (eOp oMod (eCall oAbs (aCons (eVar 2) aNil)) (eC (.int 18446744073709551557))) (eOp oMul (eC (.int 7919)) (eVar 1))) (eOp oMul (eC (.int 31)) (eCall oIntC (aCons (eOp oLtX (eVar 2) (eC (.int 0))) aNil)))) (eC (.int 18446744073709551616))) aNil))))))
noncomputable def F__law_dice : VF := fnRun 2 4 b__law_dice
theorem ok__law_dice (fs : Fs K mg) : Own P0 w0 K mg base 1 "_law_dice" P__law_dice F__law_dice := by
  obtain ⟨⟨fd, F⟩, m⟩ := fs.dfn 45 (dd "_law_dice" 64) rfl
  exact own_ok (N := N__law_dice) (b := b__law_dice) F m sc__law_dice (FunD.bindsN F fun _ _ _ _ _ _ us hl => match us, hl with | [_, _], _ => rfl) fun cdv A outer s H E hr =>
    (mss_cons (ms_set 2 sc__law_dice.nd (me_if (mt_cmp (op_ltX hr.u64) od_ltX (me_var 1) (me_callB call_lenX cd_len (fs.fre 0 rfl) (by decide +kernel) (ma_cons (me_var 0) ma_nil)) (nomark _)) (me_callTy call_int1 cd_intC (fs.fre 3 rfl) (by decide +kernel) (ma_cons (me_ix hr.u1 (me_var 0) (me_var 1)) ma_nil)) (me_op op_addP od_add (me_op op_mulP od_mulP me_int (me_var 1)) me_int)))
      (mss_cons (ms_set 3 sc__law_dice.nd (me_op op_mod od_mod (me_callB (call_max2 rfl) cd_two (fs.fre 12 rfl) (by decide +kernel) (ma_cons me_int (ma_cons (me_op op_sub od_sub (me_callB call_abs cd_abs (fs.fre 15 rfl) (by decide +kernel) (ma_cons (me_var 2) ma_nil)) (me_op op_pow od_pow me_int me_int)) ma_nil))) (me_op op_mulP od_mulP (me_op op_pow od_pow me_int me_int) (me_op op_pow od_pow me_int me_int))))
      (mss_one (ms_ret (me_lst (ma_cons (me_var 3) (ma_cons (me_op op_mod od_mod (me_op op_addP od_add (me_op op_addP od_add (me_op op_mod od_mod (me_callB call_abs cd_abs (fs.fre 15 rfl) (by decide +kernel) (ma_cons (me_var 2) ma_nil)) me_int) (me_op op_mulP od_mulP me_int (me_var 1))) (me_op op_mulP od_mulP me_int (me_callTy call_int1 cd_intC (fs.fre 3 rfl) (by decide +kernel) (ma_cons (me_cmp (op_ltX hr.u64) od_ltX (me_var 2) me_int (nomark _)) ma_nil)))) me_int) ma_nil)))))))
/-! _law_roll -/
abbrev N__law_roll : List Str := ["dice", "total", "found"]
abbrev P__law_roll : List Str := ["dice", "total"]
theorem sc__law_roll : FnScope N__law_roll P__law_roll (defScope (top 65)) := ⟨rfl, rfl, rfl, by decide +kernel, rfl, by decide +kernel, by decide +kernel⟩
noncomputable def b__law_roll : SF := (sSeq (sIf (cE (eOp oGtX (eOp oIx (eVar 0) (eC (.int 0))) (eC (.int 0)))) (sSeq (sSet 2 (eCall oIntC (aCons (eOp oMod (eOp oIx (eVar 0) (eC (.int 0))) (eVar 1)) aNil)))
    (sSeq (sPut (eVar 0) (eC (.int 0)) (eOp oDiv (eOp oIx (eVar 0) (eC (.int 0))) (eVar 1)))
    (sRet (eVar 2)))) sNil)
    (sSeq (sPut (eVar 0) (eC (.int 1)) (eOp oMod (eOp oAdd (eOp oMul (eOp oIx (eVar 0) (eC (.int 1))) (eC (.int 6364136223846793005))) (eC (.int 1442695040888963407))) (eC (.int 18446744073709551616))))
    (sRet (eOp oMod (eCall oIntC (aCons (eOp oDiv (eOp oIx (eVar 0) (eC (.int 1))) (eC (.int 4294967296))) aNil)) (eVar 1)))))
noncomputable def F__law_roll : VF := fnRun 2 3 b__law_roll
theorem ok__law_roll (fs : Fs K mg) : Own P0 w0 K mg base 1 "_law_roll" P__law_roll F__law_roll := by
  obtain ⟨⟨fd, F⟩, m⟩ := fs.dfn 46 (dd "_law_roll" 65) rfl
  exact own_ok (N := N__law_roll) (b := b__law_roll) F m sc__law_roll (FunD.bindsN F fun _ _ _ _ _ _ us hl => match us, hl with | [_, _], _ => rfl) fun cdv A outer s H E hr =>
    (mss_cons (ms_if (mt_cmp (op_gtX hr.u64) od_gtX (me_ix hr.u1 (me_var 0) me_int) me_int (nomark _)) (mss_cons (ms_set 2 sc__law_roll.nd (me_callTy call_int1 cd_intC (fs.fre 3 rfl) (by decide +kernel) (ma_cons (me_op op_mod od_mod (me_ix hr.u1 (me_var 0) me_int) (me_var 1)) ma_nil)))
      (mss_cons (ms_put hr.u1 (me_var 0) me_int (me_op op_fdivW od_div (me_ix hr.u1 (me_var 0) me_int) (me_var 1)))
      (mss_one (ms_ret (me_var 2))))) mss_nil)
      (mss_cons (ms_put hr.u1 (me_var 0) me_int (me_op op_mod od_mod (me_op op_addP od_add (me_op op_mulP od_mulP (me_ix hr.u1 (me_var 0) me_int) me_int) me_int) me_int))
      (mss_one (ms_ret (me_op op_mod od_mod (me_callTy call_int1 cd_intC (fs.fre 3 rfl) (by decide +kernel) (ma_cons (me_op op_fdivW od_div (me_ix hr.u1 (me_var 0) me_int) me_int) ma_nil)) (me_var 1))))))
/-! _law_one_of -/
abbrev N__law_one_of : List Str := ["dice", "items"]
abbrev P__law_one_of : List Str := ["dice", "items"]
theorem sc__law_one_of : FnScope N__law_one_of P__law_one_of (defScope (top 66)) := ⟨rfl, rfl, rfl, by decide +kernel, rfl, by decide +kernel, by decide +kernel⟩
noncomputable def b__law_one_of : SF := (sRet (eOp oIx (eVar 1) (eCall (F__law_roll) (aCons (eVar 0) (aCons (eCall oLen (aCons (eVar 1) aNil)) aNil)))))
noncomputable def F__law_one_of : VF := fnRun 2 2 b__law_one_of
theorem ok__law_one_of (fs : Fs K mg) : Own P0 w0 K mg base 2 "_law_one_of" P__law_one_of F__law_one_of := by
  obtain ⟨⟨fd, F⟩, m⟩ := fs.dfn 47 (dd "_law_one_of" 66) rfl
  exact own_ok (N := N__law_one_of) (b := b__law_one_of) F m sc__law_one_of (FunD.bindsN F fun _ _ _ _ _ _ us hl => match us, hl with | [_, _], _ => rfl) fun cdv A outer s H E hr =>
    (mss_one (ms_ret (me_ix hr.u1 (me_var 1) (me_own (ok__law_roll fs) hr (ma_cons (me_var 0) (ma_cons (me_callB call_lenX cd_len (fs.fre 0 rfl) (by decide +kernel) (ma_cons (me_var 1) ma_nil)) ma_nil))))))
/-! _law_mixed -/
abbrev N__law_mixed : List Str := ["dice", "items", "found", "item", "at"]
abbrev P__law_mixed : List Str := ["dice", "items"]
theorem sc__law_mixed : FnScope N__law_mixed P__law_mixed (defScope (top 67)) := ⟨rfl, rfl, rfl, by decide +kernel, rfl, by decide +kernel, by decide +kernel⟩
noncomputable def b__law_mixed : SF := (sSeq (sSet 2 (eFrz (eLst aNil)))
    (sSeq (sFor (iSeq (eVar 1)) (gNm 3) (sSeq (sSet 4 (eCall (F__law_roll) (aCons (eVar 0) (aCons (eOp oAdd (eCall oLen (aCons (eVar 2) aNil)) (eC (.int 1))) aNil))))
    (sSet 2 (eFrz (eOp oAdd (eFrz (eOp oAdd (eFrz (eSl (eVar 2) pNo (pSo (eVar 4)))) (eFrz (eLst (aCons (eVar 3) aNil))))) (eFrz (eSl (eVar 2) (pSo (eVar 4)) pNo)))))))
    (sRet (eVar 2))))
noncomputable def F__law_mixed : VF := fnRun 2 5 b__law_mixed
theorem ok__law_mixed (fs : Fs K mg) : Own P0 w0 K mg base 2 "_law_mixed" P__law_mixed F__law_mixed := by
  obtain ⟨⟨fd, F⟩, m⟩ := fs.dfn 48 (dd "_law_mixed" 67) rfl
  exact own_ok (N := N__law_mixed) (b := b__law_mixed) F m sc__law_mixed (FunD.bindsN F fun _ _ _ _ _ _ us hl => match us, hl with | [_, _], _ => rfl) fun cdv A outer s H E hr =>
    (mss_cons (ms_set 2 sc__law_mixed.nd (me_frz (me_lst ma_nil)))
      (mss_cons (ms_for .never (mi_seq (me_var 1)) (mg_name 3 sc__law_mixed.nd) (mss_cons (ms_set 4 sc__law_mixed.nd (me_own (ok__law_roll fs) hr (ma_cons (me_var 0) (ma_cons (me_op op_addP od_add (me_callB call_lenX cd_len (fs.fre 0 rfl) (by decide +kernel) (ma_cons (me_var 2) ma_nil)) me_int) ma_nil))))
      (mss_one (ms_set 2 sc__law_mixed.nd (me_frz (me_op op_addP od_add (me_frz (me_op op_addP od_add (me_frz (me_slice (me_var 2) mo_none (mo_some (me_var 4)))) (me_frz (me_lst (ma_cons (me_var 3) ma_nil))))) (me_frz (me_slice (me_var 2) (mo_some (me_var 4)) mo_none))))))))
      (mss_one (ms_ret (me_var 2)))))
/-! _law_term -/
abbrev N__law_term : List Str := ["dice", "things", "word", "parts", "at", "one", "thing", "part"]
abbrev P__law_term : List Str := ["dice", "things", "word"]
theorem sc__law_term : FnScope N__law_term P__law_term (defScope (top 68)) := ⟨rfl, rfl, rfl, by decide +kernel, rfl, by decide +kernel, by decide +kernel⟩
noncomputable def b__law_term (R : VF) : SF := (sSeq (sIf (cE (eOp oEq (eCall oLen (aCons (eVar 1) aNil)) (eC (.int 1)))) (sRet (eOp oIx (eVar 1) (eC (.int 0)))) sNil)
    (sSeq (sSet 2 (eCall (F__law_one_of) (aCons (eVar 0) (aCons (eFrz (eLc (iSeq (eTup (aCons (eC (.str "behind")) (aCons (eC (.str "beside")) aNil)))) [5] (gNm 5) (cE (eOp oNe (eVar 5) (eVar 2))) (eVar 5))) aNil))))
    (sSeq (sSet 3 (eFrz (eLc (iSeq (eVar 1)) [6] (gNm 6) cYes (eFrz (eLst (aCons (eVar 6) aNil))))))
    (sSeq (whileD (cAnd (cE (eOp oGtX (eCall oLen (aCons (eVar 3) aNil)) (eC (.int 2)))) (cE (eOp oGtX (eCall (F__law_roll) (aCons (eVar 0) (aCons (eC (.int 4)) aNil))) (eC (.int 0))))) (sSeq (sSet 4 (eCall (F__law_roll) (aCons (eVar 0) (aCons (eOp oSub (eCall oLen (aCons (eVar 3) aNil)) (eC (.int 1))) aNil))))
    (sSet 3 (eFrz (eOp oAdd (eFrz (eOp oAdd (eFrz (eSl (eVar 3) pNo (pSo (eVar 4)))) (eFrz (eLst (aCons (eFrz (eOp oAdd (eOp oIx (eVar 3) (eVar 4)) (eOp oIx (eVar 3) (eOp oAdd (eVar 4) (eC (.int 1)))))) aNil))))) (eFrz (eSl (eVar 3) (pSo (eOp oAdd (eVar 4) (eC (.int 2)))) pNo)))))) 40)
    (sRet (eOp oAdd (eTup (aCons (eVar 2) aNil)) (eCall oTuple (aCons (eFrz (eLc (iSeq (eVar 3)) [7] (gNm 7) cYes (eCall R (aCons (eVar 0) (aCons (eVar 7) (aCons (eVar 2) aNil)))))) aNil))))))))
noncomputable def F__law_term : Nat → VF := recF 3 8 b__law_term
theorem ok__law_term (fs : Fs K mg) : ∀ i : Nat, Own P0 w0 K mg base (3 + i) "_law_term" P__law_term (F__law_term i)
  | 0 => by
    obtain ⟨⟨fd, F⟩, m⟩ := fs.dfn 49 (dd "_law_term" 68) rfl
    exact .none (FunD.bindsN F fun _ _ _ _ _ _ us hl => match us, hl with | [_, _, _], _ => rfl) F.kp m
  | j + 1 => by
    obtain ⟨⟨fd, F⟩, m⟩ := fs.dfn 49 (dd "_law_term" 68) rfl
    have hR := ok__law_term fs j
    generalize hRR : F__law_term j = R at hR
    have h0 := own_ok (N := N__law_term) (b := b__law_term R) F m sc__law_term (FunD.bindsN F fun _ _ _ _ _ _ us hl => match us, hl with | [_, _, _], _ => rfl) fun cdv A outer s H E hr =>
      (mss_cons (ms_if (mt_cmp (op_eqD hr.u64) od_eq (me_callB call_lenX cd_len (fs.fre 0 rfl) (by decide +kernel) (ma_cons (me_var 1) ma_nil)) me_int (nomark _)) (mss_one (ms_ret (me_ix hr.u1 (me_var 1) me_int))) mss_nil)
      (mss_cons (ms_set 2 sc__law_term.nd (me_own (ok__law_one_of fs) hr (ma_cons (me_var 0) (ma_cons (me_frz (me_lc [("one", 5)] sc__law_term.nd (mi_seq (me_tup (ma_cons me_str (ma_cons me_str ma_nil)))) (blkOk_by (by kernel_rfl)) (fun _ _ _ _ _ => (mg_name 5 sc__law_term.nd)) (fun _ _ _ _ _ => (mts_one (mt_cmp (op_neD hr.u64) od_ne (me_var 5) (me_var 2) (nomark _)))) (fun _ _ _ _ _ => (me_var 5)))) ma_nil)) (Nat.le_trans (by decide : 2 ≤ 3) (Nat.le_add_right _ _))))
      (mss_cons (ms_setLcF 3 [("thing", 6)] sc__law_term.nd (mi_seq (me_var 1)) (blkOk_by (by kernel_rfl)) (fun _ _ _ _ _ => (mg_name 6 sc__law_term.nd)) (fun _ _ _ _ _ => mts_nil) (fun _ _ _ _ _ => (me_frz (me_lst (ma_cons (me_var 6) ma_nil)))) (sw_true rfl rfl rfl (by kernel_rfl)))
      (mss_cons (ms_while 40 .never (mw_and (mt_cmp (op_gtX hr.u64) od_gtX (me_callB call_lenX cd_len (fs.fre 0 rfl) (by decide +kernel) (ma_cons (me_var 3) ma_nil)) me_int (nomark _)) (mw_one (mt_cmp (op_gtX hr.u64) od_gtX (me_own (ok__law_roll fs) hr (ma_cons (me_var 0) (ma_cons me_int ma_nil)) (Nat.le_trans (by decide : 1 ≤ 3) (Nat.le_add_right _ _))) me_int (nomark _)))).pt (mss_cons (ms_set 4 sc__law_term.nd (me_own (ok__law_roll fs) hr (ma_cons (me_var 0) (ma_cons (me_op op_sub od_sub (me_callB call_lenX cd_len (fs.fre 0 rfl) (by decide +kernel) (ma_cons (me_var 3) ma_nil)) me_int) ma_nil)) (Nat.le_trans (by decide : 1 ≤ 3) (Nat.le_add_right _ _))))
      (mss_one (ms_set 3 sc__law_term.nd (me_frz (me_op op_addP od_add (me_frz (me_op op_addP od_add (me_frz (me_slice (me_var 3) mo_none (mo_some (me_var 4)))) (me_frz (me_lst (ma_cons (me_frz (me_op op_addP od_add (me_ix hr.u1 (me_var 3) (me_var 4)) (me_ix hr.u1 (me_var 3) (me_op op_addP od_add (me_var 4) me_int)))) ma_nil))))) (me_frz (me_slice (me_var 3) (mo_some (me_op op_addP od_add (me_var 4) me_int)) mo_none))))))))
      (mss_one (ms_ret (me_op op_addP od_add (me_tup (ma_cons (me_var 2) ma_nil)) (me_callTy call_tuple_of cd_tuple (fs.fre 5 rfl) (by decide +kernel) (ma_cons (me_frz (me_lc [("part", 7)] sc__law_term.nd (mi_seq (me_var 3)) (blkOk_by (by kernel_rfl)) (fun _ _ _ _ _ => (mg_name 7 sc__law_term.nd)) (fun _ _ _ _ _ => mts_nil) (fun _ _ _ _ _ => (me_own hR hr (ma_cons (me_var 0) (ma_cons (me_var 7) (ma_cons (me_var 2) ma_nil))) (Nat.le_refl _))))) ma_nil)))))))))
    rw [← hRR] at h0
    exact h0
/-! _law_deep -/
abbrev N__law_deep : List Str := ["many", "word", "found", "at"]
abbrev P__law_deep : List Str := ["many", "word"]
theorem sc__law_deep : FnScope N__law_deep P__law_deep (defScope (top 69)) := ⟨rfl, rfl, rfl, by decide +kernel, rfl, by decide +kernel, by decide +kernel⟩
noncomputable def b__law_deep : SF := (sSeq (sSet 2 (eOp oSub (eVar 0) (eC (.int 1))))
    (sSeq (sFor (iDwnD (aCons (eOp oSub (eVar 0) (eC (.int 2))) (aCons (eUn oNeg (eC (.int 1))) (aCons (eUn oNeg (eC (.int 1))) aNil)))) (gNm 3) (sSeq (sSet 2 (eTup (aCons (eVar 1) (aCons (eVar 3) (aCons (eVar 2) aNil)))))
    (sSet 1 (eIf (cE (eOp oEq (eVar 1) (eC (.str "behind")))) (eC (.str "beside")) (eC (.str "behind"))))))
    (sRet (eVar 2))))
noncomputable def F__law_deep : VF := fnRun 2 4 b__law_deep
theorem ok__law_deep (fs : Fs K mg) : Own P0 w0 K mg base 1 "_law_deep" P__law_deep F__law_deep := by
  obtain ⟨⟨fd, F⟩, m⟩ := fs.dfn 50 (dd "_law_deep" 69) rfl
  exact own_ok (N := N__law_deep) (b := b__law_deep) F m sc__law_deep (FunD.bindsN F fun _ _ _ _ _ _ us hl => match us, hl with | [_, _], _ => rfl) fun cdv A outer s H E hr =>
    (mss_cons (ms_set 2 sc__law_deep.nd (me_op op_sub od_sub (me_var 0) me_int))
      (mss_cons (ms_for .never (mi_dwn (ma_cons (me_op op_sub od_sub (me_var 0) me_int) (ma_cons (me_un un_neg ud_neg me_int) (ma_cons (me_un un_neg ud_neg me_int) ma_nil))) (fs.fre 1 rfl)) (mg_name 3 sc__law_deep.nd) (mss_cons (ms_set 2 sc__law_deep.nd (me_tup (ma_cons (me_var 1) (ma_cons (me_var 3) (ma_cons (me_var 2) ma_nil)))))
      (mss_one (ms_set 1 sc__law_deep.nd (me_if (mt_cmp (op_eqD hr.u64) od_eq (me_var 1) me_str (nomark _)) me_str me_str)))))
      (mss_one (ms_ret (me_var 2)))))
/-! _law_things -/
abbrev N__law_things : List Str := ["term", "part"]
abbrev P__law_things : List Str := ["term"]
theorem sc__law_things : FnScope N__law_things P__law_things (defScope (top 70)) := ⟨rfl, rfl, rfl, by decide +kernel, rfl, by decide +kernel, by decide +kernel⟩
noncomputable def b__law_things (R : VF) : SF := (sRet (eIf (cNot (cE (eIsi "tuple" (eVar 0)))) (eFrz (eLst (aCons (eVar 0) aNil))) (eCall oSumLL (aCons (eFrz (eLc (iSeq (eFrz (eSl (eVar 0) (pSo (eC (.int 1))) pNo))) [1] (gNm 1) cYes (eFrz (eCall R (aCons (eVar 1) aNil))))) (aCons (eFrz (eLst aNil)) aNil)))))
noncomputable def F__law_things : Nat → VF := recF 1 2 b__law_things
theorem ok__law_things (fs : Fs K mg) : ∀ i : Nat, Own P0 w0 K mg base (1 + i) "_law_things" P__law_things (F__law_things i)
  | 0 => by
    obtain ⟨⟨fd, F⟩, m⟩ := fs.dfn 51 (dd "_law_things" 70) rfl
    exact .none (FunD.bindsN F fun _ _ _ _ _ _ us hl => match us, hl with | [_], _ => rfl) F.kp m
  | j + 1 => by
    obtain ⟨⟨fd, F⟩, m⟩ := fs.dfn 51 (dd "_law_things" 70) rfl
    have hR := ok__law_things fs j
    generalize hRR : F__law_things j = R at hR
    have h0 := own_ok (N := N__law_things) (b := b__law_things R) F m sc__law_things (FunD.bindsN F fun _ _ _ _ _ _ us hl => match us, hl with | [_], _ => rfl) fun cdv A outer s H E hr =>
      (mss_one (ms_ret (me_if (mt_not (mt_val (me_isi (me_var 0) (fs.fre 2 rfl) (fs.fre 5 rfl) (by decide +kernel) (by decide)))) (me_frz (me_lst (ma_cons (me_var 0) ma_nil))) (me_callB (cr_sumLL rfl) cd_sumLL (fs.fre 11 rfl) (by decide +kernel) (ma_cons (me_frz (me_lc [("part", 1)] sc__law_things.nd (mi_seq (me_frz (me_slice (me_var 0) (mo_some me_int) mo_none))) (blkOk_by (by kernel_rfl)) (fun _ _ _ _ _ => (mg_name 1 sc__law_things.nd)) (fun _ _ _ _ _ => mts_nil) (fun _ _ _ _ _ => (me_frz (me_own hR hr (ma_cons (me_var 1) ma_nil) (Nat.le_refl _)))))) (ma_cons (me_frz (me_lst ma_nil)) ma_nil))))))
    rw [← hRR] at h0
    exact h0
/-! _law_struck -/
abbrev N__law_struck : List Str := ["term", "things", "parts", "some", "part"]
abbrev P__law_struck : List Str := ["term", "things"]
theorem sc__law_struck : FnScope N__law_struck P__law_struck (defScope (top 71)) := ⟨rfl, rfl, rfl, by decide +kernel, rfl, by decide +kernel, by decide +kernel⟩
noncomputable def b__law_struck (R : VF) : SF := (sSeq (sIf (cNot (cE (eIsi "tuple" (eVar 0)))) (sRet (eIf (cE (eOp (oInX false) (eVar 0) (eVar 1))) (eMt oIndex (eVar 1) (aCons (eVar 0) aNil)) (eC .none))) sNil)
    (sSeq (sSet 2 (eFrz (eLc (iSeq (eFrz (eSl (eVar 0) (pSo (eC (.int 1))) pNo))) [4] (gNm 4) cYes (eCall R (aCons (eVar 4) (aCons (eVar 1) aNil))))))
    (sSeq (sSet 2 (eFrz (eLc (iSeq (eVar 2)) [4] (gNm 4) (cE (eOp oNotN (eVar 4) (eC .none))) (eVar 4))))
    (sSeq (sIf (cE (eOp oLtX (eCall oLen (aCons (eVar 2) aNil)) (eC (.int 2)))) (sRet (eIf (cE (eOp oNe (eVar 2) (eFrz (eLst aNil)))) (eOp oIx (eVar 2) (eC (.int 0))) (eC .none))) sNil)
    (sSeq (sSet 3 (eCall oSumLL (aCons (eFrz (eLc (iSeq (eVar 2)) [4] (gNm 4) cYes (eFrz (eIf (cAnd (cE (eIsi "tuple" (eVar 4))) (cE (eOp oEq (eOp oIx (eVar 4) (eC (.int 0))) (eOp oIx (eVar 0) (eC (.int 0)))))) (eFrz (eCall oList (aCons (eFrz (eSl (eVar 4) (pSo (eC (.int 1))) pNo)) aNil))) (eFrz (eLst (aCons (eVar 4) aNil))))))) (aCons (eFrz (eLst aNil)) aNil))))
    (sRet (eOp oAdd (eTup (aCons (eOp oIx (eVar 0) (eC (.int 0))) aNil)) (eCall oTuple (aCons (eVar 3) aNil)))))))))
noncomputable def F__law_struck : Nat → VF := recF 2 5 b__law_struck
theorem ok__law_struck (fs : Fs K mg) : ∀ i : Nat, Own P0 w0 K mg base (1 + i) "_law_struck" P__law_struck (F__law_struck i)
  | 0 => by
    obtain ⟨⟨fd, F⟩, m⟩ := fs.dfn 52 (dd "_law_struck" 71) rfl
    exact .none (FunD.bindsN F fun _ _ _ _ _ _ us hl => match us, hl with | [_, _], _ => rfl) F.kp m
  | j + 1 => by
    obtain ⟨⟨fd, F⟩, m⟩ := fs.dfn 52 (dd "_law_struck" 71) rfl
    have hR := ok__law_struck fs j
    generalize hRR : F__law_struck j = R at hR
    have h0 := own_ok (N := N__law_struck) (b := b__law_struck R) F m sc__law_struck (FunD.bindsN F fun _ _ _ _ _ _ us hl => match us, hl with | [_, _], _ => rfl) fun cdv A outer s H E hr =>
      (mss_cons (ms_if (mt_not (mt_val (me_isi (me_var 0) (fs.fre 2 rfl) (fs.fre 5 rfl) (by decide +kernel) (by decide)))) (mss_one (ms_ret (me_if (mt_in hr.u65 (me_var 0) (me_var 1) (by with_unfolding_all rfl)) (me_index hr.u65 (me_var 1) (ma_cons (me_var 0) ma_nil)) me_non))) mss_nil)
      (mss_cons (ms_setLcF 2 [("part", 4)] sc__law_struck.nd (mi_seq (me_frz (me_slice (me_var 0) (mo_some me_int) mo_none))) (blkOk_by (by kernel_rfl)) (fun _ _ _ _ _ => (mg_name 4 sc__law_struck.nd)) (fun _ _ _ _ _ => mts_nil) (fun _ _ _ _ _ => (me_own hR hr (ma_cons (me_var 4) (ma_cons (me_var 1) ma_nil)) (Nat.le_refl _))) (sw_true rfl rfl rfl (by kernel_rfl)))
      (mss_cons (ms_setLcF 2 [("part", 4)] sc__law_struck.nd (mi_seq (me_var 2)) (blkOk_by (by kernel_rfl)) (fun _ _ _ _ _ => (mg_name 4 sc__law_struck.nd)) (fun _ _ _ _ _ => (mts_one (mt_cmp op_notN od_notN (me_var 4) me_non (nomark _)))) (fun _ _ _ _ _ => (me_var 4)) (sw_true rfl rfl rfl (by kernel_rfl)))
      (mss_cons (ms_if (mt_cmp (op_ltX hr.u64) od_ltX (me_callB call_lenX cd_len (fs.fre 0 rfl) (by decide +kernel) (ma_cons (me_var 2) ma_nil)) me_int (nomark _)) (mss_one (ms_ret (me_if (mt_cmp (op_neD hr.u64) od_ne (me_var 2) (me_frz (me_lst ma_nil)) (nomark _)) (me_ix hr.u1 (me_var 2) me_int) me_non))) mss_nil)
      (mss_cons (ms_set 3 sc__law_struck.nd (me_callB (cr_sumLL rfl) cd_sumLL (fs.fre 11 rfl) (by decide +kernel) (ma_cons (me_frz (me_lc [("part", 4)] sc__law_struck.nd (mi_seq (me_var 2)) (blkOk_by (by kernel_rfl)) (fun _ _ _ _ _ => (mg_name 4 sc__law_struck.nd)) (fun _ _ _ _ _ => mts_nil) (fun _ _ _ _ _ => (me_frz (me_if (mw_and (mt_val (me_isi (me_var 4) (fs.fre 2 rfl) (fs.fre 5 rfl) (by decide +kernel) (by decide))) (mw_one (mt_cmp (op_eqD hr.u64) od_eq (me_ix hr.u1 (me_var 4) me_int) (me_ix hr.u1 (me_var 0) me_int) (nomark _)))).pt (me_frz (me_callTy call_list_of cd_list (fs.fre 6 rfl) (by decide +kernel) (ma_cons (me_frz (me_slice (me_var 4) (mo_some me_int) mo_none)) ma_nil))) (me_frz (me_lst (ma_cons (me_var 4) ma_nil)))))))) (ma_cons (me_frz (me_lst ma_nil)) ma_nil))))
      (mss_one (ms_ret (me_op op_addP od_add (me_tup (ma_cons (me_ix hr.u1 (me_var 0) me_int) ma_nil)) (me_callTy call_tuple_of cd_tuple (fs.fre 5 rfl) (by decide +kernel) (ma_cons (me_var 3) ma_nil))))))))))
    rw [← hRR] at h0
    exact h0
/-! _law_plain -/
abbrev N__law_plain : List Str := ["term", "parts", "least", "part", "at"]
abbrev P__law_plain : List Str := ["term"]
theorem sc__law_plain : FnScope N__law_plain P__law_plain (defScope (top 72)) := ⟨rfl, rfl, rfl, by decide +kernel, rfl, by decide +kernel, by decide +kernel⟩
noncomputable def b__law_plain (R : VF) : SF := (sSeq (sIf (cNot (cE (eIsi "tuple" (eVar 0)))) (sRet (eVar 0)) sNil)
    (sSeq (sSet 1 (eFrz (eLc (iSeq (eFrz (eSl (eVar 0) (pSo (eC (.int 1))) pNo))) [3] (gNm 3) cYes (eCall R (aCons (eVar 3) aNil)))))
    (sSeq (sIf (cE (eOp oEq (eOp oIx (eVar 0) (eC (.int 0))) (eC (.str "beside")))) (sSeq (sSet 2 (eFrz (eCall oSorted (aCons (eFrz (eLc (iSeq (eVar 1)) [3] (gNm 3) cYes (eCall oMinL (aCons (eFrz (eCall (F__law_things 40) (aCons (eVar 3) aNil))) aNil)))) aNil))))
    (sSet 1 (eFrz (eLc (iSeq (eVar 2)) [4] (gNm 4) cYes (eOp oIx (eFrz (eLc (iSeq (eVar 1)) [3] (gNm 3) (cE (eOp oEq (eCall oMinL (aCons (eFrz (eCall (F__law_things 40) (aCons (eVar 3) aNil))) aNil)) (eVar 4))) (eVar 3))) (eC (.int 0))))))) sNil)
    (sRet (eOp oAdd (eTup (aCons (eOp oIx (eVar 0) (eC (.int 0))) aNil)) (eCall oTuple (aCons (eVar 1) aNil)))))))
noncomputable def F__law_plain : Nat → VF := recF 1 5 b__law_plain
theorem ok__law_plain (fs : Fs K mg) : ∀ i : Nat, Own P0 w0 K mg base (42 + i) "_law_plain" P__law_plain (F__law_plain i)
  | 0 => by
    obtain ⟨⟨fd, F⟩, m⟩ := fs.dfn 53 (dd "_law_plain" 72) rfl
    exact .none (FunD.bindsN F fun _ _ _ _ _ _ us hl => match us, hl with | [_], _ => rfl) F.kp m
  | j + 1 => by
    obtain ⟨⟨fd, F⟩, m⟩ := fs.dfn 53 (dd "_law_plain" 72) rfl
    have hR := ok__law_plain fs j
    generalize hRR : F__law_plain j = R at hR
    have h0 := own_ok (N := N__law_plain) (b := b__law_plain R) F m sc__law_plain (FunD.bindsN F fun _ _ _ _ _ _ us hl => match us, hl with | [_], _ => rfl) fun cdv A outer s H E hr =>
      (mss_cons (ms_if (mt_not (mt_val (me_isi (me_var 0) (fs.fre 2 rfl) (fs.fre 5 rfl) (by decide +kernel) (by decide)))) (mss_one (ms_ret (me_var 0))) mss_nil)
      (mss_cons (ms_set 1 sc__law_plain.nd (me_frz (me_lc [("part", 3)] sc__law_plain.nd (mi_seq (me_frz (me_slice (me_var 0) (mo_some me_int) mo_none))) (blkOk_by (by kernel_rfl)) (fun _ _ _ _ _ => (mg_name 3 sc__law_plain.nd)) (fun _ _ _ _ _ => mts_nil) (fun _ _ _ _ _ => (me_own hR hr (ma_cons (me_var 3) ma_nil) (Nat.le_refl _))))))
      (mss_cons (ms_if (mt_cmp (op_eqD hr.u64) od_eq (me_ix hr.u1 (me_var 0) me_int) me_str (nomark _)) (mss_cons (ms_set 2 sc__law_plain.nd (me_frz (me_callB (cr_sortD hr.u70) cd_sorted (fs.fre 7 rfl) (by decide +kernel) (ma_cons (me_frz (me_lc [("part", 3)] sc__law_plain.nd (mi_seq (me_var 1)) (blkOk_by (by kernel_rfl)) (fun _ _ _ _ _ => (mg_name 3 sc__law_plain.nd)) (fun _ _ _ _ _ => mts_nil) (fun _ _ _ _ _ => (me_callB (cr_min rfl) cd_minL (fs.fre 13 rfl) (by decide +kernel) (ma_cons (me_frz (me_own (ok__law_things fs 40) hr (ma_cons (me_var 3) ma_nil) (Nat.le_trans (by decide : 41 ≤ 42) (Nat.le_add_right _ _)))) ma_nil))))) ma_nil))))
      (mss_one (ms_set 1 sc__law_plain.nd (me_frz (me_lc [("at", 4)] sc__law_plain.nd (mi_seq (me_var 2)) (blkOk_by (by kernel_rfl)) (fun _ _ _ _ _ => (mg_name 4 sc__law_plain.nd)) (fun _ _ _ _ _ => mts_nil) (fun _ _ _ _ _ => (me_ix hr.u1 (me_frz (me_lc [("part", 3)] sc__law_plain.nd (mi_seq (me_var 1)) (blkOk_by (by kernel_rfl)) (fun _ _ _ _ _ => (mg_name 3 sc__law_plain.nd)) (fun _ _ _ _ _ => (mts_one (mt_cmp (op_eqD hr.u64) od_eq (me_callB (cr_min rfl) cd_minL (fs.fre 13 rfl) (by decide +kernel) (ma_cons (me_frz (me_own (ok__law_things fs 40) hr (ma_cons (me_var 3) ma_nil) (Nat.le_trans (by decide : 41 ≤ 42) (Nat.le_add_right _ _)))) ma_nil)) (me_var 4) (nomark _)))) (fun _ _ _ _ _ => (me_var 3)))) me_int))))))) mss_nil)
      (mss_one (ms_ret (me_op op_addP od_add (me_tup (ma_cons (me_ix hr.u1 (me_var 0) me_int) ma_nil)) (me_callTy call_tuple_of cd_tuple (fs.fre 5 rfl) (by decide +kernel) (ma_cons (me_var 1) ma_nil))))))))
    rw [← hRR] at h0
    exact h0
/-! _law_part_right -/
abbrev N__law_part_right : List Str := ["dice", "many", "term", "some", "things", "due", "told", "order", "less", "whole", "part", "at", "here", "there"]
abbrev P__law_part_right : List Str := ["dice", "many", "term"]
theorem sc__law_part_right : FnScope N__law_part_right P__law_part_right (defScope (top 73)) := ⟨rfl, rfl, rfl, by decide +kernel, rfl, by decide +kernel, by decide +kernel⟩
noncomputable def b__law_part_right : SF := (sSeq (sSet 3 (eCall (F__law_one_of) (aCons (eVar 0) (aCons (eFrz (eLst (aCons (eC (.int 1)) (aCons (eC (.int 2)) (aCons (eOp oSub (eVar 1) (eC (.int 1))) (aCons (eVar 1) (aCons (eOp oAdd (eC (.int 1)) (eCall (F__law_roll) (aCons (eVar 0) (aCons (eVar 1) aNil)))) aNil))))))) aNil))))
    (sSeq (sSet 4 (eFrz (eCall oSorted (aCons (eFrz (eSl (eCall (F__law_mixed) (aCons (eVar 0) (aCons (eFrz (eLstRg (rg1 (eVar 1)))) aNil))) pNo (pSo (eCall oMax2 (aCons (eC (.int 1)) (aCons (eCall oMin2 (aCons (eVar 1) (aCons (eVar 3) aNil))) aNil)))))) aNil))))
    (sSeq (sSet 5 (eCall (F__law_plain 40) (aCons (eCall (F__law_struck 40) (aCons (eVar 2) (aCons (eVar 4) aNil))) aNil)))
    (sSeq (sPar 6 7 (aCons (eCall (F_taken_term) (aCons (eVar 1) (aCons (eVar 2) (aCons (eCall oTuple (aCons (eVar 4) aNil)) aNil)))) (aCons (eCall (F_order_of_term) (aCons (eVar 1) (aCons (eVar 2) aNil))) aNil)))
    (sSeq (sIf (cOr (cE (eOp oNe (eVar 6) (eVar 5))) (cOr (cE (eOp (oIsB true) (eCall (F_is_term) (aCons (eCall oLen (aCons (eVar 4) aNil)) (aCons (eVar 6) aNil))) (eC (.bool true)))) (cOr (cE (eOp oNe (eCall (F_order_of_term) (aCons (eCall oLen (aCons (eVar 4) aNil)) (aCons (eVar 6) aNil))) (eCall (F_taken) (aCons (eVar 7) (aCons (eCall oTuple (aCons (eVar 4) aNil)) aNil))))) (cE (eOp oNe (eCall (F_term_of) (aCons (eCall (F_taken) (aCons (eVar 7) (aCons (eCall oTuple (aCons (eVar 4) aNil)) aNil))) aNil)) (eVar 5)))))) (sRet (eC (.bool false))) sNil)
    (sSeq (sSet 8 (eFrz (eCall oSorted (aCons (eFrz (eSl (eCall (F__law_mixed) (aCons (eVar 0) (aCons (eFrz (eLstRg (rg1 (eCall oLen (aCons (eVar 4) aNil))))) aNil))) pNo (pSo (eOp oAdd (eC (.int 1)) (eCall (F__law_roll) (aCons (eVar 0) (aCons (eCall oLen (aCons (eVar 4) aNil)) aNil))))))) aNil))))
    (sSeq (sIf (cE (eOp oNe (eCall (F_taken_term) (aCons (eCall oLen (aCons (eVar 4) aNil)) (aCons (eVar 6) (aCons (eCall oTuple (aCons (eVar 8) aNil)) aNil)))) (eCall (F_taken_term) (aCons (eVar 1) (aCons (eVar 2) (aCons (eCall oTuple (aCons (eFrz (eLc (iSeq (eVar 8)) [11] (gNm 11) cYes (eOp oIx (eVar 4) (eVar 11)))) aNil)) aNil)))))) (sRet (eC (.bool false))) sNil)
    (sSeq (sIf (cOr (cE (eOp oNe (eCall (F_taken_term) (aCons (eVar 1) (aCons (eCall (F_turned_term) (aCons (eVar 1) (aCons (eVar 2) aNil))) (aCons (eCall oTuple (aCons (eVar 4) aNil)) aNil)))) (eCall (F_turned_term) (aCons (eCall oLen (aCons (eVar 4) aNil)) (aCons (eVar 6) aNil))))) (cE (eOp oNe (eCall (F_term_of) (aCons (eCall (F_turned) (aCons (eCall (F_taken) (aCons (eVar 7) (aCons (eCall oTuple (aCons (eVar 4) aNil)) aNil))) aNil)) aNil)) (eCall (F_turned_term) (aCons (eCall oLen (aCons (eVar 4) aNil)) (aCons (eVar 5) aNil)))))) (sRet (eC (.bool false))) sNil)
    (sSeq (sPar 9 10 (aCons (eCall (F_term_numbers) (aCons (eVar 1) (aCons (eVar 2) aNil))) (aCons (eCall (F_term_numbers) (aCons (eCall oLen (aCons (eVar 4) aNil)) (aCons (eVar 6) aNil))) aNil)))
    (sSeq (sIf (cOr (cE (eOp oNe (eFrz (eLc (iZpD (aCons (eVar 10) (aCons (eVar 9) aNil))) [12, 13] (gTp (gsCons (gNm 12) (gsCons (gNm 13) gsNil))) (cE (eOp oGtX (eVar 12) (eVar 13))) (eC (.int 1)))) (eFrz (eLst aNil)))) (cOr (cE (eOp oGtX (eOp oSub (eOp oIx (eVar 9) (eC (.int 2))) (eOp oIx (eVar 10) (eC (.int 2)))) (eOp oSub (eVar 1) (eCall oLen (aCons (eVar 4) aNil))))) (cE (eOp oGtX (eOp oSub (eOp oIx (eVar 9) (eC (.int 3))) (eOp oIx (eVar 10) (eC (.int 3)))) (eOp oSub (eVar 1) (eCall oLen (aCons (eVar 4) aNil))))))) (sRet (eC (.bool false))) sNil)
    (sRet (eChain oEq oEq (eCall (F_taken_term) (aCons (eVar 1) (aCons (eVar 2) (aCons (eTupRg (rg1 (eVar 1))) aNil)))) (eCall (F_plain_term) (aCons (eVar 1) (aCons (eVar 2) aNil))) (eCall (F__law_plain 40) (aCons (eVar 2) aNil))))))))))))))
noncomputable def F__law_part_right : VF := fnRun 3 14 b__law_part_right
theorem ok__law_part_right (fs : Fs K mg) : Own P0 w0 K mg base 86 "_law_part_right" P__law_part_right F__law_part_right := by
  obtain ⟨⟨fd, F⟩, m⟩ := fs.dfn 54 (dd "_law_part_right" 73) rfl
  exact own_ok (N := N__law_part_right) (b := b__law_part_right) F m sc__law_part_right (FunD.bindsN F fun _ _ _ _ _ _ us hl => match us, hl with | [_, _, _], _ => rfl) fun cdv A outer s H E hr =>
    (mss_cons (ms_set 3 sc__law_part_right.nd (me_own (ok__law_one_of fs) hr (ma_cons (me_var 0) (ma_cons (me_frz (me_lst (ma_cons me_int (ma_cons me_int (ma_cons (me_op op_sub od_sub (me_var 1) me_int) (ma_cons (me_var 1) (ma_cons (me_op op_addP od_add me_int (me_own (ok__law_roll fs) hr (ma_cons (me_var 0) (ma_cons (me_var 1) ma_nil)))) ma_nil))))))) ma_nil))))
      (mss_cons (ms_set 4 sc__law_part_right.nd (me_frz (me_callB (cr_sortD hr.u70) cd_sorted (fs.fre 7 rfl) (by decide +kernel) (ma_cons (me_frz (me_slice (me_own (ok__law_mixed fs) hr (ma_cons (me_var 0) (ma_cons (me_frz (me_lstRg (mr_1 (me_var 1) (fs.fre 1 rfl)) (fs.fre 6 rfl))) ma_nil))) mo_none (mo_some (me_callB (call_max2 rfl) cd_two (fs.fre 12 rfl) (by decide +kernel) (ma_cons me_int (ma_cons (me_callB (call_min2 rfl) cd_two (fs.fre 13 rfl) (by decide +kernel) (ma_cons (me_var 1) (ma_cons (me_var 3) ma_nil))) ma_nil)))))) ma_nil))))
      (mss_cons (ms_set 5 sc__law_part_right.nd (me_own (ok__law_plain fs 40) hr (ma_cons (me_own (ok__law_struck fs 40) hr (ma_cons (me_var 2) (ma_cons (me_var 4) ma_nil))) ma_nil)))
      (mss_cons (ms_par 6 7 sc__law_part_right.nd (ma_cons (me_own (ok_taken_term fs) hr (ma_cons (me_var 1) (ma_cons (me_var 2) (ma_cons (me_callTy call_tuple_of cd_tuple (fs.fre 5 rfl) (by decide +kernel) (ma_cons (me_var 4) ma_nil)) ma_nil)))) (ma_cons (me_own (ok_order_of_term fs) hr (ma_cons (me_var 1) (ma_cons (me_var 2) ma_nil))) ma_nil)))
      (mss_cons (ms_if (mw_or (mt_cmp (op_neD hr.u64) od_ne (me_var 6) (me_var 5) (nomark _)) (mw_or (mt_cmp op_isnot_bl od_notB (me_own (ok_is_term fs) hr (ma_cons (me_callB call_lenX cd_len (fs.fre 0 rfl) (by decide +kernel) (ma_cons (me_var 4) ma_nil)) (ma_cons (me_var 6) ma_nil))) me_bl (nomark _)) (mw_or (mt_cmp (op_neD hr.u64) od_ne (me_own (ok_order_of_term fs) hr (ma_cons (me_callB call_lenX cd_len (fs.fre 0 rfl) (by decide +kernel) (ma_cons (me_var 4) ma_nil)) (ma_cons (me_var 6) ma_nil))) (me_own (ok_taken fs) hr (ma_cons (me_var 7) (ma_cons (me_callTy call_tuple_of cd_tuple (fs.fre 5 rfl) (by decide +kernel) (ma_cons (me_var 4) ma_nil)) ma_nil))) (nomark _)) (mw_one' (mt_cmp (op_neD hr.u64) od_ne (me_own (ok_term_of fs) hr (ma_cons (me_own (ok_taken fs) hr (ma_cons (me_var 7) (ma_cons (me_callTy call_tuple_of cd_tuple (fs.fre 5 rfl) (by decide +kernel) (ma_cons (me_var 4) ma_nil)) ma_nil))) ma_nil)) (me_var 5) (nomark _)))))).pt (mss_one (ms_ret me_bl)) mss_nil)
      (mss_cons (ms_set 8 sc__law_part_right.nd (me_frz (me_callB (cr_sortD hr.u70) cd_sorted (fs.fre 7 rfl) (by decide +kernel) (ma_cons (me_frz (me_slice (me_own (ok__law_mixed fs) hr (ma_cons (me_var 0) (ma_cons (me_frz (me_lstRg (mr_1 (me_callB call_lenX cd_len (fs.fre 0 rfl) (by decide +kernel) (ma_cons (me_var 4) ma_nil)) (fs.fre 1 rfl)) (fs.fre 6 rfl))) ma_nil))) mo_none (mo_some (me_op op_addP od_add me_int (me_own (ok__law_roll fs) hr (ma_cons (me_var 0) (ma_cons (me_callB call_lenX cd_len (fs.fre 0 rfl) (by decide +kernel) (ma_cons (me_var 4) ma_nil)) ma_nil))))))) ma_nil))))
      (mss_cons (ms_if (mt_cmp (op_neD hr.u64) od_ne (me_own (ok_taken_term fs) hr (ma_cons (me_callB call_lenX cd_len (fs.fre 0 rfl) (by decide +kernel) (ma_cons (me_var 4) ma_nil)) (ma_cons (me_var 6) (ma_cons (me_callTy call_tuple_of cd_tuple (fs.fre 5 rfl) (by decide +kernel) (ma_cons (me_var 8) ma_nil)) ma_nil)))) (me_own (ok_taken_term fs) hr (ma_cons (me_var 1) (ma_cons (me_var 2) (ma_cons (me_callTy call_tuple_of cd_tuple (fs.fre 5 rfl) (by decide +kernel) (ma_cons (me_frz (me_lc [("at", 11)] sc__law_part_right.nd (mi_seq (me_var 8)) (blkOk_by (by kernel_rfl)) (fun _ _ _ _ _ => (mg_name 11 sc__law_part_right.nd)) (fun _ _ _ _ _ => mts_nil) (fun _ _ _ _ _ => (me_ix hr.u1 (me_var 4) (me_var 11))))) ma_nil)) ma_nil)))) (nomark _)) (mss_one (ms_ret me_bl)) mss_nil)
      (mss_cons (ms_if (mw_or (mt_cmp (op_neD hr.u64) od_ne (me_own (ok_taken_term fs) hr (ma_cons (me_var 1) (ma_cons (me_own (ok_turned_term fs) hr (ma_cons (me_var 1) (ma_cons (me_var 2) ma_nil))) (ma_cons (me_callTy call_tuple_of cd_tuple (fs.fre 5 rfl) (by decide +kernel) (ma_cons (me_var 4) ma_nil)) ma_nil)))) (me_own (ok_turned_term fs) hr (ma_cons (me_callB call_lenX cd_len (fs.fre 0 rfl) (by decide +kernel) (ma_cons (me_var 4) ma_nil)) (ma_cons (me_var 6) ma_nil))) (nomark _)) (mw_one' (mt_cmp (op_neD hr.u64) od_ne (me_own (ok_term_of fs) hr (ma_cons (me_own (ok_turned fs) hr (ma_cons (me_own (ok_taken fs) hr (ma_cons (me_var 7) (ma_cons (me_callTy call_tuple_of cd_tuple (fs.fre 5 rfl) (by decide +kernel) (ma_cons (me_var 4) ma_nil)) ma_nil))) ma_nil)) ma_nil)) (me_own (ok_turned_term fs) hr (ma_cons (me_callB call_lenX cd_len (fs.fre 0 rfl) (by decide +kernel) (ma_cons (me_var 4) ma_nil)) (ma_cons (me_var 5) ma_nil))) (nomark _)))).pt (mss_one (ms_ret me_bl)) mss_nil)
      (mss_cons (ms_par 9 10 sc__law_part_right.nd (ma_cons (me_own (ok_term_numbers fs) hr (ma_cons (me_var 1) (ma_cons (me_var 2) ma_nil))) (ma_cons (me_own (ok_term_numbers fs) hr (ma_cons (me_callB call_lenX cd_len (fs.fre 0 rfl) (by decide +kernel) (ma_cons (me_var 4) ma_nil)) (ma_cons (me_var 6) ma_nil))) ma_nil)))
      (mss_cons (ms_if (mw_or (mt_cmp (op_neD hr.u64) od_ne (me_frz (me_lc [("here", 12), ("there", 13)] sc__law_part_right.nd (mi_zp (ma_cons (me_var 10) (ma_cons (me_var 9) ma_nil)) (fs.fre 10 rfl)) (blkOk_by (by kernel_rfl)) (fun _ _ _ _ _ => (mg_tup (mgs_cons (mg_name 12 sc__law_part_right.nd) (mgs_cons (mg_name 13 sc__law_part_right.nd) mgs_nil)) (fun _ _ _ h => gsLen_cons (fun _ _ _ h => gsLen_cons (fun _ _ _ h => gsLen_nil h) h) h))) (fun _ _ _ _ _ => (mts_one (mt_cmp (op_gtX hr.u64) od_gtX (me_var 12) (me_var 13) (nomark _)))) (fun _ _ _ _ _ => me_int))) (me_frz (me_lst ma_nil)) (nomark _)) (mw_or (mt_cmp (op_gtX hr.u64) od_gtX (me_op op_sub od_sub (me_ix hr.u1 (me_var 9) me_int) (me_ix hr.u1 (me_var 10) me_int)) (me_op op_sub od_sub (me_var 1) (me_callB call_lenX cd_len (fs.fre 0 rfl) (by decide +kernel) (ma_cons (me_var 4) ma_nil))) (nomark _)) (mw_one' (mt_cmp (op_gtX hr.u64) od_gtX (me_op op_sub od_sub (me_ix hr.u1 (me_var 9) me_int) (me_ix hr.u1 (me_var 10) me_int)) (me_op op_sub od_sub (me_var 1) (me_callB call_lenX cd_len (fs.fre 0 rfl) (by decide +kernel) (ma_cons (me_var 4) ma_nil))) (nomark _))))).pt (mss_one (ms_ret me_bl)) mss_nil)
      (mss_one (ms_ret (me_chain (op_eqD hr.u64) od_eq (op_eqD hr.u64) od_eq (me_own (ok_taken_term fs) hr (ma_cons (me_var 1) (ma_cons (me_var 2) (ma_cons (me_tupRg (mr_1 (me_var 1) (fs.fre 1 rfl)) (fs.fre 5 rfl)) ma_nil)))) (me_own (ok_plain_term fs) hr (ma_cons (me_var 1) (ma_cons (me_var 2) ma_nil))) (me_own (ok__law_plain fs 40) hr (ma_cons (me_var 2) ma_nil)))))))))))))))
/-! law -/
abbrev N_law : List Str := ["script", "spot", "dice", "wide", "many", "term", "levels", "told", "at", "things"]
abbrev P_law : List Str := ["script"]
theorem sc_law : FnScope N_law P_law (defScope (top 74)) := ⟨rfl, rfl, rfl, by decide +kernel, rfl, by decide +kernel, by decide +kernel⟩
noncomputable def b_law : SF := (sSeq (sFor (iRng1D (aCons (eCall oMax2 (aCons (eC (.int 1)) (aCons (eCall oMin2 (aCons (eC (.int 2)) (aCons (eCall oLen (aCons (eVar 0) aNil)) aNil))) aNil))) aNil)) (gNm 1) (sSeq (sSet 2 (eCall (F__law_dice) (aCons (eVar 0) (aCons (eVar 1) aNil))))
    (sSeq (sFor (iSeq (eTup (aCons (eC (.int 5)) (aCons (eC (.int 12)) (aCons (eC (.int 30)) aNil))))) (gNm 3) (sSeq (sSet 4 (eOp oAdd (eC (.int 1)) (eCall (F__law_roll) (aCons (eVar 2) (aCons (eVar 3) aNil)))))
    (sSeq (sSet 5 (eCall (F__law_term 40) (aCons (eVar 2) (aCons (eCall (F__law_mixed) (aCons (eVar 2) (aCons (eFrz (eLstRg (rg1 (eVar 4)))) aNil))) (aCons (eC (.str "")) aNil)))))
    (sIf (cOr (cNot (cE (eCall (F__law_part_right) (aCons (eVar 2) (aCons (eVar 4) (aCons (eVar 5) aNil)))))) (cNot (cE (eCall (F__law_part_right) (aCons (eVar 2) (aCons (eVar 4) (aCons (eVar 5) aNil))))))) (sRet (eC (.bool false))) sNil))))
    (sSeq (sSet 4 (eOp oAdd (eC (.int 2)) (eCall (F__law_roll) (aCons (eVar 2) (aCons (eC (.int 29)) aNil)))))
    (sSeq (sIf (cNot (cE (eCall (F__law_part_right) (aCons (eVar 2) (aCons (eVar 4) (aCons (eCall (F__law_deep) (aCons (eVar 4) (aCons (eCall (F__law_one_of) (aCons (eVar 2) (aCons (eFrz (eLst (aCons (eC (.str "behind")) (aCons (eC (.str "beside")) aNil)))) aNil))) aNil))) aNil)))))) (sRet (eC (.bool false))) sNil)
    (sSeq (sSet 6 (eFrz (eLc (iRng1D (aCons (eOp oAdd (eC (.int 2)) (eCall (F__law_roll) (aCons (eVar 2) (aCons (eC (.int 9)) aNil)))) aNil)) [8] (gNm 8) cYes (eTup (aCons (eC (.str "beside")) (aCons (eOp oMul (eC (.int 3)) (eVar 8)) (aCons (eOp oAdd (eOp oMul (eC (.int 3)) (eVar 8)) (eC (.int 1))) (aCons (eOp oAdd (eOp oMul (eC (.int 3)) (eVar 8)) (eC (.int 2))) aNil))))))))
    (sIf (cOr (cNot (cE (eCall (F__law_part_right) (aCons (eVar 2) (aCons (eOp oMul (eC (.int 3)) (eCall oLen (aCons (eVar 6) aNil))) (aCons (eOp oAdd (eTup (aCons (eC (.str "behind")) aNil)) (eCall oTuple (aCons (eVar 6) aNil))) aNil)))))) (cNot (cE (eCall (F__law_part_right) (aCons (eVar 2) (aCons (eVar 4) (aCons (eOp oAdd (eTup (aCons (eC (.str "behind")) aNil)) (eTupRg (rg1 (eVar 4)))) aNil))))))) (sRet (eC (.bool false))) sNil)))))))
    (sSeq (sSet 7 (eFrz (eLc (iSeq (eTup (aCons (eTup (aCons (eC (.int 0)) (aCons (eC (.int 1)) (aCons (eC (.int 3)) aNil)))) (aCons (eTup (aCons (eC (.int 1)) (aCons (eC (.int 2)) aNil))) (aCons (eTup (aCons (eC (.int 2)) aNil)) (aCons (eTup (aCons (eC (.int 0)) (aCons (eC (.int 1)) (aCons (eC (.int 2)) aNil)))) aNil)))))) [9] (gNm 9) cYes (eCall (F_taken_term) (aCons (eC (.int 4)) (aCons (eTup (aCons (eC (.str "behind")) (aCons (eC (.int 0)) (aCons (eTup (aCons (eC (.str "beside")) (aCons (eC (.int 1)) (aCons (eC (.int 2)) aNil)))) (aCons (eC (.int 3)) aNil))))) (aCons (eVar 9) aNil)))))))
    (sRet (eAnd (eOp oEq (eVar 7) (eFrz (eLst (aCons (eTup (aCons (eC (.str "behind")) (aCons (eC (.int 0)) (aCons (eC (.int 1)) (aCons (eC (.int 2)) aNil))))) (aCons (eTup (aCons (eC (.str "beside")) (aCons (eC (.int 0)) (aCons (eC (.int 1)) aNil)))) (aCons (eC (.int 0)) (aCons (eTup (aCons (eC (.str "behind")) (aCons (eC (.int 0)) (aCons (eTup (aCons (eC (.str "beside")) (aCons (eC (.int 1)) (aCons (eC (.int 2)) aNil)))) aNil)))) aNil))))))) (eOp oEq (eCall (F_taken_term) (aCons (eC (.int 4)) (aCons (eTup (aCons (eC (.str "beside")) (aCons (eTup (aCons (eC (.str "behind")) (aCons (eC (.int 0)) (aCons (eTup (aCons (eC (.str "beside")) (aCons (eC (.int 1)) (aCons (eC (.int 2)) aNil)))) aNil)))) (aCons (eC (.int 3)) aNil)))) (aCons (eTup (aCons (eC (.int 1)) (aCons (eC (.int 2)) (aCons (eC (.int 3)) aNil)))) aNil)))) (eTup (aCons (eC (.str "beside")) (aCons (eC (.int 0)) (aCons (eC (.int 1)) (aCons (eC (.int 2)) aNil))))))))))
noncomputable def F_law : VF := fnRun 1 10 b_law
theorem ok_law (fs : Fs K mg) : ∃ fd, (∀ (s : Shared) (u : Value), BindsTo s fd ⟨[u], []⟩ [("script", u)]) ∧ ∀ (P0 : Program) (w0 : World) (base : Heap), FnOk P0 w0 K mg base CX0 87 (He.fAd K ("law", none)) fd ["script"] (spF K F_law) := by
  obtain ⟨⟨fd, F⟩, m⟩ := fs.dfn 55 (dd "law" 74) rfl
  have bi := FunD.bindsA (ps := ["script"]) F fun _ _ _ _ _ _ us hl => match us, hl with | [_], _ => rfl
  exact ⟨fd, fun s u => bi s [u] rfl, fun P0 w0 base => fn_ok (N := N_law) (b := b_law) F sc_law fun cdv A outer s H E hr =>
    (mss_cons (ms_for .never (mi_rng1 (ma_cons (me_callB (call_max2 rfl) cd_two (fs.fre 12 rfl) (by decide +kernel) (ma_cons me_int (ma_cons (me_callB (call_min2 rfl) cd_two (fs.fre 13 rfl) (by decide +kernel) (ma_cons me_int (ma_cons (me_callB call_lenX cd_len (fs.fre 0 rfl) (by decide +kernel) (ma_cons (me_var 0) ma_nil)) ma_nil))) ma_nil))) ma_nil) (fs.fre 1 rfl)) (mg_name 1 sc_law.nd) (mss_cons (ms_set 2 sc_law.nd (me_own (ok__law_dice fs) hr (ma_cons (me_var 0) (ma_cons (me_var 1) ma_nil))))
      (mss_cons (ms_for .never (mi_seq (me_tup (ma_cons me_int (ma_cons me_int (ma_cons me_int ma_nil))))) (mg_name 3 sc_law.nd) (mss_cons (ms_set 4 sc_law.nd (me_op op_addP od_add me_int (me_own (ok__law_roll fs) hr (ma_cons (me_var 2) (ma_cons (me_var 3) ma_nil)))))
      (mss_cons (ms_set 5 sc_law.nd (me_own (ok__law_term fs 40) hr (ma_cons (me_var 2) (ma_cons (me_own (ok__law_mixed fs) hr (ma_cons (me_var 2) (ma_cons (me_frz (me_lstRg (mr_1 (me_var 4) (fs.fre 1 rfl)) (fs.fre 6 rfl))) ma_nil))) (ma_cons me_str ma_nil)))))
      (mss_one (ms_if (mw_or (mt_not (mt_val (me_own (ok__law_part_right fs) hr (ma_cons (me_var 2) (ma_cons (me_var 4) (ma_cons (me_var 5) ma_nil)))))) (mw_one' (mt_not (mt_val (me_own (ok__law_part_right fs) hr (ma_cons (me_var 2) (ma_cons (me_var 4) (ma_cons (me_var 5) ma_nil)))))))).pt (mss_one (ms_ret me_bl)) mss_nil)))))
      (mss_cons (ms_set 4 sc_law.nd (me_op op_addP od_add me_int (me_own (ok__law_roll fs) hr (ma_cons (me_var 2) (ma_cons me_int ma_nil)))))
      (mss_cons (ms_if (mt_not (mt_val (me_own (ok__law_part_right fs) hr (ma_cons (me_var 2) (ma_cons (me_var 4) (ma_cons (me_own (ok__law_deep fs) hr (ma_cons (me_var 4) (ma_cons (me_own (ok__law_one_of fs) hr (ma_cons (me_var 2) (ma_cons (me_frz (me_lst (ma_cons me_str (ma_cons me_str ma_nil)))) ma_nil))) ma_nil))) ma_nil)))))) (mss_one (ms_ret me_bl)) mss_nil)
      (mss_cons (ms_setLcF 6 [("at", 8)] sc_law.nd (mi_rng1 (ma_cons (me_op op_addP od_add me_int (me_own (ok__law_roll fs) hr (ma_cons (me_var 2) (ma_cons me_int ma_nil)))) ma_nil) (fs.fre 1 rfl)) (blkOk_by (by kernel_rfl)) (fun _ _ _ _ _ => (mg_name 8 sc_law.nd)) (fun _ _ _ _ _ => mts_nil) (fun _ _ _ _ _ => (me_tup (ma_cons me_str (ma_cons (me_op op_mulP od_mulP me_int (me_var 8)) (ma_cons (me_op op_addP od_add (me_op op_mulP od_mulP me_int (me_var 8)) me_int) (ma_cons (me_op op_addP od_add (me_op op_mulP od_mulP me_int (me_var 8)) me_int) ma_nil)))))) (sw_true rfl rfl rfl (by kernel_rfl)))
      (mss_one (ms_if (mw_or (mt_not (mt_val (me_own (ok__law_part_right fs) hr (ma_cons (me_var 2) (ma_cons (me_op op_mulP od_mulP me_int (me_callB call_lenX cd_len (fs.fre 0 rfl) (by decide +kernel) (ma_cons (me_var 6) ma_nil))) (ma_cons (me_op op_addP od_add (me_tup (ma_cons me_str ma_nil)) (me_callTy call_tuple_of cd_tuple (fs.fre 5 rfl) (by decide +kernel) (ma_cons (me_var 6) ma_nil))) ma_nil)))))) (mw_one' (mt_not (mt_val (me_own (ok__law_part_right fs) hr (ma_cons (me_var 2) (ma_cons (me_var 4) (ma_cons (me_op op_addP od_add (me_tup (ma_cons me_str ma_nil)) (me_tupRg (mr_1 (me_var 4) (fs.fre 1 rfl)) (fs.fre 5 rfl))) ma_nil)))))))).pt (mss_one (ms_ret me_bl)) mss_nil))))))))
      (mss_cons (ms_setLcF 7 [("things", 9)] sc_law.nd (mi_seq (me_tup (ma_cons (me_tup (ma_cons me_int (ma_cons me_int (ma_cons me_int ma_nil)))) (ma_cons (me_tup (ma_cons me_int (ma_cons me_int ma_nil))) (ma_cons (me_tup (ma_cons me_int ma_nil)) (ma_cons (me_tup (ma_cons me_int (ma_cons me_int (ma_cons me_int ma_nil)))) ma_nil)))))) (blkOk_by (by kernel_rfl)) (fun _ _ _ _ _ => (mg_name 9 sc_law.nd)) (fun _ _ _ _ _ => mts_nil) (fun _ _ _ _ _ => (me_own (ok_taken_term fs) hr (ma_cons me_int (ma_cons (me_tup (ma_cons me_str (ma_cons me_int (ma_cons (me_tup (ma_cons me_str (ma_cons me_int (ma_cons me_int ma_nil)))) (ma_cons me_int ma_nil))))) (ma_cons (me_var 9) ma_nil))))) (sw_true rfl rfl rfl (by kernel_rfl)))
      (mss_one (ms_ret (me_and (me_cmp (op_eqD hr.u64) od_eq (me_var 7) (me_frz (me_lst (ma_cons (me_tup (ma_cons me_str (ma_cons me_int (ma_cons me_int (ma_cons me_int ma_nil))))) (ma_cons (me_tup (ma_cons me_str (ma_cons me_int (ma_cons me_int ma_nil)))) (ma_cons me_int (ma_cons (me_tup (ma_cons me_str (ma_cons me_int (ma_cons (me_tup (ma_cons me_str (ma_cons me_int (ma_cons me_int ma_nil)))) ma_nil)))) ma_nil)))))) (nomark _)) (me_one (me_cmp (op_eqD hr.u64) od_eq (me_own (ok_taken_term fs) hr (ma_cons me_int (ma_cons (me_tup (ma_cons me_str (ma_cons (me_tup (ma_cons me_str (ma_cons me_int (ma_cons (me_tup (ma_cons me_str (ma_cons me_int (ma_cons me_int ma_nil)))) ma_nil)))) (ma_cons me_int ma_nil)))) (ma_cons (me_tup (ma_cons me_int (ma_cons me_int (ma_cons me_int ma_nil)))) ma_nil)))) (me_tup (ma_cons me_str (ma_cons me_int (ma_cons me_int (ma_cons me_int ma_nil))))) (nomark _))))))))⟩
end Lw
set_option Elab.async false
set_option linter.all false
set_option maxRecDepth 100000
set_option maxHeartbeats 0
namespace Lw
open PySem PySem.Spec PyProof.Rows L2 Me
def fa : List He.Fa := fn.map (fun d => He.Fa.glo d.name) ++ (frees.map He.Fa.free ++ (gints.map (fun q => He.Fa.int q.1 q.2) ++ (gstrs.map (fun q => He.Fa.str q.1 q.2) ++ gtups.map fun q => He.Fa.glo q.1)))
def exB (K : PySem.W.Frag) : Bool := gtups.all fun q => He.tupB K q.1 q.2
abbrev R : PySem.W.OpenRow := PySem.W.OpenLaw.row PySem.Challenge.rw_standahead_k47_whole_taken_parts_of_term
abbrev hk : PySem.W.Hook := He.hookX 5 fa fn [] [] exB
def ob (s : PySem.W.SharedT) : He.AlX := He.obsX 5 fa fn [] [] exB (HandSHeadRun.getT s)
theorem ob_eq (s : PySem.W.SharedT) : ob s = hk.obs s.abs := He.obsX_eq (HandSHeadRun.getT_eq s)
def names_0 : List Str := ["__name__", "AheadError", "InvalidOrder", "InvalidTerm", "InvalidOperation", "InvalidNumber", "Refused", "FAR", "PAIR_SIZE", "is_whole", "is_short", "is_within", "is_pair", "is_ascending", "require_number", "MOST_THINGS", "are_told", "has_form", "is_order_in", "are_things", "befores_in", "behinds_in", "turned_in", "taken_in", "tied_in", "free_in", "partners_in", "require_order", "require_things", "turned"]
def names_1 : List Str := ["taken", "BEHIND", "BESIDE", "WORDS", "AN_N", "LEAST_SIZE", "things_of_term", "is_term_in", "sized", "least_of", "pairs_of_term", "plain_in", "pieces_by", "term_among", "term_in", "turned_members", "struck", "chosen", "lines_of_term", "multiplied_by", "sizes_of_term", "extent", "require_term", "is_term", "order_of_term", "term_of", "plain_term", "turned_term", "taken_term", "term_numbers"]
def names_2 : List Str := ["_law_dice", "_law_roll", "_law_one_of", "_law_mixed", "_law_term", "_law_deep", "_law_things", "_law_struck", "_law_plain", "_law_part_right"]
def names : List Str := names_0 ++ names_1 ++ names_2
theorem run (w : World) : HandSHeadRun.RunEq R (PySem.W.view R.prog [74]) hk ob 20000 names w := by
  intro os
  kernel_rfl
theorem fn_at : (fn.all fun d => decide (d.at_ = (d.name, none))) = true := by kernel_rfl
theorem app_l {β : Type} {l r : List β} {k : Nat} {x : β} (h : l[k]? = some x) : (l ++ r)[k]? = some x := by
  rw [List.getElem?_append_left (List.getElem?_eq_some_iff.mp h).1]
  exact h
theorem app_r {β : Type} {l r : List β} {k : Nat} {x : β} (h : r[k]? = some x) : (l ++ r)[l.length + k]? = some x := by
  rw [List.getElem?_append_right (Nat.le_add_right _ _), Nat.add_sub_cancel_left]
  exact h
theorem map_at {β γ : Type} {l : List β} {g : β → γ} {k : Nat} {x : β} (h : l[k]? = some x) : (l.map g)[k]? = some (g x) := by
  rw [List.getElem?_map, h]
  rfl
theorem fs_of {K : PySem.W.Frag} {h : Heap} {w : World} {mg : Str → Option Value} (X : K.In h) (G : h.Ns mainGlobals mg) (c : He.SaysX fa fn [] [] exB w h K) : Fs K mg where
  dfn := fun k d hk => by
    refine ⟨c.t.d.def_ k hk, ?_⟩
    have h1 : d.at_ = (d.name, none) := of_decide_eq_true (List.all_eq_true.mp fn_at d (List.mem_of_getElem? hk))
    have h2 := He.glo_ok X G (c.t.d.fact k (f := .glo d.name) (app_l (map_at hk)))
    rw [h1]
    exact h2
  fre := fun k x hx => He.free_ok X G (c.t.d.fact _ (f := .free x) (app_r (app_l (map_at hx))))
  gin := fun k q hq => He.int_ok X G (c.t.d.fact _ (f := .int q.1 q.2) (app_r (app_r (app_l (map_at (g := fun q : Str × Int => He.Fa.int q.1 q.2) hq)))))
  gst := fun k q hq => He.str_ok X G (c.t.d.fact _ (f := .str q.1 q.2) (app_r (app_r (app_r (app_l (map_at (g := fun q : Str × Str => He.Fa.str q.1 q.2) hq))))))
  gtp := fun k q hq => ⟨He.glo_ok X G (c.t.d.fact _ (f := .glo q.1) (app_r (app_r (app_r (app_r (map_at (g := fun q : Str × List He.Dv => He.Fa.glo q.1) hq)))))), He.tupB_ok (List.all_eq_true.mp c.more q (List.mem_of_getElem? hq))⟩
end Lw
set_option Elab.async false
set_option linter.all false
/-! Mt1: terms of words; what they tell; struck, turned, plain. -/
namespace Tm
/-- w = true: one behind the other -/
inductive T where
  | leaf (i : Nat)
  | node (w : Bool) (ms : List T)
def T.is (w : Bool) : T → Bool
  | .leaf _ => false
  | .node v _ => v == w
def T.mem : T → List T
  | .leaf _ => []
  | .node _ ms => ms
theorem T.ind {C : T → Prop} (h1 : ∀ i, C (.leaf i)) (h2 : ∀ w ms, (∀ m ∈ ms, C m) → C (.node w ms)) : ∀ t, C t
  | .leaf i => h1 i
  | .node w ms => h2 w ms fun m _ => T.ind h1 h2 m
mutual
def lvs : T → List Nat
  | .leaf i => [i]
  | .node _ ms => lvL ms
def lvL : List T → List Nat
  | [] => []
  | m :: ms => lvs m ++ lvL ms
end
mutual
def Wf : T → Prop
  | .leaf _ => True
  | .node w ms => 2 ≤ ms.length ∧ WfL w ms
def WfL (w : Bool) : List T → Prop
  | [] => True
  | m :: ms => (m.is w = false ∧ Wf m) ∧ WfL w ms
end
mutual
def rel : T → Nat → Nat → Bool
  | .leaf _ => fun _ _ => false
  | .node w ms => relL w ms
def relL (w : Bool) : List T → Nat → Nat → Bool
  | [] => fun _ _ => false
  | m :: ms => fun i j => rel m i j || relL w ms i j || (w && (lvs m).contains i && (lvL ms).contains j)
end
theorem lvL_app : ∀ xs ys : List T, lvL (xs ++ ys) = lvL xs ++ lvL ys
  | [], _ => rfl
  | x :: xs, ys => by simp [lvL, lvL_app xs ys]
theorem lvL_flat : ∀ ms : List T, lvL ms = ms.flatMap lvs
  | [] => rfl
  | m :: ms => by rw [lvL, lvL_flat ms]; rfl
theorem mem_lvL {ms : List T} {i : Nat} : i ∈ lvL ms ↔ ∃ m ∈ ms, i ∈ lvs m := by
  rw [lvL_flat, List.mem_flatMap]
theorem WfL_app {w : Bool} : ∀ {xs ys : List T}, WfL w (xs ++ ys) ↔ WfL w xs ∧ WfL w ys
  | [], _ => by simp [WfL]
  | x :: xs, ys => by simp [WfL, WfL_app (xs := xs), and_assoc]
theorem WfL_iff {w : Bool} : ∀ {ms : List T}, WfL w ms ↔ ∀ m ∈ ms, m.is w = false ∧ Wf m
  | [] => by simp [WfL]
  | m :: ms => by simp [WfL, WfL_iff (ms := ms)]
theorem relL_app {w : Bool} {i j : Nat} : ∀ {xs ys : List T}, relL w (xs ++ ys) i j = (relL w xs i j || relL w ys i j || (w && (lvL xs).contains i && (lvL ys).contains j))
  | [], ys => by simp [relL, lvL]
  | x :: xs, ys => by
    show (rel x i j || relL w (xs ++ ys) i j || (w && (lvs x).contains i && (lvL (xs ++ ys)).contains j)) = (rel x i j || relL w xs i j || (w && (lvs x).contains i && (lvL xs).contains j) || relL w ys i j || (w && (lvs x ++ lvL xs).contains i && (lvL ys).contains j))
    rw [relL_app (xs := xs), lvL_app, List.contains_append, List.contains_append]
    cases rel x i j <;> cases relL w xs i j <;> cases relL w ys i j <;> cases w <;> cases (lvs x).contains i <;> cases (lvL xs).contains i <;> cases (lvL xs).contains j <;> cases (lvL ys).contains j <;> rfl
mutual
theorem rel_mem {i j : Nat} : ∀ {t : T}, rel t i j = true → i ∈ lvs t ∧ j ∈ lvs t
  | .leaf _, h => by simp [rel] at h
  | .node _ _, h => relL_mem h
theorem relL_mem {w : Bool} {i j : Nat} : ∀ {ms : List T}, relL w ms i j = true → i ∈ lvL ms ∧ j ∈ lvL ms
  | [], h => by simp [relL] at h
  | m :: ms, h => by
    have h : (rel m i j || relL w ms i j || (w && (lvs m).contains i && (lvL ms).contains j)) = true := h
    simp only [Bool.or_eq_true, Bool.and_eq_true, List.contains_iff_mem] at h
    simp only [lvL, List.mem_append]
    rcases h with (h | h) | ⟨⟨_, h1⟩, h2⟩
    · have := rel_mem h
      exact ⟨.inl this.1, .inl this.2⟩
    · have := relL_mem h
      exact ⟨.inr this.1, .inr this.2⟩
    · exact ⟨.inl h1, .inr h2⟩
end
theorem rel_no {t : T} {i j : Nat} (h : i ∉ lvs t ∨ j ∉ lvs t) : rel t i j = false := by
  cases e : rel t i j with
  | false => rfl
  | true =>
    have := rel_mem e
    rcases h with h | h
    · exact absurd this.1 h
    · exact absurd this.2 h
theorem relL_no {w : Bool} {ms : List T} {i j : Nat} (h : i ∉ lvL ms ∨ j ∉ lvL ms) : relL w ms i j = false := by
  cases e : relL w ms i j with
  | false => rfl
  | true =>
    have := relL_mem e
    rcases h with h | h
    · exact absurd this.1 h
    · exact absurd this.2 h

/-! ### struck -/
def mk (w : Bool) : List T → Option T
  | [] => none
  | [x] => some x
  | x :: y :: r => some (.node w (x :: y :: r))
def put (w : Bool) : Option T → List T
  | none => []
  | some l => if l.is w then l.mem else [l]
mutual
def strike (f : Nat → Option Nat) : T → Option T
  | .leaf i => (f i).map .leaf
  | .node w ms => mk w (strikeL f w ms)
def strikeL (f : Nat → Option Nat) (w : Bool) : List T → List T
  | [] => []
  | m :: ms => put w (strike f m) ++ strikeL f w ms
end
def lvO : Option T → List Nat
  | none => []
  | some t => lvs t
def relO : Option T → Nat → Nat → Bool
  | none => fun _ _ => false
  | some t => rel t
theorem lv_mk (w : Bool) : ∀ ms : List T, lvO (mk w ms) = lvL ms
  | [] => rfl
  | [x] => by simp [mk, lvO, lvL]
  | x :: y :: r => rfl
theorem put_node (w v : Bool) (ms : List T) : put w (some (.node v ms)) = if (T.node v ms).is w = true then ms else [.node v ms] := rfl
theorem lv_put (w : Bool) : ∀ o : Option T, lvL (put w o) = lvO o
  | none => rfl
  | some (.leaf i) => by simp [put, T.is, lvL, lvO]
  | some (.node v ms) => by
    rw [put_node]
    split
    · rfl
    · simp [lvL, lvO]
mutual
theorem lv_strike (f : Nat → Option Nat) : ∀ t : T, lvO (strike f t) = (lvs t).filterMap f
  | .leaf i => by
    cases h : f i <;> simp [strike, h, lvO, lvs]
  | .node w ms => by
    rw [strike, lv_mk, lv_strikeL f w ms]
    rfl
theorem lv_strikeL (f : Nat → Option Nat) (w : Bool) : ∀ ms : List T, lvL (strikeL f w ms) = (lvL ms).filterMap f
  | [] => rfl
  | m :: ms => by
    rw [strikeL, lvL_app, lv_put, lv_strike f m, lv_strikeL f w ms, lvL, List.filterMap_append]
end
theorem put_wf {w : Bool} : ∀ {o : Option T}, (∀ t, o = some t → Wf t) → WfL w (put w o)
  | none, _ => trivial
  | some (.leaf i), _ => ⟨⟨rfl, trivial⟩, trivial⟩
  | some (.node v ms), h => by
    have hw : 2 ≤ ms.length ∧ WfL v ms := h _ rfl
    rw [put_node]
    by_cases e : (T.node v ms).is w = true
    · rw [if_pos e]
      have ev : v = w := by simpa [T.is] using e
      subst ev
      exact hw.2
    · rw [if_neg e]
      exact ⟨⟨by simpa using e, h _ rfl⟩, trivial⟩
theorem mk_wf {w : Bool} : ∀ {ms : List T}, WfL w ms → ∀ t, mk w ms = some t → Wf t
  | [], _, _, e => by cases e
  | [x], h, _, e => by cases e; exact h.1.2
  | x :: y :: r, h, _, e => by cases e; exact ⟨by simp, h⟩
mutual
theorem wf_strike (f : Nat → Option Nat) : ∀ t : T, Wf t → ∀ s, strike f t = some s → Wf s
  | .leaf i, _, s, e => by
    cases h : f i with
    | none => simp [strike, h] at e
    | some k => simp [strike, h] at e; subst e; trivial
  | .node w ms, h, s, e => mk_wf (wf_strikeL f w ms h.2) s e
theorem wf_strikeL (f : Nat → Option Nat) (w : Bool) : ∀ ms : List T, WfL w ms → WfL w (strikeL f w ms)
  | [], _ => trivial
  | m :: ms, h => WfL_app.mpr ⟨put_wf fun s e => wf_strike f m h.1.2 s e, wf_strikeL f w ms h.2⟩
end
theorem rel_mk (w : Bool) : ∀ ms : List T, relO (mk w ms) = relL w ms
  | [] => rfl
  | [x] => by funext i j; simp [mk, relO, relL, lvL]
  | x :: y :: r => rfl
theorem rel_put (w : Bool) : ∀ o : Option T, relL w (put w o) = relO o
  | none => rfl
  | some (.leaf i) => by funext a b; simp [put, T.is, relL, relO, lvL]
  | some (.node v ms) => by
    funext a b
    rw [put_node]
    by_cases e : (T.node v ms).is w = true
    · rw [if_pos e]
      have ev : v = w := by simpa [T.is] using e
      subst ev
      rfl
    · rw [if_neg e]
      simp [relL, relO, lvL]
/-- f tells apart the things of l -/
def Inj (f : Nat → Option Nat) (l : List Nat) : Prop := ∀ i ∈ l, ∀ j ∈ l, ∀ k, f i = some k → f j = some k → i = j
theorem mem_fm {f : Nat → Option Nat} {l : List Nat} {i k : Nat} (h : i ∈ l) (e : f i = some k) : k ∈ l.filterMap f := List.mem_filterMap.mpr ⟨i, h, e⟩
theorem not_fm {f : Nat → Option Nat} {l m : List Nat} {i k : Nat} (inj : Inj f (l ++ m)) (nd : (l ++ m).Nodup) (h : i ∈ l) (e : f i = some k) : k ∉ m.filterMap f := fun hk => by
  obtain ⟨j, hj, ej⟩ := List.mem_filterMap.mp hk
  have := inj i (List.mem_append_left _ h) j (List.mem_append_right _ hj) k e ej
  subst this
  exact (List.nodup_append.mp nd).2.2 i h i hj rfl
theorem not_fm' {f : Nat → Option Nat} {l m : List Nat} {i k : Nat} (inj : Inj f (l ++ m)) (nd : (l ++ m).Nodup) (h : i ∈ m) (e : f i = some k) : k ∉ l.filterMap f := fun hk => by
  obtain ⟨j, hj, ej⟩ := List.mem_filterMap.mp hk
  have := inj i (List.mem_append_right _ h) j (List.mem_append_left _ hj) k e ej
  subst this
  exact (List.nodup_append.mp nd).2.2 i hj i h rfl
theorem Inj.l {f : Nat → Option Nat} {l m : List Nat} (h : Inj f (l ++ m)) : Inj f l := fun i hi j hj => h i (List.mem_append_left _ hi) j (List.mem_append_left _ hj)
theorem Inj.r {f : Nat → Option Nat} {l m : List Nat} (h : Inj f (l ++ m)) : Inj f m := fun i hi j hj => h i (List.mem_append_right _ hi) j (List.mem_append_right _ hj)
mutual
theorem rel_strike (f : Nat → Option Nat) : ∀ t : T, (lvs t).Nodup → Inj f (lvs t) → ∀ i ∈ lvs t, ∀ j ∈ lvs t, ∀ i' j', f i = some i' → f j = some j' → relO (strike f t) i' j' = rel t i j
  | .leaf k, _, _, i, _, j, _, i', j', hi, hj => by
    cases h : f k <;> simp [strike, h, relO, rel]
  | .node w ms, nd, inj, i, hi, j, hj, i', j', ei, ej => by
    rw [strike, rel_mk]
    exact rel_strikeL f w ms nd inj i hi j hj i' j' ei ej
theorem rel_strikeL (f : Nat → Option Nat) (w : Bool) : ∀ ms : List T, (lvL ms).Nodup → Inj f (lvL ms) → ∀ i ∈ lvL ms, ∀ j ∈ lvL ms, ∀ i' j', f i = some i' → f j = some j' → relL w (strikeL f w ms) i' j' = relL w ms i j
  | [], _, _, i, hi, _, _, _, _, _, _ => by cases hi
  | m :: ms, nd, inj, i, hi, j, hj, i', j', ei, ej => by
    have nd' := List.nodup_append.mp nd
    have ne : ∀ {x}, x ∈ lvs m → x ∉ lvL ms := fun h1 h2 => nd'.2.2 _ h1 _ h2 rfl
    rw [strikeL, relL_app, rel_put, lv_put, lv_strike, lv_strikeL]
    show _ = (rel m i j || relL w ms i j || (w && (lvs m).contains i && (lvL ms).contains j))
    have c1 : ∀ {x x'}, x ∈ lvs m → f x = some x' → ((lvs m).filterMap f).contains x' = true ∧ ((lvL ms).filterMap f).contains x' = false ∧ (lvs m).contains x = true ∧ (lvL ms).contains x = false := fun h e =>
      ⟨List.contains_iff_mem.mpr (mem_fm h e), Bool.eq_false_iff.mpr fun z => not_fm inj nd h e (List.contains_iff_mem.mp z), List.contains_iff_mem.mpr h, Bool.eq_false_iff.mpr fun z => ne h (List.contains_iff_mem.mp z)⟩
    have c2 : ∀ {x x'}, x ∈ lvL ms → f x = some x' → ((lvL ms).filterMap f).contains x' = true ∧ ((lvs m).filterMap f).contains x' = false ∧ (lvL ms).contains x = true ∧ (lvs m).contains x = false := fun h e =>
      ⟨List.contains_iff_mem.mpr (mem_fm h e), Bool.eq_false_iff.mpr fun z => not_fm' inj nd h e (List.contains_iff_mem.mp z), List.contains_iff_mem.mpr h, Bool.eq_false_iff.mpr fun z => ne (List.contains_iff_mem.mp z) h⟩
    have noO : ∀ {a b}, (a ∉ (lvs m).filterMap f ∨ b ∉ (lvs m).filterMap f) → relO (strike f m) a b = false := fun h => by
      have hl := lv_strike f m
      cases e : strike f m with
      | none => rfl
      | some t =>
        rw [e] at hl
        have hl : lvs t = _ := hl
        exact rel_no (by rw [hl]; exact h)
    have noL : ∀ {a b}, (a ∉ (lvL ms).filterMap f ∨ b ∉ (lvL ms).filterMap f) → relL w (strikeL f w ms) a b = false := fun h => relL_no (by rw [lv_strikeL]; exact h)
    have hi : i ∈ lvs m ∨ i ∈ lvL ms := List.mem_append.mp hi
    have hj : j ∈ lvs m ∨ j ∈ lvL ms := List.mem_append.mp hj
    rcases hi with hi | hi <;> rcases hj with hj | hj
    · obtain ⟨a1, a2, a3, a4⟩ := c1 hi ei
      obtain ⟨b1, b2, b3, b4⟩ := c1 hj ej
      rw [rel_strike f m nd'.1 inj.l i hi j hj i' j' ei ej, noL (.inl (not_fm inj nd hi ei)), relL_no (.inl (ne hi)), b2, b4]
      simp
    · obtain ⟨a1, a2, a3, a4⟩ := c1 hi ei
      obtain ⟨b1, b2, b3, b4⟩ := c2 hj ej
      rw [noO (.inr (not_fm' inj nd hj ej)), noL (.inl (not_fm inj nd hi ei)), relL_no (.inl (ne hi)), rel_no (.inr fun z => ne z hj), a1, a3, b1, b3]
    · obtain ⟨a1, a2, a3, a4⟩ := c2 hi ei
      obtain ⟨b1, b2, b3, b4⟩ := c1 hj ej
      rw [noO (.inl (not_fm' inj nd hi ei)), noL (.inr (not_fm inj nd hj ej)), relL_no (.inr (ne hj)), rel_no (.inl fun z => ne z hi), a2, a4]
      simp
    · obtain ⟨a1, a2, a3, a4⟩ := c2 hi ei
      obtain ⟨b1, b2, b3, b4⟩ := c2 hj ej
      rw [noO (.inl (not_fm' inj nd hi ei)), rel_strikeL f w ms nd'.2.1 inj.r i hi j hj i' j' ei ej, rel_no (.inl fun z => ne z hi), a2, a4]
      simp
end

/-! ### turned -/
mutual
def turn : T → T
  | .leaf i => .leaf i
  | .node true ms => .node true (turnL ms).reverse
  | .node false ms => .node false (turnL ms)
def turnL : List T → List T
  | [] => []
  | m :: ms => turn m :: turnL ms
end
theorem turn_is (w : Bool) : ∀ t : T, (turn t).is w = t.is w
  | .leaf _ => rfl
  | .node true _ => rfl
  | .node false _ => rfl
theorem turnL_len : ∀ ms : List T, (turnL ms).length = ms.length
  | [] => rfl
  | _ :: ms => congrArg (· + 1) (turnL_len ms)
theorem WfL_perm {w : Bool} {xs ys : List T} (p : xs.Perm ys) (h : WfL w xs) : WfL w ys := WfL_iff.mpr fun m hm => WfL_iff.mp h m (p.mem_iff.mpr hm)
theorem lvL_perm {xs ys : List T} (p : xs.Perm ys) : (lvL xs).Perm (lvL ys) := by
  rw [lvL_flat, lvL_flat]
  exact p.flatMap_right _
theorem lvL_rev (xs : List T) : (lvL xs.reverse).Perm (lvL xs) := lvL_perm xs.reverse_perm
mutual
theorem lv_turn : ∀ t : T, (lvs (turn t)).Perm (lvs t)
  | .leaf _ => .refl _
  | .node true ms => (lvL_rev _).trans (lv_turnL ms)
  | .node false ms => lv_turnL ms
theorem lv_turnL : ∀ ms : List T, (lvL (turnL ms)).Perm (lvL ms)
  | [] => .refl _
  | m :: ms => (lv_turn m).append (lv_turnL ms)
end
mutual
theorem wf_turn : ∀ t : T, Wf t → Wf (turn t)
  | .leaf _, _ => trivial
  | .node true ms, h => ⟨by rw [List.length_reverse, turnL_len]; exact h.1, WfL_perm (List.reverse_perm _).symm (wf_turnL true ms h.2)⟩
  | .node false ms, h => ⟨by rw [turnL_len]; exact h.1, wf_turnL false ms h.2⟩
theorem wf_turnL (w : Bool) : ∀ ms : List T, WfL w ms → WfL w (turnL ms)
  | [], _ => trivial
  | m :: ms, h => ⟨⟨by rw [turn_is]; exact h.1.1, wf_turn m h.1.2⟩, wf_turnL w ms h.2⟩
end
theorem contains_perm {xs ys : List Nat} (p : xs.Perm ys) (i : Nat) : xs.contains i = ys.contains i := by
  rw [Bool.eq_iff_iff, List.contains_iff_mem, List.contains_iff_mem]
  exact p.mem_iff
theorem relL_false : ∀ {ms : List T} {i j : Nat}, relL false ms i j = ms.any fun m => rel m i j
  | [], _, _ => rfl
  | m :: ms, i, j => by
    show (rel m i j || relL false ms i j || (false && _ && _)) = _
    rw [relL_false (ms := ms), List.any_cons]
    simp
theorem any_perm {β : Type} {xs ys : List β} (p : xs.Perm ys) (f : β → Bool) : xs.any f = ys.any f := by
  rw [Bool.eq_iff_iff, List.any_eq_true, List.any_eq_true]
  exact ⟨fun ⟨x, h1, h2⟩ => ⟨x, p.mem_iff.mp h1, h2⟩, fun ⟨x, h1, h2⟩ => ⟨x, p.mem_iff.mpr h1, h2⟩⟩
theorem relL_rev : ∀ {ms : List T} {i j : Nat}, (∀ m ∈ ms, rel (turn m) i j = rel m j i) → relL true (turnL ms).reverse i j = relL true ms j i
  | [], _, _, _ => rfl
  | m :: ms, i, j, h => by
    show relL true (turn m :: turnL ms).reverse i j = (rel m j i || relL true ms j i || (true && (lvs m).contains j && (lvL ms).contains i))
    rw [List.reverse_cons, relL_app, relL_rev fun x hx => h x (List.mem_cons_of_mem _ hx)]
    have e1 : relL true [turn m] i j = rel m j i := by
      rw [← h m (List.mem_cons_self ..)]
      simp [relL, lvL]
    have e2 : (lvL (turnL ms).reverse).contains i = (lvL ms).contains i := contains_perm ((lvL_rev _).trans (lv_turnL ms)) i
    have e3 : (lvL [turn m]).contains j = (lvs m).contains j := contains_perm (by simpa [lvL] using lv_turn m) j
    rw [e1, e2, e3]
    cases rel m j i <;> cases relL true ms j i <;> cases (lvL ms).contains i <;> cases (lvs m).contains j <;> rfl
theorem any_turn {i j : Nat} : ∀ {ms : List T}, (∀ m ∈ ms, rel (turn m) i j = rel m j i) → ((turnL ms).any fun m => rel m i j) = ms.any fun m => rel m j i
  | [], _ => rfl
  | m :: ms, h => by
    rw [turnL, List.any_cons, List.any_cons, h m (List.mem_cons_self ..), any_turn fun x hx => h x (List.mem_cons_of_mem _ hx)]
theorem rel_turn (i j : Nat) : ∀ t : T, rel (turn t) i j = rel t j i := T.ind (fun _ => rfl) fun w ms h => by
  cases w with
  | true => exact relL_rev h
  | false =>
    show relL false (turnL ms) i j = relL false ms j i
    rw [relL_false, relL_false]
    exact any_turn h

/-! ### plain -/
mutual
/-- the least thing -/
def mn : T → Nat
  | .leaf i => i
  | .node _ ms => mnL ms
def mnL : List T → Nat
  | [] => 0
  | [m] => mn m
  | m :: n :: ms => min (mn m) (mnL (n :: ms))
end
mutual
def plain : T → T
  | .leaf i => .leaf i
  | .node true ms => .node true (plainL ms)
  | .node false ms => .node false ((plainL ms).mergeSort fun a b => decide (mn a ≤ mn b))
def plainL : List T → List T
  | [] => []
  | m :: ms => plain m :: plainL ms
end
theorem plain_is (w : Bool) : ∀ t : T, (plain t).is w = t.is w
  | .leaf _ => rfl
  | .node true _ => rfl
  | .node false _ => rfl
theorem plainL_len : ∀ ms : List T, (plainL ms).length = ms.length
  | [] => rfl
  | _ :: ms => congrArg (· + 1) (plainL_len ms)
theorem plainL_map : ∀ ms : List T, plainL ms = ms.map plain
  | [] => rfl
  | m :: ms => congrArg (plain m :: ·) (plainL_map ms)
mutual
theorem lv_plain : ∀ t : T, (lvs (plain t)).Perm (lvs t)
  | .leaf _ => .refl _
  | .node true ms => lv_plainL ms
  | .node false ms => (lvL_perm (List.mergeSort_perm _ _)).trans (lv_plainL ms)
theorem lv_plainL : ∀ ms : List T, (lvL (plainL ms)).Perm (lvL ms)
  | [] => .refl _
  | m :: ms => (lv_plain m).append (lv_plainL ms)
end
mutual
theorem wf_plain : ∀ t : T, Wf t → Wf (plain t)
  | .leaf _, _ => trivial
  | .node true ms, h => ⟨by rw [plainL_len]; exact h.1, wf_plainL true ms h.2⟩
  | .node false ms, h => ⟨by rw [List.length_mergeSort, plainL_len]; exact h.1, WfL_perm (List.mergeSort_perm _ _).symm (wf_plainL false ms h.2)⟩
theorem wf_plainL (w : Bool) : ∀ ms : List T, WfL w ms → WfL w (plainL ms)
  | [], _ => trivial
  | m :: ms, h => ⟨⟨by rw [plain_is]; exact h.1.1, wf_plain m h.1.2⟩, wf_plainL w ms h.2⟩
end
theorem relL_plain {w : Bool} {i j : Nat} : ∀ {ms : List T}, (∀ m ∈ ms, rel (plain m) i j = rel m i j) → relL w (plainL ms) i j = relL w ms i j
  | [], _ => rfl
  | m :: ms, h => by
    show (rel (plain m) i j || relL w (plainL ms) i j || (w && (lvs (plain m)).contains i && (lvL (plainL ms)).contains j)) = (rel m i j || relL w ms i j || (w && (lvs m).contains i && (lvL ms).contains j))
    rw [h m (List.mem_cons_self ..), relL_plain fun x hx => h x (List.mem_cons_of_mem _ hx), contains_perm (lv_plain m), contains_perm (lv_plainL ms)]
theorem rel_plain (i j : Nat) : ∀ t : T, rel (plain t) i j = rel t i j := T.ind (fun _ => rfl) fun w ms h => by
  cases w with
  | true => exact relL_plain h
  | false =>
    show relL false ((plainL ms).mergeSort _) i j = relL false ms i j
    rw [relL_false, any_perm (List.mergeSort_perm _ _), ← relL_false, relL_plain h]
end Tm
set_option Elab.async false
set_option linter.all false
/-! Mt2: pieces of a graph by walking on. -/
namespace Tm
def without (l : List Nat) (o : Nat) : List Nat := l.filter fun x => decide (x ≠ o)
theorem mem_without {l : List Nat} {o x : Nat} : x ∈ without l o ↔ x ∈ l ∧ x ≠ o := by simp [without]
def visit : List Nat → List Nat → List Nat → List Nat → List Nat × List Nat × List Nat
  | l, p, w, [] => (l, p, w)
  | l, p, w, o :: os => if o ∈ l then visit (without l o) (p ++ [o]) (w ++ [o]) os else visit l p w os
def grow (N : Nat → List Nat) : Nat → List Nat → List Nat → List Nat → List Nat × List Nat
  | 0, l, p, _ => (l, p)
  | n + 1, l, p, w => match w.getLast? with
    | none => (l, p)
    | some x => match visit l p w.dropLast (N x) with
      | (l', p', w') => grow N n l' p' w'
def Conn (N : Nat → List Nat) (B : List Nat) : Prop := ∀ Q : Nat → Prop, (∃ x ∈ B, Q x) → (∀ x ∈ B, Q x → ∀ y ∈ B, y ∈ N x → Q y) → ∀ x ∈ B, Q x
/-- what stays true: l what is left, p the piece, w what waits; L what was left at the start -/
structure Gr (N : Nat → List Nat) (B L l p w : List Nat) : Prop where
  sub : ∀ x ∈ p, x ∈ B
  nd : p.Nodup
  lnd : l.Nodup
  left : ∀ x, x ∈ l ↔ x ∈ L ∧ x ∉ p
  wsub : ∀ x ∈ w, x ∈ p
theorem visit_gr {N : Nat → List Nat} {B L : List Nat} : ∀ (os : List Nat) {l p w : List Nat}, Gr N B L l p w → (∀ o ∈ os, o ∈ L → o ∈ B) → (∀ o ∈ os, o ∈ l → True) →
    ∃ l' p' w', visit l p w os = (l', p', w') ∧ Gr N B L l' p' w' ∧ (∀ x ∈ p, x ∈ p') ∧ (∀ x ∈ w, x ∈ w') ∧ (∀ o ∈ os, o ∉ l') ∧ (∀ x ∈ p', x ∈ p ∨ x ∈ w') ∧ w'.length + l'.length = w.length + l.length ∧ (∀ x ∈ l', x ∈ l)
  | [], l, p, w, g, _, _ => ⟨l, p, w, rfl, g, fun _ h => h, fun _ h => h, fun _ h => (by cases h), fun _ h => .inl h, rfl, fun _ h => h⟩
  | o :: os, l, p, w, g, hB, _ => by
    unfold visit
    by_cases h : o ∈ l
    · rw [if_pos h]
      have hL := (g.left o).mp h
      have g2 : Gr N B L (without l o) (p ++ [o]) (w ++ [o]) := {
        sub := fun x hx => by
          rcases List.mem_append.mp hx with hx | hx
          · exact g.sub x hx
          · rw [List.mem_singleton.mp hx]; exact hB o (List.mem_cons_self ..) hL.1
        nd := List.nodup_append.mpr ⟨g.nd, by simp, fun a ha b hb e => by
          rw [List.mem_singleton.mp hb] at e
          exact hL.2 (e ▸ ha)⟩
        lnd := List.Pairwise.filter _ g.lnd
        left := fun x => by
          rw [mem_without, g.left x, List.mem_append, List.mem_singleton]
          exact ⟨fun ⟨⟨a, b⟩, c⟩ => ⟨a, fun z => z.elim b c⟩, fun ⟨a, b⟩ => ⟨⟨a, fun z => b (.inl z)⟩, fun z => b (.inr z)⟩⟩
        wsub := fun x hx => by
          rcases List.mem_append.mp hx with hx | hx
          · exact List.mem_append_left _ (g.wsub x hx)
          · exact List.mem_append_right _ hx }
      obtain ⟨l', p', w', e, g', h1, h2, h3, h4, h5, h6⟩ := visit_gr os g2 (fun x hx => hB x (List.mem_cons_of_mem _ hx)) fun _ _ _ => trivial
      refine ⟨l', p', w', e, g', fun x hx => h1 x (List.mem_append_left _ hx), fun x hx => h2 x (List.mem_append_left _ hx), fun x hx => ?_, fun x hx => ?_, ?_, fun x hx => (mem_without.mp (h6 x hx)).1⟩
      · rcases List.mem_cons.mp hx with rfl | hx
        · exact fun z => (mem_without.mp (h6 _ z)).2 rfl
        · exact h3 x hx
      · rcases h4 x hx with hx | hx
        · rcases List.mem_append.mp hx with hx | hx
          · exact .inl hx
          · rw [List.mem_singleton.mp hx]
            exact .inr (h2 o (List.mem_append_right _ (List.mem_singleton.mpr rfl)))
        · exact .inr hx
      · rw [h5, List.length_append, List.length_singleton]
        have : (without l o).length + 1 = l.length := len_without g.lnd h
        omega
    · rw [if_neg h]
      obtain ⟨l', p', w', e, g', h1, h2, h3, h4, h5, h6⟩ := visit_gr os g (fun x hx => hB x (List.mem_cons_of_mem _ hx)) fun _ _ _ => trivial
      refine ⟨l', p', w', e, g', h1, h2, fun x hx => ?_, h4, h5, h6⟩
      rcases List.mem_cons.mp hx with rfl | hx
      · exact fun z => h (h6 _ z)
      · exact h3 x hx
where
  len_without : ∀ {l : List Nat} {o : Nat}, l.Nodup → o ∈ l → (without l o).length + 1 = l.length
  | [], _, _, h => by cases h
  | a :: l, o, nd, h => by
    have nd' := List.nodup_cons.mp nd
    by_cases e : a = o
    · subst e
      have : without (a :: l) a = l := by
        unfold without
        rw [List.filter_cons_of_neg (by simp)]
        exact List.filter_eq_self.mpr fun x hx => decide_eq_true fun z => nd'.1 (z ▸ hx)
      rw [this]
      rfl
    · have ho : o ∈ l := (List.mem_cons.mp h).resolve_left fun z => e z.symm
      have : without (a :: l) o = a :: without l o := by
        unfold without
        rw [List.filter_cons_of_pos (by simpa using e)]
      rw [this, List.length_cons, List.length_cons, len_without nd'.2 ho]
theorem grow_gr {N : Nat → List Nat} {B L : List Nat} (hB : ∀ x ∈ B, ∀ o ∈ N x, o ∈ L → o ∈ B) : ∀ (n : Nat) {l p w : List Nat}, Gr N B L l p w → (∀ x ∈ p, x ∉ w → ∀ o ∈ N x, o ∉ l) → w.length + l.length < n →
    ∃ l' p', grow N n l p w = (l', p') ∧ Gr N B L l' p' [] ∧ (∀ x ∈ p, x ∈ p') ∧ ∀ x ∈ p', ∀ o ∈ N x, o ∉ l'
  | 0, _, _, _, _, _, h => absurd h (Nat.not_lt_zero _)
  | n + 1, l, p, w, g, hc, hn => by
    unfold grow
    cases hw : w.getLast? with
    | none =>
      have ew : w = [] := List.getLast?_eq_none_iff.mp hw
      subst ew
      exact ⟨l, p, rfl, g, fun _ h => h, fun x hx => hc x hx (by simp)⟩
    | some x =>
      have ew : w = w.dropLast ++ [x] := by
        have hne : w ≠ [] := fun z => by rw [z] at hw; cases hw
        have := List.dropLast_concat_getLast hne
        rw [List.getLast?_eq_getLast hne] at hw
        cases hw
        exact this.symm
      have hx : x ∈ w := by rw [ew]; exact List.mem_append_right _ (List.mem_singleton.mpr rfl)
      have g0 : Gr N B L l p w.dropLast := ⟨g.sub, g.nd, g.lnd, g.left, fun y hy => g.wsub y (List.dropLast_subset _ hy)⟩
      have hxB := g.sub x (g.wsub x hx)
      obtain ⟨l', p', w', e, g', h1, h2, h3, h4, h5, h6⟩ := visit_gr (N x) g0 (fun o ho => hB x hxB o ho) fun _ _ _ => trivial
      have hl : w.length = w.dropLast.length + 1 := by
        have := congrArg List.length ew
        rw [List.length_append, List.length_singleton] at this
        exact this
      obtain ⟨l2, p2, e2, g2, q1, q2⟩ := grow_gr hB n g' (fun y hy hyw o ho => by
        rcases h4 y hy with hp | hw'
        · by_cases hyx : y = x
          · subst hyx; exact h3 o ho
          · have : y ∉ w := fun z => by
              rw [ew] at z
              rcases List.mem_append.mp z with z | z
              · exact hyw (h2 y z)
              · exact hyx (List.mem_singleton.mp z)
            exact fun z => hc y hp this o ho (h6 o z)
        · exact absurd hw' hyw) (by omega)
      refine ⟨l2, p2, ?_, g2, fun y hy => q1 y (h1 y hy), q2⟩
      show (match visit l p w.dropLast (N x) with | (l', p', w') => grow N n l' p' w') = _
      rw [e]
      exact e2
/-- from one thing of a connected block: the block -/
theorem grow_block {N : Nat → List Nat} {B L : List Nat} {t n : Nat} (hB : ∀ x ∈ B, ∀ o ∈ N x, o ∈ L → o ∈ B) (hc : Conn N B) (hL : ∀ x ∈ B, x ∈ L) (lnd : L.Nodup) (ht : t ∈ B) (hn : L.length < n) (bnd : B.Nodup) :
    ∃ l' p', grow N n (without L t) [t] [t] = (l', p') ∧ p'.Perm B ∧ l'.Nodup ∧ ∀ x, x ∈ l' ↔ x ∈ L ∧ x ∉ B := by
  have g : Gr N B L (without L t) [t] [t] := {
    sub := fun x hx => by rw [List.mem_singleton.mp hx]; exact ht
    nd := by simp
    lnd := List.Pairwise.filter _ lnd
    left := fun x => by rw [mem_without, List.mem_singleton]
    wsub := fun _ h => h }
  have hlen := visit_gr.len_without lnd (hL t ht)
  obtain ⟨l', p', e, g', h1, h2⟩ := grow_gr hB n g (fun x hx hw => absurd hx hw) (by rw [List.length_singleton]; omega)
  have all : ∀ x ∈ B, x ∈ p' := hc (fun x => x ∈ p') ⟨t, ht, h1 t (List.mem_singleton.mpr rfl)⟩ fun x _ hx y hy hyN => by
    have := h2 x hx y hyN
    rw [g'.left] at this
    exact Classical.byContradiction fun z => this ⟨hL y hy, z⟩
  refine ⟨l', p', e, ?_, g'.lnd, fun x => ?_⟩
  · exact (List.perm_ext_iff_of_nodup g'.nd bnd).mpr fun x => ⟨g'.sub x, all x⟩
  · rw [g'.left]
    exact ⟨fun ⟨a, b⟩ => ⟨a, fun z => b (all x z)⟩, fun ⟨a, b⟩ => ⟨a, fun z => b (g'.sub x z)⟩⟩
end Tm
set_option Elab.async false
set_option linter.all false
/-! Mt3: all pieces of a graph. -/
namespace Tm
def leN (a b : Nat) : Bool := decide (a ≤ b)
def isort (l : List Nat) : List Nat := l.mergeSort leN
theorem isort_perm (l : List Nat) : (isort l).Perm l := List.mergeSort_perm _ _
theorem isort_sorted (l : List Nat) : (isort l).Pairwise (· ≤ ·) := by
  have := List.pairwise_mergeSort (le := leN) (fun a b c h1 h2 => by simp [leN] at *; omega) (fun a b => by simp [leN]; omega) l
  exact this.imp fun h => by simpa [leN] using h
theorem isort_eq {l m : List Nat} (p : l.Perm m) (h : m.Pairwise (· ≤ ·)) : isort l = m :=
  List.Perm.eq_of_pairwise (le := (· ≤ ·)) (fun a b _ _ h1 h2 => Nat.le_antisymm h1 h2) (isort_sorted l) h ((isort_perm l).trans p)
theorem lt_le {l : List Nat} (h : l.Pairwise (· < ·)) : l.Pairwise (· ≤ ·) := h.imp Nat.le_of_lt
theorem lt_nodup {l : List Nat} (h : l.Pairwise (· < ·)) : l.Nodup := h.imp Nat.ne_of_lt
def pieces (N : Nat → List Nat) (n : Nat) : List Nat → List Nat → List (List Nat) → List (List Nat)
  | [], _, found => found
  | t :: ts, l, found => if t ∈ l then pieces N n ts (grow N n (without l t) [t] [t]).1 (found ++ [isort (grow N n (without l t) [t] [t]).2]) else pieces N n ts l found
def hd (B : List Nat) : Nat := B.headD 0
structure Blk (N : Nat → List Nat) (X : List Nat) (bl : List (List Nat)) : Prop where
  conn : ∀ B ∈ bl, Conn N B
  asc : ∀ B ∈ bl, B.Pairwise (· < ·)
  ne : ∀ B ∈ bl, B ≠ []
  closed : ∀ B ∈ bl, ∀ x ∈ B, ∀ o ∈ N x, o ∈ X → o ∈ B
  perm : bl.flatten.Perm X
  heads : bl.Pairwise fun A B => hd A < hd B
theorem hd_le {B : List Nat} (h : B.Pairwise (· < ·)) : ∀ x ∈ B, hd B ≤ x := fun x hx => by
  match B, h, hx with
  | b :: B, h, hx =>
    rcases List.mem_cons.mp hx with rfl | hx
    · exact Nat.le_refl _
    · exact Nat.le_of_lt ((List.pairwise_cons.mp h).1 x hx)
theorem hd_mem {B : List Nat} (h : B ≠ []) : hd B ∈ B := by
  match B, h with
  | b :: B, _ => exact List.mem_cons_self ..
theorem pieces_go {N : Nat → List Nat} {X : List Nat} {bl : List (List Nat)} {n : Nat} (hX : X.Pairwise (· < ·)) (b : Blk N X bl) (hn : X.length < n) : ∀ (ts pre l : List Nat) (done rest : List (List Nat)), X = pre ++ ts → bl = done ++ rest → l.Nodup → (∀ x, x ∈ l ↔ x ∈ rest.flatten) → (∀ x ∈ pre, x ∉ l) → l.length ≤ X.length → pieces N n ts l done = bl
  | [], pre, l, done, rest, hX', hbl, lnd, hl, hp, _ => by
    have : rest = [] := by
      cases rest with
      | nil => rfl
      | cons B r =>
        have hB : B ∈ bl := by rw [hbl]; exact List.mem_append_right _ (List.mem_cons_self ..)
        have hm := hd_mem (b.ne B hB)
        have h1 : hd B ∈ l := (hl _).mpr (by simp [hm])
        have h2 : hd B ∈ X := b.perm.mem_iff.mp (List.mem_flatten.mpr ⟨B, hB, hm⟩)
        rw [hX', List.append_nil] at h2
        exact absurd h1 (hp _ h2)
    rw [hbl, this, List.append_nil]
    rfl
  | t :: ts, pre, l, done, rest, hX', hbl, lnd, hl, hp, hlen => by
    unfold pieces
    by_cases ht : t ∈ l
    · rw [if_pos ht]
      cases rest with
      | nil => have := (hl t).mp ht; simp at this
      | cons B r =>
        have hB : B ∈ bl := by rw [hbl]; exact List.mem_append_right _ (List.mem_cons_self ..)
        have hasc := b.asc B hB
        have hm := hd_mem (b.ne B hB)
        have hl1 : ∀ x ∈ B, x ∈ l := fun x hx => (hl x).mpr (by simp [hx])
        have hx1 : ∀ x ∈ B, x ∈ X := fun x hx => b.perm.mem_iff.mp (List.mem_flatten.mpr ⟨B, hB, hx⟩)
        have tl : t ≤ hd B := by
          have h1 := hx1 _ hm
          rw [hX'] at h1 hX
          rcases List.mem_append.mp h1 with h1 | h1
          · exact absurd (hl1 _ hm) (hp _ h1)
          · rcases List.mem_cons.mp h1 with h1 | h1
            · rw [h1]; exact Nat.le_refl _
            · exact Nat.le_of_lt ((List.pairwise_cons.mp (List.pairwise_append.mp hX).2.1).1 _ h1)
        have tr : hd B ≤ t := by
          obtain ⟨C, hC, htC⟩ := List.mem_flatten.mp ((hl t).mp ht)
          rcases List.mem_cons.mp hC with rfl | hC
          · exact hd_le hasc t htC
          · have hC' : C ∈ bl := by rw [hbl]; exact List.mem_append_right _ (List.mem_cons_of_mem _ hC)
            have h1 := b.heads
            rw [hbl] at h1
            have h2 := (List.pairwise_cons.mp (List.pairwise_append.mp h1).2.1).1 C hC
            exact Nat.le_trans (Nat.le_of_lt h2) (hd_le (b.asc C hC') t htC)
        have et : t = hd B := Nat.le_antisymm tl tr
        have htB : t ∈ B := et ▸ hm
        have nd := lt_nodup hasc
        obtain ⟨l', p', e, hp', lnd', hl'⟩ := grow_block (N := N) (B := B) (L := l) (t := t) (n := n) (fun x hx o ho hol => b.closed B hB x hx o ho (by
          obtain ⟨C, hC, hoC⟩ := List.mem_flatten.mp ((hl o).mp hol)
          exact b.perm.mem_iff.mp (List.mem_flatten.mpr ⟨C, by rw [hbl]; exact List.mem_append_right _ hC, hoC⟩))) (b.conn B hB) hl1 lnd htB (Nat.lt_of_le_of_lt hlen hn) nd
        rw [e, isort_eq hp' (lt_le hasc)]
        have fnd : (bl.flatten).Nodup := b.perm.nodup_iff.mpr (lt_nodup hX)
        have dis : ∀ x ∈ B, x ∉ r.flatten := by
          rw [hbl, List.flatten_append, List.flatten_cons] at fnd
          have h1 := (List.nodup_append.mp (List.nodup_append.mp fnd).2.1).2.2
          exact fun x hx hr => h1 x hx x hr rfl
        refine pieces_go hX b hn ts (pre ++ [t]) l' (done ++ [B]) r (by rw [List.append_assoc]; exact hX') (by rw [List.append_assoc]; exact hbl) lnd' (fun x => ?_) (fun x hx => ?_) ?_
        · rw [hl', hl, List.flatten_cons, List.mem_append]
          exact ⟨fun ⟨h1, h2⟩ => h1.resolve_left h2, fun h => ⟨.inr h, fun z => dis x z h⟩⟩
        · rw [hl']
          rcases List.mem_append.mp hx with hx | hx
          · exact fun z => hp x hx z.1
          · rw [List.mem_singleton.mp hx]; exact fun z => z.2 htB
        · refine Nat.le_trans ?_ hlen
          have : l'.length ≤ l.length := sub_len lnd' fun x hx => ((hl' x).mp hx).1
          exact this
    · rw [if_neg ht]
      refine pieces_go hX b hn ts (pre ++ [t]) l done rest (by rw [List.append_assoc]; exact hX') hbl lnd hl (fun x hx => ?_) hlen
      rcases List.mem_append.mp hx with hx | hx
      · exact hp x hx
      · rw [List.mem_singleton.mp hx]; exact ht
where
  sub_len : ∀ {xs ys : List Nat}, xs.Nodup → (∀ x ∈ xs, x ∈ ys) → xs.length ≤ ys.length
  | [], _, _, _ => Nat.zero_le _
  | x :: xs, ys, nd, h => by
    have nd' := List.nodup_cons.mp nd
    have hx := h x (List.mem_cons_self ..)
    have h2 : xs.length ≤ (ys.erase x).length := sub_len nd'.2 fun y hy => by
      have hne : y ≠ x := fun e => nd'.1 (e ▸ hy)
      exact (List.mem_erase_of_ne hne).mpr (h y (List.mem_cons_of_mem _ hy))
    have h3 := List.length_erase_of_mem hx
    have h4 : 0 < ys.length := List.length_pos_of_mem hx
    rw [List.length_cons]
    omega
theorem pieces_eq {N : Nat → List Nat} {X : List Nat} {bl : List (List Nat)} {n : Nat} (hX : X.Pairwise (· < ·)) (b : Blk N X bl) (hn : X.length < n) : pieces N n X X [] = bl :=
  pieces_go hX b hn X [] X [] bl rfl rfl (lt_nodup hX) (fun x => b.perm.mem_iff.symm) (fun _ h => by cases h) (Nat.le_refl _)
end Tm
set_option Elab.async false
set_option linter.all false
/-! Mt4: the pieces of a term's order are its members. -/
namespace Tm
mutual
theorem lv_ne : ∀ t : T, Wf t → lvs t ≠ []
  | .leaf i, _ => by simp [lvs]
  | .node w ms, h => lvL_ne ms h.2 (by have := h.1; intro z; rw [z] at this; simp at this)
theorem lvL_ne {w : Bool} : ∀ ms : List T, WfL w ms → ms ≠ [] → lvL ms ≠ []
  | [], _, h => absurd rfl h
  | m :: ms, h, _ => fun z => lv_ne m h.1.2 (List.append_eq_nil_iff.mp z).1
end
theorem split_at {ms : List T} {x : Nat} (h : x ∈ lvL ms) : ∃ p m q, ms = p ++ m :: q ∧ x ∈ lvs m := by
  obtain ⟨m, hm, hx⟩ := mem_lvL.mp h
  obtain ⟨p, q, e⟩ := List.append_of_mem hm
  exact ⟨p, m, q, e, hx⟩
theorem lvL_split {p q : List T} {m : T} : lvL (p ++ m :: q) = lvL p ++ (lvs m ++ lvL q) := by
  rw [lvL_app]; rfl
/-- what one member's things are to the others -/
structure Sp (w : Bool) (p : List T) (m : T) (q : List T) : Prop where
  same : ∀ i ∈ lvs m, ∀ j ∈ lvs m, relL w (p ++ m :: q) i j = rel m i j
  after : ∀ i ∈ lvs m, ∀ j ∈ lvL q, relL w (p ++ m :: q) i j = w ∧ relL w (p ++ m :: q) j i = false
  ahead : ∀ i ∈ lvs m, ∀ j ∈ lvL p, relL w (p ++ m :: q) j i = w ∧ relL w (p ++ m :: q) i j = false
  dis : (∀ x ∈ lvs m, x ∉ lvL p) ∧ (∀ x ∈ lvs m, x ∉ lvL q) ∧ ∀ x ∈ lvL p, x ∉ lvL q
theorem Sp.of {w : Bool} {p q : List T} {m : T} (nd : (lvL (p ++ m :: q)).Nodup) : Sp w p m q := by
  rw [lvL_split] at nd
  have n1 := List.nodup_append.mp nd
  have n2 := List.nodup_append.mp n1.2.1
  have d1 : ∀ x ∈ lvs m, x ∉ lvL p := fun x h1 h2 => n1.2.2 x h2 x (List.mem_append_left _ h1) rfl
  have d2 : ∀ x ∈ lvs m, x ∉ lvL q := fun x h1 h2 => n2.2.2 x h1 x h2 rfl
  have d3 : ∀ x ∈ lvL p, x ∉ lvL q := fun x h1 h2 => n1.2.2 x h1 x (List.mem_append_right _ h2) rfl
  have nc : ∀ {l : List Nat} {x : Nat}, x ∉ l → l.contains x = false := fun h => Bool.eq_false_iff.mpr fun z => h (List.contains_iff_mem.mp z)
  have yc : ∀ {l : List Nat} {x : Nat}, x ∈ l → l.contains x = true := fun h => List.contains_iff_mem.mpr h
  have ex : ∀ i j, relL w (p ++ m :: q) i j = (relL w p i j || (rel m i j || relL w q i j || (w && (lvs m).contains i && (lvL q).contains j)) || (w && (lvL p).contains i && (lvL (m :: q)).contains j)) := fun i j => relL_app
  have ec : ∀ j, (lvL (m :: q)).contains j = ((lvs m).contains j || (lvL q).contains j) := fun j => List.contains_append
  refine ⟨fun i hi j hj => ?_, fun i hi j hj => ⟨?_, ?_⟩, fun i hi j hj => ⟨?_, ?_⟩, d1, d2, d3⟩
  · rw [ex, relL_no (.inl (d1 i hi)), relL_no (.inl (d2 i hi)), nc (d1 i hi), nc (d2 j hj)]
    cases rel m i j <;> simp
  · rw [ex, relL_no (.inl (d1 i hi)), relL_no (.inl (d2 i hi)), rel_no (.inr fun z => d2 j z hj), yc hi, yc hj, nc (d1 i hi)]
    cases w <;> simp
  · rw [ex, relL_no (.inr (d1 i hi)), relL_no (.inr (d2 i hi)), rel_no (.inl fun z => d2 j z hj), nc (fun z => d2 j z hj), nc (fun z => d3 j z hj)]
    simp
  · rw [ex, relL_no (.inr (d1 i hi)), relL_no (.inr (d2 i hi)), rel_no (.inl fun z => d1 j z hj), nc (fun z => d1 j z hj), yc hj, ec, yc hi]
    cases w <;> simp
  · rw [ex, relL_no (.inl (d1 i hi)), relL_no (.inl (d2 i hi)), rel_no (.inr fun z => d1 j z hj), nc (d1 i hi), nc (d3 j hj)]
    simp
/-- partners -/
def nt (n : Nat) (r : Nat → Nat → Bool) (i : Nat) : List Nat := (List.range n).filter fun j => r i j || r j i
def nf (n : Nat) (r : Nat → Nat → Bool) (i : Nat) : List Nat := (List.range n).filter fun j => !(j == i) && !(r i j || r j i)
theorem mem_nt {n : Nat} {r : Nat → Nat → Bool} {i j : Nat} : j ∈ nt n r i ↔ j < n ∧ (r i j = true ∨ r j i = true) := by simp [nt]
theorem mem_nf {n : Nat} {r : Nat → Nat → Bool} {i j : Nat} : j ∈ nf n r i ↔ j < n ∧ j ≠ i ∧ r i j = false ∧ r j i = false := by simp [nf, and_assoc]
/-- s stands in the order r -/
structure In (n : Nat) (r : Nat → Nat → Bool) (s : T) : Prop where
  wf : Wf s
  nd : (lvs s).Nodup
  lt : ∀ x ∈ lvs s, x < n
  ag : ∀ i ∈ lvs s, ∀ j ∈ lvs s, r i j = rel s i j
theorem In.mem {n : Nat} {r : Nat → Nat → Bool} {w : Bool} {p q : List T} {m : T} (h : In n r (.node w (p ++ m :: q))) : In n r m := by
  have sp := Sp.of (w := w) h.nd
  have hs : ∀ x ∈ lvs m, x ∈ lvL (p ++ m :: q) := fun x hx => by rw [lvL_split]; simp [hx]
  have nd := h.nd
  rw [show lvs (.node w (p ++ m :: q)) = lvL (p ++ m :: q) from rfl, lvL_split] at nd
  exact ⟨(WfL_iff.mp h.wf.2 m (by simp)).2, (List.nodup_append.mp (List.nodup_append.mp nd).2.1).1, fun x hx => h.lt x (hs x hx), fun i hi j hj => by
    rw [h.ag i (hs i hi) j (hs j hj)]
    exact sp.same i hi j hj⟩
/-- from a thing of one member to the things of another: w the word; N its partners -/
theorem conn_node {n : Nat} {r : Nat → Nat → Bool} {w : Bool} {ms : List T} (h : In n r (.node w ms)) {B : List Nat} (hB : ∀ x, x ∈ B ↔ x ∈ lvL ms) {N : Nat → List Nat}
    (hN : ∀ i j, j < n → j ≠ i → r i j = w ∧ r j i = false ∨ r j i = w ∧ r i j = false → j ∈ N i) : Conn N B := by
  rintro Q ⟨x, hx, qx⟩ step
  have hx' := (hB x).mp hx
  obtain ⟨p, m, q, e, hxm⟩ := split_at hx'
  subst e
  have sp := Sp.of (w := w) h.nd
  have inL : ∀ {y}, y ∈ lvL p ∨ y ∈ lvL q ∨ y ∈ lvs m → y ∈ lvL (p ++ m :: q) := fun hy => by
    rw [lvL_split]
    rcases hy with hy | hy | hy <;> simp [hy]
  have ag : ∀ {i j}, i ∈ lvL (p ++ m :: q) → j ∈ lvL (p ++ m :: q) → r i j = relL w (p ++ m :: q) i j := fun hi hj => h.ag _ hi _ hj
  have nb : ∀ {a y}, a ∈ lvs m → y ∈ lvL p ∨ y ∈ lvL q → y ∈ N a ∧ a ∈ N y := fun {a y} ha hy => by
    have hy' : y ∈ lvL (p ++ m :: q) := inL (hy.elim .inl fun z => .inr (.inl z))
    have ha' : a ∈ lvL (p ++ m :: q) := inL (.inr (.inr ha))
    have ne : y ≠ a := fun z => by
      subst z
      rcases hy with hy | hy
      · exact sp.dis.1 y ha hy
      · exact sp.dis.2.1 y ha hy
    have e1 := ag ha' hy'
    have e2 := ag hy' ha'
    rcases hy with hy | hy
    · have := sp.ahead a ha y hy
      rw [this.2] at e1
      rw [this.1] at e2
      exact ⟨hN a y (h.lt y hy') ne (.inr ⟨e2, e1⟩), hN y a (h.lt a ha') (Ne.symm ne) (.inl ⟨e2, e1⟩)⟩
    · have := sp.after a ha y hy
      rw [this.1] at e1
      rw [this.2] at e2
      exact ⟨hN a y (h.lt y hy') ne (.inl ⟨e1, e2⟩), hN y a (h.lt a ha') (Ne.symm ne) (.inr ⟨e1, e2⟩)⟩
  have other : ∃ z, z ∈ lvL p ∨ z ∈ lvL q := by
    have hl := h.wf.1
    have hw := WfL_app.mp h.wf.2
    cases p with
    | cons a p =>
      have := lvL_ne (a :: p) hw.1 (by simp)
      obtain ⟨z, hz⟩ := List.exists_mem_of_ne_nil _ this
      exact ⟨z, .inl hz⟩
    | nil =>
      cases q with
      | nil => simp at hl
      | cons a q =>
        have := lvL_ne (a :: q) hw.2.2 (by simp)
        obtain ⟨z, hz⟩ := List.exists_mem_of_ne_nil _ this
        exact ⟨z, .inr hz⟩
  obtain ⟨z, hz⟩ := other
  have hzB : z ∈ B := (hB z).mpr (inL (hz.elim .inl fun z => .inr (.inl z)))
  have qz : Q z := step x hx qx z hzB (nb hxm hz).1
  intro y hy
  have hy' := (hB y).mp hy
  rw [lvL_split] at hy'
  rcases List.mem_append.mp hy' with h1 | h1
  · exact step x hx qx y hy (nb hxm (.inl h1)).1
  · rcases List.mem_append.mp h1 with h1 | h1
    · exact step z hzB qz y hy (nb h1 hz).2
    · exact step x hx qx y hy (nb hxm (.inr h1)).1
theorem conn_leaf {N : Nat → List Nat} {i : Nat} : Conn N [i] := by
  rintro Q ⟨x, hx, qx⟩ _ y hy
  rw [List.mem_singleton] at hx hy
  subst hx hy
  exact qx
def key (m : T) : List Nat := isort (lvs m)
theorem mem_key {m : T} {x : Nat} : x ∈ key m ↔ x ∈ lvs m := (isort_perm _).mem_iff
theorem key_asc {m : T} (h : (lvs m).Nodup) : (key m).Pairwise (· < ·) := by
  have h1 := isort_sorted (lvs m)
  have h2 : (key m).Nodup := (isort_perm _).nodup_iff.mpr h
  exact (h1.and h2).imp fun h => Nat.lt_of_le_of_ne h.1 h.2
def byMn (ms : List T) : List T := ms.mergeSort fun a b => decide (mn a ≤ mn b)
theorem byMn_perm (ms : List T) : (byMn ms).Perm ms := List.mergeSort_perm _ _
mutual
theorem mn_mem : ∀ t : T, Wf t → mn t ∈ lvs t ∧ ∀ x ∈ lvs t, mn t ≤ x
  | .leaf i, _ => by simp [mn, lvs]
  | .node w ms, h => mnL_mem ms h.2 (by have := h.1; intro z; rw [z] at this; simp at this)
theorem mnL_mem {w : Bool} : ∀ ms : List T, WfL w ms → ms ≠ [] → mnL ms ∈ lvL ms ∧ ∀ x ∈ lvL ms, mnL ms ≤ x
  | [], _, h => absurd rfl h
  | [m], h, _ => by
    have := mn_mem m h.1.2
    simpa [mnL, lvL] using this
  | m :: n :: ms, h, _ => by
    have h1 := mn_mem m h.1.2
    have h2 := mnL_mem (n :: ms) h.2 (by simp)
    show min (mn m) (mnL (n :: ms)) ∈ lvs m ++ lvL (n :: ms) ∧ ∀ x ∈ lvs m ++ lvL (n :: ms), min (mn m) (mnL (n :: ms)) ≤ x
    refine ⟨?_, fun x hx => ?_⟩
    · rw [List.mem_append]
      by_cases e : mn m ≤ mnL (n :: ms)
      · rw [Nat.min_eq_left e]; exact .inl h1.1
      · rw [Nat.min_eq_right (Nat.le_of_not_le e)]; exact .inr h2.1
    · rcases List.mem_append.mp hx with hx | hx
      · exact Nat.le_trans (Nat.min_le_left _ _) (h1.2 x hx)
      · exact Nat.le_trans (Nat.min_le_right _ _) (h2.2 x hx)
end
theorem mn_eq {t : T} (h : Wf t) {i : Nat} (h1 : i ∈ lvs t) (h2 : ∀ x ∈ lvs t, i ≤ x) : mn t = i := Nat.le_antisymm ((mn_mem t h).2 i h1) (h2 _ (mn_mem t h).1)
theorem mn_perm {s t : T} (hs : Wf s) (ht : Wf t) (p : (lvs s).Perm (lvs t)) : mn s = mn t :=
  mn_eq hs (p.mem_iff.mpr (mn_mem t ht).1) fun x hx => (mn_mem t ht).2 x (p.mem_iff.mp hx)
theorem mn_plain {t : T} (h : Wf t) : mn (plain t) = mn t := mn_perm (wf_plain t h) h (lv_plain t)
theorem hd_key {m : T} (h : Wf m) (nd : (lvs m).Nodup) : hd (key m) = mn m := by
  have ne : key m ≠ [] := fun z => by
    have h1 := (mn_mem m h).1
    rw [← mem_key, z] at h1
    cases h1
  exact Nat.le_antisymm (hd_le (key_asc nd) _ (mem_key.mpr (mn_mem m h).1)) ((mn_mem m h).2 _ (mem_key.mp (hd_mem ne)))
theorem dis_mem : ∀ {ms : List T}, (lvL ms).Nodup → ms.Pairwise fun a b => ∀ x ∈ lvs a, x ∉ lvs b
  | [], _ => .nil
  | m :: ms, h => by
    have n1 := List.nodup_append.mp h
    exact List.pairwise_cons.mpr ⟨fun b hb x hx hxb => n1.2.2 x hx x (mem_lvL.mpr ⟨b, hb, hxb⟩) rfl, dis_mem n1.2.1⟩
/-- members by their least things: strictly -/
theorem byMn_lt {w : Bool} {ms : List T} (hw : WfL w ms) (nd : (lvL ms).Nodup) : (byMn ms).Pairwise fun a b => mn a < mn b := by
  have h1 : (byMn ms).Pairwise fun a b => mn a ≤ mn b := (List.pairwise_mergeSort (le := fun a b : T => decide (mn a ≤ mn b)) (fun a b c h1 h2 => by simp at *; omega) (fun a b => by simp; omega) ms).imp fun h => by simpa using h
  have p := byMn_perm ms
  have h2 := dis_mem ((lvL_perm p).nodup_iff.mpr nd)
  have hw2 := WfL_iff.mp (WfL_perm p.symm hw)
  refine List.Pairwise.imp_of_mem ?_ (h1.and h2)
  intro a b ha hb h
  refine Nat.lt_of_le_of_ne h.1 fun e => h.2 (mn a) (mn_mem a (hw2 a ha).2).1 ?_
  rw [e]
  exact (mn_mem b (hw2 b hb).2).1
theorem keys_perm {ms : List T} : ((byMn ms).map key).flatten.Perm (isort (lvL ms)) := by
  have h1 : ((byMn ms).map key).flatten.Perm (lvL (byMn ms)) := by
    generalize byMn ms = xs
    induction xs with
    | nil => exact .refl _
    | cons m xs ih => exact (isort_perm _).append ih
  exact (h1.trans (lvL_perm (byMn_perm ms))).trans (isort_perm _).symm
theorem mem_split {ms : List T} {m : T} (h : m ∈ ms) : ∃ p q, ms = p ++ m :: q := List.append_of_mem h
/-- members one beside the other: pieces by ties; behind the other: by freedom -/
theorem blk_node {n : Nat} {r : Nat → Nat → Bool} {w : Bool} {ms : List T} (h : In n r (.node w ms)) {N : Nat → List Nat}
    (hin : ∀ m ∈ ms, Conn N (key m))
    (hout : ∀ i j, j ∈ N i → ¬ (r i j = w ∧ r j i = false) ∧ ¬ (r j i = w ∧ r i j = false)) : Blk N (isort (lvL ms)) ((byMn ms).map key) := by
  have nd : (lvL ms).Nodup := h.nd
  have sub : ∀ {B}, B ∈ (byMn ms).map key → ∃ m ∈ ms, B = key m := fun hB => by
    obtain ⟨m, hm, e⟩ := List.mem_map.mp hB
    exact ⟨m, (byMn_perm ms).mem_iff.mp hm, e.symm⟩
  have inm : ∀ {m}, m ∈ ms → In n r m := fun hm => by
    obtain ⟨p, q, e⟩ := mem_split hm
    subst e
    exact h.mem
  refine ⟨fun B hB => ?_, fun B hB => ?_, fun B hB => ?_, fun B hB x hx o ho hoX => ?_, keys_perm, ?_⟩
  · obtain ⟨m, hm, rfl⟩ := sub hB
    exact hin m hm
  · obtain ⟨m, hm, rfl⟩ := sub hB
    exact key_asc (inm hm).nd
  · obtain ⟨m, hm, rfl⟩ := sub hB
    intro z
    have h1 := (mn_mem m (inm hm).wf).1
    rw [← mem_key, z] at h1
    cases h1
  · obtain ⟨m, hm, rfl⟩ := sub hB
    obtain ⟨p, q, e⟩ := mem_split hm
    subst e
    have sp := Sp.of (w := w) nd
    have hx' := mem_key.mp hx
    have ho' : o ∈ lvL (p ++ m :: q) := (isort_perm _).mem_iff.mp hoX
    have hxL : x ∈ lvL (p ++ m :: q) := by rw [lvL_split]; simp [hx']
    have e1 : r x o = relL w (p ++ m :: q) x o := h.ag x hxL o ho'
    have e2 : r o x = relL w (p ++ m :: q) o x := h.ag o ho' x hxL
    have hno := hout x o ho
    have ho2 := ho'
    rw [lvL_split] at ho2
    refine mem_key.mpr ?_
    rcases List.mem_append.mp ho2 with h1 | h1
    · have := sp.ahead x hx' o h1
      exact absurd ⟨e2.trans this.1, e1.trans this.2⟩ hno.2
    · rcases List.mem_append.mp h1 with h1 | h1
      · exact h1
      · have := sp.after x hx' o h1
        exact absurd ⟨e1.trans this.1, e2.trans this.2⟩ hno.1
  · refine List.pairwise_map.mpr (List.Pairwise.imp_of_mem ?_ (byMn_lt h.wf.2 nd))
    intro a b ha hb hab
    have ia := inm ((byMn_perm ms).mem_iff.mp ha)
    have ib := inm ((byMn_perm ms).mem_iff.mp hb)
    rw [hd_key ia.wf ia.nd, hd_key ib.wf ib.nd]
    exact hab
/-- each member is in one piece by the other word's partners -/
theorem conn_tied {n : Nat} {r : Nat → Nat → Bool} {ms : List T} (h : In n r (.node true ms)) : Conn (nt n r) (key (.node true ms)) :=
  conn_node h (fun x => mem_key) fun i j hj ne ho => mem_nt.mpr ⟨hj, ho.elim (fun z => .inl z.1) fun z => .inr z.1⟩
theorem conn_free {n : Nat} {r : Nat → Nat → Bool} {ms : List T} (h : In n r (.node false ms)) : Conn (nf n r) (key (.node false ms)) :=
  conn_node h (fun x => mem_key) fun i j hj ne ho => mem_nf.mpr ⟨hj, ne, ho.elim (fun z => z.1) fun z => z.2, ho.elim (fun z => z.2) fun z => z.1⟩
theorem key_leaf (i : Nat) : key (.leaf i) = [i] := isort_eq (.refl _) (by simp [lvs])
theorem beside_blk {n : Nat} {r : Nat → Nat → Bool} {ms : List T} (h : In n r (.node false ms)) : Blk (nt n r) (isort (lvL ms)) ((byMn ms).map key) :=
  blk_node h (fun m hm => by
    obtain ⟨p, q, e⟩ := mem_split hm
    have im : In n r m := by subst e; exact h.mem
    have hi := (WfL_iff.mp h.wf.2 m hm).1
    match m, im, hi with
    | .leaf i, _, _ => rw [key_leaf]; exact conn_leaf
    | .node true ks, im, _ => exact conn_tied im
    | .node false ks, _, hi => simp [T.is] at hi) fun i j hj => by
    have := (mem_nt.mp hj).2
    refine ⟨fun z => ?_, fun z => ?_⟩ <;> rcases this with e | e <;> simp_all
theorem behind_blk {n : Nat} {r : Nat → Nat → Bool} {ms : List T} (h : In n r (.node true ms)) : Blk (nf n r) (isort (lvL ms)) ((byMn ms).map key) :=
  blk_node h (fun m hm => by
    obtain ⟨p, q, e⟩ := mem_split hm
    have im : In n r m := by subst e; exact h.mem
    have hi := (WfL_iff.mp h.wf.2 m hm).1
    match m, im, hi with
    | .leaf i, _, _ => rw [key_leaf]; exact conn_leaf
    | .node false ks, im, _ => exact conn_free im
    | .node true ks, _, hi => simp [T.is] at hi) fun i j hj => by
    have := (mem_nf.mp hj).2.2
    refine ⟨fun z => ?_, fun z => ?_⟩ <;> simp_all
/-- one piece alone -/
theorem one_blk {N : Nat → List Nat} {X : List Nat} (hX : X.Pairwise (· < ·)) (ne : X ≠ []) (c : Conn N X) : Blk N X [X] :=
  ⟨fun B hB => by rw [List.mem_singleton.mp hB]; exact c, fun B hB => by rw [List.mem_singleton.mp hB]; exact hX, fun B hB => by rw [List.mem_singleton.mp hB]; exact ne,
    fun B hB x _ o _ ho => by rw [List.mem_singleton.mp hB]; exact ho, by simp, by simp⟩
/-- how many things of s stand ahead of a member of it -/
theorem ahead_len {n : Nat} {r : Nat → Nat → Bool} {p q : List T} {m : T} (h : In n r (.node true (p ++ m :: q))) {x : Nat} (hx : x ∈ lvs m) :
    (((List.range n).filter fun i => r i x).filter fun i => (lvL (p ++ m :: q)).contains i && !(lvs m).contains i).length = (lvL p).length := by
  have sp := Sp.of (w := true) h.nd
  have nd := h.nd
  rw [show lvs (.node true (p ++ m :: q)) = lvL (p ++ m :: q) from rfl, lvL_split] at nd
  have hxL : x ∈ lvL (p ++ m :: q) := by rw [lvL_split]; simp [hx]
  apply List.Perm.length_eq
  refine (List.perm_ext_iff_of_nodup ((List.nodup_range.filter _).filter _) (List.nodup_append.mp nd).1).mpr fun i => ?_
  simp only [List.mem_filter, List.mem_range, Bool.and_eq_true, List.contains_iff_mem, Bool.not_eq_true']
  constructor
  · rintro ⟨⟨_, h1⟩, h2, h3⟩
    have h3 : i ∉ lvs m := fun z => by rw [List.contains_iff_mem.mpr z] at h3; cases h3
    rw [h.ag i h2 x hxL] at h1
    rw [lvL_split] at h2
    rcases List.mem_append.mp h2 with h2 | h2
    · exact h2
    · rcases List.mem_append.mp h2 with h2 | h2
      · exact absurd h2 h3
      · have h4 := (sp.after x hx i h2).2
        have h1 : relL true (p ++ m :: q) i x = true := h1
        rw [h4] at h1
        cases h1
  · intro h1
    have hiL : i ∈ lvL (p ++ m :: q) := by rw [lvL_split]; simp [h1]
    refine ⟨⟨h.lt i hiL, ?_⟩, hiL, Bool.eq_false_iff.mpr fun z => sp.dis.1 i (List.contains_iff_mem.mp z) h1⟩
    rw [h.ag i hiL x hxL]
    exact (sp.ahead x hx i h1).1
end Tm
set_option Elab.async false
set_option linter.all false
/-! Mt5: orders as lists of pairs. -/
namespace Tm
abbrev Pr := Nat × Nat
def ltP (a b : Pr) : Prop := a.1 < b.1 ∨ (a.1 = b.1 ∧ a.2 < b.2)
theorem ltP_irr {a : Pr} : ¬ ltP a a := fun h => by rcases h with h | ⟨_, h⟩ <;> omega
theorem ltP_asymm {a b : Pr} (h : ltP a b) (k : ltP b a) : False := by rcases h with h | ⟨h, h'⟩ <;> rcases k with k | ⟨k, k'⟩ <;> omega
def canon (n : Nat) (r : Nat → Nat → Bool) : List Pr := (List.range n).flatMap fun i => ((List.range n).filter (r i)).map fun j => (i, j)
theorem mem_canon {n : Nat} {r : Nat → Nat → Bool} {i j : Nat} : (i, j) ∈ canon n r ↔ i < n ∧ j < n ∧ r i j = true := by
  simp only [canon, List.mem_flatMap, List.mem_map, List.mem_filter, List.mem_range, Prod.mk.injEq]
  constructor
  · rintro ⟨a, ha, b, ⟨hb, hr⟩, rfl, rfl⟩
    exact ⟨ha, hb, hr⟩
  · rintro ⟨ha, hb, hr⟩
    exact ⟨i, ha, j, ⟨hb, hr⟩, rfl, rfl⟩
theorem flat_asc {g : Nat → List Nat} (hg : ∀ i, (g i).Pairwise (· < ·)) : ∀ {l : List Nat}, l.Pairwise (· < ·) → (l.flatMap fun i => (g i).map fun j => (i, j)).Pairwise ltP
  | [], _ => .nil
  | a :: l, h => by
    have h' := List.pairwise_cons.mp h
    rw [List.flatMap_cons, List.pairwise_append]
    refine ⟨List.pairwise_map.mpr ((hg a).imp fun h => .inr ⟨rfl, h⟩), flat_asc hg h'.2, fun x hx y hy => ?_⟩
    obtain ⟨b, _, rfl⟩ := List.mem_map.mp hx
    obtain ⟨c, hc, hy⟩ := List.mem_flatMap.mp hy
    obtain ⟨d, _, rfl⟩ := List.mem_map.mp hy
    exact .inl (h'.1 c hc)
theorem canon_asc (n : Nat) (r : Nat → Nat → Bool) : (canon n r).Pairwise ltP := flat_asc (fun i => List.pairwise_lt_range.filter _) List.pairwise_lt_range
theorem asc_nodup {l : List Pr} (h : l.Pairwise ltP) : l.Nodup := List.Pairwise.imp (S := fun a b => a ≠ b) (fun {a b} h (e : a = b) => by subst e; exact ltP_irr h) h
theorem perm_of {l m : List Pr} (h1 : l.Nodup) (h2 : m.Nodup) (h : ∀ i j, (i, j) ∈ l ↔ (i, j) ∈ m) : l.Perm m := (List.perm_ext_iff_of_nodup h1 h2).mpr fun ⟨i, j⟩ => h i j
theorem canon_congr {n : Nat} {r r' : Nat → Nat → Bool} (h : ∀ i j, i < n → j < n → r i j = r' i j) : canon n r = canon n r' :=
  List.Perm.eq_of_pairwise (le := ltP) (fun a b _ _ h1 h2 => (ltP_asymm h1 h2).elim) (canon_asc n r) (canon_asc n r') (perm_of (asc_nodup (canon_asc n r)) (asc_nodup (canon_asc n r')) fun i j => by
    rw [mem_canon, mem_canon]
    exact ⟨fun ⟨a, b, c⟩ => ⟨a, b, h i j a b ▸ c⟩, fun ⟨a, b, c⟩ => ⟨a, b, (h i j a b).symm ▸ c⟩⟩)

/-! ### the pairs of a term -/
mutual
def prs : T → List Pr
  | .leaf _ => []
  | .node w ms => prsL w [] ms
def prsL (w : Bool) (ahead : List Nat) : List T → List Pr
  | [] => []
  | m :: ms => prs m ++ (if w = true then ahead.flatMap fun a => (lvs m).map fun b => (a, b) else []) ++ prsL w (ahead ++ lvs m) ms
end
theorem mem_cross {xs ys : List Nat} {i j : Nat} : (i, j) ∈ (xs.flatMap fun a => ys.map fun b => (a, b)) ↔ i ∈ xs ∧ j ∈ ys := by
  simp only [List.mem_flatMap, List.mem_map, Prod.mk.injEq]
  exact ⟨fun ⟨a, ha, b, hb, e1, e2⟩ => ⟨e1 ▸ ha, e2 ▸ hb⟩, fun ⟨h1, h2⟩ => ⟨i, h1, j, h2, rfl, rfl⟩⟩
mutual
theorem mem_prs {i j : Nat} : ∀ {t : T}, (i, j) ∈ prs t ↔ rel t i j = true
  | .leaf _ => by simp [prs, rel]
  | .node w ms => by
    rw [prs, mem_prsL (ahead := [])]
    simp [rel]
theorem mem_prsL {w : Bool} {i j : Nat} : ∀ {ms : List T} {ahead : List Nat}, (i, j) ∈ prsL w ahead ms ↔ relL w ms i j = true ∨ (w = true ∧ i ∈ ahead ∧ j ∈ lvL ms)
  | [], ahead => by simp [prsL, relL, lvL]
  | m :: ms, ahead => by
    rw [prsL, List.mem_append, List.mem_append, mem_prs, mem_prsL]
    have e : relL w (m :: ms) i j = (rel m i j || relL w ms i j || (w && (lvs m).contains i && (lvL ms).contains j)) := rfl
    rw [e]
    simp only [Bool.or_eq_true, Bool.and_eq_true, List.contains_iff_mem, lvL, List.mem_append]
    cases w with
    | true =>
      rw [if_pos rfl, mem_cross]
      constructor
      · rintro ((h | ⟨h1, h2⟩) | (h | ⟨_, h1 | h1, h2⟩))
        · exact .inl (.inl (.inl h))
        · exact .inr ⟨rfl, h1, .inl h2⟩
        · exact .inl (.inl (.inr h))
        · exact .inr ⟨rfl, h1, .inr h2⟩
        · exact .inl (.inr ⟨⟨rfl, h1⟩, h2⟩)
      · rintro (((h | h) | ⟨⟨_, h1⟩, h2⟩) | ⟨_, h1, h2 | h2⟩)
        · exact .inl (.inl h)
        · exact .inr (.inl h)
        · exact .inr (.inr ⟨rfl, .inr h1, h2⟩)
        · exact .inl (.inr ⟨h1, h2⟩)
        · exact .inr (.inr ⟨rfl, .inl h1, h2⟩)
    | false =>
      simp
end
theorem cross_nodup {xs ys : List Nat} (hx : xs.Nodup) (hy : ys.Nodup) : (xs.flatMap fun a => ys.map fun b => (a, b)).Nodup := by
  induction xs with
  | nil => exact .nil
  | cons a xs ih =>
    have hx' := List.nodup_cons.mp hx
    rw [List.flatMap_cons]
    refine List.nodup_append.mpr ⟨List.pairwise_map.mpr (hy.imp fun h e => h (Prod.mk.inj e).2), ih hx'.2, fun p hp q hq e => ?_⟩
    obtain ⟨b, _, rfl⟩ := List.mem_map.mp hp
    subst e
    exact hx'.1 (mem_cross.mp hq).1
mutual
theorem prs_nodup : ∀ {t : T}, (lvs t).Nodup → (prs t).Nodup
  | .leaf _, _ => .nil
  | .node w ms, h => prsL_nodup (ahead := []) (by rw [List.nil_append]; exact h)
theorem prsL_nodup {w : Bool} : ∀ {ms : List T} {ahead : List Nat}, (ahead ++ lvL ms).Nodup → (prsL w ahead ms).Nodup
  | [], _, _ => .nil
  | m :: ms, ahead, h => by
    have h0 : (ahead ++ (lvs m ++ lvL ms)).Nodup := h
    have n1 := List.nodup_append.mp h0
    have n2 := List.nodup_append.mp n1.2.1
    rw [prsL]
    have n3 : ((ahead ++ lvs m) ++ lvL ms).Nodup := by rw [List.append_assoc]; exact h0
    have am : ∀ {x}, x ∈ ahead → x ∉ lvs m := fun h1 h2 => n1.2.2 _ h1 _ (List.mem_append_left _ h2) rfl
    have al : ∀ {x}, x ∈ ahead → x ∉ lvL ms := fun h1 h2 => n1.2.2 _ h1 _ (List.mem_append_right _ h2) rfl
    have ml : ∀ {x}, x ∈ lvs m → x ∉ lvL ms := fun h1 h2 => n2.2.2 _ h1 _ h2 rfl
    refine List.nodup_append.mpr ⟨List.nodup_append.mpr ⟨prs_nodup n2.1, ?_, ?_⟩, prsL_nodup n3, ?_⟩
    · split
      · exact cross_nodup n1.1 n2.1
      · exact .nil
    · rintro ⟨i, j⟩ h1 ⟨a, b⟩ h2 e
      obtain ⟨rfl, rfl⟩ := Prod.mk.inj e
      have h1 := rel_mem (mem_prs.mp h1)
      split at h2
      · exact am (mem_cross.mp h2).1 h1.1
      · cases h2
    · rintro ⟨i, j⟩ h1 ⟨a, b⟩ h2 e
      obtain ⟨rfl, rfl⟩ := Prod.mk.inj e
      have h2 : j ∈ lvL ms := by
        rcases mem_prsL.mp h2 with h | ⟨_, _, h⟩
        · exact (relL_mem h).2
        · exact h
      rcases List.mem_append.mp h1 with h1 | h1
      · exact ml (rel_mem (mem_prs.mp h1)).2 h2
      · split at h1
        · exact ml (mem_cross.mp h1).2 h2
        · cases h1
end
/-- a term of the things below n -/
structure Good (n : Nat) (t : T) : Prop where
  wf : Wf t
  pm : (lvs t).Perm (List.range n)
theorem Good.nd {n : Nat} {t : T} (g : Good n t) : (lvs t).Nodup := g.pm.nodup_iff.mpr List.nodup_range
theorem Good.mem {n : Nat} {t : T} (g : Good n t) {i : Nat} : i ∈ lvs t ↔ i < n := by rw [g.pm.mem_iff, List.mem_range]
theorem Good.In {n : Nat} {t : T} (g : Good n t) {r : Nat → Nat → Bool} (h : ∀ i j, i < n → j < n → r i j = rel t i j) : In n r t :=
  ⟨g.wf, g.nd, fun x hx => g.mem.mp hx, fun i hi j hj => h i j (g.mem.mp hi) (g.mem.mp hj)⟩
theorem prs_perm {n : Nat} {t : T} (g : Good n t) : (prs t).Perm (canon n (rel t)) :=
  perm_of (prs_nodup g.nd) (asc_nodup (canon_asc _ _)) fun i j => by
    rw [mem_prs, mem_canon]
    exact ⟨fun h => ⟨g.mem.mp (rel_mem h).1, g.mem.mp (rel_mem h).2, h⟩, fun h => h.2.2⟩
theorem Good.plain {n : Nat} {t : T} (g : Good n t) : Good n (plain t) := ⟨wf_plain t g.wf, (lv_plain t).trans g.pm⟩
theorem Good.turn {n : Nat} {t : T} (g : Good n t) : Good n (turn t) := ⟨wf_turn t g.wf, (lv_turn t).trans g.pm⟩

/-! ### among some things, numbered anew -/
def idx (X : List Nat) (i : Nat) : Option Nat := if i ∈ X then some (X.idxOf i) else none
theorem idx_some {X : List Nat} {i k : Nat} (h : idx X i = some k) : i ∈ X ∧ X[k]? = some i ∧ k < X.length := by
  unfold idx at h
  split at h
  · rename_i hi
    cases h
    have hl := List.idxOf_lt_length_of_mem hi
    refine ⟨hi, ?_, hl⟩
    rw [List.getElem?_eq_getElem hl, List.getElem_idxOf hl]
  · cases h
theorem idx_at {X : List Nat} (nd : X.Nodup) {k i : Nat} (h : X[k]? = some i) : idx X i = some k := by
  have hi : i ∈ X := List.mem_of_getElem? h
  have e := idx_some (show idx X i = some (X.idxOf i) by simp [idx, hi])
  unfold idx
  rw [if_pos hi]
  obtain ⟨hk, e1⟩ := List.getElem?_eq_some_iff.mp h
  obtain ⟨hk2, e2⟩ := List.getElem?_eq_some_iff.mp e.2.1
  congr 1
  exact (List.getElem_inj nd).mp (e2.trans e1.symm)
theorem idx_inj {X : List Nat} (l : List Nat) : Inj (idx X) l := fun i _ j _ k h1 h2 => by
  have a := (idx_some h1).2.1
  have b := (idx_some h2).2.1
  rw [a] at b
  exact Option.some.inj b
def sub (X : List Nat) (r : Nat → Nat → Bool) (a b : Nat) : Bool := match X[a]?, X[b]? with
  | some i, some j => r i j
  | _, _ => false
def kept (X : List Nat) (p : Pr) : Option Pr := match idx X p.1, idx X p.2 with
  | some a, some b => some (a, b)
  | _, _ => none
theorem kept_some {X : List Nat} {p q : Pr} (h : kept X p = some q) : idx X p.1 = some q.1 ∧ idx X p.2 = some q.2 := by
  unfold kept at h
  split at h
  · rename_i a b h1 h2
    cases h
    exact ⟨h1, h2⟩
  · cases h
theorem kept_nodup {X : List Nat} : ∀ {l : List Pr}, l.Nodup → (l.filterMap (kept X)).Nodup
  | [], _ => .nil
  | p :: l, h => by
    have h' := List.nodup_cons.mp h
    cases e : kept X p with
    | none => rw [List.filterMap_cons_none e]; exact kept_nodup h'.2
    | some q =>
      rw [List.filterMap_cons_some e]
      refine List.nodup_cons.mpr ⟨fun hq => ?_, kept_nodup h'.2⟩
      obtain ⟨p', hp', e'⟩ := List.mem_filterMap.mp hq
      have h1 := kept_some e
      have h2 := kept_some e'
      have e1 := idx_inj (X := X) [p.1, p'.1] p.1 (by simp) p'.1 (by simp) _ h1.1 h2.1
      have e2 := idx_inj (X := X) [p.2, p'.2] p.2 (by simp) p'.2 (by simp) _ h1.2 h2.2
      have : p = p' := Prod.ext e1 e2
      exact h'.1 (this ▸ hp')
theorem kept_perm {n : Nat} {r : Nat → Nat → Bool} {X : List Nat} (nd : X.Nodup) (hX : ∀ x ∈ X, x < n) : ((canon n r).filterMap (kept X)).Perm (canon X.length (sub X r)) :=
  perm_of (kept_nodup (asc_nodup (canon_asc _ _))) (asc_nodup (canon_asc _ _)) fun a b => by
    rw [mem_canon, List.mem_filterMap]
    constructor
    · rintro ⟨⟨i, j⟩, hp, e⟩
      have h := kept_some e
      have h1 := idx_some h.1
      have h2 := idx_some h.2
      refine ⟨h1.2.2, h2.2.2, ?_⟩
      unfold sub
      rw [h1.2.1, h2.2.1]
      exact (mem_canon.mp hp).2.2
    · rintro ⟨ha, hb, h⟩
      have e1 : X[a]? = some X[a] := List.getElem?_eq_getElem ha
      have e2 : X[b]? = some X[b] := List.getElem?_eq_getElem hb
      unfold sub at h
      rw [e1, e2] at h
      refine ⟨(X[a], X[b]), mem_canon.mpr ⟨hX _ (List.getElem_mem _), hX _ (List.getElem_mem _), h⟩, ?_⟩
      unfold kept
      rw [idx_at nd e1, idx_at nd e2]
theorem turned_perm {n : Nat} {r : Nat → Nat → Bool} : ((canon n r).map fun p => (p.2, p.1)).Perm (canon n fun i j => r j i) :=
  perm_of (List.pairwise_map.mpr ((asc_nodup (canon_asc n r)).imp fun h e => h (Prod.ext (Prod.mk.inj e).2 (Prod.mk.inj e).1))) (asc_nodup (canon_asc _ _)) fun i j => by
    rw [mem_canon, List.mem_map]
    constructor
    · rintro ⟨⟨a, b⟩, h, e⟩
      obtain ⟨rfl, rfl⟩ := Prod.mk.inj e
      have := mem_canon.mp h
      exact ⟨this.2.1, this.1, this.2.2⟩
    · rintro ⟨h1, h2, h3⟩
      exact ⟨(j, i), mem_canon.mpr ⟨h2, h1, h3⟩, rfl⟩

/-! ### struck terms -/
theorem fm_idx {n : Nat} {l X : List Nat} (p : l.Perm (List.range n)) (nd : X.Nodup) (hX : ∀ x ∈ X, x < n) : (l.filterMap (idx X)).Perm (List.range X.length) := by
  have lnd : l.Nodup := p.nodup_iff.mpr List.nodup_range
  refine (List.perm_ext_iff_of_nodup ?_ List.nodup_range).mpr fun k => ?_
  · have : ∀ {l : List Nat}, l.Nodup → (l.filterMap (idx X)).Nodup := fun {l} h => by
      induction l with
      | nil => exact .nil
      | cons a l ih =>
        have h' := List.nodup_cons.mp h
        cases e : idx X a with
        | none => rw [List.filterMap_cons_none e]; exact ih h'.2
        | some k =>
          rw [List.filterMap_cons_some e]
          refine List.nodup_cons.mpr ⟨fun hk => ?_, ih h'.2⟩
          obtain ⟨b, hb, e'⟩ := List.mem_filterMap.mp hk
          have := idx_inj (X := X) [a, b] a (by simp) b (by simp) _ e e'
          exact h'.1 (this ▸ hb)
    exact this lnd
  · rw [List.mem_filterMap, List.mem_range]
    constructor
    · rintro ⟨i, _, e⟩
      exact (idx_some e).2.2
    · intro hk
      have e : X[k]? = some X[k] := List.getElem?_eq_getElem hk
      exact ⟨X[k], p.mem_iff.mpr (List.mem_range.mpr (hX _ (List.getElem_mem _))), idx_at nd e⟩
theorem struck_good {n : Nat} {t : T} (g : Good n t) {X : List Nat} (nd : X.Nodup) (hX : ∀ x ∈ X, x < n) (ne : X ≠ []) : ∃ s, strike (idx X) t = some s ∧ Good X.length s ∧ ∀ a b, a < X.length → b < X.length → rel s a b = sub X (rel t) a b := by
  have hl := lv_strike (idx X) t
  have hp := fm_idx g.pm nd hX
  cases e : strike (idx X) t with
  | none =>
    rw [e] at hl
    rw [← hl] at hp
    have := hp.length_eq
    simp [lvO] at this
    exact absurd this.symm (by simpa using ne)
  | some s =>
    rw [e] at hl
    have hl : lvs s = _ := hl
    refine ⟨s, rfl, ⟨wf_strike _ t g.wf s e, by rw [hl]; exact hp⟩, fun a b ha hb => ?_⟩
    have e1 : X[a]? = some X[a] := List.getElem?_eq_getElem ha
    have e2 : X[b]? = some X[b] := List.getElem?_eq_getElem hb
    have := rel_strike (idx X) t g.nd (idx_inj _) X[a] (g.mem.mpr (hX _ (List.getElem_mem _))) X[b] (g.mem.mpr (hX _ (List.getElem_mem _))) a b (idx_at nd e1) (idx_at nd e2)
    rw [e] at this
    unfold sub
    rw [e1, e2]
    exact this
end Tm
set_option Elab.async false
set_option linter.all false
/-! Mt6: lines of a term. -/
namespace Tm
def C : Nat → Nat → Nat
  | _, 0 => 1
  | 0, _ + 1 => 0
  | n + 1, k + 1 => C n k + C n (k + 1)
def fac : Nat → Nat
  | 0 => 1
  | n + 1 => (n + 1) * fac n
theorem fac_pos : ∀ n, 0 < fac n
  | 0 => Nat.one_pos
  | n + 1 => Nat.mul_pos (Nat.succ_pos n) (fac_pos n)
theorem C_zero (n : Nat) : C n 0 = 1 := by cases n <;> rfl
theorem C_gt : ∀ n k, n < k → C n k = 0
  | _, 0, h => absurd h (Nat.not_lt_zero _)
  | 0, _ + 1, _ => rfl
  | n + 1, k + 1, h => by
    show C n k + C n (k + 1) = 0
    rw [C_gt n k (by omega), C_gt n (k + 1) (by omega)]
theorem C_self : ∀ n, C n n = 1
  | 0 => rfl
  | n + 1 => by
    show C n n + C n (n + 1) = 1
    rw [C_self n, C_gt n (n + 1) (by omega)]
/-- (n - k) times and by k + 1 -/
theorem C_next : ∀ n k, C n (k + 1) * (k + 1) = C n k * (n - k)
  | 0, k => by
    show 0 * (k + 1) = C 0 k * (0 - k)
    rw [Nat.zero_sub, Nat.mul_zero, Nat.zero_mul]
  | n + 1, 0 => by
    show (C n 0 + C n 1) * 1 = 1 * (n + 1)
    have := C_next n 0
    rw [C_zero] at this ⊢
    simp at this
    omega
  | n + 1, k + 1 => by
    show (C n (k + 1) + C n (k + 2)) * (k + 2) = (C n k + C n (k + 1)) * (n + 1 - (k + 1))
    have h1 := C_next n k
    have h2 := C_next n (k + 1)
    rw [Nat.add_sub_add_right, Nat.add_mul, Nat.add_mul, h2, ← h1]
    by_cases hk : k + 1 ≤ n
    · have e : n - k = (n - (k + 1)) + 1 := by omega
      rw [h1, e, Nat.mul_add, Nat.mul_add]
      have h1' : C n (k + 1) * (k + 1) = C n k * (n - (k + 1)) + C n k := by rw [h1, e, Nat.mul_add, Nat.mul_one]
      rw [Nat.mul_add, Nat.mul_one] at h1'
      simp only [Nat.mul_add, Nat.mul_one] at *
      omega
    · have e1 : C n (k + 1) = 0 := C_gt n (k + 1) (by omega)
      rw [h1, e1]
      have : n - (k + 1) = 0 := by omega
      rw [this]
      simp
      have z : n - k = 0 := by omega
      rw [z, Nat.mul_zero]
def DD (a b : Nat) : Nat := C (a + b) b
theorem DD_zero (a : Nat) : DD a 0 = 1 := C_zero _
theorem DD_zero' (b : Nat) : DD 0 b = 1 := by unfold DD; rw [Nat.zero_add, C_self]
theorem DD_succ (a b : Nat) : DD (a + 1) (b + 1) = DD (a + 1) b + DD a (b + 1) := by
  unfold DD
  rw [show a + 1 + (b + 1) = (a + 1 + b) + 1 by omega]
  show C (a + 1 + b) b + C (a + 1 + b) (b + 1) = _
  rw [show a + 1 + b = a + (b + 1) by omega]
theorem DD_fac : ∀ a b, DD a b * (fac a * fac b) = fac (a + b)
  | 0, b => by rw [DD_zero', Nat.zero_add]; show 1 * (1 * fac b) = _; omega
  | a + 1, 0 => by rw [DD_zero]; show 1 * (fac (a + 1) * 1) = _; rw [Nat.add_zero]; omega
  | a + 1, b + 1 => by
    have h1 := DD_fac (a + 1) b
    have h2 := DD_fac a (b + 1)
    have e : a + 1 + (b + 1) = (a + b + 1) + 1 := by omega
    rw [DD_succ, Nat.add_mul, e]
    show _ = (a + b + 1 + 1) * fac (a + b + 1)
    have k1 : DD (a + 1) b * (fac (a + 1) * fac (b + 1)) = (b + 1) * fac (a + b + 1) := by
      rw [show a + b + 1 = a + 1 + b by omega, ← h1]
      show DD (a + 1) b * (fac (a + 1) * ((b + 1) * fac b)) = _
      rw [Nat.mul_left_comm (fac (a + 1)), Nat.mul_left_comm (DD (a + 1) b)]
    have k2 : DD a (b + 1) * (fac (a + 1) * fac (b + 1)) = (a + 1) * fac (a + b + 1) := by
      rw [show a + b + 1 = a + (b + 1) by omega, ← h2]
      show DD a (b + 1) * ((a + 1) * fac a * fac (b + 1)) = _
      rw [Nat.mul_assoc (a + 1), Nat.mul_left_comm (DD a (b + 1))]
    rw [k1, k2, ← Nat.add_mul]
    congr 1
    omega
theorem DD_step1 (a : Nat) : ∀ b, DD a b ≤ DD (a + 1) b
  | 0 => by rw [DD_zero, DD_zero]; exact Nat.le_refl _
  | b + 1 => by rw [DD_succ]; exact Nat.le_add_left _ _
theorem DD_step2 : ∀ a b, DD a b ≤ DD a (b + 1)
  | 0, b => by rw [DD_zero', DD_zero']; exact Nat.le_refl _
  | a + 1, b => by rw [DD_succ]; exact Nat.le_add_right _ _
theorem DD_mono {a a' b b' : Nat} (h : a' ≤ a) (k : b' ≤ b) : DD a' b' ≤ DD a b := by
  have h1 : ∀ d, DD a' b' ≤ DD (a' + d) b' := fun d => by
    induction d with
    | zero => exact Nat.le_refl _
    | succ d ih => exact Nat.le_trans ih (DD_step1 _ _)
  have h2 : ∀ d, DD a b' ≤ DD a (b' + d) := fun d => by
    induction d with
    | zero => exact Nat.le_refl _
    | succ d ih => exact Nat.le_trans ih (DD_step2 _ _)
  have e1 := h1 (a - a')
  have e2 := h2 (b - b')
  rw [Nat.add_sub_cancel' h] at e1
  rw [Nat.add_sub_cancel' k] at e2
  exact Nat.le_trans e1 e2
def sz (t : T) : Nat := (lvs t).length
def szL (ms : List T) : Nat := (lvL ms).length
theorem szL_cons (m : T) (ms : List T) : szL (m :: ms) = sz m + szL ms := List.length_append
theorem szL_app (xs ys : List T) : szL (xs ++ ys) = szL xs + szL ys := by unfold szL; rw [lvL_app, List.length_append]
mutual
def ln : T → Nat
  | .leaf _ => 1
  | .node w ms => lnL w 0 ms
def lnL (w : Bool) (b : Nat) : List T → Nat
  | [] => 1
  | m :: ms => ln m * (if w = true then 1 else DD b (sz m)) * lnL w (b + sz m) ms
end
theorem lnL_app (w : Bool) : ∀ (xs ys : List T) (b : Nat), lnL w b (xs ++ ys) = lnL w b xs * lnL w (b + szL xs) ys
  | [], ys, b => by simp [lnL, szL, lvL]
  | x :: xs, ys, b => by
    show ln x * _ * lnL w (b + sz x) (xs ++ ys) = ln x * _ * lnL w (b + sz x) xs * _
    rw [lnL_app w xs ys, szL_cons, Nat.add_assoc, Nat.mul_assoc (ln x * _)]
def pln (xs : List T) : Nat := (xs.map ln).foldr (· * ·) 1
def pfac (xs : List T) : Nat := (xs.map fun x => fac (sz x)).foldr (· * ·) 1
theorem pfac_pos : ∀ xs, 0 < pfac xs
  | [] => Nat.one_pos
  | x :: xs => Nat.mul_pos (fac_pos _) (pfac_pos xs)
theorem lnL_true : ∀ (xs : List T) (b : Nat), lnL true b xs = pln xs
  | [], _ => rfl
  | x :: xs, b => by
    show ln x * (if true = true then 1 else _) * lnL true (b + sz x) xs = ln x * pln xs
    rw [if_pos rfl, lnL_true xs, Nat.mul_one]
theorem lnL_false : ∀ (xs : List T) (b : Nat), lnL false b xs * (fac b * pfac xs) = pln xs * fac (b + szL xs)
  | [], b => by
    show 1 * (fac b * 1) = 1 * fac (b + 0)
    rw [Nat.mul_one, Nat.add_zero]
  | x :: xs, b => by
    have ih := lnL_false xs (b + sz x)
    show ln x * (if false = true then 1 else DD b (sz x)) * lnL false (b + sz x) xs * (fac b * (fac (sz x) * pfac xs)) = ln x * pln xs * fac (b + szL (x :: xs))
    rw [if_neg Bool.false_ne_true, szL_cons, ← Nat.add_assoc, Nat.mul_assoc (ln x) (pln xs), ← ih, ← DD_fac b (sz x)]
    simp only [Nat.mul_assoc, Nat.mul_comm, Nat.mul_left_comm]
theorem pln_perm {xs ys : List T} (p : xs.Perm ys) : pln xs = pln ys := by
  unfold pln
  exact (p.map ln).foldr_eq' (fun a _ b _ c => Nat.mul_left_comm b a c) 1
theorem pfac_perm {xs ys : List T} (p : xs.Perm ys) : pfac xs = pfac ys := by
  unfold pfac
  exact (p.map _).foldr_eq' (fun a _ b _ c => Nat.mul_left_comm b a c) 1
theorem szL_perm {xs ys : List T} (p : xs.Perm ys) : szL xs = szL ys := (lvL_perm p).length_eq
theorem lnL_perm {w : Bool} {xs ys : List T} (p : xs.Perm ys) (b : Nat) : lnL w b xs = lnL w b ys := by
  cases w with
  | true => rw [lnL_true, lnL_true, pln_perm p]
  | false =>
    have h1 := lnL_false xs b
    have h2 := lnL_false ys b
    rw [pln_perm p, pfac_perm p, szL_perm p, ← h2] at h1
    exact Nat.eq_of_mul_eq_mul_right (Nat.mul_pos (fac_pos b) (pfac_pos ys)) h1
theorem lnL_shift (xs : List T) (b : Nat) : lnL false b xs = lnL false 0 xs * DD b (szL xs) := by
  have h1 := lnL_false xs b
  have h2 := lnL_false xs 0
  have h3 := DD_fac b (szL xs)
  rw [Nat.zero_add] at h2
  refine Nat.eq_of_mul_eq_mul_right (Nat.mul_pos (fac_pos b) (pfac_pos xs)) ?_
  rw [h1, ← h3]
  have h2' : lnL false 0 xs * pfac xs = pln xs * fac (szL xs) := by rw [← h2]; show _ = _ * (1 * pfac xs); rw [Nat.one_mul]
  calc pln xs * (DD b (szL xs) * (fac b * fac (szL xs))) = (pln xs * fac (szL xs)) * (DD b (szL xs) * fac b) := by simp only [Nat.mul_assoc, Nat.mul_comm, Nat.mul_left_comm]
    _ = lnL false 0 xs * DD b (szL xs) * (fac b * pfac xs) := by rw [← h2']; simp only [Nat.mul_assoc, Nat.mul_comm, Nat.mul_left_comm]
/-! ### struck -/
def sz' (f : Nat → Option Nat) (t : T) : Nat := ((lvs t).filterMap f).length
mutual
def ln' (f : Nat → Option Nat) : T → Nat
  | .leaf _ => 1
  | .node w ms => lnL' f w 0 ms
def lnL' (f : Nat → Option Nat) (w : Bool) (b : Nat) : List T → Nat
  | [] => 1
  | m :: ms => ln' f m * (if w = true then 1 else DD b (sz' f m)) * lnL' f w (b + sz' f m) ms
end
theorem sz'_le (f : Nat → Option Nat) (t : T) : sz' f t ≤ sz t := List.length_filterMap_le _ _
mutual
theorem ln'_le (f : Nat → Option Nat) : ∀ t, ln' f t ≤ ln t
  | .leaf _ => Nat.le_refl _
  | .node w ms => lnL'_le f w ms (Nat.le_refl _)
theorem lnL'_le (f : Nat → Option Nat) (w : Bool) : ∀ (ms : List T) {b' b : Nat}, b' ≤ b → lnL' f w b' ms ≤ lnL w b ms
  | [], _, _, _ => Nat.le_refl _
  | m :: ms, b', b, h => by
    refine Nat.mul_le_mul (Nat.mul_le_mul (ln'_le f m) ?_) (lnL'_le f w ms (Nat.add_le_add h (sz'_le f m)))
    split
    · exact Nat.le_refl _
    · exact DD_mono h (sz'_le f m)
end
def lnO : Option T → Nat
  | none => 1
  | some t => ln t
theorem lnL_put (w : Bool) (o : Option T) (b : Nat) : lnL w b (put w o) = lnO o * (if w = true then 1 else DD b (lvO o).length) := by
  match o with
  | none => cases w <;> simp [put, lnL, lnO, lvO, DD_zero]
  | some (.leaf i) => simp [put, T.is, lnL, lnO, lvO, sz]
  | some (.node v ms) =>
    rw [put_node]
    by_cases e : (T.node v ms).is w = true
    · rw [if_pos e]
      have ev : v = w := by simpa [T.is] using e
      subst ev
      cases v with
      | true => rw [if_pos rfl, lnL_true, Nat.mul_one]; show _ = lnL true 0 ms; rw [lnL_true]
      | false => rw [if_neg Bool.false_ne_true, lnL_shift]; rfl
    · rw [if_neg e]
      simp [lnL, lnO, lvO, sz]
theorem lnO_mk (w : Bool) : ∀ ms : List T, lnO (mk w ms) = lnL w 0 ms
  | [] => rfl
  | [x] => by cases w <;> simp [mk, lnO, lnL, DD_zero']
  | x :: y :: r => rfl
theorem len_lvO (f : Nat → Option Nat) (t : T) : (lvO (strike f t)).length = sz' f t := by rw [lv_strike]; rfl
mutual
theorem ln_strike (f : Nat → Option Nat) : ∀ t, lnO (strike f t) = ln' f t
  | .leaf i => by
    cases h : f i <;> simp [strike, h, lnO, ln', ln]
  | .node w ms => by rw [strike, lnO_mk, lnL_strike f w ms]; rfl
theorem lnL_strike (f : Nat → Option Nat) (w : Bool) : ∀ (ms : List T) (b : Nat), lnL w b (strikeL f w ms) = lnL' f w b ms
  | [], _ => rfl
  | m :: ms, b => by
    rw [strikeL, lnL_app, lnL_put, ln_strike f m, len_lvO]
    have e : szL (put w (strike f m)) = sz' f m := by unfold szL; rw [lv_put, len_lvO]
    rw [e, lnL_strike f w ms]
    rfl
end
mutual
theorem ln_plain : ∀ t, ln (plain t) = ln t
  | .leaf _ => rfl
  | .node true ms => lnL_plain true ms 0
  | .node false ms => (lnL_perm (List.mergeSort_perm _ _) 0).trans (lnL_plain false ms 0)
theorem lnL_plain (w : Bool) : ∀ (ms : List T) (b : Nat), lnL w b (plainL ms) = lnL w b ms
  | [], _ => rfl
  | m :: ms, b => by
    have e : sz (plain m) = sz m := (lv_plain m).length_eq
    show ln (plain m) * (if w = true then 1 else DD b (sz (plain m))) * lnL w (b + sz (plain m)) (plainL ms) = ln m * _ * _
    rw [ln_plain m, e, lnL_plain w ms]
end
theorem ln_part {f : Nat → Option Nat} {t s : T} (h : strike f t = some s) : ln (plain s) ≤ ln t := by
  have := ln_strike f t
  rw [h] at this
  rw [ln_plain]
  have this : ln s = _ := this
  rw [this]
  exact ln'_le f t
end Tm
set_option Elab.async false
set_option linter.all false
/-! Mt7: lots and greatest parts of a term. -/
namespace Tm
/-! ### lots -/
mutual
def lt : T → Nat
  | .leaf _ => 2
  | .node w ms => ltL w ms
/-- behind: one and what each adds; beside: the product -/
def ltL (w : Bool) : List T → Nat
  | [] => 1
  | m :: ms => if w = true then (lt m - 1) + ltL w ms else lt m * ltL w ms
end
mutual
theorem lt_pos : ∀ t, 1 ≤ lt t
  | .leaf _ => by show 1 ≤ 2; omega
  | .node w ms => ltL_pos w ms
theorem ltL_pos (w : Bool) : ∀ ms, 1 ≤ ltL w ms
  | [] => Nat.le_refl _
  | m :: ms => by
    unfold ltL
    split
    · have := ltL_pos w ms; omega
    · exact Nat.mul_pos (lt_pos m) (ltL_pos w ms)
end
theorem ltL_app (w : Bool) : ∀ xs ys : List T, ltL w (xs ++ ys) = if w = true then (ltL w xs - 1) + ltL w ys else ltL w xs * ltL w ys
  | [], ys => by cases w <;> simp [ltL]
  | x :: xs, ys => by
    have h := ltL_app w xs ys
    have p := ltL_pos w xs
    cases w with
    | true =>
      rw [if_pos rfl] at h ⊢
      show (if true = true then (lt x - 1) + ltL true (xs ++ ys) else _) = ((if true = true then (lt x - 1) + ltL true xs else _) - 1) + ltL true ys
      rw [if_pos rfl, if_pos rfl, h]
      omega
    | false =>
      rw [if_neg Bool.false_ne_true] at h ⊢
      show (if false = true then _ else lt x * ltL false (xs ++ ys)) = (if false = true then _ else lt x * ltL false xs) * ltL false ys
      rw [if_neg Bool.false_ne_true, if_neg Bool.false_ne_true, h, Nat.mul_assoc]
theorem ltL_perm {w : Bool} {xs ys : List T} (p : xs.Perm ys) : ltL w xs = ltL w ys := by
  induction p with
  | nil => rfl
  | cons x _ ih => unfold ltL; rw [ih]
  | swap x y l =>
    unfold ltL ltL
    cases w with
    | true => simp only [if_true]; omega
    | false => simp only [Bool.false_eq_true, if_false]; rw [Nat.mul_left_comm]
  | trans _ _ h1 h2 => exact h1.trans h2
mutual
def lt' (f : Nat → Option Nat) : T → Nat
  | .leaf i => if (f i).isSome = true then 2 else 1
  | .node w ms => ltL' f w ms
def ltL' (f : Nat → Option Nat) (w : Bool) : List T → Nat
  | [] => 1
  | m :: ms => if w = true then (lt' f m - 1) + ltL' f w ms else lt' f m * ltL' f w ms
end
mutual
theorem lt'_le (f : Nat → Option Nat) : ∀ t, lt' f t ≤ lt t
  | .leaf i => by
    unfold lt' lt
    split <;> omega
  | .node w ms => ltL'_le f w ms
theorem ltL'_le (f : Nat → Option Nat) (w : Bool) : ∀ ms, ltL' f w ms ≤ ltL w ms
  | [] => Nat.le_refl _
  | m :: ms => by
    have h1 := lt'_le f m
    have h2 := ltL'_le f w ms
    unfold ltL' ltL
    split
    · omega
    · exact Nat.mul_le_mul h1 h2
end
def ltO : Option T → Nat
  | none => 1
  | some t => lt t
theorem ltL_put (w : Bool) (o : Option T) : ltL w (put w o) = ltO o := by
  have one : ∀ t, ltL w [t] = lt t := fun t => by
    have := lt_pos t
    cases w with
    | true => show (if true = true then (lt t - 1) + 1 else _) = _; rw [if_pos rfl]; omega
    | false => show (if false = true then _ else lt t * 1) = _; rw [if_neg Bool.false_ne_true, Nat.mul_one]
  match o with
  | none => rfl
  | some (.leaf i) => exact one _
  | some (.node v ms) =>
    rw [put_node]
    by_cases e : (T.node v ms).is w = true
    · rw [if_pos e]
      have ev : v = w := by simpa [T.is] using e
      subst ev
      rfl
    · rw [if_neg e]
      exact one _
theorem ltO_mk (w : Bool) : ∀ ms : List T, ltO (mk w ms) = ltL w ms
  | [] => rfl
  | [x] => by
    have := lt_pos x
    cases w with
    | true => show lt x = (if true = true then (lt x - 1) + 1 else _); rw [if_pos rfl]; omega
    | false => show lt x = (if false = true then _ else lt x * 1); rw [if_neg Bool.false_ne_true, Nat.mul_one]
  | x :: y :: r => rfl
mutual
theorem lt_strike (f : Nat → Option Nat) : ∀ t, ltO (strike f t) = lt' f t
  | .leaf i => by
    cases h : f i <;> simp [strike, h, ltO, lt', lt]
  | .node w ms => by rw [strike, ltO_mk, ltL_strike f w ms]; rfl
theorem ltL_strike (f : Nat → Option Nat) (w : Bool) : ∀ ms : List T, ltL w (strikeL f w ms) = ltL' f w ms
  | [] => rfl
  | m :: ms => by
    rw [strikeL, ltL_app, ltL_put, lt_strike f m, ltL_strike f w ms]
    rfl
end
mutual
theorem lt_plain : ∀ t, lt (plain t) = lt t
  | .leaf _ => rfl
  | .node true ms => ltL_plain true ms
  | .node false ms => (ltL_perm (List.mergeSort_perm _ _)).trans (ltL_plain false ms)
theorem ltL_plain (w : Bool) : ∀ ms : List T, ltL w (plainL ms) = ltL w ms
  | [] => rfl
  | m :: ms => by
    unfold plainL ltL
    rw [lt_plain m, ltL_plain w ms]
end
theorem lt_part {f : Nat → Option Nat} {t s : T} (h : strike f t = some s) : lt (plain s) ≤ lt t := by
  have := lt_strike f t
  rw [h] at this
  rw [lt_plain]
  have this : lt s = _ := this
  rw [this]
  exact lt'_le f t

/-! ### greatest parts -/
mutual
def ex (v : Bool) : T → Nat
  | .leaf _ => 1
  | .node w ms => exL v w ms
def exL (v w : Bool) : List T → Nat
  | [] => 0
  | m :: ms => if w = v then ex v m + exL v w ms else max (ex v m) (exL v w ms)
end
theorem exL_app (v w : Bool) : ∀ xs ys : List T, exL v w (xs ++ ys) = if w = v then exL v w xs + exL v w ys else max (exL v w xs) (exL v w ys)
  | [], ys => by split <;> simp [exL]
  | x :: xs, ys => by
    have h := exL_app v w xs ys
    show (if w = v then ex v x + exL v w (xs ++ ys) else max (ex v x) (exL v w (xs ++ ys))) = if w = v then (if w = v then ex v x + exL v w xs else max (ex v x) (exL v w xs)) + exL v w ys else max (if w = v then ex v x + exL v w xs else max (ex v x) (exL v w xs)) (exL v w ys)
    by_cases e : w = v
    · simp only [if_pos e] at h ⊢
      omega
    · simp only [if_neg e] at h ⊢
      omega
theorem exL_perm {v w : Bool} {xs ys : List T} (p : xs.Perm ys) : exL v w xs = exL v w ys := by
  induction p with
  | nil => rfl
  | cons x _ ih => unfold exL; rw [ih]
  | swap x y l =>
    unfold exL exL
    split <;> omega
  | trans _ _ h1 h2 => exact h1.trans h2
mutual
def ex' (f : Nat → Option Nat) (v : Bool) : T → Nat
  | .leaf i => if (f i).isSome = true then 1 else 0
  | .node w ms => exL' f v w ms
def exL' (f : Nat → Option Nat) (v w : Bool) : List T → Nat
  | [] => 0
  | m :: ms => if w = v then ex' f v m + exL' f v w ms else max (ex' f v m) (exL' f v w ms)
end
mutual
/-- what is struck takes no more than its things -/
theorem ex'_le (f : Nat → Option Nat) (v : Bool) : ∀ t, ex' f v t ≤ ex v t ∧ ex v t + sz' f t ≤ ex' f v t + sz t
  | .leaf i => by
    unfold ex' ex sz' sz lvs
    cases h : f i <;> simp [h]
  | .node w ms => exL'_le f v w ms
theorem exL'_le (f : Nat → Option Nat) (v w : Bool) : ∀ ms, exL' f v w ms ≤ exL v w ms ∧ exL v w ms + ((lvL ms).filterMap f).length ≤ exL' f v w ms + (lvL ms).length
  | [] => by simp [exL', exL, lvL]
  | m :: ms => by
    have h1 := ex'_le f v m
    have h2 := exL'_le f v w ms
    have e1 : ((lvL (m :: ms)).filterMap f).length = sz' f m + ((lvL ms).filterMap f).length := by
      rw [lvL, List.filterMap_append, List.length_append]; rfl
    have e2 : (lvL (m :: ms)).length = sz m + (lvL ms).length := by
      rw [lvL, List.length_append]; rfl
    have e3 := sz'_le f m
    have e4 : ((lvL ms).filterMap f).length ≤ (lvL ms).length := List.length_filterMap_le _ _
    rw [e1, e2]
    unfold exL' exL
    split <;> omega
end
def exO (v : Bool) : Option T → Nat
  | none => 0
  | some t => ex v t
theorem exL_put (v w : Bool) (o : Option T) : exL v w (put w o) = exO v o := by
  have one : ∀ t, exL v w [t] = ex v t := fun t => by
    show (if w = v then ex v t + 0 else max (ex v t) 0) = _
    split <;> omega
  match o with
  | none => rfl
  | some (.leaf i) => exact one _
  | some (.node u ms) =>
    rw [put_node]
    by_cases e : (T.node u ms).is w = true
    · rw [if_pos e]
      have ev : u = w := by simpa [T.is] using e
      subst ev
      rfl
    · rw [if_neg e]
      exact one _
theorem exO_mk (v w : Bool) : ∀ ms : List T, exO v (mk w ms) = exL v w ms
  | [] => rfl
  | [x] => by
    show ex v x = (if w = v then ex v x + 0 else max (ex v x) 0)
    split <;> omega
  | x :: y :: r => rfl
mutual
theorem ex_strike (f : Nat → Option Nat) (v : Bool) : ∀ t, exO v (strike f t) = ex' f v t
  | .leaf i => by
    cases h : f i <;> simp [strike, h, exO, ex', ex]
  | .node w ms => by rw [strike, exO_mk, exL_strike f v w ms]; rfl
theorem exL_strike (f : Nat → Option Nat) (v w : Bool) : ∀ ms : List T, exL v w (strikeL f w ms) = exL' f v w ms
  | [] => rfl
  | m :: ms => by
    rw [strikeL, exL_app, exL_put, ex_strike f v m, exL_strike f v w ms]
    rfl
end
mutual
theorem ex_plain (v : Bool) : ∀ t, ex v (plain t) = ex v t
  | .leaf _ => rfl
  | .node true ms => exL_plain v true ms
  | .node false ms => (exL_perm (List.mergeSort_perm _ _)).trans (exL_plain v false ms)
theorem exL_plain (v w : Bool) : ∀ ms : List T, exL v w (plainL ms) = exL v w ms
  | [] => rfl
  | m :: ms => by
    unfold plainL exL
    rw [ex_plain v m, exL_plain v w ms]
end
theorem ex_part {f : Nat → Option Nat} {t s : T} (v : Bool) (h : strike f t = some s) : ex v (plain s) ≤ ex v t ∧ ex v t + sz s ≤ ex v (plain s) + sz t := by
  have h1 := ex_strike f v t
  have h2 := lv_strike f t
  rw [h] at h1 h2
  rw [ex_plain]
  have h1 : ex v s = _ := h1
  have h3 : sz s = sz' f t := congrArg List.length (show lvs s = _ from h2)
  rw [h1, h3]
  exact ex'_le f v t
end Tm
set_option Elab.async false
set_option linter.all false
/-! Mt8: how many pairs a term has. -/
namespace Tm
theorem prsL_app {w : Bool} : ∀ (xs : List T) {ys : List T} {a : List Nat}, prsL w a (xs ++ ys) = prsL w a xs ++ prsL w (a ++ lvL xs) ys
  | [], ys, a => by simp [prsL, lvL]
  | m :: xs, ys, a => by
    rw [List.cons_append, prsL, prsL, prsL_app xs]
    simp [lvL, List.append_assoc]
theorem cross_len {w : Bool} {a b : List Nat} : (if w = true then a.flatMap fun i => b.map fun j => (i, j) else []).length ≤ a.length * b.length := by
  cases w
  · simp
  · simp only [if_true]
    induction a with
    | nil => simp
    | cons i a ih =>
      rw [List.flatMap_cons, List.length_append, List.length_map, List.length_cons, Nat.succ_mul]
      omega
theorem sq_step {p c a s r R : Nat} (h1 : p ≤ s * s) (h2 : c ≤ a * s) (h3 : r + (a + s) * (a + s) ≤ R) : p + c + r + a * a ≤ R := by
  rw [Nat.mul_add, Nat.add_mul, Nat.add_mul, Nat.mul_comm s a] at h3
  omega
mutual
theorem prs_len : ∀ t : T, (prs t).length ≤ sz t * sz t
  | .leaf _ => by simp [prs]
  | .node w ms => by
    have := prsL_len w [] ms
    simp only [List.length_nil, Nat.zero_add, Nat.mul_zero, Nat.add_zero] at this
    exact this
theorem prsL_len : ∀ (w : Bool) (a : List Nat) (ms : List T), (prsL w a ms).length + a.length * a.length ≤ (a.length + szL ms) * (a.length + szL ms)
  | w, a, [] => by simp [prsL, szL, lvL]
  | w, a, m :: ms => by
    have h1 := prs_len m
    have h2 := prsL_len w (a ++ lvs m) ms
    rw [List.length_append, Nat.add_assoc, show (lvs m).length = sz m from rfl, ← szL_cons] at h2
    rw [prsL, List.length_append, List.length_append]
    exact sq_step h1 cross_len h2
end
end Tm
set_option Elab.async false
set_option linter.all false
set_option maxRecDepth 100000
set_option maxHeartbeats 1000000
/-! E1: terms as data; things, sizes, least things. -/
namespace Lw
open PySem PySem.Spec PyProof.Rows L2 Me Tm
def wd : Bool → D
  | true => .str "behind"
  | false => .str "beside"
mutual
def enc : T → D
  | .leaf i => .int (i : Nat)
  | .node w ms => .tuple (wd w :: encL ms)
def encL : List T → List D
  | [] => []
  | m :: ms => enc m :: encL ms
end
theorem encL_map : ∀ ms : List T, encL ms = ms.map enc
  | [] => rfl
  | m :: ms => congrArg (enc m :: ·) (encL_map ms)
theorem enc_node (w : Bool) (ms : List T) : enc (.node w ms) = .tuple (wd w :: ms.map enc) := by
  rw [enc, encL_map]
def nD (l : List Nat) : List D := l.map fun i => .int (i : Nat)
mutual
def dp : T → Nat
  | .leaf _ => 1
  | .node _ ms => dpL ms + 1
def dpL : List T → Nat
  | [] => 0
  | m :: ms => max (dp m) (dpL ms)
end
theorem dp_mem {ms : List T} {m : T} (h : m ∈ ms) : dp m ≤ dpL ms := by
  induction ms with
  | nil => cases h
  | cons a ms ih =>
    unfold dpL
    rcases List.mem_cons.mp h with rfl | h
    · exact Nat.le_max_left _ _
    · exact Nat.le_trans (ih h) (Nat.le_max_right _ _)
mutual
theorem dp_sz : ∀ t, Wf t → dp t ≤ sz t
  | .leaf _, _ => Nat.le_refl _
  | .node w ms, h => by
    have := dpL_sz w ms h.2 h.1
    exact this
theorem dpL_sz (w : Bool) : ∀ ms, WfL w ms → 2 ≤ ms.length → dpL ms + 1 ≤ szL ms
  | [], _, h => by simp at h
  | [m], _, h => by simp at h
  | m :: k :: ms, hw, _ => by
    have h1 := dp_sz m hw.1.2
    have h2 : 1 ≤ szL (k :: ms) := by
      have := lvL_ne (k :: ms) hw.2 (by simp)
      exact List.length_pos_iff.mpr this
    have h3 : 1 ≤ sz m := List.length_pos_iff.mpr (lv_ne m hw.1.2)
    have h4 : dpL (k :: ms) ≤ szL (k :: ms) := by
      by_cases e : 2 ≤ (k :: ms).length
      · exact Nat.le_of_succ_le (dpL_sz w (k :: ms) hw.2 e)
      · cases ms with
        | nil =>
          have := dp_sz k hw.2.1.2
          unfold dpL dpL
          rw [szL_cons]
          omega
        | cons a b => simp at e
    rw [szL_cons]
    show max (dp m) (dpL (k :: ms)) + 1 ≤ _
    omega
end
def isI : D → Bool
  | .int _ => true
  | _ => false
def plainD : D → Bool
  | .dict _ => false
  | _ => true
theorem is_whole_eq (d : D) (h : plainD d = true) (S : Sto) : F_is_whole [.dat d] S = some (.dat (.bool (isI d)), S) := by
  cases d <;> first | (simp [F_is_whole, b_is_whole, fnRun, finF, finP, sRet, eAnd, eNot, cE, eIsi, eVar, tyN, isiB, bd, asBool, isI]; done) | (simp [plainD] at h)
def inI (l m : Int) : D → Bool
  | .int i => decide (l ≤ i) && decide (i ≤ m)
  | _ => false
theorem is_within_eq (d : D) (h : plainD d = true) (l m : Int) (S : Sto) : F_is_within [.dat d, .dat (.int l), .dat (.int m)] S = some (.dat (.bool (inI l m d)), S) := by
  have e := is_whole_eq d h S
  cases d with
  | int i =>
    by_cases h1 : l ≤ i
    · by_cases h2 : i ≤ m <;> simp [F_is_within, b_is_within, fnRun, finF, finP, sRet, eAnd, eChain, cE, eVar, eCall, aCons, aNil, oII, bd, asBool, asInt, e, isI, inI, h1, h2]
    · simp [F_is_within, b_is_within, fnRun, finF, finP, sRet, eAnd, eChain, cE, eVar, eCall, aCons, aNil, oII, bd, asBool, asInt, e, isI, inI, h1]
  | _ => first | (simp [F_is_within, b_is_within, fnRun, finF, finP, sRet, eAnd, eChain, cE, eVar, eCall, aCons, aNil, bd, asBool, e, isI, inI]; done) | (simp [plainD] at h)
theorem enc_plain (t : T) : plainD (enc t) = true := by cases t <;> rfl
/-! ### data without dicts, not deep -/
mutual
theorem enc_lay : ∀ t, (enc t).canLay0 = true
  | .leaf _ => by simp [enc, PyData.canLay0]
  | .node w ms => by
    have : (wd w).canLay0 = true := by cases w <;> decide +kernel
    simp [enc, PyData.canLay0, PyData.canLayAll0, this, encL_lay ms]
theorem encL_lay : ∀ ms, PyData.canLayAll0 (encL ms) = true
  | [] => rfl
  | m :: ms => by simp [encL, PyData.canLayAll0, enc_lay m, encL_lay ms]
end
mutual
theorem enc_dep : ∀ t, (enc t).depth ≤ dp t
  | .leaf _ => Nat.zero_le _
  | .node w ms => by
    have h := encL_dep ms
    have hw : (wd w).depth = 0 := by cases w <;> rfl
    simp only [enc, PyData.depth, PyData.depthAll, dp, hw]
    omega
theorem encL_dep : ∀ ms, PyData.depthAll (encL ms) ≤ dpL ms
  | [] => Nat.zero_le _
  | m :: ms => by
    have h1 := enc_dep m
    have h2 := encL_dep ms
    simp only [encL, PyData.depthAll, dpL]
    omega
end
theorem enc_ok {t : T} (h : dp t ≤ 60) : okD (enc t) = true := by
  unfold okD SeqAt.shaped
  rw [enc_lay t, Bool.true_and]
  exact decide_eq_true (Nat.le_trans (enc_dep t) (by omega))
theorem wd_ok (w : Bool) : okD (wd w) = true := by cases w <;> decide +kernel
theorem wd_eqv (w v : Bool) : PyData.eqv (wd w) (wd v) = (w == v) := by cases w <;> cases v <;> decide +kernel

/-! ### small steps -/
theorem len_tup (l : List D) (S : Sto) : oLen [.dat (.tuple l)] S = some (.dat (.int l.length), S) := by
  simp [oLen, one1, bd, seqOf]
theorem isT_node {i : Nat} {ρ : Ev} {S : Sto} {w : Bool} {ms : List T} (h : ρ.getD i none = some (.dat (enc (.node w ms)))) : eIsi "tuple" (eVar i) ρ S = some (.dat (.bool true), S) := by
  unfold eIsi
  rw [var_eq h]
  simp [bd, enc, tyN, isiB]
theorem isT_leaf {i k : Nat} {ρ : Ev} {S : Sto} (h : ρ.getD i none = some (.dat (enc (.leaf k)))) : eIsi "tuple" (eVar i) ρ S = some (.dat (.bool false), S) := by
  unfold eIsi
  rw [var_eq h]
  simp [bd, enc, tyN, isiB]
theorem cE_eq {f : EF} {ρ : Ev} {S S' : Sto} {b : Bool} (h : f ρ S = some (.dat (.bool b), S')) : cE f ρ S = some (b, S') := by
  unfold cE
  rw [h]
  rfl
theorem if_true {c : CF} {a b : SF} {ρ : Ev} {S S' : Sto} (h : c ρ S = some (true, S')) : sIf c a b ρ S = a ρ S' := by
  unfold sIf
  rw [h]
  rfl
theorem if_false {c : CF} {a b : SF} {ρ : Ev} {S S' : Sto} (h : c ρ S = some (false, S')) : sIf c a b ρ S = b ρ S' := by
  unfold sIf
  rw [h]
  rfl
theorem not_eq {c : CF} {ρ : Ev} {S S' : Sto} {b : Bool} (h : c ρ S = some (b, S')) : cNot c ρ S = some (!b, S') := by
  unfold cNot
  rw [h]
  rfl
theorem and_t {a b : CF} {ρ : Ev} {S S' : Sto} (h : a ρ S = some (true, S')) : cAnd a b ρ S = b ρ S' := by
  unfold cAnd
  rw [h]
  rfl
theorem and_f {a b : CF} {ρ : Ev} {S S' : Sto} (h : a ρ S = some (false, S')) : cAnd a b ρ S = some (false, S') := by
  unfold cAnd
  rw [h]
  rfl
theorem or_f {a b : CF} {ρ : Ev} {S S' : Sto} (h : a ρ S = some (false, S')) : cOr a b ρ S = b ρ S' := by
  unfold cOr
  rw [h]
  rfl
theorem or_t {a b : CF} {ρ : Ev} {S S' : Sto} (h : a ρ S = some (true, S')) : cOr a b ρ S = some (true, S') := by
  unfold cOr
  rw [h]
  rfl
theorem call1 {F : VF} {f : EF} {ρ : Ev} {S S' : Sto} {p : P} (h : f ρ S = some (p, S')) : eCall F (aCons f aNil) ρ S = F [p] S' := by
  unfold eCall aCons
  rw [h]
  rfl
theorem ix0_node {i : Nat} {ρ : Ev} {S : Sto} {w : Bool} {ms : List T} (h : ρ.getD i none = some (.dat (enc (.node w ms)))) : eOp oIx (eVar i) (eC (.int 0)) ρ S = some (.dat (wd w), S) := by
  rw [enc_node] at h
  exact ix0 h
theorem tail_node {i : Nat} {ρ : Ev} {S : Sto} {w : Bool} {ms : List T} (h : ρ.getD i none = some (.dat (enc (.node w ms)))) : iSeq (eFrz (eSl (eVar i) (pSo (eC (.int 1))) pNo)) ρ S = some ((none, ms.map enc), S) := by
  rw [enc_node] at h
  exact tail_seq h
theorem op_eq' {o : OF} {f g : EF} {ρ : Ev} {S S1 S2 : Sto} {p q : P} (h1 : f ρ S = some (p, S1)) (h2 : g ρ S1 = some (q, S2)) : eOp o f g ρ S = o p q S2 := by
  unfold eOp
  rw [h1]
  show bd (g ρ S1) _ = _
  rw [h2]
  rfl
theorem getD_set_same {ρ : Ev} {i : Nat} {x : Option P} (h : i < ρ.length) : (ρ.set i x).getD i none = x := by
  rw [List.getD_eq_getElem?_getD, List.getElem?_set_self h]
  rfl
theorem getD_set_ne {ρ : Ev} {i j : Nat} {x : Option P} (h : i ≠ j) : (ρ.set i x).getD j none = ρ.getD j none := by
  rw [List.getD_eq_getElem?_getD, List.getElem?_set_ne h, ← List.getD_eq_getElem?_getD]
theorem st_at {S : Sto} {m : MO} : (S ++ [m])[S.length]? = some m := by
  rw [List.getElem?_append_right (Nat.le_refl _), Nat.sub_self]
  rfl
theorem st_set {S : Sto} {m k : MO} : (S ++ [m]).set S.length k = S ++ [k] := by
  rw [List.set_append_right _ _ (Nat.le_refl _), Nat.sub_self]
  rfl
theorem nD_len (l : List Nat) : (nD l).length = l.length := List.length_map ..
theorem nD_app (l m : List Nat) : nD (l ++ m) = nD l ++ nD m := List.map_append
/-- found.extend(a frozen list) -/
theorem ext_eq {i : Nat} {f : EF} {ρ : Ev} {S : Sto} {xs ys : List D} (h : ρ.getD i none = some (.obj S.length)) (hf : f ρ (S ++ [.lst xs]) = some (.dat (.list ys), S ++ [.lst xs])) (hl : xs.length + ys.length ≤ lim) :
    sDrop (eMt oExtend (eVar i) (aCons f aNil)) ρ (S ++ [.lst xs]) = some (.nx, ρ, S ++ [.lst (xs ++ ys)]) := by
  unfold sDrop eMt
  rw [var_eq h]
  have e1 : lsqOf (.obj S.length) (S ++ [.lst xs]) = some xs := by simp [lsqOf, lstAt]
  show bd (bd (lsqOf (.obj S.length) (S ++ [.lst xs])) _) _ = _
  rw [e1]
  unfold aCons
  show bd (bd (bd (f ρ (S ++ [.lst xs])) _) _) _ = _
  rw [hf]
  simp [aNil, bd, oExtend, asObj, one1, lstAt, asLst, hl, st_set]
theorem words_in (w : Bool) (S : Sto) : oInG tu_WORDS true (.dat (wd w)) S = some (.dat (.bool false), S) := by
  have h1 : flatD (wd w) = true := by cases w <;> rfl
  have h2 : tu_WORDS.all flatD = true := by decide +kernel
  have h3 : (tu_WORDS.any fun e => PyData.eqv e (wd w)) = true := by cases w <;> decide +kernel
  unfold oInG
  show bd (some (wd w)) _ = _
  simp [h1, h2, h3]
theorem str_wd {ρ : Ev} {S : Sto} {f : EF} {w : Bool} (h : f ρ S = some (.dat (wd w), S)) : eIsi "str" f ρ S = some (.dat (.bool true), S) := by
  unfold eIsi
  rw [h]
  cases w <;> simp [bd, wd, tyN, isiB]
/-! ### things_of_term -/
theorem things_eq : ∀ (n : Nat) (t : T), Wf t → (∀ x ∈ lvs t, x ≤ 30) → sz t ≤ 60 → dp t ≤ n → ∀ S, F_things_of_term n [.dat (enc t)] S = some (.obj S.length, S ++ [.lst (nD (lvs t))])
  | 0, t, _, _, _, h, _ => by
    cases t <;> simp [dp] at h
  | n + 1, .leaf i, _, hx, _, _, S => by
    have hw : F_is_within [.dat (.int (i : Nat)), .dat (.int 0), .dat (.int 30)] S = some (.dat (.bool true), S) := by
      rw [is_within_eq _ rfl]
      have : i ≤ 30 := hx i (by simp [lvs])
      simp [inI]
      omega
    rw [show F_things_of_term (n + 1) = fnRun 1 3 (b_things_of_term (F_things_of_term n)) from rfl]
    refine fn_obj (S1 := S) rfl (ρ' := [some (.dat (enc (.leaf i))), none, none]) (S' := S ++ [.lst (nD [i])]) (k := S.length) ?_ (Nat.le_refl _) st_at take_app
    unfold b_things_of_term
    refine seq_ret ?_
    rw [if_true (not_eq (cE_eq (isT_leaf rfl)))]
    simp [sRet, eLst, aCons, aNil, eIf, cE, eCall, eVar, eC, bd, hw, asBool, nD, enc]
    rfl
  | n + 1, .node w ms, hwf, hx, hsz, hd, S => by
    have hdm : ∀ m ∈ ms, dp m ≤ n := fun m hm => by
      have := dp_mem hm
      have hd : dpL ms + 1 ≤ n + 1 := hd
      omega
    have hwm : ∀ m ∈ ms, m.is w = false ∧ Wf m := WfL_iff.mp hwf.2
    have hxm : ∀ m ∈ ms, ∀ x ∈ lvs m, x ≤ 30 := fun m hm x hxm => hx x (mem_lvL.mpr ⟨m, hm, hxm⟩)
    have hszm : ∀ m ∈ ms, sz m ≤ 60 := fun m hm => by
      obtain ⟨p, q, e⟩ := mem_split hm
      have h1 : sz (.node w ms) = szL ms := rfl
      rw [h1, e, szL_app, szL_cons] at hsz
      omega
    rw [show F_things_of_term (n + 1) = fnRun 1 3 (b_things_of_term (F_things_of_term n)) from rfl]
    have r0 : ([some (.dat (enc (.node w ms))), none, none] : Ev).getD 0 none = some (.dat (enc (.node w ms))) := rfl
    have hb : ∃ ρ', b_things_of_term (F_things_of_term n) [some (.dat (enc (.node w ms))), none, none] S = some (.ret (.obj S.length), ρ', S ++ [.lst (nD (lvL ms))]) := by
      unfold b_things_of_term
      have s1 : sIf (cNot (cE (eIsi "tuple" (eVar 0)))) (sRet (eLst (aCons (eIf (cE (eCall (F_is_within) (aCons (eVar 0) (aCons (eC (.int 0)) (aCons (eC (.int (30))) aNil))))) (eVar 0) (eC .none)) aNil))) sNil [some (.dat (enc (.node w ms))), none, none] S = some (.nx, [some (.dat (enc (.node w ms))), none, none], S) := by
        rw [if_false (not_eq (cE_eq (isT_node r0)))]
        rfl
      rw [seq_nx s1]
      have hlen : eCall oLen (aCons (eVar 0) aNil) [some (.dat (enc (.node w ms))), none, none] S = some (.dat (.int ((ms.length + 1 : Nat) : Int)), S) := by
        rw [call1 (var_eq r0), enc_node, len_tup]
        simp
      have c1 : cE (eOp oLtX (eCall oLen (aCons (eVar 0) aNil)) (eC (.int (3)))) [some (.dat (enc (.node w ms))), none, none] S = some (false, S) := by
        refine cE_eq ?_
        rw [op_eq' hlen rfl]
        have : ¬ ((ms.length : Int) + 1 < 3) := by have := hwf.1; omega
        simp [orO, oII, asInt, bd, this]
      have c2 : cNot (cE (eIsi "str" (eOp oIx (eVar 0) (eC (.int 0))))) [some (.dat (enc (.node w ms))), none, none] S = some (false, S) := not_eq (cE_eq (str_wd (ix0_node r0)))
      have c3 : cE (eUn (oInG tu_WORDS true) (eOp oIx (eVar 0) (eC (.int 0)))) [some (.dat (enc (.node w ms))), none, none] S = some (false, S) := by
        refine cE_eq ?_
        unfold eUn
        rw [ix0_node r0]
        exact words_in w S
      rw [seq_nx (S' := S) (ρ' := [some (.dat (enc (.node w ms))), none, none]) (by rw [if_false ((or_f c1).trans ((or_f c2).trans c3))]; rfl)]
      rw [seq_nx (S' := S ++ [.lst []]) (ρ' := [some (.dat (enc (.node w ms))), some (.obj S.length), none]) (by simp [sSet, eLst, aNil, bd, dats])]
      obtain ⟨ρ', S', e, h1, h2, h3⟩ := sFor_map (ws := iSeq (eFrz (eSl (eVar 0) (pSo (eC (.int 1))) pNo))) (g := gNm 2)
        (b := sSeq (sIf (cAnd (cE (eIsi "tuple" (eVar 2))) (cAnd (cE (eOp oNe (eVar 2) (eTup aNil))) (cAnd (cE (eIsi "str" (eOp oIx (eVar 2) (eC (.int 0))))) (cE (eOp oEq (eOp oIx (eVar 2) (eC (.int 0))) (eOp oIx (eVar 0) (eC (.int 0)))))))) (sRet (eLst (aCons (eC .none) aNil))) sNil) (sDrop (eMt oExtend (eVar 1) (aCons (eFrz (eCall (F_things_of_term n) (aCons (eVar 2) aNil))) aNil))))
        (ρ := [some (.dat (enc (.node w ms))), some (.obj S.length), none]) (S := S ++ [.lst []]) (S0 := S ++ [.lst []]) (xs := ms) enc
        (fun pre ρ S' => (∃ z, ρ = [some (.dat (enc (.node w ms))), some (.obj S.length), z]) ∧ S' = S ++ [.lst (nD (lvL pre))] ∧ True) (tail_node rfl) ⟨⟨none, rfl⟩, rfl, trivial⟩ (fun pre m suf ρ S' hcut ⟨⟨z, hρ⟩, hS, _⟩ => by
          subst hρ hS
          have hm : m ∈ ms := by rw [← hcut]; simp
          have q2 : ([some (.dat (enc (.node w ms))), some (.obj S.length), some (.dat (enc m))] : Ev).getD 2 none = some (.dat (enc m)) := rfl
          refine ⟨[some (.dat (enc (.node w ms))), some (.obj S.length), some (.dat (enc m))], .nx, [some (.dat (enc (.node w ms))), some (.obj S.length), some (.dat (enc m))], S ++ [.lst (nD (lvL (pre ++ [m])))], rfl, ?_, .inl rfl, ⟨_, rfl⟩, rfl, trivial⟩
          have hc : ∀ S0, cAnd (cE (eIsi "tuple" (eVar 2))) (cAnd (cE (eOp oNe (eVar 2) (eTup aNil))) (cAnd (cE (eIsi "str" (eOp oIx (eVar 2) (eC (.int 0))))) (cE (eOp oEq (eOp oIx (eVar 2) (eC (.int 0))) (eOp oIx (eVar 0) (eC (.int 0))))))) [some (.dat (enc (.node w ms))), some (.obj S.length), some (.dat (enc m))] S0 = some (false, S0) := fun S0 => by
            cases m with
            | leaf k => exact and_f (cE_eq (isT_leaf q2))
            | node v ks =>
              rw [and_t (cE_eq (isT_node q2))]
              have ne : cE (eOp oNe (eVar 2) (eTup aNil)) [some (.dat (enc (.node w ms))), some (.obj S.length), some (.dat (enc (.node v ks)))] S0 = some (true, S0) := by
                refine cE_eq ?_
                have k1 : okD (enc (.node v ks)) = true := enc_ok (Nat.le_trans (dp_sz _ (hwm _ hm).2) (hszm _ hm))
                have k2 : okD (.tuple []) = true := by decide +kernel
                have k3 : PyData.eqv (enc (.node v ks)) (.tuple []) = false := by simp [enc, PyData.eqv, PyData.eqvAll]
                rw [op_eq' (var_eq q2) (show eTup aNil _ S0 = some (.dat (.tuple []), S0) from rfl)]
                unfold oNe
                simp [rdP, k1, k2, k3]
              rw [and_t ne, and_t (cE_eq (str_wd (ix0_node q2)))]
              refine cE_eq ?_
              rw [op_eq' (ix0_node q2) (ix0_node rfl)]
              have hv : (v == w) = false := by
                have := (hwm _ hm).1
                simpa [T.is] using this
              unfold oEq
              simp [rdP, wd_ok, wd_eqv, hv]
          rw [seq_nx (by rw [if_false (hc _)]; rfl)]
          have hf : eFrz (eCall (F_things_of_term n) (aCons (eVar 2) aNil)) [some (.dat (enc (.node w ms))), some (.obj S.length), some (.dat (enc m))] (S ++ [.lst (nD (lvL pre))]) = some (.dat (.list (nD (lvs m))), S ++ [.lst (nD (lvL pre))]) := by
            refine eFrz_obj ?_
            rw [call1 (var_eq q2)]
            exact things_eq n m (hwm m hm).2 (hxm m hm) (hszm m hm) (hdm m hm) _
          rw [ext_eq rfl hf ?_]
          · rw [lvL_app, nD_app]
            simp [lvL]
          · rw [nD_len, nD_len]
            have h1 : sz (.node w ms) = szL ms := rfl
            rw [h1, ← hcut, szL_app, szL_cons] at hsz
            have h2 : (lvL pre).length = szL pre := rfl
            have h3 : (lvs m).length = sz m := rfl
            have : (60 : Nat) ≤ lim := by decide
            omega)
      obtain ⟨z, hz⟩ := h1
      subst hz h2
      rw [seq_nx e]
      exact ⟨_, rfl⟩
    obtain ⟨ρ', hb⟩ := hb
    exact fn_obj (S1 := S) rfl hb (Nat.le_refl _) st_at take_app
end Lw
set_option Elab.async false
set_option linter.all false
set_option maxRecDepth 100000
set_option maxHeartbeats 1000000
/-! E2: sizes, least things, turned, plain. -/
namespace Lw
open PySem PySem.Spec PyProof.Rows L2 Me Tm
theorem wipe1 {ρ : Ev} {i : Nat} : wipeE ρ [i] = ρ.set i none := rfl
/-- [R(member) for member in term[1:]] -/
theorem rec_comp {R : VF} {ρ : Ev} {S : Sto} {i : Nat} {w : Bool} {ms : List T} {val : T → D} (h0 : ρ.getD 0 none = some (.dat (enc (.node w ms)))) (hl : i < ρ.length)
    (hR : ∀ m ∈ ms, ∀ S, R [.dat (enc m)] S = some (.dat (val m), S)) :
    eFrz (eLc (iSeq (eFrz (eSl (eVar 0) (pSo (eC (.int 1))) pNo))) [i] (gNm i) cYes (eCall R (aCons (eVar i) aNil))) ρ S = some (.dat (.list (ms.map val)), S) := by
  refine eFrz_obj (lc_maps (xs := ms) enc val (tail_node h0) fun m hm a => ⟨(ρ.set i none).set i (some (.dat (enc m))), rfl, ?_⟩)
  rw [call1 (var_eq (getD_set_same (by rw [List.length_set]; exact hl)))]
  exact hR m hm _
theorem ints_nat : ∀ (l : List Nat), intsOf (l.map fun i => PyData.int (i : Nat)) = some (l.map fun i => ((i : Nat) : Int))
  | [] => rfl
  | a :: l => by simp [intsOf, ints_nat l, bd]
theorem isum_nat : ∀ l : List Nat, (l.map fun i => ((i : Nat) : Int)).sum = ((l.sum : Nat) : Int)
  | [] => rfl
  | a :: l => by
    rw [List.map_cons, List.sum_cons, List.sum_cons, isum_nat l]
    omega
theorem dp_ms {n : Nat} {w : Bool} {ms : List T} (h : dp (.node w ms) ≤ n + 1) : ∀ m ∈ ms, dp m ≤ n := fun m hm => by
  have := dp_mem hm
  have hd : dpL ms + 1 ≤ n + 1 := h
  omega
theorem szL_sum : ∀ ms : List T, (ms.map sz).sum = szL ms
  | [] => rfl
  | m :: ms => by rw [List.map_cons, List.sum_cons, szL_sum ms, szL_cons]
theorem sized_eq : ∀ (n : Nat) (t : T), dp t ≤ n → ∀ S, F_sized n [.dat (enc t)] S = some (.dat (.int (sz t : Nat)), S)
  | 0, t, h, _ => by cases t <;> simp [dp] at h
  | n + 1, .leaf i, _, S => by
    rw [show F_sized (n + 1) = fnRun 1 2 (b_sized (F_sized n)) from rfl]
    refine fn_dat (S' := S) (ρ' := [some (.dat (enc (.leaf i))), none]) rfl ?_ (List.take_length ..)
    have c := cE_eq (isT_leaf (S := S) (ρ := [some (.dat (enc (.leaf i))), none]) (i := 0) (k := i) rfl)
    show b_sized _ [some (.dat (enc (.leaf i))), none] S = _
    unfold b_sized sRet eIf
    rw [c]
    rfl
  | n + 1, .node w ms, h, S => by
    rw [show F_sized (n + 1) = fnRun 1 2 (b_sized (F_sized n)) from rfl]
    refine fn_dat (S' := S) (ρ' := [some (.dat (enc (.node w ms))), none]) rfl ?_ (List.take_length ..)
    have c := cE_eq (isT_node (S := S) (ρ := [some (.dat (enc (.node w ms))), none]) (i := 0) (w := w) (ms := ms) rfl)
    show b_sized _ [some (.dat (enc (.node w ms))), none] S = _
    unfold b_sized sRet eIf
    rw [c]
    simp only [bd_some, if_true]
    rw [call1 (rec_comp (w := w) (ms := ms) (val := fun m => .int (sz m : Nat)) rfl (by simp) fun m hm S => sized_eq n m (dp_ms h m hm) S)]
    have e : intsOf (ms.map fun m => PyData.int (sz m : Nat)) = some ((ms.map sz).map fun i => ((i : Nat) : Int)) := by
      rw [← ints_nat, List.map_map]; rfl
    have e2 : oSum [.dat (.list (ms.map fun m => PyData.int (sz m : Nat)))] S = some (.dat (.int (szL ms : Nat)), S) := by
      unfold oSum oInts
      show bd (intsOf _) _ = _
      rw [e]
      show some (P.dat (.int ((ms.map sz).map fun i => ((i : Nat) : Int)).sum), S) = _
      rw [isum_nat, szL_sum]
    rw [e2]
    rfl
theorem min_nat : ∀ (a : Nat) (l : List Nat), minL ((a :: l).map fun i => ((i : Nat) : Int)) = some ((l.foldl min a : Nat) : Int)
  | a, l => by
    show some ((l.map fun i => ((i : Nat) : Int)).foldl min (a : Int)) = _
    have : ∀ (l : List Nat) (a : Nat), (l.map fun i => ((i : Nat) : Int)).foldl min (a : Int) = ((l.foldl min a : Nat) : Int) := fun l => by
      induction l with
      | nil => intro a; rfl
      | cons b l ih =>
        intro a
        rw [List.map_cons, List.foldl_cons, List.foldl_cons, ← ih]
        congr 1
        omega
    rw [this]
theorem mnL_fold : ∀ (m : T) (ms : List T), mnL (m :: ms) = (ms.map mn).foldl min (mn m)
  | m, [] => rfl
  | m, k :: ms => by
    show min (mn m) (mnL (k :: ms)) = _
    rw [mnL_fold k ms, List.map_cons, List.foldl_cons]
    have : ∀ (l : List Nat) (a b : Nat), min a (l.foldl min b) = l.foldl min (min a b) := fun l => by
      induction l with
      | nil => intro a b; rfl
      | cons c l ih => intro a b; rw [List.foldl_cons, List.foldl_cons, ih]; congr 1; omega
    exact this _ _ _
theorem least_eq : ∀ (n : Nat) (t : T), Wf t → dp t ≤ n → ∀ S, F_least_of n [.dat (enc t)] S = some (.dat (.int (mn t : Nat)), S)
  | 0, t, _, h, _ => by cases t <;> simp [dp] at h
  | n + 1, .leaf i, _, _, S => by
    rw [show F_least_of (n + 1) = fnRun 1 2 (b_least_of (F_least_of n)) from rfl]
    refine fn_dat (S' := S) (ρ' := [some (.dat (enc (.leaf i))), none]) rfl ?_ (List.take_length ..)
    have c := cE_eq (isT_leaf (S := S) (ρ := [some (.dat (enc (.leaf i))), none]) (i := 0) (k := i) rfl)
    show b_least_of _ [some (.dat (enc (.leaf i))), none] S = _
    unfold b_least_of sRet eIf
    rw [c]
    simp [bd, eVar, mn, enc]
  | n + 1, .node w ms, hw, h, S => by
    rw [show F_least_of (n + 1) = fnRun 1 2 (b_least_of (F_least_of n)) from rfl]
    refine fn_dat (S' := S) (ρ' := [some (.dat (enc (.node w ms))), none]) rfl ?_ (List.take_length ..)
    have c := cE_eq (isT_node (S := S) (ρ := [some (.dat (enc (.node w ms))), none]) (i := 0) (w := w) (ms := ms) rfl)
    show b_least_of _ [some (.dat (enc (.node w ms))), none] S = _
    unfold b_least_of sRet eIf
    rw [c]
    simp only [bd_some, if_true]
    rw [call1 (rec_comp (w := w) (ms := ms) (val := fun m => .int (mn m : Nat)) rfl (by simp) fun m hm S => least_eq n m (WfL_iff.mp hw.2 m hm).2 (dp_ms h m hm) S)]
    have e : intsOf (ms.map fun m => PyData.int (mn m : Nat)) = some ((ms.map mn).map fun i => ((i : Nat) : Int)) := by
      rw [← ints_nat, List.map_map]; rfl
    have e3 : minL ((ms.map mn).map fun i => ((i : Nat) : Int)) = some ((mn (.node w ms) : Nat) : Int) := by
      match ms, hw.1 with
      | m :: ms, _ =>
        rw [List.map_cons, min_nat, ← mnL_fold]
        rfl
    have e2 : oMinL [.dat (.list (ms.map fun m => PyData.int (mn m : Nat)))] S = some (.dat (.int (mn (.node w ms) : Nat)), S) := by
      unfold oMinL oInts
      show bd (intsOf _) _ = _
      rw [e]
      show bd (minL _) _ = _
      rw [e3]
      rfl
    rw [e2]
    rfl
/-! ### turned_members -/
theorem wd_beside {ρ : Ev} {S : Sto} {w : Bool} {ms : List T} (h0 : ρ.getD 0 none = some (.dat (enc (.node w ms)))) : cE (eOp oEq (eOp oIx (eVar 0) (eC (.int 0))) (eC (.str "beside"))) ρ S = some (!w, S) := by
  refine cE_eq ?_
  rw [op_eq' (ix0_node h0) (show eC (.str "beside") ρ S = some (.dat (wd false), S) from rfl)]
  unfold oEq
  simp [rdP, wd_ok, wd_eqv]
theorem wd_behind {ρ : Ev} {S : Sto} {w : Bool} {ms : List T} (h0 : ρ.getD 0 none = some (.dat (enc (.node w ms)))) : cE (eOp oEq (eOp oIx (eVar 0) (eC (.int 0))) (eC (.str "behind"))) ρ S = some (w, S) := by
  refine cE_eq ?_
  rw [op_eq' (ix0_node h0) (show eC (.str "behind") ρ S = some (.dat (wd true), S) from rfl)]
  unfold oEq
  simp [rdP, wd_ok, wd_eqv]
theorem dats_map (l : List D) : dats (l.map P.dat) = some l := by
  induction l with
  | nil => rfl
  | cons a l ih =>
    show bd (asDat (.dat a)) (fun d => bd (dats (l.map P.dat)) fun r => some (d :: r)) = _
    rw [ih]
    rfl
/-- (word, *members) -/
theorem star_tup {f g : EF} {ρ : Ev} {S S1 S2 : Sto} {d : D} {l : List D} {p : P} (hf : f ρ S = some (.dat d, S1)) (hg : g ρ S1 = some (p, S2)) (hp : seqOf p S2 = some l) (hl : l.length + 1 ≤ lim) :
    eTup (aCons f (aStar g aNil)) ρ S = some (.dat (.tuple (d :: l)), S2) := by
  have e1 : aStar g aNil ρ S1 = some (l.map P.dat, S2) := by
    unfold aStar
    rw [hg]
    show bd (seqOf p S2) _ = _
    rw [hp]
    simp [aNil, bd]
  have e2 : aCons f (aStar g aNil) ρ S = some ((d :: l).map P.dat, S2) := by
    unfold aCons
    rw [hf]
    show bd (aStar g aNil ρ S1) _ = _
    rw [e1]
    rfl
  unfold eTup
  rw [e2]
  show bd (dats ((d :: l).map P.dat)) _ = _
  rw [dats_map]
  show (if (d :: l).length ≤ lim then _ else _) = _
  rw [if_pos (by simpa using hl)]
theorem turnL_map : ∀ ms : List T, turnL ms = ms.map turn
  | [] => rfl
  | m :: ms => congrArg (turn m :: ·) (turnL_map ms)
theorem len_lim {w : Bool} {ms : List T} (h : sz (.node w ms) ≤ 60) (hw : Wf (.node w ms)) : ms.length + 1 ≤ lim := by
  have : ∀ {ms : List T}, WfL w ms → ms.length ≤ szL ms := fun {ms} hw => by
    induction ms with
    | nil => exact Nat.zero_le _
    | cons m ms ih =>
      have h1 : 1 ≤ sz m := List.length_pos_iff.mpr (lv_ne m hw.1.2)
      have h2 := ih hw.2
      rw [szL_cons, List.length_cons]
      omega
  have h1 := this hw.2
  have h2 : sz (.node w ms) = szL ms := rfl
  have h3 : (61 : Nat) ≤ lim := by decide
  omega
theorem sz_mem {w : Bool} {ms : List T} (h : sz (.node w ms) ≤ 60) : ∀ m ∈ ms, sz m ≤ 60 := fun m hm => by
  obtain ⟨p, q, e⟩ := mem_split hm
  have h1 : sz (.node w ms) = szL ms := rfl
  rw [h1, e, szL_app, szL_cons] at h
  omega
theorem turned_eq : ∀ (n : Nat) (t : T), Wf t → sz t ≤ 60 → dp t ≤ n → ∀ S, F_turned_members n [.dat (enc t)] S = some (.dat (enc (turn t)), S)
  | 0, t, _, _, h, _ => by cases t <;> simp [dp] at h
  | n + 1, .leaf i, _, _, _, S => by
    rw [show F_turned_members (n + 1) = fnRun 1 3 (b_turned_members (F_turned_members n)) from rfl]
    refine fn_dat (S' := S) (ρ' := [some (.dat (enc (.leaf i))), none, none]) rfl ?_ (List.take_length ..)
    show b_turned_members _ [some (.dat (enc (.leaf i))), none, none] S = _
    unfold b_turned_members
    refine seq_ret ?_
    rw [if_true (not_eq (cE_eq (isT_leaf rfl)))]
    rfl
  | n + 1, .node w ms, hw, hs, h, S => by
    rw [show F_turned_members (n + 1) = fnRun 1 3 (b_turned_members (F_turned_members n)) from rfl]
    have hl := len_lim hs hw
    refine fn_dat (S' := S) (ρ' := [some (.dat (enc (.node w ms))), some (.dat (.list ((turnL ms).map enc))), none]) rfl ?_ (List.take_length ..)
    show b_turned_members _ [some (.dat (enc (.node w ms))), none, none] S = _
    unfold b_turned_members
    rw [seq_nx (by rw [if_false (not_eq (cE_eq (isT_node rfl)))]; rfl)]
    rw [seq_nx (show sSet 1 _ [some (.dat (enc (.node w ms))), none, none] S = some (.nx, [some (.dat (enc (.node w ms))), some (.dat (.list ((turnL ms).map enc))), none], S) by
      unfold sSet
      rw [rec_comp (w := w) (ms := ms) (val := fun m => enc (turn m)) rfl (by simp) fun m hm S => turned_eq n m (WfL_iff.mp hw.2 m hm).2 (sz_mem hs m hm) (dp_ms h m hm) S]
      rw [turnL_map, List.map_map]
      rfl)]
    unfold sRet eIf
    rw [wd_beside (w := w) (ms := ms) rfl]
    cases w with
    | false =>
      simp only [bd_some, Bool.not_false, if_true]
      rw [star_tup (S1 := S) (S2 := S) (d := wd false) (l := (turnL ms).map enc) (p := .dat (.list ((turnL ms).map enc))) (ix0_node (w := false) (ms := ms) rfl) rfl rfl (by rw [List.length_map, turnL_len]; exact hl)]
      show some (Fl.ret (P.dat (.tuple (wd false :: (turnL ms).map enc))), _, S) = _
      rw [← enc_node]
      rfl
    | true =>
      simp only [bd_some, Bool.not_true, Bool.false_eq_true, if_false]
      have hr : eFrz (eRev (eVar 1)) [some (.dat (enc (.node true ms))), some (.dat (.list ((turnL ms).map enc))), none] S = some (.dat (.list ((turnL ms).map enc).reverse), S) := eFrz_obj rfl
      rw [star_tup (S1 := S) (S2 := S) (d := wd true) (l := ((turnL ms).map enc).reverse) (p := .dat (.list ((turnL ms).map enc).reverse)) (ix0_node (w := true) (ms := ms) rfl) hr rfl (by rw [List.length_reverse, List.length_map, turnL_len]; exact hl)]
      show some (Fl.ret (P.dat (.tuple (wd true :: ((turnL ms).map enc).reverse))), _, S) = _
      rw [← List.map_reverse, ← enc_node]
      rfl
end Lw
set_option Elab.async false
set_option linter.all false
set_option maxRecDepth 100000
set_option maxHeartbeats 1000000
/-! E3: plain, struck. -/
namespace Lw
open PySem PySem.Spec PyProof.Rows L2 Me Tm
theorem keys_map {F : VF} {S : Sto} (key : T → Nat) : ∀ ms : List T, (∀ m ∈ ms, ∃ S', F [.dat (enc m)] S = some (.dat (.int (key m : Nat)), S')) → keysOf F S (ms.map enc) = some (ms.map fun m => ((key m : Nat) : Int))
  | [], _ => rfl
  | m :: ms, h => by
    obtain ⟨S', e⟩ := h m (List.mem_cons_self ..)
    show bd (F [.dat (enc m)] S) _ = _
    rw [e]
    show bd (keysOf F S (ms.map enc)) _ = _
    rw [keys_map key ms fun x hx => h x (List.mem_cons_of_mem _ hx)]
    rfl
theorem skD_map (key : T → Nat) (ms : List T) : skD (ms.map enc) (ms.map fun m => ((key m : Nat) : Int)) = (ms.mergeSort fun a b => decide (key a ≤ key b)).map enc := by
  unfold skD
  rw [PySem.W.dataLe_int (fun b : D × Int => b.2)]
  have e : (ms.map enc).zip (ms.map fun m => ((key m : Nat) : Int)) = ms.map fun m => (enc m, ((key m : Nat) : Int)) := by
    induction ms with
    | nil => rfl
    | cons m ms ih => rw [List.map_cons, List.map_cons, List.zip_cons_cons, ih]; rfl
  rw [e, ← List.map_mergeSort (r := fun a b : T => decide (key a ≤ key b)) (fun a _ b _ => by
    show decide (key a ≤ key b) = decide (((key a : Nat) : Int) ≤ ((key b : Nat) : Int))
    simp), List.map_map]
  rfl
theorem plain_mem {ms : List T} {m : T} (h : m ∈ plainL ms) : ∃ k ∈ ms, m = plain k := by
  rw [plainL_map] at h
  obtain ⟨k, hk, e⟩ := List.mem_map.mp h
  exact ⟨k, hk, e.symm⟩
mutual
theorem dp_plain : ∀ t, dp (plain t) = dp t
  | .leaf _ => rfl
  | .node true ms => congrArg (· + 1) (dpL_plain ms)
  | .node false ms => by
    show dpL ((plainL ms).mergeSort _) + 1 = dpL ms + 1
    rw [dpL_perm (List.mergeSort_perm _ _), dpL_plain ms]
theorem dpL_plain : ∀ ms, dpL (plainL ms) = dpL ms
  | [] => rfl
  | m :: ms => by
    show max (dp (plain m)) (dpL (plainL ms)) = _
    rw [dp_plain m, dpL_plain ms]
    rfl
theorem dpL_perm {xs ys : List T} (p : xs.Perm ys) : dpL xs = dpL ys := by
  induction p with
  | nil => rfl
  | cons x _ ih => unfold dpL; rw [ih]
  | swap x y l => unfold dpL dpL; omega
  | trans _ _ h1 h2 => exact h1.trans h2
end
theorem plain_eq : ∀ (n : Nat) (t : T), Wf t → sz t ≤ 60 → dp t ≤ n → dp t ≤ 40 → ∀ S, F_plain_in n [.dat (enc t)] S = some (.dat (enc (plain t)), S)
  | 0, t, _, _, h, _, _ => by cases t <;> simp [dp] at h
  | n + 1, .leaf i, _, _, _, _, S => by
    rw [show F_plain_in (n + 1) = fnRun 1 3 (b_plain_in (F_plain_in n)) from rfl]
    refine fn_dat (S' := S) (ρ' := [some (.dat (enc (.leaf i))), none, none]) rfl ?_ (List.take_length ..)
    show b_plain_in _ [some (.dat (enc (.leaf i))), none, none] S = _
    unfold b_plain_in
    refine seq_ret ?_
    rw [if_true (not_eq (cE_eq (isT_leaf rfl)))]
    rfl
  | n + 1, .node w ms, hw, hs, h, h40, S => by
    rw [show F_plain_in (n + 1) = fnRun 1 3 (b_plain_in (F_plain_in n)) from rfl]
    have hl := len_lim hs hw
    have c1 : eFrz (eLc (iSeq (eFrz (eSl (eVar 0) (pSo (eC (.int 1))) pNo))) [2] (gNm 2) cYes (eCall (F_plain_in n) (aCons (eVar 2) aNil))) [some (.dat (enc (.node w ms))), none, none] S = some (.dat (.list ((plainL ms).map enc)), S) := by
      rw [rec_comp (w := w) (ms := ms) (val := fun m => enc (plain m)) rfl (by simp) fun m hm S => plain_eq n m (WfL_iff.mp hw.2 m hm).2 (sz_mem hs m hm) (dp_ms h m hm) (by have := dp_mem hm; have h4 : dpL ms + 1 ≤ 40 := h40; omega) S, plainL_map, List.map_map]
      rfl
    have c2 : eFrz (eSrtK (F_least_of 40) (aCons (eVar 1) aNil)) [some (.dat (enc (.node w ms))), some (.dat (.list ((plainL ms).map enc))), none] S = some (.dat (.list ((byMn (plainL ms)).map enc)), S) := by
      refine eFrz_obj ?_
      unfold eSrtK
      show bd (keysOf (F_least_of 40) [] ((plainL ms).map enc)) _ = _
      rw [keys_map mn (plainL ms) fun m hm => by
        obtain ⟨k, hk, rfl⟩ := plain_mem hm
        refine ⟨_, least_eq 40 _ (wf_plain k (WfL_iff.mp hw.2 k hk).2) ?_ []⟩
        rw [dp_plain]
        have := dp_mem hk
        have h4 : dpL ms + 1 ≤ 40 := h40
        omega]
      show some (P.obj S.length, S ++ [.lst (skD ((plainL ms).map enc) ((plainL ms).map fun m => ((mn m : Nat) : Int)))]) = _
      rw [skD_map]
      rfl
    cases w with
    | true =>
      refine fn_dat (S' := S) (ρ' := [some (.dat (enc (.node true ms))), some (.dat (.list ((plainL ms).map enc))), none]) rfl ?_ (List.take_length ..)
      show b_plain_in _ [some (.dat (enc (.node true ms))), none, none] S = _
      unfold b_plain_in
      rw [seq_nx (by rw [if_false (not_eq (cE_eq (isT_node rfl)))]; rfl)]
      rw [seq_nx (show sSet 1 _ [some (.dat (enc (.node true ms))), none, none] S = some (.nx, [some (.dat (enc (.node true ms))), some (.dat (.list ((plainL ms).map enc))), none], S) by unfold sSet; rw [c1]; rfl)]
      rw [seq_nx (by rw [if_false (wd_beside (w := true) (ms := ms) rfl)]; rfl)]
      unfold sRet
      rw [star_tup (S1 := S) (S2 := S) (d := wd true) (l := (plainL ms).map enc) (p := .dat (.list ((plainL ms).map enc))) (ix0_node (w := true) (ms := ms) rfl) rfl rfl (by rw [List.length_map, plainL_len]; exact hl)]
      show some (Fl.ret (P.dat (.tuple (wd true :: (plainL ms).map enc))), _, S) = _
      rw [← enc_node]
      rfl
    | false =>
      refine fn_dat (S' := S) (ρ' := [some (.dat (enc (.node false ms))), some (.dat (.list ((byMn (plainL ms)).map enc))), none]) rfl ?_ (List.take_length ..)
      show b_plain_in _ [some (.dat (enc (.node false ms))), none, none] S = _
      unfold b_plain_in
      rw [seq_nx (by rw [if_false (not_eq (cE_eq (isT_node rfl)))]; rfl)]
      rw [seq_nx (show sSet 1 _ [some (.dat (enc (.node false ms))), none, none] S = some (.nx, [some (.dat (enc (.node false ms))), some (.dat (.list ((plainL ms).map enc))), none], S) by unfold sSet; rw [c1]; rfl)]
      rw [seq_nx (show sIf _ _ _ [some (.dat (enc (.node false ms))), some (.dat (.list ((plainL ms).map enc))), none] S = some (.nx, [some (.dat (enc (.node false ms))), some (.dat (.list ((byMn (plainL ms)).map enc))), none], S) by
        rw [if_true (wd_beside (w := false) (ms := ms) rfl)]
        unfold sSet
        rw [c2]
        rfl)]
      unfold sRet
      rw [star_tup (S1 := S) (S2 := S) (d := wd false) (l := (byMn (plainL ms)).map enc) (p := .dat (.list ((byMn (plainL ms)).map enc))) (ix0_node (w := false) (ms := ms) rfl) rfl rfl (by rw [List.length_map, (byMn_perm _).length_eq, plainL_len]; exact hl)]
      show some (Fl.ret (P.dat (.tuple (wd false :: (byMn (plainL ms)).map enc))), _, S) = _
      rw [← enc_node]
      rfl
end Lw
set_option Elab.async false
set_option linter.all false
set_option maxRecDepth 100000
set_option maxHeartbeats 1000000
/-! E4: struck. -/
namespace Lw
open PySem PySem.Spec PyProof.Rows L2 Me Tm
def encO : Option T → D
  | none => .none
  | some t => enc t
/-- names tells f -/
def Names (f : Nat → Option Nat) (k : Nat) (S : Sto) (l : List Nat) : Prop := ∃ kvs, S[k]? = some (.dK kvs) ∧ ∀ i ∈ l, dfind kvs (.inl ((i : Nat) : Int)) = (f i).map fun j => PyData.int (j : Nat)
theorem Names.app {f : Nat → Option Nat} {k : Nat} {S J : Sto} {l : List Nat} (h : Names f k S l) : Names f k (S ++ J) l := by
  obtain ⟨kvs, h1, h2⟩ := h
  refine ⟨kvs, ?_, h2⟩
  rw [List.getElem?_append_left (List.getElem?_eq_some_iff.mp h1).1]
  exact h1
theorem Names.sub {f : Nat → Option Nat} {k : Nat} {S : Sto} {l m : List Nat} (h : Names f k S l) (hs : ∀ x ∈ m, x ∈ l) : Names f k S m := by
  obtain ⟨kvs, h1, h2⟩ := h
  exact ⟨kvs, h1, fun i hi => h2 i (hs i hi)⟩
theorem put_enc {w : Bool} {o : Option T} : (put w o).map enc = match o with
    | none => []
    | some l => if l.is w then l.mem.map enc else [enc l] := by
  cases o with
  | none => rfl
  | some l => cases hb : l.is w <;> simp [put, hb]
theorem app_at {S : Sto} {m : MO} {xs ys : List D} (h : (S ++ [MO.lst xs]) = (S ++ [MO.lst ys])) : xs = ys := by
  have := List.append_cancel_left h
  simpa using this
theorem oLen_obj {S : Sto} {xs : List D} : oLen [.obj S.length] (S ++ [.lst xs]) = some (.dat (.int xs.length), S ++ [.lst xs]) := by
  simp [oLen, one1, bd, seqOf]
theorem rd_obj {S : Sto} {xs : List D} : rdP (.obj S.length) (S ++ [.lst xs]) = some (.list xs) := by
  simp [rdP, lstAt, bd]
theorem seq_obj {S : Sto} {xs : List D} : seqOf (.obj S.length) (S ++ [.lst xs]) = some xs := by
  simp [seqOf]
theorem okL {ms : List T} (h : ∀ m ∈ ms, dp m ≤ 60) : okD (.list (ms.map enc)) = true := by
  unfold okD SeqAt.shaped
  rw [← encL_map]
  have h1 : PyData.canLay0 (.list (encL ms)) = true := by simp [PyData.canLay0, encL_lay]
  rw [h1, Bool.true_and]
  refine decide_eq_true ?_
  have h2 := encL_dep ms
  have h3 : dpL ms ≤ 60 := by
    clear h1 h2
    induction ms with
    | nil => exact Nat.zero_le _
    | cons m ms ih =>
      have := h m (List.mem_cons_self ..)
      have := ih fun x hx => h x (List.mem_cons_of_mem _ hx)
      unfold dpL
      omega
  simp only [PyData.depth]
  omega
theorem frz_one {i : Nat} {ρ : Ev} {S : Sto} {d : D} (h : ρ.getD i none = some (.dat d)) : eFrz (eLst (aCons (eVar i) aNil)) ρ S = some (.dat (.list [d]), S) := by
  refine eFrz_obj ?_
  unfold eLst aCons
  rw [var_eq h]
  rfl
theorem frz_tail {i : Nat} {ρ : Ev} {S : Sto} {a : D} {l : List D} (h : ρ.getD i none = some (.dat (.tuple (a :: l)))) : eFrz (eCall oList (aCons (eFrz (eSl (eVar i) (pSo (eC (.int 1))) pNo)) aNil)) ρ S = some (.dat (.list l), S) := by
  refine eFrz_obj ?_
  rw [call1 (tail_src h)]
  rfl
mutual
theorem dp_strike (f : Nat → Option Nat) : ∀ t, ∀ s, strike f t = some s → dp s ≤ dp t
  | .leaf i, s, e => by
    cases h : f i <;> simp [strike, h] at e
    subst e
    exact Nat.le_refl _
  | .node w ms, s, e => by
    have h1 := dpL_strike f w ms
    have e : mk w (strikeL f w ms) = some s := e
    generalize strikeL f w ms = xs at e h1
    match xs, e with
    | [x], e =>
      cases e
      have : dpL [s] = dp s := by unfold dpL dpL; omega
      have h2 : dp (.node w ms) = dpL ms + 1 := rfl
      omega
    | x :: y :: r, e =>
      cases e
      show dpL (x :: y :: r) + 1 ≤ dpL ms + 1
      omega
theorem dpL_strike (f : Nat → Option Nat) (w : Bool) : ∀ ms, dpL (strikeL f w ms) ≤ dpL ms
  | [] => Nat.le_refl _
  | m :: ms => by
    have h1 := dpL_strike f w ms
    have app : ∀ xs ys : List T, dpL (xs ++ ys) = max (dpL xs) (dpL ys) := fun xs ys => by
      induction xs with
      | nil => simp [dpL]
      | cons x xs ih =>
        show max (dp x) (dpL (xs ++ ys)) = max (max (dp x) (dpL xs)) (dpL ys)
        rw [ih]
        omega
    have h2 : dpL (put w (strike f m)) ≤ dp m := by
      cases e : strike f m with
      | none => exact Nat.zero_le _
      | some l =>
        have h3 := dp_strike f m l e
        cases l with
        | leaf i =>
          show dpL [.leaf i] ≤ _
          have : dpL [T.leaf i] = dp (.leaf i) := by unfold dpL dpL; omega
          omega
        | node v ks =>
          rw [put_node]
          have h4 : dp (.node v ks) = dpL ks + 1 := rfl
          split
          · omega
          · have : dpL [T.node v ks] = dp (.node v ks) := by unfold dpL dpL; omega
            omega
    rw [strikeL, app]
    show _ ≤ max (dp m) (dpL ms)
    omega
end
theorem szL_le {f : Nat → Option Nat} {w : Bool} {ms : List T} : szL (strikeL f w ms) ≤ szL ms := by
  unfold szL
  rw [lv_strikeL]
  exact List.length_filterMap_le _ _
theorem len_szL {w : Bool} : ∀ {ms : List T}, WfL w ms → ms.length ≤ szL ms
  | [], _ => Nat.zero_le _
  | m :: ms, hw => by
    have h1 : 1 ≤ sz m := List.length_pos_iff.mpr (lv_ne m hw.1.2)
    have h2 := len_szL hw.2
    rw [szL_cons, List.length_cons]
    omega
theorem strikeL_app (f : Nat → Option Nat) (w : Bool) : ∀ xs ys : List T, strikeL f w (xs ++ ys) = strikeL f w xs ++ strikeL f w ys
  | [], _ => rfl
  | x :: xs, ys => by rw [List.cons_append, strikeL, strikeL, strikeL_app f w xs ys, List.append_assoc]
theorem strikeL_dp {f : Nat → Option Nat} {w : Bool} {ms : List T} : ∀ m ∈ strikeL f w ms, dp m ≤ dpL ms := fun m hm => Nat.le_trans (dp_mem hm) (dpL_strike f w ms)
theorem sz_dp {t : T} (hw : Wf t) (h : sz t ≤ 60) : dp t ≤ 60 := Nat.le_trans (dp_sz t hw) h
theorem struck_eq (f : Nat → Option Nat) (k : Nat) : ∀ (n : Nat) (t : T), Wf t → sz t ≤ 60 → dp t ≤ n → ∀ S, Names f k S (lvs t) → F_struck n [.dat (enc t), .obj k] S = some (.dat (encO (strike f t)), S)
  | 0, t, _, _, h, _, _ => by cases t <;> simp [dp] at h
  | n + 1, .leaf i, _, _, _, S, hn => by
    rw [show F_struck (n + 1) = fnRun 2 6 (b_struck (F_struck n)) from rfl]
    refine fn_dat (S' := S) (ρ' := [some (.dat (enc (.leaf i))), some (.obj k), none, none, none, none]) rfl ?_ (List.take_length ..)
    show b_struck _ [some (.dat (enc (.leaf i))), some (.obj k), none, none, none, none] S = _
    unfold b_struck
    refine seq_ret ?_
    rw [if_true (not_eq (cE_eq (isT_leaf rfl)))]
    obtain ⟨kvs, h1, h2⟩ := hn
    have h3 := h2 i (by simp [lvs])
    have e : eGet (eVar 1) (eVar 0) [some (.dat (enc (.leaf i))), some (.obj k), none, none, none, none] S = some (.dat (encO (strike f (.leaf i))), S) := by
      unfold eGet
      show (match S[k]? with
        | some (.dK _) => bd (eVar 0 [some (.dat (enc (.leaf i))), some (.obj k), none, none, none, none] S) fun y => bd (dlook (.obj k) y.1 y.2) fun o => some (P.dat (o.getD .none), y.2)
        | some (.dT _) => _
        | _ => none) = _
      rw [h1]
      show bd (dlook (.obj k) (.dat (.int (i : Nat))) S) (fun o => some (P.dat (o.getD .none), S)) = _
      have hd : dlook (.obj k) (.dat (.int (i : Nat))) S = some (dfind kvs (.inl ((i : Nat) : Int))) := by
        unfold dlook
        simp [h1, asKeyP, asDat, asKey, bd]
      rw [hd, h3]
      cases h4 : f i <;> simp [strike, h4, encO, enc, bd]
    unfold sRet
    rw [e]
    rfl
  | n + 1, .node w ms, hw, hs, h, S, hn => by
    rw [show F_struck (n + 1) = fnRun 2 6 (b_struck (F_struck n)) from rfl]
    have hwm := WfL_iff.mp hw.2
    have h60 : dpL ms ≤ 60 := by
      have h1 := sz_dp hw hs
      have h2 : dp (.node w ms) = dpL ms + 1 := rfl
      omega
    have hlen : (strikeL f w ms).length ≤ 60 := by
      have h1 := len_szL (wf_strikeL f w ms hw.2)
      have h2 : szL (strikeL f w ms) ≤ szL ms := szL_le
      have h3 : sz (.node w ms) = szL ms := rfl
      omega
    have hb : ∃ ρ', b_struck (F_struck n) [some (.dat (enc (.node w ms))), some (.obj k), none, none, none, none] S = some (.ret (.dat (encO (strike f (.node w ms)))), ρ', S ++ [.lst ((strikeL f w ms).map enc)]) := by
      unfold b_struck
      rw [seq_nx (by rw [if_false (not_eq (cE_eq (isT_node rfl)))]; rfl)]
      rw [seq_nx (show sSet 2 (eLst aNil) [some (.dat (enc (.node w ms))), some (.obj k), none, none, none, none] S = some (.nx, [some (.dat (enc (.node w ms))), some (.obj k), some (.obj S.length), none, none, none], S ++ [.lst []]) from rfl)]
      obtain ⟨ρ', S', e, ⟨z3, z4, z5, hz⟩, h2⟩ := sFor_map (ws := iSeq (eFrz (eSl (eVar 0) (pSo (eC (.int 1))) pNo))) (g := gNm 3)
        (b := sSeq (sSet 4 (eCall (F_struck n) (aCons (eVar 3) (aCons (eVar 1) aNil)))) (sIf (cE (eOp oNotN (eVar 4) (eC .none))) (sSeq (sSet 5 (eAnd (eIsi "tuple" (eVar 4)) (eOp oEq (eOp oIx (eVar 4) (eC (.int 0))) (eOp oIx (eVar 0) (eC (.int 0)))))) (sDrop (eMt oExtend (eVar 2) (aCons (eFrz (eIf (cE (eVar 5)) (eFrz (eCall oList (aCons (eFrz (eSl (eVar 4) (pSo (eC (.int 1))) pNo)) aNil))) (eFrz (eLst (aCons (eVar 4) aNil))))) aNil)))) sNil))
        (ρ := [some (.dat (enc (.node w ms))), some (.obj k), some (.obj S.length), none, none, none]) (S := S ++ [.lst []]) (S0 := S ++ [.lst []]) (xs := ms) enc
        (fun pre ρ S' => (∃ z3 z4 z5, ρ = [some (.dat (enc (.node w ms))), some (.obj k), some (.obj S.length), z3, z4, z5]) ∧ S' = S ++ [.lst ((strikeL f w pre).map enc)]) (tail_node rfl) ⟨⟨none, none, none, rfl⟩, rfl⟩ (fun pre m suf ρ S' hcut ⟨⟨z3, z4, z5, hρ⟩, hS⟩ => by
          subst hρ hS
          have hm : m ∈ ms := by rw [← hcut]; simp
          have hsub : ∀ x ∈ lvs m, x ∈ lvs (.node w ms) := fun x hx => mem_lvL.mpr ⟨m, hm, hx⟩
          have hR : F_struck n [.dat (enc m), .obj k] (S ++ [.lst ((strikeL f w pre).map enc)]) = some (.dat (encO (strike f m)), S ++ [.lst ((strikeL f w pre).map enc)]) :=
            struck_eq f k n m (hwm m hm).2 (sz_mem hs m hm) (dp_ms h m hm) _ (hn.sub hsub).app
          have s4 : ∀ z4, sSet 4 (eCall (F_struck n) (aCons (eVar 3) (aCons (eVar 1) aNil))) [some (.dat (enc (.node w ms))), some (.obj k), some (.obj S.length), some (.dat (enc m)), z4, z5] (S ++ [.lst ((strikeL f w pre).map enc)]) = some (.nx, [some (.dat (enc (.node w ms))), some (.obj k), some (.obj S.length), some (.dat (enc m)), some (.dat (encO (strike f m))), z5], S ++ [.lst ((strikeL f w pre).map enc)]) := fun z4 => by
            unfold sSet eCall
            show bd (F_struck n [.dat (enc m), .obj k] _) _ = _
            rw [hR]
            rfl
          have hl2 : ((strikeL f w pre).map enc).length + ((put w (strike f m)).map enc).length ≤ lim := by
            have h1 : strikeL f w (pre ++ [m]) = strikeL f w pre ++ put w (strike f m) := by rw [strikeL_app]; simp [strikeL]
            have h2 : (strikeL f w ms).length = (strikeL f w (pre ++ [m])).length + (strikeL f w suf).length := by
              rw [← hcut, show pre ++ m :: suf = (pre ++ [m]) ++ suf by simp, strikeL_app, List.length_append]
            rw [h1, List.length_append] at h2
            rw [List.length_map, List.length_map]
            have : (60 : Nat) ≤ lim := by decide
            omega
          have hfin : strikeL f w (pre ++ [m]) = strikeL f w pre ++ put w (strike f m) := by rw [strikeL_app]; simp [strikeL]
          refine ⟨[some (.dat (enc (.node w ms))), some (.obj k), some (.obj S.length), some (.dat (enc m)), z4, z5], ?_⟩
          cases hst : strike f m with
          | none =>
            refine ⟨.nx, [some (.dat (enc (.node w ms))), some (.obj k), some (.obj S.length), some (.dat (enc m)), some (.dat .none), z5], S ++ [.lst ((strikeL f w pre).map enc)], rfl, ?_, .inl rfl, ⟨_, _, _, rfl⟩, ?_⟩
            · rw [seq_nx (s4 z4), hst, if_false (show cE (eOp oNotN (eVar 4) (eC .none)) _ _ = some (false, _) from rfl)]
              rfl
            · rw [hfin, hst, List.map_append]
              simp [put]
          | some l =>
            have hl60 : dp l ≤ 60 := by
              have h1 := dp_strike f m l hst
              have h2 := dp_mem hm
              omega
            have nn : cE (eOp oNotN (eVar 4) (eC .none)) [some (.dat (enc (.node w ms))), some (.obj k), some (.obj S.length), some (.dat (enc m)), some (.dat (enc l)), z5] (S ++ [.lst ((strikeL f w pre).map enc)]) = some (true, S ++ [.lst ((strikeL f w pre).map enc)]) := by
              refine cE_eq ?_
              have : isNone (.dat (enc l)) = false := by cases l <;> rfl
              rw [op_eq' (var_eq rfl) rfl]
              show (if isNone (.dat .none) = true then some (P.dat (.bool (!isNone (.dat (enc l)))), S ++ [MO.lst ((strikeL f w pre).map enc)]) else none) = _
              rw [this]
              rfl
            have c5 : eAnd (eIsi "tuple" (eVar 4)) (eOp oEq (eOp oIx (eVar 4) (eC (.int 0))) (eOp oIx (eVar 0) (eC (.int 0)))) [some (.dat (enc (.node w ms))), some (.obj k), some (.obj S.length), some (.dat (enc m)), some (.dat (enc l)), z5] (S ++ [.lst ((strikeL f w pre).map enc)]) = some (.dat (.bool (l.is w)), S ++ [.lst ((strikeL f w pre).map enc)]) := by
              unfold eAnd
              cases l with
              | leaf i =>
                rw [cE_eq (isT_leaf (k := i) rfl)]
                rfl
              | node v ks =>
                rw [cE_eq (isT_node (w := v) (ms := ks) rfl)]
                simp only [bd_some, if_true]
                rw [op_eq' (ix0_node (w := v) (ms := ks) rfl) (ix0_node (w := w) (ms := ms) rfl)]
                unfold oEq
                simp [rdP, wd_ok, wd_eqv, T.is]
            have ex : ∀ B : Bool, B = l.is w → eFrz (eIf (cE (eVar 5)) (eFrz (eCall oList (aCons (eFrz (eSl (eVar 4) (pSo (eC (.int 1))) pNo)) aNil))) (eFrz (eLst (aCons (eVar 4) aNil)))) [some (.dat (enc (.node w ms))), some (.obj k), some (.obj S.length), some (.dat (enc m)), some (.dat (enc l)), some (.dat (.bool B))] (S ++ [.lst ((strikeL f w pre).map enc)]) = some (.dat (.list ((put w (some l)).map enc)), S ++ [.lst ((strikeL f w pre).map enc)]) := fun B hB => by
              refine eFrz_dat ?_
              unfold eIf
              rw [cE_eq (show eVar 5 _ (S ++ [.lst ((strikeL f w pre).map enc)]) = some (.dat (.bool B), _) from rfl), put_enc]
              cases l with
              | leaf i =>
                have : B = false := hB
                subst this
                simp only [bd_some, Bool.false_eq_true, ↓reduceIte, T.is]
                exact frz_one (i := 4) rfl
              | node v ks =>
                by_cases hv : v = w
                · subst hv
                  have : B = true := by rw [hB]; simp [T.is]
                  subst this
                  have hv : (T.node v ks).is v = true := by simp [T.is]
                  simp only [bd_some, ↓reduceIte, hv]
                  exact frz_tail (i := 4) (a := wd v) (l := ks.map enc) (by rw [← enc_node]; rfl)
                · have : B = false := by rw [hB]; simp [T.is, hv]
                  subst this
                  have hv' : (T.node v ks).is w = false := by simp [T.is, hv]
                  simp only [bd_some, Bool.false_eq_true, ↓reduceIte, hv']
                  exact frz_one (i := 4) rfl
            rw [hst] at hl2
            refine ⟨.nx, [some (.dat (enc (.node w ms))), some (.obj k), some (.obj S.length), some (.dat (enc m)), some (.dat (enc l)), some (.dat (.bool (l.is w)))], S ++ [.lst ((strikeL f w pre).map enc ++ (put w (some l)).map enc)], rfl, ?_, .inl rfl, ⟨_, _, _, rfl⟩, ?_⟩
            · rw [seq_nx (s4 z4), hst, show encO (some l) = enc l from rfl, if_true nn]
              rw [seq_nx (show sSet 5 _ [some (.dat (enc (.node w ms))), some (.obj k), some (.obj S.length), some (.dat (enc m)), some (.dat (enc l)), z5] _ = some (.nx, [some (.dat (enc (.node w ms))), some (.obj k), some (.obj S.length), some (.dat (enc m)), some (.dat (enc l)), some (.dat (.bool (l.is w)))], _) by unfold sSet; rw [c5]; rfl)]
              exact ext_eq rfl (ex _ rfl) hl2
            · rw [hfin, hst, List.map_append])
      subst hz h2
      rw [seq_nx e]
      have hemp : cE (eOp oEq (eVar 2) (eFrz (eLst aNil))) [some (.dat (enc (.node w ms))), some (.obj k), some (.obj S.length), z3, z4, z5] (S ++ [.lst ((strikeL f w ms).map enc)]) = some ((strikeL f w ms).isEmpty, S ++ [.lst ((strikeL f w ms).map enc)]) := by
        refine cE_eq ?_
        rw [op_eq' (var_eq rfl) (eFrz_obj rfl)]
        have k1 : okD (.list ((strikeL f w ms).map enc)) = true := okL fun m hm => Nat.le_trans (strikeL_dp m hm) h60
        have k2 : okD (.list []) = true := by decide +kernel
        unfold oEq
        rw [rd_obj]
        cases hx : strikeL f w ms with
        | nil => simp [rdP, k2, bd, PyData.eqv, PyData.eqvAll]
        | cons a r =>
          rw [hx] at k1
          rw [List.map_cons] at k1
          simp [rdP, k1, k2, bd, PyData.eqv, PyData.eqvAll]
      have hlen1 : cE (eOp oEq (eCall oLen (aCons (eVar 2) aNil)) (eC (.int 1))) [some (.dat (enc (.node w ms))), some (.obj k), some (.obj S.length), z3, z4, z5] (S ++ [.lst ((strikeL f w ms).map enc)]) = some (decide ((strikeL f w ms).length = 1), S ++ [.lst ((strikeL f w ms).map enc)]) := by
        refine cE_eq ?_
        rw [op_eq' (call1 (var_eq rfl) |>.trans oLen_obj) rfl]
        have k1 : ∀ i : Int, okD (.int i) = true := fun i => by simp [okD, SeqAt.shaped, PyData.canLay0, PyData.depth]
        have k2 : PyData.eqv (.int ((((strikeL f w ms).map enc).length : Nat) : Int)) (.int 1) = decide ((strikeL f w ms).length = 1) := by
          rw [List.length_map]
          by_cases hh : (strikeL f w ms).length = 1
          · rw [hh]; simp [PyData.eqv]
          · have : ¬ (((strikeL f w ms).length : Int) = 1) := by omega
            simp [PyData.eqv, hh, this]
        unfold oEq
        simp only [rdP, bd_some, k1, Bool.and_self, ↓reduceIte, k2]
      cases hx : strikeL f w ms with
      | nil =>
        refine ⟨_, seq_ret (ρ' := [some (.dat (enc (.node w ms))), some (.obj k), some (.obj S.length), z3, z4, z5]) ?_⟩
        rw [hx] at hemp
        rw [if_true hemp]
        rw [strike, hx]
        rfl
      | cons a r =>
        rw [hx] at hemp hlen1 hlen
        rw [seq_nx (by rw [if_false hemp]; rfl)]
        refine ⟨[some (.dat (enc (.node w ms))), some (.obj k), some (.obj S.length), z3, z4, z5], ?_⟩
        unfold sRet eIf
        rw [hlen1]
        cases r with
        | nil =>
          simp only [bd_some, List.length_singleton, decide_true, if_true]
          rw [op_eq' (var_eq rfl) rfl]
          rw [strike, hx]
          have : oIx (.obj S.length) (.dat (.int 0)) (S ++ [.lst ([a].map enc)]) = some (.dat (enc a), S ++ [.lst ([a].map enc)]) := by
            unfold oIx
            rw [seq_obj]
            rfl
          rw [this]
          rfl
        | cons b r =>
          have : ¬ ((a :: b :: r).length = 1) := by simp
          simp only [bd_some, decide_eq_false this, Bool.false_eq_true, if_false]
          rw [star_tup (d := wd w) (l := (a :: b :: r).map enc) (p := .obj S.length) (ix0_node (w := w) (ms := ms) rfl) rfl seq_obj (by
            rw [List.length_map]
            have : (61 : Nat) ≤ lim := by decide
            omega)]
          rw [strike, hx]
          show some (Fl.ret (P.dat (.tuple (wd w :: (a :: b :: r).map enc))), _, _) = _
          rw [← enc_node]
          rfl
    obtain ⟨ρ', hb⟩ := hb
    exact fn_dat rfl hb take_app
end Lw
set_option Elab.async false
set_option linter.all false
set_option maxRecDepth 100000
set_option maxHeartbeats 1000000
/-! E5: sorted lists; what is required of a term. -/
namespace Lw
open PySem PySem.Spec PyProof.Rows L2 Me Tm
def encP (p : Pr) : D := .tuple [.int (p.1 : Nat), .int (p.2 : Nat)]
theorem sortD_map {β : Type} (f : β → D) (xs : List β) : sortD (xs.map f) = (xs.mergeSort (PySem.W.dataLe false f)).map f := by
  unfold sortD
  exact (List.map_mergeSort (r := PySem.W.dataLe false f) (s := PySem.W.dataLe false id) (f := f) (fun a _ b _ => rfl)).symm
theorem sortD_nat (l : List Nat) : sortD (nD l) = nD (isort l) := by
  unfold nD
  rw [sortD_map, PySem.W.dataLe_int (fun i : Nat => ((i : Nat) : Int))]
  have : (fun a b : Nat => decide (((a : Nat) : Int) ≤ ((b : Nat) : Int))) = leN := by
    funext a b
    simp [leN]
  rw [this]
  rfl
def leP (p q : Pr) : Bool := decide (p.1 < q.1 ∨ (p.1 = q.1 ∧ p.2 ≤ q.2))
theorem leP_iff {p q : Pr} : leP p q = true ↔ p.1 < q.1 ∨ (p.1 = q.1 ∧ p.2 ≤ q.2) := by simp [leP]
theorem psort_eq {l m : List Pr} (p : l.Perm m) (h : m.Pairwise ltP) : l.mergeSort leP = m := by
  have h1 := List.pairwise_mergeSort (le := leP) (fun a b c h1 h2 => by rw [leP_iff] at *; omega) (fun a b => by
    rw [Bool.or_eq_true, leP_iff, leP_iff]
    omega) l
  refine List.Perm.eq_of_pairwise (le := fun a b => leP a b = true) (fun a b _ _ h1 h2 => ?_) h1 (h.imp fun {a b} h => ?_) ((List.mergeSort_perm _ _).trans p)
  · rw [leP_iff] at h1 h2
    exact Prod.ext (by omega) (by omega)
  · rw [leP_iff]
    rcases h with h | h <;> omega
theorem sortD_pairs {l m : List Pr} (p : l.Perm m) (h : m.Pairwise ltP) : sortD (l.map encP) = m.map encP := by
  rw [sortD_map]
  have : PySem.W.dataLe false encP = leP := by
    have := PySem.W.dataLe_ii (fun p : Pr => ((p.1 : Nat) : Int)) (fun p : Pr => ((p.2 : Nat) : Int))
    show PySem.W.dataLe false (fun p : Pr => PyData.tuple [.int ((p.1 : Nat) : Int), .int ((p.2 : Nat) : Int)]) = leP
    rw [this]
    funext p q
    rw [Bool.eq_iff_iff, leP_iff, decide_eq_true_iff]
    omega
  rw [this, psort_eq p h]
theorem ok_nat (l : List Nat) : SortOk (nD l) := by
  refine ⟨fun d hd e he => ?_, .inr fun d hd => ?_, fun d hd => ?_⟩
  · obtain ⟨i, _, rfl⟩ := List.mem_map.mp hd
    obtain ⟨j, _, rfl⟩ := List.mem_map.mp he
    rfl
  · obtain ⟨i, _, rfl⟩ := List.mem_map.mp hd
    exact ⟨(by intro z; cases z), (by intro _ z; cases z)⟩
  · obtain ⟨i, _, rfl⟩ := List.mem_map.mp hd
    simp [PyData.depth]
theorem ok_pairs (l : List Pr) : SortOk (l.map encP) := by
  refine ⟨fun d hd e he => ?_, .inl fun d hd => ?_, fun d hd => ?_⟩
  · obtain ⟨i, _, rfl⟩ := List.mem_map.mp hd
    obtain ⟨j, _, rfl⟩ := List.mem_map.mp he
    simp [encP, PySem.W.alike, PySem.W.alikeAll]
  · obtain ⟨i, _, rfl⟩ := List.mem_map.mp hd
    exact ⟨_, _, rfl⟩
  · obtain ⟨i, _, rfl⟩ := List.mem_map.mp hd
    simp [encP, PyData.depth, PyData.depthAll]
theorem sorted_frz {ρ : Ev} {S : Sto} {f : EF} {ds es : List D} (hf : f ρ S = some (.dat (.list ds), S)) (ok : SortOk ds) (e : sortD ds = es) : eFrz (eCall oSorted (aCons f aNil)) ρ S = some (.dat (.list es), S) := by
  refine eFrz_obj ?_
  rw [call1 hf]
  unfold oSorted
  simp only [one1, lsqOf, bd_some, if_pos ok, e]
theorem nD_ok (l : List Nat) : okD (.list (nD l)) = true := by
  unfold okD SeqAt.shaped
  have h1 : ∀ l : List Nat, PyData.canLayAll0 (nD l) = true := fun l => by
    induction l with
    | nil => rfl
    | cons a l ih => simp [nD, PyData.canLayAll0, PyData.canLay0] at *; exact ih
  have h2 : ∀ l : List Nat, PyData.depthAll (nD l) = 0 := fun l => by
    induction l with
    | nil => rfl
    | cons a l ih => simp [nD, PyData.depthAll, PyData.depth] at *; exact ih
  simp [PyData.canLay0, PyData.depth, h1, h2]
theorem nD_eqv (l m : List Nat) : PyData.eqv (.list (nD l)) (.list (nD m)) = decide (l = m) := by
  show PyData.eqv (.list (nD l)) (.list (nD m)) = _
  have h : ∀ l m : List Nat, PyData.eqvAll (nD l) (nD m) = decide (l = m) := fun l => by
    induction l with
    | nil => intro m; cases m <;> simp [nD, PyData.eqvAll]
    | cons a l ih =>
      intro m
      cases m with
      | nil => simp [nD, PyData.eqvAll]
      | cons b m =>
        have := ih m
        simp only [nD] at this
        simp only [nD, List.map_cons, PyData.eqvAll, PyData.eqv, this]
        by_cases h1 : a = b
        · subst h1; simp
        · have : ¬ ((a : Int) = (b : Int)) := by omega
          simp [h1, this]
  rw [show PyData.eqv (.list (nD l)) (.list (nD m)) = PyData.eqvAll (nD l) (nD m) by simp [PyData.eqv], h]
theorem rng_nat (n : Nat) : rngD 0 n = nD (List.range n) := by
  unfold rngD nD
  apply List.map_congr_left
  intro i _
  simp
theorem asc_range {l : List Nat} {n : Nat} (p : l.Perm (List.range n)) : isort l = List.range n := isort_eq p (lt_le List.pairwise_lt_range)
theorem lt_range_eq : True := trivial
/-! ### is_term_in -/
theorem none_notin (l : List Nat) : ((nD l).any fun z => PyData.eqv z .none) = false := by
  rw [List.any_eq_false]
  intro d hd
  obtain ⟨i, _, rfl⟩ := List.mem_map.mp hd
  simp [PyData.eqv]
theorem none_in (l : List Nat) (S : Sto) : oInX true (.dat .none) (.dat (.list (nD l))) S = some (.dat (.bool true), S) := by
  have f1 : (nD l).all flatD = true := by
    rw [List.all_eq_true]
    intro d hd
    obtain ⟨i, _, rfl⟩ := List.mem_map.mp hd
    rfl
  have e : oIn true (.dat .none) (.dat (.list (nD l))) S = some (.dat (.bool true), S) := by
    unfold oIn
    simp only [asDat, seqOf, bd_some, f1, flatD, Bool.and_self, ↓reduceIte, none_notin, Bool.not_false]
  unfold oInX
  rw [show dlook (.dat (.list (nD l))) (.dat .none) S = none from rfl]
  dsimp only
  rw [e]
theorem call2 {F : VF} {f g : EF} {ρ : Ev} {S S1 S2 : Sto} {p q : P} (h1 : f ρ S = some (p, S1)) (h2 : g ρ S1 = some (q, S2)) : eCall F (aCons f (aCons g aNil)) ρ S = F [p, q] S2 := by
  have e : aCons f (aCons g aNil) ρ S = some ([p, q], S2) := by
    unfold aCons
    rw [h1]
    simp only [bd_some]
    rw [h2]
    rfl
  unfold eCall
  rw [e]
  rfl
theorem call3 {F : VF} {f g h : EF} {ρ : Ev} {S S1 S2 S3 : Sto} {p q r : P} (h1 : f ρ S = some (p, S1)) (h2 : g ρ S1 = some (q, S2)) (h3 : h ρ S2 = some (r, S3)) : eCall F (aCons f (aCons g (aCons h aNil))) ρ S = F [p, q, r] S3 := by
  have e : aCons f (aCons g (aCons h aNil)) ρ S = some ([p, q, r], S3) := by
    unfold aCons
    rw [h1]
    simp only [bd_some]
    rw [h2]
    simp only [bd_some]
    rw [h3]
    rfl
  unfold eCall
  rw [e]
  rfl
theorem drop_eq {f : EF} {ρ : Ev} {S S' : Sto} {p : P} (h : f ρ S = some (p, S')) : sDrop f ρ S = some (.nx, ρ, S') := by
  unfold sDrop
  rw [h]
  rfl
theorem ret_eq {f : EF} {ρ : Ev} {S S' : Sto} {p : P} (h : f ρ S = some (p, S')) : sRet f ρ S = some (.ret p, ρ, S') := by
  unfold sRet
  rw [h]
  rfl
theorem chain_int {ρ : Ev} {S : Sto} {f g h : EF} {x y z : Int} (h1 : f ρ S = some (.dat (.int x), S)) (h2 : g ρ S = some (.dat (.int y), S)) (h3 : h ρ S = some (.dat (.int z), S)) (a : x < y) (b : y < z) : eChain oLtX oLtX f g h ρ S = some (.dat (.bool true), S) := by
  unfold eChain
  rw [h1]
  simp only [bd_some]
  rw [h2]
  have e1 : oLtX (.dat (.int x)) (.dat (.int y)) S = some (.dat (.bool true), S) := by
    simp [orO, oII, asInt, bd, a]
  have e2 : oLtX (.dat (.int y)) (.dat (.int z)) S = some (.dat (.bool true), S) := by
    simp [orO, oII, asInt, bd, b]
  simp only [bd_some]
  rw [e1]
  simp only [bd_some]
  rw [h3]
  exact e2
theorem lt_int {ρ : Ev} {S : Sto} {f g : EF} {x y : Int} (h1 : f ρ S = some (.dat (.int x), S)) (h2 : g ρ S = some (.dat (.int y), S)) : cE (eOp oLtX f g) ρ S = some (decide (x < y), S) := by
  refine cE_eq ?_
  rw [op_eq' h1 h2]
  simp [orO, oII, asInt, bd]
theorem gt_int {ρ : Ev} {S : Sto} {f g : EF} {x y : Int} (h1 : f ρ S = some (.dat (.int x), S)) (h2 : g ρ S = some (.dat (.int y), S)) : cE (eOp oGtX f g) ρ S = some (decide (y < x), S) := by
  refine cE_eq ?_
  rw [op_eq' h1 h2]
  simp [orO, oII, asInt, bd]
theorem notN_int {ρ : Ev} {S : Sto} {f : EF} {x : Int} (h1 : f ρ S = some (.dat (.int x), S)) : cE (eOp oNotN f (eC .none)) ρ S = some (true, S) := by
  refine cE_eq ?_
  rw [op_eq' h1 rfl]
  rfl
theorem good_ok {n : Nat} {t : T} (g : Good n t) (hn : n ≤ 30) : (∀ x ∈ lvs t, x ≤ 30) ∧ sz t ≤ 60 ∧ dp t ≤ 40 := by
  have h1 : sz t = n := by
    have := g.pm.length_eq
    rw [List.length_range] at this
    exact this
  refine ⟨fun x hx => ?_, by omega, Nat.le_trans (dp_sz t g.wf) (by omega)⟩
  have := g.mem.mp hx
  omega
end Lw
set_option Elab.async false
set_option linter.all false
set_option maxRecDepth 100000
set_option maxHeartbeats 1000000
namespace Lw
open PySem PySem.Spec PyProof.Rows L2 Me Tm
theorem rgk {n : Nat} (hn : n ≤ 30) : rgOkB 0 ((n : Nat) : Int) = true := by
  unfold rgOkB
  simp only [Bool.and_eq_true, decide_eq_true_eq]
  refine ⟨by omega, by omega, by omega, by omega, by omega⟩
theorem lst_gen {f : RF} {ρ : Ev} {S S' : Sto} {i j : Int} (h : f ρ S = some ((i, j), S')) (k : rgOkB i j = true) : eLstRg f ρ S = some (.obj S'.length, S' ++ [.lst (rngD i (j - i).toNat)]) := by
  unfold eLstRg
  rw [h]
  show (if rgOkB i j = true then _ else _) = _
  rw [if_pos k]
theorem rg1_gen {f : EF} {ρ : Ev} {S S' : Sto} {j : Int} (h : f ρ S = some (.dat (.int j), S')) : rg1 f ρ S = some ((0, j), S') := by
  unfold rg1
  rw [h]
  rfl
theorem rng0 {n : Nat} {j : Int} (h : j = (n : Nat)) : rngD 0 (j - 0).toNat = nD (List.range n) := by
  rw [Int.sub_zero, h, Int.toNat_natCast, rng_nat]
theorem lst_frz {f : EF} {ρ : Ev} {S : Sto} {n : Nat} {j : Int} (h : f ρ S = some (.dat (.int j), S)) (k : rgOkB 0 j = true) (e : j = (n : Nat)) : eFrz (eLstRg (rg1 f)) ρ S = some (.dat (.list (nD (List.range n))), S) := by
  refine eFrz_obj ?_
  have a := lst_gen (rg1_gen h) k
  rw [rng0 e] at a
  exact a
theorem lst_rg {f : EF} {ρ : Ev} {S : Sto} {n : Nat} (h : f ρ S = some (.dat (.int (n : Nat)), S)) (hn : n ≤ 30) : eFrz (eLstRg (rg1 f)) ρ S = some (.dat (.list (nD (List.range n))), S) := lst_frz h (rgk hn) rfl
theorem is_term_in_eq {n : Nat} {t : T} (g : Good n t) (hn : n ≤ 30) (S : Sto) : F_is_term_in [.dat (.int (n : Nat)), .dat (enc t)] S = some (.dat (.bool true), S) := by
  obtain ⟨h1, h2, h3⟩ := good_ok g hn
  refine fn_dat (S' := S) (ρ' := [some (.dat (.int (n : Nat))), some (.dat (enc t)), some (.dat (.list (nD (lvs t))))]) rfl ?_ (List.take_length ..)
  show b_is_term_in [some (.dat (.int (n : Nat))), some (.dat (enc t)), none] S = _
  unfold b_is_term_in
  rw [seq_nx (show sSet 2 _ [some (.dat (.int (n : Nat))), some (.dat (enc t)), none] S = some (.nx, [some (.dat (.int (n : Nat))), some (.dat (enc t)), some (.dat (.list (nD (lvs t))))], S) by
    unfold sSet
    rw [eFrz_obj (call1 (var_eq rfl) |>.trans (things_eq 40 t g.wf h1 h2 h3 S))]
    rfl)]
  unfold sRet eAnd
  have c1 : cE (eOp (oInX true) (eC .none) (eVar 2)) [some (.dat (.int (n : Nat))), some (.dat (enc t)), some (.dat (.list (nD (lvs t))))] S = some (true, S) := by
    refine cE_eq ?_
    rw [op_eq' rfl (var_eq rfl)]
    exact none_in _ S
  rw [c1]
  simp only [bd_some, ↓reduceIte]
  rw [op_eq' (sorted_frz (var_eq rfl) (ok_nat _) ((sortD_nat _).trans (by rw [asc_range g.pm]))) (lst_rg (var_eq rfl) hn)]
  unfold oEq
  simp only [rdP, bd_some, nD_ok, Bool.and_self, ↓reduceIte, nD_eqv, decide_true]
theorem far60 : (60 : Int) < 10 ^ 60 := by
  have h : ((60 : Nat) : Int) < ((10 ^ 60 : Nat) : Int) := Int.ofNat_lt.mpr (by decide +kernel)
  rw [Int.natCast_pow] at h
  exact h
theorem is_short_eq {n : Nat} (hn : n ≤ 60) (S : Sto) : F_is_short [.dat (.int (n : Nat))] S = some (.dat (.bool true), S) := by
  refine fn_dat (S' := S) (ρ' := [some (.dat (.int (n : Nat)))]) rfl ?_ (List.take_length ..)
  show b_is_short [some (.dat (.int (n : Nat)))] S = _
  unfold b_is_short sRet eAnd
  rw [cE_eq (call1 (var_eq rfl) |>.trans (is_whole_eq _ rfl S))]
  have h2 : (-(10 : Int) ^ 60 < n) := by have := far60; omega
  have h1 : (n : Int) < 10 ^ 60 := by
    have : ((n : Nat) : Int) ≤ 60 := by omega
    have := far60
    omega
  simp only [bd_some, isI, ↓reduceIte]
  rw [chain_int (x := -(10 ^ 60)) (y := (n : Nat)) (z := 10 ^ 60) rfl (var_eq rfl) rfl h2 h1]
  rfl
theorem req_num_eq {n : Nat} (h1 : 1 ≤ n) (h2 : n ≤ 30) (S : Sto) : F_require_number [.dat (.int (n : Nat)), .dat (.int 1), .dat (.int 30)] S = some (.dat .none, S) := by
  refine fn_nx (S' := S) (ρ' := [some (.dat (.int (n : Nat))), some (.dat (.int 1)), some (.dat (.int 30))]) rfl ?_ (List.take_length ..)
  show b_require_number [some (.dat (.int (n : Nat))), some (.dat (.int 1)), some (.dat (.int 30))] S = _
  unfold b_require_number
  have a1 : decide ((n : Int) < 1) = false := by simp; omega
  have a2 : decide ((30 : Int) < n) = false := by simp; omega
  rw [if_false (S' := S) ?_]
  · rfl
  · rw [or_f (not_eq (cE_eq (call1 (var_eq rfl) |>.trans (is_short_eq (by omega) S))))]
    rw [or_f ((and_t (notN_int (x := 1) (var_eq rfl))).trans ((lt_int (x := (n : Nat)) (y := 1) (var_eq rfl) (var_eq rfl)).trans (by rw [a1])))]
    exact (and_t (notN_int (x := 30) (var_eq rfl))).trans ((gt_int (x := (n : Nat)) (y := 30) (var_eq rfl) (var_eq rfl)).trans (by rw [a2]))
theorem req_term_eq {n : Nat} {t : T} (g : Good n t) (h1 : 1 ≤ n) (hn : n ≤ 30) (S : Sto) : F_require_term [.dat (.int (n : Nat)), .dat (enc t)] S = some (.dat .none, S) := by
  refine fn_nx (S' := S) (ρ' := [some (.dat (.int (n : Nat))), some (.dat (enc t))]) rfl ?_ (List.take_length ..)
  show b_require_term [some (.dat (.int (n : Nat))), some (.dat (enc t))] S = _
  unfold b_require_term
  rw [seq_nx (show sDrop _ [some (.dat (.int (n : Nat))), some (.dat (enc t))] S = some (.nx, [some (.dat (.int (n : Nat))), some (.dat (enc t))], S) by
    exact drop_eq (call3 (var_eq rfl) rfl rfl |>.trans (req_num_eq h1 hn S)))]
  rw [if_false (S' := S) ?_]
  · rfl
  · exact not_eq (b := true) (cE_eq (call2 (var_eq rfl) (var_eq rfl) |>.trans (is_term_in_eq g hn S)))
theorem is_term_eq {n : Nat} {t : T} (g : Good n t) (h1 : 1 ≤ n) (hn : n ≤ 30) (S : Sto) : F_is_term [.dat (.int (n : Nat)), .dat (enc t)] S = some (.dat (.bool true), S) := by
  refine fn_dat (S' := S) (ρ' := [some (.dat (.int (n : Nat))), some (.dat (enc t))]) rfl ?_ (List.take_length ..)
  show b_is_term [some (.dat (.int (n : Nat))), some (.dat (enc t))] S = _
  unfold b_is_term
  rw [seq_nx (show sDrop _ [some (.dat (.int (n : Nat))), some (.dat (enc t))] S = some (.nx, [some (.dat (.int (n : Nat))), some (.dat (enc t))], S) by
    exact drop_eq (call3 (var_eq rfl) rfl rfl |>.trans (req_num_eq h1 hn S)))]
  exact ret_eq (call2 (var_eq rfl) (var_eq rfl) |>.trans (is_term_in_eq g hn S))
theorem plain_term_eq {n : Nat} {t : T} (g : Good n t) (h1 : 1 ≤ n) (hn : n ≤ 30) (S : Sto) : F_plain_term [.dat (.int (n : Nat)), .dat (enc t)] S = some (.dat (enc (plain t)), S) := by
  obtain ⟨_, k2, k3⟩ := good_ok g hn
  refine fn_dat (S' := S) (ρ' := [some (.dat (.int (n : Nat))), some (.dat (enc t))]) rfl ?_ (List.take_length ..)
  show b_plain_term [some (.dat (.int (n : Nat))), some (.dat (enc t))] S = _
  unfold b_plain_term
  rw [seq_nx (show sDrop _ [some (.dat (.int (n : Nat))), some (.dat (enc t))] S = some (.nx, [some (.dat (.int (n : Nat))), some (.dat (enc t))], S) by
    exact drop_eq (call2 (var_eq rfl) (var_eq rfl) |>.trans (req_term_eq g h1 hn S)))]
  exact ret_eq (call1 (var_eq rfl) |>.trans (plain_eq 40 t g.wf k2 k3 k3 S))
theorem turned_term_eq {n : Nat} {t : T} (g : Good n t) (h1 : 1 ≤ n) (hn : n ≤ 30) (S : Sto) : F_turned_term [.dat (.int (n : Nat)), .dat (enc t)] S = some (.dat (enc (plain (turn t))), S) := by
  obtain ⟨_, k2, k3⟩ := good_ok g hn
  obtain ⟨_, j2, j3⟩ := good_ok g.turn hn
  refine fn_dat (S' := S) (ρ' := [some (.dat (.int (n : Nat))), some (.dat (enc t))]) rfl ?_ (List.take_length ..)
  show b_turned_term [some (.dat (.int (n : Nat))), some (.dat (enc t))] S = _
  unfold b_turned_term
  rw [seq_nx (show sDrop _ [some (.dat (.int (n : Nat))), some (.dat (enc t))] S = some (.nx, [some (.dat (.int (n : Nat))), some (.dat (enc t))], S) by
    exact drop_eq (call2 (var_eq rfl) (var_eq rfl) |>.trans (req_term_eq g h1 hn S)))]
  exact ret_eq (call1 (call1 (var_eq rfl) |>.trans (turned_eq 40 t g.wf k2 k3 S)) |>.trans (plain_eq 40 _ g.turn.wf j2 j3 j3 S))
end Lw
set_option Elab.async false
set_option linter.all false
set_option maxRecDepth 100000
set_option maxHeartbeats 1000000

namespace Lw
open PySem PySem.Spec PyProof.Rows L2 Me Tm
/-! ### loops over a list of our own -/
theorem ext_at {i k : Nat} {f : EF} {ρ : Ev} {S : Sto} {xs ys : List D} (h : ρ.getD i none = some (.obj k)) (hk : S[k]? = some (.lst xs)) (hf : f ρ S = some (.dat (.list ys), S)) (hl : xs.length + ys.length ≤ lim) :
    sDrop (eMt oExtend (eVar i) (aCons f aNil)) ρ S = some (.nx, ρ, S.set k (.lst (xs ++ ys))) := by
  have e1 : lsqOf (.obj k) S = some xs := by simp [lsqOf, lstAt, hk]
  have e2 : lstAt k S = some xs := by simp [lstAt, hk]
  unfold sDrop eMt
  rw [var_eq h]
  show bd (bd (lsqOf (.obj k) S) _) _ = _
  rw [e1]
  unfold aCons
  show bd (bd (bd (f ρ S) _) _) _ = _
  rw [hf]
  simp [aNil, bd, oExtend, asObj, one1, e2, asLst, hl]
theorem forD_own {β : Type} {k : Nat} {xs : List β} {g : GF} {b : SF} (en : β → D) (R : List β → Ev → Sto → Prop) (hg : ∀ pre ρ S, R pre ρ S → S[k]? = some (.lst (xs.map en))) : ∀ (ys pre : List β) (ρ : Ev) (S : Sto), R pre ρ S →
    (∀ pre x suf ρ S, pre ++ x :: suf = xs → R pre ρ S → ∃ ρ1 fl ρ' S', g (en x) ρ = some ρ1 ∧ b ρ1 S = some (fl, ρ', S') ∧ (fl = .nx ∨ fl = .ct) ∧ R (pre ++ [x]) ρ' S') →
    pre ++ ys = xs → ∃ ρ' S', forD (some k) (xs.map en) g b (ys.map en) ρ S = some (.nx, ρ', S') ∧ R xs ρ' S'
  | [], pre, ρ, S, r, _, e => ⟨ρ, S, by
      rw [List.map_nil, forD]
      exact chk_some (hg _ _ _ r), by rw [← e, List.append_nil]; exact r⟩
  | d :: ds, pre, ρ, S, r, h, he => by
    obtain ⟨ρ1, fl, ρ2, S2, h1, h2, h3, h4⟩ := h pre d ds ρ S he r
    obtain ⟨ρ', S', q1, q2⟩ := forD_own en R hg ds (pre ++ [d]) ρ2 S2 h4 h (by rw [List.append_assoc]; exact he)
    refine ⟨ρ', S', ?_, q2⟩
    rw [List.map_cons, forD]
    refine (chk_some (hg _ _ _ r)).trans ?_
    rw [h1]
    show bd (b ρ1 S) _ = _
    rw [h2]
    rcases h3 with rfl | rfl <;> exact q1
theorem sFor_own {β : Type} {i k : Nat} {g : GF} {b : SF} {ρ : Ev} {S : Sto} {xs : List β} (en : β → D) (R : List β → Ev → Sto → Prop) (hv : ρ.getD i none = some (.obj k)) (hg : ∀ pre ρ S, R pre ρ S → S[k]? = some (.lst (xs.map en))) (r0 : R [] ρ S)
    (h : ∀ pre x suf ρ S, pre ++ x :: suf = xs → R pre ρ S → ∃ ρ1 fl ρ' S', g (en x) ρ = some ρ1 ∧ b ρ1 S = some (fl, ρ', S') ∧ (fl = .nx ∨ fl = .ct) ∧ R (pre ++ [x]) ρ' S') :
    ∃ ρ' S', sFor (iSeq (eVar i)) g b ρ S = some (.nx, ρ', S') ∧ R xs ρ' S' := by
  have e2 : lstAt k S = some (xs.map en) := by simp [lstAt, hg _ _ _ r0]
  have e : iSeq (eVar i) ρ S = some ((some k, xs.map en), S) := by
    unfold iSeq
    rw [var_eq hv]
    show bd (lstAt k S) _ = _
    rw [e2]
    rfl
  unfold sFor
  rw [e]
  exact forD_own en R hg xs [] ρ S r0 h rfl
/-! ### pairs_of_term -/
def cross (a : Nat) (b : List Nat) : List Pr := b.map fun j => (a, j)
theorem flat_len (l b : List Nat) : (l.flatMap fun i => b.map fun j => (i, j)).length = l.length * b.length := by
  induction l with
  | nil => simp
  | cons i p ih => rw [List.flatMap_cons, List.length_append, List.length_map, ih, List.length_cons, Nat.succ_mul, Nat.add_comm]
theorem pairs_in {n : Nat} {w : Bool} {ms : List T} {m : T} {S : Sto} {as : List Nat} {ps : List Pr} {z : Option P} (hl : ps.length + as.length * (lvs m).length ≤ lim) :
    ∃ ρ', sFor (iSeq (eVar 2)) (gNm 5) (sDrop (eMt oExtend (eVar 1) (aCons (eFrz (eLc (iSeq (eVar 4)) [6] (gNm 6) cYes (eTup (aCons (eVar 5) (aCons (eVar 6) aNil))))) aNil)))
      [some (.dat (enc (.node w ms))), some (.obj S.length), some (.obj (S.length + 1)), some (.dat (enc m)), some (.dat (.list (nD (lvs m)))), z, none] (S ++ [.lst (ps.map encP), .lst (nD as)])
      = some (.nx, [some (.dat (enc (.node w ms))), some (.obj S.length), some (.obj (S.length + 1)), some (.dat (enc m)), some (.dat (.list (nD (lvs m)))), ρ', none], S ++ [.lst ((ps ++ as.flatMap fun i => (lvs m).map fun j => (i, j)).map encP), .lst (nD as)]) := by
  obtain ⟨ρ', S', e, ⟨y, h1⟩, h2⟩ := sFor_own (i := 2) (k := S.length + 1) (g := gNm 5) (b := sDrop (eMt oExtend (eVar 1) (aCons (eFrz (eLc (iSeq (eVar 4)) [6] (gNm 6) cYes (eTup (aCons (eVar 5) (aCons (eVar 6) aNil))))) aNil)))
    (ρ := [some (.dat (enc (.node w ms))), some (.obj S.length), some (.obj (S.length + 1)), some (.dat (enc m)), some (.dat (.list (nD (lvs m)))), z, none]) (S := S ++ [.lst (ps.map encP), .lst (nD as)]) (xs := as) (fun i => .int (i : Nat))
    (fun pre ρ S' => (∃ y, ρ = [some (.dat (enc (.node w ms))), some (.obj S.length), some (.obj (S.length + 1)), some (.dat (enc m)), some (.dat (.list (nD (lvs m)))), y, none]) ∧ S' = S ++ [.lst ((ps ++ pre.flatMap fun i => (lvs m).map fun j => (i, j)).map encP), .lst (nD as)])
    rfl (fun pre ρ S' ⟨_, h⟩ => by subst h; simp [nD]) ⟨⟨z, rfl⟩, by simp⟩ (fun pre a suf ρ S' hcut ⟨⟨y, h1⟩, h2⟩ => by
      subst h1 h2
      refine ⟨[some (.dat (enc (.node w ms))), some (.obj S.length), some (.obj (S.length + 1)), some (.dat (enc m)), some (.dat (.list (nD (lvs m)))), some (.dat (.int (a : Nat))), none], .nx, [some (.dat (enc (.node w ms))), some (.obj S.length), some (.obj (S.length + 1)), some (.dat (enc m)), some (.dat (.list (nD (lvs m)))), some (.dat (.int (a : Nat))), none], _, rfl, ext_at (xs := (ps ++ pre.flatMap fun i => (lvs m).map fun j => (i, j)).map encP) (ys := (lvs m).map fun j => encP (a, j)) rfl (by simp) (eFrz_obj (lc_maps (xs := lvs m) (fun i => .int (i : Nat)) (fun j => encP (a, j)) ?_ fun j _ acc => ⟨_, rfl, ?_⟩)) ?_, .inl rfl, ⟨_, rfl⟩, ?_⟩
      · rfl
      · rfl
      · have h3 : (pre.flatMap fun i => (lvs m).map fun j => (i, j)).length = pre.length * (lvs m).length := flat_len _ _
        have h4 : as.length * (lvs m).length = pre.length * (lvs m).length + (suf.length + 1) * (lvs m).length := by
          rw [← hcut, List.length_append, List.length_cons, Nat.add_mul]
        rw [List.length_map, List.length_append, h3, List.length_map]
        rw [Nat.add_mul, Nat.one_mul] at h4
        have h5 : ps.length + (pre.length * (lvs m).length + (suf.length * (lvs m).length + (lvs m).length)) ≤ lim := by omega
        omega
      · simp [List.map_append])
  subst h1 h2
  exact ⟨y, e⟩
theorem pairs_eq : ∀ (n : Nat) (t : T), Wf t → (∀ x ∈ lvs t, x ≤ 30) → sz t ≤ 60 → dp t ≤ n → dp t ≤ 40 → ∀ S, F_pairs_of_term n [.dat (enc t)] S = some (.obj S.length, S ++ [.lst ((prs t).map encP)])
  | 0, t, _, _, _, h, _, _ => by
    cases t <;> simp [dp] at h
  | n + 1, .leaf i, _, hx, _, _, _, S => by
    rw [show F_pairs_of_term (n + 1) = fnRun 1 7 (b_pairs_of_term (F_pairs_of_term n)) from rfl]
    refine fn_obj (S1 := S) rfl (ρ' := [some (.dat (enc (.leaf i))), none, none, none, none, none, none]) (S' := S ++ [.lst []]) (k := S.length) ?_ (Nat.le_refl _) st_at take_app
    unfold b_pairs_of_term
    refine seq_ret ?_
    rw [if_true (not_eq (cE_eq (isT_leaf rfl)))]
    rfl
  | n + 1, .node w ms, hwf, hx, hsz, hd, hd4, S => by
    have hdm : ∀ m ∈ ms, dp m ≤ n ∧ dp m ≤ 40 := fun m hm => by
      have := dp_mem hm
      have hd : dpL ms + 1 ≤ n + 1 := hd
      have hd4 : dpL ms + 1 ≤ 40 := hd4
      omega
    have hwm : ∀ m ∈ ms, m.is w = false ∧ Wf m := WfL_iff.mp hwf.2
    have hxm : ∀ m ∈ ms, ∀ x ∈ lvs m, x ≤ 30 := fun m hm x hxm => hx x (mem_lvL.mpr ⟨m, hm, hxm⟩)
    have hszm : ∀ m ∈ ms, sz m ≤ 60 := sz_mem hsz
    rw [show F_pairs_of_term (n + 1) = fnRun 1 7 (b_pairs_of_term (F_pairs_of_term n)) from rfl]
    have r0 : ([some (.dat (enc (.node w ms))), none, none, none, none, none, none] : Ev).getD 0 none = some (.dat (enc (.node w ms))) := rfl
    have hb : ∃ ρ' X, b_pairs_of_term (F_pairs_of_term n) [some (.dat (enc (.node w ms))), none, none, none, none, none, none] S = some (.ret (.obj S.length), ρ', S ++ [.lst ((prsL w [] ms).map encP), X]) := by
      unfold b_pairs_of_term
      rw [seq_nx (S' := S) (ρ' := [some (.dat (enc (.node w ms))), none, none, none, none, none, none]) (by rw [if_false (not_eq (cE_eq (isT_node r0)))]; rfl)]
      rw [seq_nx (S' := S ++ [.lst [], .lst []]) (ρ' := [some (.dat (enc (.node w ms))), some (.obj S.length), some (.obj (S.length + 1)), none, none, none, none]) (by simp [sPar, eLst, aCons, aNil, bd, dats])]
      obtain ⟨ρ', S', e, ⟨z3, z4, z5, h1⟩, h2⟩ := sFor_map (ws := iSeq (eFrz (eSl (eVar 0) (pSo (eC (.int 1))) pNo))) (g := gNm 3)
        (b := sSeq (sDrop (eMt oExtend (eVar 1) (aCons (eFrz (eCall (F_pairs_of_term n) (aCons (eVar 3) aNil))) aNil)))
          (sSeq (sSet 4 (eFrz (eCall (F_things_of_term 40) (aCons (eVar 3) aNil))))
          (sSeq (sIf (cE (eOp oEq (eOp oIx (eVar 0) (eC (.int 0))) (eC (.str "behind")))) (sFor (iSeq (eVar 2)) (gNm 5) (sDrop (eMt oExtend (eVar 1) (aCons (eFrz (eLc (iSeq (eVar 4)) [6] (gNm 6) cYes (eTup (aCons (eVar 5) (aCons (eVar 6) aNil))))) aNil)))) sNil)
          (sDrop (eMt oExtend (eVar 2) (aCons (eVar 4) aNil))))))
        (ρ := [some (.dat (enc (.node w ms))), some (.obj S.length), some (.obj (S.length + 1)), none, none, none, none]) (S := S ++ [.lst [], .lst []]) (S0 := S ++ [.lst [], .lst []]) (xs := ms) enc
        (fun pre ρ S' => (∃ z3 z4 z5, ρ = [some (.dat (enc (.node w ms))), some (.obj S.length), some (.obj (S.length + 1)), z3, z4, z5, none]) ∧ S' = S ++ [.lst ((prsL w [] pre).map encP), .lst (nD (lvL pre))])
        (tail_node rfl) ⟨⟨none, none, none, rfl⟩, by simp [prsL, lvL, nD]⟩ (fun pre m suf ρ S' hcut ⟨⟨z3, z4, z5, hρ⟩, hS⟩ => by
          subst hρ hS
          have hm : m ∈ ms := by rw [← hcut]; simp
          have hA : szL (pre ++ [m]) ≤ 60 := by
            have h1 : szL ms ≤ 60 := hsz
            rw [← hcut, szL_app, szL_cons] at h1
            rw [szL_app, szL_cons]
            have : szL ([] : List T) = 0 := rfl
            omega
          have hB := prsL_len w [] (pre ++ [m])
          have hC : (szL (pre ++ [m])) * (szL (pre ++ [m])) ≤ 60 * 60 := Nat.mul_le_mul hA hA
          simp only [List.length_nil, Nat.zero_add, Nat.mul_zero, Nat.add_zero] at hB
          have hP : prsL w [] (pre ++ [m]) = prsL w [] pre ++ prs m ++ (if w = true then (lvL pre).flatMap fun i => (lvs m).map fun j => (i, j) else []) := by
            rw [prsL_app]
            simp [prsL, List.append_assoc]
          have hL : lvL (pre ++ [m]) = lvL pre ++ lvs m := by
            rw [lvL_app]
            simp [lvL]
          have hN : (nD (lvL pre)).length + (nD (lvs m)).length ≤ lim := by
            have : (lvL (pre ++ [m])).length ≤ 60 := hA
            rw [hL, List.length_append] at this
            simp only [nD, List.length_map]
            exact Nat.le_trans this (by decide)
          have hQ : (prsL w [] pre ++ prs m).length + (if w = true then (lvL pre).flatMap fun i => (lvs m).map fun j => (i, j) else []).length ≤ 3600 := by
            rw [hP, List.length_append] at hB
            omega
          have st1 : ((S ++ [MO.lst ((prsL w [] pre).map encP), MO.lst (nD (lvL pre))]) : Sto).set S.length (.lst ((prsL w [] pre).map encP ++ (prs m).map encP)) = S ++ [MO.lst ((prsL w [] pre ++ prs m).map encP), MO.lst (nD (lvL pre))] := by simp
          have st2 : ∀ X : List D, ((S ++ [MO.lst X, MO.lst (nD (lvL pre))]) : Sto).set (S.length + 1) (.lst (nD (lvL pre) ++ nD (lvs m))) = S ++ [MO.lst X, MO.lst (nD (lvL (pre ++ [m])))] := fun X => by
            rw [hL]
            simp [nD]
          have hfin : ∀ (z : Option P) (X : List Pr), X = prsL w [] (pre ++ [m]) → sDrop (eMt oExtend (eVar 2) (aCons (eVar 4) aNil)) [some (.dat (enc (.node w ms))), some (.obj S.length), some (.obj (S.length + 1)), some (.dat (enc m)), some (.dat (.list (nD (lvs m)))), z, none] (S ++ [.lst (X.map encP), .lst (nD (lvL pre))]) = some (.nx, [some (.dat (enc (.node w ms))), some (.obj S.length), some (.obj (S.length + 1)), some (.dat (enc m)), some (.dat (.list (nD (lvs m)))), z, none], S ++ [.lst ((prsL w [] (pre ++ [m])).map encP), .lst (nD (lvL (pre ++ [m])))]) := fun z X hX => by
            subst hX
            rw [ext_at (k := S.length + 1) (xs := nD (lvL pre)) (ys := nD (lvs m)) rfl (by simp) (var_eq rfl) hN, st2]
          suffices hs : ∃ z, sIf (cE (eOp oEq (eOp oIx (eVar 0) (eC (.int 0))) (eC (.str "behind")))) (sFor (iSeq (eVar 2)) (gNm 5) (sDrop (eMt oExtend (eVar 1) (aCons (eFrz (eLc (iSeq (eVar 4)) [6] (gNm 6) cYes (eTup (aCons (eVar 5) (aCons (eVar 6) aNil))))) aNil)))) sNil [some (.dat (enc (.node w ms))), some (.obj S.length), some (.obj (S.length + 1)), some (.dat (enc m)), some (.dat (.list (nD (lvs m)))), z5, none] (S ++ [.lst ((prsL w [] pre ++ prs m).map encP), .lst (nD (lvL pre))]) = some (.nx, [some (.dat (enc (.node w ms))), some (.obj S.length), some (.obj (S.length + 1)), some (.dat (enc m)), some (.dat (.list (nD (lvs m)))), z, none], S ++ [.lst ((prsL w [] (pre ++ [m])).map encP), .lst (nD (lvL pre))]) by
            obtain ⟨z, hs⟩ := hs
            refine ⟨[some (.dat (enc (.node w ms))), some (.obj S.length), some (.obj (S.length + 1)), some (.dat (enc m)), z4, z5, none], .nx, [some (.dat (enc (.node w ms))), some (.obj S.length), some (.obj (S.length + 1)), some (.dat (enc m)), some (.dat (.list (nD (lvs m)))), z, none], S ++ [.lst ((prsL w [] (pre ++ [m])).map encP), .lst (nD (lvL (pre ++ [m])))], rfl, ?_, .inl rfl, ⟨_, _, _, rfl⟩, rfl⟩
            rw [seq_nx (ext_at (k := S.length) (xs := (prsL w [] pre).map encP) (ys := (prs m).map encP) rfl (by simp) (eFrz_obj (call1 (var_eq rfl) |>.trans (pairs_eq n m (hwm m hm).2 (hxm m hm) (hszm m hm) (hdm m hm).1 (hdm m hm).2 _))) (by
              rw [List.length_map, List.length_map, ← List.length_append]
              exact Nat.le_trans (Nat.le_trans (Nat.le_add_right _ _) hQ) (by decide))), st1]
            rw [seq_nx (show sSet 4 _ [some (.dat (enc (.node w ms))), some (.obj S.length), some (.obj (S.length + 1)), some (.dat (enc m)), z4, z5, none] _ = some (.nx, [some (.dat (enc (.node w ms))), some (.obj S.length), some (.obj (S.length + 1)), some (.dat (enc m)), some (.dat (.list (nD (lvs m)))), z5, none], _) by
              unfold sSet
              rw [eFrz_obj (call1 (var_eq rfl) |>.trans (things_eq 40 m (hwm m hm).2 (hxm m hm) (hszm m hm) (hdm m hm).2 _))]
              rfl)]
            rw [seq_nx hs]
            exact hfin z _ rfl
          cases w with
          | false =>
            rw [if_false (wd_behind rfl), hP]
            exact ⟨z5, by simp [sNil]⟩
          | true =>
            rw [if_true (wd_behind rfl), hP]
            simp only [↓reduceIte] at hQ ⊢
            exact pairs_in (n := 0) (by
              rw [← flat_len]
              exact Nat.le_trans hQ (by decide)))
      subst h1 h2
      refine ⟨_, _, (seq_nx e).trans (ret_eq (var_eq rfl))⟩
    obtain ⟨ρ', X, hb⟩ := hb
    exact fn_obj (S1 := S) rfl hb (Nat.le_refl _) (by simp [prs]) take_app
end Lw
set_option Elab.async false
set_option linter.all false
set_option maxRecDepth 100000
set_option maxHeartbeats 1000000

namespace Lw
open PySem PySem.Spec PyProof.Rows L2 Me Tm
/-! ### orders -/
theorem tup2 {f g : EF} {ρ : Ev} {S S1 S2 : Sto} {d e : D} (h1 : f ρ S = some (.dat d, S1)) (h2 : g ρ S1 = some (.dat e, S2)) : eTup (aCons f (aCons g aNil)) ρ S = some (.dat (.tuple [d, e]), S2) := by
  have a : aCons f (aCons g aNil) ρ S = some ([.dat d, .dat e], S2) := by
    unfold aCons
    rw [h1]
    simp only [bd_some]
    rw [h2]
    rfl
  unfold eTup
  rw [a]
  rfl
theorem tuple_lst {f : EF} {ρ : Ev} {S S1 : Sto} {ds : List D} (h : f ρ S = some (.dat (.list ds), S1)) : eCall oTuple (aCons f aNil) ρ S = some (.dat (.tuple ds), S1) := by
  rw [call1 h]
  rfl
def encR (n : Nat) (ps : List Pr) : D := .tuple [.int (n : Nat), .tuple (ps.map encP)]
theorem order_eq {n : Nat} {t : T} (g : Good n t) (h1 : 1 ≤ n) (hn : n ≤ 30) (S : Sto) : F_order_of_term [.dat (.int (n : Nat)), .dat (enc t)] S = some (.dat (encR n (canon n (rel t))), S) := by
  obtain ⟨k1, k2, k3⟩ := good_ok g hn
  refine fn_dat (S' := S) (ρ' := [some (.dat (.int (n : Nat))), some (.dat (enc t))]) rfl ?_ (List.take_length ..)
  show b_order_of_term [some (.dat (.int (n : Nat))), some (.dat (enc t))] S = _
  unfold b_order_of_term
  rw [seq_nx (show sDrop _ [some (.dat (.int (n : Nat))), some (.dat (enc t))] S = some (.nx, [some (.dat (.int (n : Nat))), some (.dat (enc t))], S) by
    exact drop_eq (call2 (var_eq rfl) (var_eq rfl) |>.trans (req_term_eq g h1 hn S)))]
  exact ret_eq (tup2 (var_eq rfl) (tuple_lst (sorted_frz (eFrz_obj (call1 (var_eq rfl) |>.trans (pairs_eq 40 t g.wf k1 k2 k3 k3 S))) (ok_pairs _) (sortD_pairs (prs_perm g) (canon_asc _ _)))))
/-! ### all, any -/
theorem bools_map {β : Type} (xs : List β) (p : β → Bool) : boolsOf (xs.map fun x => .bool (p x)) = some (xs.map p) := by
  induction xs with
  | nil => rfl
  | cons x xs ih => simp [boolsOf] at *; simp [ih]
theorem bools_frz {β : Type} {q : List Bool → Bool} {f : EF} {ρ : Ev} {S S1 : Sto} {xs : List β} {p : β → Bool} (h : f ρ S = some (.dat (.list (xs.map fun x => .bool (p x))), S1)) : eCall (oBools q) (aCons f aNil) ρ S = some (.dat (.bool (q (xs.map p))), S1) := by
  rw [call1 h]
  unfold oBools
  simp only [one1, lsqOf, bd_some, bools_map]
theorem is_pair_eq (p : Pr) (S : Sto) : F_is_pair [.dat (encP p)] S = some (.dat (.bool true), S) := by
  refine fn_dat (S' := S) (ρ' := [some (.dat (encP p))]) rfl ?_ (List.take_length ..)
  show b_is_pair [some (.dat (encP p))] S = _
  unfold b_is_pair sRet eAnd
  rfl
theorem is_pairO_eq (n : Nat) (ps : List Pr) (S : Sto) : F_is_pair [.dat (encR n ps)] S = some (.dat (.bool true), S) := by
  refine fn_dat (S' := S) (ρ' := [some (.dat (encR n ps))]) rfl ?_ (List.take_length ..)
  show b_is_pair [some (.dat (encR n ps))] S = _
  unfold b_is_pair sRet eAnd
  rfl
end Lw
set_option Elab.async false
set_option linter.all false
set_option maxRecDepth 100000
set_option maxHeartbeats 1000000

namespace Lw
open PySem PySem.Spec PyProof.Rows L2 Me Tm
/-! ### is_ascending -/
theorem zp_map {β : Type} (en : β → D) : ∀ xs ys : List β, zpD (xs.map en) (ys.map en) = (xs.zip ys).map fun p => .tuple [en p.1, en p.2]
  | [], _ => by simp [zpD]
  | _ :: _, [] => by simp [zpD]
  | a :: xs, b :: ys => by simp [zpD, zp_map en xs ys]
theorem zip_tail {β : Type} {lt : β → β → Prop} : ∀ {xs : List β}, xs.Pairwise lt → ∀ p ∈ xs.zip xs.tail, lt p.1 p.2
  | [], _, p, h => by simp at h
  | [_], _, p, h => by simp at h
  | a :: b :: xs, h, p, hp => by
    have h' := List.pairwise_cons.mp h
    rw [List.tail_cons, List.zip_cons_cons] at hp
    rcases List.mem_cons.mp hp with rfl | hp
    · exact h'.1 b List.mem_cons_self
    · exact zip_tail (xs := b :: xs) h'.2 p hp
theorem all_true {β : Type} (xs : List β) : (xs.map fun _ => true).all id = true := by
  induction xs with
  | nil => rfl
  | cons x xs ih => simpa using ih
theorem is_asc_eq {β : Type} (en : β → D) {lt : β → β → Prop} {xs : List β} (hp : xs.Pairwise lt) (hlt : ∀ a b S, lt a b → oLtX (.dat (en a)) (.dat (en b)) S = some (.dat (.bool true), S)) (S : Sto) : F_is_ascending [.dat (.tuple (xs.map en))] S = some (.dat (.bool true), S) := by
  refine fn_dat (S' := S) (ρ' := [some (.dat (.tuple (xs.map en))), none, none]) rfl ?_ (List.take_length ..)
  show b_is_ascending [some (.dat (.tuple (xs.map en))), none, none] S = _
  unfold b_is_ascending
  have ht : eFrz (eSl (eVar 0) (pSo (eC (.int 1))) pNo) [some (.dat (.tuple (xs.map en))), none, none] S = some (.dat (.tuple (xs.tail.map en)), S) := by
    cases xs with
    | nil => rfl
    | cons a xs => exact tail_src rfl
  have hw : iZpD (aCons (eVar 0) (aCons (eFrz (eSl (eVar 0) (pSo (eC (.int 1))) pNo)) aNil)) [some (.dat (.tuple (xs.map en))), none, none] S = some ((none, (xs.zip xs.tail).map fun p => .tuple [en p.1, en p.2]), S) := by
    have a : aCons (eVar 0) (aCons (eFrz (eSl (eVar 0) (pSo (eC (.int 1))) pNo)) aNil) [some (.dat (.tuple (xs.map en))), none, none] S = some ([.dat (.tuple (xs.map en)), .dat (.tuple (xs.tail.map en))], S) := by
      unfold aCons
      rw [var_eq rfl]
      simp only [bd_some]
      rw [ht]
      rfl
    unfold iZpD
    rw [a, ← zp_map]
    rfl
  have h := bools_frz (q := fun bs => bs.all id) (xs := xs.zip xs.tail) (p := fun _ => true) (eFrz_obj (lc_maps (is := [1, 2]) (g := gTp (gsCons (gNm 1) (gsCons (gNm 2) gsNil))) (f := eOp oLtX (eVar 1) (eVar 2)) (fun p => .tuple [en p.1, en p.2]) (fun _ => .bool true) hw fun p hm a => ⟨[some (.dat (.tuple (xs.map en))), some (.dat (en p.1)), some (.dat (en p.2))], rfl, by
    rw [op_eq' (var_eq rfl) (var_eq rfl)]
    exact hlt _ _ _ (zip_tail hp p hm)⟩))
  rw [all_true] at h
  exact ret_eq h
theorem lt_nat {a b : Nat} (S : Sto) (h : a < b) : oLtX (.dat (.int (a : Nat))) (.dat (.int (b : Nat))) S = some (.dat (.bool true), S) := by
  simp [orO, oII, asInt, bd]
  omega
theorem ltX_pair {a b : Pr} (S : Sto) (h : ltP a b) : oLtX (.dat (encP a)) (.dat (encP b)) S = some (.dat (.bool true), S) := by
  have h1 : oLt (.dat (encP a)) (.dat (encP b)) S = none := rfl
  have h2 : PySem.W.dataLt (encP a) (encP b) = true := by
    unfold encP
    rw [PySem.W.dataLt_ii]
    have : ((a.1 : Int) < b.1 ∨ ((a.1 : Int) = b.1 ∧ (a.2 : Int) < b.2)) := by
      rcases h with h | h <;> omega
    simpa using this
  have h3 : okLt (encP a) (encP b) = true := rfl
  show orO oLt (oCmpD PySem.W.dataLt) _ _ S = _
  unfold orO
  rw [h1]
  unfold oCmpD
  show bd (some (encP a)) _ = _
  simp only [bd_some]
  show bd (some (encP b)) _ = _
  simp only [bd_some, h3, ↓reduceIte, h2]
end Lw
set_option Elab.async false
set_option linter.all false
set_option maxRecDepth 100000
set_option maxHeartbeats 1000000

namespace Lw
open PySem PySem.Spec PyProof.Rows L2 Me Tm
/-! ### are_told, has_form -/
theorem sub1_eq {i : Nat} {n : Nat} {ρ : Ev} {S : Sto} (h : ρ.getD i none = some (.dat (.int (n : Nat)))) : eOp oSub (eVar i) (eC (.int 1)) ρ S = some (.dat (.int ((n : Int) - 1)), S) := by
  rw [op_eq' (var_eq h) rfl]
  rfl
theorem within_nat {a n : Nat} (h : a < n) (S : Sto) : F_is_within [.dat (.int (a : Nat)), .dat (.int 0), .dat (.int ((n : Int) - 1))] S = some (.dat (.bool true), S) := by
  rw [is_within_eq _ rfl]
  simp [inI]
  omega
theorem told_eq {n : Nat} {ps : List Pr} (hp : ps.Pairwise ltP) (hb : ∀ p ∈ ps, p.1 < n ∧ p.2 < n) (S : Sto) : F_are_told [.dat (.int (n : Nat)), .dat (.tuple (ps.map encP))] S = some (.dat (.bool true), S) := by
  refine fn_dat (S' := S) (ρ' := [some (.dat (.int (n : Nat))), some (.dat (.tuple (ps.map encP))), none, none]) rfl ?_ (List.take_length ..)
  show b_are_told [some (.dat (.int (n : Nat))), some (.dat (.tuple (ps.map encP))), none, none] S = _
  unfold b_are_told
  have hw : iSeq (eVar 1) [some (.dat (.int (n : Nat))), some (.dat (.tuple (ps.map encP))), none, none] S = some ((none, ps.map encP), S) := rfl
  have c1 : eIsi "tuple" (eVar 1) [some (.dat (.int (n : Nat))), some (.dat (.tuple (ps.map encP))), none, none] S = some (.dat (.bool true), S) := rfl
  have c2 := bools_frz (q := fun bs => bs.all id) (xs := ps) (p := fun _ => true) (eFrz_obj (lc_maps (is := [2]) (g := gNm 2) (f := eCall (F_is_pair) (aCons (eVar 2) aNil)) encP (fun _ => .bool true) hw fun p hm a => ⟨[some (.dat (.int (n : Nat))), some (.dat (.tuple (ps.map encP))), some (.dat (encP p)), none], rfl, by
    rw [call1 (var_eq rfl)]
    exact is_pair_eq p _⟩))
  have c3 := bools_frz (q := fun bs => bs.all id) (xs := ps) (p := fun _ => true) (eFrz_obj (lc_maps (is := [2, 3]) (g := gTp (gsCons (gNm 2) (gsCons (gNm 3) gsNil))) (f := eAnd (eCall (F_is_within) (aCons (eVar 2) (aCons (eC (.int 0)) (aCons (eOp oSub (eVar 0) (eC (.int 1))) aNil)))) (eCall (F_is_within) (aCons (eVar 3) (aCons (eC (.int 0)) (aCons (eOp oSub (eVar 0) (eC (.int 1))) aNil))))) encP (fun _ => .bool true) hw fun p hm a => ⟨[some (.dat (.int (n : Nat))), some (.dat (.tuple (ps.map encP))), some (.dat (.int (p.1 : Nat))), some (.dat (.int (p.2 : Nat)))], rfl, by
    unfold eAnd
    rw [cE_eq (call3 (var_eq rfl) rfl (sub1_eq rfl) |>.trans (within_nat (hb p hm).1 _))]
    simp only [bd_some, ↓reduceIte]
    exact call3 (var_eq rfl) rfl (sub1_eq rfl) |>.trans (within_nat (hb p hm).2 _)⟩))
  rw [all_true] at c2 c3
  rw [seq_nx (S' := S) (ρ' := [some (.dat (.int (n : Nat))), some (.dat (.tuple (ps.map encP))), none, none]) (by rw [if_false ((or_f (not_eq (cE_eq c1))).trans (not_eq (cE_eq c2)))]; rfl)]
  rw [seq_nx (S' := S) (ρ' := [some (.dat (.int (n : Nat))), some (.dat (.tuple (ps.map encP))), none, none]) (by rw [if_false (not_eq (cE_eq c3))]; rfl)]
  exact ret_eq (call1 (var_eq rfl) |>.trans (is_asc_eq encP hp (fun a b S => ltX_pair S) S))
theorem form_eq {n : Nat} {ps : List Pr} (h1 : 1 ≤ n) (hn : n ≤ 30) (hp : ps.Pairwise ltP) (hb : ∀ p ∈ ps, p.1 < n ∧ p.2 < n) (S : Sto) : F_has_form [.dat (encR n ps)] S = some (.dat (.bool true), S) := by
  refine fn_dat (S' := S) (ρ' := [some (.dat (encR n ps))]) rfl ?_ (List.take_length ..)
  show b_has_form [some (.dat (encR n ps))] S = _
  unfold b_has_form sRet eAnd
  have i0 : eOp oIx (eVar 0) (eC (.int 0)) [some (.dat (encR n ps))] S = some (.dat (.int (n : Nat)), S) := rfl
  have i1 : eOp oIx (eVar 0) (eC (.int 1)) [some (.dat (encR n ps))] S = some (.dat (.tuple (ps.map encP)), S) := rfl
  rw [cE_eq (call1 (var_eq rfl) |>.trans (is_pairO_eq n ps S))]
  simp only [bd_some, ↓reduceIte]
  have w : F_is_within [.dat (.int (n : Nat)), .dat (.int 1), .dat (.int 30)] S = some (.dat (.bool true), S) := by
    rw [is_within_eq _ rfl]
    simp [inI]
    omega
  rw [cE_eq (call3 i0 rfl rfl |>.trans w)]
  simp only [bd_some, ↓reduceIte]
  rw [call2 i0 i1 |>.trans (told_eq hp hb S)]
  rfl
end Lw
set_option Elab.async false
set_option linter.all false
set_option maxRecDepth 100000
set_option maxHeartbeats 1000000

namespace Lw
open PySem PySem.Spec PyProof.Rows L2 Me Tm
/-! ### behinds_in, befores_in -/
def rowsN (n : Nat) (R : Nat → List Nat) : List (List D) := (List.range n).map fun i => nD (R i)
def addR (R : Nat → List Nat) (a b : Nat) : Nat → List Nat := fun i => if i = a then R i ++ [b] else R i
theorem rowsN_set {n a b : Nat} {R : Nat → List Nat} (h : a < n) : (rowsN n R).set a (nD (R a) ++ [.int (b : Nat)]) = rowsN n (addR R a b) := by
  apply List.ext_getElem (by simp [rowsN])
  intro i h1 h2
  rw [List.getElem_set]
  simp only [rowsN, List.getElem_map, List.getElem_range, addR]
  by_cases e : a = i
  · subst e; simp [nD]
  · rw [if_neg e, if_neg (fun h => e h.symm)]
theorem rowsN_get {n a : Nat} {R : Nat → List Nat} (h : a < n) : (rowsN n R)[a]? = some (nD (R a)) := by simp [rowsN, h]
theorem ixN_nat {n a : Nat} (h : a < n) : ixN n ((a : Nat) : Int) = some a := by
  simp [ixN]
  omega
theorem rstep23 {n a b : Nat} {R : Nat → List Nat} {x0 x1 x4 : Option P} (ha : a < n) (hl : (R a).length < lim) : rowsStep [x0, x1, some (.dat (.int (a : Nat))), some (.dat (.int (b : Nat))), x4] [(2, 3)] (rowsN n R) = some (rowsN n (addR R a b)) := by
  have h1 : (rowsN n R).length = n := by simp [rowsN]
  have h2 : (nD (R a)).length < lim := by simpa [nD] using hl
  unfold rowsStep
  show bd (ixN (rowsN n R).length ((a : Nat) : Int)) _ = _
  rw [h1, ixN_nat ha]
  simp only [bd_some, rowsN_get ha, h2, ↓reduceIte, rowsN_set ha]
  rfl
theorem rstep32 {n a b : Nat} {R : Nat → List Nat} {x0 x1 x4 : Option P} (hb : b < n) (hl : (R b).length < lim) : rowsStep [x0, x1, some (.dat (.int (a : Nat))), some (.dat (.int (b : Nat))), x4] [(3, 2)] (rowsN n R) = some (rowsN n (addR R b a)) := by
  have h1 : (rowsN n R).length = n := by simp [rowsN]
  have h2 : (nD (R b)).length < lim := by simpa [nD] using hl
  unfold rowsStep
  show bd (ixN (rowsN n R).length ((b : Nat) : Int)) _ = _
  rw [h1, ixN_nat hb]
  simp only [bd_some, rowsN_get hb, h2, ↓reduceIte, rowsN_set hb]
  rfl
def outR (ps : List Pr) (i : Nat) : List Nat := (ps.filter fun p => p.1 == i).map (·.2)
def inR (ps : List Pr) (i : Nat) : List Nat := (ps.filter fun p => p.2 == i).map (·.1)
theorem addR_len {R : Nat → List Nat} {a b i : Nat} : (addR R a b i).length ≤ (R i).length + 1 := by
  unfold addR
  split
  · simp
  · omega
theorem loop23 {n : Nat} {x0 x1 x4 : Option P} : ∀ (ps : List Pr) (R : Nat → List Nat) (x2 x3 : Option P), (∀ p ∈ ps, p.1 < n ∧ p.2 < n) → (∀ i, (R i).length + ps.length ≤ lim) → ∃ y2 y3, rowsLoop 2 3 [(2, 3)] (ps.map encP) [x0, x1, x2, x3, x4] (rowsN n R) = some ([x0, x1, y2, y3, x4], rowsN n fun i => R i ++ outR ps i)
  | [], R, x2, x3, _, _ => ⟨x2, x3, by simp [rowsLoop, outR]⟩
  | p :: ps, R, x2, x3, hb, hl => by
    have hp := hb p List.mem_cons_self
    have hl1 : (R p.1).length < lim := by
      have := hl p.1
      rw [List.length_cons] at this
      omega
    obtain ⟨y2, y3, e⟩ := loop23 (x0 := x0) (x1 := x1) (x4 := x4) ps (addR R p.1 p.2) (some (.dat (.int (p.1 : Nat)))) (some (.dat (.int (p.2 : Nat)))) (fun q hq => hb q (List.mem_cons_of_mem _ hq)) (fun i => by
      have h1 := hl i
      have h2 := addR_len (R := R) (a := p.1) (b := p.2) (i := i)
      rw [List.length_cons] at h1
      omega)
    refine ⟨y2, y3, ?_⟩
    rw [List.map_cons]
    unfold rowsLoop
    show bd (rowsStep [x0, x1, some (.dat (.int (p.1 : Nat))), some (.dat (.int (p.2 : Nat))), x4] [(2, 3)] (rowsN n R)) _ = _
    rw [rstep23 hp.1 hl1]
    simp only [bd_some]
    refine e.trans ?_
    congr 3
    funext i
    unfold addR outR
    rw [List.filter_cons]
    by_cases c : p.1 = i
    · subst c; simp
    · have c' : ¬ i = p.1 := fun h => c h.symm
      simp [c, c']
theorem loop32 {n : Nat} {x0 x1 x4 : Option P} : ∀ (ps : List Pr) (R : Nat → List Nat) (x2 x3 : Option P), (∀ p ∈ ps, p.1 < n ∧ p.2 < n) → (∀ i, (R i).length + ps.length ≤ lim) → ∃ y2 y3, rowsLoop 2 3 [(3, 2)] (ps.map encP) [x0, x1, x2, x3, x4] (rowsN n R) = some ([x0, x1, y2, y3, x4], rowsN n fun i => R i ++ inR ps i)
  | [], R, x2, x3, _, _ => ⟨x2, x3, by simp [rowsLoop, inR]⟩
  | p :: ps, R, x2, x3, hb, hl => by
    have hp := hb p List.mem_cons_self
    have hl1 : (R p.2).length < lim := by
      have := hl p.2
      rw [List.length_cons] at this
      omega
    obtain ⟨y2, y3, e⟩ := loop32 (x0 := x0) (x1 := x1) (x4 := x4) ps (addR R p.2 p.1) (some (.dat (.int (p.1 : Nat)))) (some (.dat (.int (p.2 : Nat)))) (fun q hq => hb q (List.mem_cons_of_mem _ hq)) (fun i => by
      have h1 := hl i
      have h2 := addR_len (R := R) (a := p.2) (b := p.1) (i := i)
      rw [List.length_cons] at h1
      omega)
    refine ⟨y2, y3, ?_⟩
    rw [List.map_cons]
    unfold rowsLoop
    show bd (rowsStep [x0, x1, some (.dat (.int (p.1 : Nat))), some (.dat (.int (p.2 : Nat))), x4] [(3, 2)] (rowsN n R)) _ = _
    rw [rstep32 hp.2 hl1]
    simp only [bd_some]
    refine e.trans ?_
    congr 3
    funext i
    unfold addR inR
    rw [List.filter_cons]
    by_cases c : p.2 = i
    · subst c; simp
    · have c' : ¬ i = p.2 := fun h => c h.symm
      simp [c, c']
theorem rngI {n : Nat} {ps : List Pr} {ρ : Ev} {S : Sto} (h0 : eOp oIx (eVar 0) (eC (.int 0)) ρ S = some (.dat (.int (n : Nat)), S)) (hn : n ≤ 30) : ∃ ds : List D, ds.length = n ∧ iRng1D (aCons (eOp oIx (eVar 0) (eC (.int 0))) aNil) ρ S = some ((none, ds), S) := by
  refine ⟨rngD 0 ((n : Int)).toNat, by rw [Int.toNat_natCast, rng_nat]; simp [nD], ?_⟩
  have a : aCons (eOp oIx (eVar 0) (eC (.int 0))) aNil ρ S = some ([.dat (.int (n : Nat))], S) := by
    unfold aCons
    rw [h0]
    rfl
  have hg : ∀ j : Int, (-(2 ^ 60) ≤ j ∧ j ≤ 16777216) → ∀ (f : AF), f ρ S = some ([.dat (.int j)], S) → iRng1D f ρ S = some ((none, rngD 0 j.toNat), S) := fun j hj f hf => by
    unfold iRng1D
    rw [hf]
    show (if -(2 ^ 60) ≤ j ∧ j ≤ 16777216 then _ else _) = _
    rw [if_pos hj]
  exact hg _ (by omega) _ a
theorem behinds_eq {n : Nat} {ps : List Pr} (hn : n ≤ 30) (hb : ∀ p ∈ ps, p.1 < n ∧ p.2 < n) (hl : ps.length ≤ lim) (S : Sto) : F_behinds_in [.dat (encR n ps)] S = some (.obj S.length, S ++ [.lst ((rowsN n (outR ps)).map .list)]) := by
  obtain ⟨ds, hd, hr⟩ := rngI (n := n) (ps := ps) (ρ := [some (.dat (encR n ps)), none, none, none, none]) (S := S) rfl hn
  obtain ⟨y2, y3, e⟩ := loop23 (n := n) (x0 := some (.dat (encR n ps))) (x1 := none) (x4 := none) ps (fun _ => []) none none hb (fun i => by simpa using hl)
  have e0 : List.replicate n ([] : List D) = rowsN n fun _ => [] := by
    apply List.ext_getElem (by simp [rowsN])
    intro i h1 h2
    simp [rowsN, nD]
  refine fn_obj (S1 := S) rfl (ρ' := [some (.dat (encR n ps)), some (.obj S.length), y2, y3, none]) (S' := S ++ [.lst ((rowsN n (outR ps)).map .list)]) (k := S.length) ?_ (Nat.le_refl _) st_at take_app
  show b_behinds_in [some (.dat (encR n ps)), none, none, none, none] S = _
  unfold b_behinds_in
  have hs : sRows 1 (iRng1D (aCons (eOp oIx (eVar 0) (eC (.int 0))) aNil)) (srcIx 0 1) 2 3 [(2, 3)] [some (.dat (encR n ps)), none, none, none, none] S = some (.nx, [some (.dat (encR n ps)), some (.obj S.length), y2, y3, none], S ++ [.lst ((rowsN n (outR ps)).map .list)]) := by
    unfold sRows
    rw [hr]
    simp only [bd_some]
    rw [if_pos ⟨rfl, (by decide : 1 < 5)⟩]
    have sx : srcIx 0 1 (([some (.dat (encR n ps)), none, none, none, none] : Ev).set 1 none) = some (ps.map encP) := rfl
    rw [sx]
    simp only [bd_some]
    show bd (rowsLoop 2 3 [(2, 3)] (ps.map encP) [some (.dat (encR n ps)), none, none, none, none] (List.replicate ds.length [])) _ = _
    rw [hd, e0, e]
    simp
  rw [seq_nx hs]
  exact ret_eq (var_eq rfl)
theorem befores_eq {n : Nat} {ps : List Pr} (hn : n ≤ 30) (hb : ∀ p ∈ ps, p.1 < n ∧ p.2 < n) (hl : ps.length ≤ lim) (S : Sto) : F_befores_in [.dat (encR n ps)] S = some (.obj S.length, S ++ [.lst ((rowsN n (inR ps)).map .list)]) := by
  obtain ⟨ds, hd, hr⟩ := rngI (n := n) (ps := ps) (ρ := [some (.dat (encR n ps)), none, none, none, none]) (S := S) rfl hn
  obtain ⟨y2, y3, e⟩ := loop32 (n := n) (x0 := some (.dat (encR n ps))) (x1 := none) (x4 := none) ps (fun _ => []) none none hb (fun i => by simpa using hl)
  have e0 : List.replicate n ([] : List D) = rowsN n fun _ => [] := by
    apply List.ext_getElem (by simp [rowsN])
    intro i h1 h2
    simp [rowsN, nD]
  refine fn_obj (S1 := S) rfl (ρ' := [some (.dat (encR n ps)), some (.obj S.length), y2, y3, none]) (S' := S ++ [.lst ((rowsN n (inR ps)).map .list)]) (k := S.length) ?_ (Nat.le_refl _) st_at take_app
  show b_befores_in [some (.dat (encR n ps)), none, none, none, none] S = _
  unfold b_befores_in
  have hs : sRows 1 (iRng1D (aCons (eOp oIx (eVar 0) (eC (.int 0))) aNil)) (srcIx 0 1) 2 3 [(3, 2)] [some (.dat (encR n ps)), none, none, none, none] S = some (.nx, [some (.dat (encR n ps)), some (.obj S.length), y2, y3, none], S ++ [.lst ((rowsN n (inR ps)).map .list)]) := by
    unfold sRows
    rw [hr]
    simp only [bd_some]
    rw [if_pos ⟨rfl, (by decide : 1 < 5)⟩]
    have sx : srcIx 0 1 (([some (.dat (encR n ps)), none, none, none, none] : Ev).set 1 none) = some (ps.map encP) := rfl
    rw [sx]
    simp only [bd_some]
    show bd (rowsLoop 2 3 [(3, 2)] (ps.map encP) [some (.dat (encR n ps)), none, none, none, none] (List.replicate ds.length [])) _ = _
    rw [hd, e0, e]
    simp
  rw [seq_nx hs]
  exact ret_eq (var_eq rfl)
end Lw
set_option Elab.async false
set_option linter.all false
set_option maxRecDepth 100000
set_option maxHeartbeats 1000000

namespace Lw
open PySem PySem.Spec PyProof.Rows L2 Me Tm
/-! ### are_things -/
theorem are_things_eq {n : Nat} {ps : List Pr} {X : List Nat} (hX : X.Pairwise (· < ·)) (hb : ∀ x ∈ X, x < n) (S : Sto) : F_are_things [.dat (encR n ps), .dat (.tuple (nD X))] S = some (.dat (.bool true), S) := by
  refine fn_dat (S' := S) (ρ' := [some (.dat (encR n ps)), some (.dat (.tuple (nD X))), none]) rfl ?_ (List.take_length ..)
  show b_are_things [some (.dat (encR n ps)), some (.dat (.tuple (nD X))), none] S = _
  unfold b_are_things
  have hw : iSeq (eVar 1) [some (.dat (encR n ps)), some (.dat (.tuple (nD X))), none] S = some ((none, X.map fun i => .int (i : Nat)), S) := rfl
  have c1 : eIsi "tuple" (eVar 1) [some (.dat (encR n ps)), some (.dat (.tuple (nD X))), none] S = some (.dat (.bool true), S) := rfl
  have c2 := bools_frz (q := fun bs => bs.all id) (xs := X) (p := fun _ => true) (eFrz_obj (lc_maps (is := [2]) (g := gNm 2) (f := eCall (F_is_within) (aCons (eVar 2) (aCons (eC (.int 0)) (aCons (eOp oSub (eOp oIx (eVar 0) (eC (.int 0))) (eC (.int 1))) aNil)))) (fun i => .int (i : Nat)) (fun _ => .bool true) hw fun x hm a => ⟨[some (.dat (encR n ps)), some (.dat (.tuple (nD X))), some (.dat (.int (x : Nat)))], rfl, by
    have s1 : ∀ S : Sto, eOp oSub (eOp oIx (eVar 0) (eC (.int 0))) (eC (.int 1)) [some (.dat (encR n ps)), some (.dat (.tuple (nD X))), some (.dat (.int (x : Nat)))] S = some (.dat (.int ((n : Int) - 1)), S) := fun S => by
      rw [op_eq' (show eOp oIx (eVar 0) (eC (.int 0)) [some (.dat (encR n ps)), some (.dat (.tuple (nD X))), some (.dat (.int (x : Nat)))] S = some (.dat (.int (n : Nat)), S) from rfl) rfl]
      rfl
    exact call3 (var_eq rfl) rfl (s1 _) |>.trans (within_nat (hb x hm) _)⟩))
  rw [all_true] at c2
  rw [seq_nx (S' := S) (ρ' := [some (.dat (encR n ps)), some (.dat (.tuple (nD X))), none]) (by rw [if_false ((or_f (not_eq (cE_eq c1))).trans (not_eq (cE_eq c2)))]; rfl)]
  exact ret_eq (call1 (var_eq rfl) |>.trans (is_asc_eq (fun i : Nat => .int (i : Nat)) hX (fun a b S => lt_nat S) S))
/-! ### a dict of pairs -/
def kP (p : Pr) : List Key := [.inl (p.1 : Nat), .inl (p.2 : Nat)]
theorem kP_inj {p q : Pr} (h : kP p = kP q) : p = q := by
  simp [kP] at h
  exact Prod.ext (by omega) (by omega)
theorem kP_key (p : Pr) : asKeyT (.dat (encP p)) = some (kP p) := rfl
theorem dput_keys {ks : List (List Key × D)} {k k' : List Key} {d : D} : (∃ e, (k', e) ∈ dput ks k d) ↔ (∃ e, (k', e) ∈ ks) ∨ k' = k := by
  unfold dput
  split
  · rename_i h
    rw [List.any_eq_true] at h
    obtain ⟨⟨a, x⟩, h1, h2⟩ := h
    have h2 : a = k := of_decide_eq_true h2
    subst h2
    constructor
    · rintro ⟨e, he⟩
      obtain ⟨⟨b, y⟩, hb, hc⟩ := List.mem_map.mp he
      split at hc
      · exact .inr ((congrArg Prod.fst hc).symm.trans ‹_›)
      · cases hc; exact .inl ⟨_, hb⟩
    · rintro (⟨e, he⟩ | rfl)
      · by_cases c : k' = a
        · exact ⟨d, List.mem_map.mpr ⟨(k', e), he, by simp [c]⟩⟩
        · exact ⟨e, List.mem_map.mpr ⟨(k', e), he, by simp [c]⟩⟩
      · exact ⟨d, List.mem_map.mpr ⟨(_, x), h1, by simp⟩⟩
  · simp [or_comm, exists_or]
end Lw
set_option Elab.async false
set_option linter.all false
set_option maxRecDepth 100000
set_option maxHeartbeats 1000000

namespace Lw
open PySem PySem.Spec PyProof.Rows L2 Me Tm
/-- the dict {pair: True for pair in ps} -/
def dP (ps : List Pr) : List (List Key × D) := (ps.map encP).foldl (fun a d => dput a ((asKeyT (.dat d)).getD []) (.bool true)) []
theorem dP_fold (ps : List Pr) : ∀ (acc : List (List Key × D)) (k : List Key), (∃ e, (k, e) ∈ (ps.map encP).foldl (fun a d => dput a ((asKeyT (.dat d)).getD []) (.bool true)) acc) ↔ (∃ e, (k, e) ∈ acc) ∨ ∃ p ∈ ps, k = kP p := by
  induction ps with
  | nil => intro acc k; simp
  | cons p ps ih =>
    intro acc k
    rw [List.map_cons, List.foldl_cons, ih]
    have := dput_keys (ks := acc) (k := kP p) (k' := k) (d := .bool true)
    rw [show ((asKeyT (.dat (encP p))).getD []) = kP p from rfl, this]
    simp [or_assoc]
theorem dP_mem {ps : List Pr} {p : Pr} : (∃ e, (kP p, e) ∈ dP ps) ↔ p ∈ ps := by
  rw [dP, dP_fold]
  constructor
  · rintro (⟨e, h⟩ | ⟨q, h1, h2⟩)
    · cases h
    · exact kP_inj h2 ▸ h1
  · exact fun h => .inr ⟨p, h, rfl⟩
theorem dfind_some {ks : List (List Key × D)} {k : List Key} : (dfind ks k).isSome = true ↔ ∃ e, (k, e) ∈ ks := by
  induction ks with
  | nil => simp [dfind]
  | cons a ks ih =>
    obtain ⟨b, x⟩ := a
    by_cases c : b = k
    · subst c
      simp [dfind]
    · have c' : ¬ k = b := fun h => c h.symm
      simp [dfind, c, c', ih]
theorem dP_in {ps : List Pr} {p : Pr} : (dfind (dP ps) (kP p)).isSome = decide (p ∈ ps) := by
  rw [Bool.eq_iff_iff, dfind_some, dP_mem, decide_eq_true_iff]
end Lw
set_option Elab.async false
set_option linter.all false
set_option maxRecDepth 100000
set_option maxHeartbeats 1000000

namespace Lw
open PySem PySem.Spec PyProof.Rows L2 Me Tm
theorem oInX_pair {k : Nat} {S : Sto} {ps : List Pr} {p : Pr} (h : S[k]? = some (.dT (dP ps))) : oInX false (.dat (encP p)) (.obj k) S = some (.dat (.bool (decide (p ∈ ps))), S) := by
  have e : dlook (.obj k) (.dat (encP p)) S = some (dfind (dP ps) (kP p)) := by
    unfold dlook
    simp only [h]
    rfl
  unfold oInX
  rw [e]
  simp [dP_in]
theorem ix_row {n b : Nat} {R : Nat → List Nat} {S : Sto} (h : b < n) : oIx (.dat (.list ((rowsN n R).map .list))) (.dat (.int (b : Nat))) S = some (.dat (.list (nD (R b))), S) := by
  have h1 : ((rowsN n R).map PyData.list).length = n := by simp [rowsN]
  have h2 : ((rowsN n R).map PyData.list)[b]? = some (.list (nD (R b))) := by
    rw [List.getElem?_map, rowsN_get h]
    rfl
  simp [oIx, seqOf, asInt, bd, atI, h1, ixN_nat h, rowsN_get h]
theorem any_false {β : Type} (xs : List β) : (xs.map fun _ => false).any id = false := by
  induction xs with
  | nil => rfl
  | cons x xs ih => simpa using ih
theorem dict_eq {ps : List Pr} {n : Nat} {S : Sto} : eDc MO.dT asKeyT (iSeq (eOp oIx (eVar 0) (eC (.int 1)))) [3] (gNm 3) cYes (eVar 3) (eC (.bool true)) [some (.dat (encR n ps)), none, none, none, none, none, none] S = some (.obj S.length, S ++ [.dT (dP ps)]) := by
  refine dc_pure (fun d => ((asKeyT (.dat d)).getD [], .bool true)) (ds := ps.map encP) rfl fun d hd a => ?_
  obtain ⟨p, hp, rfl⟩ := List.mem_map.mp hd
  exact ⟨_, _, _, rfl, rfl, rfl, rfl, rfl⟩
end Lw
set_option Elab.async false
set_option linter.all false
set_option maxRecDepth 100000
set_option maxHeartbeats 1000000

namespace Lw
open PySem PySem.Spec PyProof.Rows L2 Me Tm
theorem is_order_eq {n : Nat} {ps : List Pr} (h1 : 1 ≤ n) (hn : n ≤ 30) (hp : ps.Pairwise ltP) (hb : ∀ p ∈ ps, p.1 < n ∧ p.2 < n) (hl : ps.length ≤ lim) (hi : ∀ p ∈ ps, p.1 ≠ p.2) (ht : ∀ p ∈ ps, ∀ q ∈ ps, p.2 = q.1 → (p.1, q.2) ∈ ps) (S : Sto) : F_is_order_in [.dat (encR n ps)] S = some (.dat (.bool true), S) := by
  refine fn_dat (S' := S ++ [.dT (dP ps)]) (ρ' := [some (.dat (encR n ps)), some (.obj S.length), some (.dat (.list ((rowsN n (outR ps)).map .list))), none, none, none, none]) rfl ?_ take_app
  show b_is_order_in [some (.dat (encR n ps)), none, none, none, none, none, none] S = _
  unfold b_is_order_in
  rw [seq_nx (S' := S) (ρ' := [some (.dat (encR n ps)), none, none, none, none, none, none]) (by rw [if_false (not_eq (cE_eq (call1 (var_eq rfl) |>.trans (form_eq h1 hn hp hb S))))]; rfl)]
  rw [seq_nx (S' := S ++ [.dT (dP ps)]) (ρ' := [some (.dat (encR n ps)), some (.obj S.length), none, none, none, none, none]) (by
    unfold sSet
    rw [dict_eq]
    rfl)]
  have hw : ∀ x S, iSeq (eOp oIx (eVar 0) (eC (.int 1))) [some (.dat (encR n ps)), some (.obj x), none, none, none, none, none] S = some ((none, ps.map encP), S) := fun _ _ => rfl
  have c2 := bools_frz (q := fun bs => bs.any id) (xs := ps) (p := fun _ => false) (eFrz_obj (lc_maps (is := [4, 5]) (g := gTp (gsCons (gNm 4) (gsCons (gNm 5) gsNil))) (f := eOp oEq (eVar 4) (eVar 5)) encP (fun _ => .bool false) (hw S.length (S ++ [.dT (dP ps)])) fun p hm a => ⟨[some (.dat (encR n ps)), some (.obj S.length), none, none, some (.dat (.int (p.1 : Nat))), some (.dat (.int (p.2 : Nat))), none], rfl, by
    rw [op_eq' (var_eq rfl) (var_eq rfl)]
    have := hi p hm
    simp [oEq, rdP, bd, okD, SeqAt.shaped, PyData.canLay0, PyData.depth, PyData.eqv]
    omega⟩))
  rw [any_false] at c2
  rw [seq_nx (S' := S ++ [.dT (dP ps)]) (ρ' := [some (.dat (encR n ps)), some (.obj S.length), none, none, none, none, none]) (by rw [if_false (cE_eq c2)]; rfl)]
  rw [seq_nx (S' := S ++ [.dT (dP ps)]) (ρ' := [some (.dat (encR n ps)), some (.obj S.length), some (.dat (.list ((rowsN n (outR ps)).map .list))), none, none, none, none]) (by
    unfold sSet
    rw [eFrz_obj (call1 (var_eq rfl) |>.trans (behinds_eq hn hb hl _))]
    rfl)]
  have hw2 : ∀ x y S, iSeq (eOp oIx (eVar 0) (eC (.int 1))) [some (.dat (encR n ps)), some (.obj x), some y, none, none, none, none] S = some ((none, ps.map encP), S) := fun _ _ _ => rfl
  have c3 := bools_frz (q := fun bs => bs.all id) (xs := ps) (p := fun _ => true) (eFrz_obj (lc_maps (is := [4, 5]) (g := gTp (gsCons (gNm 4) (gsCons (gNm 5) gsNil))) (f := eCall (oBools fun bs => bs.all id) (aCons (eFrz (eLc (iSeq (eOp oIx (eVar 2) (eVar 5))) [6] (gNm 6) cYes (eOp (oInX false) (eTup (aCons (eVar 4) (aCons (eVar 6) aNil))) (eVar 1)))) aNil)) encP (fun _ => .bool true) (hw2 S.length (.dat (.list ((rowsN n (outR ps)).map .list))) (S ++ [.dT (dP ps)])) fun p hm a => ⟨[some (.dat (encR n ps)), some (.obj S.length), some (.dat (.list ((rowsN n (outR ps)).map .list))), none, some (.dat (.int (p.1 : Nat))), some (.dat (.int (p.2 : Nat))), none], rfl, by
    have hs : ∀ S' : Sto, iSeq (eOp oIx (eVar 2) (eVar 5)) [some (.dat (encR n ps)), some (.obj S.length), some (.dat (.list ((rowsN n (outR ps)).map .list))), none, some (.dat (.int (p.1 : Nat))), some (.dat (.int (p.2 : Nat))), none] S' = some ((none, (outR ps p.2).map fun i => .int (i : Nat)), S') := fun _ => by
      unfold iSeq
      rw [op_eq' (var_eq rfl) (var_eq rfl), ix_row (hb p hm).2]
      rfl
    have c := bools_frz (q := fun bs => bs.all id) (xs := outR ps p.2) (p := fun _ => true) (eFrz_obj (lc_maps (is := [6]) (g := gNm 6) (f := eOp (oInX false) (eTup (aCons (eVar 4) (aCons (eVar 6) aNil))) (eVar 1)) (fun i => .int (i : Nat)) (fun _ => .bool true) (hs ((S ++ [.dT (dP ps)]) ++ [.lst a])) fun r hr b => ⟨[some (.dat (encR n ps)), some (.obj S.length), some (.dat (.list ((rowsN n (outR ps)).map .list))), none, some (.dat (.int (p.1 : Nat))), some (.dat (.int (p.2 : Nat))), some (.dat (.int (r : Nat)))], rfl, by
      obtain ⟨q, hq, rfl⟩ := List.mem_map.mp hr
      obtain ⟨hq, e⟩ := List.mem_filter.mp hq
      have e : q.1 = p.2 := by simpa using e
      rw [op_eq' (tup2 (var_eq rfl) (var_eq rfl)) (var_eq rfl)]
      refine (oInX_pair (p := (p.1, q.2)) (ps := ps) (by simp)).trans ?_
      rw [decide_eq_true (ht p hm q hq e.symm)]⟩))
    rw [all_true] at c
    exact c⟩))
  rw [all_true] at c3
  exact ret_eq c3
end Lw
set_option Elab.async false
set_option linter.all false
set_option maxRecDepth 100000
set_option maxHeartbeats 1000000

namespace Lw
open PySem PySem.Spec PyProof.Rows L2 Me Tm
/-- an order told by a relation -/
structure Ord (n : Nat) (r : Nat → Nat → Bool) : Prop where
  lo : 1 ≤ n
  hi : n ≤ 30
  irr : ∀ i, r i i = false
  tr : ∀ i j k, r i j = true → r j k = true → r i k = true
theorem canon_len (n : Nat) (r : Nat → Nat → Bool) (h : n ≤ 30) : (canon n r).length ≤ 900 := by
  have a : (canon n r).Sublist ((List.range n).flatMap fun i => (List.range n).map fun j => (i, j)) := by
    unfold canon
    generalize List.range n = L
    have : ∀ M : List Nat, (M.flatMap fun i => (L.filter (r i)).map fun j => (i, j)).Sublist (M.flatMap fun i => L.map fun j => (i, j)) := fun M => by
      induction M with
      | nil => exact .slnil
      | cons i M ih =>
        rw [List.flatMap_cons, List.flatMap_cons]
        exact List.Sublist.append (List.filter_sublist.map _) ih
    exact this L
  have b := a.length_le
  rw [flat_len, List.length_range] at b
  exact Nat.le_trans b (Nat.mul_le_mul h h)
theorem is_order_canon {n : Nat} {r : Nat → Nat → Bool} (o : Ord n r) (S : Sto) : F_is_order_in [.dat (encR n (canon n r))] S = some (.dat (.bool true), S) :=
  is_order_eq o.lo o.hi (canon_asc n r) (fun p hp => by
    have h := mem_canon.mp (show (p.1, p.2) ∈ canon n r from hp)
    exact ⟨h.1, h.2.1⟩) (Nat.le_trans (canon_len n r o.hi) (by decide)) (fun p hp e => by
    have h := mem_canon.mp (show (p.1, p.2) ∈ canon n r from hp)
    rw [← e, o.irr] at h
    cases h.2.2) (fun p hp q hq e => by
    have h := mem_canon.mp (show (p.1, p.2) ∈ canon n r from hp)
    have k := mem_canon.mp (show (q.1, q.2) ∈ canon n r from hq)
    rw [← e] at k
    exact mem_canon.mpr ⟨h.1, k.2.1, o.tr _ _ _ h.2.2 k.2.2⟩) S
theorem req_order_eq {n : Nat} {r : Nat → Nat → Bool} (o : Ord n r) (S : Sto) : F_require_order [.dat (encR n (canon n r))] S = some (.dat .none, S) := by
  refine fn_nx (S' := S) (ρ' := [some (.dat (encR n (canon n r)))]) rfl ?_ (List.take_length ..)
  show b_require_order [some (.dat (encR n (canon n r)))] S = _
  unfold b_require_order
  rw [if_false (not_eq (b := true) (cE_eq (call1 (var_eq rfl) |>.trans (is_order_canon o S))))]
  rfl
theorem req_things_eq {n : Nat} {ps : List Pr} {X : List Nat} (hX : X.Pairwise (· < ·)) (hb : ∀ x ∈ X, x < n) (S : Sto) : F_require_things [.dat (encR n ps), .dat (.tuple (nD X))] S = some (.dat .none, S) := by
  refine fn_nx (S' := S) (ρ' := [some (.dat (encR n ps)), some (.dat (.tuple (nD X)))]) rfl ?_ (List.take_length ..)
  show b_require_things [some (.dat (encR n ps)), some (.dat (.tuple (nD X)))] S = _
  unfold b_require_things
  rw [if_false (not_eq (b := true) (cE_eq (call2 (var_eq rfl) (var_eq rfl) |>.trans (are_things_eq hX hb S))))]
  rfl
theorem turned_in_eq {n : Nat} {r : Nat → Nat → Bool} (S : Sto) : F_turned_in [.dat (encR n (canon n r))] S = some (.dat (encR n (canon n fun i j => r j i)), S) := by
  refine fn_dat (S' := S) (ρ' := [some (.dat (encR n (canon n r))), none, none]) rfl ?_ (List.take_length ..)
  show b_turned_in [some (.dat (encR n (canon n r))), none, none] S = _
  unfold b_turned_in
  have hw : iSeq (eOp oIx (eVar 0) (eC (.int 1))) [some (.dat (encR n (canon n r))), none, none] S = some ((none, (canon n r).map encP), S) := rfl
  have h := eFrz_obj (lc_maps (is := [1, 2]) (g := gTp (gsCons (gNm 1) (gsCons (gNm 2) gsNil))) (f := eTup (aCons (eVar 2) (aCons (eVar 1) aNil))) encP (fun p => encP (p.2, p.1)) hw fun p hm a => ⟨[some (.dat (encR n (canon n r))), some (.dat (.int (p.1 : Nat))), some (.dat (.int (p.2 : Nat)))], rfl, tup2 (var_eq rfl) (var_eq rfl)⟩)
  rw [show (canon n r).map (fun p => encP (p.2, p.1)) = ((canon n r).map fun p => (p.2, p.1)).map encP by rw [List.map_map]; rfl] at h
  exact ret_eq (tup2 rfl (tuple_lst (sorted_frz h (ok_pairs _) (sortD_pairs turned_perm (canon_asc _ _)))))
theorem turned_order_eq {n : Nat} {r : Nat → Nat → Bool} (o : Ord n r) (S : Sto) : F_turned [.dat (encR n (canon n r))] S = some (.dat (encR n (canon n fun i j => r j i)), S) := by
  refine fn_dat (S' := S) (ρ' := [some (.dat (encR n (canon n r)))]) rfl ?_ (List.take_length ..)
  show b_turned [some (.dat (encR n (canon n r)))] S = _
  unfold b_turned
  rw [seq_nx (drop_eq (call1 (var_eq rfl) |>.trans (req_order_eq o S)))]
  exact ret_eq (call1 (var_eq rfl) |>.trans (turned_in_eq S))
end Lw
set_option Elab.async false
set_option linter.all false
set_option maxRecDepth 100000
set_option maxHeartbeats 1000000

namespace Lw
open PySem PySem.Spec PyProof.Rows L2 Me Tm
/-! ### the dict {thing: k for k, thing in enumerate(things)} -/
section
variable {κ : Type} [DecidableEq κ]
theorem dfind_cons (b : κ) (x : D) (ks : List (κ × D)) (k : κ) : dfind ((b, x) :: ks) k = if b = k then some x else dfind ks k := by
  by_cases c : b = k <;> simp [dfind, c]
theorem dfind_upd (k : κ) (d : D) (k' : κ) : ∀ ks : List (κ × D), dfind (ks.map fun kv => if kv.1 = k then (kv.1, d) else kv) k' = if k' = k then (dfind ks k).map fun _ => d else dfind ks k'
  | [] => by simp [dfind]
  | (b, x) :: ks => by
    have ih := dfind_upd k d k' ks
    rw [List.map_cons, dfind_cons, dfind_cons]
    by_cases c : b = k
    · subst c
      simp only [if_true]
      rw [dfind_cons, ih]
      by_cases e : b = k'
      · simp [e]
      · have e' : ¬ k' = b := fun h => e h.symm
        simp [e, e']
    · simp only [c, if_false]
      rw [dfind_cons, ih]
      by_cases e : b = k'
      · subst e; simp [c]
      · simp [e]
theorem dfind_any {k : κ} : ∀ {ks : List (κ × D)}, (ks.any fun kv => decide (kv.1 = k)) = (dfind ks k).isSome
  | [] => rfl
  | (b, x) :: ks => by
    rw [List.any_cons, dfind_cons, dfind_any]
    by_cases c : b = k <;> simp [c]
theorem dfind_app (k' : κ) (k : κ) (d : D) : ∀ ks : List (κ × D), dfind (ks ++ [(k, d)]) k' = (dfind ks k').or (if k = k' then some d else none)
  | [] => by rw [List.nil_append, dfind_cons]; simp [dfind]
  | (b, x) :: ks => by
    rw [List.cons_append, dfind_cons, dfind_cons, dfind_app k' k d ks]
    by_cases c : b = k' <;> simp [c]
theorem dfind_put (k : κ) (d : D) (k' : κ) (ks : List (κ × D)) : dfind (dput ks k d) k' = if k' = k then some d else dfind ks k' := by
  unfold dput
  split
  · rename_i h
    rw [dfind_any] at h
    rw [dfind_upd]
    by_cases e : k' = k
    · obtain ⟨y, hy⟩ := Option.isSome_iff_exists.mp h
      simp [e, hy]
    · simp [e]
  · rename_i h
    rw [dfind_any] at h
    rw [dfind_app]
    by_cases e : k' = k
    · subst e
      simp at h
      simp [h]
    · have e' : ¬ k = k' := fun h => e h.symm
      simp [e, e']
end
end Lw
set_option Elab.async false
set_option linter.all false
set_option maxRecDepth 100000
set_option maxHeartbeats 1000000

namespace Lw
open PySem PySem.Spec PyProof.Rows L2 Me Tm
def vE : D → Key × D
  | .tuple [a, b] => ((asKey b).getD (.inl 0), a)
  | _ => (.inl 0, .none)
def dX (X : List Nat) : List (Key × D) := (enD 0 (nD X)).foldl (fun a d => dput a (vE d).1 (vE d).2) []
theorem dX_fold (i : Nat) : ∀ (X : List Nat) (j : Nat) (acc : List (Key × D)), X.Nodup → dfind ((enD j (nD X)).foldl (fun a d => dput a (vE d).1 (vE d).2) acc) (.inl ((i : Nat) : Int)) = if i ∈ X then some (.int ((j + X.idxOf i : Nat) : Int)) else dfind acc (.inl ((i : Nat) : Int))
  | [], j, acc, _ => by simp [nD, enD]
  | x :: X, j, acc, h => by
    have h' := List.nodup_cons.mp h
    rw [show nD (x :: X) = .int (x : Nat) :: nD X from rfl, enD, List.foldl_cons, dX_fold i X (j + 1) _ h'.2]
    rw [show vE (.tuple [.int (j : Nat), .int (x : Nat)]) = (.inl ((x : Nat) : Int), .int (j : Nat)) from rfl, dfind_put]
    by_cases c : i = x
    · subst c
      simp [h'.1]
    · have c' : ¬ x = i := fun h => c h.symm
      by_cases m : i ∈ X
      · have b : (x :: X).idxOf i = X.idxOf i + 1 := by
          rw [List.idxOf_cons, beq_false_of_ne c']
          rfl
        rw [b]
        simp [m, c]
        omega
      · simp [m, c]
        intro e
        omega
end Lw
set_option Elab.async false
set_option linter.all false
set_option maxRecDepth 100000
set_option maxHeartbeats 1000000

namespace Lw
open PySem PySem.Spec PyProof.Rows L2 Me Tm
theorem dX_find {X : List Nat} (nd : X.Nodup) (i : Nat) : dfind (dX X) (.inl ((i : Nat) : Int)) = (idx X i).map fun k => PyData.int (k : Nat) := by
  rw [dX, dX_fold i X 0 [] nd]
  unfold idx
  by_cases m : i ∈ X
  · simp [m]
  · simp [m, dfind]
theorem dXc_eq {X : List Nat} {ρ : Ev} {S : Sto} {u : Option P} {g : GF} {is : List Nat} (hw : iEnD (aCons (eVar 1) aNil) ρ S = some ((none, enD 0 (nD X)), S)) (hg : ∀ k x : Nat, g (.tuple [.int (k : Nat), .int (x : Nat)]) (wipeE ρ is) = some (((wipeE ρ is).set 4 (some (.dat (.int (k : Nat))))).set 5 (some (.dat (.int (x : Nat)))))) (hl : 5 < (wipeE ρ is).length) :
    eDc MO.dK asKeyP (iEnD (aCons (eVar 1) aNil)) is g cYes (eVar 5) (eVar 4) ρ S = some (.obj S.length, S ++ [.dK (dX X)]) := by
  refine dc_pure vE hw fun d hd a => ?_
  have hm : ∀ (X : List Nat) (j : Nat), ∀ d ∈ enD j (nD X), ∃ k x : Nat, d = .tuple [.int (k : Nat), .int (x : Nat)] := fun X => by
    induction X with
    | nil => intro j d h; simp [nD, enD] at h
    | cons x X ih =>
      intro j d h
      rw [show nD (x :: X) = .int (x : Nat) :: nD X from rfl, enD] at h
      rcases List.mem_cons.mp h with rfl | h
      · exact ⟨j, x, rfl⟩
      · exact ih _ d h
  obtain ⟨k, x, rfl⟩ := hm X 0 d hd
  refine ⟨_, .dat (.int (x : Nat)), _, hg k x, ?_, rfl, ?_, rfl⟩
  · exact var_eq (getD_set_same (by rw [List.length_set]; exact hl))
  · refine var_eq ?_
    rw [List.getD_eq_getElem?_getD, List.getElem?_set_ne (by decide), ← List.getD_eq_getElem?_getD]
    exact getD_set_same (Nat.lt_of_succ_lt hl)
end Lw
set_option Elab.async false
set_option linter.all false
set_option maxRecDepth 100000
set_option maxHeartbeats 1000000
/-! Me17: the pure functions worked out step by step (weakest claims, by simp). -/
namespace Me
open PySem PySem.Spec PyProof.Rows L2

structure Tag {β : Type} (Q : β → Prop) : Type where
  n : Nat
def okO {β : Type} (r : Option β) (Q : β → Prop) (_ : Tag Q := ⟨0⟩) : Prop := ∃ x, r = some x ∧ Q x
@[simp ↓] theorem okO_some {β : Type} {x : β} {Q : β → Prop} {t : Tag Q} : okO (some x) Q t = Q x := by simp [okO]
@[simp ↓] theorem okO_bind {β γ : Type} {x : Option β} {f : β → Option γ} {Q : γ → Prop} {t : Tag Q} : okO (x.bind f) Q t = okO x fun y => okO (f y) Q := by
  cases x <;> simp [okO]
theorem ok_eq {β : Type} {r : Option β} {x : β} (h : okO r fun y => y = x) : r = some x := by
  obtain ⟨y, e, rfl⟩ := h
  exact e
theorem eq_ok {β : Type} {r : Option β} {x : β} {Q : β → Prop} (h : r = some x) (q : Q x) : okO r Q := ⟨x, h, q⟩
theorem okO.mono {β : Type} {r : Option β} {Q R : β → Prop} (h : okO r Q) (k : ∀ x, Q x → R x) : okO r R := by
  obtain ⟨x, e, q⟩ := h
  exact ⟨x, e, k x q⟩
section
variable {ρ : Ev} {S : Sto}
/-! expressions -/
@[simp ↓] theorem wp_var {i : Nat} {Q : _ → Prop} {t : Tag Q} : okO (eVar i ρ S) Q t = okO (bd (ρ.getD i none) fun p => some (p, S)) Q := id rfl
@[simp ↓] theorem wp_C {d : D} {Q : _ → Prop} {t : Tag Q} : okO (eC d ρ S) Q t = okO (some (.dat d, S)) Q := id rfl
@[simp ↓] theorem wp_op {o : OF} {a b : EF} {Q : _ → Prop} {t : Tag Q} : okO (eOp o a b ρ S) Q t = okO (bd (a ρ S) fun x => bd (b ρ x.2) fun y => o x.1 y.1 y.2) Q := id rfl
@[simp ↓] theorem wp_un {o : UF} {a : EF} {Q : _ → Prop} {t : Tag Q} : okO (eUn o a ρ S) Q t = okO (bd (a ρ S) fun x => o x.1 x.2) Q := id rfl
def cEk (x : P × Sto) : Option (Bool × Sto) := match x.1 with
  | .dat (.bool b) => some (b, x.2)
  | _ => none
@[simp] theorem cEk_b {b : Bool} : cEk (.dat (.bool b), S) = some (b, S) := id rfl
@[simp ↓] theorem wp_cE {a : EF} {Q : _ → Prop} {t : Tag Q} : okO (cE a ρ S) Q t = okO (bd (a ρ S) cEk) Q := id rfl
def chainK (o' : OF) (c : EF) (ρ : Ev) (y : P) (z : P × Sto) : Option (P × Sto) := match z.1 with
  | .dat (.bool true) => bd (c ρ z.2) fun u => o' y u.1 u.2
  | .dat (.bool false) => some (.dat (.bool false), z.2)
  | _ => none
@[simp] theorem chainK_b {o' : OF} {c : EF} {y : P} {b : Bool} : chainK o' c ρ y (.dat (.bool b), S) = if b = true then bd (c ρ S) fun u => o' y u.1 u.2 else some (.dat (.bool false), S) := by cases b <;> rfl
@[simp ↓] theorem wp_chain {o o' : OF} {a b c : EF} {Q : _ → Prop} {t : Tag Q} : okO (eChain o o' a b c ρ S) Q t = okO (bd (a ρ S) fun x => bd (b ρ x.2) fun y => bd (o x.1 y.1 y.2) (chainK o' c ρ y.1)) Q := id rfl
@[simp ↓] theorem wp_cAnd {a b : CF} {Q : _ → Prop} {t : Tag Q} : okO (cAnd a b ρ S) Q t = okO (bd (a ρ S) fun x => if x.1 = true then b ρ x.2 else some (false, x.2)) Q := id rfl
@[simp ↓] theorem wp_cOr {a b : CF} {Q : _ → Prop} {t : Tag Q} : okO (cOr a b ρ S) Q t = okO (bd (a ρ S) fun x => if x.1 = true then some (true, x.2) else b ρ x.2) Q := id rfl
@[simp ↓] theorem wp_cNot {a : CF} {Q : _ → Prop} {t : Tag Q} : okO (cNot a ρ S) Q t = okO (bd (a ρ S) fun x => some (!x.1, x.2)) Q := id rfl
@[simp ↓] theorem wp_cYes {Q : _ → Prop} {t : Tag Q} : okO (cYes ρ S) Q t = okO (some (true, S)) Q := id rfl
@[simp ↓] theorem wp_B {a : CF} {Q : _ → Prop} {t : Tag Q} : okO (eB a ρ S) Q t = okO (bd (a ρ S) fun x => some (.dat (.bool x.1), x.2)) Q := id rfl
@[simp ↓] theorem wp_If {c : CF} {a b : EF} {Q : _ → Prop} {t : Tag Q} : okO (eIf c a b ρ S) Q t = okO (bd (c ρ S) fun x => if x.1 = true then a ρ x.2 else b ρ x.2) Q := id rfl
@[simp ↓] theorem wp_And {a b : EF} {Q : _ → Prop} {t : Tag Q} : okO (eAnd a b ρ S) Q t = okO (bd (cE a ρ S) fun x => if x.1 = true then b ρ x.2 else some (.dat (.bool false), x.2)) Q := id rfl
@[simp ↓] theorem wp_Or {a b : EF} {Q : _ → Prop} {t : Tag Q} : okO (eOr a b ρ S) Q t = okO (bd (cE a ρ S) fun x => if x.1 = true then some (.dat (.bool true), x.2) else b ρ x.2) Q := id rfl
@[simp ↓] theorem wp_Not {a : EF} {Q : _ → Prop} {t : Tag Q} : okO (eNot a ρ S) Q t = okO (bd (cE a ρ S) fun x => some (.dat (.bool (!x.1)), x.2)) Q := id rfl
@[simp ↓] theorem wp_aNil {Q : _ → Prop} {t : Tag Q} : okO (aNil ρ S) Q t = okO (some ([], S)) Q := id rfl
@[simp ↓] theorem wp_aCons {a : EF} {r : AF} {Q : _ → Prop} {t : Tag Q} : okO (aCons a r ρ S) Q t = okO (bd (a ρ S) fun x => bd (r ρ x.2) fun y => some (x.1 :: y.1, y.2)) Q := id rfl
@[simp ↓] theorem wp_aStar {a : EF} {r : AF} {Q : _ → Prop} {t : Tag Q} : okO (aStar a r ρ S) Q t = okO (bd (a ρ S) fun x => bd (seqOf x.1 x.2) fun xs => bd (r ρ x.2) fun y => some (xs.map P.dat ++ y.1, y.2)) Q := id rfl
@[simp ↓] theorem wp_call {F : VF} {a : AF} {Q : _ → Prop} {t : Tag Q} : okO (eCall F a ρ S) Q t = okO (bd (a ρ S) fun x => F x.1 x.2) Q := id rfl
@[simp ↓] theorem wp_Tup {f : AF} {Q : _ → Prop} {t : Tag Q} : okO (eTup f ρ S) Q t = okO (bd (f ρ S) fun x => bd (dats x.1) fun ds => if ds.length ≤ 16777216 then some (.dat (.tuple ds), x.2) else none) Q := id rfl
@[simp ↓] theorem wp_Lst {f : AF} {Q : _ → Prop} {t : Tag Q} : okO (eLst f ρ S) Q t = okO (bd (f ρ S) fun x => bd (dats x.1) fun ds => if ds.length ≤ 16777216 then some (.obj x.2.length, x.2 ++ [.lst ds]) else none) Q := id rfl
@[simp] theorem dats_nil : dats [] = some [] := id rfl
@[simp] theorem dats_cons {d : D} {r : List P} : dats (.dat d :: r) = bd (dats r) fun ns => some (d :: ns) := id rfl
@[simp] theorem dats_maps {l : List D} : dats (l.map P.dat) = some l := by
  induction l with
  | nil => rfl
  | cons a l ih =>
    show bd (dats (l.map P.dat)) _ = _
    rw [ih]
    rfl
@[simp] theorem dats_maps2 {l : List D} {r : List P} : dats (l.map P.dat ++ r) = bd (dats r) fun ns => some (l ++ ns) := by
  induction l with
  | nil => show dats r = _; cases dats r <;> rfl
  | cons a l ih =>
    show bd (dats (l.map P.dat ++ r)) _ = _
    rw [ih]
    cases dats r <;> rfl
@[simp] theorem dats_mapf {β : Type} {f : β → D} {l : List β} : dats (l.map (P.dat ∘ f)) = some (l.map f) := by
  have := dats_maps (l := l.map f)
  rw [List.map_map] at this
  exact this
@[simp] theorem dats_mapg {β : Type} {f : β → D} {l : List β} : dats (l.map fun x => P.dat (f x)) = some (l.map f) := dats_mapf
@[simp ↓] theorem wp_Frz {f : EF} {Q : _ → Prop} {t : Tag Q} : okO (eFrz f ρ S) Q t = okO (bd (f ρ S) fun x => frzP S.length x.1 x.2) Q := id rfl
@[simp] theorem frzP_dat {d : D} {n : Nat} : frzP n (.dat d) S = some (.dat d, S) := id rfl
@[simp] theorem frzP_fz {d : List D} {n : Nat} : frzP n (.fz d) S = some (.fz d, S) := id rfl
@[simp] theorem frzP_last {xs : List D} {n : Nat} (h : n ≤ S.length) : frzP n (.obj S.length) (S ++ [.lst xs]) = some (.dat (.list xs), S) := by
  simp [frzP, lstAt, bd, h]
@[simp] theorem frzP_last1 {xs : List D} {a : MO} {n : Nat} (h : n ≤ S.length + 1) : frzP n (.obj (S.length + 1)) (S ++ [a, .lst xs]) = some (.dat (.list xs), S ++ [a]) := by
  have := frzP_last (S := S ++ [a]) (xs := xs) (n := n) (by simpa using h)
  simpa using this
@[simp] theorem frzP_last2 {xs : List D} {a b : MO} {n : Nat} (h : n ≤ S.length + 2) : frzP n (.obj (S.length + 2)) (S ++ [a, b, .lst xs]) = some (.dat (.list xs), S ++ [a, b]) := by
  have := frzP_last (S := S ++ [a, b]) (xs := xs) (n := n) (by simpa using h)
  simpa using this
@[simp] theorem frzP_last3 {xs : List D} {a b c : MO} {n : Nat} (h : n ≤ S.length + 3) : frzP n (.obj (S.length + 3)) (S ++ [a, b, c, .lst xs]) = some (.dat (.list xs), S ++ [a, b, c]) := by
  have := frzP_last (S := S ++ [a, b, c]) (xs := xs) (n := n) (by simpa using h)
  simpa using this
@[simp] theorem frzP_last4 {xs : List D} {a b c d : MO} {n : Nat} (h : n ≤ S.length + 4) : frzP n (.obj (S.length + 4)) (S ++ [a, b, c, d, .lst xs]) = some (.dat (.list xs), S ++ [a, b, c, d]) := by
  have := frzP_last (S := S ++ [a, b, c, d]) (xs := xs) (n := n) (by simpa using h)
  simpa using this
/-! readings -/
@[simp] theorem asInt_i {i : Int} : asInt (.dat (.int i)) = some i := id rfl
@[simp] theorem asInt_l {i : List D} : asInt (.dat (.list i)) = none := id rfl
@[simp] theorem asInt_t {i : List D} : asInt (.dat (.tuple i)) = none := id rfl
@[simp] theorem asInt_o {i : Nat} : asInt (.obj i) = none := id rfl
@[simp] theorem asInt_f {i : List D} : asInt (.fz i) = none := id rfl
@[simp] theorem asInt_b {b : Bool} : asInt (.dat (.bool b)) = none := id rfl
@[simp] theorem asBool_b {b : Bool} : asBool (.dat (.bool b)) = some b := id rfl
@[simp] theorem asStr_s {b : Str} : asStr (.dat (.str b)) = some b := id rfl
@[simp] theorem asDat_d {d : D} : asDat (.dat d) = some d := id rfl
@[simp] theorem asTup_t {d : List D} : asTup (.dat (.tuple d)) = some d := id rfl
@[simp] theorem asTup_l {d : List D} : asTup (.dat (.list d)) = none := id rfl
@[simp] theorem asTup_o {d : Nat} : asTup (.obj d) = none := id rfl
@[simp] theorem asTup_f {d : List D} : asTup (.fz d) = none := id rfl
@[simp] theorem asObj_o {d : Nat} : asObj (.obj d) = some d := id rfl
@[simp] theorem seqOf_l {d : List D} : seqOf (.dat (.list d)) S = some d := id rfl
@[simp] theorem seqOf_t {d : List D} : seqOf (.dat (.tuple d)) S = some d := id rfl
@[simp] theorem seqOf_f {d : List D} : seqOf (.fz d) S = some d := id rfl
def moL : Option MO → Option (List D)
  | some (.lst xs) => some xs
  | _ => none
@[simp] theorem moL_l {d : List D} : moL (some (.lst d)) = some d := id rfl
@[simp] theorem moL_k {d : List (Key × D)} : moL (some (.dK d)) = none := id rfl
@[simp] theorem moL_t {d : List (List Key × D)} : moL (some (.dT d)) = none := id rfl
theorem moL_at {o : Option MO} : moL o = match o with
    | some (.lst xs) => some xs
    | _ => none := by
  cases o with
  | none => rfl
  | some m => cases m <;> rfl
@[simp] theorem seqOf_o {k : Nat} : seqOf (.obj k) S = moL S[k]? := by rw [moL_at]; rfl
@[simp] theorem lsqOf_l {d : List D} : lsqOf (.dat (.list d)) S = some d := id rfl
@[simp] theorem lsqOf_f {d : List D} : lsqOf (.fz d) S = some d := id rfl
@[simp] theorem lsqOf_t {d : List D} : lsqOf (.dat (.tuple d)) S = none := id rfl
@[simp] theorem lstAt_o {k : Nat} : lstAt k S = moL S[k]? := by rw [moL_at]; rfl
@[simp] theorem lsqOf_o {k : Nat} : lsqOf (.obj k) S = moL S[k]? := lstAt_o
@[simp] theorem asLst_l {d : List D} : asLst (.dat (.list d)) S = some d := id rfl
@[simp] theorem asLst_o {k : Nat} : asLst (.obj k) S = moL S[k]? := lstAt_o
@[simp] theorem asLst_i {i : Int} : asLst (.dat (.int i)) S = none := id rfl
@[simp] theorem asLst_t {d : List D} : asLst (.dat (.tuple d)) S = none := id rfl
@[simp] theorem rdP_d {d : D} : rdP (.dat d) S = some d := id rfl
@[simp] theorem rdP_f {d : List D} : rdP (.fz d) S = some (.list d) := id rfl
@[simp] theorem rdP_o {k : Nat} : rdP (.obj k) S = bd (moL S[k]?) fun xs => some (.list xs) := by rw [← lstAt_o]; rfl
@[simp] theorem one1_p {p : P} : one1 [p] = some p := id rfl
@[simp] theorem two2_p {p q : P} : two2 [p, q] = some (p, q) := id rfl
@[simp] theorem three3_p {p q r : P} : three3 [p, q, r] = some (p, q, r) := id rfl
@[simp] theorem isNone_n : isNone (.dat .none) = true := id rfl
@[simp] theorem isNone_i {i : Int} : isNone (.dat (.int i)) = false := id rfl
@[simp] theorem isNone_t {i : List D} : isNone (.dat (.tuple i)) = false := id rfl
@[simp] theorem isNone_l {i : List D} : isNone (.dat (.list i)) = false := id rfl
@[simp] theorem isNone_b {i : Bool} : isNone (.dat (.bool i)) = false := id rfl
@[simp] theorem isNone_s {i : Str} : isNone (.dat (.str i)) = false := id rfl
@[simp] theorem isNone_o {i : Nat} : isNone (.obj i) = false := id rfl
@[simp] theorem isNone_f {i : List D} : isNone (.fz i) = false := id rfl
/-! the store -/
@[simp ↓ high] theorem st_len {β : Type} {S l : List β} {j : Nat} : (S ++ l)[S.length + j]? = l[j]? := by
  rw [List.getElem?_append_right (Nat.le_add_right _ _), Nat.add_sub_cancel_left]
@[simp ↓ high] theorem st_len0 {β : Type} {S l : List β} : (S ++ l)[S.length]? = l[0]? := st_len (j := 0)
@[simp ↓ high] theorem st_setj {β : Type} {S l : List β} {j : Nat} {m : β} : (S ++ l).set (S.length + j) m = S ++ l.set j m := by
  rw [List.set_append_right _ _ (Nat.le_add_right _ _), Nat.add_sub_cancel_left]
@[simp ↓ high] theorem st_set0 {β : Type} {S l : List β} {m : β} : (S ++ l).set S.length m = S ++ l.set 0 m := st_setj (j := 0)
@[simp ↓ high] theorem st_takej {β : Type} {S l : List β} {j : Nat} : (S ++ l).take (S.length + j) = S ++ l.take j := by
  rw [List.take_append, List.take_of_length_le (Nat.le_add_right _ _), Nat.add_sub_cancel_left]
@[simp ↓ high] theorem st_take0 {β : Type} {S l : List β} : (S ++ l).take S.length = S := List.take_left
/-! operators -/
@[simp] theorem ev_II {g : Int → Int → D} {i j : Int} : oII g (.dat (.int i)) (.dat (.int j)) S = some (.dat (g i j), S) := id rfl
theorem ev_IIc {c : Int → Int → Bool} {g : Int → Int → D} {i j : Int} : oIIc c g (.dat (.int i)) (.dat (.int j)) S = if c i j = true then some (.dat (g i j), S) else none := id rfl
@[simp] theorem ev_Neg {i : Int} : oNeg (.dat (.int i)) S = some (.dat (.int (-i)), S) := id rfl
@[simp] theorem ev_orO_ii {g : Int → Int → D} {o : OF} {i j : Int} : orO (oII g) o (.dat (.int i)) (.dat (.int j)) S = some (.dat (g i j), S) := id rfl
@[simp] theorem ev_Add_i {i j : Int} : oAdd (.dat (.int i)) (.dat (.int j)) S = some (.dat (.int (i + j)), S) := id rfl
@[simp] theorem ev_Add_l {xs ys : List D} : oAdd (.dat (.list xs)) (.dat (.list ys)) S = if xs.length + ys.length ≤ 16777216 then some (.obj S.length, S ++ [.lst (xs ++ ys)]) else none := id rfl
@[simp] theorem ev_Add_t {xs ys : List D} : oAdd (.dat (.tuple xs)) (.dat (.tuple ys)) S = if xs.length + ys.length ≤ 16777216 then some (.dat (.tuple (xs ++ ys)), S) else none := id rfl
def mulOk (i j : Int) : Bool := decide (i.natAbs < 2 ^ 500000) && decide (j.natAbs < 2 ^ 400000)
theorem mulOk_of {i j : Int} (hi : i.natAbs < 2 ^ 200) (hj : j.natAbs < 2 ^ 200) : mulOk i j = true := by
  have a : ∀ n m : Nat, 200 ≤ n → m < 2 ^ 200 → m < 2 ^ n := fun n m h k => Nat.lt_of_lt_of_le k (Nat.pow_le_pow_right (by decide) h)
  unfold mulOk
  rw [Bool.and_eq_true]
  exact ⟨decide_eq_true (a _ _ (by decide) hi), decide_eq_true (a _ _ (by decide) hj)⟩
theorem IIc_pos {c : Int → Int → Bool} {g : Int → Int → D} {i j : Int} (h : c i j = true) : oIIc c g (.dat (.int i)) (.dat (.int j)) S = some (.dat (g i j), S) := by
  show (if c i j = true then _ else _) = _
  rw [if_pos h]
theorem mul_red {i j : Int} : oMul (.dat (.int i)) (.dat (.int j)) S = oMulI (.dat (.int i)) (.dat (.int j)) S := id rfl
theorem ev_Mul_i {i j : Int} (h : mulOk i j = true) : oMul (.dat (.int i)) (.dat (.int j)) S = some (.dat (.int (i * j)), S) := by
  rw [mul_red]
  unfold mulOk at h
  exact IIc_pos h
theorem ev_Mul_l {xs : List D} {n : Int} : oMul (.dat (.list xs)) (.dat (.int n)) S = if -(2 ^ 60) ≤ n ∧ n < 2 ^ 60 ∧ xs.length * n.toNat ≤ 16777216 then some (.obj S.length, S ++ [.lst (List.replicate n.toNat xs).flatten]) else none := id rfl
@[simp] theorem ev_Eq {p q : P} : oEq p q S = bd (rdP p S) fun d => bd (rdP q S) fun e => if (okD d && okD e) = true then some (.dat (.bool (PyData.eqv d e)), S) else none := id rfl
@[simp] theorem ev_Ne {p q : P} : oNe p q S = bd (rdP p S) fun d => bd (rdP q S) fun e => if (okD d && okD e) = true then some (.dat (.bool (!PyData.eqv d e)), S) else none := id rfl
@[simp] theorem ev_IsN {p : P} : oIsN p (.dat .none) S = some (.dat (.bool (isNone p)), S) := id rfl
@[simp] theorem ev_NotN {p : P} : oNotN p (.dat .none) S = some (.dat (.bool (!isNone p)), S) := id rfl
@[simp] theorem ev_IsB {neg a b : Bool} : oIsB neg (.dat (.bool a)) (.dat (.bool b)) S = some (.dat (.bool (if neg then !decide (a = b) else decide (a = b))), S) := id rfl
@[simp] theorem okD_i {i : Int} : okD (.int i) = true := by simp [okD, SeqAt.shaped, PyData.canLay0, PyData.depth]
@[simp] theorem okD_b {i : Bool} : okD (.bool i) = true := by simp [okD, SeqAt.shaped, PyData.canLay0, PyData.depth]
@[simp] theorem okD_n : okD .none = true := by simp [okD, SeqAt.shaped, PyData.canLay0, PyData.depth]
@[simp] theorem okD_l0 : okD (.list []) = true := by decide +kernel
@[simp] theorem okD_t0 : okD (.tuple []) = true := by decide +kernel
@[simp] theorem eqv_ii {i j : Int} : PyData.eqv (.int i) (.int j) = decide (i = j) := by
  by_cases h : i = j <;> simp [PyData.eqv, h]
@[simp] theorem eqv_bb {i j : Bool} : PyData.eqv (.bool i) (.bool j) = decide (i = j) := by
  by_cases h : i = j <;> simp [PyData.eqv, h]
@[simp] theorem eqv_l0c {d : D} {ds : List D} : PyData.eqv (.list (d :: ds)) (.list []) = false := by simp [PyData.eqv, PyData.eqvAll]
@[simp] theorem eqv_l00 : PyData.eqv (.list []) (.list []) = true := by simp [PyData.eqv, PyData.eqvAll]
def ixK (p q : P) (S : Sto) : Option (List D) → Option (P × Sto)
  | some ds => bd (asInt q) fun i => bd (atI ds i) fun d => some (.dat d, S)
  | none => bd (dlook p q S) fun o => bd o fun d => some (.dat d, S)
theorem ixK_eq {p q : P} : oIx p q S = ixK p q S (seqOf p S) := by
  unfold oIx ixK
  cases seqOf p S <;> rfl
@[simp] theorem ev_Ix_l {ds : List D} {i : Int} : oIx (.dat (.list ds)) (.dat (.int i)) S = bd (atI ds i) fun d => some (.dat d, S) := id rfl
@[simp] theorem ev_Ix_t {ds : List D} {i : Int} : oIx (.dat (.tuple ds)) (.dat (.int i)) S = bd (atI ds i) fun d => some (.dat d, S) := id rfl
@[simp] theorem ev_Ix_f {ds : List D} {i : Int} : oIx (.fz ds) (.dat (.int i)) S = bd (atI ds i) fun d => some (.dat d, S) := id rfl
@[simp] theorem ixK_s {p : P} {i : Int} {ds : List D} : ixK p (.dat (.int i)) S (some ds) = bd (atI ds i) fun d => some (.dat d, S) := id rfl
@[simp] theorem ixK_n {p q : P} : ixK p q S none = bd (dlook p q S) fun o => bd o fun d => some (.dat d, S) := id rfl
@[simp] theorem ev_Ix_o {k : Nat} {q : P} : oIx (.obj k) q S = ixK (.obj k) q S (moL S[k]?) := by rw [ixK_eq, seqOf_o]
@[simp] theorem ixN_nat {n a : Nat} : ixN n ((a : Nat) : Int) = if a < n then some a else none := by
  simp [ixN]
@[simp] theorem atI_nat {β : Type} {xs : List β} {a : Nat} : atI xs ((a : Nat) : Int) = xs[a]? := by
  unfold atI
  rw [ixN_nat]
  by_cases h : a < xs.length
  · simp [h]
  · simp [h, List.getElem?_eq_none (Nat.not_lt.mp h)]
@[simp] theorem atI_0 {β : Type} {xs : List β} : atI xs 0 = xs[0]? := atI_nat (a := 0)
@[simp] theorem atI_1 {β : Type} {xs : List β} : atI xs 1 = xs[1]? := atI_nat (a := 1)
@[simp] theorem atI_2 {β : Type} {xs : List β} : atI xs 2 = xs[2]? := atI_nat (a := 2)
@[simp] theorem atI_3 {β : Type} {xs : List β} : atI xs 3 = xs[3]? := atI_nat (a := 3)
/-! dicts -/
def dlookK (q : P) : Option MO → Option (Option D)
  | some (.dK kvs) => bd (asKeyP q) fun key => some (dfind kvs key)
  | some (.dT kvs) => bd (asKeyT q) fun key => some (dfind kvs key)
  | _ => none
@[simp] theorem dlook_o {k : Nat} {q : P} : dlook (.obj k) q S = dlookK q S[k]? := by
  show (match S[k]? with
    | some (.dK kvs) => bd (asKeyP q) fun key => some (dfind kvs key)
    | some (.dT kvs) => bd (asKeyT q) fun key => some (dfind kvs key)
    | _ => none) = _
  cases S[k]? with
  | none => rfl
  | some m => cases m <;> rfl
@[simp] theorem dlook_d {d : D} {q : P} : dlook (.dat d) q S = none := id rfl
@[simp] theorem dlook_f {d : List D} {q : P} : dlook (.fz d) q S = none := id rfl
@[simp] theorem dlookK_k {kvs : List (Key × D)} {q : P} : dlookK q (some (.dK kvs)) = bd (asKeyP q) fun key => some (dfind kvs key) := id rfl
@[simp] theorem dlookK_t {kvs : List (List Key × D)} {q : P} : dlookK q (some (.dT kvs)) = bd (asKeyT q) fun key => some (dfind kvs key) := id rfl
@[simp] theorem dlookK_l {l : List D} {q : P} : dlookK q (some (.lst l)) = none := id rfl
@[simp] theorem asKeyP_i {i : Int} : asKeyP (.dat (.int i)) = some (.inl i) := id rfl
@[simp] theorem asKeyP_s {i : Str} : asKeyP (.dat (.str i)) = some (.inr i) := id rfl
@[simp] theorem asKeyT_t {ds : List D} : asKeyT (.dat (.tuple ds)) = asKeys ds := id rfl
@[simp] theorem asKeys_n : asKeys [] = some [] := id rfl
@[simp] theorem asKeys_i {i : Int} {ds : List D} : asKeys (.int i :: ds) = bd (asKeys ds) fun ks => some (.inl i :: ks) := id rfl
@[simp] theorem asKeys_s {i : Str} {ds : List D} : asKeys (.str i :: ds) = bd (asKeys ds) fun ks => some (.inr i :: ks) := id rfl
def inK (neg : Bool) (p q : P) (S : Sto) : Option (Option D) → Option (P × Sto)
  | some o => some (.dat (.bool (if neg then !o.isSome else o.isSome)), S)
  | none => match oIn neg p q S with
    | some r => some r
    | none => oInD neg p q S
@[simp] theorem ev_InX {neg : Bool} {p q : P} : oInX neg p q S = inK neg p q S (dlook q p S) := by
  unfold oInX inK
  cases dlook q p S <;> rfl
@[simp] theorem inK_s {neg : Bool} {p q : P} {o : Option D} : inK neg p q S (some o) = some (.dat (.bool (if neg then !o.isSome else o.isSome)), S) := id rfl
def putK' (k : Nat) (q : P) (d : D) (S : Sto) : Option MO → Option Sto
  | some (.lst xs) => bd (asInt q) fun i => bd (ixN xs.length i) fun j => some (S.set k (.lst (xs.set j d)))
  | some (.dK kvs) => bd (asKeyP q) fun key => if kvs.length < 16777216 then some (S.set k (.dK (dput kvs key d))) else none
  | some (.dT kvs) => bd (asKeyT q) fun key => if kvs.length < 16777216 then some (S.set k (.dT (dput kvs key d))) else none
  | _ => none
@[simp] theorem ev_Put {k : Nat} {q : P} {d : D} : oPut (.obj k) q d S = putK' k q d S S[k]? := by
  show (match S[k]? with
    | some (.lst xs) => bd (asInt q) fun i => bd (ixN xs.length i) fun j => some (S.set k (.lst (xs.set j d)))
    | some (.dK kvs) => bd (asKeyP q) fun key => if kvs.length < 16777216 then some (S.set k (.dK (dput kvs key d))) else none
    | some (.dT kvs) => bd (asKeyT q) fun key => if kvs.length < 16777216 then some (S.set k (.dT (dput kvs key d))) else none
    | _ => none) = _
  cases S[k]? with
  | none => rfl
  | some m => cases m <;> rfl
@[simp] theorem putK_l {k : Nat} {q : P} {d : D} {xs : List D} : putK' k q d S (some (.lst xs)) = bd (asInt q) fun i => bd (ixN xs.length i) fun j => some (S.set k (.lst (xs.set j d))) := id rfl
@[simp] theorem putK_k {k : Nat} {q : P} {d : D} {kvs : List (Key × D)} : putK' k q d S (some (.dK kvs)) = bd (asKeyP q) fun key => if kvs.length < 16777216 then some (S.set k (.dK (dput kvs key d))) else none := id rfl
@[simp] theorem putK_t {k : Nat} {q : P} {d : D} {kvs : List (List Key × D)} : putK' k q d S (some (.dT kvs)) = bd (asKeyT q) fun key => if kvs.length < 16777216 then some (S.set k (.dT (dput kvs key d))) else none := id rfl
@[simp ↓] theorem wp_sPut {o i v : EF} {Q : _ → Prop} {t : Tag Q} : okO (sPut o i v ρ S) Q t = okO (bd (v ρ S) fun z => bd (asDat z.1) fun d => bd (o ρ z.2) fun x => bd (i ρ x.2) fun y => bd (oPut x.1 y.1 d y.2) fun S' => some (.nx, ρ, S')) Q := id rfl
@[simp ↓] theorem wp_DnK {Q : _ → Prop} {t : Tag Q} : okO (eDnK ρ S) Q t = okO (some (.obj S.length, S ++ [.dK []])) Q := id rfl
@[simp ↓] theorem wp_DnT {Q : _ → Prop} {t : Tag Q} : okO (eDnT ρ S) Q t = okO (some (.obj S.length, S ++ [.dT []])) Q := id rfl
/-! slices, methods -/
@[simp ↓] theorem wp_pNo {Q : _ → Prop} {t : Tag Q} : okO (pNo ρ S) Q t = okO (some (none, S)) Q := id rfl
@[simp ↓] theorem wp_pSo {f : EF} {Q : _ → Prop} {t : Tag Q} : okO (pSo f ρ S) Q t = okO (bd (f ρ S) fun x => bd (asInt x.1) fun i => some (some i, x.2)) Q := id rfl
@[simp ↓] theorem wp_Sl {f : EF} {l u : OPF} {Q : _ → Prop} {t : Tag Q} : okO (eSl f l u ρ S) Q t = okO (bd (f ρ S) fun x => bd (l ρ x.2) fun lo => bd (u ρ lo.2) fun hi => slP x.1 lo.1 hi.1 hi.2) Q := id rfl
@[simp] theorem slP_t {xs : List D} {lo hi : Option Int} : slP (.dat (.tuple xs)) lo hi S = some (.dat (.tuple (cutD xs lo hi)), S) := id rfl
@[simp] theorem slP_l {xs : List D} {lo hi : Option Int} : slP (.dat (.list xs)) lo hi S = some (.obj S.length, S ++ [.lst (cutD xs lo hi)]) := id rfl
@[simp] theorem slP_f {xs : List D} {lo hi : Option Int} : slP (.fz xs) lo hi S = some (.obj S.length, S ++ [.lst (cutD xs lo hi)]) := id rfl
@[simp] theorem cutD_1 {β : Type} {a : β} {l : List β} : cutD (a :: l) (some 1) none = l := by simp [cutD, HT.sIx]
theorem sIx_nat {n d : Nat} {i : Nat} : HT.sIx n d (some (i : Int)) = min i n := by
  simp [HT.sIx]
  try omega
theorem cutD_to {β : Type} {l : List β} {i : Nat} : cutD l none (some (i : Int)) = l.take i := by
  unfold cutD
  rw [sIx_nat]
  simp [HT.sIx]
theorem cutD_from {β : Type} {l : List β} {i : Nat} : cutD l (some (i : Int)) none = l.drop i := by
  unfold cutD
  rw [sIx_nat]
  have : HT.sIx l.length l.length none = l.length := by simp [HT.sIx]
  rw [this]
  by_cases h : i ≤ l.length
  · rw [Nat.min_eq_left h]
    exact List.take_of_length_le (by simp)
  · rw [Nat.min_eq_right (by omega)]
    rw [List.drop_of_length_le (Nat.le_refl _), List.drop_of_length_le (by omega)]
    simp
@[simp ↓] theorem wp_Rev {f : EF} {Q : _ → Prop} {t : Tag Q} : okO (eRev f ρ S) Q t = okO (bd (f ρ S) fun x => bd (lsqOf x.1 x.2) fun xs => some (.obj x.2.length, x.2 ++ [.lst xs.reverse])) Q := id rfl
@[simp ↓] theorem wp_Mt {o : P → VF} {f : EF} {a : AF} {Q : _ → Prop} {t : Tag Q} : okO (eMt o f a ρ S) Q t = okO (bd (f ρ S) fun x => bd (lsqOf x.1 x.2) fun _ => bd (a ρ x.2) fun y => o x.1 y.1 y.2) Q := id rfl
@[simp] theorem ev_Append {k : Nat} {d : D} : oAppend (.obj k) [.dat d] S = bd (moL S[k]?) fun xs => if xs.length < 16777216 then some (.dat .none, S.set k (.lst (xs ++ [d]))) else none := by rw [← lstAt_o]; rfl
@[simp] theorem ev_Extend {k : Nat} {p : P} : oExtend (.obj k) [p] S = bd (moL S[k]?) fun xs => bd (asLst p S) fun ys => if xs.length + ys.length ≤ 16777216 then some (.dat .none, S.set k (.lst (xs ++ ys))) else none := by rw [← lstAt_o]; rfl
@[simp] theorem ev_Pop {k : Nat} : oPop (.obj k) [] S = bd (moL S[k]?) fun xs => bd xs[xs.length - 1]? fun d => some (.dat d, S.set k (.lst xs.dropLast)) := by rw [← lstAt_o]; rfl
def popK (k : Nat) (p : P) (S : Sto) : Option MO → Option (P × Sto)
  | some (.dK kvs) => bd (asKeyP p) fun key => bd (dfind kvs key) fun d => some (.dat d, S.set k (.dK (ddrop kvs key)))
  | _ => none
@[simp] theorem popK_k {k : Nat} {p : P} {kvs : List (Key × D)} : popK k p S (some (.dK kvs)) = bd (asKeyP p) fun key => bd (dfind kvs key) fun d => some (.dat d, S.set k (.dK (ddrop kvs key))) := id rfl
@[simp] theorem dpop_o {k : Nat} {p : P} : dpop (.obj k) p S = popK k p S S[k]? := by
  show (match S[k]? with
    | some (.dK kvs) => bd (asKeyP p) fun key => bd (dfind kvs key) fun d => some (P.dat d, S.set k (.dK (ddrop kvs key)))
    | _ => none) = _
  cases S[k]? with
  | none => rfl
  | some m => cases m <;> rfl
def popXK (b : EF) (ρ : Ev) (S : Sto) (k : Nat) : Option MO → Option (P × Sto)
  | some (.dK _) => bd (b ρ S) fun y => dpop (.obj k) y.1 y.2
  | some (.lst _) => bd (b ρ S) fun y => oPopAt (.obj k) [y.1] y.2
  | _ => none
def popXP (b : EF) (ρ : Ev) (x : P × Sto) : Option (P × Sto) := match lsqOf x.1 x.2 with
  | some _ => bd (b ρ x.2) fun y => oPopAt x.1 [y.1] y.2
  | none => bd (asObj x.1) fun k => match x.2[k]? with
    | some (.dK _) => bd (b ρ x.2) fun y => dpop x.1 y.1 y.2
    | _ => none
@[simp ↓] theorem wp_PopX {f b : EF} {Q : _ → Prop} {t : Tag Q} : okO (ePopX f b ρ S) Q t = okO (bd (f ρ S) (popXP b ρ)) Q := id rfl
@[simp] theorem popXP_o {b : EF} {k : Nat} : popXP b ρ (.obj k, S) = popXK b ρ S k S[k]? := by
  unfold popXP popXK
  rw [lsqOf_o]
  cases h : S[k]? with
  | none => simp [moL, asObj, bd, h]
  | some m => cases m <;> simp [moL, asObj, bd, h]
@[simp] theorem popXK_k {b : EF} {k : Nat} {kvs : List (Key × D)} : popXK b ρ S k (some (.dK kvs)) = bd (b ρ S) fun y => dpop (.obj k) y.1 y.2 := id rfl
@[simp] theorem popXK_l {b : EF} {k : Nat} {l : List D} : popXK b ρ S k (some (.lst l)) = bd (b ρ S) fun y => oPopAt (.obj k) [y.1] y.2 := id rfl
def getK (b : EF) (ρ : Ev) (S : Sto) (k : Nat) : Option MO → Option (P × Sto)
  | some (.dK _) => bd (b ρ S) fun y => bd (dlook (.obj k) y.1 y.2) fun o => some (.dat (o.getD .none), y.2)
  | some (.dT _) => bd (b ρ S) fun y => bd (dlook (.obj k) y.1 y.2) fun o => some (.dat (o.getD .none), y.2)
  | _ => none
def getP (b : EF) (ρ : Ev) (x : P × Sto) : Option (P × Sto) := bd (asObj x.1) fun k => match x.2[k]? with
  | some (.dK _) => bd (b ρ x.2) fun y => bd (dlook x.1 y.1 y.2) fun o => some (.dat (o.getD .none), y.2)
  | some (.dT _) => bd (b ρ x.2) fun y => bd (dlook x.1 y.1 y.2) fun o => some (.dat (o.getD .none), y.2)
  | _ => none
@[simp ↓] theorem wp_Get {f b : EF} {Q : _ → Prop} {t : Tag Q} : okO (eGet f b ρ S) Q t = okO (bd (f ρ S) (getP b ρ)) Q := id rfl
@[simp] theorem getP_o {b : EF} {k : Nat} : getP b ρ (.obj k, S) = getK b ρ S k S[k]? := by
  unfold getP getK
  cases h : S[k]? with
  | none => simp [asObj, bd, h]
  | some m => cases m <;> simp [asObj, bd, h]
@[simp] theorem getK_k {b : EF} {k : Nat} {kvs : List (Key × D)} : getK b ρ S k (some (.dK kvs)) = bd (b ρ S) fun y => bd (dlook (.obj k) y.1 y.2) fun o => some (.dat (o.getD .none), y.2) := id rfl
@[simp] theorem getK_t {b : EF} {k : Nat} {kvs : List (List Key × D)} : getK b ρ S k (some (.dT kvs)) = bd (b ρ S) fun y => bd (dlook (.obj k) y.1 y.2) fun o => some (.dat (o.getD .none), y.2) := id rfl
@[simp] theorem frzP_j {n j : Nat} {l : Sto} (h1 : n ≤ S.length + j) (h2 : j + 1 = l.length) : frzP n (.obj (S.length + j)) (S ++ l) = bd (moL l[j]?) fun xs => some (.dat (.list xs), S ++ l.take j) := by
  show (bd (lstAt (S.length + j) (S ++ l)) fun xs => some (P.dat (.list xs), if n ≤ S.length + j ∧ S.length + j + 1 = (S ++ l).length then (S ++ l).take (S.length + j) else (S ++ l).set (S.length + j) .dead)) = _
  rw [if_pos ⟨h1, by rw [List.length_append]; omega⟩, lstAt_o, st_len, st_takej]
/-! functions of the language -/
def lenK (k : Nat) (S : Sto) : Option MO → Option (P × Sto)
  | some (.lst ds) => some (.dat (.int ds.length), S)
  | some (.dK kvs) => some (.dat (.int kvs.length), S)
  | some (.dT kvs) => some (.dat (.int kvs.length), S)
  | _ => none
@[simp] theorem ev_Len_l {ds : List D} : oLen [.dat (.list ds)] S = some (.dat (.int ds.length), S) := id rfl
@[simp] theorem ev_Len_t {ds : List D} : oLen [.dat (.tuple ds)] S = some (.dat (.int ds.length), S) := id rfl
@[simp] theorem ev_Len_f {ds : List D} : oLen [.fz ds] S = some (.dat (.int ds.length), S) := id rfl
@[simp] theorem ev_Len_o {k : Nat} : oLen [.obj k] S = lenK k S S[k]? := by
  unfold oLen lenK
  show (match seqOf (.obj k) S with
    | some ds => _
    | none => _) = _
  rw [seqOf_o]
  cases h : S[k]? with
  | none => simp [moL, asStr, asObj, bd, h]
  | some m => cases m <;> simp [moL, asStr, asObj, bd, h]
@[simp] theorem lenK_l {k : Nat} {ds : List D} : lenK k S (some (.lst ds)) = some (.dat (.int ds.length), S) := id rfl
@[simp] theorem lenK_k {k : Nat} {ds : List (Key × D)} : lenK k S (some (.dK ds)) = some (.dat (.int ds.length), S) := id rfl
@[simp] theorem lenK_t {k : Nat} {ds : List (List Key × D)} : lenK k S (some (.dT ds)) = some (.dat (.int ds.length), S) := id rfl
@[simp] theorem ev_Bools {f : List Bool → Bool} {p : P} : oBools f [p] S = bd (lsqOf p S) fun ds => bd (boolsOf ds) fun bs => some (.dat (.bool (f bs)), S) := id rfl
@[simp] theorem ev_Ints {f : List Int → Option Int} {p : P} : oInts f [p] S = bd (lsqOf p S) fun ds => bd (intsOf ds) fun ns => bd (f ns) fun i => some (.dat (.int i), S) := id rfl
@[simp] theorem ev_Two {f : Int → Int → Int} {i j : Int} : oTwo f [.dat (.int i), .dat (.int j)] S = some (.dat (.int (f i j)), S) := id rfl
@[simp] theorem ev_Abs {i : Int} : oAbs [.dat (.int i)] S = some (.dat (.int (if i < 0 then -i else i)), S) := id rfl
@[simp] theorem ev_IntC_i {i : Int} : oIntC [.dat (.int i)] S = some (.dat (.int i), S) := id rfl
@[simp] theorem ev_IntC_b {i : Bool} : oIntC [.dat (.bool i)] S = some (.dat (.int (if i then 1 else 0)), S) := id rfl
@[simp] theorem ev_Tuple_t {ds : List D} : oTuple [.dat (.tuple ds)] S = some (.dat (.tuple ds), S) := id rfl
@[simp] theorem ev_Tuple_l {ds : List D} : oTuple [.dat (.list ds)] S = some (.dat (.tuple ds), S) := id rfl
@[simp] theorem ev_Tuple_o {k : Nat} : oTuple [.obj k] S = bd (moL S[k]?) fun ds => some (.dat (.tuple ds), S) := by rw [← lstAt_o]; rfl
@[simp] theorem ev_List {p : P} : oList [p] S = bd (seqOf p S) fun ds => some (.obj S.length, S ++ [.lst ds]) := id rfl
@[simp ↓] theorem wp_rg1 {a : EF} {Q : _ → Prop} {t : Tag Q} : okO (rg1 a ρ S) Q t = okO (bd (a ρ S) fun x => bd (asInt x.1) fun n => some ((0, n), x.2)) Q := id rfl
@[simp ↓] theorem wp_rg2 {a b : EF} {Q : _ → Prop} {t : Tag Q} : okO (rg2 a b ρ S) Q t = okO (bd (a ρ S) fun x => bd (b ρ x.2) fun y => bd (asInt x.1) fun n => bd (asInt y.1) fun m => some ((n, m), y.2)) Q := id rfl
@[simp ↓] theorem wp_LstRg {f : RF} {Q : _ → Prop} {t : Tag Q} : okO (eLstRg f ρ S) Q t = okO (bd (f ρ S) fun x => if rgOkB x.1.1 x.1.2 = true then some (.obj x.2.length, x.2 ++ [.lst (rngD x.1.1 (x.1.2 - x.1.1).toNat)]) else none) Q := id rfl
@[simp ↓] theorem wp_TupRg {f : RF} {Q : _ → Prop} {t : Tag Q} : okO (eTupRg f ρ S) Q t = okO (bd (f ρ S) fun x => if rgOkB x.1.1 x.1.2 = true then some (.dat (.tuple (rngD x.1.1 (x.1.2 - x.1.1).toNat)), x.2) else none) Q := id rfl
@[simp ↓] theorem wp_Isi {T : String} {f : EF} {Q : _ → Prop} {t : Tag Q} : okO (eIsi T f ρ S) Q t = okO (bd (f ρ S) fun x => bd (tyN x.1 x.2) fun t => some (.dat (.bool (isiB t T)), x.2)) Q := id rfl
@[simp] theorem tyN_i {i : Int} : tyN (.dat (.int i)) S = some "int" := id rfl
@[simp] theorem tyN_b {i : Bool} : tyN (.dat (.bool i)) S = some "bool" := id rfl
@[simp] theorem tyN_n : tyN (.dat .none) S = some "NoneType" := id rfl
@[simp] theorem tyN_s {i : Str} : tyN (.dat (.str i)) S = some "str" := id rfl
@[simp] theorem tyN_l {i : List D} : tyN (.dat (.list i)) S = some "list" := id rfl
@[simp] theorem tyN_t {i : List D} : tyN (.dat (.tuple i)) S = some "tuple" := id rfl
@[simp] theorem isi_tt : isiB "tuple" "tuple" = true := id rfl
@[simp] theorem isi_it : isiB "int" "tuple" = false := id rfl
@[simp] theorem isi_nt : isiB "NoneType" "tuple" = false := id rfl
@[simp] theorem isi_st : isiB "str" "tuple" = false := id rfl
@[simp] theorem isi_lt : isiB "list" "tuple" = false := id rfl
@[simp] theorem isi_ii : isiB "int" "int" = true := id rfl
@[simp] theorem isi_ib : isiB "int" "bool" = false := id rfl
@[simp] theorem isi_is : isiB "int" "str" = false := id rfl
@[simp] theorem isi_ss : isiB "str" "str" = true := id rfl
@[simp] theorem isi_ts : isiB "tuple" "str" = false := id rfl
@[simp] theorem isi_ti : isiB "tuple" "int" = false := id rfl
/-! what is gone through -/
def iSeqK (x : P × Sto) : Option ((Option Nat × List D) × Sto) := match x.1 with
  | .dat (.list ds) => some ((none, ds), x.2)
  | .dat (.tuple ds) => some ((none, ds), x.2)
  | .obj k => bd (lstAt k x.2) fun ds => some ((some k, ds), x.2)
  | .fz ds => some ((none, ds), x.2)
  | _ => none
@[simp] theorem iSeqK_l {ds : List D} : iSeqK (.dat (.list ds), S) = some ((none, ds), S) := id rfl
@[simp] theorem iSeqK_t {ds : List D} : iSeqK (.dat (.tuple ds), S) = some ((none, ds), S) := id rfl
@[simp] theorem iSeqK_f {ds : List D} : iSeqK (.fz ds, S) = some ((none, ds), S) := id rfl
@[simp] theorem iSeqK_o {k : Nat} : iSeqK (.obj k, S) = bd (moL S[k]?) fun ds => some ((some k, ds), S) := by rw [← lstAt_o]; rfl
@[simp ↓] theorem wp_iSeq {f : EF} {Q : _ → Prop} {t : Tag Q} : okO (iSeq f ρ S) Q t = okO (bd (f ρ S) iSeqK) Q := id rfl
def iR1K (x : List P × Sto) : Option ((Option Nat × List D) × Sto) := match x.1 with
  | [p] => bd (asInt p) fun j => if -(2 ^ 60) ≤ j ∧ j ≤ 16777216 then some ((none, rngD 0 j.toNat), x.2) else none
  | _ => none
@[simp ↓] theorem wp_iRng1 {f : AF} {Q : _ → Prop} {t : Tag Q} : okO (iRng1D f ρ S) Q t = okO (bd (f ρ S) iR1K) Q := id rfl
theorem iR1K_i {j : Int} : iR1K ([.dat (.int j)], S) = if -(2 ^ 60) ≤ j ∧ j ≤ 16777216 then some ((none, rngD 0 j.toNat), S) else none := id rfl
def iR2K (x : List P × Sto) : Option ((Option Nat × List D) × Sto) := match x.1 with
  | [p, q] => bd (asInt p) fun i => bd (asInt q) fun j => if -(2 ^ 60) ≤ i ∧ i < 2 ^ 60 ∧ -(2 ^ 60) ≤ j ∧ j < 2 ^ 60 ∧ j - i ≤ 16777216 then some ((none, rngD i (j - i).toNat), x.2) else none
  | _ => none
@[simp ↓] theorem wp_iRng2 {f : AF} {Q : _ → Prop} {t : Tag Q} : okO (iRng2D f ρ S) Q t = okO (bd (f ρ S) iR2K) Q := id rfl
theorem iR2K_i {i j : Int} : iR2K ([.dat (.int i), .dat (.int j)], S) = if -(2 ^ 60) ≤ i ∧ i < 2 ^ 60 ∧ -(2 ^ 60) ≤ j ∧ j < 2 ^ 60 ∧ j - i ≤ 16777216 then some ((none, rngD i (j - i).toNat), S) else none := id rfl
theorem rngD_nat {a n : Nat} : rngD ((a : Nat) : Int) n = (List.range' a n).map fun i => PyData.int ((i : Nat) : Int) := by
  unfold rngD
  rw [List.range'_eq_map_range, List.map_map]
  apply List.map_congr_left
  intro j _
  simp
@[simp] theorem rngD_to {n : Nat} : rngD 0 n = (List.range n).map fun i => PyData.int ((i : Nat) : Int) := by
  have := rngD_nat (a := 0) (n := n)
  rw [← List.range_eq_range'] at this
  exact this
theorem iR1K_pos {j : Int} (h : -(2 ^ 60) ≤ j ∧ j ≤ 16777216) : iR1K ([.dat (.int j)], S) = some ((none, rngD 0 j.toNat), S) := by
  rw [iR1K_i, if_pos h]
@[simp] theorem iR1K_nat {n : Nat} (h : n ≤ 16777216) : iR1K ([.dat (.int ((n : Nat) : Int))], S) = some ((none, (List.range n).map fun i => PyData.int ((i : Nat) : Int)), S) := by
  have k : ∀ j : Int, 0 ≤ j → j ≤ 16777216 → -(2 ^ 60) ≤ j ∧ j ≤ 16777216 := fun j h1 h2 => ⟨by omega, h2⟩
  rw [iR1K_pos (k _ (by omega) (by omega)), Int.toNat_natCast, rngD_to]
theorem iR2K_pos {i j : Int} (h : -(2 ^ 60) ≤ i ∧ i < 2 ^ 60 ∧ -(2 ^ 60) ≤ j ∧ j < 2 ^ 60 ∧ j - i ≤ 16777216) : iR2K ([.dat (.int i), .dat (.int j)], S) = some ((none, rngD i (j - i).toNat), S) := by
  rw [iR2K_i, if_pos h]
theorem iR2K_nat {i j : Int} {a b : Nat} (ha : i = a) (hb : j = b) (h1 : a ≤ 16777216) (h2 : b ≤ 16777216) : iR2K ([.dat (.int i), .dat (.int j)], S) = some ((none, (List.range' a (b - a)).map fun i => PyData.int ((i : Nat) : Int)), S) := by
  have k : ∀ i j : Int, 0 ≤ i → i ≤ 16777216 → 0 ≤ j → j ≤ 16777216 → -(2 ^ 60) ≤ i ∧ i < 2 ^ 60 ∧ -(2 ^ 60) ≤ j ∧ j < 2 ^ 60 ∧ j - i ≤ 16777216 := fun i j a b c d => ⟨by omega, by omega, by omega, by omega, by omega⟩
  rw [iR2K_pos (k i j (by omega) (by omega) (by omega) (by omega))]
  have e : (j - i).toNat = b - a := by omega
  rw [e, ha, rngD_nat]
theorem rgOk_pos {i j : Int} (h1 : 0 ≤ i) (h2 : i ≤ 16777216) (h3 : 0 ≤ j) (h4 : j ≤ 16777216) : rgOkB i j = true := by
  unfold rgOkB
  simp only [Bool.and_eq_true, decide_eq_true_eq]
  refine ⟨by omega, by omega, by omega, by omega, by omega⟩
@[simp] theorem rgOk_nat {n : Nat} (h : n ≤ 16777216) : rgOkB 0 ((n : Nat) : Int) = true := rgOk_pos (by omega) (by omega) (by omega) (by omega)
@[simp ↓] theorem wp_iEnD {f : AF} {Q : _ → Prop} {t : Tag Q} : okO (iEnD f ρ S) Q t = okO (bd (f ρ S) fun x => bd (one1 x.1) fun p => bd (fixQ p) fun q => some ((none, enD 0 q.2), x.2)) Q := id rfl
@[simp ↓] theorem wp_iZpD {f : AF} {Q : _ → Prop} {t : Tag Q} : okO (iZpD f ρ S) Q t = okO (bd (f ρ S) fun x => bd (two2 x.1) fun p => bd (fixQ p.1) fun q => bd (fixQ p.2) fun q' => if q.1 = q'.1 then some ((none, zpD q.2 q'.2), x.2) else none) Q := id rfl
@[simp] theorem fixQ_l {ds : List D} : fixQ (.dat (.list ds)) = some (false, ds) := id rfl
@[simp] theorem fixQ_t {ds : List D} : fixQ (.dat (.tuple ds)) = some (true, ds) := id rfl
@[simp] theorem fixQ_f {ds : List D} : fixQ (.fz ds) = some (false, ds) := id rfl
@[simp] theorem ev_gNm {i : Nat} {d : D} : gNm i d ρ = some (ρ.set i (some (.dat d))) := id rfl
@[simp] theorem ev_gTp {h : GFs} {ds : List D} : gTp h (.tuple ds) ρ = h ds ρ := id rfl
@[simp] theorem ev_gsNil : gsNil [] ρ = some ρ := id rfl
@[simp] theorem ev_gsCons {g : GF} {h : GFs} {d : D} {r : List D} : gsCons g h (d :: r) ρ = bd (g d ρ) fun ρ1 => h r ρ1 := id rfl
@[simp] theorem wipe_nil : wipeE ρ [] = ρ := id rfl
@[simp] theorem wipe_cons {i : Nat} {is : List Nat} : wipeE ρ (i :: is) = (wipeE ρ is).set i none := id rfl
/-! statements -/
@[simp ↓] theorem wp_sNil {Q : _ → Prop} {t : Tag Q} : okO (sNil ρ S) Q t = okO (some (.nx, ρ, S)) Q := id rfl
@[simp ↓] theorem wp_sBrk {Q : _ → Prop} {t : Tag Q} : okO (sBrk ρ S) Q t = okO (some (.brk, ρ, S)) Q := id rfl
@[simp ↓] theorem wp_sCt {Q : _ → Prop} {t : Tag Q} : okO (sCt ρ S) Q t = okO (some (.ct, ρ, S)) Q := id rfl
@[simp] theorem thenF_nx {h : SF} {Q : _ → Prop} {t : Tag Q} : okO (thenF h (.nx, ρ, S)) Q t = okO (h ρ S) Q := id rfl
@[simp] theorem thenF_ct {h : SF} {Q : _ → Prop} {t : Tag Q} : okO (thenF h (.ct, ρ, S)) Q t = okO (some (.ct, ρ, S)) Q := id rfl
@[simp] theorem thenF_brk {h : SF} {Q : _ → Prop} {t : Tag Q} : okO (thenF h (.brk, ρ, S)) Q t = okO (some (.brk, ρ, S)) Q := id rfl
@[simp] theorem thenF_ret {h : SF} {p : P} {Q : _ → Prop} {t : Tag Q} : okO (thenF h (.ret p, ρ, S)) Q t = okO (some (.ret p, ρ, S)) Q := id rfl
@[simp ↓] theorem wp_sSeq {g h : SF} {Q : _ → Prop} {t : Tag Q} : okO (sSeq g h ρ S) Q t = okO (bd (g ρ S) (thenF h)) Q := id rfl
@[simp ↓] theorem wp_sSet {i : Nat} {e : EF} {Q : _ → Prop} {t : Tag Q} : okO (sSet i e ρ S) Q t = okO (bd (e ρ S) fun x => some (.nx, ρ.set i (some x.1), x.2)) Q := id rfl
@[simp ↓] theorem wp_sRet {e : EF} {Q : _ → Prop} {t : Tag Q} : okO (sRet e ρ S) Q t = okO (bd (e ρ S) fun x => some (.ret x.1, ρ, x.2)) Q := id rfl
@[simp ↓] theorem wp_sRetN {Q : _ → Prop} {t : Tag Q} : okO (sRetN ρ S) Q t = okO (some (.ret (.dat .none), ρ, S)) Q := id rfl
@[simp ↓] theorem wp_sDrop {e : EF} {Q : _ → Prop} {t : Tag Q} : okO (sDrop e ρ S) Q t = okO (bd (e ρ S) fun x => some (.nx, ρ, x.2)) Q := id rfl
@[simp ↓] theorem wp_sIf {c : CF} {a b : SF} {Q : _ → Prop} {t : Tag Q} : okO (sIf c a b ρ S) Q t = okO (bd (c ρ S) fun x => if x.1 = true then a ρ x.2 else b ρ x.2) Q := id rfl
def parK (i j : Nat) (ρ : Ev) (x : List P × Sto) : Option (Fl × Ev × Sto) := match x.1 with
  | [p, q] => some (.nx, (ρ.set i (some p)).set j (some q), x.2)
  | _ => none
@[simp] theorem parK_2 {i j : Nat} {p q : P} : parK i j ρ ([p, q], S) = some (.nx, (ρ.set i (some p)).set j (some q), S) := id rfl
@[simp ↓] theorem wp_sPar {i j : Nat} {f : AF} {Q : _ → Prop} {t : Tag Q} : okO (sPar i j f ρ S) Q t = okO (bd (f ρ S) (parK i j ρ)) Q := id rfl
def parK3 (i j l : Nat) (ρ : Ev) (x : List P × Sto) : Option (Fl × Ev × Sto) := match x.1 with
  | [p, q, o] => some (.nx, ((ρ.set i (some p)).set j (some q)).set l (some o), x.2)
  | _ => none
@[simp] theorem parK_3 {i j l : Nat} {p q o : P} : parK3 i j l ρ ([p, q, o], S) = some (.nx, ((ρ.set i (some p)).set j (some q)).set l (some o), S) := id rfl
@[simp ↓] theorem wp_sPar3 {i j l : Nat} {f : AF} {Q : _ → Prop} {t : Tag Q} : okO (sPar3 i j l f ρ S) Q t = okO (bd (f ρ S) (parK3 i j l ρ)) Q := id rfl
@[simp ↓] theorem wp_sAsg {f : EF} {g : GF} {Q : _ → Prop} {t : Tag Q} : okO (sAsg f g ρ S) Q t = okO (bd (f ρ S) fun x => bd (asDat x.1) fun d => bd (g d ρ) fun ρ' => some (.nx, ρ', x.2)) Q := id rfl
@[simp ↓] theorem wp_sAug {i : Nat} {g : Int → Int → Int} {f : EF} {Q : _ → Prop} {t : Tag Q} : okO (sAug i g f ρ S) Q t = okO (bd (ρ.getD i none) fun p => bd (asInt p) fun a => bd (f ρ S) fun x => bd (asInt x.1) fun b => some (.nx, ρ.set i (some (.dat (.int (g a b)))), x.2)) Q := id rfl
@[simp ↓] theorem wp_sAugIx {g : Int → Int → Int} {o i v : EF} {Q : _ → Prop} {t : Tag Q} : okO (sAugIx g o i v ρ S) Q t = okO (bd (o ρ S) fun x => bd (i ρ x.2) fun y => bd (asObj x.1) fun j => bd (lstAt j y.2) fun ds => bd (asInt y.1) fun n => bd (atI ds n) fun d => bd (asInt (.dat d)) fun a => bd (v ρ y.2) fun z => bd (asInt z.1) fun b => bd (lstAt j z.2) fun es => bd (ixN es.length n) fun m => some (.nx, ρ, z.2.set j (.lst (es.set m (.int (g a b)))))) Q := id rfl
@[simp] theorem finF_nx {n : Nat} : finF n (.nx, ρ, S) = some (.dat .none, S.take n) := id rfl
@[simp] theorem finF_d {n : Nat} {d : D} : finF n (.ret (.dat d), ρ, S) = some (.dat d, S.take n) := id rfl
@[simp] theorem finF_f {n : Nat} {d : List D} : finF n (.ret (.fz d), ρ, S) = some (.fz d, S.take n) := id rfl
@[simp] theorem finF_o {l : Sto} {j : Nat} : finF S.length (.ret (.obj (S.length + j)), ρ, S ++ l) = bd l[j]? fun m => some (.obj S.length, S ++ [m]) := by
  show (if S.length + j < S.length then _ else bd (S ++ l)[S.length + j]? fun m => some (P.obj S.length, (S ++ l).take S.length ++ [m])) = _
  rw [if_neg (by omega), st_len, st_take0]
@[simp] theorem finF_o0 {l : Sto} : finF S.length (.ret (.obj S.length), ρ, S ++ l) = bd l[0]? fun m => some (.obj S.length, S ++ [m]) := finF_o (j := 0)
@[simp ↓] theorem wp_fnRun {n N : Nat} {b : SF} {ps : List P} {Q : _ → Prop} {t : Tag Q} : okO (fnRun n N b ps S) Q t = okO (if ps.length = n then bd (b (ps.map some ++ List.replicate (N - n) none) S) (finF S.length) else none) Q := id rfl
@[simp ↓ high] theorem getE_0 {β : Type} {x : β} {l : List β} : (x :: l)[0]? = some x := id rfl
@[simp ↓ high] theorem getE_S {β : Type} {x : β} {l : List β} {n : Nat} : (x :: l)[n + 1]? = l[n]? := id rfl
@[simp ↓ high] theorem getD_cons0 {β : Type} {x d : β} {l : List β} : (x :: l).getD 0 d = x := id rfl
@[simp ↓ high] theorem getD_consS {β : Type} {x d : β} {l : List β} {n : Nat} : (x :: l).getD (n + 1) d = l.getD n d := id rfl
end

/-! ### loops, comprehensions -/
theorem ok_for {β : Type} {ws : WF} {g : GF} {b : SF} {ρ : Ev} {S S0 : Sto} {xs : List β} {Q : Fl × Ev × Sto → Prop} (en : β → D) (R : List β → Ev → Sto → Prop) (hw : okO (ws ρ S) fun y => y = ((none, xs.map en), S0)) (r0 : R [] ρ S0)
    (h : ∀ pre x suf ρ S, pre ++ x :: suf = xs → R pre ρ S → okO (bd (g (en x) ρ) fun ρ1 => b ρ1 S) fun r => (r.1 = .nx ∨ r.1 = .ct) ∧ R (pre ++ [x]) r.2.1 r.2.2)
    (k : ∀ ρ' S', R xs ρ' S' → Q (.nx, ρ', S')) : okO (sFor ws g b ρ S) Q := by
  obtain ⟨ρ', S', e, r⟩ := sFor_map en R (ok_eq hw) r0 fun pre x suf ρ S e r => by
    obtain ⟨⟨fl, ρ', S'⟩, e1, h1, h2⟩ := h pre x suf ρ S e r
    obtain ⟨ρ1, e2, e3⟩ := bd_of e1
    exact ⟨ρ1, fl, ρ', S', e2, e3, h1, h2⟩
  exact eq_ok e (k _ _ r)
theorem ok_lc {β : Type} {ws : WF} {is : List Nat} {g : GF} {f : EF} {ρ : Ev} {S : Sto} {xs : List β} {Q : P × Sto → Prop} (en val : β → D) (hw : okO (ws ρ S) fun y => y = ((none, xs.map en), S))
    (h : ∀ x ∈ xs, ∀ a, okO (bd (g (en x) (wipeE ρ is)) fun ρ1 => f ρ1 (S ++ [.lst a])) fun r => r = (.dat (val x), S ++ [.lst a]))
    (k : Q (.obj S.length, S ++ [.lst (xs.map val)])) : okO (eLc ws is g cYes f ρ S) Q := by
  refine eq_ok (lc_maps en val (ok_eq hw) fun x hx a => ?_) k
  obtain ⟨r, e1, rfl⟩ := h x hx a
  exact bd_of e1
theorem ok_lcf {β : Type} {ws : WF} {is : List Nat} {g : GF} {t : CF} {f : EF} {ρ : Ev} {S : Sto} {xs : List β} {Q : P × Sto → Prop} (en : β → D) (val : β → Option D) (hw : okO (ws ρ S) fun y => y = ((none, xs.map en), S))
    (h : ∀ x ∈ xs, ∀ a, okO (g (en x) (wipeE ρ is)) fun ρ1 => match val x with
      | none => okO (t ρ1 (S ++ [.lst a])) fun r => r = (false, S ++ [.lst a])
      | some e => (okO (t ρ1 (S ++ [.lst a])) fun r => r = (true, S ++ [.lst a])) ∧ okO (f ρ1 (S ++ [.lst a])) fun r => r = (.dat e, S ++ [.lst a]))
    (k : Q (.obj S.length, S ++ [.lst (xs.filterMap val)])) : okO (eLc ws is g t f ρ S) Q := by
  refine eq_ok (lc_filter en val (ok_eq hw) fun x hx a => ?_) k
  obtain ⟨ρ1, e1, e2⟩ := h x hx a
  refine ⟨ρ1, e1, ?_⟩
  cases hv : val x with
  | none => rw [hv] at e2; exact ok_eq e2
  | some e => rw [hv] at e2; exact ⟨ok_eq e2.1, ok_eq e2.2⟩
/-- [f(x) for x in xs if c(x)], the test told -/
theorem ok_lcif {β : Type} {ws : WF} {is : List Nat} {g : GF} {t : CF} {f : EF} {ρ : Ev} {S : Sto} {xs : List β} {Q : P × Sto → Prop} (en : β → D) (c : β → Bool) (val : β → D) (hw : okO (ws ρ S) fun y => y = ((none, xs.map en), S))
    (ht : ∀ x ∈ xs, ∀ a, okO (bd (g (en x) (wipeE ρ is)) fun ρ1 => t ρ1 (S ++ [.lst a])) fun r => r = (c x, S ++ [.lst a]))
    (h : ∀ x ∈ xs, c x = true → ∀ a, okO (bd (g (en x) (wipeE ρ is)) fun ρ1 => f ρ1 (S ++ [.lst a])) fun r => r = (.dat (val x), S ++ [.lst a]))
    (k : Q (.obj S.length, S ++ [.lst ((xs.filter c).map val)])) : okO (eLc ws is g t f ρ S) Q := by
  refine ok_lcf en (fun x => if c x = true then some (val x) else none) hw (fun x hx a => ?_) ?_
  · obtain ⟨r1, e1, rfl⟩ := ht x hx a
    obtain ⟨ρ1, e2, e3⟩ := bd_of e1
    refine eq_ok e2 ?_
    cases hc : c x with
    | false => rw [hc] at e3; simp only [Bool.false_eq_true, if_false]; exact eq_ok e3 rfl
    | true =>
      rw [hc] at e3
      simp only [if_true]
      refine ⟨eq_ok e3 rfl, ?_⟩
      obtain ⟨r2, e4, rfl⟩ := h x hx hc a
      obtain ⟨ρ2, e5, e6⟩ := bd_of e4
      rw [e2] at e5
      cases e5
      exact eq_ok e6 rfl
  · have : xs.filterMap (fun x => if c x = true then some (val x) else none) = (xs.filter c).map val := by
      clear hw ht h k
      induction xs with
      | nil => rfl
      | cons a xs ih => cases hc : c a <;> simp [hc, ih]
    rw [this]
    exact k
theorem ok_dc {κ : Type} [DecidableEq κ] {β : Type} {F : List (κ × D) → MO} {kf : P → Option κ} {ws : WF} {is : List Nat} {g : GF} {f h : EF} {ρ : Ev} {S : Sto} {xs : List β} {Q : P × Sto → Prop} (en : β → D) (key : β → κ) (val : β → D) (hw : okO (ws ρ S) fun y => y = ((none, xs.map en), S))
    (hh : ∀ x ∈ xs, ∀ a, okO (g (en x) (wipeE ρ is)) fun ρ1 => okO (f ρ1 (S ++ [F a])) fun r => r.2 = S ++ [F a] ∧ kf r.1 = some (key x) ∧ okO (h ρ1 (S ++ [F a])) fun r => r = (.dat (val x), S ++ [F a]))
    (k : Q (.obj S.length, S ++ [F (xs.foldl (fun a x => dput a (key x) (val x)) [])])) : okO (eDc F kf ws is g cYes f h ρ S) Q := by
  have key' : ∀ (ys : List β) (acc : List (κ × D)), (∀ y ∈ ys, y ∈ xs) → dcD F kf S.length none (xs.map en) g cYes f h (wipeE ρ is) (ys.map en) acc (S ++ [F acc]) = some (S ++ [F (ys.foldl (fun a x => dput a (key x) (val x)) acc)]) := fun ys => by
    induction ys with
    | nil => intro acc _; simp [dcD, chk_none]
    | cons y ys ih =>
      intro acc hy
      obtain ⟨ρ1, h1, ⟨p, S1⟩, h2, h3, h4, ⟨⟨q, S2⟩, h5, h6⟩⟩ := hh y (hy y (List.mem_cons_self ..)) acc
      cases h6
      have h3 : S1 = S ++ [F acc] := h3
      subst h3
      rw [List.map_cons]
      unfold dcD
      rw [chk_none, h1]
      simp only [bd_some, cYes, if_true]
      rw [h2]
      show bd (kf p) _ = _
      have h4 : kf p = some (key y) := h4
      rw [h4]
      show bd (h ρ1 _) _ = _
      rw [h5]
      show chkM S.length (F acc) (S ++ [F acc]) (dcD F kf S.length none (xs.map en) g cYes f h (wipeE ρ is) (ys.map en) (dput acc (key y) (val y)) ((S ++ [F acc]).set S.length (F (dput acc (key y) (val y))))) = _
      rw [chkM_at (by rw [List.getElem?_append_right (Nat.le_refl _), Nat.sub_self]; rfl)]
      have e1 : (S ++ [F acc]).set S.length (F (dput acc (key y) (val y))) = S ++ [F (dput acc (key y) (val y))] := by
        rw [List.set_append_right _ _ (Nat.le_refl _), Nat.sub_self]
        rfl
      rw [e1, ih _ fun z hz => hy z (List.mem_cons_of_mem _ hz)]
      rfl
  refine eq_ok (?_ : _ = some (P.obj S.length, S ++ [F (xs.foldl (fun a x => dput a (key x) (val x)) [])])) k
  unfold eDc
  rw [ok_eq hw]
  show bd (dcD F kf S.length none (xs.map en) g cYes f h (wipeE ρ is) (xs.map en) [] (S ++ [F []])) _ = _
  rw [key' xs [] fun _ h => h]
  show some (P.obj S.length, (S ++ [F _]).take (S.length + 1)) = _
  rw [List.take_of_length_le (by simp)]
theorem ok_while {c : CF} {b : SF} {n m : Nat} {ρ : Ev} {S : Sto} {Q : Fl × Ev × Sto → Prop} (R : Nat → Ev → Sto → Prop) (hm : m < n) (r : R m ρ S)
    (h : ∀ m ρ S, R m ρ S → okO (c ρ S) fun x => if x.1 = true then okO (b ρ x.2) fun y => y.1 = .nx ∧ ∃ m', m' < m ∧ R m' y.2.1 y.2.2 else Q (.nx, ρ, x.2)) : okO (whileD c b n ρ S) Q := by
  induction n generalizing m ρ S with
  | zero => exact absurd hm (Nat.not_lt_zero _)
  | succ n ih =>
    obtain ⟨⟨v, S1⟩, e1, h1⟩ := h m ρ S r
    unfold whileD
    rw [e1]
    simp only [bd_some]
    cases v with
    | false =>
      simp only [Bool.false_eq_true, if_false] at h1 ⊢
      exact eq_ok rfl h1
    | true =>
      simp only [if_true] at h1 ⊢
      obtain ⟨⟨fl, ρ2, S2⟩, e2, h2, m', h3, h4⟩ := h1
      have h2 : fl = .nx := h2
      subst h2
      rw [e2]
      exact ih (by omega) h4
end Me
set_option Elab.async false
set_option linter.all false
set_option maxRecDepth 100000
set_option maxHeartbeats 1000000
/-! Me18: comprehensions and loops over a list of one's own that stays. -/
namespace Me
open PySem PySem.Spec PyProof.Rows L2
theorem chk_yes {β : Type} {sk : Option Nat} {ds : List D} {S : Sto} {x : Option β} (h : grd sk ds S) : chk sk ds S x = x := by
  unfold chk
  rw [if_pos h]
theorem ok_lcfG {β : Type} {ws : WF} {is : List Nat} {g : GF} {t : CF} {f : EF} {ρ : Ev} {S : Sto} {sk : Option Nat} {xs : List β} {Q : P × Sto → Prop} (en : β → D) (val : β → Option D) (hw : okO (ws ρ S) fun y => y = ((sk, xs.map en), S))
    (hs : ∀ a, grd sk (xs.map en) (S ++ [.lst a]))
    (h : ∀ x ∈ xs, ∀ a, okO (g (en x) (wipeE ρ is)) fun ρ1 => match val x with
      | none => okO (t ρ1 (S ++ [.lst a])) fun r => r = (false, S ++ [.lst a])
      | some e => (okO (t ρ1 (S ++ [.lst a])) fun r => r = (true, S ++ [.lst a])) ∧ okO (f ρ1 (S ++ [.lst a])) fun r => r = (.dat e, S ++ [.lst a]))
    (k : Q (.obj S.length, S ++ [.lst (xs.filterMap val)])) : okO (eLc ws is g t f ρ S) Q := by
  have key : ∀ (ys : List β) (acc : List D), (∀ y ∈ ys, y ∈ xs) → compD S.length sk (xs.map en) g t f (wipeE ρ is) (ys.map en) acc (S ++ [.lst acc]) = some (S ++ [.lst (acc ++ ys.filterMap val)]) := fun ys => by
    induction ys with
    | nil => intro acc _; simp [compD, chk_yes (hs acc)]
    | cons y ys ih =>
      intro acc hy
      have ih := fun acc => ih acc fun z hz => hy z (List.mem_cons_of_mem _ hz)
      obtain ⟨ρ1, h1, h2⟩ := h y (hy y (List.mem_cons_self ..)) acc
      rw [List.map_cons]
      unfold compD
      rw [chk_yes (hs acc), h1]
      cases hv : val y with
      | none =>
        rw [hv] at h2
        have h2 := ok_eq h2
        simp only [bd_some, h2, Bool.false_eq_true, if_false]
        rw [ih, List.filterMap_cons_none hv]
      | some e =>
        rw [hv] at h2
        have h3 := ok_eq h2.1
        have h4 := ok_eq h2.2
        simp only [bd_some, h3, if_true]
        rw [h4, List.filterMap_cons_some hv]
        show chk (some S.length) acc (S ++ [.lst acc]) (compD S.length sk (xs.map en) g t f (wipeE ρ is) (ys.map en) (acc ++ [e]) ((S ++ [MO.lst acc]).set S.length (MO.lst (acc ++ [e])))) = _
        rw [chk_some (by rw [List.getElem?_append_right (Nat.le_refl _), Nat.sub_self]; rfl)]
        have e1 : (S ++ [MO.lst acc]).set S.length (MO.lst (acc ++ [e])) = S ++ [MO.lst (acc ++ [e])] := by
          rw [List.set_append_right _ _ (Nat.le_refl _), Nat.sub_self]
          rfl
        rw [e1, ih, List.append_assoc]
        rfl
  refine eq_ok (?_ : _ = some (P.obj S.length, S ++ [MO.lst (xs.filterMap val)])) k
  unfold eLc
  rw [ok_eq hw]
  show bd (compD S.length sk (xs.map en) g t f (wipeE ρ is) (xs.map en) [] (S ++ [.lst []])) _ = _
  rw [key xs [] fun _ h => h]
  show some (P.obj S.length, (S ++ [MO.lst ([] ++ xs.filterMap val)]).take (S.length + 1)) = _
  rw [List.take_of_length_le (by simp)]
  rfl
theorem grd_own {S : Sto} {k : Nat} {ds a : List D} (h : S[k]? = some (.lst ds)) : grd (some k) ds (S ++ [.lst a]) := by
  show (S ++ [.lst a])[k]? = _
  rw [List.getElem?_append_left (List.getElem?_eq_some_iff.mp h).1]
  exact h
/-- [f(x) for x in xs], xs a list of one's own -/
theorem ok_lcO {β : Type} {ws : WF} {is : List Nat} {g : GF} {f : EF} {ρ : Ev} {S : Sto} {i : Nat} {xs : List β} {Q : P × Sto → Prop} (en val : β → D) (hk : S[i]? = some (.lst (xs.map en))) (hw : okO (ws ρ S) fun y => y = ((some i, xs.map en), S))
    (h : ∀ x ∈ xs, ∀ a, okO (bd (g (en x) (wipeE ρ is)) fun ρ1 => f ρ1 (S ++ [.lst a])) fun r => r = (.dat (val x), S ++ [.lst a]))
    (k : Q (.obj S.length, S ++ [.lst (xs.map val)])) : okO (eLc ws is g cYes f ρ S) Q := by
  refine ok_lcfG en (fun x => some (val x)) hw (fun a => grd_own hk) (fun x hx a => ?_) ?_
  · obtain ⟨r, e1, rfl⟩ := h x hx a
    obtain ⟨ρ1, e2, e3⟩ := bd_of e1
    exact eq_ok e2 ⟨eq_ok rfl rfl, eq_ok e3 rfl⟩
  · rw [show xs.filterMap (fun x => some (val x)) = xs.map val from List.filterMap_eq_map (f := val) ▸ rfl]
    exact k
theorem enD_zip {β : Type} (en : β → D) : ∀ (xs : List β) (k : Nat), enD k (xs.map en) = (xs.zipIdx k).map fun p => .tuple [.int ((p.2 : Nat) : Int), en p.1]
  | [], _ => rfl
  | x :: xs, k => by
    rw [List.map_cons, enD, enD_zip en xs (k + 1)]
    rfl
theorem zpD_zip {β γ : Type} (e1 : β → D) (e2 : γ → D) : ∀ (xs : List β) (ys : List γ), zpD (xs.map e1) (ys.map e2) = (xs.zip ys).map fun p => .tuple [e1 p.1, e2 p.2]
  | [], _ => by simp [zpD]
  | _ :: _, [] => by simp [zpD]
  | x :: xs, y :: ys => by simp [zpD, zpD_zip e1 e2 xs ys]
theorem ev_Sorted {p : P} {S : Sto} {ds es : List D} (h : lsqOf p S = some ds) (ok : SortOk ds) (e : sortD ds = es) : oSorted [p] S = some (.obj S.length, S ++ [.lst es]) := by
  unfold oSorted
  simp only [one1, h, bd_some, if_pos ok, e]
theorem small1000 {j : Int} (h : j.natAbs < 2 ^ 200) : j.natAbs < 2 ^ 1000 := Nat.lt_of_lt_of_le h (Nat.pow_le_pow_right (by decide) (by decide))
theorem ev_Div {i j : Int} {S : Sto} (h0 : 0 < j) (h : j.natAbs < 2 ^ 200) : oDiv (.dat (.int i)) (.dat (.int j)) S = some (.dat (.int (i / j)), S) :=
  IIc_pos (by rw [Bool.and_eq_true]; exact ⟨decide_eq_true h0, decide_eq_true (small1000 h)⟩)
theorem ev_Mod {i j : Int} {S : Sto} (h0 : 0 < j) : oMod (.dat (.int i)) (.dat (.int j)) S = some (.dat (.int (i % j)), S) :=
  IIc_pos (decide_eq_true h0)
theorem lt200 {n m : Nat} (h : n ≤ m) (k : m < 2 ^ 200) : n < 2 ^ 200 := Nat.lt_of_le_of_lt h k
theorem mulOk_nat {a b m : Nat} (ha : a ≤ m) (hb : b ≤ m) (k : m < 2 ^ 200) : mulOk ((a : Nat) : Int) ((b : Nat) : Int) = true := mulOk_of (lt200 ha k) (lt200 hb k)
theorem ev_MulN {a b m : Nat} {S : Sto} (ha : a ≤ m) (hb : b ≤ m) (k : m < 2 ^ 200) : oMul (.dat (.int ((a : Nat) : Int))) (.dat (.int ((b : Nat) : Int))) S = some (.dat (.int ((a * b : Nat) : Int)), S) := by
  rw [ev_Mul_i (mulOk_nat ha hb k), Int.natCast_mul]
theorem ev_MulL {x : D} {n : Int} {k : Nat} {S : Sto} (h : n = k) (hk : k ≤ 16777216) : oMul (.dat (.list [x])) (.dat (.int n)) S = some (.obj S.length, S ++ [.lst (List.replicate k x)]) := by
  have g : ∀ j : Int, 0 ≤ j → j ≤ 16777216 → -(2 ^ 60) ≤ j ∧ j < 2 ^ 60 := fun j a b => ⟨by omega, by omega⟩
  have e : n.toNat = k := by omega
  have q := g n (by omega) (by omega)
  rw [ev_Mul_l, if_pos ⟨q.1, q.2, by rw [e]; simpa using hk⟩, e]
  have f : ∀ k : Nat, (List.replicate k [x]).flatten = List.replicate k x := fun k => by
    induction k with
    | zero => rfl
    | succ k ih => rw [List.replicate_succ, List.flatten_cons, ih]; rfl
  rw [f]
@[simp] theorem atI_add {β : Type} {xs : List β} {a b : Nat} : atI xs ((a : Int) + (b : Int)) = xs[a + b]? := by
  rw [← Int.natCast_add, atI_nat]
@[simp] theorem ixN_add {n a b : Nat} : ixN n ((a : Int) + (b : Int)) = if a + b < n then some (a + b) else none := by
  rw [← Int.natCast_add, ixN_nat]
@[simp] theorem ixN_0 {n : Nat} : ixN n 0 = if 0 < n then some 0 else none := ixN_nat (a := 0)
@[simp] theorem ixN_1 {n : Nat} : ixN n 1 = if 1 < n then some 1 else none := ixN_nat (a := 1)
@[simp] theorem atI_succ {β : Type} {xs : List β} {a : Nat} : atI xs ((a : Int) + 1) = xs[a + 1]? := atI_nat (a := a + 1)
@[simp] theorem cutD_f2 {β : Type} {l : List β} {a : Nat} : cutD l (some ((a : Int) + 2)) none = l.drop (a + 2) := cutD_from (i := a + 2)
@[simp] theorem cutD_f1 {β : Type} {l : List β} {a : Nat} : cutD l (some ((a : Int) + 1)) none = l.drop (a + 1) := cutD_from (i := a + 1)
@[simp] theorem cutD_t1 {β : Type} {l : List β} {a : Nat} : cutD l none (some ((a : Int) + 1)) = l.take (a + 1) := cutD_to (i := a + 1)
/-- [f(x) for x in xs], f changes what changes -/
theorem ok_lcst {β : Type} {ws : WF} {is : List Nat} {g : GF} {f : EF} {ρ : Ev} {S : Sto} {xs : List β} {Q : P × Sto → Prop} (en : β → D) (R : List β → List D → Sto → Prop) (hR : ∀ p a S', R p a S' → S'.length = S.length)
    (hw : okO (ws ρ S) fun y => y = ((none, xs.map en), S)) (r0 : R [] [] S)
    (h : ∀ pre x suf acc S1, pre ++ x :: suf = xs → R pre acc S1 → okO (bd (g (en x) (wipeE ρ is)) fun ρ1 => f ρ1 (S1 ++ [.lst acc])) fun r => ∃ e S2, r = (.dat e, S2 ++ [.lst acc]) ∧ R (pre ++ [x]) (acc ++ [e]) S2)
    (k : ∀ acc S1, R xs acc S1 → Q (.obj S.length, S1 ++ [.lst acc])) : okO (eLc ws is g cYes f ρ S) Q := by
  obtain ⟨acc, S', e, a, c, e1, e2, r⟩ := lc_st (g := g) (f := f) (is := is) (ρ := ρ) (S := S) (fun ds acc S' => ∃ a c, a ++ c = xs ∧ ds = a.map en ∧ R a acc S') (fun p a S' ⟨_, _, _, _, r⟩ => hR _ _ _ r) (ok_eq hw) ⟨[], xs, rfl, rfl, r0⟩ (fun pre d suf acc S1 e ⟨a, c, e1, e2, r⟩ => by
    obtain ⟨a', x, c', h1, h2, h3, h4⟩ := map_cut e
    have hl : a.length = a'.length := by
      have := congrArg List.length (e2.symm.trans h2)
      simpa using this
    have ea : a = a' := (List.append_inj (e1.trans h1) hl).1
    subst ea
    obtain ⟨r', q1, e', S2, rfl, q3⟩ := h a x c' acc S1 h1.symm r
    obtain ⟨ρ1, q4, q5⟩ := bd_of q1
    subst h3
    exact ⟨ρ1, S2, e', q4, q5, a ++ [x], c', by rw [List.append_assoc]; exact h1.symm, by rw [h2, List.map_append]; rfl, q3⟩)
  have hl : a.length = xs.length := by
    have := congrArg List.length e2
    simpa using this.symm
  have : a = xs := (List.append_inj (t₁ := c) (t₂ := []) (by rw [e1, List.append_nil]) hl).1
  subst this
  exact eq_ok e (k _ _ r)
def iDK (x : List P × Sto) : Option ((Option Nat × List D) × Sto) := bd (three3 x.1) fun p => bd (asInt p.1) fun i => bd (asInt p.2.1) fun j => bd (asInt p.2.2) fun c => if c = -1 ∧ -(2 ^ 60) ≤ i ∧ i < 2 ^ 60 ∧ -(2 ^ 60) ≤ j ∧ j < 2 ^ 60 ∧ i - j ≤ 16777216 then some ((none, dwnD i (i - j).toNat), x.2) else none
@[simp ↓] theorem wp_iDwn {f : AF} {ρ : Ev} {S : Sto} {Q : _ → Prop} {t : Tag Q} : okO (iDwnD f ρ S) Q t = okO (bd (f ρ S) iDK) Q := id rfl
theorem iDK_pos {i j c : Int} {S : Sto} (h : c = -1 ∧ -(2 ^ 60) ≤ i ∧ i < 2 ^ 60 ∧ -(2 ^ 60) ≤ j ∧ j < 2 ^ 60 ∧ i - j ≤ 16777216) : iDK ([.dat (.int i), .dat (.int j), .dat (.int c)], S) = some ((none, dwnD i (i - j).toNat), S) := by
  show (if c = -1 ∧ -(2 ^ 60) ≤ i ∧ i < 2 ^ 60 ∧ -(2 ^ 60) ≤ j ∧ j < 2 ^ 60 ∧ i - j ≤ 16777216 then _ else _) = _
  rw [if_pos h]
/-- range(a, -1, -1) -/
theorem iDK_nat {i j c : Int} {a : Nat} {S : Sto} (hi : i = (a : Int) - 1) (hj : j = -1) (hc : c = -1) (h : a ≤ 16777216) : iDK ([.dat (.int i), .dat (.int j), .dat (.int c)], S) = some ((none, (List.range a).map fun k => PyData.int ((a : Int) - 1 - (k : Nat))), S) := by
  have g : ∀ i j c : Int, c = -1 → j = -1 → -1 ≤ i → i ≤ 16777215 → c = -1 ∧ -(2 ^ 60) ≤ i ∧ i < 2 ^ 60 ∧ -(2 ^ 60) ≤ j ∧ j < 2 ^ 60 ∧ i - j ≤ 16777216 := fun i j c h1 h2 h3 h4 => ⟨by omega, by omega, by omega, by omega, by omega, by omega⟩
  rw [iDK_pos (g i j c hc hj (by omega) (by omega))]
  have e : (i - j).toNat = a := by omega
  rw [e]
  unfold dwnD
  have : ∀ k : Nat, i + (k : Nat) * (-1) = (a : Int) - 1 - (k : Nat) := fun k => by omega
  simp only [this]
theorem lists_map {β : Type} (f : β → List D) (l : List β) : lists (l.map fun x => .list (f x)) = some (l.map f) := by
  induction l with
  | nil => rfl
  | cons a l ih =>
    show bd (lists (l.map fun x => .list (f x))) _ = _
    rw [ih]
    rfl
theorem ev_SumLL {β : Type} {f : β → List D} {l : List β} {S : Sto} (h : (l.flatMap f).length ≤ 16777216) : oSumLL [.dat (.list (l.map fun x => .list (f x))), .dat (.list [])] S = some (.dat (.list (l.flatMap f)), S) := by
  unfold oSumLL
  simp only [two2, lsqOf, bd_some, lists_map]
  rw [if_pos ⟨rfl, by rw [← List.flatMap_def]; exact h⟩, ← List.flatMap_def]
/-- what is gone through is worked out first -/
theorem ok_lcW {ws : WF} {is : List Nat} {g : GF} {t : CF} {f : EF} {ρ : Ev} {S : Sto} {Q : P × Sto → Prop} (h : okO (ws ρ S) fun y => okO (eLc (fun _ _ => some y) is g t f ρ y.2) Q) : okO (eLc ws is g t f ρ S) Q := by
  obtain ⟨y, e, h⟩ := h
  unfold eLc at h ⊢
  rw [e]
  exact h
end Me
set_option Elab.async false
set_option linter.all false
set_option maxRecDepth 100000
set_option maxHeartbeats 1000000
namespace Lw
open PySem PySem.Spec PyProof.Rows L2 Me Tm
theorem ev_Sorted {p : P} {S : Sto} {ds es : List D} (h : lsqOf p S = some ds) (ok : SortOk ds) (e : sortD ds = es) : oSorted [p] S = some (.obj S.length, S ++ [.lst es]) := by
  unfold oSorted
  simp only [one1, h, bd_some, if_pos ok, e]
theorem taken_in_eq {n : Nat} {r : Nat → Nat → Bool} {X : List Nat} (nd : X.Nodup) (hX : ∀ x ∈ X, x < n) (S : Sto) : F_taken_in [.dat (encR n (canon n r)), .dat (.tuple (nD X))] S = some (.dat (encR X.length (canon X.length (sub X r))), S) := by
  apply ok_eq
  simp [F_taken_in, b_taken_in, encR]
  refine eq_ok (dXc_eq (X := X) (u := none) rfl (fun k x => rfl) (by simp)) ?_
  simp
  refine ok_lcf (xs := canon n r) encP (fun p => (kept X p).map encP) (by simp) (fun p hp a => ?_) ?_
  · simp [encP, dX_find nd]
    cases h1 : idx X p.1 with
    | none => simp [kept, h1]
    | some i =>
      cases h2 : idx X p.2 with
      | none => simp [kept, h1, h2, dX_find nd]
      | some j => simp [kept, h1, h2, dX_find nd, encP]
  · have e : (canon n r).filterMap (fun p => (kept X p).map encP) = ((canon n r).filterMap (kept X)).map encP := by
      rw [List.map_filterMap]
    simp [e]
    rw [ev_Sorted (by simp) (ok_pairs _) (sortD_pairs (kept_perm (r := r) nd hX) (canon_asc _ _))]
    simp [nD]
theorem eqv_cons0 (d : D) (l : List D) : PyData.eqv (.tuple (d :: l)) (.tuple []) = false := by simp [PyData.eqv, PyData.eqvAll]
theorem nDt_ok (l : List Nat) : okD (.tuple (nD l)) = true := by
  unfold okD SeqAt.shaped
  have h1 : ∀ l : List Nat, PyData.canLayAll0 (nD l) = true := fun l => by
    induction l with
    | nil => rfl
    | cons a l ih => simp [nD, PyData.canLayAll0, PyData.canLay0] at *; exact ih
  have h2 : ∀ l : List Nat, PyData.depthAll (nD l) = 0 := fun l => by
    induction l with
    | nil => rfl
    | cons a l ih => simp [nD, PyData.depthAll, PyData.depth] at *; exact ih
  simp [PyData.canLay0, PyData.depth, h1, h2]
theorem taken_order_eq {n : Nat} {r : Nat → Nat → Bool} {X : List Nat} (o : Ord n r) (asc : X.Pairwise (· < ·)) (hX : ∀ x ∈ X, x < n) (ne : X ≠ []) (S : Sto) : F_taken [.dat (encR n (canon n r)), .dat (.tuple (nD X))] S = some (.dat (encR X.length (canon X.length (sub X r))), S) := by
  apply ok_eq
  obtain ⟨x, Y, rfl⟩ : ∃ x Y, X = x :: Y := by cases X with
    | nil => exact absurd rfl ne
    | cons x Y => exact ⟨x, Y, rfl⟩
  have k := nDt_ok (x :: Y)
  have e := eqv_cons0 (.int (x : Nat)) (nD Y)
  simp [F_taken, b_taken, req_order_eq o, req_things_eq asc hX, k, taken_in_eq (lt_nodup asc) hX]
  simp [nD] at e ⊢
  simp [e]
  have := taken_in_eq (r := r) (lt_nodup asc) hX S
  simp [nD] at this
  rw [this]
  simp
end Lw
set_option Elab.async false
set_option linter.all false
set_option maxRecDepth 100000
set_option maxHeartbeats 1000000
namespace Lw
open PySem PySem.Spec PyProof.Rows L2 Me Tm
def tieR (r : Nat → Nat → Bool) (i j : Nat) : Bool := decide (i < j) && (r i j || r j i)
def freR (r : Nat → Nat → Bool) (i j : Nat) : Bool := decide (i < j) && !(r i j || r j i)
theorem Ord.as {n : Nat} {r : Nat → Nat → Bool} (o : Ord n r) {i j : Nat} (h : r i j = true) : r j i = false := by
  cases e : r j i with
  | false => rfl
  | true => have := o.tr _ _ _ h e; rw [o.irr] at this; cases this
def sw (p : Pr) : Pr := (min p.1 p.2, max p.1 p.2)
theorem sw_perm {n : Nat} {r : Nat → Nat → Bool} (o : Ord n r) : ((canon n r).map sw).Perm (canon n (tieR r)) := by
  have h0 : ∀ p ∈ canon n r, p.1 ≠ p.2 ∧ p.1 < n ∧ p.2 < n ∧ r p.1 p.2 = true := fun p hp => by
    have h := mem_canon.mp (show (p.1, p.2) ∈ canon n r from hp)
    exact ⟨fun e => by rw [e, o.irr] at h; exact Bool.noConfusion h.2.2, h⟩
  refine perm_of ?_ (asc_nodup (canon_asc _ _)) fun i j => ?_
  · refine List.pairwise_map.mpr ?_
    have := asc_nodup (canon_asc n r)
    refine List.Pairwise.imp_of_mem (fun {a b} ha hb hab e => hab ?_) this
    have h1 := h0 a ha
    have h2 := h0 b hb
    have e1 : min a.1 a.2 = min b.1 b.2 := congrArg Prod.fst e
    have e2 : max a.1 a.2 = max b.1 b.2 := congrArg Prod.snd e
    by_cases c : a.1 = b.1
    · exact Prod.ext c (by omega)
    · exfalso
      have c1 : a.1 = b.2 := by omega
      have c2 : a.2 = b.1 := by omega
      have := o.as h1.2.2.2
      rw [c1, c2] at this
      rw [h2.2.2.2] at this
      cases this
  · rw [List.mem_map, mem_canon]
    constructor
    · rintro ⟨p, hp, e⟩
      have h := h0 p hp
      have e1 : min p.1 p.2 = i := congrArg Prod.fst e
      have e2 : max p.1 p.2 = j := congrArg Prod.snd e
      refine ⟨by omega, by omega, ?_⟩
      unfold tieR
      by_cases c : p.1 < p.2
      · have a1 : i = p.1 := by omega
        have a2 : j = p.2 := by omega
        rw [a1, a2]
        simp [c, h.2.2.2]
      · have a1 : i = p.2 := by omega
        have a2 : j = p.1 := by omega
        have a3 : p.2 < p.1 := by omega
        rw [a1, a2]
        simp [a3, h.2.2.2]
    · rintro ⟨h1, h2, h3⟩
      unfold tieR at h3
      simp only [Bool.and_eq_true, decide_eq_true_eq, Bool.or_eq_true] at h3
      rcases h3.2 with h | h
      · exact ⟨(i, j), mem_canon.mpr ⟨h1, h2, h⟩, by simp [sw]; omega⟩
      · exact ⟨(j, i), mem_canon.mpr ⟨h2, h1, h⟩, by simp [sw]; omega⟩
theorem min2_nat (a b : Nat) : (if ((b : Nat) : Int) < a then ((b : Nat) : Int) else a) = ((min a b : Nat) : Int) := by split <;> omega
theorem max2_nat (a b : Nat) : (if ((b : Nat) : Int) > a then ((b : Nat) : Int) else a) = ((max a b : Nat) : Int) := by split <;> omega
theorem tied_eq {n : Nat} {r : Nat → Nat → Bool} (o : Ord n r) (S : Sto) : F_tied_in [.dat (encR n (canon n r))] S = some (.dat (.tuple ((canon n (tieR r)).map encP)), S) := by
  apply ok_eq
  simp [F_tied_in, b_tied_in, encR]
  refine ok_lc (xs := canon n r) encP (fun p => encP (sw p)) (by simp) (fun p hp a => ?_) ?_
  · simp [encP, min2_nat, max2_nat, sw]
    constructor <;> (split <;> omega)
  · simp
    rw [show (canon n r).map (fun p => encP (sw p)) = ((canon n r).map sw).map encP by rw [List.map_map]; rfl]
    rw [ev_Sorted (by simp) (ok_pairs _) (sortD_pairs (sw_perm o) (canon_asc _ _))]
    simp
theorem rng_ok {n : Nat} (h : n ≤ 30) : (-(2 ^ 60) ≤ ((n : Nat) : Int) ∧ ((n : Nat) : Int) ≤ 16777216) := by omega
theorem rng_lt {i n : Nat} : rngD ((i : Nat) : Int) ((n : Int) - (i : Int)).toNat = nD (List.range' i (n - i)) := by
  have e : ((n : Int) - (i : Int)).toNat = n - i := by omega
  rw [e, List.range'_eq_map_range]
  unfold rngD nD
  rw [List.map_map]
  apply List.map_congr_left
  intro j _
  simp
theorem dP_in2 {ps : List Pr} {i j : Nat} : (dfind (dP ps) [.inl ((i : Nat) : Int), .inl ((j : Nat) : Int)]).isSome = decide ((i, j) ∈ ps) := dP_in (p := (i, j))
/-- one row -/
def frow (n : Nat) (r : Nat → Nat → Bool) (i : Nat) : List Pr := ((List.range n).filter (freR r i)).map fun j => (i, j)
theorem frow_eq {n i : Nat} {r : Nat → Nat → Bool} (hi : i < n) : ((List.range' (i + 1) (n - (i + 1))).filter fun j => !decide ((i, j) ∈ canon n (tieR r))).map (fun j => (i, j)) = frow n r i := by
  unfold frow
  congr 1
  have e : List.range n = List.range (i + 1) ++ List.range' (i + 1) (n - (i + 1)) := by
    rw [List.range_eq_range', List.range_eq_range']
    have := List.range'_append_1 (s := 0) (m := i + 1) (n := n - (i + 1))
    rw [Nat.zero_add] at this
    rw [this]
    congr 1
    omega
  rw [e, List.filter_append]
  have h1 : (List.range (i + 1)).filter (freR r i) = [] := by
    rw [List.filter_eq_nil_iff]
    intro j hj
    rw [List.mem_range] at hj
    have : ¬ i < j := by omega
    simp [freR, this]
  rw [h1, List.nil_append]
  apply List.filter_congr
  intro j hj
  rw [List.mem_range'] at hj
  obtain ⟨k, hk, rfl⟩ := hj
  rw [Bool.eq_iff_iff]
  simp only [Bool.not_eq_true', decide_eq_false_iff_not, mem_canon]
  unfold freR tieR
  have h2 : i < i + 1 + 1 * k := by omega
  have h3 : i + 1 + 1 * k < n := by omega
  have h4 : i + 1 + k < n := by omega
  have h5 : i < i + 1 + k := by omega
  simp [h4, h5, hi]
theorem frow_len {n i : Nat} {r : Nat → Nat → Bool} : (frow n r i).length ≤ n := by
  unfold frow
  rw [List.length_map]
  exact Nat.le_trans (List.length_filter_le _ _) (by rw [List.length_range]; exact Nat.le_refl _)
theorem flat_le {n : Nat} {r : Nat → Nat → Bool} (l : List Nat) : (l.flatMap (frow n r)).length ≤ l.length * n := by
  induction l with
  | nil => simp
  | cons a l ih =>
    rw [List.flatMap_cons, List.length_append, List.length_cons, Nat.succ_mul]
    have := frow_len (n := n) (i := a) (r := r)
    omega
theorem free_eq {n : Nat} {r : Nat → Nat → Bool} (o : Ord n r) (S : Sto) : F_free_in [.dat (encR n (canon n r))] S = some (.dat (.tuple ((canon n (freR r)).map encP)), S) := by
  have hn := o.hi
  apply ok_eq
  simp [F_free_in, b_free_in]
  refine ok_dc (xs := canon n (tieR r)) encP kP (fun _ => .bool true) (by simp [tied_eq o]) (fun p hp a => by simp [encP, kP]) ?_
  have hd : (canon n (tieR r)).foldl (fun a x => dput a (kP x) (.bool true)) [] = dP (canon n (tieR r)) := by
    unfold dP
    rw [List.foldl_map]
    rfl
  rw [hd]
  simp
  refine ok_for (xs := List.range n) (fun i => .int (i : Nat)) (fun pre ρ S' => (∃ z, ρ = [some (.dat (encR n (canon n r))), some (.obj S.length), some (.obj (S.length + 1)), z, none, none]) ∧ S' = S ++ [.dT (dP (canon n (tieR r))), .lst ((pre.flatMap (frow n r)).map encP)]) (S0 := S ++ [.dT (dP (canon n (tieR r))), .lst []]) ?_ ⟨⟨none, rfl⟩, by simp⟩ ?_ ?_
  · have : n ≤ 16777216 := by omega
    simp [encR, this]
  · rintro pre i suf ρ S' hcut ⟨⟨z, rfl⟩, rfl⟩
    have hi : i < n := by
      have : i ∈ List.range n := by rw [← hcut]; simp
      simpa using this
    simp [encR]
    refine ok_lcif (xs := List.range' (i + 1) (n - (i + 1))) (fun j => .int (j : Nat)) (fun j => !decide ((i, j) ∈ canon n (tieR r))) (fun j => encP (i, j)) ?_ ?_ ?_ ?_
    · simp
      rw [iR2K_nat (a := i + 1) (b := n) (by simp) rfl (by omega) (by omega)]
      simp
    · intro j hj a
      simp [dP_in2]
    · intro j hj hc a
      simp [encP]
    · have h : ((List.range' (i + 1) (n - (i + 1))).filter fun j => !decide ((i, j) ∈ canon n (tieR r))).map (fun j => encP (i, j)) = (frow n r i).map encP := by
        rw [← frow_eq hi, List.map_map]
        rfl
      have hl : (pre.flatMap (frow n r)).length + (frow n r i).length ≤ 16777216 := by
        have h1 := flat_le (n := n) (r := r) pre
        have h2 := frow_len (n := n) (i := i) (r := r)
        have h3 : pre.length ≤ n := by
          have := congrArg List.length hcut
          simp at this
          omega
        have h4 := Nat.mul_le_mul h3 (Nat.le_refl n)
        have h5 := Nat.mul_le_mul hn hn
        omega
      rw [h]
      rw [List.length_flatMap] at hl
      simp [hl]
  · rintro ρ' S' ⟨⟨z, rfl⟩, rfl⟩
    simp
    rfl
end Lw
set_option Elab.async false
set_option linter.all false
set_option maxRecDepth 100000
set_option maxHeartbeats 1000000
namespace Lw
open PySem PySem.Spec PyProof.Rows L2 Me Tm
/-! ### partners_in -/
def adj1 (i : Nat) (p : Pr) : List Nat := (if p.1 = i then [p.2] else []) ++ (if p.2 = i then [p.1] else [])
def adj (ps : List Pr) (i : Nat) : List Nat := ps.flatMap (adj1 i)
theorem adj1_len {i : Nat} {p : Pr} : (adj1 i p).length ≤ 2 := by
  unfold adj1
  rw [List.length_append]
  split <;> split <;> simp
theorem rstep3443 {n a b : Nat} {R : Nat → List Nat} {x0 x1 x2 x5 x6 : Option P} (ha : a < n) (hb : b < n) (hl : ∀ i, (R i).length + 2 ≤ lim) : rowsStep [x0, x1, x2, some (.dat (.int (a : Nat))), some (.dat (.int (b : Nat))), x5, x6] [(3, 4), (4, 3)] (rowsN n R) = some (rowsN n fun i => R i ++ adj1 i (a, b)) := by
  have h1 : ∀ R : Nat → List Nat, (rowsN n R).length = n := fun R => by simp [rowsN]
  have h2 : ∀ i, (nD (R i)).length < lim := fun i => by have := hl i; simp [nD]; omega
  have h3 : (nD (addR R a b b)).length < lim := by
    have := hl b
    unfold addR
    split <;> (simp [nD]; omega)
  unfold rowsStep
  show bd (ixN (rowsN n R).length ((a : Nat) : Int)) _ = _
  rw [h1, ixN_nat ha]
  simp only [bd_some, rowsN_get ha, h2, ↓reduceIte, rowsN_set ha]
  unfold rowsStep
  show bd (ixN (rowsN n (addR R a b)).length ((b : Nat) : Int)) _ = _
  rw [h1, ixN_nat hb]
  simp only [bd_some, rowsN_get hb, h3, ↓reduceIte, rowsN_set hb]
  unfold rowsStep
  congr 2
  funext i
  unfold addR adj1
  by_cases c : i = a
  · by_cases d : i = b
    · subst c; subst d; simp
    · have d' : ¬ b = i := fun h => d h.symm
      subst c; simp [d, d']
  · have c' : ¬ a = i := fun h => c h.symm
    by_cases d : i = b
    · subst d; simp [c, c']
    · have d' : ¬ b = i := fun h => d h.symm
      simp [c, c', d, d']
theorem loop3443 {n : Nat} {x0 x1 x2 x5 x6 : Option P} : ∀ (ps : List Pr) (R : Nat → List Nat) (x3 x4 : Option P), (∀ p ∈ ps, p.1 < n ∧ p.2 < n) → (∀ i, (R i).length + 2 * ps.length ≤ lim) → ∃ y3 y4, rowsLoop 3 4 [(3, 4), (4, 3)] (ps.map encP) [x0, x1, x2, x3, x4, x5, x6] (rowsN n R) = some ([x0, x1, x2, y3, y4, x5, x6], rowsN n fun i => R i ++ adj ps i)
  | [], R, x3, x4, _, _ => ⟨x3, x4, by simp [rowsLoop, adj]⟩
  | p :: ps, R, x3, x4, hb, hl => by
    have hp := hb p List.mem_cons_self
    have hl1 : ∀ i, (R i).length + 2 ≤ lim := fun i => by
      have := hl i
      rw [List.length_cons] at this
      omega
    obtain ⟨y3, y4, e⟩ := loop3443 (x0 := x0) (x1 := x1) (x2 := x2) (x5 := x5) (x6 := x6) ps (fun i => R i ++ adj1 i p) (some (.dat (.int (p.1 : Nat)))) (some (.dat (.int (p.2 : Nat)))) (fun q hq => hb q (List.mem_cons_of_mem _ hq)) (fun i => by
      have h1 := hl i
      have h2 := adj1_len (i := i) (p := p)
      rw [List.length_cons] at h1
      rw [List.length_append]
      omega)
    refine ⟨y3, y4, ?_⟩
    rw [List.map_cons]
    unfold rowsLoop
    show bd (rowsStep [x0, x1, x2, some (.dat (.int (p.1 : Nat))), some (.dat (.int (p.2 : Nat))), x5, x6] [(3, 4), (4, 3)] (rowsN n R)) _ = _
    rw [rstep3443 hp.1 hp.2 hl1]
    simp only [bd_some]
    refine e.trans ?_
    congr 3
    funext i
    simp [adj]
theorem adj_perm {n : Nat} {q : Nat → Nat → Bool} (hq : ∀ i j, q i j = true → i < j) {i : Nat} (hi : i < n) : (adj (canon n q) i).Perm ((List.range n).filter fun j => q i j || q j i) := by
  have lt : ∀ p ∈ canon n q, p.1 < p.2 := fun p hp => hq _ _ (mem_canon.mp (show (p.1, p.2) ∈ canon n q from hp)).2.2
  have e : adj (canon n q) i = (canon n q).filterMap fun p => if p.1 = i then some p.2 else if p.2 = i then some p.1 else none := by
    unfold adj
    generalize canon n q = l at lt
    induction l with
    | nil => rfl
    | cons p l ih =>
      have h := lt p List.mem_cons_self
      rw [List.flatMap_cons, ih fun x hx => lt x (List.mem_cons_of_mem _ hx)]
      unfold adj1
      by_cases c : p.1 = i
      · have d : ¬ p.2 = i := by omega
        simp [c, d]
      · by_cases d : p.2 = i
        · simp [c, d]
        · simp [c, d]
  rw [e]
  refine (List.perm_ext_iff_of_nodup ?_ (List.nodup_range.filter _)).mpr fun j => ?_
  · refine List.Pairwise.filterMap (R := fun a b => a ∈ canon n q ∧ b ∈ canon n q ∧ a ≠ b) _ (fun a b hab x hx y hy => ?_) ?_
    · obtain ⟨ha, hb, ne⟩ := hab
      have h1 := lt a ha
      have h2 := lt b hb
      intro exy
      apply ne
      have hx : (if a.1 = i then some a.2 else if a.2 = i then some a.1 else none) = some x := hx
      have hy : (if b.1 = i then some b.2 else if b.2 = i then some b.1 else none) = some y := hy
      split at hx
      · cases hx
        split at hy
        · cases hy
          exact Prod.ext (by omega) exy
        · split at hy
          · cases hy; omega
          · cases hy
      · split at hx
        · cases hx
          split at hy
          · cases hy; omega
          · split at hy
            · cases hy
              exact Prod.ext exy (by omega)
            · cases hy
        · cases hx
    · exact (List.Pairwise.imp_of_mem (fun ha hb h => ⟨ha, hb, h⟩) (asc_nodup (canon_asc n q)))
  · rw [List.mem_filterMap, List.mem_filter, List.mem_range, Bool.or_eq_true]
    constructor
    · rintro ⟨p, hp, h⟩
      have hm := mem_canon.mp (show (p.1, p.2) ∈ canon n q from hp)
      split at h
      · cases h
        rename_i c
        exact ⟨hm.2.1, .inl (c ▸ hm.2.2)⟩
      · split at h
        · cases h
          rename_i c
          exact ⟨hm.1, .inr (c ▸ hm.2.2)⟩
        · cases h
    · rintro ⟨h1, h | h⟩
      · exact ⟨(i, j), mem_canon.mpr ⟨hi, h1, h⟩, by simp⟩
      · have := hq _ _ h
        have c : ¬ j = i := by omega
        exact ⟨(j, i), mem_canon.mpr ⟨h1, hi, h⟩, by simp [c]⟩
/-- the rows of partners -/
def prow (n : Nat) (q : Nat → Nat → Bool) (i : Nat) : List Nat := (List.range n).filter fun j => q i j || q j i
theorem rows_map (n : Nat) (R : Nat → List Nat) : (rowsN n R).map PyData.list = (List.range n).map fun i => .list (nD (R i)) := by
  unfold rowsN
  rw [List.map_map]
  rfl
theorem partners_eq {n : Nat} {q : Nat → Nat → Bool} (hn : n ≤ 30) (hq : ∀ i j, q i j = true → i < j) (S : Sto) : F_partners_in [.dat (.int (n : Nat)), .dat (.tuple ((canon n q).map encP))] S = some (.obj S.length, S ++ [.lst ((rowsN n (prow n q)).map .list)]) := by
  have hb : ∀ p ∈ canon n q, p.1 < n ∧ p.2 < n := fun p hp => by
    have := mem_canon.mp (show (p.1, p.2) ∈ canon n q from hp)
    exact ⟨this.1, this.2.1⟩
  have hl := canon_len n q hn
  obtain ⟨y3, y4, e⟩ := loop3443 (n := n) (x0 := some (.dat (.int (n : Nat)))) (x1 := some (.dat (.tuple ((canon n q).map encP)))) (x2 := none) (x5 := none) (x6 := none) (canon n q) (fun _ => []) none none hb (fun i => by
    have : (2000 : Nat) ≤ lim := by decide
    simp
    omega)
  have e0 : List.replicate n ([] : List D) = rowsN n fun _ => [] := by
    apply List.ext_getElem (by simp [rowsN])
    intro i h1 h2
    simp [rowsN, nD]
  have hs : sRows 2 (iRng1D (aCons (eVar 0) aNil)) (srcVar 1) 3 4 [(3, 4), (4, 3)] [some (.dat (.int (n : Nat))), some (.dat (.tuple ((canon n q).map encP))), none, none, none, none, none] S = some (.nx, [some (.dat (.int (n : Nat))), some (.dat (.tuple ((canon n q).map encP))), some (.obj S.length), y3, y4, none, none], S ++ [.lst ((rowsN n (adj (canon n q))).map .list)]) := by
    have hr : iRng1D (aCons (eVar 0) aNil) [some (.dat (.int (n : Nat))), some (.dat (.tuple ((canon n q).map encP))), none, none, none, none, none] S = some ((none, (List.range n).map fun i => PyData.int ((i : Nat) : Int)), S) := by
      have : n ≤ 16777216 := by omega
      apply ok_eq
      simp [this]
    unfold sRows
    rw [hr]
    simp only [bd_some]
    rw [if_pos ⟨rfl, (by decide : 2 < 7)⟩]
    have sx : srcVar 1 (([some (.dat (.int (n : Nat))), some (.dat (.tuple ((canon n q).map encP))), none, none, none, none, none] : Ev).set 2 none) = some ((canon n q).map encP) := rfl
    rw [sx]
    simp only [bd_some]
    show bd (rowsLoop 3 4 [(3, 4), (4, 3)] ((canon n q).map encP) [some (.dat (.int (n : Nat))), some (.dat (.tuple ((canon n q).map encP))), none, none, none, none, none] (List.replicate ((List.range n).map fun i => PyData.int ((i : Nat) : Int)).length [])) _ = _
    rw [List.length_map, List.length_range, e0, e]
    simp
  apply ok_eq
  simp [F_partners_in, b_partners_in]
  refine eq_ok hs ?_
  simp
  refine ok_lcO (xs := List.range n) (i := S.length) (fun i => .list (nD (adj (canon n q) i))) (fun i => .list (nD (prow n q i))) (by rw [rows_map]; simp) (by rw [rows_map]; simp) (fun i hi a => ?_) ?_
  · have hi := List.mem_range.mp hi
    simp
    have hs := sortD_nat (adj (canon n q) i)
    rw [isort_eq (adj_perm hq hi) (lt_le (List.pairwise_lt_range.filter _))] at hs
    rw [Me.ev_Sorted (by simp) (ok_nat _) hs]
    simp [prow]
  · rw [rows_map, rows_map]
    simp
end Lw
set_option Elab.async false
set_option linter.all false
set_option maxRecDepth 100000
set_option maxHeartbeats 2000000
namespace Lw
open PySem PySem.Spec PyProof.Rows L2 Me Tm
/-! ### pieces_by -/
def lk (l : List Nat) : List (Key × D) := l.map fun i => (.inl ((i : Nat) : Int), .bool true)
theorem lk_len (l : List Nat) : (lk l).length = l.length := by simp [lk]
theorem lk_find {l : List Nat} {o : Nat} : (dfind (lk l) (.inl ((o : Nat) : Int))) = if o ∈ l then some (.bool true) else none := by
  induction l with
  | nil => simp [lk, dfind]
  | cons a l ih =>
    rw [show lk (a :: l) = (.inl ((a : Nat) : Int), .bool true) :: lk l from rfl, dfind_cons, ih]
    by_cases c : a = o
    · subst c; simp
    · have c' : ¬ o = a := fun h => c h.symm
      have c2 : ¬ ((Sum.inl ((a : Nat) : Int) : Key) = .inl ((o : Nat) : Int)) := fun h => c (by injection h with h; exact Int.ofNat.inj h)
      simp [c2, c']
theorem lk_drop {l : List Nat} {o : Nat} : ddrop (lk l) (.inl ((o : Nat) : Int)) = lk (Tm.without l o) := by
  unfold ddrop lk Tm.without
  rw [List.filter_map]
  congr 1
  apply List.filter_congr
  intro x _
  show decide ((Sum.inl ((x : Nat) : Int) : Key) ≠ .inl ((o : Nat) : Int)) = decide (x ≠ o)
  rw [decide_eq_decide]
  constructor
  · intro h e; exact h (by rw [e])
  · intro h e; exact h (by injection e with e; exact Int.ofNat.inj e)
theorem lk_dict : ∀ (X : List Nat) (acc : List Nat), (acc ++ X).Nodup → X.foldl (fun a x => dput a (Sum.inl ((x : Nat) : Int) : Key) (.bool true)) (lk acc) = lk (acc ++ X)
  | [], acc, _ => by simp
  | x :: X, acc, h => by
    have hx : x ∉ acc := fun hm => (List.nodup_append.mp h).2.2 x hm x (List.mem_cons_self) rfl
    have e : dput (lk acc) (Sum.inl ((x : Nat) : Int) : Key) (.bool true) = lk (acc ++ [x]) := by
      unfold dput
      rw [if_neg]
      · simp [lk]
      · rw [dfind_any, lk_find, if_neg hx]
        simp
    rw [List.foldl_cons, e, lk_dict X (acc ++ [x]) (by simpa using h)]
    simp
theorem visit_cons (l p w : List Nat) (o : Nat) (os : List Nat) : visit l p w (o :: os) = if o ∈ l then visit (Tm.without l o) (p ++ [o]) (w ++ [o]) os else visit l p w os := rfl
theorem visit_app (l p w as bs : List Nat) : visit l p w (as ++ bs) = visit (visit l p w as).1 (visit l p w as).2.1 (visit l p w as).2.2 bs := by
  induction as generalizing l p w with
  | nil => rfl
  | cons a as ih =>
    rw [List.cons_append, visit_cons, visit_cons]
    split
    · exact ih _ _ _
    · exact ih _ _ _
theorem without_len {l : List Nat} {o : Nat} (nd : l.Nodup) (h : o ∈ l) : (Tm.without l o).length + 1 = l.length := visit_gr.len_without nd h
theorem without_nd {l : List Nat} {o : Nat} (nd : l.Nodup) : (Tm.without l o).Nodup := nd.filter _
theorem sub_len : ∀ {xs ys : List Nat}, xs.Nodup → (∀ x ∈ xs, x ∈ ys) → xs.length ≤ ys.length
  | [], _, _, _ => Nat.zero_le _
  | x :: xs, ys, nd, h => by
    have nd' := List.nodup_cons.mp nd
    have hx := h x (List.mem_cons_self ..)
    have h2 : xs.length ≤ (ys.erase x).length := sub_len nd'.2 fun y hy => by
      have hne : y ≠ x := fun e => nd'.1 (e ▸ hy)
      exact (List.mem_erase_of_ne hne).mpr (h y (List.mem_cons_of_mem _ hy))
    have h3 := List.length_erase_of_mem hx
    have h4 : 0 < ys.length := List.length_pos_of_mem hx
    rw [List.length_cons]
    omega
/-- what a visit keeps -/
structure Vk (X : List Nat) (c : Nat) (l p w : List Nat) : Prop where
  nd : l.Nodup
  sub : ∀ x ∈ l, x ∈ X
  pn : p.length + l.length ≤ X.length
  wl : w.length + l.length ≤ c
  wx : ∀ x ∈ w, x ∈ X
theorem visit_vk {X : List Nat} {c : Nat} : ∀ (os : List Nat) {l p w : List Nat}, Vk X c l p w → Vk X c (visit l p w os).1 (visit l p w os).2.1 (visit l p w os).2.2
  | [], _, _, _, h => h
  | o :: os, l, p, w, h => by
    unfold visit
    split
    · rename_i ho
      have hl := without_len h.nd ho
      exact visit_vk os {
        nd := without_nd h.nd
        sub := fun x hx => h.sub x (mem_without.mp hx).1
        pn := by have := h.pn; rw [List.length_append, List.length_singleton]; omega
        wl := by have := h.wl; rw [List.length_append, List.length_singleton]; omega
        wx := fun x hx => by
          rcases List.mem_append.mp hx with hx | hx
          · exact h.wx x hx
          · rw [List.mem_singleton.mp hx]; exact h.sub o ho }
    · exact visit_vk os h
theorem nD_concat (l : List Nat) (x : Nat) : nD (l ++ [x]) = nD l ++ [.int (x : Nat)] := by simp [nD]
theorem nD_eqv0 (l : List Nat) : PyData.eqv (.list (nD l)) (.list []) = decide (l = []) := nD_eqv l []
theorem nD_l (l : List Nat) : (nD l).length = l.length := by simp [nD]
/-- the outer loop -/
def PR (n : Nat) (X : List Nat) (R : Nat → List Nat) (S : Sto) (pre : List Nat) (ρ : Ev) (S' : Sto) : Prop := ∃ z4 z5 z6 z7 l found ts J, ρ = [some (.dat (.list (nD X))), some (.dat (.list ((rowsN n R).map .list))), some (.obj S.length), some (.obj (S.length + 1)), z4, z5, z6, z7] ∧ S' = S ++ .dK (lk l) :: .lst (found.map fun B => .list (nD B)) :: J ∧ pre ++ ts = X ∧ pieces R 40 ts l found = pieces R 40 X X [] ∧ l.Nodup ∧ (∀ x ∈ l, x ∈ X) ∧ found.length ≤ pre.length
/-- the walk of one piece -/
def WR (n : Nat) (X : List Nat) (R : Nat → List Nat) (S J : Sto) (found : List (List Nat)) (t : Nat) (res : List Nat × List Nat) (m : Nat) (ρ : Ev) (S' : Sto) : Prop := ∃ z7 l p w f, ρ = [some (.dat (.list (nD X))), some (.dat (.list ((rowsN n R).map .list))), some (.obj S.length), some (.obj (S.length + 1)), some (.dat (.int (t : Nat))), some (.obj (S.length + (J.length + 1 + 1))), some (.obj (S.length + (J.length + 1 + 1 + 1))), z7] ∧ S' = S ++ .dK (lk l) :: .lst (found.map fun B => .list (nD B)) :: (J ++ [.lst (nD p), .lst (nD w)]) ∧ Vk X m l p w ∧ m < f ∧ f ≤ 40 ∧ grow R f l p w = res
/-- the partners of one thing -/
def VR (n : Nat) (X : List Nat) (R : Nat → List Nat) (S J : Sto) (found : List (List Nat)) (t c : Nat) (l p w : List Nat) (pre : List Nat) (ρ : Ev) (S' : Sto) : Prop := ∃ z7 l' p' w', ρ = [some (.dat (.list (nD X))), some (.dat (.list ((rowsN n R).map .list))), some (.obj S.length), some (.obj (S.length + 1)), some (.dat (.int (t : Nat))), some (.obj (S.length + (J.length + 1 + 1))), some (.obj (S.length + (J.length + 1 + 1 + 1))), z7] ∧ S' = S ++ .dK (lk l') :: .lst (found.map fun B => .list (nD B)) :: (J ++ [.lst (nD p'), .lst (nD w')]) ∧ Vk X c l' p' w' ∧ visit l p w pre = (l', p', w')
theorem pieces_by_eq {n : Nat} {X : List Nat} {R : Nat → List Nat} (nd : X.Nodup) (hX : ∀ x ∈ X, x < n) (hl : X.length ≤ 30) (S : Sto) : F_pieces_by [.dat (.list (nD X)), .dat (.list ((rowsN n R).map .list))] S = some (.obj S.length, S ++ [.lst ((pieces R 40 X X []).map fun B => .list (nD B))]) := by
  apply ok_eq
  simp [F_pieces_by, b_pieces_by]
  refine ok_dc (xs := X) (fun i => .int (i : Nat)) (fun i => .inl ((i : Nat) : Int)) (fun _ => .bool true) (by simp [nD]) (fun p hp a => by simp) ?_
  have hd := lk_dict X [] nd
  rw [show lk [] = [] from rfl, List.nil_append] at hd
  rw [hd]
  simp
  refine ok_for (xs := X) (fun i => .int (i : Nat)) (PR n X R S) (S0 := S ++ [.dK (lk X), .lst []]) ?_ ⟨none, none, none, none, X, [], X, [], rfl, rfl, rfl, rfl, nd, fun _ h => h, Nat.le_refl _⟩ ?_ ?_
  · simp [nD]
  · rintro pre t suf ρ S' hcut ⟨z4, z5, z6, z7, l, found, ts, J, rfl, rfl, hts, hp, lnd, lsub, hf⟩
    have ets : ts = t :: suf := List.append_cancel_left (hts.trans hcut.symm)
    subst ets
    have hfl : found.length < 16777216 := by
      have := congrArg List.length hcut
      simp at this
      omega
    have htn : t < n := hX t (by rw [← hcut]; simp)
    by_cases ht : t ∈ l
    · simp [lk_find, ht, lk_drop]
      have hwl := without_len lnd ht
      have hls : l.length ≤ X.length := sub_len lnd lsub
      refine ok_while (m := (Tm.without l t).length + 1) (WR n X R S J found t (grow R 40 (Tm.without l t) [t] [t])) (by omega) ⟨z7, Tm.without l t, [t], [t], 40, rfl, by simp [nD], ⟨without_nd lnd, fun x hx => lsub x (mem_without.mp hx).1, by simp; omega, by simp; omega, fun x hx => by rw [List.mem_singleton.mp hx]; exact lsub t ht⟩, by omega, by omega, rfl⟩ ?_
      rintro m ρ S' ⟨z7, l1, p1, w1, f, rfl, rfl, vk, hm, hf40, hg⟩
      rcases List.eq_nil_or_concat w1 with rfl | ⟨w2, x, rfl⟩
      · obtain ⟨f, rfl⟩ : ∃ g, f = g + 1 := ⟨f - 1, by omega⟩
        have hg : (l1, p1) = grow R 40 (Tm.without l t) [t] [t] := hg
        simp [nD_ok, nD_eqv0]
        rw [Me.ev_Sorted (by simp) (ok_nat _) (sortD_nat p1)]
        simp [hfl]
        refine ⟨_, _, _, _, l1, found ++ [isort p1], suf, J ++ [MO.lst (nD p1), MO.lst (nD [])], rfl, by simp, by rw [List.append_assoc]; exact hcut, ?_, vk.nd, vk.sub, by simp; omega⟩
        rw [← hp]
        conv => rhs; unfold pieces
        rw [if_pos ht, ← hg]
      · rw [List.concat_eq_append] at vk hg
        obtain ⟨f, rfl⟩ : ∃ g, f = g + 1 := ⟨f - 1, by omega⟩
        have hx : x < n := hX x (vk.wx x (by simp))
        simp [nD_ok, nD_eqv0]
        refine ok_for (xs := R x) (fun i => .int (i : Nat)) (VR n X R S J found t (m - 1) l1 p1 w2) (S0 := S ++ .dK (lk l1) :: .lst (found.map fun B => .list (nD B)) :: (J ++ [.lst (nD p1), .lst (nD w2)])) ?_ ⟨z7, l1, p1, w2, rfl, rfl, ⟨vk.nd, vk.sub, vk.pn, by have := vk.wl; rw [List.length_append, List.length_singleton] at this; omega, fun y hy => vk.wx y (by simp [hy])⟩, rfl⟩ ?_ ?_
        · simp [nD_concat, rowsN_get hx]
          simp [nD]
        · rintro pre o suf ρ S' hcut ⟨z7, l', p', w', rfl, rfl, vk', hv⟩
          simp [lk_find]
          by_cases ho : o ∈ l'
          · have h1 := vk'.pn
            have h2 := vk'.wl
            have h3 : 1 ≤ l'.length := List.length_pos_of_mem ho
            have h4 : p'.length < 16777216 := by omega
            have h5 : w'.length < 16777216 := by omega
            simp [ho, lk_find, lk_drop, nD_l, h4, h5]
            have hwl' := without_len vk'.nd ho
            refine ⟨_, Tm.without l' o, p' ++ [o], w' ++ [o], rfl, by simp [nD_concat], ⟨without_nd vk'.nd, fun x hx => vk'.sub x (mem_without.mp hx).1, by simp; omega, by simp; omega, fun x hx => ?_⟩, ?_⟩
            · rcases List.mem_append.mp hx with hx | hx
              · exact vk'.wx x hx
              · rw [List.mem_singleton.mp hx]; exact vk'.sub o ho
            · rw [visit_app, hv, visit_cons, if_pos ho]
              rfl
          · simp [ho]
            refine ⟨_, l', p', w', rfl, rfl, vk', ?_⟩
            rw [visit_app, hv, visit_cons, if_neg ho]
            rfl
        · rintro ρ' S' ⟨z7, l', p', w', rfl, rfl, vk', hv⟩
          simp
          have hw := vk.wl
          rw [List.length_append, List.length_singleton] at hw
          refine ⟨m - 1, by omega, _, l', p', w', f, rfl, rfl, vk', by omega, by omega, ?_⟩
          rw [← hg]
          conv => rhs; unfold grow
          rw [List.getLast?_concat, List.dropLast_concat]
          simp only [hv]
    · simp [lk_find, ht]
      refine ⟨_, _, _, _, l, found, suf, J, rfl, rfl, by rw [List.append_assoc]; exact hcut, ?_, lnd, lsub, by simp; omega⟩
      rw [← hp]
      conv => rhs; unfold pieces
      rw [if_neg ht]
  · rintro ρ' S' ⟨z4, z5, z6, z7, l, found, ts, J, rfl, rfl, hts, hp, lnd, lsub, hf⟩
    have : ts = [] := by simpa using hts
    subst this
    simp
    rw [← hp]
    rfl
end Lw
set_option Elab.async false
set_option linter.all false
set_option maxRecDepth 100000
set_option maxHeartbeats 2000000
namespace Lw
open PySem PySem.Spec PyProof.Rows L2 Me Tm
/-! ### term_among -/
theorem dLt_asy {a b : D} (h : PySem.W.dataLt a b = true) : PySem.W.dataLt b a = false := by
  cases e : PySem.W.dataLt b a with
  | false => rfl
  | true =>
    have := PyProof.Rows.lex_trans (O := PyProof.Rows.itemOrd) _ _ _ h e
    rw [PyProof.Rows.lex_irrefl] at this
    cases this
theorem sortD_strict {l m : List D} (p : l.Perm m) (h : m.Pairwise fun a b => PySem.W.dataLt a b = true) : sortD l = m := by
  have tot : PySem.W.TotalLe (PySem.W.dataLe false (id : D → D)) := PySem.W.sortLe_total (PyProof.Rows.listOrd PyProof.Rows.itemOrd) false fun b : D => PySem.W.keyToks b
  have h1 := List.pairwise_mergeSort (le := PySem.W.dataLe false (id : D → D)) (fun a b c => tot.trans a b c) (fun a b => by rw [Bool.or_eq_true]; exact tot.total a b) l
  have q := (List.mergeSort_perm l (PySem.W.dataLe false (id : D → D))).trans p
  refine List.Perm.eq_of_pairwise (le := fun a b => PySem.W.dataLe false (id : D → D) a b = true) (fun a b ha hb h1 h2 => ?_) h1 (h.imp fun {a b} h => ?_) q
  · have ha := q.mem_iff.mp ha
    have hs : (!PySem.W.dataLt b a) = true := h1
    have hs' : (!PySem.W.dataLt a b) = true := h2
    simp at hs hs'
    apply Classical.byContradiction
    intro ne
    have := (List.pairwise_iff_getElem (R := fun a b : D => PySem.W.dataLt a b = true)).mp h
    obtain ⟨i, hi, rfl⟩ := List.mem_iff_getElem.mp ha
    obtain ⟨j, hj, rfl⟩ := List.mem_iff_getElem.mp hb
    rcases Nat.lt_trichotomy i j with c | c | c
    · have := this i j hi hj c
      rw [hs'] at this
      cases this
    · subst c; exact ne rfl
    · have := this j i hj hi c
      rw [hs] at this
      cases this
  · show (!PySem.W.dataLt b a) = true
    rw [dLt_asy h]
    rfl
theorem alike_nD : ∀ l m : List Nat, PySem.W.alikeAll (nD l) (nD m) = true
  | [], _ => by simp [nD, PySem.W.alikeAll]
  | _ :: _, [] => by simp [nD, PySem.W.alikeAll]
  | a :: l, b :: m => by
    have := alike_nD l m
    simp only [nD] at this
    simp [nD, PySem.W.alikeAll, PySem.W.alike, this]
/-- (count, piece) -/
def cP (p : Nat × List Nat) : D := .tuple [.int (p.1 : Nat), .list (nD p.2)]
theorem dep_nD (l : List Nat) : PyData.depthAll (nD l) = 0 := by
  induction l with
  | nil => rfl
  | cons a l ih => simp [nD, PyData.depthAll, PyData.depth] at *; exact ih
theorem ok_cP (l : List (Nat × List Nat)) : SortOk (l.map cP) := by
  refine ⟨PySem.W.AllAlike.of fun b b' => ?_, PySem.W.Sortable.tuples fun b => ⟨_, _, rfl⟩, fun d hd => ?_⟩
  · simp [cP, PySem.W.alike, PySem.W.alikeAll, alike_nD]
  · obtain ⟨i, _, rfl⟩ := List.mem_map.mp hd
    simp [cP, PyData.depth, PyData.depthAll, dep_nD]
theorem cP_lt {p q : Nat × List Nat} (h : p.1 < q.1) : PySem.W.dataLt (cP p) (cP q) = true := by
  unfold cP
  rw [PySem.W.dataLt_pair (by simp [PySem.W.alike]) (by simp [PySem.W.alike, alike_nD])]
  have : PyData.eqv (.int (p.1 : Nat)) (.int (q.1 : Nat)) = false := by
    rw [eqv_ii]
    simp
    omega
  rw [this]
  simp [PySem.W.dataLt_int]
  exact h
theorem sort_cP {l m : List (Nat × List Nat)} (p : l.Perm m) (h : m.Pairwise fun a b => a.1 < b.1) : sortD (l.map cP) = m.map cP :=
  sortD_strict (p.map _) (List.pairwise_map.mpr (h.imp fun h => cP_lt h))
theorem flat_nD (l : List Nat) : (nD l).all flatD = true := by
  rw [List.all_eq_true]
  intro d hd
  obtain ⟨i, _, rfl⟩ := List.mem_map.mp hd
  rfl
theorem any_nD (l : List Nat) (a : Nat) : ((nD l).any fun e => PyData.eqv e (.int (a : Nat))) = decide (a ∈ l) := by
  rw [Bool.eq_iff_iff, List.any_eq_true, decide_eq_true_iff]
  constructor
  · rintro ⟨d, hd, e⟩
    obtain ⟨i, hi, rfl⟩ := List.mem_map.mp hd
    rw [eqv_ii] at e
    have := of_decide_eq_true e
    have : i = a := by omega
    exact this ▸ hi
  · intro h
    exact ⟨_, List.mem_map.mpr ⟨a, h, rfl⟩, by rw [eqv_ii]; simp⟩
theorem inK_nat {neg : Bool} {a : Nat} {l : List Nat} {S : Sto} : inK neg (.dat (.int (a : Nat))) (.dat (.list (nD l))) S none = some (.dat (.bool (if neg then !decide (a ∈ l) else decide (a ∈ l))), S) := by
  have e : oIn neg (.dat (.int (a : Nat))) (.dat (.list (nD l))) S = some (.dat (.bool (if neg then !decide (a ∈ l) else decide (a ∈ l))), S) := by
    unfold oIn
    simp only [asDat, seqOf, bd_some, flat_nD, flatD, Bool.and_self, ↓reduceIte, any_nD]
  unfold inK
  rw [e]
theorem none_encs {ms : List T} {S : Sto} (h : ∀ m ∈ ms, dp m ≤ 60) : inK false (.dat .none) (.dat (.list (ms.map enc))) S none = some (.dat (.bool false), S) := by
  have a : ((ms.map enc).any fun z => PyData.eqv z .none) = false := by
    rw [List.any_eq_false]
    intro d hd
    obtain ⟨t, _, rfl⟩ := List.mem_map.mp hd
    cases t <;> simp [enc, PyData.eqv]
  have e : oInD false (.dat .none) (.dat (.list (ms.map enc))) S = some (.dat (.bool false), S) := by
    unfold oInD
    simp only [rdP, bd_some, okL h, okD_n, Bool.and_self, ↓reduceIte, a]
    rfl
  unfold inK
  cases f : oIn false (.dat .none) (.dat (.list (ms.map enc))) S with
  | none => simp only [e]
  | some r =>
    unfold oIn at f
    simp only [asDat, seqOf, bd_some, flatD, Bool.true_and, a] at f
    split at f
    · cases f; rfl
    · cases f
theorem asc_eq {l m : List Nat} (hl : l.Pairwise (· < ·)) (hm : m.Pairwise (· < ·)) (h : ∀ x, x ∈ l ↔ x ∈ m) : l = m :=
  List.Perm.eq_of_pairwise (le := (· < ·)) (fun a b _ _ h1 h2 => absurd h1 (Nat.lt_asymm h2)) hl hm ((List.perm_ext_iff_of_nodup (lt_nodup hl) (lt_nodup hm)).mpr h)
theorem in_row {n : Nat} {r : Nat → Nat → Bool} {i : Nat} (hi : i < n) : inR (canon n r) i = (List.range n).filter fun j => r j i := by
  refine asc_eq ?_ (List.pairwise_lt_range.filter _) fun x => ?_
  · unfold inR
    refine List.pairwise_map.mpr ?_
    have h1 := (canon_asc n r).filter (fun p => p.2 == i)
    refine List.Pairwise.imp_of_mem (fun {a b} ha hb h => ?_) h1
    have e1 := (List.mem_filter.mp ha).2
    have e2 := (List.mem_filter.mp hb).2
    simp at e1 e2
    rcases h with h | h
    · exact h
    · omega
  · unfold inR
    rw [List.mem_map, List.mem_filter, List.mem_range]
    constructor
    · rintro ⟨p, hp, rfl⟩
      obtain ⟨h1, h2⟩ := List.mem_filter.mp hp
      have h2 : p.2 = i := by simpa using h2
      have h3 := mem_canon.mp (show (p.1, p.2) ∈ canon n r from h1)
      rw [h2] at h3
      exact ⟨h3.1, h3.2.2⟩
    · rintro ⟨h1, h2⟩
      exact ⟨(x, i), List.mem_filter.mpr ⟨mem_canon.mpr ⟨h1, hi, h2⟩, by simp⟩, rfl⟩
/-- how many of the node's things are ahead of a member -/
def cnt (n : Nat) (r : Nat → Nat → Bool) (L : List Nat) (B : List Nat) : Nat := (((List.range n).filter fun i => r i (hd B)).filter fun i => decide (i ∈ L) && !decide (i ∈ B)).length
theorem key_ne {m : T} (h : Wf m) : key m ≠ [] := fun z => by
  have := (isort_perm (lvs m)).length_eq
  have h2 : (isort (lvs m)).length = 0 := by rw [show isort (lvs m) = key m from rfl, z]; rfl
  have h3 : 1 ≤ (lvs m).length := List.length_pos_iff.mpr (lv_ne _ h)
  omega
theorem cnt_eq {n : Nat} {r : Nat → Nat → Bool} {p q : List T} {m : T} (h : In n r (.node true (p ++ m :: q))) : cnt n r (key (.node true (p ++ m :: q))) (key m) = (lvL p).length := by
  have im := h.mem
  have ne : key m ≠ [] := key_ne im.wf
  have hm : hd (key m) ∈ lvs m := mem_key.mp (hd_mem ne)
  rw [← ahead_len h hm]
  unfold cnt
  congr 1
  apply List.filter_congr
  intro i _
  rw [Bool.eq_iff_iff]
  simp only [Bool.and_eq_true, Bool.not_eq_true', decide_eq_true_iff, decide_eq_false_iff_not, mem_key, List.contains_iff_mem, lvs]
  simp
theorem cnt_asc {n : Nat} {r : Nat → Nat → Bool} {ms : List T} (h : In n r (.node true ms)) : ms.Pairwise fun a b => cnt n r (key (.node true ms)) (key a) < cnt n r (key (.node true ms)) (key b) := by
  rw [List.pairwise_iff_getElem]
  intro i j hi hj hij
  have c : ∀ k (hk : k < ms.length), cnt n r (key (.node true ms)) (key ms[k]) = (lvL (ms.take k)).length := fun k hk => by
    have e : ms = ms.take k ++ ms[k] :: ms.drop (k + 1) := by
      rw [List.getElem_cons_drop, List.take_append_drop]
    have h' := h
    rw [e] at h'
    have := cnt_eq h'
    rw [← e] at this
    exact this
  rw [c i hi, c j hj]
  have e : ms.take j = ms.take i ++ ms[i] :: (ms.take j).drop (i + 1) := by
    have e1 : (ms.take j).take i = ms.take i := by rw [List.take_take, Nat.min_eq_left (by omega)]
    have e2 : i < (ms.take j).length := by rw [List.length_take]; omega
    have e3 : (ms.take j)[i] = ms[i] := List.getElem_take ..
    rw [← e1, ← e3, List.getElem_cons_drop, List.take_append_drop]
  rw [e, lvL_app, List.length_append]
  have hw := (WfL_iff.mp h.wf.2 ms[i] (List.getElem_mem hi)).2
  have : 1 ≤ (lvs ms[i]).length := List.length_pos_iff.mpr (lv_ne _ hw)
  simp only [lvL, List.length_append]
  omega
theorem plain_by (ms : List T) (hw : ∀ m ∈ ms, Wf m) : (plainL ms).mergeSort (fun a b => decide (mn a ≤ mn b)) = (byMn ms).map plain := by
  rw [plainL_map]
  unfold byMn
  rw [List.map_mergeSort (r := fun a b : T => decide (mn a ≤ mn b)) (s := fun a b : T => decide (mn a ≤ mn b)) (f := plain)]
  intro a ha b hb
  rw [mn_plain (hw a ha), mn_plain (hw b hb)]
end Lw
set_option Elab.async false
set_option linter.all false
set_option maxRecDepth 100000
set_option maxHeartbeats 2000000
namespace Lw
open PySem PySem.Spec PyProof.Rows L2 Me Tm
/-- rows of numbers, as a list -/
def rowsD (n : Nat) (R : Nat → List Nat) : D := .list ((rowsN n R).map .list)
def befR (n : Nat) (r : Nat → Nat → Bool) (i : Nat) : List Nat := (List.range n).filter fun j => r j i
/-- the counts of the pieces, one by one -/
def CR (n : Nat) (r : Nat → Nat → Bool) (X : List Nat) (bl : List (List Nat)) (x0 x1 x2 x3 x4 : P) (S : Sto) (pre : List (List Nat)) (ρ : Ev) (S' : Sto) : Prop := ∃ z8 z9 z10 z11 z12 z13, ρ = [some x0, some x1, some x2, some x3, some x4, some (.dat (.str "behind")), some (.obj S.length), some (.obj (S.length + 1)), z8, z9, z10, z11, z12, z13] ∧ S' = S ++ [.dK (lk X), .lst ((pre.map fun B => (cnt n r X B, B)).map cP)]
theorem len_byl {ms : List T} (h : 2 ≤ ms.length) : ¬ ((ms.length : Nat) : Int) = 1 := by omega
theorem among_eq {n : Nat} {r : Nat → Nat → Bool} (o : Ord n r) : ∀ (k : Nat) (s : T), In n r s → dp s ≤ k → dp s ≤ 40 → ∀ S, F_term_among k [.dat (.list (nD (key s))), .dat (rowsD n (nt n r)), .dat (rowsD n (nf n r)), .dat (rowsD n (befR n r))] S = some (.dat (enc (plain s)), S)
  | 0, s, _, h, _, _ => by cases s <;> simp [dp] at h
  | k + 1, .leaf i, _, _, _, S => by
    rw [show F_term_among (k + 1) = fnRun 4 14 (b_term_among (F_term_among k)) from rfl]
    apply ok_eq
    simp [b_term_among, key_leaf, nD, Tm.plain, enc]
  | k + 1, .node w ms, h, hd, h40, S => by
    have hn := o.hi
    rw [show F_term_among (k + 1) = fnRun 4 14 (b_term_among (F_term_among k)) from rfl]
    have hX : ∀ x ∈ key (.node w ms), x < n := fun x hx => h.lt x (mem_key.mp hx)
    have asc := key_asc h.nd
    have hl : (key (.node w ms)).length ≤ 30 := by
      have := sub_len (lt_nodup asc) (ys := List.range n) fun x hx => List.mem_range.mpr (hX x hx)
      rw [List.length_range] at this
      omega
    have hl2 : 2 ≤ (key (.node w ms)).length := by
      have h1 := (isort_perm (lvL ms)).length_eq
      have h2 := len_szL h.wf.2
      have h3 := h.wf.1
      show 2 ≤ (isort (lvL ms)).length
      rw [h1]
      exact Nat.le_trans h3 h2
    have hm2 : 2 ≤ ms.length := h.wf.1
    have hby : (byMn ms).length = ms.length := (byMn_perm ms).length_eq
    have hw := WfL_iff.mp h.wf.2
    have hmem : ∀ m ∈ ms, In n r m := fun m hm => by
      obtain ⟨p, q, e⟩ := mem_split hm
      subst e
      exact h.mem
    have hdm := dp_ms hd
    have hd4 : ∀ m ∈ ms, dp m ≤ 40 := fun m hm => by
      have := dp_mem hm
      have h4 : dpL ms + 1 ≤ 40 := h40
      omega
    have hR : ∀ m ∈ ms, ∀ S, F_term_among k [.dat (.list (nD (key m))), .dat (rowsD n (nt n r)), .dat (rowsD n (nf n r)), .dat (rowsD n (befR n r))] S = some (.dat (enc (plain m)), S) := fun m hm S => among_eq o k m (hmem m hm) (hdm m hm) (hd4 m hm) S
    have p1 := fun S => pieces_by_eq (R := nt n r) (lt_nodup asc) hX hl S
    have p2 := fun S => pieces_by_eq (R := nf n r) (lt_nodup asc) hX hl S
    have l1 : ¬ (((key (.node w ms)).length : Int) = 1) := by omega
    have hlen := len_byl hm2
    have hml : ms.length + 1 ≤ 16777216 := by
      have h1 := (isort_perm (lvL ms)).length_eq
      have h2 := len_szL h.wf.2
      have h3 : (isort (lvL ms)).length ≤ 30 := hl
      have h4 : szL ms = (lvL ms).length := rfl
      omega
    cases w with
    | false =>
      have e1 : pieces (nt n r) 40 (key (.node false ms)) (key (.node false ms)) [] = (byMn ms).map key := pieces_eq asc (beside_blk h) (by omega)
      rw [e1] at p1
      apply ok_eq
      simp [b_term_among, nD_l, l1, rowsD, p1, hby, hlen]
      rw [← rowsD, ← rowsD, ← rowsD]
      refine ok_lc (xs := byMn ms) (fun m => .list (nD (key m))) (fun m => enc (Tm.plain m)) ?_ ?_ ?_
      · simp
      · intro m hm a
        simp [hR m ((byMn_perm ms).mem_iff.mp hm)]
      · have hne := none_encs (ms := (byMn ms).map Tm.plain) (S := S) fun m hm => by
          obtain ⟨x, hx, rfl⟩ := List.mem_map.mp hm
          rw [dp_plain]
          have := hd4 x ((byMn_perm ms).mem_iff.mp hx)
          omega
        rw [List.map_map] at hne
        have hne : inK false (P.dat PyData.none) (P.dat (PyData.list (List.map (fun m => enc (Tm.plain m)) (byMn ms)))) S none = some (.dat (.bool false), S) := hne
        have hfin : enc (Tm.plain (.node false ms)) = .tuple (.str "beside" :: (byMn ms).map fun m => enc (Tm.plain m)) := by
          show enc (.node false ((plainL ms).mergeSort fun a b => decide (mn a ≤ mn b))) = _
          rw [plain_by ms fun m hm => (hw m hm).2, enc_node, List.map_map]
          rfl
        simp [hne, hby, hml, hfin]
    | true =>
      have e1 : pieces (nt n r) 40 (key (.node true ms)) (key (.node true ms)) [] = [key (.node true ms)] := pieces_eq asc (one_blk asc (key_ne h.wf) (conn_tied h)) (by omega)
      have e2 : pieces (nf n r) 40 (key (.node true ms)) (key (.node true ms)) [] = (byMn ms).map key := pieces_eq asc (behind_blk h) (by omega)
      rw [e1] at p1
      rw [e2] at p2
      apply ok_eq
      simp [b_term_among, nD_l, l1, rowsD, p1, p2, hby, hlen]
      rw [← rowsD, ← rowsD, ← rowsD]
      refine ok_dc (xs := key (.node true ms)) (fun i => .int (i : Nat)) (fun i => .inl ((i : Nat) : Int)) (fun _ => .bool true) (by simp [nD]) (fun p hp a => by simp) ?_
      have hdc := lk_dict (key (.node true ms)) [] (lt_nodup asc)
      rw [show lk [] = [] from rfl, List.nil_append] at hdc
      rw [hdc]
      simp
      refine ok_for (xs := (byMn ms).map key) (fun B => .list (nD B)) (CR n r (key (.node true ms)) ((byMn ms).map key) _ _ _ _ _ S) (S0 := S ++ [.dK (lk (key (.node true ms))), .lst []]) ?_ ⟨none, none, none, none, none, none, rfl, rfl⟩ ?_ ?_
      · simp
      · rintro pre B suf ρ S' hcut ⟨z8, z9, z10, z11, z12, z13, rfl, rfl⟩
        obtain ⟨m, hm, rfl⟩ : ∃ m ∈ byMn ms, key m = B := List.mem_map.mp (by rw [← hcut]; simp)
        have hm := (byMn_perm ms).mem_iff.mp hm
        have hk := key_ne (hw m hm).2
        have hh : Tm.hd (key m) < n := (hmem m hm).lt _ (mem_key.mp (hd_mem hk))
        have h0 : (nD (key m))[0]? = some (.int (Tm.hd (key m) : Nat)) := by
          cases hkm : key m with
          | nil => exact absurd hkm hk
          | cons a b => rfl
        have hpl : pre.length < 16777216 := by
          have := congrArg List.length hcut
          simp [hby] at this
          omega
        simp
        refine ok_lcif (xs := befR n r (Tm.hd (key m))) (fun i => .int (i : Nat)) (fun i => decide (i ∈ key (.node true ms)) && !decide (i ∈ key m)) (fun i => .int (i : Nat)) ?_ ?_ ?_ ?_
        · simp [h0, rowsD, rowsN_get hh]
          rfl
        · intro i hi a
          simp [lk_find, inK_nat]
          by_cases c : i ∈ key (.node true ms) <;> simp [c, inK_nat]
        · intro i hi c a
          simp
        · have hc : ((befR n r (Tm.hd (key m))).filter fun i => decide (i ∈ key (.node true ms)) && !decide (i ∈ key m)).length = cnt n r (key (.node true ms)) (key m) := rfl
          simp [hc, hpl]
          exact ⟨_, _, _, _, _, _, rfl, by simp [cP]⟩
      · rintro ρ' S' ⟨z8, z9, z10, z11, z12, z13, rfl, rfl⟩
        simp
        refine ok_lc (xs := ms) (fun m => cP (cnt n r (key (.node true ms)) (key m), key m)) (fun m => .list (nD (key m))) ?_ ?_ ?_
        · have hs : sortD (((byMn ms).map fun m => (cnt n r (key (.node true ms)) (key m), key m)).map cP) = (ms.map fun m => (cnt n r (key (.node true ms)) (key m), key m)).map cP :=
            sort_cP ((byMn_perm ms).map _) (List.pairwise_map.mpr (cnt_asc h))
          rw [List.map_map, List.map_map] at hs
          simp
          rw [Me.ev_Sorted (by simp) (by have := ok_cP ((byMn ms).map fun m => (cnt n r (key (.node true ms)) (key m), key m)); rw [List.map_map] at this; exact this) hs]
          simp
        · intro m hm a
          simp [cP]
        · simp
          refine ok_lc (xs := ms) (fun m => .list (nD (key m))) (fun m => enc (Tm.plain m)) ?_ ?_ ?_
          · simp
          · intro m hm a
            simp [hR m hm]
          · have hne : ∀ S', inK false (P.dat PyData.none) (P.dat (PyData.list (List.map (fun m => enc (Tm.plain m)) ms))) S' none = some (.dat (.bool false), S') := fun S' => by
              have hne := none_encs (ms := ms.map Tm.plain) (S := S') fun m hm => by
                obtain ⟨x, hx, rfl⟩ := List.mem_map.mp hm
                rw [dp_plain]
                have := hd4 x hx
                omega
              rw [List.map_map] at hne
              exact hne
            have hfin : enc (Tm.plain (.node true ms)) = .tuple (.str "behind" :: ms.map fun m => enc (Tm.plain m)) := by
              show enc (.node true (plainL ms)) = _
              rw [plainL_map, enc_node, List.map_map]
              rfl
            simp [hne, hml, hfin]
end Lw
set_option Elab.async false
set_option linter.all false
set_option maxRecDepth 100000
set_option maxHeartbeats 2000000
namespace Tm
mutual
theorem rel_irr {i : Nat} : ∀ {t : T}, (lvs t).Nodup → rel t i i = false
  | .leaf _, _ => rfl
  | .node w ms, h => relL_irr (ms := ms) h
theorem relL_irr {w : Bool} {i : Nat} : ∀ {ms : List T}, (lvL ms).Nodup → relL w ms i i = false
  | [], _ => rfl
  | m :: ms, h => by
    have h' := List.nodup_append.mp h
    show (rel m i i || relL w ms i i || (w && (lvs m).contains i && (lvL ms).contains i)) = false
    rw [rel_irr h'.1, relL_irr h'.2.1]
    by_cases c : i ∈ lvs m
    · have d : i ∉ lvL ms := fun z => h'.2.2 _ c _ z rfl
      simp [c, d]
    · simp [c]
end
mutual
theorem rel_tr {i j k : Nat} : ∀ {t : T}, (lvs t).Nodup → rel t i j = true → rel t j k = true → rel t i k = true
  | .leaf _, _, h, _ => by simp [rel] at h
  | .node w ms, h, h1, h2 => relL_tr (ms := ms) h h1 h2
theorem relL_tr {w : Bool} {i j k : Nat} : ∀ {ms : List T}, (lvL ms).Nodup → relL w ms i j = true → relL w ms j k = true → relL w ms i k = true
  | [], _, h, _ => by simp [relL] at h
  | m :: ms, h, h1, h2 => by
    have h' := List.nodup_append.mp h
    have dis : ∀ {x}, x ∈ lvs m → x ∈ lvL ms → False := fun a b => h'.2.2 _ a _ b rfl
    have h1 : (rel m i j || relL w ms i j || (w && (lvs m).contains i && (lvL ms).contains j)) = true := h1
    have h2 : (rel m j k || relL w ms j k || (w && (lvs m).contains j && (lvL ms).contains k)) = true := h2
    show (rel m i k || relL w ms i k || (w && (lvs m).contains i && (lvL ms).contains k)) = true
    simp only [Bool.or_eq_true, Bool.and_eq_true, List.contains_iff_mem] at h1 h2 ⊢
    rcases h1 with (a | a) | ⟨⟨a, b⟩, c⟩ <;> rcases h2 with (a' | a') | ⟨⟨a', b'⟩, c'⟩
    · exact .inl (.inl (rel_tr h'.1 a a'))
    · exact (dis (rel_mem a).2 (relL_mem a').1).elim
    · exact .inr ⟨⟨a', (rel_mem a).1⟩, c'⟩
    · exact (dis (rel_mem a').1 (relL_mem a).2).elim
    · exact .inl (.inr (relL_tr h'.2.1 a a'))
    · exact (dis b' (relL_mem a).2).elim
    · exact (dis (rel_mem a').1 c).elim
    · exact .inr ⟨⟨a, b⟩, (relL_mem a').2⟩
    · exact (dis b' c).elim
end
end Tm
namespace Lw
open PySem PySem.Spec PyProof.Rows L2 Me Tm
theorem Ord.of {n : Nat} {t : T} (g : Good n t) (h1 : 1 ≤ n) (hn : n ≤ 30) : Ord n (rel t) := ⟨h1, hn, fun i => rel_irr g.nd, fun i j k => rel_tr g.nd⟩
theorem tie_nt {n : Nat} {r : Nat → Nat → Bool} (o : Ord n r) : prow n (tieR r) = nt n r := by
  funext i
  unfold prow nt
  apply List.filter_congr
  intro j _
  unfold tieR
  rcases Nat.lt_trichotomy i j with c | c | c
  · have d : ¬ j < i := by omega
    simp [c, d]
  · subst c; simp [o.irr]
  · have d : ¬ i < j := by omega
    simp [c, d, Bool.or_comm]
theorem free_nf {n : Nat} {r : Nat → Nat → Bool} (o : Ord n r) : prow n (freR r) = nf n r := by
  funext i
  unfold prow nf
  apply List.filter_congr
  intro j _
  unfold freR
  rcases Nat.lt_trichotomy i j with c | c | c
  · have d : ¬ j < i := by omega
    have e : ¬ j = i := by omega
    simp [c, d, e]
  · subst c; simp
  · have d : ¬ i < j := by omega
    have e : ¬ j = i := by omega
    simp [c, d, e, Bool.and_comm]
theorem key_good {n : Nat} {t : T} (g : Good n t) : key t = List.range n := asc_range g.pm
theorem rows_in {n : Nat} {r : Nat → Nat → Bool} : rowsN n (inR (canon n r)) = rowsN n (befR n r) := by
  unfold rowsN
  apply List.map_congr_left
  intro i hi
  rw [in_row (List.mem_range.mp hi)]
  rfl
@[simp] theorem ix_encR0 {n : Nat} {ps : List Pr} {S : Sto} : oIx (.dat (encR n ps)) (.dat (.int 0)) S = some (.dat (.int (n : Nat)), S) := rfl
@[simp] theorem ix_encR1 {n : Nat} {ps : List Pr} {S : Sto} : oIx (.dat (encR n ps)) (.dat (.int 1)) S = some (.dat (.tuple (ps.map encP)), S) := rfl
theorem term_in_eq {n : Nat} {t : T} (g : Good n t) (h1 : 1 ≤ n) (hn : n ≤ 30) (S : Sto) : F_term_in [.dat (encR n (canon n (rel t)))] S = some (.dat (enc (Tm.plain t)), S) := by
  have o := Ord.of g h1 hn
  obtain ⟨_, _, k3⟩ := good_ok g hn
  have ht := fun S => partners_eq (q := tieR (rel t)) hn (fun i j h => by unfold tieR at h; simp at h; exact h.1) S
  have hf := fun S => partners_eq (q := freR (rel t)) hn (fun i j h => by unfold freR at h; simp at h; exact h.1) S
  have hb := fun S => befores_eq (n := n) (ps := canon n (rel t)) hn (fun p hp => by
    have h := mem_canon.mp (show (p.1, p.2) ∈ canon n (rel t) from hp)
    exact ⟨h.1, h.2.1⟩) (Nat.le_trans (canon_len n _ hn) (by decide)) S
  have ha := fun S => among_eq o 40 t (g.In fun _ _ _ _ => rfl) k3 k3 S
  rw [key_good g] at ha
  rw [tie_nt o] at ht
  rw [free_nf o] at hf
  rw [rows_in] at hb
  unfold rowsD at ha
  rw [show nD (List.range n) = (List.range n).map (fun i => PyData.int ((i : Nat) : Int)) from rfl] at ha
  have hn' : n ≤ 16777216 := by omega
  apply ok_eq
  simp [F_term_in, b_term_in, tied_eq o, free_eq o, ht, hf, hb, hn', ha]
theorem enc_notN (t : T) : isNone (.dat (enc t)) = false := by cases t <;> rfl
theorem term_of_eq {n : Nat} {t : T} (g : Good n t) (h1 : 1 ≤ n) (hn : n ≤ 30) (S : Sto) : F_term_of [.dat (encR n (canon n (rel t)))] S = some (.dat (enc (Tm.plain t)), S) := by
  have o := Ord.of g h1 hn
  apply ok_eq
  simp [F_term_of, b_term_of, req_order_eq o, term_in_eq g h1 hn, enc_notN]
end Lw
set_option Elab.async false
set_option linter.all false
set_option maxRecDepth 100000
set_option maxHeartbeats 2000000
namespace Lw
open PySem PySem.Spec PyProof.Rows L2 Me Tm
theorem eqv_tc0 {X : List Nat} (ne : X ≠ []) : PyData.eqv (.tuple (nD X)) (.tuple []) = false := by
  cases X with
  | nil => exact absurd rfl ne
  | cons x Y => exact eqv_cons0 _ _
theorem strike_some {n : Nat} {t s : T} (g : Good n t) (e : strike f t = some s) : True := trivial
theorem taken_term_eq {n : Nat} {t s : T} {X : List Nat} (g : Good n t) (h1 : 1 ≤ n) (hn : n ≤ 30) (asc : X.Pairwise (· < ·)) (hX : ∀ x ∈ X, x < n) (ne : X ≠ []) (hs : strike (idx X) t = some s) (gs : Good X.length s) (S : Sto) : F_taken_term [.dat (.int (n : Nat)), .dat (enc t), .dat (.tuple (nD X))] S = some (.dat (enc (Tm.plain s)), S) := by
  obtain ⟨_, k2, k3⟩ := good_ok g hn
  have hl : X.length ≤ 30 := by
    have := sub_len (lt_nodup asc) (ys := List.range n) fun x hx => List.mem_range.mpr (hX x hx)
    rw [List.length_range] at this
    omega
  obtain ⟨_, j2, j3⟩ := good_ok gs hl
  have ha := are_things_eq (n := n) (ps := []) asc hX S
  have ha : F_are_things [.dat (.tuple [.int (n : Nat), .tuple []]), .dat (.tuple (nD X))] S = some (.dat (.bool true), S) := ha
  have hp := plain_eq 40 s gs.wf j2 j3 j3 (S ++ [.dK (dX X)])
  have hst := struck_eq (idx X) S.length 40 t g.wf k2 k3 (S ++ [.dK (dX X)]) ⟨dX X, by simp, fun i _ => dX_find (lt_nodup asc) i⟩
  rw [hs] at hst
  have hst : F_struck 40 [.dat (enc t), .obj S.length] (S ++ [.dK (dX X)]) = some (.dat (enc s), S ++ [.dK (dX X)]) := hst
  apply ok_eq
  simp [F_taken_term, b_taken_term, req_term_eq g h1 hn, ha, nDt_ok, okD_t0, eqv_tc0 ne]
  refine ok_dc (xs := X.zipIdx) (fun p => .tuple [.int (p.2 : Nat), .int (p.1 : Nat)]) (fun p => .inl ((p.1 : Nat) : Int)) (fun p => .int (p.2 : Nat)) ?_ ?_ ?_
  · simp
    exact enD_zip (fun i => .int ((i : Nat) : Int)) X 0
  · intro p hp a
    simp
  · have e : X.zipIdx.foldl (fun a p => dput a (Sum.inl ((p.1 : Nat) : Int) : Key) (.int (p.2 : Nat))) [] = dX X := by
      unfold dX nD
      rw [enD_zip, List.foldl_map]
      rfl
    rw [e]
    simp [hst, hp]
end Lw
set_option Elab.async false
set_option linter.all false
set_option maxRecDepth 100000
set_option maxHeartbeats 2000000
namespace Lw
open PySem PySem.Spec PyProof.Rows L2 Me Tm
theorem enc_leaf (i : Nat) : enc (.leaf i) = .int (i : Nat) := rfl
theorem ints_mapN {β : Type} (f : β → Nat) (l : List β) : intsOf (l.map fun x => PyData.int ((f x : Nat) : Int)) = some (l.map fun x => ((f x : Nat) : Int)) := by
  have := ints_nat (l.map f)
  rw [List.map_map, List.map_map] at this
  exact this
theorem sum_mapN {β : Type} (f : β → Nat) (l : List β) : (l.map fun x => ((f x : Nat) : Int)).sum = (((l.map f).sum : Nat) : Int) := by
  have := isum_nat (l.map f)
  rw [List.map_map] at this
  exact this
theorem max_mapN {β : Type} (f : β → Nat) (a : β) (l : List β) : maxL ((a :: l).map fun x => ((f x : Nat) : Int)) = some (((l.map f).foldl max (f a) : Nat) : Int) := by
  show some ((l.map fun x => ((f x : Nat) : Int)).foldl max ((f a : Nat) : Int)) = _
  congr 1
  generalize f a = b
  induction l generalizing b with
  | nil => rfl
  | cons c l ih =>
    rw [List.map_cons, List.foldl_cons, List.map_cons, List.foldl_cons, ← ih]
    congr 1
    omega
theorem ex_sum (v : Bool) : ∀ ms : List T, exL v v ms = (ms.map (ex v)).sum
  | [] => rfl
  | m :: ms => by
    show (if v = v then ex v m + exL v v ms else _) = _
    rw [if_pos rfl, ex_sum v ms]
    simp
theorem foldl_max (l : List Nat) (a b : Nat) : l.foldl max (max a b) = max a (l.foldl max b) := by
  induction l generalizing b with
  | nil => rfl
  | cons c l ih =>
    rw [List.foldl_cons, List.foldl_cons, ← ih]
    congr 1
    omega
theorem ex_max {v w : Bool} (h : ¬ w = v) : ∀ (m : T) (ms : List T), exL v w (m :: ms) = (ms.map (ex v)).foldl max (ex v m)
  | m, [] => by
    show (if w = v then _ else max (ex v m) 0) = _
    rw [if_neg h]
    simp
  | m, k :: ms => by
    have ih := ex_max h k ms
    show (if w = v then _ else max (ex v m) (exL v w (k :: ms))) = _
    rw [if_neg h, ih, List.map_cons, List.foldl_cons, foldl_max]
theorem extent_eq (v : Bool) : ∀ (k : Nat) (t : T), Wf t → dp t ≤ k → ∀ S, F_extent k [.dat (enc t), .dat (wd v)] S = some (.dat (.int ((ex v t : Nat) : Int)), S)
  | 0, t, _, h, _ => by cases t <;> simp [dp] at h
  | k + 1, .leaf i, _, _, S => by
    rw [show F_extent (k + 1) = fnRun 2 4 (b_extent (F_extent k)) from rfl]
    apply ok_eq
    simp [b_extent, enc_leaf, ex]
  | k + 1, .node w ms, hw, hd, S => by
    rw [show F_extent (k + 1) = fnRun 2 4 (b_extent (F_extent k)) from rfl]
    have hR : ∀ m ∈ ms, ∀ S, F_extent k [.dat (enc m), .dat (wd v)] S = some (.dat (.int ((ex v m : Nat) : Int)), S) := fun m hm S => extent_eq v k m (WfL_iff.mp hw.2 m hm).2 (dp_ms hd m hm) S
    apply ok_eq
    simp [b_extent, enc_node]
    refine ok_lc (xs := ms) enc (fun m => .int ((ex v m : Nat) : Int)) (by simp) (fun m hm a => by simp [hR m hm]) ?_
    simp [wd_ok, wd_eqv]
    by_cases c : w = v
    · subst c
      simp [ints_mapN, sum_mapN, ← ex_sum]
      rfl
    · match ms, hw.1 with
      | m :: ms, _ =>
        have e := max_mapN (ex v) m ms
        have e2 := ints_mapN (ex v) (m :: ms)
        simp only [List.map_cons] at e e2
        simp [c, e2, e]
        rw [← ex_max c]
        rfl
end Lw
set_option Elab.async false
set_option linter.all false
set_option maxRecDepth 100000
set_option maxHeartbeats 2000000
namespace Tm
theorem fac_mono {a b : Nat} (h : a ≤ b) : fac a ≤ fac b := by
  induction b with
  | zero => have : a = 0 := by omega
            subst this; exact Nat.le_refl _
  | succ b ih =>
    by_cases e : a = b + 1
    · subst e; exact Nat.le_refl _
    · have := ih (by omega)
      show _ ≤ (b + 1) * fac b
      calc fac a ≤ fac b := this
        _ = 1 * fac b := by omega
        _ ≤ (b + 1) * fac b := Nat.mul_le_mul_right _ (by omega)
theorem DD_le (a b : Nat) : DD a b ≤ fac (a + b) := by
  rw [← DD_fac]
  have := Nat.mul_pos (fac_pos a) (fac_pos b)
  calc DD a b = DD a b * 1 := by omega
    _ ≤ _ := Nat.mul_le_mul_left _ this
theorem DD_pos (a b : Nat) : 1 ≤ DD a b := by
  have := DD_mono (Nat.zero_le a) (Nat.zero_le b)
  rw [DD_zero] at this
  exact this
theorem fac_mul (a b : Nat) : fac a * fac b ≤ fac (a + b) := by
  rw [← DD_fac]
  calc fac a * fac b = 1 * (fac a * fac b) := by omega
    _ ≤ _ := Nat.mul_le_mul_right _ (DD_pos a b)
theorem pfac_le : ∀ xs : List T, pfac xs ≤ fac (szL xs)
  | [] => Nat.le_refl _
  | x :: xs => by
    show fac (sz x) * pfac xs ≤ _
    rw [szL_cons]
    exact Nat.le_trans (Nat.mul_le_mul_left _ (pfac_le xs)) (fac_mul _ _)
theorem lnL_le {w : Bool} {xs : List T} (h : pln xs ≤ pfac xs) : lnL w 0 xs ≤ fac (szL xs) := by
  cases w with
  | true => rw [lnL_true]; exact Nat.le_trans h (pfac_le xs)
  | false =>
    have e := lnL_false xs 0
    rw [show fac 0 = 1 from rfl, Nat.one_mul, Nat.zero_add] at e
    have h2 := Nat.mul_le_mul_right (fac (szL xs)) h
    rw [← e, Nat.mul_comm] at h2
    exact Nat.le_of_mul_le_mul_left h2 (pfac_pos xs)
theorem pln_le : ∀ xs : List T, (∀ x ∈ xs, ln x ≤ fac (sz x)) → pln xs ≤ pfac xs
  | [], _ => Nat.le_refl _
  | x :: xs, h => Nat.mul_le_mul (h x List.mem_cons_self) (pln_le xs fun y hy => h y (List.mem_cons_of_mem _ hy))
theorem ln_le : ∀ t : T, ln t ≤ fac (sz t) := T.ind (fun _ => Nat.le_refl _) fun w ms h => by
  show lnL w 0 ms ≤ fac (szL ms)
  exact lnL_le (pln_le ms h)
theorem lnL_pre (w : Bool) (xs : List T) : lnL w 0 xs ≤ fac (szL xs) := lnL_le (pln_le xs fun x _ => ln_le x)
theorem C_div (n k : Nat) : (C n k * (n - k)) / (k + 1) = C n (k + 1) := by
  rw [← C_next]
  exact Nat.mul_div_cancel _ (Nat.succ_pos k)
theorem C_le (n k : Nat) : C n k ≤ 2 ^ n := by
  induction n generalizing k with
  | zero => cases k <;> simp [C]
  | succ n ih =>
    cases k with
    | zero => rw [C_zero]; exact Nat.one_le_two_pow
    | succ k =>
      show C n k + C n (k + 1) ≤ _
      have := ih k
      have := ih (k + 1)
      rw [Nat.pow_succ]
      omega
theorem fac30 : fac 30 < 2 ^ 200 := by decide +kernel
end Tm
namespace Lw
open PySem PySem.Spec PyProof.Rows L2 Me Tm
theorem chosen_eq {n k : Nat} (hn : n ≤ 30) (hk : k ≤ n) (S : Sto) : F_chosen [.dat (.int (n : Nat)), .dat (.int (k : Nat))] S = some (.dat (.int (C n k : Nat)), S) := by
  have hk' : k ≤ 16777216 := by omega
  have p30 : (2 : Nat) ^ n ≤ 2 ^ 30 := Nat.pow_le_pow_right (by decide) hn
  have p200 : (2 : Nat) ^ 30 < 2 ^ 200 := by decide +kernel
  apply ok_eq
  simp [F_chosen, b_chosen]
  refine ok_for (xs := List.range k) (fun i => .int (i : Nat)) (fun pre ρ S' => (∃ z, ρ = [some (.dat (.int (n : Nat))), some (.dat (.int (k : Nat))), some (.dat (.int (C n pre.length : Nat))), z]) ∧ S' = S) (S0 := S) ?_ ⟨⟨none, by simp [C_zero]⟩, rfl⟩ ?_ ?_
  · simp [hk']
  · rintro pre i suf ρ S' hcut ⟨⟨z, rfl⟩, rfl⟩
    have hi : i = pre.length ∧ i < k := by
      have h1 := congrArg (fun l => l[pre.length]?) hcut
      have h2 := congrArg List.length hcut
      simp at h1 h2
      rw [List.getElem?_range (by omega)] at h1
      simp at h1
      omega
    obtain ⟨rfl, hik⟩ := hi
    have e1 : ((n : Nat) : Int) - ((pre.length : Nat) : Int) = ((n - pre.length : Nat) : Int) := by omega
    have e2 : ((pre.length : Nat) : Int) + 1 = ((pre.length + 1 : Nat) : Int) := by omega
    have e3 : ((C n pre.length * (n - pre.length) : Nat) : Int) / ((pre.length + 1 : Nat) : Int) = ((C n (pre.length + 1) : Nat) : Int) := by
      rw [← C_div]
      exact (Int.natCast_ediv ..).symm
    have hm := ev_MulN (S := S') (a := C n pre.length) (b := n - pre.length) (m := 2 ^ 30) (Nat.le_trans (C_le _ _) p30) (by omega) p200
    have hd := ev_Div (S := S') (i := ((C n pre.length * (n - pre.length) : Nat) : Int)) (j := ((pre.length + 1 : Nat) : Int)) (by omega) (lt200 (m := 2 ^ 30) (by omega) p200)
    rw [e3, ← e2, Int.natCast_mul, ← e1] at hd
    rw [← e1, Int.natCast_mul, ← e1] at hm
    simp [hm, hd]
  · rintro ρ' S' ⟨⟨z, rfl⟩, rfl⟩
    simp
end Lw
set_option Elab.async false
set_option linter.all false
set_option maxRecDepth 100000
set_option maxHeartbeats 2000000
namespace Lw
open PySem PySem.Spec PyProof.Rows L2 Me Tm
theorem wd_eqb (w : Bool) : PyData.eqv (wd w) (.str "beside") = !w := by
  have := wd_eqv w false
  cases w <;> exact this
theorem wd_eqh (w : Bool) : PyData.eqv (wd w) (.str "behind") = w := by
  have := wd_eqv w true
  cases w <;> exact this
theorem okD_beside : okD (.str "beside") = true := wd_ok false
theorem okD_behind : okD (.str "behind") = true := wd_ok true
theorem szL_pre {pre suf : List T} {m : T} {ms : List T} (h : pre ++ m :: suf = ms) : szL pre + sz m ≤ szL ms := by
  rw [← h, szL_app, szL_cons]
  omega
theorem lines_eq : ∀ (k : Nat) (t : T), Wf t → sz t ≤ 30 → dp t ≤ k → dp t ≤ 40 → ∀ S, F_lines_of_term k [.dat (enc t)] S = some (.dat (.int ((ln t : Nat) : Int)), S)
  | 0, t, _, _, h, _, _ => by cases t <;> simp [dp] at h
  | k + 1, .leaf i, _, _, _, _, S => by
    rw [show F_lines_of_term (k + 1) = fnRun 1 5 (b_lines_of_term (F_lines_of_term k)) from rfl]
    apply ok_eq
    simp [b_lines_of_term, enc_leaf, ln]
  | k + 1, .node w ms, hw, hs, hd, h40, S => by
    rw [show F_lines_of_term (k + 1) = fnRun 1 5 (b_lines_of_term (F_lines_of_term k)) from rfl]
    have hs0 : szL ms ≤ 30 := hs
    have hwm := WfL_iff.mp hw.2
    have hd4 : ∀ m ∈ ms, dp m ≤ 40 := fun m hm => by
      have := dp_mem hm
      have h4 : dpL ms + 1 ≤ 40 := h40
      omega
    have hsz : ∀ m ∈ ms, sz m ≤ 30 := fun m hm => by
      obtain ⟨p, q, e⟩ := mem_split hm
      have := szL_pre e.symm
      omega
    have hR : ∀ m ∈ ms, ∀ S, F_lines_of_term k [.dat (enc m)] S = some (.dat (.int ((ln m : Nat) : Int)), S) := fun m hm S => lines_eq k m (hwm m hm).2 (hsz m hm) (dp_ms hd m hm) (hd4 m hm) S
    apply ok_eq
    simp [b_lines_of_term, enc_node]
    refine ok_for (xs := ms) enc (fun pre ρ S' => (∃ z3 z4, ρ = [some (.dat (enc (.node w ms))), some (.dat (.int ((lnL w 0 pre : Nat) : Int))), some (.dat (.int ((szL pre : Nat) : Int))), z3, z4]) ∧ S' = S) (S0 := S) ?_ ⟨⟨none, none, by rw [enc_node]; rfl⟩, rfl⟩ ?_ ?_
    · simp
    · rintro pre m suf ρ S' hcut ⟨⟨z3, z4, rfl⟩, rfl⟩
      have hm : m ∈ ms := by rw [← hcut]; simp
      have hb := szL_pre hcut
      have hse := fun S => sized_eq 40 m (hd4 m hm) S
      have hle : ∀ a, a ≤ 30 → fac a ≤ fac 30 := fun a h => fac_mono h
      have f1 : lnL w 0 pre ≤ fac 30 := Nat.le_trans (lnL_pre w pre) (hle _ (by omega))
      have f2 : ln m ≤ fac 30 := Nat.le_trans (ln_le m) (hle _ (hsz m hm))
      have m1 := fun S => ev_MulN (S := S) f1 f2 fac30
      simp only [Int.natCast_mul] at m1
      have hap : lnL w 0 (pre ++ [m]) = lnL w 0 pre * ln m * (if w = true then 1 else DD (szL pre) (sz m)) := by
        rw [lnL_app]
        show _ * (ln m * (if w = true then 1 else DD (0 + szL pre) (sz m)) * 1) = _
        rw [Nat.zero_add, Nat.mul_one, Nat.mul_assoc]
      have hsa : szL (pre ++ [m]) = szL pre + sz m := by
        rw [szL_app, szL_cons]
        rfl
      simp [hse, hR m hm, m1, enc_node, wd_ok, okD_beside, wd_eqb]
      cases w with
      | true =>
        simp [hap, hsa, enc_node]
      | false =>
        have f3 : lnL false 0 pre * ln m ≤ fac 30 := by
          have h1 := lnL_pre false (pre ++ [m])
          rw [hap, hsa] at h1
          have h2 := Nat.le_trans h1 (hle _ (by omega))
          refine Nat.le_trans ?_ h2
          exact Nat.le_mul_of_pos_right _ (DD_pos _ _)
        have f4 : DD (szL pre) (sz m) ≤ fac 30 := Nat.le_trans (DD_le _ _) (hle _ (by omega))
        have m2 := fun S => ev_MulN (S := S) f3 f4 fac30
        simp only [Int.natCast_mul] at m2
        have hc := fun S => chosen_eq (n := szL pre + sz m) (k := sz m) (by omega) (by omega) S
        rw [Int.natCast_add] at hc
        have hc : ∀ S, F_chosen [.dat (.int (((szL pre : Nat) : Int) + ((sz m : Nat) : Int))), .dat (.int (sz m : Nat))] S = some (.dat (.int ((DD (szL pre) (sz m) : Nat) : Int)), S) := hc
        simp [hc, m2]
        simp [hap, hsa, enc_node]
    · rintro ρ' S' ⟨⟨z3, z4, rfl⟩, rfl⟩
      simp
      rfl
end Lw
set_option Elab.async false
set_option linter.all false
set_option maxRecDepth 100000
set_option maxHeartbeats 2000000
namespace Lw
open PySem PySem.Spec PyProof.Rows L2 Me Tm
theorem le_sum {l : List Nat} {x : Nat} (h : x ∈ l) : x ≤ l.sum := by
  induction l with
  | nil => cases h
  | cons a l ih =>
    rw [List.sum_cons]
    rcases List.mem_cons.mp h with rfl | h
    · omega
    · have := ih h; omega
theorem sum_set {l : List Nat} {i x : Nat} (h : i < l.length) : (l.set i (l[i] + x)).sum = l.sum + x := by
  induction l generalizing i with
  | nil => simp at h
  | cons a l ih =>
    cases i with
    | zero => simp; omega
    | succ i =>
      have h' : i < l.length := by simpa using h
      have := ih h'
      simp [this]
      omega
theorem sum_rep (n : Nat) : (List.replicate n 0).sum = 0 := by
  induction n with
  | zero => rfl
  | succ n ih => rw [List.replicate_succ, List.sum_cons, ih]
theorem zipIdx_cut {xs : List Nat} {pre suf : List (Nat × Nat)} {p : Nat × Nat} (h : pre ++ p :: suf = xs.zipIdx) : p.2 = pre.length ∧ xs = pre.map (·.1) ++ p.1 :: suf.map (·.1) := by
  have h1 : xs = (pre ++ p :: suf).map (·.1) := by rw [h, List.zipIdx_map_fst]
  refine ⟨?_, by rw [h1]; simp⟩
  have h2 := congrArg (fun l => l[pre.length]?) h
  simp at h2
  cases h3 : xs[pre.length]? with
  | none => rw [h3] at h2; cases h2
  | some a => rw [h3] at h2; cases h2; rfl
/-- a product's numbers, so far -/
def MR (xs ys : List Nat) (S : Sto) (a b : Nat) (z : Nat) (S' : Sto) : Prop := ∃ cs : List Nat, S' = S ++ [.lst (nD cs)] ∧ cs.length = xs.length + ys.length - 1 ∧ cs.sum = a + b ∧ cs[0]? = some z
def MQ (xs ys : List Nat) (x0 y0 : Nat) (S : Sto) (pre : List (Nat × Nat)) (ρ : Ev) (S' : Sto) : Prop := (∃ z3 z4 z5 z6, ρ = [some (.dat (.list (nD xs))), some (.dat (.list (nD ys))), some (.obj S.length), z3, z4, z5, z6]) ∧ MR xs ys S ((pre.map (·.1)).sum * ys.sum) 0 (if pre = [] then 0 else x0 * y0) S'
def MI (xs ys : List Nat) (x0 y0 : Nat) (S : Sto) (pre : List (Nat × Nat)) (p : Nat × Nat) (pre' : List (Nat × Nat)) (ρ : Ev) (S' : Sto) : Prop := (∃ z5 z6, ρ = [some (.dat (.list (nD xs))), some (.dat (.list (nD ys))), some (.obj S.length), some (.dat (.int (p.2 : Nat))), some (.dat (.int (p.1 : Nat))), z5, z6]) ∧ MR xs ys S ((pre.map (·.1)).sum * ys.sum) (p.1 * (pre'.map (·.1)).sum) (if pre = [] then (if pre' = [] then 0 else x0 * y0) else x0 * y0) S'
theorem mult_eq {xs ys : List Nat} {x0 y0 : Nat} (hx : xs[0]? = some x0) (hy : ys[0]? = some y0) (lx : xs.length ≤ 1000) (ly : ys.length ≤ 1000) (bx : xs.sum ≤ 2 ^ 60) (bY : ys.sum ≤ 2 ^ 60) (S : Sto) :
    ∃ cs : List Nat, F_multiplied_by [.dat (.list (nD xs)), .dat (.list (nD ys))] S = some (.obj S.length, S ++ [.lst (nD cs)]) ∧ cs.length = xs.length + ys.length - 1 ∧ cs.sum = xs.sum * ys.sum ∧ cs[0]? = some (x0 * y0) := by
  have p200 : (2 : Nat) ^ 60 < 2 ^ 200 := by decide +kernel
  have nx : 1 ≤ xs.length := by cases xs with | nil => simp at hx | cons => simp
  have ny : 1 ≤ ys.length := by cases ys with | nil => simp at hy | cons => simp
  suffices h : okO (F_multiplied_by [.dat (.list (nD xs)), .dat (.list (nD ys))] S) fun r => ∃ cs : List Nat, r = (.obj S.length, S ++ [.lst (nD cs)]) ∧ cs.length = xs.length + ys.length - 1 ∧ cs.sum = xs.sum * ys.sum ∧ cs[0]? = some (x0 * y0) by
    obtain ⟨r, e, cs, h1, h2⟩ := h
    exact ⟨cs, e.trans (congrArg some h1), h2⟩
  have hm := fun S => ev_MulL (x := .int 0) (S := S) (n := ((xs.length : Nat) : Int) + ((ys.length : Nat) : Int) - 1) (k := xs.length + ys.length - 1) (by omega) (by omega)
  have hr : List.replicate (xs.length + ys.length - 1) (PyData.int 0) = nD (List.replicate (xs.length + ys.length - 1) 0) := by simp [nD]
  simp [F_multiplied_by, b_multiplied_by, nD_l, hm, hr]
  refine ok_for (xs := xs.zipIdx) (fun p => .tuple [.int ((p.2 : Nat) : Int), .int ((p.1 : Nat) : Int)]) (MQ xs ys x0 y0 S) (S0 := S ++ [.lst (nD (List.replicate (xs.length + ys.length - 1) 0))]) ?_ ⟨⟨none, none, none, none, rfl⟩, List.replicate (xs.length + ys.length - 1) 0, rfl, by simp, by simp [sum_rep], ?_⟩ ?_ ?_
  · simp
    exact enD_zip (fun i => .int ((i : Nat) : Int)) xs 0
  · show (List.replicate (xs.length + ys.length - 1) 0)[0]? = some 0
    rw [List.getElem?_replicate, if_pos (by omega)]
  · rintro pre p suf ρ S' hcut ⟨⟨z3, z4, z5, z6, rfl⟩, hM⟩
    obtain ⟨e1, e2⟩ := zipIdx_cut hcut
    simp
    refine ok_for (xs := ys.zipIdx) (fun p => .tuple [.int ((p.2 : Nat) : Int), .int ((p.1 : Nat) : Int)]) (MI xs ys x0 y0 S pre p) (S0 := S') ?_ ⟨⟨z5, z6, rfl⟩, by simpa using hM⟩ ?_ ?_
    · simp
      exact enD_zip (fun i => .int ((i : Nat) : Int)) ys 0
    · rintro pre' q suf' ρ S'' hcut' ⟨⟨z5, z6, rfl⟩, cs, rfl, hl, hs, hz⟩
      obtain ⟨e1', e2'⟩ := zipIdx_cut hcut'
      have hp : p.1 ≤ 2 ^ 60 := Nat.le_trans (le_sum (by rw [e2]; simp)) bx
      have hq : q.1 ≤ 2 ^ 60 := Nat.le_trans (le_sum (by rw [e2']; simp)) bY
      have hmul := fun S => ev_MulN (S := S) hp hq p200
      simp only [Int.natCast_mul] at hmul
      have li : p.2 + q.2 < cs.length := by
        have h1 := congrArg List.length e2
        have h2 := congrArg List.length e2'
        simp at h1 h2
        omega
      have li' : p.2 + q.2 < (nD cs).length := by simpa [nD] using li
      have hg : (nD cs)[p.2 + q.2]? = some (.int ((cs[p.2 + q.2] : Nat) : Int)) := by simp [nD, li]
      simp [-getElem?_pos, hg, hmul, li, nD_l]
      refine ⟨⟨_, _, rfl⟩, cs.set (p.2 + q.2) (cs[p.2 + q.2] + p.1 * q.1), ?_, by simpa using hl, ?_, ?_⟩
      · simp [nD]
      · rw [sum_set li, hs]
        simp [Nat.mul_add, Nat.add_assoc]
      · by_cases c : p.2 + q.2 = 0
        · have c1 : pre = [] := List.eq_nil_of_length_eq_zero (by omega)
          have c2 : pre' = [] := List.eq_nil_of_length_eq_zero (by omega)
          subst c1; subst c2
          have d1 : x0 = p.1 := by rw [e2] at hx; simpa using hx.symm
          have d2 : y0 = q.1 := by rw [e2'] at hy; simpa using hy.symm
          have d3 : p.2 = 0 := by omega
          have d4 : q.2 = 0 := by omega
          simp at hz
          have hz0 : cs[p.2 + q.2] = 0 := by
            have : cs[0]? = some 0 := hz
            rw [List.getElem?_eq_some_iff] at this
            obtain ⟨h, e⟩ := this
            simp only [d3, d4, Nat.add_zero]
            exact e
          rw [hz0, c]
          have l0 : 0 < cs.length := by omega
          simp [l0, d1, d2]
        · rw [List.getElem?_set_ne c, hz]
          by_cases c1 : pre = []
          · have c2 : ¬ pre' = [] := fun h => by
              subst c1; subst h
              simp at e1 e1'
              omega
            simp [c1, c2]
          · simp [c1]
    · rintro ρ' S'' ⟨⟨z5, z6, rfl⟩, cs, rfl, hl, hs, hz⟩
      simp
      refine ⟨⟨_, _, _, _, rfl⟩, cs, rfl, hl, ?_, ?_⟩
      · rw [hs]
        have : (ys.zipIdx.map (·.1)) = ys := List.zipIdx_map_fst ..
        simp [this, Nat.add_mul]
      · rw [hz]
        have : ys.zipIdx ≠ [] := by
          intro h
          have := congrArg List.length h
          simp at this
          subst this
          simp at ny
        simp [this]
  · rintro ρ' S' ⟨⟨z3, z4, z5, z6, rfl⟩, cs, rfl, hl, hs, hz⟩
    simp
    refine ⟨cs, rfl, hl, ?_, ?_⟩
    · rw [hs]
      have : (xs.zipIdx.map (·.1)) = xs := List.zipIdx_map_fst ..
      simp [this]
    · rw [hz]
      have : xs.zipIdx ≠ [] := by
        intro h
        have := congrArg List.length h
        simp at this
        subst this
        simp at nx
      simp [this]
end Lw
set_option Elab.async false
set_option linter.all false
set_option maxRecDepth 100000
set_option maxHeartbeats 2000000
namespace Tm
theorem ltL_le {w : Bool} : ∀ ms : List T, (∀ m ∈ ms, lt m ≤ 2 ^ sz m) → ltL w ms ≤ 2 ^ szL ms
  | [], _ => Nat.le_refl _
  | m :: ms, h => by
    have h1 := h m List.mem_cons_self
    have h2 := ltL_le (w := w) ms fun x hx => h x (List.mem_cons_of_mem _ hx)
    have h3 := lt_pos m
    have h4 := ltL_pos w ms
    rw [szL_cons, Nat.pow_add]
    have h5 := Nat.mul_le_mul h1 h2
    show (if w = true then (lt m - 1) + ltL w ms else lt m * ltL w ms) ≤ _
    cases w with
    | true =>
      rw [if_pos rfl]
      refine Nat.le_trans ?_ h5
      obtain ⟨a, ha⟩ : ∃ a, lt m = a + 1 := ⟨lt m - 1, by omega⟩
      rw [ha, Nat.add_sub_cancel, Nat.add_mul, Nat.one_mul]
      have := Nat.le_mul_of_pos_right a h4
      omega
    | false => rw [if_neg (by decide)]; exact h5
theorem lt_le2 : ∀ t : T, lt t ≤ 2 ^ sz t := T.ind (fun _ => by show 2 ≤ 2 ^ 1; decide) fun w ms h => ltL_le ms h
end Tm
namespace Lw
open PySem PySem.Spec PyProof.Rows L2 Me Tm
theorem ltL_snoc (w : Bool) (pre : List T) (m : T) : ltL w (pre ++ [m]) = if w = true then ltL w pre + (lt m - 1) else ltL w pre * lt m := by
  rw [ltL_app]
  have h1 := ltL_pos w pre
  have h2 := lt_pos m
  have e : ltL w [m] = if w = true then (lt m - 1) + 1 else lt m * 1 := rfl
  rw [e]
  cases w with
  | true =>
    rw [if_pos rfl, if_pos rfl, if_pos rfl]
    omega
  | false => simp
/-- the loop -/
def SR (w : Bool) (ms : List T) (S : Sto) (pre : List T) (ρ : Ev) (S' : Sto) : Prop := (∃ z2 z3 cs, ρ = [some (.dat (enc (.node w ms))), some (.dat (.list (nD cs))), z2, z3] ∧ cs.length = szL pre + 1 ∧ cs.sum = ltL w pre ∧ cs[0]? = some 1) ∧ S' = S
/-- a list, as an object or told -/
def LsAt (F : Option (P × Sto)) (S : Sto) (ns : List Nat) : Prop := F = some (.obj S.length, S ++ [.lst (nD ns)]) ∨ F = some (.dat (.list (nD ns)), S)
theorem LsAt.frz {F : Option (P × Sto)} {S : Sto} {ns : List Nat} {Q : P × Sto → Prop} {n : Nat} (h : LsAt F S ns) (hn : n = S.length) (k : Q (.dat (.list (nD ns)), S)) : okO F fun x => okO (frzP n x.1 x.2) Q := by
  subst hn
  rcases h with h | h
  · rw [h]; simpa using k
  · rw [h]; simpa using k
theorem sizes_eq : ∀ (k : Nat) (t : T), Wf t → sz t ≤ 30 → dp t ≤ k → ∀ S, ∃ ns : List Nat, LsAt (F_sizes_of_term k [.dat (enc t)] S) S ns ∧ ns.length = sz t + 1 ∧ ns.sum = lt t ∧ ns[0]? = some 1
  | 0, t, _, _, h, _ => by cases t <;> simp [dp] at h
  | k + 1, .leaf i, _, _, _, S => by
    rw [show F_sizes_of_term (k + 1) = fnRun 1 4 (b_sizes_of_term (F_sizes_of_term k)) from rfl]
    refine ⟨[1, 1], .inl ?_, rfl, rfl, rfl⟩
    apply ok_eq
    simp [b_sizes_of_term, enc_leaf, nD]
  | k + 1, .node w ms, hw, hs, hd, S => by
    rw [show F_sizes_of_term (k + 1) = fnRun 1 4 (b_sizes_of_term (F_sizes_of_term k)) from rfl]
    have hs0 : szL ms ≤ 30 := hs
    have hwm := WfL_iff.mp hw.2
    have hsz : ∀ m ∈ ms, sz m ≤ 30 := fun m hm => by
      obtain ⟨p, q, e⟩ := mem_split hm
      have := szL_pre e.symm
      omega
    have hR := fun m hm S => sizes_eq k m (hwm m hm).2 (hsz m hm) (dp_ms hd m hm) S
    have p30 : ∀ a, a ≤ 30 → (2 : Nat) ^ a ≤ 2 ^ 60 := fun a h => Nat.pow_le_pow_right (by decide) (by omega)
    suffices h : okO (fnRun 1 4 (b_sizes_of_term (F_sizes_of_term k)) [.dat (enc (.node w ms))] S) fun r => ∃ ns : List Nat, r = (.dat (.list (nD ns)), S) ∧ ns.length = sz (.node w ms) + 1 ∧ ns.sum = lt (.node w ms) ∧ ns[0]? = some 1 by
      obtain ⟨r, e, ns, h1, h2⟩ := h
      exact ⟨ns, .inr (e.trans (congrArg some h1)), h2⟩
    simp [b_sizes_of_term, enc_node]
    refine ok_for (xs := ms) enc (SR w ms S) (S0 := S) ?_ ⟨⟨none, none, [1], by rw [enc_node]; rfl, rfl, rfl, rfl⟩, rfl⟩ ?_ ?_
    · simp
    · rintro pre m suf ρ S' hcut ⟨⟨z2, z3, cs, rfl, hl, hsum, h0⟩, rfl⟩
      have hm : m ∈ ms := by rw [← hcut]; simp
      have hb := szL_pre hcut
      obtain ⟨ns, hF, nl, nsum, n0⟩ := hR m hm S'
      have hsa : szL (pre ++ [m]) = szL pre + sz m := by
        rw [szL_app, szL_cons]
        rfl
      have b1 : cs.sum ≤ 2 ^ 60 := by rw [hsum]; exact Nat.le_trans (ltL_le pre fun x _ => lt_le2 x) (p30 _ (by omega))
      have b2 : ns.sum ≤ 2 ^ 60 := by rw [nsum]; exact Nat.le_trans (lt_le2 m) (p30 _ (by omega))
      simp
      refine hF.frz rfl ?_
      simp [enc_node, wd_ok, okD_beside, wd_eqb]
      cases w with
      | true =>
        obtain ⟨r, rfl⟩ : ∃ r, ns = 1 :: r := by
          cases ns with
          | nil => simp at n0
          | cons a r => simp at n0; subst n0; exact ⟨r, rfl⟩
        have hc : cutD (nD (1 :: r)) (some 1) none = nD r := cutD_1
        have hlen : cs.length + r.length ≤ 16777216 := by simp at nl; omega
        simp [hc, nD_l, hlen]
        refine ⟨⟨_, _, cs ++ r, by rw [enc_node, nD_app], ?_, ?_, ?_⟩, rfl⟩
        · simp at nl ⊢
          omega
        · simp at nsum ⊢
          rw [ltL_snoc, if_pos rfl, hsum]
          omega
        · cases cs with
          | nil => simp at h0
          | cons a cs => simpa using h0
      | false =>
        obtain ⟨ds, e1, dl, dsum, d0⟩ := mult_eq h0 n0 (by omega) (by omega) b1 b2 S'
        simp [e1]
        refine ⟨⟨_, _, ds, by rw [enc_node], by omega, ?_, d0⟩, rfl⟩
        rw [dsum, ltL_snoc, if_neg (by decide), hsum, nsum]
    · rintro ρ' S' ⟨⟨z2, z3, cs, rfl, hl, hsum, h0⟩, rfl⟩
      simp
      exact ⟨cs, rfl, hl, hsum, h0⟩
theorem ints_nD (l : List Nat) : intsOf (nD l) = some (l.map fun i => ((i : Nat) : Int)) := ints_nat l
theorem numbers_eq {n : Nat} {t : T} (g : Good n t) (h1 : 1 ≤ n) (hn : n ≤ 30) (S : Sto) : F_term_numbers [.dat (.int (n : Nat)), .dat (enc t)] S = some (.dat (.tuple [.int ((ln t : Nat) : Int), .int ((lt t : Nat) : Int), .int ((ex false t : Nat) : Int), .int ((ex true t : Nat) : Int)]), S) := by
  obtain ⟨_, k2, k3⟩ := good_ok g hn
  have hsz : sz t ≤ 30 := by
    have := g.pm.length_eq
    rw [List.length_range] at this
    show (lvs t).length ≤ 30
    omega
  obtain ⟨ns, hF, nl, nsum, n0⟩ := sizes_eq 40 t g.wf hsz k3 S
  have e1 := fun S => extent_eq false 40 t g.wf k3 S
  have e2 := fun S => extent_eq true 40 t g.wf k3 S
  have hl := fun S => lines_eq 40 t g.wf hsz k3 k3 S
  apply ok_eq
  simp [F_term_numbers, b_term_numbers, req_term_eq g h1 hn, hl]
  refine hF.frz rfl ?_
  have e1 : ∀ S, F_extent 40 [.dat (enc t), .dat (.str "beside")] S = some (.dat (.int ((ex false t : Nat) : Int)), S) := e1
  have e2 : ∀ S, F_extent 40 [.dat (enc t), .dat (.str "behind")] S = some (.dat (.int ((ex true t : Nat) : Int)), S) := e2
  simp [ints_nD, isum_nat, nsum, e1, e2]
end Lw
set_option Elab.async false
set_option linter.all false
set_option maxRecDepth 100000
set_option maxHeartbeats 2000000
namespace Lw
open PySem PySem.Spec PyProof.Rows L2 Me Tm
/-! ### dice -/
def dcL (a b : Int) : Me.MO := .lst [.int a, .int b]
def Dc (k : Nat) (S : Sto) : Prop := ∃ a b : Int, 0 ≤ b ∧ b < 18446744073709551616 ∧ S[k]? = some (dcL a b)
def Up (k : Nat) (S S' : Sto) : Prop := ∃ a b : Int, 0 ≤ b ∧ b < 18446744073709551616 ∧ S' = S.set k (dcL a b)
theorem Dc.lt {k : Nat} {S : Sto} (h : Dc k S) : k < S.length := by
  obtain ⟨a, b, _, _, e⟩ := h
  exact (List.getElem?_eq_some_iff.mp e).1
theorem Dc.up {k : Nat} {S : Sto} (h : Dc k S) : Up k S S := by
  obtain ⟨a, b, h1, h2, e⟩ := h
  refine ⟨a, b, h1, h2, ?_⟩
  obtain ⟨hk, e⟩ := List.getElem?_eq_some_iff.mp e
  rw [← e, List.set_getElem_self]
theorem Up.dc {k : Nat} {S S' : Sto} (h : Up k S S') (hk : k < S.length) : Dc k S' := by
  obtain ⟨a, b, h1, h2, rfl⟩ := h
  exact ⟨a, b, h1, h2, by rw [List.getElem?_set_self hk]⟩
theorem Up.trans {k : Nat} {S S1 S2 : Sto} (h : Up k S S1) (h' : Up k S1 S2) : Up k S S2 := by
  obtain ⟨a, b, _, _, rfl⟩ := h
  obtain ⟨a', b', h1, h2, rfl⟩ := h'
  exact ⟨a', b', h1, h2, by rw [List.set_set]⟩
theorem Up.len {k : Nat} {S S' : Sto} (h : Up k S S') : S'.length = S.length := by
  obtain ⟨a, b, _, _, rfl⟩ := h
  rw [List.length_set]
theorem Up.app {k : Nat} {S S' J : Sto} (h : Up k (S ++ J) S') (hk : k < S.length) : ∃ S1, S' = S1 ++ J ∧ Up k S S1 := by
  obtain ⟨a, b, h1, h2, rfl⟩ := h
  exact ⟨_, List.set_append_left _ _ hk, a, b, h1, h2, rfl⟩
theorem Dc.app {k : Nat} {S J : Sto} (h : Dc k S) : Dc k (S ++ J) := by
  obtain ⟨a, b, h1, h2, e⟩ := h
  exact ⟨a, b, h1, h2, by rw [List.getElem?_append_left (List.getElem?_eq_some_iff.mp e).1]; exact e⟩
theorem toN {x t : Int} (h : 0 < t) : ∃ v : Nat, x % t = v ∧ (v : Int) < t := by
  have h1 := Int.emod_nonneg x (show t ≠ 0 by omega)
  have h2 := Int.emod_lt_of_pos x h
  exact ⟨(x % t).toNat, by omega, by omega⟩
theorem big64 {b : Int} (h1 : 0 ≤ b) (h2 : b < 18446744073709551616) : b.natAbs < 2 ^ 200 := by
  have : (18446744073709551616 : Nat) < 2 ^ 200 := by decide +kernel
  omega
theorem roll_ok {k t : Nat} {S : Sto} {Q : P × Sto → Prop} (h : Dc k S) (h1 : 1 ≤ t) (h2 : t ≤ 100000) (q : ∀ (v : Nat) (S' : Sto), v < t → Up k S S' → Q (.dat (.int ((v : Nat) : Int)), S')) : okO (F__law_roll [.obj k, .dat (.int ((t : Nat) : Int))] S) Q := by
  have hk := h.lt
  obtain ⟨a, b, b1, b2, e⟩ := h
  have hs : ∀ x y : Int, (S.set k (dcL x y))[k]? = some (.lst [.int x, .int y]) := fun x y => by rw [List.getElem?_set_self hk]; rfl
  have e : S[k]? = some (.lst [.int a, .int b]) := e
  have ht : (0 : Int) < t := by omega
  have ht2 : ((t : Nat) : Int).natAbs < 2 ^ 200 := by
    have : (100000 : Nat) < 2 ^ 200 := by decide +kernel
    omega
  have hm := fun i S => ev_Mod (i := i) (S := S) ht
  have hd := fun i S => ev_Div (i := i) (S := S) ht ht2
  simp [F__law_roll, b__law_roll, e]
  by_cases c : 0 < a
  · simp [c, e, hm, hd]
    obtain ⟨v, v1, v2⟩ := toN (x := a) ht
    rw [v1]
    rw [List.take_of_length_le (by simp)]
    exact q v _ (by omega) ⟨_, _, b1, b2, rfl⟩
  · have m1 := fun S => ev_Mul_i (S := S) (i := b) (j := 6364136223846793005) (mulOk_of (big64 b1 b2) (by decide +kernel))
    have m2 := fun i S => ev_Mod (S := S) (i := i) (j := 18446744073709551616) (by omega)
    have m3 := fun i S => ev_Div (S := S) (i := i) (j := 4294967296) (by omega) (by decide +kernel)
    simp [c, e, m1, m2, m3, hm]
    generalize hb : (b * 6364136223846793005 + 1442695040888963407) % 18446744073709551616 = b'
    have g1 : 0 ≤ b' := by rw [← hb]; exact Int.emod_nonneg _ (by decide)
    have g2 : b' < 18446744073709551616 := by rw [← hb]; exact Int.emod_lt_of_pos _ (by decide)
    have := hs a b'
    unfold dcL at this
    simp [this, m3, hm]
    obtain ⟨v, v1, v2⟩ := toN (x := b' / 4294967296) ht
    rw [v1]
    rw [List.take_of_length_le (by simp)]
    exact q v _ (by omega) ⟨_, _, g1, g2, rfl⟩
theorem take_len {S S' : Sto} (h : S'.length = S.length) : S'.take S.length = S' := List.take_of_length_le (by omega)
theorem one_of_ok {k : Nat} {S : Sto} {ds : List D} {Q : P × Sto → Prop} (h : Dc k S) (h1 : ds ≠ []) (h2 : ds.length ≤ 100000) (q : ∀ (d : D) (S' : Sto), d ∈ ds → Up k S S' → Q (.dat d, S')) : okO (F__law_one_of [.obj k, .dat (.list ds)] S) Q := by
  have hl : 1 ≤ ds.length := List.length_pos_iff.mpr h1
  simp [F__law_one_of, b__law_one_of]
  refine roll_ok h hl h2 fun v S' hv hu => ?_
  have e : ds[v]? = some ds[v] := List.getElem?_eq_getElem hv
  simp [-getElem?_pos, e, take_len hu.len]
  exact q _ _ (List.getElem_mem hv) hu
/-- the walk of a mixing -/
def XR (k : Nat) (ds : List D) (S : Sto) (pre : List D) (ρ : Ev) (S' : Sto) : Prop := ∃ es z3 z4, ρ = [some (.obj k), some (.dat (.list ds)), some (.dat (.list es)), z3, z4] ∧ es.Perm pre ∧ Up k S S'
theorem mixed_ok {k : Nat} {S : Sto} {ds : List D} {Q : P × Sto → Prop} (h : Dc k S) (h2 : ds.length ≤ 10000) (q : ∀ (es : List D) (S' : Sto), es.Perm ds → Up k S S' → Q (.dat (.list es), S')) : okO (F__law_mixed [.obj k, .dat (.list ds)] S) Q := by
  simp [F__law_mixed, b__law_mixed]
  refine ok_for (xs := ds) id (XR k ds S) (S0 := S) (by simp) ⟨[], none, none, rfl, .refl _, h.up⟩ ?_ ?_
  · rintro pre d suf ρ S' hcut ⟨es, z3, z4, rfl, hp, hu⟩
    have hl : es.length + 1 ≤ 10000 := by
      have h3 := congrArg List.length hcut
      have h4 := hp.length_eq
      simp at h3
      omega
    simp
    refine roll_ok (t := es.length + 1) (hu.dc h.lt) (by omega) (by omega) fun v S1 hv hu1 => ?_
    have l1 : min v es.length + 1 ≤ 16777216 := by omega
    have l2 : min v es.length + 1 + (es.length - v) ≤ 16777216 := by omega
    simp [cutD_to, cutD_from, l1, l2]
    refine ⟨es.take v ++ d :: es.drop v, _, _, rfl, ?_, hu.trans hu1⟩
    have p1 : (es.take v ++ d :: es.drop v).Perm (d :: (es.take v ++ es.drop v)) := List.perm_middle
    rw [List.take_append_drop] at p1
    exact p1.trans ((hp.cons d).trans (List.perm_append_singleton d pre).symm)
  · rintro ρ' S' ⟨es, z3, z4, rfl, hp, hu⟩
    simp [take_len hu.len]
    exact q es S' hp hu
end Lw
set_option Elab.async false
set_option linter.all false
set_option maxRecDepth 100000
set_option maxHeartbeats 2000000
namespace Lw
open PySem PySem.Spec PyProof.Rows L2 Me Tm
/-! ### a drawn term -/
def wdO : Option Bool → D
  | none => .str ""
  | some w => wd w
theorem wdO_ok (o : Option Bool) : okD (wdO o) = true := by
  cases o with
  | none => decide +kernel
  | some w => exact wd_ok w
theorem wdO_eqv (w : Bool) (o : Option Bool) : PyData.eqv (wd w) (wdO o) = decide (o = some w) := by
  cases o with
  | none => cases w <;> decide +kernel
  | some v => cases w <;> cases v <;> decide +kernel
def lsD (p : List Nat) : D := .list (nD p)
/-- the parts, laid together -/
def WQ (k : Nat) (X : List Nat) (w : Bool) (S : Sto) (m : Nat) (ρ : Ev) (S' : Sto) : Prop := ∃ (ps : List (List Nat)) (z4 z5 z6 z7 : Option P), ρ = [some (.obj k), some (.dat (.list (nD X))), some (.dat (wd w)), some (.dat (.list (ps.map lsD))), z4, z5, z6, z7] ∧ ps.flatten = X ∧ (∀ p ∈ ps, p ≠ []) ∧ 2 ≤ ps.length ∧ m = ps.length ∧ Up k S S'
theorem pflat_len {ps : List (List Nat)} (h : ∀ p ∈ ps, p ≠ []) : ps.length ≤ ps.flatten.length := by
  induction ps with
  | nil => simp
  | cons p ps ih =>
    have h1 : 1 ≤ p.length := List.length_pos_iff.mpr (h p List.mem_cons_self)
    have h2 := ih fun q hq => h q (List.mem_cons_of_mem _ hq)
    rw [List.flatten_cons, List.length_append, List.length_cons]
    omega
theorem flat_one (X : List Nat) : (X.map fun x => [x]).flatten = X := by
  induction X with
  | nil => rfl
  | cons a X ih => rw [List.map_cons, List.flatten_cons, ih]; rfl
theorem part_len {ps : List (List Nat)} (h : ∀ p ∈ ps, p ≠ []) (h2 : 2 ≤ ps.length) {p : List Nat} (hp : p ∈ ps) : p.length + 1 ≤ ps.flatten.length := by
  obtain ⟨a, b, rfl⟩ := List.append_of_mem hp
  have ha := pflat_len (ps := a) fun q hq => h q (by simp [hq])
  have hb := pflat_len (ps := b) fun q hq => h q (by simp [hq])
  simp at h2 ⊢
  simp at ha hb
  omega
/-- terms of parts -/
def TR (k : Nat) (w : Bool) (S : Sto) (pre : List (List Nat)) (acc : List D) (S' : Sto) : Prop := ∃ ts : List T, acc = ts.map enc ∧ ts.map lvs = pre ∧ (∀ t ∈ ts, t.is w = false ∧ Wf t) ∧ Up k S S'
theorem term_ok : ∀ (n k : Nat) (S : Sto) (X : List Nat) (wo : Option Bool) (Q : P × Sto → Prop), Dc k S → X ≠ [] → X.length ≤ 30 → X.length ≤ n → (∀ t S', lvs t = X → Wf t → (∀ w, wo = some w → t.is w = false) → Up k S S' → Q (.dat (enc t), S')) → okO (F__law_term n [.obj k, .dat (.list (nD X)), .dat (wdO wo)] S) Q
  | 0, k, S, X, wo, Q, _, hX, _, h, _ => absurd (List.length_pos_iff.mpr hX) (by omega)
  | n + 1, k, S, X, wo, Q, hd, hX, h30, hn, q => by
    rw [show F__law_term (n + 1) = fnRun 3 8 (b__law_term (F__law_term n)) from rfl]
    by_cases h1 : X.length = 1
    · obtain ⟨x, rfl⟩ := List.length_eq_one_iff.mp h1
      simp [b__law_term, nD]
      exact q (.leaf x) S rfl trivial (fun w _ => rfl) hd.up
    · have h1' : ¬ ((X.length : Nat) : Int) = 1 := by omega
      have hX1 : 1 ≤ X.length := List.length_pos_iff.mpr hX
      simp [b__law_term, nD_l, h1']
      refine ok_lcif (xs := [true, false]) wd (fun w => !decide (wo = some w)) wd ?_ ?_ ?_ ?_
      · simp
        exact ⟨rfl, rfl⟩
      · intro w hw a
        simp [wd_ok, wdO_ok, wdO_eqv]
      · intro w hw hc a
        simp
      · simp
        refine one_of_ok hd ?_ ?_ fun d S1 hmem hu1 => ?_
        · cases wo with
          | none => simp
          | some v => cases v <;> simp
        · cases wo with
          | none => simp
          | some v => cases v <;> simp
        obtain ⟨w, hw, rfl⟩ := List.mem_map.mp hmem
        have hwo : wo ≠ some w := by
          have := (List.mem_filter.mp hw).2
          simpa using this
        simp
        refine ok_lc (xs := X) (fun i => .int ((i : Nat) : Int)) (fun i => lsD [i]) (by simp [nD]) (fun i hi a => by simp [lsD, nD]) ?_
        simp
        refine ok_while (m := X.length) (WQ k X w S) (by omega) ⟨X.map fun x => [x], _, _, _, _, by rw [List.map_map]; rfl, flat_one X, by simp, by simp; omega, by simp, hu1⟩ ?_
        rintro m ρ S' ⟨ps, z4, z5, z6, z7, rfl, hfl, hne, h2, rfl, hu⟩
        have h2' : ps.length ≤ X.length := by
          have := pflat_len hne
          rw [hfl] at this
          exact this
        have hend : ∀ (z4 z5 z6 z7 : Option P) (S' : Sto), Up k S S' → okO (thenF (sRet (eOp oAdd (eTup (aCons (eVar 2) aNil)) (eCall oTuple (aCons (eFrz (eLc (iSeq (eVar 3)) [7] (gNm 7) cYes (eCall (F__law_term n) (aCons (eVar 0) (aCons (eVar 7) (aCons (eVar 2) aNil)))))) aNil)))) (.nx, [some (.obj k), some (.dat (.list (nD X))), some (.dat (wd w)), some (.dat (.list (ps.map lsD))), z4, z5, z6, z7], S')) fun y => okO (finF S.length y) Q := fun z4 z5 z6 z7 S' hu => by
          simp
          refine ok_lcst (xs := ps) lsD (TR k w S') (fun p a S' ⟨_, _, _, _, h⟩ => h.len) (by simp) ⟨[], rfl, rfl, fun t ht => (by cases ht), (hu.dc hd.lt).up⟩ ?_ ?_
          · rintro pre p suf acc S1 hcut ⟨ts, rfl, hts, htw, hu1⟩
            have hp : p ∈ ps := by rw [← hcut]; simp
            have hpl := part_len hne h2 hp
            rw [hfl] at hpl
            have hk1 : k < S1.length := by rw [hu1.len, hu.len]; exact hd.lt
            simp
            refine term_ok n k (S1 ++ [.lst (ts.map enc)]) p (some w) _ (Dc.app (hu1.dc (by rw [hu.len]; exact hd.lt))) (hne p hp) (by omega) (by omega) fun t S2 e1 e2 e3 e4 => ?_
            obtain ⟨S3, rfl, hu3⟩ := e4.app hk1
            exact ⟨_, S3, rfl, ts ++ [t], by simp, by simp [hts, e1], fun x hx => by
              rcases List.mem_append.mp hx with hx | hx
              · exact htw x hx
              · rw [List.mem_singleton.mp hx]; exact ⟨e3 w rfl, e2⟩, hu1.trans hu3⟩
          · rintro acc S1 ⟨ts, rfl, hts, htw, hu1⟩
            have hl : S1.length = S'.length := hu1.len
            have hlt : ts.length = ps.length := by rw [← hts, List.length_map]
            have hlim : 1 + ts.length ≤ 16777216 := by omega
            rw [← hl]
            simp [hlim]
            have e : PyData.tuple (wd w :: ts.map enc) = enc (.node w ts) := by rw [enc_node]
            rw [e, ← hu.len, ← hl, List.take_length]
            refine q _ _ ?_ ⟨by omega, WfL_iff.mpr htw⟩ (fun v hv => ?_) (hu.trans hu1)
            · show lvL ts = X
              rw [lvL_flat, ← hfl, ← hts]
              simp [List.flatMap]
            · have hvw : v ≠ w := fun e => hwo (by rw [hv, e])
              simp [T.is]
              exact fun e => hvw e.symm
        by_cases c : 2 < ps.length
        · have c' : (2 : Int) < ((ps.length : Nat) : Int) := by omega
          simp [c']
          refine roll_ok (t := 4) (hu.dc hd.lt) (by omega) (by omega) fun v S1 hv hu1 => ?_
          by_cases cv : v = 0
          · subst cv
            have hh := hend z4 z5 z6 z7 S1 (hu.trans hu1)
            simp at hh
            simp
            exact hh
          · have cv' : 0 < v := by omega
            simp [cv']
            have e1 : ((ps.length : Nat) : Int) - 1 = ((ps.length - 1 : Nat) : Int) := by omega
            rw [e1]
            refine roll_ok (t := ps.length - 1) (hu1.dc (by rw [hu.len]; exact hd.lt)) (by omega) (by omega) fun a S2 ha hu2 => ?_
            have i1 : (ps.map lsD)[a]? = some (lsD ps[a]) := by rw [List.getElem?_map, List.getElem?_eq_getElem (by omega)]; rfl
            have i2 : (ps.map lsD)[a + 1]? = some (lsD ps[a + 1]) := by rw [List.getElem?_map, List.getElem?_eq_getElem (by omega)]; rfl
            have dec : ps = ps.take a ++ ps[a] :: ps[a + 1] :: ps.drop (a + 2) := by
              rw [List.getElem_cons_drop, List.getElem_cons_drop, List.take_append_drop]
            have m1 := hne ps[a] (List.getElem_mem _)
            have m2 := hne ps[a + 1] (List.getElem_mem _)
            have ln : ∀ p ∈ ps, p.length ≤ 30 := fun p hp => by
              have := part_len hne h2 hp
              rw [hfl] at this
              omega
            have n1 := ln ps[a] (List.getElem_mem _)
            have n2 := ln ps[a + 1] (List.getElem_mem _)
            have g1 : (nD ps[a]).length + (nD ps[a + 1]).length ≤ 16777216 := by rw [nD_l, nD_l]; omega
            have g2 : min a ps.length + 1 ≤ 16777216 := by omega
            have g3 : min a ps.length + 1 + (ps.length - (a + 2)) ≤ 16777216 := by omega
            simp [-getElem?_pos, i1, i2, cutD_to, lsD, g1, g2, g3]
            refine ⟨ps.length - 1, by omega, ps.take a ++ (ps[a] ++ ps[a + 1]) :: ps.drop (a + 2), _, _, _, _, by simp [lsD, nD_app]; exact ⟨rfl, rfl, rfl, rfl⟩, ?_, ?_, ?_, ?_, (hu.trans hu1).trans hu2⟩
            · have hf := congrArg List.flatten dec
              rw [hfl] at hf
              rw [hf]
              simp only [List.flatten_append, List.flatten_cons, List.append_assoc]
            · intro p hp
              rcases List.mem_append.mp hp with hp | hp
              · exact hne p (List.mem_of_mem_take hp)
              · rcases List.mem_cons.mp hp with rfl | hp
                · simp [m1]
                · exact hne p (List.mem_of_mem_drop hp)
            · simp
              omega
            · simp
              omega
        · have c' : ¬ (2 : Int) < ((ps.length : Nat) : Int) := by omega
          have hh := hend z4 z5 z6 z7 S' hu
          simp at hh
          simp [c']
          exact hh
end Lw
set_option Elab.async false
set_option linter.all false
set_option maxRecDepth 100000
set_option maxHeartbeats 2000000
namespace Lw
open PySem PySem.Spec PyProof.Rows L2 Me Tm
/-! ### a deep term -/
def DR (n : Nat) (S : Sto) (pre : List Nat) (ρ : Ev) (S' : Sto) : Prop := ∃ t v z3, ρ = [some (.dat (.int ((n : Nat) : Int))), some (.dat (wd v)), some (.dat (enc t)), z3] ∧ S' = S ∧ Wf t ∧ t.is v = false ∧ lvs t = List.range' (n - 1 - pre.length) (pre.length + 1)
theorem deep_ok {n : Nat} {w : Bool} {S : Sto} {Q : P × Sto → Prop} (h2 : 2 ≤ n) (hn : n ≤ 30) (q : ∀ t, Good n t → Q (.dat (enc t), S)) : okO (F__law_deep [.dat (.int ((n : Nat) : Int)), .dat (wd w)] S) Q := by
  have e1 : ((n : Nat) : Int) - 1 = ((n - 1 : Nat) : Int) := by omega
  simp [F__law_deep, b__law_deep]
  refine ok_for (xs := List.range (n - 1)) (fun k => .int (((n - 1 : Nat) : Int) - 1 - (k : Nat))) (DR n S) (S0 := S) ?_ ⟨.leaf (n - 1), w, none, by rw [e1]; rfl, rfl, trivial, rfl, by simp [lvs]⟩ ?_ ?_
  · simp
    rw [iDK_nat (a := n - 1) (by omega) rfl rfl (by omega)]
    simp
  · rintro pre k suf ρ S' hcut ⟨t, v, z3, rfl, rfl, hw, hi, hl⟩
    have hk : k = pre.length ∧ k < n - 1 := by
      have h1 := congrArg (fun l => l[pre.length]?) hcut
      have h2 := congrArg List.length hcut
      simp at h1 h2
      rw [List.getElem?_range (by omega)] at h1
      simp at h1
      omega
    obtain ⟨rfl, hkn⟩ := hk
    have e2 : ((n - 1 : Nat) : Int) - 1 - ((pre.length : Nat) : Int) = ((n - 1 - (pre.length + 1) : Nat) : Int) := by omega
    simp [e2, wd_ok, okD_behind, wd_eqh]
    have e3 : PyData.tuple [wd v, .int ((n - 1 - (pre.length + 1) : Nat) : Int), enc t] = enc (.node v [.leaf (n - 1 - (pre.length + 1)), t]) := by rw [enc_node]; rfl
    have fin : DR n S' (pre ++ [pre.length]) [some (.dat (.int ((n : Nat) : Int))), some (.dat (wd (!v))), some (.dat (enc (.node v [.leaf (n - 1 - (pre.length + 1)), t]))), some (.dat (.int ((n - 1 - (pre.length + 1) : Nat) : Int)))] S' := by
      refine ⟨_, _, _, rfl, rfl, ⟨by simp, ⟨rfl, trivial⟩, ⟨hi, hw⟩, trivial⟩, by cases v <;> rfl, ?_⟩
      show [n - 1 - (pre.length + 1)] ++ (lvs t ++ []) = _
      rw [hl, List.append_nil, List.length_append, List.length_singleton, List.range'_succ (n := pre.length + 1), show n - 1 - pre.length = n - 1 - (pre.length + 1) + 1 by omega]
      rfl
    cases v with
    | true => simp [e3]; exact fin
    | false => simp [e3]; exact fin
  · rintro ρ' S' ⟨t, v, z3, rfl, rfl, hw, hi, hl⟩
    simp
    refine q t ⟨hw, ?_⟩
    rw [hl]
    simp
    have : n - 1 - (n - 1) = 0 ∧ n - 1 + 1 = n := by omega
    rw [this.2, List.range_eq_range']
/-! ### the law's own things -/
theorem things2_eq : ∀ (n : Nat) (t : T), Wf t → sz t ≤ 60 → dp t ≤ n → ∀ S, F__law_things n [.dat (enc t)] S = some (.dat (.list (nD (lvs t))), S)
  | 0, t, _, _, h, _ => by cases t <;> simp [dp] at h
  | n + 1, .leaf i, _, _, _, S => by
    rw [show F__law_things (n + 1) = fnRun 1 2 (b__law_things (F__law_things n)) from rfl]
    apply ok_eq
    simp [b__law_things, enc_leaf, lvs, nD]
  | n + 1, .node w ms, hw, hs, hd, S => by
    rw [show F__law_things (n + 1) = fnRun 1 2 (b__law_things (F__law_things n)) from rfl]
    have hR := fun m hm S => things2_eq n m (WfL_iff.mp hw.2 m hm).2 (sz_mem hs m hm) (dp_ms hd m hm) S
    have hl : (ms.flatMap fun m => nD (lvs m)) = nD (lvL ms) := by
      rw [lvL_flat]
      unfold nD
      rw [List.map_flatMap]
    have hlen : (ms.flatMap fun m => nD (lvs m)).length ≤ 16777216 := by
      rw [hl, nD_l]
      have : (lvL ms).length ≤ 60 := hs
      omega
    apply ok_eq
    simp [b__law_things, enc_node]
    refine ok_lc (xs := ms) enc (fun m => .list (nD (lvs m))) (by simp) (fun m hm a => by simp [hR m hm]) ?_
    simp
    rw [ev_SumLL hlen, hl]
    simp
    rfl
end Lw
set_option Elab.async false
set_option linter.all false
set_option maxRecDepth 100000
set_option maxHeartbeats 2000000
namespace Lw
open PySem PySem.Spec PyProof.Rows L2 Me Tm
theorem idxD_nat {i : Nat} : ∀ {X : List Nat}, i ∈ X → idxD (.int (i : Nat)) (nD X) = some (X.idxOf i)
  | [], h => by cases h
  | a :: X, h => by
    show (if PyData.eqv (.int ((a : Nat) : Int)) (.int (i : Nat)) = true then some 0 else bd (idxD (.int (i : Nat)) (nD X)) fun j => some (j + 1)) = _
    rw [eqv_ii]
    by_cases c : a = i
    · subst c; simp
    · have c' : ¬ ((a : Int) = (i : Int)) := by omega
      have hi : i ∈ X := (List.mem_cons.mp h).resolve_left fun e => c e.symm
      rw [idxD_nat hi, List.idxOf_cons, beq_false_of_ne c]
      simp [c']
theorem ev_index {X : List Nat} {i : Nat} {S : Sto} (h : i ∈ X) : oIndex (.dat (.list (nD X))) [.dat (.int (i : Nat))] S = some (.dat (.int ((X.idxOf i : Nat) : Int)), S) := by
  unfold oIndex
  simp only [lsqOf, bd_some, one1, rdP, idxD_nat h, okD_i, nD_ok, Bool.and_self, ↓reduceIte]
theorem isNone_enc (o : Option T) : isNone (.dat (encO o)) = o.isNone := by
  cases o with
  | none => rfl
  | some t => cases t <;> rfl
theorem strikeL_fm (f : Nat → Option Nat) (w : Bool) : ∀ ms : List T, strikeL f w ms = (ms.filterMap (strike f)).flatMap fun l => put w (some l)
  | [] => rfl
  | m :: ms => by
    rw [strikeL, strikeL_fm f w ms]
    cases e : strike f m with
    | none => simp [put, e]
    | some l => simp [e]
theorem strike_few {f : Nat → Option Nat} {w : Bool} {ms : List T} (hw : ∀ m ∈ ms, Wf m) (h : (ms.filterMap (strike f)).length < 2) : strike f (.node w ms) = (ms.filterMap (strike f)).head? := by
  rw [strike, strikeL_fm]
  match e : ms.filterMap (strike f), h with
  | [], _ => rfl
  | [l], _ =>
    have hl : Wf l := by
      have : l ∈ ms.filterMap (strike f) := by rw [e]; simp
      obtain ⟨m, hm, e2⟩ := List.mem_filterMap.mp this
      exact wf_strike f m (hw m hm) l e2
    simp only [List.flatMap_cons, List.flatMap_nil, List.append_nil, List.head?_cons]
    cases l with
    | leaf i => rfl
    | node v ks =>
      rw [put_node]
      by_cases c : (T.node v ks).is w = true
      · rw [if_pos c]
        have cv : v = w := by simpa [T.is] using c
        subst cv
        match ks, hl.1 with
        | a :: b :: r, _ => rfl
      · rw [if_neg c]; rfl
theorem put_len {w : Bool} {l : T} (h : Wf l) : 1 ≤ (put w (some l)).length := by
  cases l with
  | leaf i => simp [put, T.is]
  | node v ks =>
    rw [put_node]
    split
    · have := h.1; omega
    · simp
theorem flat_put {w : Bool} : ∀ {ps : List T}, (∀ p ∈ ps, Wf p) → ps.length ≤ (ps.flatMap fun l => put w (some l)).length
  | [], _ => Nat.le_refl _
  | p :: ps, h => by
    have h1 := put_len (w := w) (h p List.mem_cons_self)
    have h2 := flat_put (w := w) fun q hq => h q (List.mem_cons_of_mem _ hq)
    rw [List.flatMap_cons, List.length_append, List.length_cons]
    omega
theorem mk_two {w : Bool} {ms : List T} (h : 2 ≤ ms.length) : mk w ms = some (.node w ms) := by
  match ms, h with
  | a :: b :: r, _ => rfl
theorem struck2_eq (X : List Nat) : ∀ (n : Nat) (t : T), Wf t → sz t ≤ 60 → dp t ≤ n → ∀ S, F__law_struck n [.dat (enc t), .dat (.list (nD X))] S = some (.dat (encO (strike (idx X) t)), S)
  | 0, t, _, _, h, _ => by cases t <;> simp [dp] at h
  | n + 1, .leaf i, _, _, _, S => by
    rw [show F__law_struck (n + 1) = fnRun 2 5 (b__law_struck (F__law_struck n)) from rfl]
    apply ok_eq
    simp [b__law_struck, enc_leaf, inK_nat]
    by_cases c : i ∈ X
    · simp [c, ev_index c, strike, idx, encO, enc]
    · simp [c, strike, idx, encO]
  | n + 1, .node w ms, hw, hs, hd, S => by
    rw [show F__law_struck (n + 1) = fnRun 2 5 (b__law_struck (F__law_struck n)) from rfl]
    have hwm := WfL_iff.mp hw.2
    have hR := fun m hm S => struck2_eq X n m (hwm m hm).2 (sz_mem hs m hm) (dp_ms hd m hm) S
    have h60 : dpL ms ≤ 60 := by
      have h1 := sz_dp hw hs
      have h2 : dp (.node w ms) = dpL ms + 1 := rfl
      omega
    have hlen : (strikeL (idx X) w ms).length ≤ 60 := by
      have h1 := len_szL (wf_strikeL (idx X) w ms hw.2)
      have h2 : szL (strikeL (idx X) w ms) ≤ szL ms := szL_le
      have h3 : sz (.node w ms) = szL ms := rfl
      omega
    apply ok_eq
    simp [b__law_struck, enc_node]
    refine ok_lc (xs := ms) enc (fun m => encO (strike (idx X) m)) (by simp) (fun m hm a => by simp [hR m hm]) ?_
    simp
    refine ok_lcif (xs := ms) (fun m => encO (strike (idx X) m)) (fun m => !(strike (idx X) m).isNone) (fun m => encO (strike (idx X) m)) (by simp) (fun m hm a => by simp [isNone_enc]) (fun m hm hc a => by simp) ?_
    have e1 : (ms.filter fun m => !(strike (idx X) m).isNone).map (fun m => encO (strike (idx X) m)) = (ms.filterMap (strike (idx X))).map enc := by
      clear hR hw hs hd hwm h60 hlen
      induction ms with
      | nil => rfl
      | cons m ms ih =>
        cases e : strike (idx X) m with
        | none => simp [e]; simpa using ih
        | some l => simp [e]; exact ⟨rfl, by simpa using ih⟩
    rw [e1]
    generalize hps : ms.filterMap (strike (idx X)) = ps
    have hpw : ∀ p ∈ ps, Wf p := fun p hp => by
      rw [← hps] at hp
      obtain ⟨m, hm, e2⟩ := List.mem_filterMap.mp hp
      exact wf_strike _ m (hwm m hm).2 p e2
    have hpd : ∀ p ∈ ps, dp p ≤ 60 := fun p hp => by
      rw [← hps] at hp
      obtain ⟨m, hm, e2⟩ := List.mem_filterMap.mp hp
      have := dp_strike _ m p e2
      have := dp_mem hm
      omega
    have hok := okL hpd
    simp
    by_cases c : ps.length < 2
    · have c' : ((ps.length : Nat) : Int) < 2 := by omega
      have hst := strike_few (f := idx X) (w := w) (fun m hm => (hwm m hm).2) (by rw [hps]; exact c)
      rw [hps] at hst
      simp [c', hok]
      match ps, c, hst, hok with
      | [], _, hst, _ => simp [hst, encO]
      | [l], _, hst, hok => simp [hst, encO]
    · have c' : ¬ ((ps.length : Nat) : Int) < 2 := by omega
      simp [c']
      refine ok_lc (xs := ps) enc (fun l => .list ((put w (some l)).map enc)) (by simp) (fun l hl a => ?_) ?_
      · cases l with
        | leaf i => simp [enc_leaf, put, T.is]
        | node v ks =>
          by_cases cv : v = w
          · subst cv
            simp [enc_node, wd_ok, wd_eqv, put, T.is, T.mem]
          · simp [enc_node, wd_ok, wd_eqv, put, T.is, cv]
      · have e3 : ps.flatMap (fun l => (put w (some l)).map enc) = (strikeL (idx X) w ms).map enc := by
          rw [strikeL_fm, hps, List.map_flatMap]
        have e4 : (ps.flatMap (fun l => (put w (some l)).map enc)).length ≤ 16777216 := by
          rw [e3, List.length_map]
          omega
        have e5 : 2 ≤ (strikeL (idx X) w ms).length := by
          have := flat_put (w := w) hpw
          rw [strikeL_fm, hps]
          omega
        have e6 : encO (strike (idx X) (.node w ms)) = .tuple (wd w :: (strikeL (idx X) w ms).map enc) := by
          rw [strike, mk_two e5]
          exact enc_node _ _
        have e7 : 1 + (strikeL (idx X) w ms).length ≤ 16777216 := by omega
        simp
        rw [ev_SumLL e4, e3]
        simp [e6, e7]
end Lw
set_option Elab.async false
set_option linter.all false
set_option maxRecDepth 100000
set_option maxHeartbeats 2000000
namespace Lw
open PySem PySem.Spec PyProof.Rows L2 Me Tm
theorem foldl_min (l : List Int) (a m : Int) (h1 : m = a ∨ m ∈ l) (h2 : m ≤ a) (h3 : ∀ x ∈ l, m ≤ x) : l.foldl min a = m := by
  induction l generalizing a with
  | nil => rcases h1 with h | h
           · exact h.symm
           · cases h
  | cons b l ih =>
    rw [List.foldl_cons]
    have hb := h3 b List.mem_cons_self
    refine ih (min a b) ?_ (by omega) fun x hx => h3 x (List.mem_cons_of_mem _ hx)
    rcases h1 with h | h
    · left; omega
    · rcases List.mem_cons.mp h with h | h
      · left; omega
      · exact .inr h
theorem minL_of {l : List Nat} {m : Nat} (h : m ∈ l) (k : ∀ x ∈ l, m ≤ x) : minL (l.map fun i => ((i : Nat) : Int)) = some ((m : Nat) : Int) := by
  cases l with
  | nil => cases h
  | cons a l =>
    show some ((l.map fun i => ((i : Nat) : Int)).foldl min (a : Int)) = _
    congr 1
    refine foldl_min _ _ _ ?_ (by have := k a List.mem_cons_self; omega) ?_
    · rcases List.mem_cons.mp h with h | h
      · left; rw [h]
      · right; exact List.mem_map.mpr ⟨m, h, rfl⟩
    · intro x hx
      obtain ⟨y, hy, rfl⟩ := List.mem_map.mp hx
      have := k y (List.mem_cons_of_mem _ hy)
      omega
theorem sort_mn (ps : List T) : isort (ps.map mn) = (byMn ps).map mn := by
  unfold isort byMn
  rw [List.map_mergeSort (r := fun a b : T => decide (mn a ≤ mn b)) (s := leN) (f := mn) fun a _ b _ => rfl]
theorem filt_one {ps : List T} (h : ps.Pairwise fun a b => mn a ≠ mn b) {p : T} (hp : p ∈ ps) : ps.filter (fun x => decide (mn x = mn p)) = [p] := by
  induction ps with
  | nil => cases hp
  | cons a ps ih =>
    have h' := List.pairwise_cons.mp h
    rcases List.mem_cons.mp hp with rfl | hp
    · rw [List.filter_cons_of_pos (by simp)]
      congr 1
      rw [List.filter_eq_nil_iff]
      intro x hx
      have := h'.1 x hx
      simp
      exact fun e => this e.symm
    · have := h'.1 p hp
      rw [List.filter_cons_of_neg (by simpa using this), ih h'.2 hp]
theorem mn_ne {w : Bool} {ms : List T} (hw : WfL w ms) (nd : (lvL ms).Nodup) : ms.Pairwise fun a b => mn a ≠ mn b := by
  have h := dis_mem nd
  refine List.Pairwise.imp_of_mem (fun {a b} ha hb h e => ?_) h
  have h1 := (mn_mem a (WfL_iff.mp hw a ha).2).1
  have h2 := (mn_mem b (WfL_iff.mp hw b hb).2).1
  rw [e] at h1
  exact h _ h1 h2
theorem plain2_eq : ∀ (n : Nat) (t : T), Wf t → (lvs t).Nodup → sz t ≤ 60 → dp t ≤ n → dp t ≤ 40 → ∀ S, F__law_plain n [.dat (enc t)] S = some (.dat (enc (Tm.plain t)), S)
  | 0, t, _, _, _, h, _, _ => by cases t <;> simp [dp] at h
  | n + 1, .leaf i, _, _, _, _, _, S => by
    rw [show F__law_plain (n + 1) = fnRun 1 5 (b__law_plain (F__law_plain n)) from rfl]
    apply ok_eq
    simp [b__law_plain, enc_leaf, Tm.plain]
  | n + 1, .node w ms, hw, nd, hs, hd, h40, S => by
    rw [show F__law_plain (n + 1) = fnRun 1 5 (b__law_plain (F__law_plain n)) from rfl]
    have hwm := WfL_iff.mp hw.2
    have hd4 : ∀ m ∈ ms, dp m ≤ 40 := fun m hm => by
      have := dp_mem hm
      have h4 : dpL ms + 1 ≤ 40 := h40
      omega
    have hnd : ∀ m ∈ ms, (lvs m).Nodup := fun m hm => by
      obtain ⟨p, q, e⟩ := mem_split hm
      have nd' : (lvL ms).Nodup := nd
      rw [e, lvL_split] at nd'
      exact (List.nodup_append.mp (List.nodup_append.mp nd').2.1).1
    have hR := fun m hm S => plain2_eq n m (hwm m hm).2 (hnd m hm) (sz_mem hs m hm) (dp_ms hd m hm) (hd4 m hm) S
    have hml : 1 + ms.length ≤ 16777216 := by
      have h2 := len_szL hw.2
      have h3 : szL ms ≤ 60 := hs
      omega
    have hpl : ms.map (fun m => enc (Tm.plain m)) = (plainL ms).map enc := by rw [plainL_map, List.map_map]; rfl
    apply ok_eq
    simp [b__law_plain, enc_node]
    refine ok_lc (xs := ms) enc (fun m => enc (Tm.plain m)) (by simp) (fun m hm a => by simp [hR m hm]) ?_
    rw [hpl]
    simp [wd_ok, okD_beside, wd_eqb]
    cases w with
    | true =>
      have e6 : enc (Tm.plain (.node true ms)) = .tuple (wd true :: (plainL ms).map enc) := by
        show enc (.node true (plainL ms)) = _
        rw [enc_node]
      have hml' : 1 + (plainL ms).length ≤ 16777216 := by rw [plainL_len]; exact hml
      simp [e6, hml']
    | false =>
      have pw : WfL false (plainL ms) := wf_plainL false ms hw.2
      have pnd : (lvL (plainL ms)).Nodup := (lv_plainL ms).nodup_iff.mpr nd
      have pm : ∀ p ∈ plainL ms, ∀ S, F__law_things 40 [.dat (enc p)] S = some (.dat (.list (nD (lvs p))), S) := fun p hp S => by
        obtain ⟨m, hm, rfl⟩ := plain_mem hp
        exact things2_eq 40 _ (wf_plain m (hwm m hm).2) (by rw [show sz (Tm.plain m) = sz m from (lv_plain m).length_eq]; exact sz_mem hs m hm) (by rw [dp_plain]; exact hd4 m hm) S
      have pmn : ∀ p ∈ plainL ms, minL ((lvs p).map fun i => ((i : Nat) : Int)) = some ((mn p : Nat) : Int) := fun p hp => by
        have h := mn_mem p (WfL_iff.mp pw p hp).2
        exact minL_of h.1 h.2
      simp
      refine ok_lc (xs := plainL ms) enc (fun p => .int ((mn p : Nat) : Int)) (by simp) (fun p hp a => by simp [pm p hp, ints_nD, pmn p hp]) ?_
      have hs2 : sortD ((plainL ms).map fun p => PyData.int ((mn p : Nat) : Int)) = (byMn (plainL ms)).map fun p => PyData.int ((mn p : Nat) : Int) := by
        have h := sortD_nat ((plainL ms).map mn)
        rw [sort_mn] at h
        unfold nD at h
        rw [List.map_map, List.map_map] at h
        exact h
      have hok : SortOk ((plainL ms).map fun p => PyData.int ((mn p : Nat) : Int)) := by
        have h := ok_nat ((plainL ms).map mn)
        unfold nD at h
        rw [List.map_map] at h
        exact h
      simp
      rw [Me.ev_Sorted (by simp) hok hs2]
      simp
      refine ok_lc (xs := byMn (plainL ms)) (fun p => .int ((mn p : Nat) : Int)) enc (by simp) (fun p hp a => ?_) ?_
      · simp
        refine ok_lcif (xs := plainL ms) enc (fun x => decide (mn x = mn p)) enc (by simp) (fun x hx b => ?_) (fun x hx hc b => by simp) ?_
        · simp [pm x hx, ints_nD, pmn x hx]
          omega
        · rw [filt_one (mn_ne pw pnd) ((byMn_perm _).mem_iff.mp hp)]
          simp
      · have e6 : enc (Tm.plain (.node false ms)) = .tuple (wd false :: (byMn (plainL ms)).map enc) := by
          show enc (.node false ((plainL ms).mergeSort fun a b => decide (mn a ≤ mn b))) = _
          rw [enc_node]
          rfl
        have hml' : 1 + (byMn (plainL ms)).length ≤ 16777216 := by rw [(byMn_perm _).length_eq, plainL_len]; exact hml
        simp [e6, hml']
end Lw
set_option Elab.async false
set_option linter.all false
set_option maxRecDepth 100000
set_option maxHeartbeats 2000000
namespace Lw
open PySem PySem.Spec PyProof.Rows L2 Me Tm
theorem ok_refl {d : D} (h : okD d = true) : PyData.eqv d d = true := by
  unfold okD SeqAt.shaped at h
  rw [Bool.and_eq_true] at h
  exact PySem.SeqAt.eqv_refl d h.1
theorem encR_ok (n : Nat) (ps : List Pr) : okD (encR n ps) = true := by
  unfold okD SeqAt.shaped encR
  have h1 : ∀ l : List Pr, PyData.canLayAll0 (l.map encP) = true := fun l => by
    induction l with
    | nil => rfl
    | cons a l ih => simp [encP, PyData.canLayAll0, PyData.canLay0] at *; exact ih
  have h2 : ∀ l : List Pr, PyData.depthAll (l.map encP) ≤ 1 := fun l => by
    induction l with
    | nil => simp [PyData.depthAll]
    | cons a l ih => simp [encP, PyData.depthAll, PyData.depth] at *; omega
  have h3 := h2 ps
  simp [PyData.canLay0, PyData.canLayAll0, PyData.depth, PyData.depthAll, h1]
  omega
mutual
theorem enc_inj : ∀ s t : T, enc s = enc t → s = t
  | .leaf i, .leaf j, h => by
    simp only [enc] at h
    injection h with h
    rw [Int.ofNat.inj h]
  | .leaf i, .node w ms, h => by simp only [enc] at h; cases h
  | .node w ms, .leaf i, h => by simp only [enc] at h; cases h
  | .node w ms, .node v ks, h => by
    simp only [enc] at h
    injection h with h
    injection h with h1 h2
    have hw : w = v := by
      have := wd_eqv w v
      rw [h1, wd_eqv] at this
      simp at this
      exact this
    rw [hw, encL_inj ms ks h2]
theorem encL_inj : ∀ s t : List T, encL s = encL t → s = t
  | [], [], _ => rfl
  | [], _ :: _, h => by simp only [encL] at h; cases h
  | _ :: _, [], h => by simp only [encL] at h; cases h
  | a :: s, b :: t, h => by
    simp only [encL] at h
    injection h with h1 h2
    rw [enc_inj a b h1, encL_inj s t h2]
end
theorem plain_uniq {m : Nat} {s t : T} (gs : Good m s) (gt : Good m t) (h1 : 1 ≤ m) (hm : m ≤ 30) (h : ∀ i j, i < m → j < m → rel s i j = rel t i j) : Tm.plain s = Tm.plain t := by
  have e1 := term_in_eq gs h1 hm []
  have e2 := term_in_eq gt h1 hm []
  rw [canon_congr h] at e1
  rw [e1] at e2
  injection e2 with e2
  injection e2 with e2 e3
  injection e2 with e2
  exact enc_inj _ _ e2
theorem perm_map {l : List Nat} {es : List D} (h : es.Perm (nD l)) : ∃ L : List Nat, L.Perm l ∧ es = nD L := by
  let g : D → Nat := fun d => match d with
    | .int i => i.toNat
    | _ => 0
  refine ⟨es.map g, ?_, ?_⟩
  · have := h.map g
    have e : (nD l).map g = l := by
      unfold nD
      rw [List.map_map]
      have : g ∘ (fun i : Nat => PyData.int (i : Nat)) = id := by
        funext i
        simp [g]
      rw [this, List.map_id]
    rw [e] at this
    exact this
  · unfold nD
    rw [List.map_map]
    have : ∀ d ∈ es, ((fun i : Nat => PyData.int (i : Nat)) ∘ g) d = d := fun d hd => by
      obtain ⟨i, _, rfl⟩ := List.mem_map.mp (h.mem_iff.mp hd)
      simp [g]
    rw [List.map_congr_left this]
    simp
/-- ascending things out of a mixed range -/
theorem take_asc {n c : Nat} {L : List Nat} (h : L.Perm (List.range n)) (h1 : 1 ≤ c) (hn : 1 ≤ n) : (isort (L.take c)).Pairwise (· < ·) ∧ (∀ x ∈ isort (L.take c), x < n) ∧ isort (L.take c) ≠ [] ∧ (isort (L.take c)).length = min c n := by
  have p := isort_perm (L.take c)
  have nd : L.Nodup := h.nodup_iff.mpr List.nodup_range
  have nd2 : (isort (L.take c)).Nodup := p.nodup_iff.mpr (nd.sublist (List.take_sublist ..))
  have hl : (isort (L.take c)).length = min c n := by
    rw [p.length_eq, List.length_take, h.length_eq, List.length_range]
  refine ⟨?_, fun x hx => ?_, fun e => ?_, hl⟩
  · have := isort_sorted (L.take c)
    exact (this.and nd2).imp fun ⟨a, b⟩ => Nat.lt_of_le_of_ne a b
  · have := List.mem_of_mem_take (p.mem_iff.mp hx)
    exact List.mem_range.mp (h.mem_iff.mp this)
  · rw [e] at hl
    simp at hl
    omega
theorem sub_rel {X : List Nat} {r : Nat → Nat → Bool} {a b : Nat} (ha : a < X.length) (hb : b < X.length) : Tm.sub X r a b = r X[a] X[b] := by
  unfold Tm.sub
  rw [List.getElem?_eq_getElem ha, List.getElem?_eq_getElem hb]
end Lw
set_option Elab.async false
set_option linter.all false
set_option maxRecDepth 100000
set_option maxHeartbeats 4000000
namespace Lw
open PySem PySem.Spec PyProof.Rows L2 Me Tm
/-- what holds of a part X of a term t -/
structure Part (n : Nat) (t : T) (X : List Nat) (s : T) : Prop where
  g : Good n t
  lo : 1 ≤ n
  hi : n ≤ 30
  asc : X.Pairwise (· < ·)
  lt : ∀ x ∈ X, x < n
  ne : X ≠ []
  st : strike (idx X) t = some s
  gs : Good X.length s
  rl : ∀ a b, a < X.length → b < X.length → rel s a b = Tm.sub X (rel t) a b
theorem Part.of {n : Nat} {t : T} {X : List Nat} (g : Good n t) (lo : 1 ≤ n) (hi : n ≤ 30) (asc : X.Pairwise (· < ·)) (lt : ∀ x ∈ X, x < n) (ne : X ≠ []) : ∃ s, Part n t X s := by
  obtain ⟨s, e, gs, rl⟩ := struck_good g (lt_nodup asc) lt ne
  exact ⟨s, g, lo, hi, asc, lt, ne, e, gs, rl⟩
theorem Part.m1 {n : Nat} {t s : T} {X : List Nat} (p : Part n t X s) : 1 ≤ X.length := List.length_pos_iff.mpr p.ne
theorem Part.mn {n : Nat} {t s : T} {X : List Nat} (p : Part n t X s) : X.length ≤ n := by
  have := sub_len (lt_nodup p.asc) (ys := List.range n) fun x hx => List.mem_range.mpr (p.lt x hx)
  rw [List.length_range] at this
  exact this
theorem Part.m30 {n : Nat} {t s : T} {X : List Nat} (p : Part n t X s) : X.length ≤ 30 := Nat.le_trans p.mn p.hi
theorem Part.taken {n : Nat} {t s : T} {X : List Nat} (p : Part n t X s) (S : Sto) : F_taken_term [.dat (.int ((n : Nat) : Int)), .dat (enc t), .dat (.tuple (nD X))] S = some (.dat (enc (Tm.plain s)), S) :=
  taken_term_eq p.g p.lo p.hi p.asc p.lt p.ne p.st p.gs S
/-- parts of parts -/
theorem Part.less {n : Nat} {t s u : T} {X Y : List Nat} (p : Part n t X s) (q : Part X.length (Tm.plain s) Y u) : ∃ v, Part n t (Y.map fun a => X.getD a 0) v ∧ Tm.plain v = Tm.plain u := by
  have at_ : ∀ a, a < X.length → X.getD a 0 = X[a]! := fun a h => by simp [List.getD_eq_getElem?_getD, h]
  have ge : ∀ a (h : a < X.length), X.getD a 0 = X[a] := fun a h => by simp [List.getD_eq_getElem?_getD, h]
  have asc : (Y.map fun a => X.getD a 0).Pairwise (· < ·) := by
    refine List.pairwise_map.mpr (List.Pairwise.imp_of_mem (fun {a b} ha hb h => ?_) q.asc)
    rw [ge a (q.lt a ha), ge b (q.lt b hb)]
    exact (List.pairwise_iff_getElem.mp p.asc) a b (q.lt a ha) (q.lt b hb) h
  have lt : ∀ x ∈ Y.map fun a => X.getD a 0, x < n := fun x hx => by
    obtain ⟨a, ha, rfl⟩ := List.mem_map.mp hx
    rw [ge a (q.lt a ha)]
    exact p.lt _ (List.getElem_mem _)
  obtain ⟨v, pv⟩ := Part.of p.g p.lo p.hi asc lt (by simpa using q.ne)
  refine ⟨v, pv, ?_⟩
  have gv : Good Y.length v := by
    have := pv.gs
    rw [List.length_map] at this
    exact this
  refine plain_uniq gv q.gs q.m1 q.m30 fun i j hi hj => ?_
  have hi' : i < (Y.map fun a => X.getD a 0).length := by simpa using hi
  have hj' : j < (Y.map fun a => X.getD a 0).length := by simpa using hj
  have yi := q.lt Y[i] (List.getElem_mem _)
  have yj := q.lt Y[j] (List.getElem_mem _)
  rw [pv.rl i j hi' hj', sub_rel hi' hj', q.rl i j hi hj, sub_rel hi hj, rel_plain, p.rl _ _ yi yj, sub_rel yi yj]
  rw [List.getElem_map, List.getElem_map, ge _ yi, ge _ yj]
theorem Part.turn {n : Nat} {t s : T} {X : List Nat} (p : Part n t X s) : ∃ v, Part n (Tm.plain (turn t)) X v ∧ Tm.plain v = Tm.plain (turn (Tm.plain s)) := by
  obtain ⟨v, pv⟩ := Part.of p.g.turn.plain p.lo p.hi p.asc p.lt p.ne
  refine ⟨v, pv, plain_uniq pv.gs p.gs.plain.turn p.m1 p.m30 fun i j hi hj => ?_⟩
  rw [pv.rl i j hi hj, sub_rel hi hj, rel_plain, rel_turn, rel_turn, rel_plain, p.rl j i hj hi, sub_rel hj hi]
theorem Part.all {n : Nat} {t : T} (g : Good n t) (lo : 1 ≤ n) (hi : n ≤ 30) : ∃ v, Part n t (List.range n) v ∧ Tm.plain v = Tm.plain t := by
  obtain ⟨v, pv⟩ := Part.of g lo hi List.pairwise_lt_range (fun x hx => List.mem_range.mp hx) (by intro h; have := congrArg List.length h; simp at this; omega)
  have gv : Good n v := by
    have := pv.gs
    rw [List.length_range] at this
    exact this
  refine ⟨v, pv, plain_uniq gv g lo hi fun i j h1 h2 => ?_⟩
  have h1' : i < (List.range n).length := by simpa using h1
  have h2' : j < (List.range n).length := by simpa using h2
  rw [pv.rl i j h1' h2', sub_rel h1' h2']
  simp
def nums (t : T) : D := .tuple [.int ((ln t : Nat) : Int), .int ((lt t : Nat) : Int), .int ((ex false t : Nat) : Int), .int ((ex true t : Nat) : Int)]
theorem part_ok {k n : Nat} {t : T} {S : Sto} {Q : P × Sto → Prop} (hd : Dc k S) (g : Good n t) (lo : 1 ≤ n) (hi : n ≤ 30) (q : ∀ S', Up k S S' → Q (.dat (.bool true), S')) : okO (F__law_part_right [.obj k, .dat (.int ((n : Nat) : Int)), .dat (enc t)] S) Q := by
  have hn' : n ≤ 16777216 := by omega
  simp [F__law_part_right, b__law_part_right]
  refine roll_ok (t := n) hd lo (by omega) fun v S1 hv hu1 => ?_
  have le1 : S.length ≤ S1.length := Nat.le_of_eq hu1.len.symm
  simp [le1]
  refine one_of_ok (hu1.dc hd.lt) ?_ ?_ fun d S2 hd2 hu2 => ?_
  · simp
  · simp
  have hc : ∃ z : Int, d = .int z := by
    simp at hd2
    rcases hd2 with h | h | h | h | h <;> exact ⟨_, h⟩
  obtain ⟨z, rfl⟩ := hc
  have u2 := hu1.trans hu2
  have le2 : S.length ≤ S2.length := Nat.le_of_eq u2.len.symm
  simp [hn', le2]
  refine mixed_ok (u2.dc hd.lt) (by simp; omega) fun es S3 hp hu3 => ?_
  obtain ⟨L, hL, rfl⟩ := perm_map hp
  have u3 := u2.trans hu3
  have le3 : S2.length ≤ S3.length := Nat.le_of_eq hu3.len.symm
  have cex : ∀ y : Int, ∃ c : Nat, 1 ≤ c ∧ (if y > 1 then y else 1) = (c : Int) := fun y => by
    by_cases h : y > 1
    · exact ⟨y.toNat, by omega, by rw [if_pos h]; omega⟩
    · exact ⟨1, by omega, by rw [if_neg h]; rfl⟩
  obtain ⟨c, hc1, hc2⟩ := cex (if z < (n : Int) then z else (n : Int))
  obtain ⟨asc, hlt, hne, hlen⟩ := take_asc hL hc1 lo
  have hsrt : sortD (nD (L.take c)) = nD (isort (L.take c)) := sortD_nat _
  generalize hX : isort (L.take c) = X at *
  obtain ⟨s, p⟩ := Part.of g lo hi asc hlt hne
  have hcut : cutD (nD L) none (some (c : Int)) = nD (L.take c) := by rw [cutD_to]; unfold nD; rw [List.map_take]
  obtain ⟨_, k2, k3⟩ := good_ok g hi
  obtain ⟨_, s2, s3⟩ := good_ok p.gs p.m30
  have gp := p.gs.plain
  obtain ⟨_, p2, p3⟩ := good_ok gp p.m30
  have hS : ∀ S, F__law_struck 40 [.dat (enc t), .dat (.list (nD X))] S = some (.dat (enc s), S) := fun S => by
    have := struck2_eq X 40 t g.wf k2 k3 S
    rw [p.st] at this
    exact this
  have hPl : ∀ S, F__law_plain 40 [.dat (enc s)] S = some (.dat (enc (Tm.plain s)), S) := fun S => plain2_eq 40 s p.gs.wf p.gs.nd s2 s3 s3 S
  have hT := p.taken
  have hO := fun S => order_eq g lo hi S
  have hI := fun S => is_term_eq gp p.m1 p.m30 S
  have o1 := Ord.of g lo hi
  have o2 := Ord.of p.gs p.m1 p.m30
  have c1 : canon X.length (rel (Tm.plain s)) = canon X.length (rel s) := canon_congr fun i j _ _ => rel_plain i j s
  have c2 : canon X.length (Tm.sub X (rel t)) = canon X.length (rel s) := canon_congr fun i j hi hj => (p.rl i j hi hj).symm
  have hO2 := fun S => order_eq gp p.m1 p.m30 S
  rw [c1] at hO2
  have hTk := fun S => taken_order_eq o1 asc hlt hne S
  rw [c2] at hTk
  have hTo := fun S => term_of_eq p.gs p.m1 p.m30 S
  have kE : ∀ u : T, dp u ≤ 60 → okD (enc u) = true ∧ PyData.eqv (enc u) (enc u) = true := fun u h => ⟨enc_ok h, ok_refl (enc_ok h)⟩
  have kp := kE (Tm.plain s) (by omega)
  have kR := encR_ok X.length (canon X.length (rel s))
  have kR2 := ok_refl kR
  simp
  rw [hc2]
  simp [hcut, le3]
  rw [Me.ev_Sorted (by simp) (ok_nat _) hsrt]
  simp [le3, hS, hPl, hT, hO, hI, hO2, hTk, hTo, kp.1, kp.2, kR, kR2, nD_l]
  have hm' : X.length ≤ 16777216 := by have := p.m30; omega
  simp [hm']
  refine mixed_ok (u3.dc hd.lt) (by simp; have := p.m30; omega) fun es2 S4 hp2 hu4 => ?_
  obtain ⟨L2, hL2, rfl⟩ := perm_map hp2
  have u4 := u3.trans hu4
  simp [nD_l]
  refine roll_ok (t := X.length) (u4.dc hd.lt) p.m1 (by have := p.m30; omega) fun v2 S5 hv2 hu5 => ?_
  have u5 := u4.trans hu5
  have le5 : S3.length ≤ S5.length := Nat.le_of_eq (by rw [u5.len, u3.len])
  have hcut2 : cutD (nD L2) none (some (1 + (v2 : Int))) = nD (L2.take (v2 + 1)) := by
    rw [show (1 : Int) + (v2 : Int) = ((v2 + 1 : Nat) : Int) by omega, cutD_to]
    unfold nD
    rw [List.map_take]
  obtain ⟨asc2, hlt2, hne2, hlen2⟩ := take_asc hL2 (show 1 ≤ v2 + 1 by omega) p.m1
  have hsrt2 : sortD (nD (L2.take (v2 + 1))) = nD (isort (L2.take (v2 + 1))) := sortD_nat _
  generalize hY : isort (L2.take (v2 + 1)) = Y at *
  obtain ⟨u, r⟩ := Part.of gp p.m1 p.m30 asc2 hlt2 hne2
  obtain ⟨v3, pv3, ev3⟩ := p.less r
  have hT2 := r.taken
  have hT3 := pv3.taken
  rw [ev3] at hT3
  have ku := kE (Tm.plain u) (by
    have := good_ok r.gs.plain r.m30
    omega)
  simp [hcut2, le5]
  rw [Me.ev_Sorted (by simp) (ok_nat _) hsrt2]
  simp [le5, hT2, nD_l]
  refine ok_lc (xs := Y) (fun i => .int ((i : Nat) : Int)) (fun a => .int ((X.getD a 0 : Nat) : Int)) (by simp [nD]) (fun a ha b => ?_) ?_
  · have hax := hlt2 a ha
    have : (nD X)[a]? = some (.int ((X.getD a 0 : Nat) : Int)) := by
      simp [nD, List.getD_eq_getElem?_getD, hax]
    simp [-getElem?_pos, this]
  · have hZ : (Y.map fun a => PyData.int ((X.getD a 0 : Nat) : Int)) = nD (Y.map fun a => X.getD a 0) := by
      unfold nD
      rw [List.map_map]
      rfl
    rw [hZ]
    generalize hZe : (Y.map fun a => X.getD a 0) = Z at *
    obtain ⟨v4, pv4, ev4⟩ := p.turn
    have hTu := fun S => turned_term_eq g lo hi S
    have hT4 := pv4.taken
    rw [ev4] at hT4
    have hTu2 := fun S => turned_term_eq gp p.m1 p.m30 S
    have hTd := fun S => turned_order_eq o2 S
    have gV := p.gs.plain.turn
    have c3 : canon X.length (fun i j => rel s j i) = canon X.length (rel (turn (Tm.plain s))) := canon_congr fun i j _ _ => by rw [rel_turn, rel_plain]
    rw [c3] at hTd
    have hTo2 := fun S => term_of_eq gV p.m1 p.m30 S
    have kV := kE (Tm.plain (turn (Tm.plain s))) (by
      have := good_ok gV.plain p.m30
      omega)
    have hN1 := fun S => numbers_eq g lo hi S
    have hN2 := fun S => numbers_eq gp p.m1 p.m30 S
    have b1 := ln_part p.st
    have b2 := lt_part p.st
    have b3 := ex_part false p.st
    have b4 := ex_part true p.st
    have zt : sz t = n := by have := g.pm.length_eq; rw [List.length_range] at this; exact this
    have zs : sz s = X.length := by have := p.gs.pm.length_eq; rw [List.length_range] at this; exact this
    rw [zt, zs] at b3 b4
    obtain ⟨v5, pv5, ev5⟩ := Part.all g lo hi
    have hT5 := pv5.taken
    rw [ev5] at hT5
    have hP := fun S => plain_term_eq g lo hi S
    have hL5 : ∀ S, F__law_plain 40 [.dat (enc t)] S = some (.dat (enc (Tm.plain t)), S) := fun S => plain2_eq 40 t g.wf g.nd k2 k3 k3 S
    have kt := kE (Tm.plain t) (by
      have := good_ok g.plain hi
      omega)
    simp [hT3, ku.1, ku.2, nD_l, hTu, hT4, hTu2, kV.1, kV.2, hTk, hTd, hTo2, hN1, hN2]
    refine ok_lcif (xs := [(ln (Tm.plain s), ln t), (lt (Tm.plain s), lt t), (ex false (Tm.plain s), ex false t), (ex true (Tm.plain s), ex true t)]) (fun p => .tuple [.int ((p.1 : Nat) : Int), .int ((p.2 : Nat) : Int)]) (fun p => decide ((p.2 : Int) < (p.1 : Int))) (fun _ => .int 1) ?_ ?_ ?_ ?_
    · simp [zpD]
    · intro p hp a
      simp
    · intro p hp hc a
      simp
    · have d1 : ¬ ((ln t : Nat) : Int) < (ln (Tm.plain s) : Nat) := by omega
      have d2 : ¬ ((lt t : Nat) : Int) < (lt (Tm.plain s) : Nat) := by omega
      have d3 : ¬ ((ex false t : Nat) : Int) < (ex false (Tm.plain s) : Nat) := by omega
      have d4 : ¬ ((ex true t : Nat) : Int) < (ex true (Tm.plain s) : Nat) := by omega
      have d5 : ¬ ((n : Nat) : Int) - (X.length : Nat) < ((ex false t : Nat) : Int) - (ex false (Tm.plain s) : Nat) := by omega
      have d6 : ¬ ((n : Nat) : Int) - (X.length : Nat) < ((ex true t : Nat) : Int) - (ex true (Tm.plain s) : Nat) := by omega
      simp only [List.filter_cons, List.filter_nil, d1, d2, d3, d4, decide_false, Bool.false_eq_true, if_false, List.map_nil]
      have hTr : ∀ S, F_taken_term [.dat (.int ((n : Nat) : Int)), .dat (enc t), .dat (.tuple ((List.range n).map fun i => PyData.int ((i : Nat) : Int)))] S = some (.dat (enc (Tm.plain t)), S) := hT5
      simp [d5, d6, nD_l, hn', hTr, hP, hL5, kt.1, kt.2, take_len u5.len]
      exact q S5 u5
end Lw
set_option Elab.async false
set_option linter.all false
set_option maxRecDepth 100000
set_option maxHeartbeats 4000000
namespace Lw
open PySem PySem.Spec PyProof.Rows L2 Me Tm
theorem pow16 (S : Sto) : oPow (.dat (.int 10)) (.dat (.int 16)) S = some (.dat (.int 10000000000000000), S) := IIc_pos (by decide +kernel)
theorem pow55 (S : Sto) : oPow (.dat (.int 10)) (.dat (.int 55)) S = some (.dat (.int 10000000000000000000000000000000000000000000000000000000), S) := IIc_pos (by decide +kernel)
theorem dice_gen (z : Int) {s : Nat} (hs : s ≤ 2) : 0 ≤ (z % 18446744073709551557 + 7919 * (s : Int)) % 18446744073709551616 := Int.emod_nonneg _ (by decide)
theorem dice_ok {ns : List Int} {s : Nat} {S : Sto} {Q : P × Sto → Prop} (hs : s ≤ 2) (q : ∀ a b : Int, 0 ≤ b → b < 18446744073709551616 → Q (.obj S.length, S ++ [dcL a b])) : okO (F__law_dice [.fz (ns.map .int), .dat (.int ((s : Nat) : Int))] S) Q := by
  have b200 : ∀ a : Int, a.natAbs ≤ 10000 → a.natAbs < 2 ^ 200 := fun a h => lt200 h (by decide +kernel)
  have m1 := fun S => ev_Mul_i (S := S) (i := 131) (j := (s : Int)) (mulOk_of (b200 _ (by decide)) (b200 _ (by omega)))
  have m2 := fun S => ev_Mul_i (S := S) (i := 7919) (j := (s : Int)) (mulOk_of (b200 _ (by decide)) (b200 _ (by omega)))
  have m3 := fun S => ev_Mul_i (S := S) (i := 31) (j := 1) (mulOk_of (b200 _ (by decide)) (b200 _ (by omega)))
  have m4 := fun S => ev_Mul_i (S := S) (i := 31) (j := 0) (mulOk_of (b200 _ (by decide)) (b200 _ (by omega)))
  have m5 := fun S => ev_Mul_i (S := S) (i := 10000000000000000000000000000000000000000000000000000000) (j := 10000000000000000000000000000000000000000000000000000000) (mulOk_of (by decide +kernel) (by decide +kernel))
  have d1 := fun i S => ev_Mod (S := S) (i := i) (j := 18446744073709551557) (by decide)
  have d2 := fun i S => ev_Mod (S := S) (i := i) (j := 18446744073709551616) (by decide)
  have d3 := fun i S => ev_Mod (S := S) (i := i) (j := 100000000000000000000000000000000000000000000000000000000000000000000000000000000000000000000000000000000000000) (by decide)
  by_cases c : s < ns.length
  · have e : (ns.map PyData.int)[s]? = some (.int ns[s]) := by simp [c]
    generalize ns[s] = z at e
    by_cases h : z < 0
    · simp [-getElem?_pos, F__law_dice, b__law_dice, c, e, pow16, pow55, m2, m3, m5, d1, d2, d3, h]
      exact q _ _ (Int.emod_nonneg _ (by decide)) (Int.emod_lt_of_pos _ (by decide))
    · simp [-getElem?_pos, F__law_dice, b__law_dice, c, e, pow16, pow55, m2, m4, m5, d1, d2, d3, h]
      exact q _ _ (Int.emod_nonneg _ (by decide)) (Int.emod_lt_of_pos _ (by decide))
  · have h : ¬ 131 * (s : Int) + 71 < 0 := by omega
    simp [F__law_dice, b__law_dice, c, m1, pow16, pow55, m2, m4, m5, d1, d2, d3, h]
    exact q _ _ (Int.emod_nonneg _ (by decide)) (Int.emod_lt_of_pos _ (by decide))
end Lw
set_option Elab.async false
set_option linter.all false
set_option maxRecDepth 100000
set_option maxHeartbeats 4000000
namespace Tm
def lf (l : List Nat) : List T := l.map .leaf
theorem lvL_lf (l : List Nat) : lvL (lf l) = l := by
  induction l with
  | nil => rfl
  | cons a l ih =>
    show [a] ++ lvL (lf l) = _
    rw [ih]
    rfl
theorem WfL_lf (w : Bool) (l : List Nat) : WfL w (lf l) := WfL_iff.mpr fun m hm => by
  obtain ⟨i, _, rfl⟩ := List.mem_map.mp hm
  exact ⟨rfl, trivial⟩
def lev (a : Nat) : T := .node false [.leaf (3 * a), .leaf (3 * a + 1), .leaf (3 * a + 2)]
theorem lvL_lev (n : Nat) : lvL ((List.range n).map lev) = List.range (3 * n) := by
  induction n with
  | zero => rfl
  | succ n ih =>
    rw [List.range_succ, List.map_append, lvL_app, ih]
    show _ ++ ([3 * n] ++ ([3 * n + 1] ++ ([3 * n + 2] ++ [])) ++ []) = _
    rw [show 3 * (n + 1) = 3 * n + 1 + 1 + 1 by omega, List.range_succ, List.range_succ, List.range_succ]
    simp
theorem Good.levels {n : Nat} (h : 2 ≤ n) : Good (3 * n) (.node true ((List.range n).map lev)) := by
  refine ⟨⟨by simpa using h, WfL_iff.mpr fun m hm => ?_⟩, ?_⟩
  · obtain ⟨a, _, rfl⟩ := List.mem_map.mp hm
    exact ⟨rfl, by simp, ⟨rfl, trivial⟩, ⟨rfl, trivial⟩, ⟨rfl, trivial⟩, trivial⟩
  · show (lvL _).Perm _
    rw [lvL_lev]
theorem Good.row {n : Nat} {w : Bool} (h : 2 ≤ n) : Good n (.node w (lf (List.range n))) := by
  refine ⟨⟨by simpa [lf] using h, WfL_lf _ _⟩, ?_⟩
  show (lvL _).Perm _
  rw [lvL_lf]
end Tm
namespace Lw
open PySem PySem.Spec PyProof.Rows L2 Me Tm
theorem enc_row (w : Bool) (l : List Nat) : enc (.node w (lf l)) = .tuple (wd w :: nD l) := by
  rw [enc_node]
  unfold lf nD
  rw [List.map_map]
  rfl
theorem enc_levels (n : Nat) : enc (.node true ((List.range n).map lev)) = .tuple (.str "behind" :: (List.range n).map fun a : Nat => .tuple [.str "beside", .int (3 * (a : Int)), .int (3 * (a : Int) + 1), .int (3 * (a : Int) + 2)]) := by
  rw [enc_node, List.map_map]
  have e : ∀ a : Nat, enc (lev a) = .tuple [.str "beside", .int (3 * (a : Int)), .int (3 * (a : Int) + 1), .int (3 * (a : Int) + 2)] := fun a => by
    unfold lev
    rw [enc_node]
    simp [enc_leaf, wd]
  have e2 : enc ∘ lev = fun a : Nat => .tuple [.str "beside", .int (3 * (a : Int)), .int (3 * (a : Int) + 1), .int (3 * (a : Int) + 2)] := funext e
  rw [e2]
  rfl
def t1 : T := .node true [.leaf 0, .node false [.leaf 1, .leaf 2], .leaf 3]
def t2 : T := .node false [.node true [.leaf 0, .node false [.leaf 1, .leaf 2]], .leaf 3]
theorem g1 : Good 4 t1 := ⟨⟨by decide, ⟨rfl, trivial⟩, ⟨rfl, by decide, ⟨rfl, trivial⟩, ⟨rfl, trivial⟩, trivial⟩, ⟨rfl, trivial⟩, trivial⟩, .refl _⟩
theorem g2 : Good 4 t2 := ⟨⟨by decide, ⟨rfl, by decide, ⟨rfl, trivial⟩, ⟨rfl, by decide, ⟨rfl, trivial⟩, ⟨rfl, trivial⟩, trivial⟩, trivial⟩, ⟨rfl, trivial⟩, trivial⟩, .refl _⟩
theorem plain_row (l : List Nat) (h : l.Pairwise (· ≤ ·)) (w : Bool) : Tm.plain (.node w (lf l)) = .node w (lf l) := by
  have e : plainL (lf l) = lf l := by
    rw [plainL_map]
    unfold lf
    rw [List.map_map]
    rfl
  cases w with
  | true => show T.node true (plainL (lf l)) = _; rw [e]
  | false =>
    show T.node false ((plainL (lf l)).mergeSort _) = _
    rw [e, List.mergeSort_of_pairwise]
    unfold lf
    exact List.pairwise_map.mpr (h.imp fun h => decide_eq_true h)
theorem a1 (S : Sto) : F_taken_term [.dat (.int 4), .dat (enc t1), .dat (.tuple [.int 0, .int 1, .int 3])] S = some (.dat (enc (.node true (lf [0, 1, 2]))), S) := by
  have := taken_term_eq (X := [0, 1, 3]) (s := .node true (lf [0, 1, 2])) g1 (by decide) (by decide) (by decide) (by decide) (by decide) (by rfl) (Good.row (by decide)) S
  rw [plain_row _ (by decide)] at this
  exact this
theorem a2 (S : Sto) : F_taken_term [.dat (.int 4), .dat (enc t1), .dat (.tuple [.int 1, .int 2])] S = some (.dat (enc (.node false (lf [0, 1]))), S) := by
  have := taken_term_eq (X := [1, 2]) (s := .node false (lf [0, 1])) g1 (by decide) (by decide) (by decide) (by decide) (by decide) (by rfl) (Good.row (by decide)) S
  rw [plain_row _ (by decide)] at this
  exact this
theorem a3 (S : Sto) : F_taken_term [.dat (.int 4), .dat (enc t1), .dat (.tuple [.int 2])] S = some (.dat (enc (.leaf 0)), S) :=
  taken_term_eq (X := [2]) (s := .leaf 0) g1 (by decide) (by decide) (by decide) (by decide) (by decide) (by rfl) ⟨trivial, .refl _⟩ S
def t3 : T := .node true [.leaf 0, .node false [.leaf 1, .leaf 2]]
theorem a4 (S : Sto) : F_taken_term [.dat (.int 4), .dat (enc t1), .dat (.tuple [.int 0, .int 1, .int 2])] S = some (.dat (enc t3), S) := by
  have := taken_term_eq (X := [0, 1, 2]) (s := t3) g1 (by decide) (by decide) (by decide) (by decide) (by decide) (by rfl) ⟨⟨by decide, ⟨rfl, trivial⟩, ⟨rfl, by decide, ⟨rfl, trivial⟩, ⟨rfl, trivial⟩, trivial⟩, trivial⟩, .refl _⟩ S
  have e : Tm.plain t3 = t3 := by
    show T.node true [.leaf 0, Tm.plain (.node false (lf [1, 2]))] = _
    rw [plain_row _ (by decide)]
    rfl
  rw [e] at this
  exact this
theorem a5 (S : Sto) : F_taken_term [.dat (.int 4), .dat (enc t2), .dat (.tuple [.int 1, .int 2, .int 3])] S = some (.dat (enc (.node false (lf [0, 1, 2]))), S) := by
  have := taken_term_eq (X := [1, 2, 3]) (s := .node false (lf [0, 1, 2])) g2 (by decide) (by decide) (by decide) (by decide) (by decide) (by rfl) (Good.row (by decide)) S
  rw [plain_row _ (by decide)] at this
  exact this
end Lw
set_option Elab.async false
set_option linter.all false
set_option maxRecDepth 100000
set_option maxHeartbeats 8000000
namespace Lw
open PySem PySem.Spec PyProof.Rows L2 Me Tm
/-- the spots -/
def QR (ns : List Int) (pre : List Nat) (ρ : Ev) (S' : Sto) : Prop := ∃ z1 z2 z3 z4 z5 z6 z7 z8 z9, ρ = [some (.fz (ns.map .int)), z1, z2, z3, z4, z5, z6, z7, z8, z9]
/-- the widths -/
def VQ (ns : List Int) (k : Nat) (z1 : Option P) (pre : List Nat) (ρ : Ev) (S' : Sto) : Prop := (∃ z3 z4 z5 z6 z7 z8 z9, ρ = [some (.fz (ns.map .int)), z1, some (.obj k), z3, z4, z5, z6, z7, z8, z9]) ∧ Dc k S'
theorem law_true (ns : List Int) (h : ns.length ≤ 63) : ∃ S', F_law [.fz (ns.map .int)] [] = some (.dat (.bool true), S') := by
  suffices hh : okO (F_law [.fz (ns.map .int)] []) fun r => r.1 = .dat (.bool true) by
    obtain ⟨⟨p, S'⟩, e, e2⟩ := hh
    have e2 : p = .dat (.bool true) := e2
    subst e2
    exact ⟨S', e⟩
  obtain ⟨c, hc1, hc2, hc3⟩ : ∃ c : Nat, 1 ≤ c ∧ c ≤ 2 ∧ (if (if ((ns.length : Nat) : Int) < 2 then ((ns.length : Nat) : Int) else 2) > 1 then (if ((ns.length : Nat) : Int) < 2 then ((ns.length : Nat) : Int) else 2) else 1) = (c : Int) := by
    by_cases a : ((ns.length : Nat) : Int) < 2
    · refine ⟨1, by omega, by omega, ?_⟩
      rw [if_pos a, if_neg (by omega)]
      rfl
    · refine ⟨2, by omega, by omega, ?_⟩
      rw [if_neg a, if_pos (by omega)]
      rfl
  have hc16 : c ≤ 16777216 := by omega
  simp [F_law, b_law]
  refine ok_for (xs := List.range c) (fun i => .int ((i : Nat) : Int)) (QR ns) (S0 := []) ?_ ⟨_, _, _, _, _, _, _, _, _, rfl⟩ ?_ ?_
  · simp
    rw [hc3]
    simp [hc16]
  · rintro pre s suf ρ S' hcut ⟨z1, z2, z3, z4, z5, z6, z7, z8, z9, rfl⟩
    have hs : s ≤ 2 := by
      have : s ∈ List.range c := by rw [← hcut]; simp
      have := List.mem_range.mp this
      omega
    simp
    refine dice_ok hs fun a b b1 b2 => ?_
    have hD : Dc S'.length (S' ++ [dcL a b]) := ⟨a, b, b1, b2, by simp⟩
    generalize hk : S'.length = k at *
    generalize S' ++ [dcL a b] = S0 at *
    simp
    refine ok_for (xs := [5, 12, 30]) (fun i => .int ((i : Nat) : Int)) (VQ ns k (some (.dat (.int ((s : Nat) : Int))))) (S0 := S0) ?_ ⟨⟨_, _, _, _, _, _, _, rfl⟩, hD⟩ ?_ ?_
    · simp
    · rintro pre2 wd2 suf2 ρ S1 hcut2 ⟨⟨z3, z4, z5, z6, z7, z8, z9, rfl⟩, hD1⟩
      have hw : 1 ≤ wd2 ∧ wd2 ≤ 30 := by
        have : wd2 ∈ [5, 12, 30] := by rw [← hcut2]; simp
        simp at this
        omega
      simp
      refine roll_ok (t := wd2) hD1 hw.1 (by omega) fun v S2 hv hu2 => ?_
      obtain ⟨m, hm, m1, m30⟩ : ∃ m : Nat, (1 : Int) + (v : Int) = (m : Int) ∧ 1 ≤ m ∧ m ≤ 30 := ⟨v + 1, by omega, by omega, by omega⟩
      have hD2 := hu2.dc hD1.lt
      have m16 : m ≤ 16777216 := by omega
      simp [hm, m16]
      refine mixed_ok hD2 (by simp; omega) fun es S3 hp hu3 => ?_
      obtain ⟨L, hL, rfl⟩ := perm_map hp
      have hD3 := hu3.dc hD2.lt
      have hll : L.length = m := by rw [hL.length_eq, List.length_range]
      simp
      refine term_ok 40 k S3 L none _ hD3 (by intro e; rw [e] at hll; simp at hll; omega) (by omega) (by omega) fun t S4 e1 e2 _ hu4 => ?_
      have hD4 := hu4.dc hD3.lt
      have g : Good m t := ⟨e2, by rw [e1]; exact hL⟩
      simp
      refine part_ok hD4 g m1 m30 fun S5 hu5 => ?_
      have hD5 := hu5.dc hD4.lt
      simp
      refine part_ok hD5 g m1 m30 fun S6 hu6 => ?_
      simp
      exact ⟨⟨_, _, _, _, _, _, _, rfl⟩, hu6.dc hD5.lt⟩
    · rintro ρ S1 ⟨⟨z3, z4, z5, z6, z7, z8, z9, rfl⟩, hD1⟩
      simp
      refine roll_ok (t := 29) hD1 (by decide) (by decide) fun v S2 hv hu2 => ?_
      obtain ⟨m, hm, m2, m30⟩ : ∃ m : Nat, (2 : Int) + (v : Int) = (m : Int) ∧ 2 ≤ m ∧ m ≤ 30 := ⟨v + 2, by omega, by omega, by omega⟩
      have hD2 := hu2.dc hD1.lt
      have m16 : m ≤ 16777216 := by omega
      simp [hm]
      refine one_of_ok hD2 ?_ ?_ fun d S3 hd hu3 => ?_
      · simp
      · simp
      have hD3 := hu3.dc hD2.lt
      obtain ⟨w, rfl⟩ : ∃ w, d = wd w := by
        simp at hd
        rcases hd with h | h
        · exact ⟨true, h⟩
        · exact ⟨false, h⟩
      simp
      refine deep_ok m2 m30 fun t g => ?_
      simp
      refine part_ok hD3 g (by omega) m30 fun S4 hu4 => ?_
      have hD4 := hu4.dc hD3.lt
      simp
      refine ok_lcW ?_
      simp
      refine roll_ok (t := 9) hD4 (by decide) (by decide) fun v3 S5 hv3 hu5 => ?_
      obtain ⟨l, hl, l2, l10⟩ : ∃ l : Nat, (2 : Int) + (v3 : Int) = (l : Int) ∧ 2 ≤ l ∧ l ≤ 10 := ⟨v3 + 2, by omega, by omega, by omega⟩
      have hD5 := hu5.dc hD4.lt
      have l16 : l ≤ 16777216 := by omega
      have le5 : S4.length ≤ S5.length := Nat.le_of_eq hu5.len.symm
      have m3 : ∀ (a : Nat) (S : Sto), a ≤ 10 → oMul (.dat (.int 3)) (.dat (.int ((a : Nat) : Int))) S = some (.dat (.int (3 * (a : Int))), S) := fun a S ha =>
        ev_Mul_i (S := S) (mulOk_of (by decide +kernel) (lt200 (m := 10) (by omega) (by decide +kernel)))
      simp [hl, l16]
      refine ok_lc (xs := List.range l) (fun i => .int ((i : Nat) : Int)) (fun a => .tuple [.str "beside", .int (3 * (a : Int)), .int (3 * (a : Int) + 1), .int (3 * (a : Int) + 2)]) (by simp) (fun a ha b => ?_) ?_
      · have := List.mem_range.mp ha
        simp [m3 a _ (by omega)]
      · have hE := enc_levels l
        have hl1 : 1 + l ≤ 16777216 := by omega
        have hm1 : 1 + m ≤ 16777216 := by omega
        have g3 := Good.levels l2
        have e3 : (3 : Int) * (l : Int) = ((3 * l : Nat) : Int) := by omega
        have hP1 : ∀ (S : Sto) (Q : P × Sto → Prop), Dc k S → (∀ S', Up k S S' → Q (.dat (.bool true), S')) → okO (F__law_part_right [.obj k, .dat (.int (3 * (l : Int))), .dat (.tuple (.str "behind" :: (List.range l).map fun a : Nat => .tuple [.str "beside", .int (3 * (a : Int)), .int (3 * (a : Int) + 1), .int (3 * (a : Int) + 2)]))] S) Q := fun S Q h q => by
          rw [e3, ← hE]
          exact part_ok h g3 (by omega) (by omega) q
        have gr := Good.row (w := true) m2
        have hP2 : ∀ (S : Sto) (Q : P × Sto → Prop), Dc k S → (∀ S', Up k S S' → Q (.dat (.bool true), S')) → okO (F__law_part_right [.obj k, .dat (.int (m : Int)), .dat (.tuple (.str "behind" :: (List.range m).map fun a : Nat => .int (a : Int)))] S) Q := fun S Q h q => by
          have hE2 := enc_row true (List.range m)
          have hE2 : enc (.node true (lf (List.range m))) = .tuple (.str "behind" :: (List.range m).map fun a : Nat => .int (a : Int)) := hE2
          rw [← hE2]
          exact part_ok h gr (by omega) m30 q
        simp [le5, m3 l _ l10, hl1]
        refine hP1 S5 _ hD5 fun S6 hu6 => ?_
        have hD6 := hu6.dc hD5.lt
        simp [m16, hm1]
        refine hP2 S6 _ hD6 fun S7 hu7 => ?_
        simp
        exact ⟨_, _, _, _, _, _, _, _, _, rfl⟩
  · rintro ρ S' ⟨z1, z2, z3, z4, z5, z6, z7, z8, z9, rfl⟩
    have f1 : ∀ S, F_taken_term [.dat (.int 4), .dat (.tuple [.str "behind", .int 0, .tuple [.str "beside", .int 1, .int 2], .int 3]), .dat (.tuple [.int 0, .int 1, .int 3])] S = some (.dat (.tuple [.str "behind", .int 0, .int 1, .int 2]), S) := a1
    have f2 : ∀ S, F_taken_term [.dat (.int 4), .dat (.tuple [.str "behind", .int 0, .tuple [.str "beside", .int 1, .int 2], .int 3]), .dat (.tuple [.int 1, .int 2])] S = some (.dat (.tuple [.str "beside", .int 0, .int 1]), S) := a2
    have f3 : ∀ S, F_taken_term [.dat (.int 4), .dat (.tuple [.str "behind", .int 0, .tuple [.str "beside", .int 1, .int 2], .int 3]), .dat (.tuple [.int 2])] S = some (.dat (.int 0), S) := a3
    have f4 : ∀ S, F_taken_term [.dat (.int 4), .dat (.tuple [.str "behind", .int 0, .tuple [.str "beside", .int 1, .int 2], .int 3]), .dat (.tuple [.int 0, .int 1, .int 2])] S = some (.dat (.tuple [.str "behind", .int 0, .tuple [.str "beside", .int 1, .int 2]]), S) := a4
    have f5 : ∀ S, F_taken_term [.dat (.int 4), .dat (.tuple [.str "beside", .tuple [.str "behind", .int 0, .tuple [.str "beside", .int 1, .int 2]], .int 3]), .dat (.tuple [.int 1, .int 2, .int 3])] S = some (.dat (.tuple [.str "beside", .int 0, .int 1, .int 2]), S) := a5
    simp
    refine ok_lc (xs := [(PyData.tuple [.int 0, .int 1, .int 3], PyData.tuple [.str "behind", .int 0, .int 1, .int 2]), (.tuple [.int 1, .int 2], .tuple [.str "beside", .int 0, .int 1]), (.tuple [.int 2], .int 0), (.tuple [.int 0, .int 1, .int 2], .tuple [.str "behind", .int 0, .tuple [.str "beside", .int 1, .int 2]])]) (·.1) (·.2) (by simp) (fun x hx a => ?_) ?_
    · simp only [List.mem_cons, List.not_mem_nil, or_false] at hx
      rcases hx with rfl | rfl | rfl | rfl <;> simp [f1, f2, f3, f4]
    · have k1 : okD (.list [.tuple [.str "behind", .int 0, .int 1, .int 2], .tuple [.str "beside", .int 0, .int 1], .int 0, .tuple [.str "behind", .int 0, .tuple [.str "beside", .int 1, .int 2]]]) = true := by decide +kernel
      have k2 : okD (.tuple [.str "beside", .int 0, .int 1, .int 2]) = true := by decide +kernel
      simp [k1, k2, ok_refl k1, ok_refl k2, f5]
theorem ints_rp {H : Hp} {α : Ad} : ∀ ns : List Int, RpL H α (ns.map V.int) (ns.map .int)
  | [] => .nil
  | i :: ns => .cons (.int i) (ints_rp ns)
end Lw
set_option Elab.async false
set_option linter.all false
set_option maxRecDepth 100000
set_option maxHeartbeats 0
namespace Lw
open PySem PySem.Spec PyProof.Rows L2 Me
theorem law_sp {K : PySem.W.Frag} {H : Hp} {a : Addr} {ns : List Int} (hl : ns.length ≤ 63) (hS : FzL K H [] a (ns.map V.int)) {E : XK} : spF K F_law [.ref a] H (fun v _ => v = .bl true) E := by
  obtain ⟨S', e⟩ := law_true ns hl
  refine ⟨[.fz (ns.map .int)], [], [], _, _, wd0, .cons ⟨a, ns.map V.int, rfl, hS, ?_, ints_rp ns⟩ .nil, e, fun v H' α' _ _ r => bl_of r⟩
  rw [List.length_map]
  exact Nat.le_trans hl (by decide)
end Lw
open PySem PySem.W PySem.Calls PyProof.Rows
theorem PySem.Challenge.cw_standahead_k47_whole_taken_parts_of_term_holds : PySem.Challenge.rw_standahead_k47_whole_taken_parts_of_term.Holds := by
  w_on; o_law
  refine HandSHeadRun.head_any (r := OpenLaw.row PySem.Challenge.rw_standahead_k47_whole_taken_parts_of_term) (q := view (OpenLaw.row PySem.Challenge.rw_standahead_k47_whole_taken_parts_of_term).prog [74]) (H := Lw.hk) (ob := Lw.ob) (M := 20000) (loose := Lw.names) (d := HandSHeadRun.topDef (OpenLaw.row PySem.Challenge.rw_standahead_k47_whole_taken_parts_of_term).prog 74) (kwd := []) Lw.ob_eq
    (by kernel_rfl) (fun s => by kernel_rfl) Lw.run (by kernel_rfl) (by kernel_rfl) (by kernel_rfl) (by rfl) (by first | assumption | decide +kernel) (by decide +kernel) ⟨rfl, rfl, rfl, rfl, rfl, by decide +kernel⟩ ?hw ?hc
  case hw => w_witness2
  case hc =>
    refine L2.walk_ofE (l := PySem.Challenge.rw_standahead_k47_whole_taken_parts_of_term) (n := 63) (k := 87) (x := "script") (CX := L2.CX0) rfl (by decide) (by kernel_rfl) ⟨rfl, by decide, by decide⟩ ?F (fun _ _ _ _ z => z)
    intro w mg fa h Y G hmg0
    obtain ⟨K, KX, c⟩ := Y
    have hmg : mg ("law" : PySem.Str) = some (.ref fa) := by
      have e : (HandSHeadRun.topDef (OpenLaw.row PySem.Challenge.rw_standahead_k47_whole_taken_parts_of_term).prog 74).name = ("law" : PySem.Str) := by kernel_rfl
      rw [← e]
      exact hmg0
    have fs := Lw.fs_of KX G c
    have e2 := hmg.symm.trans (fs.dfn 55 (Lw.dd "law" 74) rfl).2
    cases e2
    obtain ⟨fd, hb, hF⟩ := Lw.ok_law fs
    refine ⟨K, fd, Me.spF K Lw.F_law, KX, hb, fun H a ns hl hO hS => Lw.law_sp hl ?_, fun base _ _ => hF _ _ _⟩
    rcases hS with hS | hS
    · rcases hS with hS | ⟨o, hS⟩
      · rcases hO a with n | ⟨o, xs, n⟩
        · rw [n] at hS; cases hS
        · rw [n] at hS; cases hS
      · exact .inl ⟨o, hS, by simp⟩
    · exact .inr hS
