import PyProof.Rows.All
import Wide.All
import OpenK.AllK
import Wide.FinOn
import HandS.ForMost
import HandS.ForExc
import HandS.IsInst
import HandS.TupAny
import HandS.Style
import HandS.Flow
import HandS.ExcInit
import HandS.EndTab
import HandS.TupLen
import HandS.Steps
import HandS.Conv
import HandS.Strs
import HandS.Iter
import HandS.Zip
import HandS.Comp
import HandS.WordsExc
import HandS.CallLocal
import KE.SortData
import HandS.More
import HandS.ExcIs
import HandS.Lambda
import KE.GoesMore
import HandS.EndOwn
import PySem.Challenge.RW_withterms_k75_whole_numbers_of_terms_wit
set_option Elab.async false
set_option linter.all false
set_option maxRecDepth 100000
set_option maxHeartbeats 4000000
namespace PM
open PySem PySem.Spec L2
/-! ### values as trees, the store -/
inductive W where
  | non | bl (b : Bool) | int (i : Int) | str (x : Str) | tup (ws : List W) | arr (ws : List W) | loc (n : Nat) | fn (x : Str) | scr (ns : List Int) | tpz (ws : List W) | twk (ws : List W)
inductive Cell where
  | lst (ws : List W) | ice (ws : List W) | dT (kvs : List (List Key × W)) | dK (kvs : List (Key × W))
abbrev Store := List Cell
structure XV where
  name : Str
  fs : List (Str × W)
inductive Res (α : Type) where
  | ok (x : α) (S : Store) | exc (x : XV) (S : Store) | bad
def Res.bind {α β : Type} (r : Res α) (k : α → Store → Res β) : Res β := match r with
  | .ok x S => k x S
  | .exc x S => .exc x S
  | .bad => .bad
abbrev Env1 := List (Option W)
/-! ### what stands for what -/
structure Gh where
  mu : Nat → Addr
  fz : Addr → Prop
  H : Hp
structure Ct where
  K : PySem.W.Frag
  mg : Str → Option Value
  T : List (Addr × Str)
def KLst (K : PySem.W.Frag) (a : Addr) (xs : List V) : Prop :=
  ∃ (o : Obj) (its : Array Value) (n : Nat), K.lookup a = some o ∧ o.cls = .type "list" ∧ o.dict = none ∧ o.data = .seq its n ∧ its.size ≤ sizeLine ∧ Vals xs its.toList
def FzS (C : Ct) (G : Gh) (a : Addr) (xs : List V) : Prop := (G.fz a ∧ Rd G.H a (.lst xs)) ∨ KLst C.K a xs
def FzL (G : Gh) (a : Addr) (xs : List V) : Prop := G.fz a ∧ G.H a = some (.lst xs)
def FzZ (G : Gh) (a : Addr) (xs : List V) : Prop := G.fz a ∧ ∃ o : Obj, G.H a = some (.frz o (.tup xs)) ∧ o.dict = none
def FzT (G : Gh) (a : Addr) (xs : List V) : Prop := G.fz a ∧ G.H a = some (.tup xs)
mutual
def Rep (C : Ct) (G : Gh) (m : Nat) : V → W → Prop
  | v, .non => v = .non
  | v, .bl b => v = .bl b
  | v, .int i => v = .int i
  | v, .str x => v = .str x
  | v, .tup ws => ∃ a xs, v = .ref a ∧ FzT G a xs ∧ RepL C G m xs ws
  | v, .arr ws => ∃ a xs, v = .ref a ∧ FzL G a xs ∧ RepL C G 0 xs ws
  | v, .loc n => n < m ∧ v = .ref (G.mu n)
  | v, .fn x => ∃ f, C.mg x = some (.ref f) ∧ v = .ref f
  | v, .scr ns => ∃ a, v = .ref a ∧ FzS C G a (ns.map V.int)
  | v, .tpz ws => ∃ a xs, v = .ref a ∧ FzZ G a xs ∧ RepL C G 0 xs ws
  | v, .twk ws => ∃ a xs, v = .ref a ∧ FzT G a xs ∧ RepL C G m xs ws
def RepL (C : Ct) (G : Gh) (m : Nat) : List V → List W → Prop
  | [], [] => True
  | v :: vs, w :: ws => Rep C G m v w ∧ RepL C G m vs ws
  | _, _ => False
end
def RepKV {κ : Type} (C : Ct) (G : Gh) (ys : List (κ × V)) (kvs : List (κ × W)) : Prop := Paired (fun p q => p.1 = q.1 ∧ Rep C G 0 p.2 q.2) ys kvs
def CellOk (C : Ct) (G : Gh) (a : Addr) : Cell → Prop
  | .lst ws => ¬ G.fz a ∧ ∃ xs, G.H a = some (.lst xs) ∧ RepL C G 0 xs ws
  | .ice ws => G.fz a ∧ ∃ xs, G.H a = some (.lst xs) ∧ RepL C G 0 xs ws
  | .dT kvs => ¬ G.fz a ∧ ∃ ys, G.H a = some (.dT ys) ∧ RepKV C G ys kvs
  | .dK kvs => ¬ G.fz a ∧ ∃ ys, G.H a = some (.dK ys) ∧ RepKV C G ys kvs
def Nt (H : Hp) (a : Addr) : Prop := ∃ o, H a = some o ∧ ∀ ps, o ≠ .tbl ps
structure Sim (C : Ct) (G : Gh) (S : Store) : Prop where
  cell : ∀ n c, S[n]? = some c → CellOk C G (G.mu n) c
  inj : ∀ i j, i < S.length → j < S.length → G.mu i = G.mu j → i = j
  fzH : ∀ a, G.fz a → Nt G.H a
  tabs : LamX.Tabs C.T G.H
/-- how the world goes on: what is frozen or not ours stays -/
structure Ev (G : Gh) (m : Nat) (G' : Gh) (m' : Nat) : Prop where
  le : m ≤ m'
  mu : ∀ n, n < m → G'.mu n = G.mu n
  fz : ∀ a, G.fz a → G'.fz a
  keep : ∀ a o, G.H a = some o → (∀ ps, o ≠ .tbl ps) → (G.fz a ∨ ∀ n, n < m → G.mu n ≠ a) → G'.H a = some o
  new : ∀ n, m ≤ n → n < m' → ¬ Nt G.H (G'.mu n)
  there : ∀ a, Nt G.H a → Nt G'.H a
  fzn : ∀ a, G'.fz a → G.fz a ∨ (∃ n, n < m ∧ G.mu n = a) ∨ ¬ Nt G.H a
  tups : ∀ a xs, G.H a = some (.tup xs) → G'.H a = some (.tup xs)
/-! ### pairs of lists -/
section
variable {α β : Type} {F : α → β → Prop}
theorem p_get : ∀ {l : List α} {r : List β} {i : Nat} {b : β}, Paired F l r → r[i]? = some b → ∃ a, l[i]? = some a ∧ F a b
  | _, _, _, _, .nil, e => by simp at e
  | _, _, 0, _, .cons p _, e => by simp at e; subst e; exact ⟨_, rfl, p⟩
  | _, _, i + 1, b, .cons _ t, e => by
    obtain ⟨a, h1, h2⟩ := p_get (i := i) (b := b) t (by simpa using e)
    exact ⟨a, by simpa using h1, h2⟩
theorem p_getL : ∀ {l : List α} {r : List β} {i : Nat} {a : α}, Paired F l r → l[i]? = some a → ∃ b, r[i]? = some b ∧ F a b
  | _, _, _, _, .nil, e => by simp at e
  | _, _, 0, _, .cons p _, e => by simp at e; subst e; exact ⟨_, rfl, p⟩
  | _, _, i + 1, b, .cons _ t, e => by
    obtain ⟨a, h1, h2⟩ := p_getL (i := i) (a := b) t (by simpa using e)
    exact ⟨a, by simpa using h1, h2⟩
theorem p_append : ∀ {l l' : List α} {r r' : List β}, Paired F l r → Paired F l' r' → Paired F (l ++ l') (r ++ r')
  | _, _, _, _, .nil, s => s
  | _, _, _, _, .cons p t, s => .cons p (p_append t s)
theorem p_take : ∀ {l : List α} {r : List β} (n : Nat), Paired F l r → Paired F (l.take n) (r.take n)
  | _, _, 0, _ => by simp; exact .nil
  | _, _, _ + 1, .nil => .nil
  | _, _, n + 1, .cons p t => .cons p (p_take n t)
theorem p_drop : ∀ {l : List α} {r : List β} (n : Nat), Paired F l r → Paired F (l.drop n) (r.drop n)
  | _, _, 0, p => p
  | _, _, _ + 1, .nil => .nil
  | _, _, n + 1, .cons _ t => p_drop n t
theorem p_reverse {l : List α} {r : List β} (h : Paired F l r) : Paired F l.reverse r.reverse := by
  induction h with
  | nil => exact .nil
  | cons p _ ih => rw [List.reverse_cons, List.reverse_cons]; exact p_append ih (.cons p .nil)
theorem p_set {x : α} {y : β} (q : F x y) : ∀ {l : List α} {r : List β} (i : Nat), Paired F l r → Paired F (l.set i x) (r.set i y)
  | _, _, _, .nil => .nil
  | _, _, 0, .cons _ t => .cons q t
  | _, _, i + 1, .cons p t => .cons p (p_set q i t)
theorem p_dropLast {l : List α} {r : List β} (h : Paired F l r) : Paired F l.dropLast r.dropLast := by
  rw [List.dropLast_eq_take, List.dropLast_eq_take, h.length]
  exact p_take _ h
theorem p_erase : ∀ {l : List α} {r : List β} (i : Nat), Paired F l r → Paired F (l.eraseIdx i) (r.eraseIdx i)
  | _, _, _, .nil => .nil
  | _, _, 0, .cons _ t => t
  | _, _, i + 1, .cons p t => .cons p (p_erase i t)
theorem p_rep {l : List α} {r : List β} (h : Paired F l r) : ∀ n : Nat, Paired F (List.replicate n l).flatten (List.replicate n r).flatten
  | 0 => .nil
  | n + 1 => by
    rw [List.replicate_succ, List.replicate_succ, List.flatten_cons, List.flatten_cons]
    exact p_append h (p_rep h n)
end
theorem repL_iff {C : Ct} {G : Gh} {m : Nat} : ∀ {vs : List V} {ws : List W}, RepL C G m vs ws ↔ Paired (Rep C G m) vs ws
  | [], [] => ⟨fun _ => .nil, fun _ => by simp [RepL]⟩
  | v :: vs, w :: ws => by
    constructor
    · intro h
      rw [RepL] at h
      exact .cons h.1 (repL_iff.mp h.2)
    · intro h
      rw [RepL]
      cases h with
      | cons p t => exact ⟨p, repL_iff.mpr t⟩
  | [], w :: ws => ⟨fun h => by simp [RepL] at h, fun h => by cases h⟩
  | v :: vs, [] => ⟨fun h => by simp [RepL] at h, fun h => by cases h⟩
/-! ### the world goes on -/
section
variable {C : Ct} {G G' G1 G2 : Gh} {m m' m1 m2 : Nat} {S : Store}
theorem Ev.refl : Ev G m G m := ⟨Nat.le_refl _, fun _ _ => rfl, fun _ h => h, fun _ _ h _ _ => h, fun n h1 h2 => absurd h2 (Nat.not_lt.mpr h1), fun _ h => h, fun _ h => .inl h, fun _ _ h => h⟩
theorem Ev.trans (a : Ev G m G1 m1) (b : Ev G1 m1 G2 m2) : Ev G m G2 m2 := by
  refine ⟨Nat.le_trans a.le b.le, fun n h => (b.mu n (Nat.lt_of_lt_of_le h a.le)).trans (a.mu n h), fun x h => b.fz x (a.fz x h), fun x o h nt h2 => ?_, fun n h1 h2 => ?_, fun x h => b.there x (a.there x h), fun x h => ?_, fun x xs h => b.tups x xs (a.tups x xs h)⟩
  · refine b.keep x o (a.keep x o h nt h2) nt ?_
    rcases h2 with h2 | h2
    · exact .inl (a.fz x h2)
    · refine .inr fun n hn e => ?_
      by_cases hm : n < m
      · exact h2 n hm ((a.mu n hm).symm.trans e)
      · exact a.new n (Nat.le_of_not_lt hm) hn (by rw [e]; exact ⟨o, h, nt⟩)
  · by_cases hm : n < m1
    · rw [b.mu n hm]
      exact a.new n h1 hm
    · exact fun z => b.new n (Nat.le_of_not_lt hm) h2 (a.there _ z)
  · rcases b.fzn x h with h | ⟨n, hn, e⟩ | h
    · exact a.fzn x h
    · by_cases hm : n < m
      · exact .inr (.inl ⟨n, hm, (a.mu n hm).symm.trans e⟩)
      · have z := a.new n (Nat.le_of_not_lt hm) hn
        rw [e] at z
        exact .inr (.inr z)
    · exact .inr (.inr fun z => h (a.there _ z))
theorem nt_none {H : Hp} {a : Addr} (h : H a = none) : ¬ Nt H a := fun ⟨o, e, _⟩ => by
  rw [h] at e; cases e
theorem nt_up {H : Hp} {p : Addr} {o : HO} (hp : H p = none) {a : Addr} (h : Nt H a) : Nt (upd H p o) a := by
  obtain ⟨u, e, n⟩ := h
  exact ⟨u, by rw [upd_ne (ne_of_none e hp)]; exact e, n⟩
theorem FzT.mono (e : Ev G m G' m') {a : Addr} {xs : List V} (h : FzT G a xs) : FzT G' a xs := ⟨e.fz a h.1, e.tups a xs h.2⟩
theorem FzZ.mono (e : Ev G m G' m') {a : Addr} {xs : List V} (h : FzZ G a xs) : FzZ G' a xs := by
  obtain ⟨h1, o, h2, h3⟩ := h
  exact ⟨e.fz a h1, o, e.keep a _ h2 (fun _ z => by cases z) (.inl h1), h3⟩
theorem FzL.mono (e : Ev G m G' m') {a : Addr} {xs : List V} (h : FzL G a xs) : FzL G' a xs :=
  ⟨e.fz a h.1, e.keep a _ h.2 (fun _ z => by cases z) (.inl h.1)⟩
theorem FzS.mono (e : Ev G m G' m') {a : Addr} {xs : List V} (h : FzS C G a xs) : FzS C G' a xs := by
  rcases h with ⟨h1, h2⟩ | h
  · refine .inl ⟨e.fz a h1, ?_⟩
    rcases h2 with h2 | ⟨o, h2⟩
    · exact .inl (e.keep a _ h2 (fun _ z => by cases z) (.inl h1))
    · exact .inr ⟨o, e.keep a _ h2 (fun _ z => by cases z) (.inl h1)⟩
  · exact .inr h
mutual
theorem rep_mono (e : Ev G m G' m') (k k' : Nat) (hk : k ≤ k') (hm : k ≤ m) : ∀ (w : W) (v : V), Rep C G k v w → Rep C G' k' v w
  | .non, v, h => by rw [Rep] at h ⊢; exact h
  | .bl b, v, h => by rw [Rep] at h ⊢; exact h
  | .int i, v, h => by rw [Rep] at h ⊢; exact h
  | .str x, v, h => by rw [Rep] at h ⊢; exact h
  | .tup ws, v, h => by
    rw [Rep] at h ⊢
    obtain ⟨a, xs, h1, h2, h3⟩ := h
    exact ⟨a, xs, h1, h2.mono e, repL_mono e k k' hk hm ws xs h3⟩
  | .arr ws, v, h => by
    rw [Rep] at h ⊢
    obtain ⟨a, xs, h1, h2, h3⟩ := h
    exact ⟨a, xs, h1, h2.mono e, repL_mono e 0 0 (Nat.le_refl _) (Nat.zero_le _) ws xs h3⟩
  | .loc n, v, h => by
    rw [Rep] at h ⊢
    exact ⟨Nat.lt_of_lt_of_le h.1 hk, by rw [e.mu n (Nat.lt_of_lt_of_le h.1 hm)]; exact h.2⟩
  | .fn x, v, h => by rw [Rep] at h ⊢; exact h
  | .scr ns, v, h => by
    rw [Rep] at h ⊢
    obtain ⟨a, h1, h2⟩ := h
    exact ⟨a, h1, h2.mono e⟩
  | .tpz ws, v, h => by
    rw [Rep] at h ⊢
    obtain ⟨a, xs, h1, h2, h3⟩ := h
    exact ⟨a, xs, h1, h2.mono e, repL_mono e 0 0 (Nat.le_refl _) (Nat.zero_le _) ws xs h3⟩
  | .twk ws, v, h => by
    rw [Rep] at h ⊢
    obtain ⟨a, xs, h1, h2, h3⟩ := h
    exact ⟨a, xs, h1, h2.mono e, repL_mono e k k' hk hm ws xs h3⟩
theorem repL_mono (e : Ev G m G' m') (k k' : Nat) (hk : k ≤ k') (hm : k ≤ m) : ∀ (ws : List W) (vs : List V), RepL C G k vs ws → RepL C G' k' vs ws
  | [], [], _ => by simp [RepL]
  | w :: ws, v :: vs, h => by
    rw [RepL] at h ⊢
    exact ⟨rep_mono e k k' hk hm w v h.1, repL_mono e k k' hk hm ws vs h.2⟩
  | [], _ :: _, h => by simp [RepL] at h
  | _ :: _, [], h => by simp [RepL] at h
end
theorem Rep.go {v : V} {w : W} (h : Rep C G m v w) (e : Ev G m G' m') : Rep C G' m' v w := rep_mono e m m' e.le (Nat.le_refl _) w v h
theorem Rep.go0 {v : V} {w : W} (h : Rep C G 0 v w) (e : Ev G m G' m') : Rep C G' 0 v w := rep_mono e 0 0 (Nat.le_refl _) (Nat.zero_le _) w v h
theorem Rep.up {v : V} {w : W} {k : Nat} (h : Rep C G 0 v w) : Rep C G k v w := rep_mono (Ev.refl (m := 0)) 0 k (Nat.zero_le _) (Nat.zero_le _) w v h
theorem RepL.go {v : List V} {w : List W} (h : RepL C G m v w) (e : Ev G m G' m') : RepL C G' m' v w := repL_mono e m m' e.le (Nat.le_refl _) w v h
theorem RepL.go0 {v : List V} {w : List W} (h : RepL C G 0 v w) (e : Ev G m G' m') : RepL C G' 0 v w := repL_mono e 0 0 (Nat.le_refl _) (Nat.zero_le _) w v h
theorem RepL.up {v : List V} {w : List W} {k : Nat} (h : RepL C G 0 v w) : RepL C G k v w := repL_mono (Ev.refl (m := 0)) 0 k (Nat.zero_le _) (Nat.zero_le _) w v h
theorem RepKV.go {κ : Type} {ys : List (κ × V)} {kvs : List (κ × W)} (h : RepKV C G ys kvs) (e : Ev G m G' m') : RepKV C G' ys kvs := Paired.mapP h fun _ _ ⟨a, b⟩ => ⟨a, b.go0 e⟩
/- no mutable object of number k or more in it -/
mutual
def W.free (k : Nat) : W → Bool
  | .tup ws => W.freeL k ws
  | .twk ws => W.freeL k ws
  | .loc n => decide (n < k)
  | _ => true
def W.freeL (k : Nat) : List W → Bool
  | [] => true
  | w :: ws => W.free k w && W.freeL k ws
end
mutual
theorem rep_free {k : Nat} : ∀ (w : W) (v : V), Rep C G m v w → w.free k = true → Rep C G k v w
  | .non, v, h, _ => by rw [Rep] at h ⊢; exact h
  | .bl b, v, h, _ => by rw [Rep] at h ⊢; exact h
  | .int i, v, h, _ => by rw [Rep] at h ⊢; exact h
  | .str x, v, h, _ => by rw [Rep] at h ⊢; exact h
  | .tup ws, v, h, f => by
    rw [Rep] at h ⊢
    rw [W.free] at f
    obtain ⟨a, xs, h1, h2, h3⟩ := h
    exact ⟨a, xs, h1, h2, repL_free ws xs h3 f⟩
  | .arr ws, v, h, _ => by rw [Rep] at h ⊢; exact h
  | .loc n, v, h, f => by
    rw [Rep] at h ⊢
    rw [W.free] at f
    exact ⟨of_decide_eq_true f, h.2⟩
  | .fn x, v, h, _ => by rw [Rep] at h ⊢; exact h
  | .scr x, v, h, _ => by rw [Rep] at h ⊢; exact h
  | .tpz x, v, h, _ => by rw [Rep] at h ⊢; exact h
  | .twk ws, v, h, f => by
    rw [Rep] at h ⊢
    rw [W.free] at f
    obtain ⟨a, xs, h1, h2, h3⟩ := h
    exact ⟨a, xs, h1, h2, repL_free ws xs h3 f⟩
theorem repL_free {k : Nat} : ∀ (ws : List W) (vs : List V), RepL C G m vs ws → W.freeL k ws = true → RepL C G k vs ws
  | [], [], _, _ => by simp [RepL]
  | w :: ws, v :: vs, h, f => by
    rw [RepL] at h ⊢
    rw [W.freeL, Bool.and_eq_true] at f
    exact ⟨rep_free w v h.1 f.1, repL_free ws vs h.2 f.2⟩
  | [], _ :: _, h, _ => by simp [RepL] at h
  | _ :: _, [], h, _ => by simp [RepL] at h
end
/-! ### steps of the world -/
theorem CellOk.some {a : Addr} {c : Cell} (h : CellOk C G a c) : ∃ o, G.H a = some o ∧ (∀ ps, o ≠ .tbl ps) ∧ ∀ xs, o ≠ .tup xs := by
  cases c with
  | lst ws => obtain ⟨_, xs, e, _⟩ := h; exact ⟨_, e, (fun _ z => by cases z), (fun _ z => by cases z)⟩
  | ice ws => obtain ⟨_, xs, e, _⟩ := h; exact ⟨_, e, (fun _ z => by cases z), (fun _ z => by cases z)⟩
  | dT ws => obtain ⟨_, xs, e, _⟩ := h; exact ⟨_, e, (fun _ z => by cases z), (fun _ z => by cases z)⟩
  | dK ws => obtain ⟨_, xs, e, _⟩ := h; exact ⟨_, e, (fun _ z => by cases z), (fun _ z => by cases z)⟩
theorem Sim.at (s : Sim C G S) {n : Nat} (h : n < S.length) : ∃ o, G.H (G.mu n) = some o ∧ (∀ ps, o ≠ .tbl ps) ∧ ∀ xs, o ≠ .tup xs :=
  (s.cell n S[n] (List.getElem?_eq_getElem h)).some
/-- a cell stays what it is where its object stays -/
theorem CellOk.go {a : Addr} {c : Cell} (h : CellOk C G a c) (e : Ev G m G' m') (hH : G'.H a = G.H a) (hf : G'.fz a ↔ G.fz a) : CellOk C G' a c := by
  cases c with
  | lst ws => obtain ⟨f, xs, q, r⟩ := h; exact ⟨fun z => f (hf.mp z), xs, hH.trans q, r.go0 e⟩
  | ice ws => obtain ⟨f, xs, q, r⟩ := h; exact ⟨hf.mpr f, xs, hH.trans q, r.go0 e⟩
  | dT ws => obtain ⟨f, xs, q, r⟩ := h; exact ⟨fun z => f (hf.mp z), xs, hH.trans q, r.go e⟩
  | dK ws => obtain ⟨f, xs, q, r⟩ := h; exact ⟨fun z => f (hf.mp z), xs, hH.trans q, r.go e⟩
/-- a new thing that will never change -/
def Gh.addF (G : Gh) (p : Addr) (o : HO) : Gh := ⟨G.mu, fun a => a = p ∨ G.fz a, upd G.H p o⟩
theorem ev_addF {p : Addr} {o : HO} (hp : G.H p = none) : Ev G m (G.addF p o) m := by
  have up : ∀ a u, G.H a = some u → (G.addF p o).H a = some u := fun a u e => by
    show upd G.H p o a = some u
    rw [upd_ne (ne_of_none e hp)]; exact e
  refine ⟨Nat.le_refl _, fun _ _ => rfl, fun a h => .inr h, fun a u h _ _ => up a u h, fun n h1 h2 => absurd h2 (Nat.not_lt.mpr h1), fun a h => nt_up hp h, fun a h => ?_, fun a xs h => up a _ h⟩
  rcases h with h | h
  · subst h; exact .inr (.inr (nt_none hp))
  · exact .inl h
theorem sim_addF (s : Sim C G S) {p : Addr} {o : HO} (hp : G.H p = none) (no : ∀ ps, o ≠ .tbl ps := by intro _ z; cases z) : Sim C (G.addF p o) S := by
  have e : Ev G S.length (G.addF p o) S.length := ev_addF hp
  have ne : ∀ n, n < S.length → G.mu n ≠ p := fun n h => by
    obtain ⟨u, hu, _⟩ := s.at h
    exact ne_of_none hu hp
  refine ⟨fun n c h => ?_, s.inj, fun a h => ?_, s.tabs.ext fun b u h => ?_⟩
  · have hn := (List.getElem?_eq_some_iff.mp h).1
    refine (s.cell n c h).go e (upd_ne (ne n hn)) ⟨fun z => ?_, fun z => .inr z⟩
    rcases z with z | z
    · exact absurd z (ne n hn)
    · exact z
  · rcases h with h | h
    · exact ⟨o, by rw [h]; exact upd_same, no⟩
    · exact nt_up hp (s.fzH a h)
  · show upd G.H p o b = _
    rw [upd_ne (ne_of_none h hp)]; exact h
/-- a new mutable thing -/
def Gh.addL (G : Gh) (m : Nat) (p : Addr) (o : HO) : Gh := ⟨fun n => if n = m then p else G.mu n, G.fz, upd G.H p o⟩
theorem ev_addL {p : Addr} {o : HO} (hp : G.H p = none) : Ev G m (G.addL m p o) (m + 1) := by
  have up : ∀ a u, G.H a = some u → (G.addL m p o).H a = some u := fun a u e => by
    show upd G.H p o a = some u
    rw [upd_ne (ne_of_none e hp)]; exact e
  refine ⟨Nat.le_succ _, fun n h => if_neg (Nat.ne_of_lt h), fun a h => h, fun a u h _ _ => up a u h, fun n h1 h2 => ?_, fun a h => nt_up hp h, fun a h => .inl h, fun a xs h => up a _ h⟩
  have e : n = m := by omega
  show ¬ Nt G.H (if n = m then p else G.mu n)
  rw [if_pos e]; exact nt_none hp
theorem sim_addL (s : Sim C G S) {p : Addr} {o : HO} {c : Cell} (hp : G.H p = none) (nt : ¬ G.fz p) (hc : CellOk C (G.addL S.length p o) p c) : Sim C (G.addL S.length p o) (S ++ [c]) := by
  have e : Ev G S.length (G.addL S.length p o) (S.length + 1) := ev_addL hp
  have ne : ∀ n, n < S.length → G.mu n ≠ p := fun n h => by
    obtain ⟨u, hu, _⟩ := s.at h
    exact ne_of_none hu hp
  have mu1 : ∀ n, n < S.length → (G.addL S.length p o).mu n = G.mu n := fun n h => if_neg (Nat.ne_of_lt h)
  have mu2 : (G.addL S.length p o).mu S.length = p := if_pos rfl
  refine ⟨fun n c' h => ?_, fun i j hi hj he => ?_, fun a h => ?_, s.tabs.ext fun b u h => ?_⟩
  · by_cases hn : n < S.length
    · rw [List.getElem?_append_left hn] at h
      rw [mu1 n hn]
      exact (s.cell n c' h).go e (upd_ne (ne n hn)) Iff.rfl
    · have hn2 : n = S.length := by
        have := (List.getElem?_eq_some_iff.mp h).1
        rw [List.length_append, List.length_singleton] at this
        omega
      subst hn2
      rw [List.getElem?_append_right (Nat.le_refl _), Nat.sub_self] at h
      have e2 : c = c' := Option.some.inj h
      subst e2
      rw [mu2]
      exact hc
  · rw [List.length_append, List.length_singleton] at hi hj
    by_cases h1 : i < S.length
    · by_cases h2 : j < S.length
      · rw [mu1 i h1, mu1 j h2] at he
        exact s.inj i j h1 h2 he
      · have h2 : j = S.length := by omega
        subst h2
        rw [mu1 i h1, mu2] at he
        exact absurd he (ne i h1)
    · have h1 : i = S.length := by omega
      subst h1
      by_cases h2 : j < S.length
      · rw [mu1 j h2, mu2] at he
        exact absurd he.symm (ne j h2)
      · omega
  · exact nt_up hp (s.fzH a h)
  · show upd G.H p o b = _
    rw [upd_ne (ne_of_none h hp)]; exact h
theorem Sim.nofz (s : Sim C G S) {p : Addr} (hp : G.H p = none) : ¬ G.fz p := fun h => by
  exact nt_none hp (s.fzH p h)
/-- a mutable thing is written -/
def Gh.wr (G : Gh) (n : Nat) (o : HO) : Gh := ⟨G.mu, G.fz, upd G.H (G.mu n) o⟩
theorem ev_wr (s : Sim C G S) {n : Nat} {o : HO} {c0 : Cell} (hn : S[n]? = some c0) (nf : ¬ G.fz (G.mu n)) (no : ∀ ps, o ≠ .tbl ps := by intro _ z; cases z) : Ev G S.length (G.wr n o) S.length := by
  have hl := (List.getElem?_eq_some_iff.mp hn).1
  obtain ⟨o0, e0, nt, ntu⟩ := s.at hl
  have up : ∀ a u, a ≠ G.mu n → G.H a = some u → (G.wr n o).H a = some u := fun a u h e => by
    show upd G.H (G.mu n) o a = some u
    rw [upd_ne h]; exact e
  refine ⟨Nat.le_refl _, fun _ _ => rfl, fun a h => h, fun a u h _ h2 => up a u (fun z => ?_) h, fun k h1 h2 => absurd h2 (Nat.not_lt.mpr h1), fun a h => ?_, fun a h => .inl h, fun a xs h => up a _ (fun z => ?_) h⟩
  · rcases h2 with h2 | h2
    · rw [z] at h2; exact nf h2
    · exact h2 n hl z.symm
  · obtain ⟨u, hu, nu⟩ := h
    by_cases z : a = G.mu n
    · exact ⟨o, by rw [z]; exact upd_same, no⟩
    · exact ⟨u, up a u z hu, nu⟩
  · rw [z, e0] at h
    exact ntu xs (Option.some.inj h)
theorem sim_wr (s : Sim C G S) {n : Nat} {o : HO} {c0 c : Cell} (hn : S[n]? = some c0) (nf : ¬ G.fz (G.mu n)) (hc : CellOk C (G.wr n o) (G.mu n) c) (no : ∀ ps, o ≠ .tbl ps := by intro _ z; cases z) : Sim C (G.wr n o) (S.set n c) := by
  have e : Ev G S.length (G.wr n o) S.length := ev_wr s hn nf no
  have hl := (List.getElem?_eq_some_iff.mp hn).1
  obtain ⟨o0, e0, nt, ntu⟩ := s.at hl
  refine ⟨fun k c' h => ?_, fun i j hi hj he => s.inj i j (by simpa using hi) (by simpa using hj) he, fun a h => ?_, ?_⟩
  · by_cases hk : k = n
    · subst hk
      rw [List.getElem?_set_self hl] at h
      have e2 : c = c' := Option.some.inj h
      subst e2
      exact hc
    · rw [List.getElem?_set_ne (Ne.symm hk)] at h
      have hkl := (List.getElem?_eq_some_iff.mp h).1
      exact (s.cell k c' h).go e (upd_ne fun z => hk (s.inj k n hkl hl z)) Iff.rfl
  · obtain ⟨u, hu, nu⟩ := s.fzH a h
    by_cases z : a = G.mu n
    · exact ⟨o, by rw [z]; exact upd_same, no⟩
    · exact ⟨u, by show upd G.H (G.mu n) o a = _; rw [upd_ne z]; exact hu, nu⟩
  · intro p hp
    obtain ⟨ps, h1, h2, h3⟩ := s.tabs p hp
    have ne : ∀ b u, G.H b = some u → u ≠ o0 → upd G.H (G.mu n) o b = some u := fun b u hb hu => by
      rw [upd_ne fun z => hu (by rw [z, e0] at hb; exact (Option.some.inj hb).symm)]
      exact hb
    refine ⟨ps, ne _ _ h1 (fun z => nt ps z.symm), h2, fun pos cv hcv => ?_⟩
    obtain ⟨c2, q1, q2⟩ := h3 pos cv hcv
    refine ⟨c2, q1, ne _ _ q2 fun z => ?_⟩
    have hc0 := s.cell n c0 hn
    cases c0 with
    | lst ws => obtain ⟨_, xs, e1, _⟩ := hc0; rw [e0] at e1; rw [← z] at e1; have e3 := Option.some.inj e1; unfold LamX.CodeO at e3; cases e3
    | ice ws => obtain ⟨_, xs, e1, _⟩ := hc0; rw [e0] at e1; rw [← z] at e1; have e3 := Option.some.inj e1; unfold LamX.CodeO at e3; cases e3
    | dT ws => obtain ⟨_, xs, e1, _⟩ := hc0; rw [e0] at e1; rw [← z] at e1; have e3 := Option.some.inj e1; unfold LamX.CodeO at e3; cases e3
    | dK ws => obtain ⟨_, xs, e1, _⟩ := hc0; rw [e0] at e1; rw [← z] at e1; have e3 := Option.some.inj e1; unfold LamX.CodeO at e3; cases e3
theorem cell_no {n : Nat} {o : HO} {c : Cell} (h : CellOk C (G.wr n o) (G.mu n) c) : ∀ ps, o ≠ .tbl ps := by
  obtain ⟨u, e, nt, _⟩ := h.some
  have e2 : upd G.H (G.mu n) o (G.mu n) = some u := e
  rw [upd_same] at e2
  rw [Option.some.inj e2]
  exact nt
/-- a mutable list is frozen -/
def Gh.icy (G : Gh) (n : Nat) : Gh := ⟨G.mu, fun a => a = G.mu n ∨ G.fz a, G.H⟩
theorem ev_icy {n : Nat} (hn : n < m) : Ev G m (G.icy n) m :=
  ⟨Nat.le_refl _, fun _ _ => rfl, fun a h => .inr h, fun a u h _ _ => h, fun k h1 h2 => absurd h2 (Nat.not_lt.mpr h1), fun a h => h, fun a h => h.elim (fun z => .inr (.inl ⟨n, hn, z.symm⟩)) .inl, fun a xs h => h⟩
theorem sim_icy (s : Sim C G S) {n : Nat} {ws : List W} (hn : S[n]? = some (.lst ws)) : Sim C (G.icy n) (S.set n (.ice ws)) := by
  have hl := (List.getElem?_eq_some_iff.mp hn).1
  have e : Ev G S.length (G.icy n) S.length := ev_icy hl
  obtain ⟨nf, xs, e1, r⟩ := s.cell n _ hn
  refine ⟨fun k c' h => ?_, fun i j hi hj he => s.inj i j (by simpa using hi) (by simpa using hj) he, fun a h => ?_, s.tabs⟩
  · by_cases hk : k = n
    · subst hk
      rw [List.getElem?_set_self hl] at h
      have e2 : Cell.ice ws = c' := Option.some.inj h
      subst e2
      exact ⟨.inl rfl, xs, e1, r.go0 e⟩
    · rw [List.getElem?_set_ne (Ne.symm hk)] at h
      have hkl := (List.getElem?_eq_some_iff.mp h).1
      refine (s.cell k c' h).go e rfl ⟨fun z => ?_, fun z => .inr z⟩
      rcases z with z | z
      · exact absurd (s.inj k n hkl hl z) hk
      · exact z
  · rcases h with h | h
    · exact ⟨_, by rw [h]; exact e1, fun _ z => by cases z⟩
    · exact s.fzH a h
/-- what is new is let go -/
theorem sim_take (s : Sim C G S) (k : Nat) : Sim C G (S.take k) := by
  have sub : ∀ n c, (S.take k)[n]? = some c → S[n]? = some c := fun n c h => by
    rw [List.getElem?_take] at h
    split at h
    · exact h
    · cases h
  refine ⟨fun n c h => s.cell n c (sub n c h), fun i j hi hj he => s.inj i j ?_ ?_ he, s.fzH, s.tabs⟩
  · rw [List.length_take] at hi; omega
  · rw [List.length_take] at hj; omega
theorem ev_less (e : Ev G m G' m') : Ev G m G' m :=
  ⟨Nat.le_refl _, e.mu, e.fz, e.keep, fun n h1 h2 => absurd h2 (Nat.not_lt.mpr h1), e.there, e.fzn, e.tups⟩
/-- one of the new things takes the first new place -/
def Gh.mv (G : Gh) (k l : Nat) : Gh := ⟨fun n => if n = k then G.mu l else G.mu n, G.fz, G.H⟩
theorem ev_mv (e : Ev G m G' m') {l : Nat} (h1 : m ≤ l) (h2 : l < m') : Ev G m (G'.mv m l) (m + 1) := by
  refine ⟨Nat.le_succ _, fun n h => (if_neg (Nat.ne_of_lt h)).trans (e.mu n h), e.fz, e.keep, fun n h3 h4 => ?_, e.there, e.fzn, e.tups⟩
  have z : n = m := by omega
  show ¬ Nt G.H (if n = m then G'.mu l else G'.mu n)
  rw [if_pos z]
  exact e.new l h1 h2
theorem CellOk.mv {k l : Nat} {a : Addr} {c : Cell} (h : CellOk C G a c) : CellOk C (G.mv k l) a c := by
  have e : Ev G 0 (G.mv k l) 0 := ⟨Nat.le_refl _, fun n h => absurd h (Nat.not_lt_zero _), fun _ h => h, fun _ _ h _ _ => h, fun n _ h => absurd h (Nat.not_lt_zero _), fun _ h => h, fun _ h => .inl h, fun _ _ h => h⟩
  exact h.go e rfl Iff.rfl
theorem sim_mv (s : Sim C G S) {k l : Nat} {c : Cell} (hk : k ≤ l) (hl : S[l]? = some c) : Sim C (G.mv k l) (S.take k ++ [c]) := by
  have hll := (List.getElem?_eq_some_iff.mp hl).1
  have len : (S.take k).length = k := by rw [List.length_take]; omega
  have m1 : ∀ n, n < k → (G.mv k l).mu n = G.mu n := fun n h => if_neg (Nat.ne_of_lt h)
  have m2 : (G.mv k l).mu k = G.mu l := if_pos rfl
  have lf : ∀ n c', n < k → (S.take k ++ [c])[n]? = some c' → S[n]? = some c' := fun n c' h e => by
    rw [List.getElem?_append_left (by omega), List.getElem?_take, if_pos h] at e
    exact e
  refine ⟨fun n c' h => ?_, fun i j hi hj he => ?_, s.fzH, s.tabs⟩
  · by_cases hn : n < k
    · rw [m1 n hn]
      exact (s.cell n c' (lf n c' hn h)).mv
    · have hn2 : n = k := by
        have := (List.getElem?_eq_some_iff.mp h).1
        rw [List.length_append, List.length_singleton, len] at this
        omega
      subst hn2
      rw [List.getElem?_append_right (by omega), len, Nat.sub_self] at h
      have e2 : c = c' := Option.some.inj h
      subst e2
      rw [m2]
      exact (s.cell l c hl).mv
  · rw [List.length_append, List.length_singleton, len] at hi hj
    by_cases h1 : i < k
    · by_cases h2 : j < k
      · rw [m1 i h1, m1 j h2] at he
        exact s.inj i j (by omega) (by omega) he
      · have h2 : j = k := by omega
        subst h2
        rw [m1 i h1, m2] at he
        have := s.inj i l (by omega) hll he
        omega
    · have h1 : i = k := by omega
      subst h1
      by_cases h2 : j < i
      · rw [m1 j h2, m2] at he
        have := s.inj j l (by omega) hll he.symm
        omega
      · omega
end
end PM
namespace PM
open PySem PySem.Spec L2
/-! ### equality of trees, as a check -/
mutual
def W.beq : W → W → Bool
  | .non, .non => true
  | .bl a, .bl b => a == b
  | .int a, .int b => decide (a = b)
  | .str a, .str b => decide (a = b)
  | .tup a, .tup b => W.beqL a b
  | .arr a, .arr b => W.beqL a b
  | .loc a, .loc b => decide (a = b)
  | .fn a, .fn b => decide (a = b)
  | .scr a, .scr b => decide (a = b)
  | .tpz a, .tpz b => W.beqL a b
  | .twk a, .twk b => W.beqL a b
  | _, _ => false
def W.beqL : List W → List W → Bool
  | [], [] => true
  | a :: as, b :: bs => W.beq a b && W.beqL as bs
  | _, _ => false
end
mutual
theorem W.beq_refl : ∀ w : W, W.beq w w = true
  | .non => by simp [W.beq]
  | .bl a => by simp [W.beq]
  | .int a => by simp [W.beq]
  | .str a => by simp [W.beq]
  | .tup a => by rw [W.beq]; exact W.beqL_refl a
  | .arr a => by rw [W.beq]; exact W.beqL_refl a
  | .loc a => by simp [W.beq]
  | .fn a => by simp [W.beq]
  | .scr a => by simp [W.beq]
  | .tpz a => by rw [W.beq]; exact W.beqL_refl a
  | .twk a => by rw [W.beq]; exact W.beqL_refl a
theorem W.beqL_refl : ∀ ws : List W, W.beqL ws ws = true
  | [] => by simp [W.beqL]
  | w :: ws => by rw [W.beqL, W.beq_refl w, W.beqL_refl ws]; rfl
end
mutual
theorem W.eq_of_beq : ∀ a b : W, W.beq a b = true → a = b
  | .non, b, h => by cases b <;> simp [W.beq] at h ⊢
  | .bl a, b, h => by cases b <;> simp [W.beq] at h ⊢; exact h
  | .int a, b, h => by cases b <;> simp [W.beq] at h ⊢; exact h
  | .str a, b, h => by cases b <;> simp [W.beq] at h ⊢; exact h
  | .tup a, b, h => by cases b <;> simp [W.beq] at h ⊢; exact W.eqL_of_beq a _ h
  | .arr a, b, h => by cases b <;> simp [W.beq] at h ⊢; exact W.eqL_of_beq a _ h
  | .loc a, b, h => by cases b <;> simp [W.beq] at h ⊢; exact h
  | .fn a, b, h => by cases b <;> simp [W.beq] at h ⊢; exact h
  | .scr a, b, h => by cases b <;> simp [W.beq] at h ⊢; exact h
  | .tpz a, b, h => by cases b <;> simp [W.beq] at h ⊢; exact W.eqL_of_beq a _ h
  | .twk a, b, h => by cases b <;> simp [W.beq] at h ⊢; exact W.eqL_of_beq a _ h
theorem W.eqL_of_beq : ∀ a b : List W, W.beqL a b = true → a = b
  | [], b, h => by cases b <;> simp [W.beqL] at h ⊢
  | a :: as, b, h => by
    cases b with
    | nil => simp [W.beqL] at h
    | cons b bs =>
      rw [W.beqL, Bool.and_eq_true] at h
      rw [W.eq_of_beq a b h.1, W.eqL_of_beq as bs h.2]
end
/-! ### the mirrors -/
abbrev ME := Env1 → Store → Res W
abbrev MT := Env1 → Store → Res Bool
abbrev MA := Env1 → Store → Res (List W)
inductive SR where
  | next (d : Env1) (S : Store) | ret (w : W) (S : Store) | brk (d : Env1) (S : Store) | cont (d : Env1) (S : Store) | exc (x : XV) (S : Store) | bad
abbrev MS := Env1 → Store → SR
def LN : Nat := 16777216
theorem ln_eq : LN = sizeLine := by rw [sizeLine_eq] <;> rfl
/-! ### what is wanted behind -/
def XOk (C : Ct) (G : Gh) (x : XV) (d : Option Addr) : Prop := (x.fs = [] ∧ d = none) ∨ x.fs ≠ [] ∧ ∃ dx ys, d = some dx ∧ G.H dx = some (.xd ys) ∧ RepKV C G ys x.fs
section
variable (C : Ct) (E : XK)
def Post {α : Type} (G : Gh) (m : Nat) (r : Res α) (Φ : Gh → α → Store → Prop) : Prop := match r with
  | .ok x S' => ∀ G', Ev G m G' S'.length → Sim C G' S' → Φ G' x S'
  | .exc x S' => ∀ G' A d, Ev G m G' S'.length → Sim C G' S' → C.mg x.name = some (.ref A) → XOk C G' x d → E (.ref A) d G'.H
  | .bad => False
def PostS (G : Gh) (m : Nat) (r : SR) (D : Ends) : Prop := match r with
  | .next d S' => ∀ G' σ', Ev G m G' S'.length → Sim C G' S' → Paired (fun (x : Option V) (y : Option W) => ∀ w, y = some w → ∃ v, x = some v ∧ Rep C G' S'.length v w) σ' d → D.nx σ' G'.H
  | .brk d S' => ∀ G' σ', Ev G m G' S'.length → Sim C G' S' → Paired (fun (x : Option V) (y : Option W) => ∀ w, y = some w → ∃ v, x = some v ∧ Rep C G' S'.length v w) σ' d → D.bk σ' G'.H
  | .cont d S' => ∀ G' σ', Ev G m G' S'.length → Sim C G' S' → Paired (fun (x : Option V) (y : Option W) => ∀ w, y = some w → ∃ v, x = some v ∧ Rep C G' S'.length v w) σ' d → D.ct σ' G'.H
  | .ret w S' => ∀ G' v, Ev G m G' S'.length → Sim C G' S' → Rep C G' S'.length v w → D.rt v G'.H
  | .exc x S' => ∀ G' A d, Ev G m G' S'.length → Sim C G' S' → C.mg x.name = some (.ref A) → XOk C G' x d → E (.ref A) d G'.H
  | .bad => False
end
abbrev EnvOk (C : Ct) (G : Gh) (m : Nat) (σ : L2.St) (d : Env1) : Prop := Paired (fun (x : Option V) (y : Option W) => ∀ w, y = some w → ∃ v, x = some v ∧ Rep C G m v w) σ d
def VQ (C : Ct) (Q : VK) : Gh → W → Store → Prop := fun G w S => ∀ v, Rep C G S.length v w → Q v G.H
def BQ (Q : Bool → Hp → Prop) : Gh → Bool → Store → Prop := fun G b _ => Q b G.H
def LQ (C : Ct) (Q : List V → Hp → Prop) : Gh → List W → Store → Prop := fun G ws S => ∀ vs, RepL C G S.length vs ws → Q vs G.H
section
variable {C : Ct} {E : XK} {G G1 G' : Gh} {m m' : Nat} {α β : Type} {r : Res α} {k : α → Store → Res β} {Φ Ψ : Gh → α → Store → Prop} {S : Store} {σ : L2.St} {d : Env1} {D D' : Ends}
theorem EnvOk.go (h : EnvOk C G m σ d) (e : Ev G m G' m') : EnvOk C G' m' σ d := Paired.mapP h fun x y q w hw => by
  obtain ⟨v, a, b⟩ := q w hw
  exact ⟨v, a, b.go e⟩
theorem post_mono (h : Post C E G m r Φ) (hm : ∀ G' x S', Ev G m G' S'.length → Sim C G' S' → Φ G' x S' → Ψ G' x S') : Post C E G m r Ψ := by
  cases r with
  | ok x S' => exact fun G' e s => hm G' x S' e s (h G' e s)
  | exc x S' => exact h
  | bad => exact h
theorem post_from (e : Ev G m G1 m') (h : Post C E G m r Φ) : Post C E G1 m' r Φ := by
  cases r with
  | ok x S' => exact fun G' e1 s => h G' (e.trans e1) s
  | exc x S' => exact fun G' A d e1 s => h G' A d (e.trans e1) s
  | bad => exact h
theorem post_bind {Φ : Gh → β → Store → Prop} (h : Post C E G m (r.bind k) Φ) : Post C E G m r (fun G1 x S1 => Post C E G1 S1.length (k x S1) Φ) := by
  cases r with
  | ok x S' => exact fun G' e s => post_from e h
  | exc x S' => exact h
  | bad => exact h
theorem posts_from {r : SR} (e : Ev G m G1 m') (h : PostS C E G m r D) : PostS C E G1 m' r D := by
  cases r with
  | next d S' => exact fun G' σ' e1 s => h G' σ' (e.trans e1) s
  | brk d S' => exact fun G' σ' e1 s => h G' σ' (e.trans e1) s
  | cont d S' => exact fun G' σ' e1 s => h G' σ' (e.trans e1) s
  | ret w S' => exact fun G' v e1 s => h G' v (e.trans e1) s
  | exc x S' => exact fun G' A d e1 s => h G' A d (e.trans e1) s
  | bad => exact h
/-- a result followed by a statement's rest -/
def Res.thenS {α : Type} (r : Res α) (k : α → Store → SR) : SR := match r with
  | .ok x S => k x S
  | .exc x S => .exc x S
  | .bad => .bad
theorem posts_bind {k : α → Store → SR} (h : PostS C E G m (r.thenS k) D) : Post C E G m r (fun G1 x S1 => PostS C E G1 S1.length (k x S1) D) := by
  cases r with
  | ok x S' => exact fun G' e s => posts_from e h
  | exc x S' => exact h
  | bad => exact h
end
/-! ### the judgements -/
abbrev ct (X : Cx) (T : List (Addr × Str)) : Ct := ⟨X.K, X.mg, T⟩
def tE (C : Ct) (E : XK) (f : ME) : TE := fun σ H Q => ∃ G S d, H = G.H ∧ Sim C G S ∧ EnvOk C G S.length σ d ∧ Post C E G S.length (f d S) (VQ C Q)
def tT (C : Ct) (E : XK) (f : MT) : TT := fun σ H Q => ∃ G S d, H = G.H ∧ Sim C G S ∧ EnvOk C G S.length σ d ∧ Post C E G S.length (f d S) (BQ Q)
def tA (C : Ct) (E : XK) (f : MA) : TA := fun σ H Q => ∃ G S d, H = G.H ∧ Sim C G S ∧ EnvOk C G S.length σ d ∧ Post C E G S.length (f d S) (LQ C Q)
def tS (C : Ct) (E : XK) (f : MS) : TS := fun D σ H => ∃ G S d, H = G.H ∧ Sim C G S ∧ EnvOk C G S.length σ d ∧ PostS C E G S.length (f d S) D
abbrev JE (X : Cx) (T : List (Addr × Str)) (E : XK) (e : Expr) (f : ME) : Prop := PE X e (tE (ct X T) E f)
abbrev JT (X : Cx) (T : List (Addr × Str)) (E : XK) (e : Expr) (f : MT) : Prop := PT X e (tT (ct X T) E f)
abbrev JW (X : Cx) (T : List (Addr × Str)) (E : XK) (e : Expr) (f : MT) : Prop := PW X e (tT (ct X T) E f)
abbrev JA (X : Cx) (T : List (Addr × Str)) (E : XK) (es : List Expr) (f : MA) : Prop := PA X es (tA (ct X T) E f)
abbrev JS (X : Cx) (T : List (Addr × Str)) (E : XK) (s : Stmt) (f : MS) : Prop := PS X s (tS (ct X T) E f)
abbrev JSs (X : Cx) (T : List (Addr × Str)) (E : XK) (s : List Stmt) (f : MS) : Prop := PSs X s (tS (ct X T) E f)
section
variable {X : Cx} {e : Expr} {es : List Expr} {st : Stmt} {sts : List Stmt}
theorem pe_weak {t t' : TE} (h : PE X e t) (w : ∀ σ H Q, t' σ H Q → t σ H Q) : PE X e t' := ⟨fun pins s σ H Q I q => h.run pins s σ H Q I (w σ H Q q)⟩
theorem pt_weak {t t' : TT} (h : PT X e t) (w : ∀ σ H Q, t' σ H Q → t σ H Q) : PT X e t' := ⟨fun pins s σ H Q I q => h.run pins s σ H Q I (w σ H Q q)⟩
theorem pw_weak {t t' : TT} (h : PW X e t) (w : ∀ σ H Q, t' σ H Q → t σ H Q) : PW X e t' := ⟨fun wh pins s σ H Q I q => h.run wh pins s σ H Q I (w σ H Q q)⟩
theorem pa_weak {t t' : TA} (h : PA X es t) (w : ∀ σ H Q, t' σ H Q → t σ H Q) : PA X es t' := ⟨fun pos pins s σ H Q I q => h.run pos pins s σ H Q I (w σ H Q q)⟩
theorem ps_weak {t t' : TS} (h : PS X st t) (w : ∀ D σ H, t' D σ H → t D σ H) : PS X st t' := ⟨fun pins s σ H D I q => h.run pins s σ H D I (w D σ H q)⟩
theorem pss_weak {t t' : TS} (h : PSs X sts t) (w : ∀ D σ H, t' D σ H → t D σ H) : PSs X sts t' := ⟨fun pins s σ H D I q => h.run pins s σ H D I (w D σ H q)⟩
/-- two rules for one text -/
theorem pe_or2 {t u : TE} (h : PE X e t) (h' : PE X e u) : PE X e (fun σ H Q => t σ H Q ∨ u σ H Q) := ⟨fun pins s σ H Q I q => q.elim (h.run pins s σ H Q I) (h'.run pins s σ H Q I)⟩
theorem ps_or2 {t u : TS} (h : PS X st t) (h' : PS X st u) : PS X st (fun D σ H => t D σ H ∨ u D σ H) := ⟨fun pins s σ H D I q => q.elim (h.run pins s σ H D I) (h'.run pins s σ H D I)⟩
end
/-! ### reading trees -/
section
variable {C : Ct} {G : Gh} {m : Nat} {v : V} {S : Store}
theorem rep_non (h : Rep C G m v .non) : v = .non := by rw [Rep] at h; exact h
theorem rep_bl {b : Bool} (h : Rep C G m v (.bl b)) : v = .bl b := by rw [Rep] at h; exact h
theorem rep_int {i : Int} (h : Rep C G m v (.int i)) : v = .int i := by rw [Rep] at h; exact h
theorem rep_str {x : Str} (h : Rep C G m v (.str x)) : v = .str x := by rw [Rep] at h; exact h
theorem rep_tup {ws : List W} (h : Rep C G m v (.tup ws)) : ∃ a xs, v = .ref a ∧ FzT G a xs ∧ Paired (Rep C G m) xs ws := by
  rw [Rep] at h
  obtain ⟨a, xs, h1, h2, h3⟩ := h
  exact ⟨a, xs, h1, h2, repL_iff.mp h3⟩
theorem rep_tpz {ws : List W} (h : Rep C G m v (.tpz ws)) : ∃ a xs, v = .ref a ∧ FzZ G a xs ∧ Paired (Rep C G 0) xs ws := by
  rw [Rep] at h
  obtain ⟨a, xs, h1, h2, h3⟩ := h
  exact ⟨a, xs, h1, h2, repL_iff.mp h3⟩
theorem rep_twk {ws : List W} (h : Rep C G m v (.twk ws)) : ∃ a xs, v = .ref a ∧ FzT G a xs ∧ Paired (Rep C G m) xs ws := by
  rw [Rep] at h
  obtain ⟨a, xs, h1, h2, h3⟩ := h
  exact ⟨a, xs, h1, h2, repL_iff.mp h3⟩
theorem mk_tpz {a : Addr} {xs : List V} {ws : List W} (h : FzZ G a xs) (p : Paired (Rep C G 0) xs ws) : Rep C G m (.ref a) (.tpz ws) := by
  rw [Rep]
  exact ⟨a, xs, rfl, h, repL_iff.mpr p⟩
theorem mk_twk {a : Addr} {xs : List V} {ws : List W} (h : FzT G a xs) (p : Paired (Rep C G m) xs ws) : Rep C G m (.ref a) (.twk ws) := by
  rw [Rep]
  exact ⟨a, xs, rfl, h, repL_iff.mpr p⟩
theorem rep_arr {ws : List W} (h : Rep C G m v (.arr ws)) : ∃ a xs, v = .ref a ∧ FzL G a xs ∧ Paired (Rep C G 0) xs ws := by
  rw [Rep] at h
  obtain ⟨a, xs, h1, h2, h3⟩ := h
  exact ⟨a, xs, h1, h2, repL_iff.mp h3⟩
theorem rep_loc {n : Nat} (h : Rep C G m v (.loc n)) : n < m ∧ v = .ref (G.mu n) := by rw [Rep] at h; exact h
theorem rep_fn {x : Str} (h : Rep C G m v (.fn x)) : ∃ f, C.mg x = some (.ref f) ∧ v = .ref f := by rw [Rep] at h; exact h
theorem mk_non : Rep C G m .non .non := by rw [Rep]
theorem mk_bl {b : Bool} : Rep C G m (.bl b) (.bl b) := by rw [Rep]
theorem mk_int {i : Int} : Rep C G m (.int i) (.int i) := by rw [Rep]
theorem mk_str {x : Str} : Rep C G m (.str x) (.str x) := by rw [Rep]
theorem mk_tup {a : Addr} {xs : List V} {ws : List W} (h : FzT G a xs) (p : Paired (Rep C G m) xs ws) : Rep C G m (.ref a) (.tup ws) := by
  rw [Rep]
  exact ⟨a, xs, rfl, h, repL_iff.mpr p⟩
theorem mk_arr {a : Addr} {xs : List V} {ws : List W} (h : FzL G a xs) (p : Paired (Rep C G 0) xs ws) : Rep C G m (.ref a) (.arr ws) := by
  rw [Rep]
  exact ⟨a, xs, rfl, h, repL_iff.mpr p⟩
theorem mk_loc {n : Nat} (h : n < m) : Rep C G m (.ref (G.mu n)) (.loc n) := by
  rw [Rep]
  exact ⟨h, rfl⟩
theorem FzT.sq {a : Addr} {xs : List V} (h : FzT G a xs) (K : PySem.W.Frag) : SqT K G.H a xs := .inl (.inl h.2)
theorem FzZ.sq {a : Addr} {xs : List V} (h : FzZ G a xs) (K : PySem.W.Frag) : SqT K G.H a xs := by
  obtain ⟨_, o, h, _⟩ := h
  exact .inl (.inr ⟨o, h⟩)
theorem FzL.sq {a : Addr} {xs : List V} (h : FzL G a xs) (K : PySem.W.Frag) : SqL K G.H a xs := .inl (.inl h.2)
theorem FzS.sq {a : Addr} {xs : List V} (h : FzS C G a xs) : SqL C.K G.H a xs := by
  rcases h with ⟨_, h⟩ | h
  · exact .inl h
  · exact .inr h
theorem rep_scr {ns : List Int} (h : Rep C G m v (.scr ns)) : ∃ a, v = .ref a ∧ FzS C G a (ns.map V.int) := by rw [Rep] at h; exact h
/-- the items of a list -/
def lstOf (S : Store) : W → Option (List W)
  | .arr ws => some ws
  | .loc n => match S[n]? with
    | some (.lst ws) => some ws
    | some (.ice ws) => some ws
    | _ => none
  | _ => none
/-- .. of a list or tuple -/
def seqOf (S : Store) : W → Option (List W)
  | .tup ws => some ws
  | .tpz ws => some ws
  | w => lstOf S w
theorem rep_lst {w : W} {ws : List W} (s : Sim C G S) (h : Rep C G S.length v w) (e : lstOf S w = some ws) : ∃ a xs, v = .ref a ∧ G.H a = some (.lst xs) ∧ Paired (Rep C G 0) xs ws := by
  cases w with
  | arr ys =>
    obtain ⟨a, xs, h1, h2, h3⟩ := rep_arr h
    have e1 : ys = ws := Option.some.inj e
    subst e1
    exact ⟨a, xs, h1, h2.2, h3⟩
  | loc n =>
    obtain ⟨h1, h2⟩ := rep_loc h
    have e1 : (match S[n]? with | some (.lst ws) => some ws | some (.ice ws) => some ws | _ => none) = some ws := e
    cases q : S[n]? with
    | none => rw [q] at e1; cases e1
    | some c =>
      rw [q] at e1
      have hc := s.cell n c q
      cases c with
      | lst ys =>
        have e2 : ys = ws := Option.some.inj e1
        subst e2
        obtain ⟨_, xs, q1, q2⟩ := hc
        exact ⟨_, xs, h2, q1, repL_iff.mp q2⟩
      | ice ys =>
        have e2 : ys = ws := Option.some.inj e1
        subst e2
        obtain ⟨_, xs, q1, q2⟩ := hc
        exact ⟨_, xs, h2, q1, repL_iff.mp q2⟩
      | dT k => cases e1
      | dK k => cases e1
  | _ => cases e
theorem rep_seq {w : W} {ws : List W} (s : Sim C G S) (h : Rep C G S.length v w) (e : seqOf S w = some ws) : ∃ a xs, v = .ref a ∧ (SqL C.K G.H a xs ∨ SqT C.K G.H a xs) ∧ Paired (Rep C G S.length) xs ws := by
  cases w with
  | tup ys =>
    obtain ⟨a, xs, h1, h2, h3⟩ := rep_tup h
    have e1 : ys = ws := Option.some.inj e
    subst e1
    exact ⟨a, xs, h1, .inr (h2.sq C.K), h3⟩
  | tpz ys =>
    obtain ⟨a, xs, h1, h2, h3⟩ := rep_tpz h
    have e1 : ys = ws := Option.some.inj e
    subst e1
    exact ⟨a, xs, h1, .inr (h2.sq C.K), Paired.mapP h3 fun _ _ q => q.up⟩
  | arr ys =>
    obtain ⟨a, xs, h1, h2, h3⟩ := rep_lst s h e
    exact ⟨a, xs, h1, .inl (.inl (.inl h2)), Paired.mapP h3 fun _ _ q => q.up⟩
  | loc n =>
    obtain ⟨a, xs, h1, h2, h3⟩ := rep_lst s h e
    exact ⟨a, xs, h1, .inl (.inl (.inl h2)), Paired.mapP h3 fun _ _ q => q.up⟩
  | _ => cases e
end
end PM
namespace PM
open PySem PySem.Spec L2
/-! ### freezing what is put into a container -/
mutual
def storeW : W → Store → Option (W × Store)
  | .loc n, S => match S[n]? with
    | some (.lst ws) => some (.arr ws, S.set n (.ice ws))
    | some (.ice ws) => some (.arr ws, S)
    | _ => none
  | .tup ws, S => match storeL ws S with
    | some (ws', S') => some (.tup ws', S')
    | none => none
  | .twk _, _ => none
  | w, S => some (w, S)
def storeL : List W → Store → Option (List W × Store)
  | [], S => some ([], S)
  | w :: ws, S => match storeW w S with
    | some (w', S') => match storeL ws S' with
      | some (ws', S'') => some (w' :: ws', S'')
      | none => none
    | none => none
end
section
variable {C : Ct}
mutual
theorem storeW_ok : ∀ (w : W) (v : V) (G : Gh) (S : Store) (w' : W) (S' : Store), Sim C G S → Rep C G S.length v w → storeW w S = some (w', S') →
    ∃ G', Ev G S.length G' S'.length ∧ S'.length = S.length ∧ Sim C G' S' ∧ Rep C G' 0 v w' ∧ G'.H = G.H
  | .non, v, G, S, w', S', s, r, e => by
    obtain ⟨rfl, rfl⟩ : W.non = w' ∧ S = S' := by simpa [storeW] using e
    exact ⟨G, Ev.refl, rfl, s, rep_free _ _ r (by simp [W.free]), rfl⟩
  | .bl b, v, G, S, w', S', s, r, e => by
    obtain ⟨rfl, rfl⟩ : W.bl b = w' ∧ S = S' := by simpa [storeW] using e
    exact ⟨G, Ev.refl, rfl, s, rep_free _ _ r (by simp [W.free]), rfl⟩
  | .int b, v, G, S, w', S', s, r, e => by
    obtain ⟨rfl, rfl⟩ : W.int b = w' ∧ S = S' := by simpa [storeW] using e
    exact ⟨G, Ev.refl, rfl, s, rep_free _ _ r (by simp [W.free]), rfl⟩
  | .str b, v, G, S, w', S', s, r, e => by
    obtain ⟨rfl, rfl⟩ : W.str b = w' ∧ S = S' := by simpa [storeW] using e
    exact ⟨G, Ev.refl, rfl, s, rep_free _ _ r (by simp [W.free]), rfl⟩
  | .fn b, v, G, S, w', S', s, r, e => by
    obtain ⟨rfl, rfl⟩ : W.fn b = w' ∧ S = S' := by simpa [storeW] using e
    exact ⟨G, Ev.refl, rfl, s, rep_free _ _ r (by simp [W.free]), rfl⟩
  | .scr b, v, G, S, w', S', s, r, e => by
    obtain ⟨rfl, rfl⟩ : W.scr b = w' ∧ S = S' := by simpa [storeW] using e
    exact ⟨G, Ev.refl, rfl, s, rep_free _ _ r (by simp [W.free]), rfl⟩
  | .tpz b, v, G, S, w', S', s, r, e => by
    obtain ⟨rfl, rfl⟩ : W.tpz b = w' ∧ S = S' := by simpa [storeW] using e
    exact ⟨G, Ev.refl, rfl, s, rep_free _ _ r (by simp [W.free]), rfl⟩
  | .twk ws, v, G, S, w', S', s, r, e => by simp [storeW] at e
  | .arr b, v, G, S, w', S', s, r, e => by
    obtain ⟨rfl, rfl⟩ : W.arr b = w' ∧ S = S' := by simpa [storeW] using e
    exact ⟨G, Ev.refl, rfl, s, rep_free _ _ r (by simp [W.free]), rfl⟩
  | .tup ws, v, G, S, w', S', s, r, e => by
    rw [storeW] at e
    cases q : storeL ws S with
    | none => rw [q] at e; cases e
    | some p =>
      obtain ⟨ws', S1⟩ := p
      rw [q] at e
      obtain ⟨rfl, rfl⟩ : W.tup ws' = w' ∧ S1 = S' := by simpa using e
      obtain ⟨a, xs, rfl, h1, h2⟩ := rep_tup r
      obtain ⟨G', a1, a2, a3, a4, a5⟩ := storeL_ok ws xs G S ws' S1 s h2 q
      exact ⟨G', a1, a2, a3, mk_tup (h1.mono a1) a4, a5⟩
  | .loc n, v, G, S, w', S', s, r, e => by
    rw [storeW] at e
    obtain ⟨hn, rfl⟩ := rep_loc r
    cases q : S[n]? with
    | none => rw [q] at e; cases e
    | some c =>
      rw [q] at e
      have hc := s.cell n c q
      cases c with
      | lst ws =>
        obtain ⟨rfl, rfl⟩ : W.arr ws = w' ∧ S.set n (.ice ws) = S' := by simpa using e
        obtain ⟨_, xs, e1, r1⟩ := hc
        have ev : Ev G S.length (G.icy n) S.length := ev_icy hn
        refine ⟨G.icy n, by rw [List.length_set]; exact ev, List.length_set, sim_icy s q, ?_, rfl⟩
        exact mk_arr ⟨.inl rfl, e1⟩ (repL_iff.mp (r1.go0 ev))
      | ice ws =>
        obtain ⟨rfl, rfl⟩ : W.arr ws = w' ∧ S = S' := by simpa using e
        obtain ⟨f, xs, e1, r1⟩ := hc
        exact ⟨G, Ev.refl, rfl, s, mk_arr ⟨f, e1⟩ (repL_iff.mp r1), rfl⟩
      | dT k => cases e
      | dK k => cases e
theorem storeL_ok : ∀ (ws : List W) (vs : List V) (G : Gh) (S : Store) (ws' : List W) (S' : Store), Sim C G S → Paired (Rep C G S.length) vs ws → storeL ws S = some (ws', S') →
    ∃ G', Ev G S.length G' S'.length ∧ S'.length = S.length ∧ Sim C G' S' ∧ Paired (Rep C G' 0) vs ws' ∧ G'.H = G.H
  | [], vs, G, S, ws', S', s, r, e => by
    rw [storeL] at e
    obtain ⟨rfl, rfl⟩ : [] = ws' ∧ S = S' := by simpa using e
    cases r
    exact ⟨G, Ev.refl, rfl, s, .nil, rfl⟩
  | w :: ws, _, G, S, ws', S', s, .cons r1 r2, e => by
    rw [storeL] at e
    cases q : storeW w S with
    | none => rw [q] at e; cases e
    | some p =>
      obtain ⟨w1, S1⟩ := p
      rw [q] at e
      dsimp only at e
      cases q2 : storeL ws S1 with
      | none => rw [q2] at e; cases e
      | some p2 =>
        obtain ⟨ws2, S2⟩ := p2
        rw [q2] at e
        obtain ⟨rfl, rfl⟩ : w1 :: ws2 = ws' ∧ S2 = S' := by simpa using e
        obtain ⟨G1, a1, a2, a3, a4, a5⟩ := storeW_ok w _ G S w1 S1 s r1 q
        obtain ⟨G2, b1, b2, b3, b4, b5⟩ := storeL_ok ws _ G1 S1 ws2 S2 a3 (Paired.mapP r2 fun _ _ z => z.go a1) q2
        exact ⟨G2, a1.trans b1, b2.trans a2, b3, .cons (a4.go0 b1) b4, b5.trans a5⟩
end
end
/-! ### ends -/
section
variable {C : Ct} {E : XK} {G : Gh} {S : Store} {Q : VK} {v : V} {w : W}
theorem use_same (s : Sim C G S) (h : Post C E G S.length (.ok w S) (VQ C Q)) (r : Rep C G S.length v w) : Q v G.H := h G Ev.refl s v r
theorem use_tup {ws : List W} {xs : List V} (s : Sim C G S) (h : Post C E G S.length (.ok (.tup ws) S) (VQ C Q)) (p : Paired (Rep C G S.length) xs ws) : ∀ a, G.H a = none → Q (.ref a) (upd G.H a (.tup xs)) := fun a ha =>
  h (G.addF a (.tup xs)) (ev_addF ha) (sim_addF s ha) _ (mk_tup ⟨.inl rfl, upd_same⟩ (Paired.mapP p fun _ _ z => z.go (ev_addF ha)))
theorem use_tpz {ws : List W} {xs : List V} (s : Sim C G S) (h : Post C E G S.length (.ok (.tpz ws) S) (VQ C Q)) (p : Paired (Rep C G 0) xs ws) : ∀ (a : Addr) (ob : Obj), G.H a = none → ob.dict = none → Q (.ref a) (upd G.H a (.frz ob (.tup xs))) := fun a ob ha hd =>
  h (G.addF a (.frz ob (.tup xs))) (ev_addF ha) (sim_addF s ha) _ (mk_tpz ⟨.inl rfl, ob, upd_same, hd⟩ (Paired.mapP p fun _ _ z => z.go0 (ev_addF (m := S.length) ha)))
theorem use_new {c : Cell} {o : HO} (s : Sim C G S) (h : Post C E G S.length (.ok (.loc S.length) (S ++ [c])) (VQ C Q)) (a : Addr) (ha : G.H a = none) (hc : CellOk C (G.addL S.length a o) a c) : Q (.ref a) (upd G.H a o) := by
  have e : Ev G S.length (G.addL S.length a o) (S ++ [c]).length := by rw [List.length_append]; exact ev_addL ha
  have r : Rep C (G.addL S.length a o) (S ++ [c]).length (.ref a) (.loc S.length) := by
    have z := mk_loc (C := C) (G := G.addL S.length a o) (m := (S ++ [c]).length) (n := S.length) (by rw [List.length_append]; exact Nat.lt_succ_self _)
    rw [show (G.addL S.length a o).mu S.length = a from if_pos rfl] at z
    exact z
  exact h _ e (sim_addL s ha (s.nofz ha) hc) _ r
theorem use_lst {ws : List W} {xs : List V} (s : Sim C G S) (h : Post C E G S.length (.ok (.loc S.length) (S ++ [.lst ws])) (VQ C Q)) (p : Paired (Rep C G 0) xs ws) : ∀ a, G.H a = none → Q (.ref a) (upd G.H a (.lst xs)) := fun a ha =>
  use_new s h a ha ⟨s.nofz ha, xs, upd_same, repL_iff.mpr (Paired.mapP p fun _ _ z => z.go0 (ev_addL (m := S.length) ha))⟩
end
/-! ### names, constants -/
def eVar (i : Nat) : ME := fun d S => match d[i]? with
  | some (some w) => .ok w S
  | _ => .bad
def eC (w : W) : ME := fun _ S => .ok w S
section
variable {X : Cx} {T : List (Addr × Str)} {E : XK} {a b c : Expr} {f g h : ME} {pos : Pos}
theorem je_var (i : Nat) {x : Str} {pos : Pos} (hN : X.N[i]? = some x := by rfl) (hv : Vis X.env.scope x := by first | exact Or.inl rfl | exact Or.inr (Or.inl rfl) | exact Or.inr (Or.inr rfl)) (hd : (x == ("__debug__" : Str)) = false := by decide)
    (hcd : (x == ("__classdict__" : Str)) = false := by decide) : JE X T E (.Name x pos) (eVar i) := by
  refine pe_weak (pe_var hN hv hd hcd) fun σ H Q ⟨G, S, d, e, s, env, h⟩ => ?_
  subst e
  unfold eVar at h
  cases q : d[i]? with
  | none => rw [q] at h; exact h.elim
  | some o =>
    rw [q] at h
    cases o with
    | none => exact h.elim
    | some w =>
      obtain ⟨y, e1, e2⟩ := p_get env q
      obtain ⟨v, rfl, r⟩ := e2 w rfl
      exact ⟨v, e1, use_same s h r⟩
theorem je_c {w : W} {v : V} (h : PE X a (tC v)) (hr : ∀ C G m, Rep C G m v w) : JE X T E a (eC w) :=
  pe_weak h fun σ H Q ⟨G, S, d, e, s, env, h⟩ => by
    subst e
    exact use_same s h (hr _ _ _)
theorem je_int {i j pos} : JE X T E (.Constant (.int i) j pos) (eC (.int i)) := je_c pe_int fun _ _ _ => mk_int
theorem je_bl {b j pos} : JE X T E (.Constant (.bool b) j pos) (eC (.bl b)) := je_c pe_bl fun _ _ _ => mk_bl
theorem je_non {j pos} : JE X T E (.Constant .none j pos) (eC .non) := je_c pe_non fun _ _ _ => mk_non
theorem je_str {x j pos} : JE X T E (.Constant (.str x) j pos) (eC (.str x)) := je_c pe_str fun _ _ _ => mk_str
theorem je_gint {x : Str} {i : Int} {u : Value} (hg : Gl X x) (hm : X.mg x = some u) (r : RelV (.int i) u) (hd : (x == ("__debug__" : Str)) = false := by decide) : JE X T E (.Name x pos) (eC (.int i)) := je_c (pe_glob hg hm r hd) fun _ _ _ => mk_int
theorem je_gstr {x : Str} {z : Str} {u : Value} (hg : Gl X x) (hm : X.mg x = some u) (r : RelV (.str z) u) (hd : (x == ("__debug__" : Str)) = false := by decide) : JE X T E (.Name x pos) (eC (.str z)) := je_c (pe_glob hg hm r hd) fun _ _ _ => mk_str
theorem je_gfn {x : Str} {A : Addr} (hg : Gl X x) (hm : X.mg x = some (.ref A)) (hd : (x == ("__debug__" : Str)) = false := by decide) : JE X T E (.Name x pos) (eC (.fn x)) :=
  pe_weak (pe_glob (v := .ref A) hg hm rfl hd) fun σ H Q ⟨G, S, d, e, s, env, h⟩ => by
    subst e
    exact use_same s h (by rw [Rep]; exact ⟨A, hm, rfl⟩)
/-! ### two places -/
def OpW (C : Ct) (E : XK) (r : R2) (ρ : W → W → Store → Res W) : Prop :=
  ∀ (G : Gh) (S : Store) (v1 v2 : V) (w1 w2 : W) (Q : VK), Sim C G S → Rep C G S.length v1 w1 → Rep C G S.length v2 w2 → Post C E G S.length (ρ w1 w2 S) (VQ C Q) → r v1 v2 G.H Q
def eBin (ρ : W → W → Store → Res W) (f g : ME) : ME := fun d S => (f d S).bind fun x S1 => (g d S1).bind fun y S2 => ρ x y S2
theorem bin_w {C : Ct} {r : R2} {ρ : W → W → Store → Res W} (hr : OpW C E r ρ) : ∀ σ H Q, tE C E (eBin ρ f g) σ H Q → tOp r (tE C E f) (tE C E g) σ H Q := fun σ H Q ⟨G, S, d, e, s, env, h⟩ => by
  refine ⟨G, S, d, e, s, env, post_mono (post_bind h) fun G1 w1 S1 e1 s1 h1 v1 r1 => ?_⟩
  refine ⟨G1, S1, d, rfl, s1, env.go e1, post_mono (post_bind h1) fun G2 w2 S2 e2 s2 h2 v2 r2 => ?_⟩
  exact hr G2 S2 v1 v2 w1 w2 Q s2 (r1.go e2) r2 h2
theorem je_op {op : Operator} {r : R2} {ρ : W → W → Store → Res W} (ho : OpR X (binaryOp op) r) (hr : OpW (ct X T) E r ρ) (ha : JE X T E a f) (hb : JE X T E b g) : JE X T E (.BinOp a op b pos) (eBin ρ f g) :=
  pe_weak (pe_op ho ha hb) (bin_w hr)
theorem je_cmp {op : CmpOp} {r : R2} {ρ : W → W → Store → Res W} (ho : OpR X (compareOp op) r) (hr : OpW (ct X T) E r ρ) (ha : JE X T E a f) (hb : JE X T E b g) (hm : behindInMarks op b = false) : JE X T E (.Compare a [op] [b] pos) (eBin ρ f g) :=
  pe_weak (pe_cmpR ho ha hb hm) (bin_w hr)
def asB (r : Res W) : Res Bool := r.bind fun w S => match w with
  | .bl b => .ok b S
  | _ => .bad
def tst (f : ME) : MT := fun d S => asB (f d S)
theorem tst_w {C : Ct} {t : TE} (h : ∀ σ H Q, tE C E f σ H Q → t σ H Q) : ∀ σ H Q, tT C E (tst f) σ H Q → tTest t σ H Q := fun σ H Q ⟨G, S, d, e, s, env, q⟩ => by
  refine h σ H _ ⟨G, S, d, e, s, env, post_mono (post_bind q) fun G1 w S1 e1 s1 h1 v r => ?_⟩
  cases w with
  | bl b => exact ⟨b, rep_bl r, h1 G1 Ev.refl s1⟩
  | _ => exact h1.elim
theorem jt_cmp {op : CmpOp} {r : R2} {ρ : W → W → Store → Res W} (ho : OpR X (compareOp op) r) (hr : OpW (ct X T) E r ρ) (ha : JE X T E a f) (hb : JE X T E b g) (hm : behindInMarks op b = false) : JT X T E (.Compare a [op] [b] pos) (tst (eBin ρ f g)) :=
  pt_weak (pt_cmpR ho ha hb hm) (tst_w (bin_w hr))
/-- any other expression as a test -/
theorem jt_val (ha : JE X T E a f) (he : ∀ whole, isTrue a X.env whole = (do let v ← whole; standAt a.pos; holding [v] (truthy v)) := by intro _; rfl) : JT X T E a (tst f) :=
  pt_weak (pt_val ha he) (tst_w fun _ _ _ q => q)
def eChain (ρ ρ' : W → W → Store → Res W) (f g h : ME) : ME := fun d S => (f d S).bind fun x S1 => (g d S1).bind fun y S2 => (ρ x y S2).bind fun z S3 => match z with
  | .bl true => (h d S3).bind fun w S4 => ρ' y w S4
  | .bl false => .ok (.bl false) S3
  | _ => .bad
theorem chain_w {C : Ct} {r r' : R2} {ρ ρ' : W → W → Store → Res W} (hr : OpW C E r ρ) (hr' : OpW C E r' ρ') : ∀ σ H Q, tE C E (eChain ρ ρ' f g h) σ H Q → tChain r r' (tE C E f) (tE C E g) (tE C E h) σ H Q := fun σ H Q ⟨G, S, d, e, s, env, q⟩ => by
  refine ⟨G, S, d, e, s, env, post_mono (post_bind q) fun G1 w1 S1 e1 s1 h1 v1 r1 => ?_⟩
  refine ⟨G1, S1, d, rfl, s1, env.go e1, post_mono (post_bind h1) fun G2 w2 S2 e2 s2 h2 v2 r2 => ?_⟩
  refine hr G2 S2 v1 v2 w1 w2 _ s2 (r1.go e2) r2 (post_mono (post_bind h2) fun G3 w3 S3 e3 s3 h3 v3 r3 => ?_)
  cases w3 with
  | bl k =>
    refine ⟨k, rep_bl r3, ?_⟩
    cases k with
    | true =>
      rw [if_pos rfl]
      refine ⟨G3, S3, d, rfl, s3, ((env.go e1).go e2).go e3, post_mono (post_bind h3) fun G4 w4 S4 e4 s4 h4 v4 r4 => ?_⟩
      exact hr' G4 S4 v2 v4 w2 w4 Q s4 ((r2.go e3).go e4) r4 h4
    | false =>
      rw [if_neg Bool.false_ne_true]
      exact use_same s3 h3 mk_bl
  | _ => exact h3.elim
theorem je_chain {op op' : CmpOp} {r r' : R2} {ρ ρ' : W → W → Store → Res W} (ho : OpR X (compareOp op) r) (hr : OpW (ct X T) E r ρ) (ho' : OpR X (compareOp op') r') (hr' : OpW (ct X T) E r' ρ') (ha : JE X T E a f) (hb : JE X T E b g) (hc : JE X T E c h)
    (hm : lastMarks [op, op'] [b, c] = false := by with_unfolding_all rfl) : JE X T E (.Compare a [op, op'] [b, c] pos) (eChain ρ ρ' f g h) := pe_weak (pe_chain ho ho' ha hb hc hm) (chain_w hr hr')
theorem jt_chain {op op' : CmpOp} {r r' : R2} {ρ ρ' : W → W → Store → Res W} (ho : OpR X (compareOp op) r) (hr : OpW (ct X T) E r ρ) (ho' : OpR X (compareOp op') r') (hr' : OpW (ct X T) E r' ρ') (ha : JE X T E a f) (hb : JE X T E b g) (hc : JE X T E c h)
    (hm : lastMarks [op, op'] [b, c] = false := by with_unfolding_all rfl) : JT X T E (.Compare a [op, op'] [b, c] pos) (tst (eChain ρ ρ' f g h)) := pt_weak (pt_chain ho ho' ha hb hc hm) (tst_w (chain_w hr hr'))
/-! ### and, or, not, if -/
def tAndM (t u : MT) : MT := fun d S => (t d S).bind fun b S1 => if b then u d S1 else .ok false S1
def tOrM (t u : MT) : MT := fun d S => (t d S).bind fun b S1 => if b then .ok true S1 else u d S1
def tNotM (t : MT) : MT := fun d S => (t d S).bind fun b S1 => .ok (!b) S1
variable {t u : MT} {rest : List Expr}
theorem jw_and1 (ha : JT X T E a t) : JW X T E (.BoolOp .And [a] pos) t := pw_and1 ha
theorem jw_or1 (ha : JT X T E a t) : JW X T E (.BoolOp .Or [a] pos) t := pw_or1 ha
theorem jw_and (ha : JT X T E a t) (hb : JW X T E (.BoolOp .And (b :: rest) pos) u) : JW X T E (.BoolOp .And (a :: b :: rest) pos) (tAndM t u) :=
  pw_weak (pw_and ha hb) fun σ H Q ⟨G, S, d, e, s, env, q⟩ => by
    refine ⟨G, S, d, e, s, env, post_mono (post_bind q) fun G1 k S1 e1 s1 h1 => ?_⟩
    cases k with
    | true => exact ⟨G1, S1, d, rfl, s1, env.go e1, h1⟩
    | false => exact h1 G1 Ev.refl s1
theorem jw_or (ha : JT X T E a t) (hb : JW X T E (.BoolOp .Or (b :: rest) pos) u) : JW X T E (.BoolOp .Or (a :: b :: rest) pos) (tOrM t u) :=
  pw_weak (pw_or ha hb) fun σ H Q ⟨G, S, d, e, s, env, q⟩ => by
    refine ⟨G, S, d, e, s, env, post_mono (post_bind q) fun G1 k S1 e1 s1 h1 => ?_⟩
    cases k with
    | false => exact ⟨G1, S1, d, rfl, s1, env.go e1, h1⟩
    | true => exact h1 G1 Ev.refl s1
theorem jt_w {e : Expr} (h : JW X T E e t) : JT X T E e t := h.pt
theorem jt_not (ha : JT X T E a t) : JT X T E (.UnaryOp .Not a pos) (tNotM t) :=
  pt_weak (pt_not ha) fun σ H Q ⟨G, S, d, e, s, env, q⟩ => ⟨G, S, d, e, s, env, post_mono (post_bind q) fun G1 k S1 e1 s1 h1 => h1 G1 Ev.refl s1⟩
def eAndM (f g : ME) : ME := fun d S => (f d S).bind fun w S1 => match w with
  | .bl true => g d S1
  | .bl false => .ok (.bl false) S1
  | _ => .bad
def eOrM (f g : ME) : ME := fun d S => (f d S).bind fun w S1 => match w with
  | .bl true => .ok (.bl true) S1
  | .bl false => g d S1
  | _ => .bad
def eNotM (f : ME) : ME := fun d S => (f d S).bind fun w S1 => match w with
  | .bl b => .ok (.bl (!b)) S1
  | _ => .bad
theorem je_one {op} (ha : JE X T E a f) : JE X T E (.BoolOp op [a] pos) f := pe_one ha
theorem je_and (ha : JE X T E a f) (hb : JE X T E (.BoolOp .And (b :: rest) pos) g) : JE X T E (.BoolOp .And (a :: b :: rest) pos) (eAndM f g) :=
  pe_weak (pe_and ha hb) fun σ H Q ⟨G, S, d, e, s, env, q⟩ => by
    refine ⟨G, S, d, e, s, env, post_mono (post_bind q) fun G1 w S1 e1 s1 h1 v r => ?_⟩
    cases w with
    | bl k =>
      refine ⟨k, rep_bl r, ?_⟩
      cases k with
      | true => exact ⟨G1, S1, d, rfl, s1, env.go e1, h1⟩
      | false => exact use_same s1 h1 mk_bl
    | _ => exact h1.elim
theorem je_or (ha : JE X T E a f) (hb : JE X T E (.BoolOp .Or (b :: rest) pos) g) : JE X T E (.BoolOp .Or (a :: b :: rest) pos) (eOrM f g) :=
  pe_weak (pe_or ha hb) fun σ H Q ⟨G, S, d, e, s, env, q⟩ => by
    refine ⟨G, S, d, e, s, env, post_mono (post_bind q) fun G1 w S1 e1 s1 h1 v r => ?_⟩
    cases w with
    | bl k =>
      refine ⟨k, rep_bl r, ?_⟩
      cases k with
      | false => exact ⟨G1, S1, d, rfl, s1, env.go e1, h1⟩
      | true => exact use_same s1 h1 mk_bl
    | _ => exact h1.elim
theorem je_not (ha : JE X T E a f) : JE X T E (.UnaryOp .Not a pos) (eNotM f) :=
  pe_weak (pe_not ha) fun σ H Q ⟨G, S, d, e, s, env, q⟩ => by
    refine ⟨G, S, d, e, s, env, post_mono (post_bind q) fun G1 w S1 e1 s1 h1 v r => ?_⟩
    cases w with
    | bl k => exact ⟨k, rep_bl r, use_same s1 h1 mk_bl⟩
    | _ => exact h1.elim
def eIf (t : MT) (f g : ME) : ME := fun d S => (t d S).bind fun b S1 => if b then f d S1 else g d S1
theorem je_if (hc : JT X T E c t) (ha : JE X T E a f) (hb : JE X T E b g) : JE X T E (.IfExp c a b pos) (eIf t f g) :=
  pe_weak (pe_ifExp hc ha hb) fun σ H Q ⟨G, S, d, e, s, env, q⟩ => by
    refine ⟨G, S, d, e, s, env, post_mono (post_bind q) fun G1 k S1 e1 s1 h1 => ?_⟩
    cases k with
    | true => exact ⟨G1, S1, d, rfl, s1, env.go e1, h1⟩
    | false => exact ⟨G1, S1, d, rfl, s1, env.go e1, h1⟩
/-! ### argument lists, displays -/
variable {es : List Expr} {fs : MA} {e : Expr}
def aNil : MA := fun _ S => .ok [] S
def aCons (f : ME) (fs : MA) : MA := fun d S => (f d S).bind fun x S1 => (fs d S1).bind fun xs S2 => .ok (x :: xs) S2
theorem ja_nil : JA X T E [] aNil := pa_weak pa_nil fun σ H Q ⟨G, S, d, e, s, env, q⟩ => by
  subst e
  exact q G Ev.refl s [] (by simp [RepL])
theorem ja_cons (ha : JE X T E e f) (hr : JA X T E es fs) (hs : starEach (e :: es) X.env = (false, eval e X.env) :: starEach es X.env := by rfl) : JA X T E (e :: es) (aCons f fs) :=
  pa_weak (pa_cons ha hr hs) fun σ H Q ⟨G, S, d, e, s, env, q⟩ => by
    refine ⟨G, S, d, e, s, env, post_mono (post_bind q) fun G1 w S1 e1 s1 h1 v r => ?_⟩
    refine ⟨G1, S1, d, rfl, s1, env.go e1, post_mono (post_bind h1) fun G2 ws S2 e2 s2 h2 vs rs => ?_⟩
    exact h2 G2 Ev.refl s2 _ (by rw [RepL]; exact ⟨r.go e2, rs⟩)
theorem repL_len {C : Ct} {G : Gh} {m : Nat} {vs : List V} {ws : List W} (h : RepL C G m vs ws) : vs.length = ws.length := (repL_iff.mp h).length
def eTup (fs : MA) : ME := fun d S => (fs d S).bind fun ws S1 => if ws.length ≤ LN then .ok (.tup ws) S1 else .bad
theorem je_tup {x1} (ha : JA X T E es fs) : JE X T E (.Tuple es x1 pos) (eTup fs) :=
  pe_weak (pe_tup ha) fun σ H Q ⟨G, S, d, e, s, env, q⟩ => by
    refine ⟨G, S, d, e, s, env, post_mono (post_bind q) fun G1 ws S1 e1 s1 h1 vs r => ?_⟩
    by_cases hl : ws.length ≤ LN
    · rw [if_pos hl] at h1
      exact ⟨by rw [repL_len r, ← ln_eq]; exact hl, use_tup s1 h1 (repL_iff.mp r)⟩
    · rw [if_neg hl] at h1
      exact h1.elim
/-- a tuple whose methods may be called -/
def tTupZ (t : TA) : TE := fun σ H Q => t σ H fun xs H1 => xs.length ≤ sizeLine ∧ ∀ p (ob : Obj), H1 p = none → ob.dict = none → Q (.ref p) (upd H1 p (.frz ob (.tup xs)))
theorem pe_tupZ {ta : TA} {x1} (ha : PA X es ta) : PE X (.Tuple es x1 pos) (tTupZ ta) := by
  refine ⟨fun pins s σ H Q I hq => wpAny_Tuple_spliced (thn (ha.run pos pins s σ H _ I hq) fun us s1 ⟨xs, H1, I1, r, z, q⟩ => ⟨by rw [← r.length]; exact z, ?_⟩)⟩
  have nw : H1 s1.heap.objs.size = none := I1.hok.fresh (Nat.le_refl _)
  have gt := Heap.get?_push_size (o := ({ cls := .type "tuple", data := .seq us.toArray } : Obj)) s1.heap rfl
  exact ⟨.ref s1.heap.objs.size, upd H1 s1.heap.objs.size (.frz ({ cls := .type "tuple", data := .seq us.toArray } : Obj) (.tup xs)), I1.laid (t' := s1.toks) (fun c oc qc => Heap.get?_push_of_some _ qc) (Nat.le_refl _) ⟨gt, z, us, r, ⟨_, gt, rfl, _, rfl⟩⟩, rfl, q _ _ nw rfl⟩
def eTupZ (fs : MA) : ME := fun d S => (fs d S).bind fun ws S1 => if ws.length ≤ LN ∧ W.freeL 0 ws = true then .ok (.tpz ws) S1 else .bad
theorem je_tupZ {x1} (ha : JA X T E es fs) : JE X T E (.Tuple es x1 pos) (eTupZ fs) :=
  pe_weak (pe_tupZ ha) fun σ H Q ⟨G, S, d, e, s, env, q⟩ => by
    refine ⟨G, S, d, e, s, env, post_mono (post_bind q) fun G1 ws S1 e1 s1 h1 vs r => ?_⟩
    by_cases hl : ws.length ≤ LN ∧ W.freeL 0 ws = true
    · rw [if_pos hl] at h1
      exact ⟨by rw [repL_len r, ← ln_eq]; exact hl.1, use_tpz s1 h1 (repL_iff.mp (repL_free ws vs r hl.2))⟩
    · rw [if_neg hl] at h1
      exact h1.elim
def newLst (ws : List W) (S : Store) : Res W := match storeL ws S with
  | some (ws', S') => if ws'.length ≤ LN then .ok (.loc S'.length) (S' ++ [.lst ws']) else .bad
  | none => .bad
def eLst (fs : MA) : ME := fun d S => (fs d S).bind newLst
theorem je_lst (ha : JA X T E es fs) : JE X T E (.List es pos) (eLst fs) :=
  pe_weak (pe_lst ha) fun σ H Q ⟨G, S, d, e, s, env, q⟩ => by
    refine ⟨G, S, d, e, s, env, post_mono (post_bind q) fun G1 ws S1 e1 s1 h1 vs r => ?_⟩
    unfold newLst at h1
    cases z : storeL ws S1 with
    | none => rw [z] at h1; exact h1.elim
    | some p =>
      obtain ⟨ws', S2⟩ := p
      rw [z] at h1
      dsimp only at h1
      obtain ⟨G2, a1, a2, a3, a4, a5⟩ := storeL_ok ws vs G1 S1 ws' S2 s1 (repL_iff.mp r) z
      by_cases hl : ws'.length ≤ LN
      · rw [if_pos hl] at h1
        have h2 := post_from a1 h1
        have z2 := use_lst a3 h2 a4
        rw [a5] at z2
        exact ⟨by rw [a4.length, ← ln_eq]; exact hl, z2⟩
      · rw [if_neg hl] at h1
        exact h1.elim
def eDT : ME := fun _ S => .ok (.loc S.length) (S ++ [.dT []])
def eDK : ME := fun _ S => .ok (.loc S.length) (S ++ [.dK []])
theorem je_dT : JE X T E (.Dict [] [] pos) eDT := pe_weak pe_dnewT fun σ H Q ⟨G, S, d, e, s, env, q⟩ => by
  subst e
  exact fun p hp => use_new s q p hp ⟨s.nofz hp, [], upd_same, .nil⟩
theorem je_dK : JE X T E (.Dict [] [] pos) eDK := pe_weak pe_dnewK fun σ H Q ⟨G, S, d, e, s, env, q⟩ => by
  subst e
  exact fun p hp => use_new s q p hp ⟨s.nofz hp, [], upd_same, .nil⟩
end
end PM
namespace PM
open PySem PySem.Spec L2
theorem post_eq {α : Type} {C : Ct} {E : XK} {G : Gh} {m : Nat} {r : Res α} {Φ Ψ : Gh → α → Store → Prop} (h : Post C E G m r Φ) (hm : ∀ G' x S', r = .ok x S' → Ev G m G' S'.length → Sim C G' S' → Φ G' x S' → Ψ G' x S') : Post C E G m r Ψ := by
  cases r with
  | ok x S' => exact fun G' e s => hm G' x S' rfl e s (h G' e s)
  | exc x S' => exact h
  | bad => exact h
/-! ### numbers, texts, tuples, lists put together -/
def opAdd (x y : W) (S : Store) : Res W := match x with
  | .int i => match y with
    | .int j => .ok (.int (i + j)) S
    | _ => .bad
  | .str a => match y with
    | .str b => if a.length + b.length ≤ LN then .ok (.str (a ++ b)) S else .bad
    | _ => .bad
  | .tup a => match y with
    | .tup b => if a.length + b.length ≤ LN then .ok (.tup (a ++ b)) S else .bad
    | _ => .bad
  | .tpz a => match y with
    | .tpz b => if a.length + b.length ≤ LN then .ok (.tpz (a ++ b)) S else .bad
    | _ => .bad
  | x => match lstOf S x with
    | some a => match lstOf S y with
      | some b => if a.length + b.length ≤ LN then .ok (.loc S.length) (S ++ [.lst (a ++ b)]) else .bad
      | none => .bad
    | none => .bad
def opI2 (g : Int → Int → Int) (x y : W) (S : Store) : Res W := match x with
  | .int i => match y with
    | .int j => .ok (.int (g i j)) S
    | _ => .bad
  | _ => .bad
/-- under a condition -/
def opIc (c : Int → Int → Bool) (g : Int → Int → Int) (x y : W) (S : Store) : Res W := match x with
  | .int i => match y with
    | .int j => if c i j then .ok (.int (g i j)) S else .bad
    | _ => .bad
  | _ => .bad
def opSub : W → W → Store → Res W := opI2 fun i j => i - j
def cMul (i j : Int) : Bool := (decide (-(2 ^ 64) < i) && decide (i < 2 ^ 64)) || (decide (-(2 ^ 64) < j) && decide (j < 2 ^ 64))
def opMul (x y : W) (S : Store) : Res W := match x with
  | .int i => match y with
    | .int j => if cMul i j then .ok (.int (i * j)) S else .bad
    | _ => .bad
  | x => match lstOf S x with
    | some a => match y with
      | .int k => if k < 2 ^ 62 && (-(2 ^ 62) < k) && (a.length * k.toNat ≤ LN) then .ok (.loc S.length) (S ++ [.lst (List.replicate k.toNat a).flatten]) else .bad
      | _ => .bad
    | none => .bad
def opMod : W → W → Store → Res W := opIc (fun _ j => decide (0 < j)) fun i j => i % j
def opDiv : W → W → Store → Res W := opIc (fun _ j => decide (0 < j) && decide (j < 1073741824)) fun i j => i / j
def opPow : W → W → Store → Res W := opIc (fun i j => decide (0 ≤ j) && decide (j ≤ 1000000) && decide (i.natAbs < 2 ^ 64)) fun i j => i ^ j.toNat
section
variable {C : Ct} {E : XK}
theorem w_op2 {g : Int → Int → Int} : OpW C E (rI0 fun i j => .int (g i j)) (opI2 g) := fun G S v1 v2 w1 w2 Q s r1 r2 h => by
  cases w1 with
  | int i => cases w2 with
    | int j => exact ⟨i, j, rep_int r1, rep_int r2, use_same s h mk_int⟩
    | _ => exact h.elim
  | _ => exact h.elim
theorem w_opc {c : Int → Int → Bool} {D : Int → Int → Prop} {g : Int → Int → Int} (hc : ∀ i j, c i j = true → D i j) : OpW C E (rI D fun i j => .int (g i j)) (opIc c g) := fun G S v1 v2 w1 w2 Q s r1 r2 h => by
  cases w1 with
  | int i => cases w2 with
    | int j =>
      have h' : Post C E G S.length (if c i j then .ok (.int (g i j)) S else .bad) (VQ C Q) := h
      cases q : c i j with
      | true => rw [q] at h'; exact ⟨i, j, rep_int r1, rep_int r2, hc i j q, use_same s h' mk_int⟩
      | false => rw [q] at h'; exact h'.elim
    | _ => exact h.elim
  | _ => exact h.elim
theorem w_sub : OpW C E (rI0 fun i j => .int (i - j)) opSub := w_op2
theorem w_mod : OpW C E (rI (fun _ j => 0 < j) fun i j => .int (i % j)) opMod := w_opc fun i j h => by simpa using h
theorem w_div : OpW C E (rI CDiv fun i j => .int (i / j)) opDiv := w_opc fun i j h => by
  rw [Bool.and_eq_true, decide_eq_true_eq, decide_eq_true_eq] at h
  exact h
theorem w_pow : OpW C E (rI CPow fun i j => .int (i ^ j.toNat)) opPow := w_opc fun i j h => by
  rw [Bool.and_eq_true, Bool.and_eq_true, decide_eq_true_eq, decide_eq_true_eq, decide_eq_true_eq] at h
  exact ⟨h.1.1, h.1.2, h.2⟩
/-- t + u, the new one known to its last field -/
def rCatZ (K : PySem.W.Frag) : R2 := fun x y H Q => ∃ a b xs ys, x = .ref a ∧ y = .ref b ∧ SqT K H a xs ∧ SqT K H b ys ∧ xs.length + ys.length ≤ sizeLine ∧
  (xs = [] → Q (.ref b) H) ∧ (xs ≠ [] → ys = [] → Q (.ref a) H) ∧ (xs ≠ [] → ys ≠ [] → ∀ p (ob : Obj), H p = none → ob.dict = none → Q (.ref p) (upd H p (.frz ob (.tup (xs ++ ys)))))
theorem op_catZ {X : Cx} : OpR X (binaryOp .Add) (rCatZ X.K) := by
  intro pins s σ H x y v u Q I rx ry h
  obtain ⟨a, b, xs, ys, rfl, rfl, ha, hb, hz, q0, q1, q2⟩ := h
  by_cases hx : xs = []
  · exact op_catA pins s σ H _ _ v u Q I rx ry ⟨a, b, xs, ys, rfl, rfl, ha, hb, hz, q0, q1, fun z => absurd hx z⟩
  · obtain rfl : v = Value.ref a := rx
    obtain rfl : u = Value.ref b := ry
    obtain ⟨us, ru, pu, _⟩ := I.tuple ha
    obtain ⟨ts, rt, pt, _⟩ := I.tuple hb
    refine HT.cat_tup pu pt (fun z => hx (ru.nil_iff.mp z)) (fun z => ⟨.ref a, H, I, rfl, q1 hx (rt.nil_iff.mp z)⟩) (fun z => ?_) (by rw [← ru.length, ← rt.length]; exact hz)
    have nw : H s.heap.objs.size = none := I.hok.fresh (Nat.le_refl _)
    have gt := Heap.get?_push_size (o := ({ cls := .type "tuple", data := .seq (us ++ ts).toArray } : Obj)) s.heap rfl
    refine ⟨.ref s.heap.objs.size, upd H s.heap.objs.size (.frz ({ cls := .type "tuple", data := .seq (us ++ ts).toArray } : Obj) (.tup (xs ++ ys))), ?_, rfl, q2 hx (fun w => z (rt.nil_iff.mpr w)) _ _ nw rfl⟩
    refine I.laid (t' := s.toks) (fun c oc qc => Heap.get?_push_of_some _ qc) (Nat.le_refl _) ⟨gt, ?_, us ++ ts, ru.append rt, ⟨_, gt, rfl, _, rfl⟩⟩
    rw [List.length_append]
    exact hz
abbrev rAdd4 (K : PySem.W.Frag) : R2 := fun x y H Q => (rI0 fun i j => .int (i + j)) x y H Q ∨ (∃ i j, x = .str i ∧ y = .str j ∧ i.length + j.length ≤ sizeLine ∧ Q (.str (i ++ j)) H) ∨ rCatA K x y H Q ∨ rCat x y H Q ∨ rCatZ K x y H Q
theorem op_add4 {X : Cx} : OpR X (binaryOp .Add) (rAdd4 X.K) := op_add.or (op_add_str.or (op_catA.or (op_cat.or op_catZ)))
theorem addL {K : PySem.W.Frag} {G : Gh} {S : Store} {v1 v2 : V} {w1 w2 : W} {Q : VK} (s : Sim C G S) (r1 : Rep C G S.length v1 w1) (r2 : Rep C G S.length v2 w2)
    (h : Post C E G S.length (match lstOf S w1 with
    | some a => match lstOf S w2 with
      | some b => if a.length + b.length ≤ LN then .ok (.loc S.length) (S ++ [.lst (a ++ b)]) else .bad
      | none => .bad
    | none => .bad) (VQ C Q)) : rAdd4 K v1 v2 G.H Q := by
  cases q1 : lstOf S w1 with
  | none => rw [q1] at h; exact h.elim
  | some a => cases q2 : lstOf S w2 with
    | none => rw [q1, q2] at h; exact h.elim
    | some b =>
      rw [q1, q2] at h
      dsimp only at h
      obtain ⟨l1, xs, e1, h1, p1⟩ := rep_lst s r1 q1
      obtain ⟨l2, ys, e2, h2, p2⟩ := rep_lst s r2 q2
      by_cases hl : a.length + b.length ≤ LN
      · rw [if_pos hl] at h
        exact .inr (.inr (.inr (.inl ⟨l1, l2, xs, ys, e1, e2, h1, h2, by rw [p1.length, p2.length, ← ln_eq]; exact hl, use_lst s h (p_append p1 p2)⟩)))
      · rw [if_neg hl] at h
        exact h.elim
theorem w_add {K : PySem.W.Frag} : OpW C E (rAdd4 K) opAdd := fun G S v1 v2 w1 w2 Q s r1 r2 h => by
  cases w1 with
  | int i => cases w2 with
    | int j => exact .inl ⟨i, j, rep_int r1, rep_int r2, use_same s h mk_int⟩
    | _ => exact h.elim
  | str a => cases w2 with
    | str b =>
      have h' : Post C E G S.length (if a.length + b.length ≤ LN then .ok (.str (a ++ b)) S else .bad) (VQ C Q) := h
      by_cases hl : a.length + b.length ≤ LN
      · rw [if_pos hl] at h'
        exact .inr (.inl ⟨a, b, rep_str r1, rep_str r2, by rw [← ln_eq]; exact hl, use_same s h' mk_str⟩)
      · rw [if_neg hl] at h'; exact h'.elim
    | _ => exact h.elim
  | tup a => cases w2 with
    | tup b =>
      have h' : Post C E G S.length (if a.length + b.length ≤ LN then .ok (.tup (a ++ b)) S else .bad) (VQ C Q) := h
      by_cases hl : a.length + b.length ≤ LN
      · rw [if_pos hl] at h'
        obtain ⟨l1, xs, rfl, f1, p1⟩ := rep_tup r1
        obtain ⟨l2, ys, rfl, f2, p2⟩ := rep_tup r2
        refine .inr (.inr (.inl ⟨l1, l2, xs, ys, rfl, rfl, f1.sq K, f2.sq K, by rw [p1.length, p2.length, ← ln_eq]; exact hl, fun z => ?_, fun _ z => ?_, fun _ _ => use_tup s h' (p_append p1 p2)⟩))
        · subst z
          cases p1
          exact use_same s h' r2
        · subst z
          cases p2
          rw [List.append_nil] at h'
          exact use_same s h' r1
      · rw [if_neg hl] at h'; exact h'.elim
    | _ => exact h.elim
  | tpz a => cases w2 with
    | tpz b =>
      have h' : Post C E G S.length (if a.length + b.length ≤ LN then .ok (.tpz (a ++ b)) S else .bad) (VQ C Q) := h
      by_cases hl : a.length + b.length ≤ LN
      · rw [if_pos hl] at h'
        obtain ⟨l1, xs, rfl, f1, p1⟩ := rep_tpz r1
        obtain ⟨l2, ys, rfl, f2, p2⟩ := rep_tpz r2
        refine .inr (.inr (.inr (.inr ⟨l1, l2, xs, ys, rfl, rfl, f1.sq K, f2.sq K, by rw [p1.length, p2.length, ← ln_eq]; exact hl, fun z => ?_, fun _ z => ?_, fun _ _ => use_tpz s h' (p_append p1 p2)⟩)))
        · subst z
          cases p1
          exact use_same s h' r2
        · subst z
          cases p2
          rw [List.append_nil] at h'
          exact use_same s h' r1
      · rw [if_neg hl] at h'; exact h'.elim
    | _ => exact h.elim
  | twk ws => exact addL s r1 r2 h
  | non => exact addL s r1 r2 h
  | bl b => exact addL s r1 r2 h
  | arr ws => exact addL s r1 r2 h
  | loc n => exact addL s r1 r2 h
  | fn x => exact addL s r1 r2 h
  | scr x => exact addL s r1 r2 h
abbrev rMul2 : R2 := fun x y H Q => (rI CMul fun i j => .int (i * j)) x y H Q ∨ rRep x y H Q
theorem op_mul2 {X : Cx} : OpR X (binaryOp .Mult) rMul2 := op_mul.or op_rep
theorem mulL {G : Gh} {S : Store} {v1 v2 : V} {w1 w2 : W} {Q : VK} (s : Sim C G S) (r1 : Rep C G S.length v1 w1) (r2 : Rep C G S.length v2 w2)
    (h : Post C E G S.length (match lstOf S w1 with
    | some a => match w2 with
      | .int k => if k < 2 ^ 62 && (-(2 ^ 62) < k) && (a.length * k.toNat ≤ LN) then .ok (.loc S.length) (S ++ [.lst (List.replicate k.toNat a).flatten]) else .bad
      | _ => .bad
    | none => .bad) (VQ C Q)) : rMul2 v1 v2 G.H Q := by
  cases q1 : lstOf S w1 with
  | none => rw [q1] at h; exact h.elim
  | some a =>
    rw [q1] at h
    obtain ⟨l1, xs, e1, h1, p1⟩ := rep_lst s r1 q1
    cases w2 with
    | int k =>
      dsimp only at h
      by_cases hl : (decide (k < 2 ^ 62) && decide (-(2 ^ 62) < k) && decide (a.length * k.toNat ≤ LN)) = true
      · rw [if_pos hl] at h
        rw [Bool.and_eq_true, Bool.and_eq_true, decide_eq_true_eq, decide_eq_true_eq, decide_eq_true_eq] at hl
        exact .inr ⟨l1, k, xs, e1, rep_int r2, h1, by omega, by omega, by rw [p1.length, ← ln_eq]; exact hl.2, use_lst s h (p_rep p1 _)⟩
      · rw [if_neg hl] at h
        exact h.elim
    | _ => exact h.elim
theorem w_mul : OpW C E rMul2 opMul := fun G S v1 v2 w1 w2 Q s r1 r2 h => by
  cases w1 with
  | int i => cases w2 with
    | int j =>
      have h' : Post C E G S.length (if cMul i j then .ok (.int (i * j)) S else .bad) (VQ C Q) := h
      cases q : cMul i j with
      | true =>
        rw [q] at h'
        refine .inl ⟨i, j, rep_int r1, rep_int r2, ?_, use_same s h' mk_int⟩
        unfold cMul at q
        rw [Bool.or_eq_true, Bool.and_eq_true, Bool.and_eq_true, decide_eq_true_eq, decide_eq_true_eq, decide_eq_true_eq, decide_eq_true_eq] at q
        exact q
      | false => rw [q] at h'; exact h'.elim
    | _ => exact h.elim
  | non => exact mulL s r1 r2 h
  | bl b => exact mulL s r1 r2 h
  | str b => exact mulL s r1 r2 h
  | tup b => exact mulL s r1 r2 h
  | arr ws => exact mulL s r1 r2 h
  | loc n => exact mulL s r1 r2 h
  | fn x => exact mulL s r1 r2 h
  | scr x => exact mulL s r1 r2 h
  | tpz x => exact mulL s r1 r2 h
  | twk x => exact mulL s r1 r2 h
/-! ### comparisons -/
def cmpI (p : Int → Int → Bool) (x y : W) (S : Store) : Res W := match x with
  | .int i => match y with
    | .int j => .ok (.bl (p i j)) S
    | _ => .bad
  | _ => .bad
theorem w_cmpI {p : Int → Int → Bool} : OpW C E (rI0 fun i j => .bl (p i j)) (cmpI p) := fun G S v1 v2 w1 w2 Q s r1 r2 h => by
  cases w1 with
  | int i => cases w2 with
    | int j => exact ⟨i, j, rep_int r1, rep_int r2, use_same s h mk_bl⟩
    | _ => exact h.elim
  | _ => exact h.elim
abbrev cmpLt : W → W → Store → Res W := cmpI fun i j => decide (i < j)
abbrev cmpLe : W → W → Store → Res W := cmpI fun i j => decide (i ≤ j)
abbrev cmpGt : W → W → Store → Res W := cmpI fun i j => decide (j < i)
abbrev cmpGe : W → W → Store → Res W := cmpI fun i j => decide (j ≤ i)
mutual
def toD0 : W → Option PyData
  | .non => some .none
  | .bl b => some (.bool b)
  | .int i => some (.int i)
  | .str x => some (.str x)
  | .tup ws => match toDL0 ws with
    | some ds => some (.tuple ds)
    | none => none
  | .arr ws => match toDL0 ws with
    | some ds => some (.list ds)
    | none => none
  | _ => none
def toDL0 : List W → Option (List PyData)
  | [] => some []
  | w :: ws => match toD0 w with
    | some d => match toDL0 ws with
      | some ds => some (d :: ds)
      | none => none
    | none => none
end
mutual
def toD (S : Store) : W → Option PyData
  | .tup ws => match toDL S ws with
    | some ds => some (.tuple ds)
    | none => none
  | .loc n => match lstOf S (.loc n) with
    | some ws => match toDL0 ws with
      | some ds => some (.list ds)
      | none => none
    | none => none
  | w => toD0 w
def toDL (S : Store) : List W → Option (List PyData)
  | [] => some []
  | w :: ws => match toD S w with
    | some d => match toDL S ws with
      | some ds => some (d :: ds)
      | none => none
    | none => none
end
mutual
theorem toD0_ok {G : Gh} {m : Nat} (K : PySem.W.Frag) : ∀ (w : W) (v : V) (d : PyData), Rep C G m v w → toD0 w = some d → Dp K G.H v d
  | .non, v, d, r, e => by simp [toD0] at e; subst e; rw [rep_non r]; exact .non
  | .bl b, v, d, r, e => by simp [toD0] at e; subst e; rw [rep_bl r]; exact .bl b
  | .int b, v, d, r, e => by simp [toD0] at e; subst e; rw [rep_int r]; exact .int b
  | .str b, v, d, r, e => by simp [toD0] at e; subst e; rw [rep_str r]; exact .str b
  | .tup ws, v, d, r, e => by
    rw [toD0] at e
    cases q : toDL0 ws with
    | none => rw [q] at e; cases e
    | some ds =>
      rw [q] at e
      obtain rfl : PyData.tuple ds = d := Option.some.inj e
      obtain ⟨a, xs, rfl, h1, h2⟩ := rep_tup r
      exact .tup (h1.sq K) (toDL0_ok K ws xs ds h2 q)
  | .arr ws, v, d, r, e => by
    rw [toD0] at e
    cases q : toDL0 ws with
    | none => rw [q] at e; cases e
    | some ds =>
      rw [q] at e
      obtain rfl : PyData.list ds = d := Option.some.inj e
      obtain ⟨a, xs, rfl, h1, h2⟩ := rep_arr r
      exact .lst (h1.sq K) (toDL0_ok K ws xs ds h2 q)
  | .loc n, v, d, r, e => by simp [toD0] at e
  | .fn n, v, d, r, e => by simp [toD0] at e
  | .scr n, v, d, r, e => by simp [toD0] at e
  | .tpz n, v, d, r, e => by simp [toD0] at e
  | .twk n, v, d, r, e => by simp [toD0] at e
theorem toDL0_ok {G : Gh} {m : Nat} (K : PySem.W.Frag) : ∀ (ws : List W) (vs : List V) (ds : List PyData), Paired (Rep C G m) vs ws → toDL0 ws = some ds → DpAll K G.H vs ds
  | [], _, ds, .nil, e => by simp [toDL0] at e; subst e; exact .nil
  | w :: ws, _, ds, .cons r1 r2, e => by
    rw [toDL0] at e
    cases q : toD0 w with
    | none => rw [q] at e; cases e
    | some d1 =>
      rw [q] at e
      dsimp only at e
      cases q2 : toDL0 ws with
      | none => rw [q2] at e; cases e
      | some d2 =>
        rw [q2] at e
        obtain rfl : d1 :: d2 = ds := Option.some.inj e
        exact .cons (toD0_ok K w _ d1 r1 q) (toDL0_ok K ws _ d2 r2 q2)
end
mutual
theorem toD_ok {G : Gh} {S : Store} (s : Sim C G S) (K : PySem.W.Frag) : ∀ (w : W) (v : V) (d : PyData), Rep C G S.length v w → toD S w = some d → Dp K G.H v d
  | .tup ws, v, d, r, e => by
    rw [toD] at e
    cases q : toDL S ws with
    | none => rw [q] at e; cases e
    | some ds =>
      rw [q] at e
      obtain rfl : PyData.tuple ds = d := Option.some.inj e
      obtain ⟨a, xs, rfl, h1, h2⟩ := rep_tup r
      exact .tup (h1.sq K) (toDL_ok s K ws xs ds h2 q)
  | .loc n, v, d, r, e => by
    rw [toD] at e
    cases q0 : lstOf S (.loc n) with
    | none => rw [q0] at e; cases e
    | some ws =>
      rw [q0] at e
      dsimp only at e
      obtain ⟨a, xs, rfl, h1, h2⟩ := rep_lst s r q0
      cases q : toDL0 ws with
      | none => rw [q] at e; cases e
      | some ds =>
        rw [q] at e
        obtain rfl : PyData.list ds = d := Option.some.inj e
        exact .lst (.inl (.inl h1)) (toDL0_ok K ws xs ds h2 q)
  | .non, v, d, r, e => toD0_ok K .non v d r (by simpa [toD] using e)
  | .bl b, v, d, r, e => toD0_ok K (.bl b) v d r (by simpa [toD] using e)
  | .int b, v, d, r, e => toD0_ok K (.int b) v d r (by simpa [toD] using e)
  | .str b, v, d, r, e => toD0_ok K (.str b) v d r (by simpa [toD] using e)
  | .arr b, v, d, r, e => toD0_ok K (.arr b) v d r (by simpa [toD] using e)
  | .fn b, v, d, r, e => toD0_ok K (.fn b) v d r (by simpa [toD] using e)
  | .scr b, v, d, r, e => toD0_ok K (.scr b) v d r (by simpa [toD] using e)
  | .tpz b, v, d, r, e => toD0_ok K (.tpz b) v d r (by simpa [toD] using e)
  | .twk b, v, d, r, e => toD0_ok K (.twk b) v d r (by simpa [toD] using e)
theorem toDL_ok {G : Gh} {S : Store} (s : Sim C G S) (K : PySem.W.Frag) : ∀ (ws : List W) (vs : List V) (ds : List PyData), Paired (Rep C G S.length) vs ws → toDL S ws = some ds → DpAll K G.H vs ds
  | [], _, ds, .nil, e => by simp [toDL] at e; subst e; exact .nil
  | w :: ws, _, ds, .cons r1 r2, e => by
    rw [toDL] at e
    cases q : toD S w with
    | none => rw [q] at e; cases e
    | some d1 =>
      rw [q] at e
      dsimp only at e
      cases q2 : toDL S ws with
      | none => rw [q2] at e; cases e
      | some d2 =>
        rw [q2] at e
        obtain rfl : d1 :: d2 = ds := Option.some.inj e
        exact .cons (toD_ok s K w _ d1 r1 q) (toDL_ok s K ws _ d2 r2 q2)
end
def eqW (S : Store) (x y : W) : Option Bool := match toD S x with
  | some d => match toD S y with
    | some e => if SeqAt.shaped d && SeqAt.shaped e then some (PyData.eqv d e) else none
    | none => none
  | none => none
def cmpEq (x y : W) (S : Store) : Res W := match eqW S x y with
  | some b => .ok (.bl b) S
  | none => .bad
def cmpNe (x y : W) (S : Store) : Res W := match eqW S x y with
  | some b => .ok (.bl (!b)) S
  | none => .bad
theorem eqW_ok {G : Gh} {S : Store} {v1 v2 : V} {w1 w2 : W} {k : Bool} (s : Sim C G S) (K : PySem.W.Frag) (r1 : Rep C G S.length v1 w1) (r2 : Rep C G S.length v2 w2) (h : eqW S w1 w2 = some k) :
    ∃ d e, Dp K G.H v1 d ∧ Dp K G.H v2 e ∧ SeqAt.shaped d = true ∧ SeqAt.shaped e = true ∧ PyData.eqv d e = k := by
  unfold eqW at h
  cases q1 : toD S w1 with
  | none => rw [q1] at h; cases h
  | some d => cases q2 : toD S w2 with
    | none => rw [q1, q2] at h; cases h
    | some e =>
      rw [q1, q2] at h
      dsimp only at h
      by_cases z : (SeqAt.shaped d && SeqAt.shaped e) = true
      · rw [if_pos z] at h
        rw [Bool.and_eq_true] at z
        exact ⟨d, e, toD_ok s K w1 v1 d r1 q1, toD_ok s K w2 v2 e r2 q2, z.1, z.2, Option.some.inj h⟩
      · rw [if_neg z] at h; cases h
theorem w_eq {K : PySem.W.Frag} : OpW C E (rEqD K) cmpEq := fun G S v1 v2 w1 w2 Q s r1 r2 h => by
  unfold cmpEq at h
  cases q : eqW S w1 w2 with
  | none => rw [q] at h; exact h.elim
  | some k =>
    rw [q] at h
    obtain ⟨d, e, a1, a2, a3, a4, a5⟩ := eqW_ok s K r1 r2 q
    exact ⟨d, e, a1, a2, a3, a4, by rw [a5]; exact use_same s h mk_bl⟩
theorem w_ne {K : PySem.W.Frag} : OpW C E (rNeD K) cmpNe := fun G S v1 v2 w1 w2 Q s r1 r2 h => by
  unfold cmpNe at h
  cases q : eqW S w1 w2 with
  | none => rw [q] at h; exact h.elim
  | some k =>
    rw [q] at h
    obtain ⟨d, e, a1, a2, a3, a4, a5⟩ := eqW_ok s K r1 r2 q
    exact ⟨d, e, a1, a2, a3, a4, by rw [a5]; exact use_same s h mk_bl⟩
/-- is None, is not None; of bools -/
def cmpIs (neg : Bool) (x y : W) (S : Store) : Res W := match y with
  | .non => .ok (.bl (if neg then !(W.beq x .non) else W.beq x .non)) S
  | .bl b => match x with
    | .bl a => .ok (.bl (if neg then !(decide (a = b)) else decide (a = b))) S
    | _ => .bad
  | _ => .bad
abbrev rIs2 : R2 := fun x y H Q => rIsN x y H Q ∨ rIsB x y H Q
abbrev rNot2 : R2 := fun x y H Q => rNotN x y H Q ∨ rNotB x y H Q
theorem op_is2 {X : Cx} : OpR X (compareOp .Is) rIs2 := op_isN1.or op_isBl
theorem op_isnot2 {X : Cx} : OpR X (compareOp .IsNot) rNot2 := op_notN1.or op_notBl
theorem rep_isN {G : Gh} {m : Nat} {v : V} {w : W} (r : Rep C G m v w) : decide (v = V.non) = W.beq w .non := by
  cases w with
  | non => rw [rep_non r]; simp [W.beq]
  | bl b => rw [rep_bl r]; simp [W.beq]
  | int b => rw [rep_int r]; simp [W.beq]
  | str b => rw [rep_str r]; simp [W.beq]
  | tup b => obtain ⟨a, xs, rfl, _⟩ := rep_tup r; simp [W.beq]
  | arr b => obtain ⟨a, xs, rfl, _⟩ := rep_arr r; simp [W.beq]
  | loc b => obtain ⟨_, rfl⟩ := rep_loc r; simp [W.beq]
  | fn b => obtain ⟨a, _, rfl⟩ := rep_fn r; simp [W.beq]
  | scr b => obtain ⟨a, rfl, _⟩ := rep_scr r; simp [W.beq]
  | tpz b => obtain ⟨a, xs, rfl, _⟩ := rep_tpz r; simp [W.beq]
  | twk b => obtain ⟨a, xs, rfl, _⟩ := rep_twk r; simp [W.beq]
theorem w_is : OpW C E rIs2 (cmpIs false) := fun G S v1 v2 w1 w2 Q s r1 r2 h => by
  cases w2 with
  | non => exact .inl ⟨rep_non r2, by rw [rep_isN r1]; exact use_same s h mk_bl⟩
  | bl b => cases w1 with
    | bl a => exact .inr ⟨a, b, rep_bl r1, rep_bl r2, use_same s h mk_bl⟩
    | _ => exact h.elim
  | _ => exact h.elim
theorem w_isnot : OpW C E rNot2 (cmpIs true) := fun G S v1 v2 w1 w2 Q s r1 r2 h => by
  cases w2 with
  | non => exact .inl ⟨rep_non r2, by rw [rep_isN r1]; exact use_same s h mk_bl⟩
  | bl b => cases w1 with
    | bl a => exact .inr ⟨a, b, rep_bl r1, rep_bl r2, use_same s h mk_bl⟩
    | _ => exact h.elim
  | _ => exact h.elim
/-! ### one place -/
def opNeg (x : W) (S : Store) : Res W := match x with
  | .int i => .ok (.int (-i)) S
  | _ => .bad
def eUn (ρ : W → Store → Res W) (f : ME) : ME := fun d S => (f d S).bind ρ
theorem je_neg {X : Cx} {T : List (Addr × Str)} {a : Expr} {f : ME} {pos : Pos} (ha : JE X T E a f) : JE X T E (.UnaryOp .USub a pos) (eUn opNeg f) :=
  pe_weak (pe_un un_neg ha) fun σ H Q ⟨G, S, d, e, s, env, h⟩ => by
    refine ⟨G, S, d, e, s, env, post_mono (post_bind h) fun G1 w S1 e1 s1 h1 v r => ?_⟩
    cases w with
    | int i => exact ⟨i, rep_int r, use_same s1 h1 mk_int⟩
    | _ => exact h1.elim
end
end PM
namespace PM
open PySem PySem.Spec L2
/-! ### dicts -/
section
variable {κ : Type} [DecidableEq κ]
def getW (kvs : List (κ × W)) (k : κ) : Option W := (kvs.find? fun p => decide (p.1 = k)).map (·.2)
def putW (kvs : List (κ × W)) (k : κ) (w : W) : List (κ × W) :=
  if (kvs.any fun p => decide (p.1 = k)) = true then kvs.map (fun p => if p.1 = k then (p.1, w) else p) else kvs ++ [(k, w)]
variable {C : Ct} {G : Gh}
theorem kv_get {ys : List (κ × V)} {kvs : List (κ × W)} (h : RepKV C G ys kvs) (k : κ) : (∀ w, getW kvs k = some w → ∃ v, valV ys k = some v ∧ Rep C G 0 v w) ∧ (getW kvs k = none → valV ys k = none) := by
  unfold RepKV at h
  induction h with
  | nil => exact ⟨fun w e => by simp [getW] at e, fun _ => rfl⟩
  | @cons p q ps qs a t ih =>
    by_cases e : q.1 = k
    · have b : getW (q :: qs) k = some q.2 := by simp [getW, List.find?_cons, e]
      rw [b]
      refine ⟨fun w z => ⟨p.2, valV_pos (a.1.trans e), ?_⟩, fun z => by cases z⟩
      cases z
      exact a.2
    · have b : getW (q :: qs) k = getW qs k := by simp [getW, List.find?_cons, e]
      rw [b, valV_neg (fun z => e (a.1.symm.trans z))]
      exact ih
theorem kv_put {ys : List (κ × V)} {kvs : List (κ × W)} (h : RepKV C G ys kvs) (k : κ) {v : V} {w : W} (r : Rep C G 0 v w) : RepKV C G (putK ys k v) (putW kvs k w) := by
  have ea : (ys.any fun p => decide (p.1 = k)) = kvs.any fun p => decide (p.1 = k) := by
    clear r
    unfold RepKV at h
    induction h with
    | nil => rfl
    | cons a t ih => rw [List.any_cons, List.any_cons, ih, a.1]
  unfold putK putW
  rw [ea]
  by_cases e : (kvs.any fun p => decide (p.1 = k)) = true
  · rw [if_pos e, if_pos e]
    clear ea e
    unfold RepKV at h ⊢
    induction h with
    | nil => exact .nil
    | @cons p q ps qs a t ih =>
      rw [List.map_cons, List.map_cons]
      refine .cons ?_ ih
      by_cases e : q.1 = k
      · rw [if_pos e, if_pos (a.1.trans e)]
        exact ⟨a.1, r⟩
      · rw [if_neg e, if_neg (fun z => e (a.1.symm.trans z))]
        exact a
  · rw [if_neg e, if_neg e]
    exact p_append h (.cons ⟨rfl, r⟩ .nil)
end
def key1 : W → Option Key
  | .int i => some (.inl i)
  | .str x => some (.inr x)
  | _ => none
def keyL : List W → Option (List Key)
  | [] => some []
  | w :: ws => match key1 w with
    | some k => match keyL ws with
      | some ks => some (k :: ks)
      | none => none
    | none => none
section
variable {C : Ct} {G : Gh} {m : Nat}
theorem rep_key1 {v : V} {w : W} {k : Key} (r : Rep C G m v w) (e : key1 w = some k) : v = kV k := by
  cases w with
  | int i => cases e; exact rep_int r
  | str i => cases e; exact rep_str r
  | _ => cases e
theorem rep_keyL : ∀ {vs : List V} {ws : List W} {ks : List Key}, Paired (Rep C G m) vs ws → keyL ws = some ks → vs = ks.map kV
  | _, _, ks, .nil, e => by simp [keyL] at e; subst e; rfl
  | _, w :: ws, ks, .cons r t, e => by
    rw [keyL] at e
    cases q : key1 w with
    | none => rw [q] at e; cases e
    | some k =>
      rw [q] at e
      dsimp only at e
      cases q2 : keyL ws with
      | none => rw [q2] at e; cases e
      | some k2 =>
        rw [q2] at e
        obtain rfl : k :: k2 = ks := Option.some.inj e
        rw [rep_key1 r q, rep_keyL t q2]
        rfl
theorem rep_keyT {v : V} {ws : List W} {ks : List Key} (r : Rep C G m v (.tup ws)) (e : keyL ws = some ks) : ∃ b, v = .ref b ∧ G.H b = some (.tup (ks.map kV)) := by
  obtain ⟨a, xs, rfl, h1, h2⟩ := rep_tup r
  exact ⟨a, rfl, by rw [← rep_keyL h2 e]; exact h1.2⟩
end
/-- what a look into a dict gives: none: it is no dict of such keys -/
def dicGet (S : Store) (x k : W) : Option (Option W) := match x with
  | .loc n => match S[n]? with
    | some (.dT kvs) => match k with
      | .tup ws => match keyL ws with
        | some ks => some (getW kvs ks)
        | none => none
      | _ => none
    | some (.dK kvs) => match key1 k with
      | some k => some (getW kvs k)
      | none => none
    | _ => none
  | _ => none
def dicPut (S : Store) (x k w : W) : Option Store := match x with
  | .loc n => match S[n]? with
    | some (.dT kvs) => match k with
      | .tup ws => match keyL ws with
        | some ks => if kvs.length < LN then some (S.set n (.dT (putW kvs ks w))) else none
        | none => none
      | _ => none
    | some (.dK kvs) => match key1 k with
      | some k => if kvs.length < LN then some (S.set n (.dK (putW kvs k w))) else none
      | none => none
    | _ => none
  | _ => none
section
variable {C : Ct} {G : Gh} {S : Store}
theorem dget_ok {v1 v2 : V} {x k : W} {o : Option W} (s : Sim C G S) (r1 : Rep C G S.length v1 x) (r2 : Rep C G S.length v2 k) (e : dicGet S x k = some o) :
    ∃ a p, v1 = .ref a ∧ DGet G.H a v2 p ∧ (∀ w, o = some w → ∃ v, p = some v ∧ Rep C G 0 v w) ∧ (o = none → p = none) := by
  cases x with
  | loc n =>
    obtain ⟨hn, rfl⟩ := rep_loc r1
    unfold dicGet at e
    dsimp only at e
    cases q : S[n]? with
    | none => rw [q] at e; cases e
    | some c =>
      rw [q] at e
      have hc := s.cell n c q
      cases c with
      | lst ws => cases e
      | ice ws => cases e
      | dT kvs =>
        dsimp only at e
        obtain ⟨_, ys, h1, h2⟩ := hc
        cases k with
        | tup ws =>
          dsimp only at e
          cases q2 : keyL ws with
          | none => rw [q2] at e; cases e
          | some ks =>
            rw [q2] at e
            have e : some (getW kvs ks) = some o := e
            obtain rfl := Option.some.inj e
            obtain ⟨b, rfl, hb⟩ := rep_keyT r2 q2
            obtain ⟨g1, g2⟩ := kv_get h2 ks
            exact ⟨_, _, rfl, DGet.t h1 hb, g1, g2⟩
        | _ => cases e
      | dK kvs =>
        dsimp only at e
        obtain ⟨_, ys, h1, h2⟩ := hc
        cases q2 : key1 k with
        | none => rw [q2] at e; cases e
        | some ks =>
          rw [q2] at e
          have e : some (getW kvs ks) = some o := e
          obtain rfl := Option.some.inj e
          obtain rfl := rep_key1 r2 q2
          obtain ⟨g1, g2⟩ := kv_get h2 ks
          exact ⟨_, _, rfl, DGet.k h1, g1, g2⟩
  | _ => cases e
theorem dput_ok {v1 v2 v3 : V} {x k w : W} {S' : Store} (s : Sim C G S) (r1 : Rep C G S.length v1 x) (r2 : Rep C G S.length v2 k) (r3 : Rep C G 0 v3 w) (e : dicPut S x k w = some S') :
    ∃ a H' G', v1 = .ref a ∧ DPut G.H a v2 v3 H' ∧ G'.H = H' ∧ Ev G S.length G' S'.length ∧ Sim C G' S' := by
  cases x with
  | loc n =>
    obtain ⟨hn, rfl⟩ := rep_loc r1
    unfold dicPut at e
    dsimp only at e
    cases q : S[n]? with
    | none => rw [q] at e; cases e
    | some c =>
      rw [q] at e
      have hc := s.cell n c q
      cases c with
      | lst ws => cases e
      | ice ws => cases e
      | dT kvs =>
        dsimp only at e
        obtain ⟨nf, ys, h1, h2⟩ := hc
        cases k with
        | tup ws =>
          dsimp only at e
          cases q2 : keyL ws with
          | none => rw [q2] at e; cases e
          | some ks =>
            rw [q2] at e
            dsimp only at e
            by_cases hl : kvs.length < LN
            · rw [if_pos hl] at e
              obtain rfl := Option.some.inj e
              obtain ⟨b, rfl, hb⟩ := rep_keyT r2 q2
              have ev : Ev G S.length (G.wr n (.dT (putK ys ks v3))) S.length := ev_wr s q nf
              refine ⟨_, _, G.wr n (.dT (putK ys ks v3)), rfl, DPut.t h1 hb (by rw [← ln_eq, h2.length]; exact hl), rfl, by rw [List.length_set]; exact ev, sim_wr s q nf ⟨nf, _, upd_same, ?_⟩⟩
              exact kv_put (h2.go ev) ks (r3.go0 ev)
            · rw [if_neg hl] at e; cases e
        | _ => cases e
      | dK kvs =>
        dsimp only at e
        obtain ⟨nf, ys, h1, h2⟩ := hc
        cases q2 : key1 k with
        | none => rw [q2] at e; cases e
        | some ks =>
          rw [q2] at e
          dsimp only at e
          by_cases hl : kvs.length < LN
          · rw [if_pos hl] at e
            obtain rfl := Option.some.inj e
            obtain rfl := rep_key1 r2 q2
            have ev : Ev G S.length (G.wr n (.dK (putK ys ks v3))) S.length := ev_wr s q nf
            refine ⟨_, _, G.wr n (.dK (putK ys ks v3)), rfl, DPut.k h1 (by rw [← ln_eq, h2.length]; exact hl), rfl, by rw [List.length_set]; exact ev, sim_wr s q nf ⟨nf, _, upd_same, ?_⟩⟩
            exact kv_put (h2.go ev) ks (r3.go0 ev)
          · rw [if_neg hl] at e; cases e
  | _ => cases e
end
/-! ### x[i] -/
def idx (ws : List W) (i : W) (S : Store) : Res W := match i with
  | .int i => match atI ws i with
    | some w => .ok w S
    | none => .bad
  | _ => .bad
def subIx (x i : W) (S : Store) : Res W := match x with
  | .str z => match i with
    | .int i => if z.length ≤ LN then (match atI z.cps.toList i with
      | some c => .ok (.str ⟨#[c]⟩) S
      | none => .bad) else .bad
    | _ => .bad
  | x => match seqOf S x with
    | some ws => idx ws i S
    | none => match dicGet S x i with
      | some (some w) => .ok w S
      | _ => .bad
theorem atI_pair {α β : Type} {F : α → β → Prop} {l : List α} {r : List β} {i : Int} {b : β} (h : Paired F l r) (e : atI r i = some b) : ∃ a, atI l i = some a ∧ F a b := by
  unfold atI at e ⊢
  rw [h.length]
  cases q : ixN r.length i with
  | none => rw [q] at e; cases e
  | some j =>
    rw [q] at e
    exact p_get h e
section
variable {X : Cx} {T : List (Addr × Str)} {E : XK} {a b : Expr} {f g : ME} {pos : Pos} {C : Ct}
/-- is it a dict -/
def isDic (S : Store) (x : W) : Prop := ∃ n, x = .loc n ∧ ((∃ k, S[n]? = some (.dT k)) ∨ ∃ k, S[n]? = some (.dK k))
theorem w_ix {K : PySem.W.Frag} {G : Gh} {S : Store} {v1 v2 : V} {w1 w2 : W} {Q : VK} (hK : C.K = K) (nd : ¬ isDic S w1) (s : Sim C G S) (r1 : Rep C G S.length v1 w1) (r2 : Rep C G S.length v2 w2) (h : Post C E G S.length (subIx w1 w2 S) (VQ C Q)) : rIx K v1 v2 G.H Q := by
  have go : ∀ {ws}, seqOf S w1 = some ws → Post C E G S.length (idx ws w2 S) (VQ C Q) → rIx K v1 v2 G.H Q := fun {ws} e h => by
    cases w2 with
    | int i =>
      unfold idx at h
      dsimp only at h
      cases q : atI ws i with
      | none => rw [q] at h; exact h.elim
      | some w =>
        rw [q] at h
        obtain ⟨p, xs, e1, h1, p1⟩ := rep_seq s r1 e
        obtain ⟨v, hv, rv⟩ := atI_pair p1 q
        rw [hK] at h1
        rcases h1 with h1 | h1
        · exact .inl ⟨p, xs, i, v, e1, rep_int r2, h1, hv, use_same s h rv⟩
        · exact .inr (.inl ⟨p, xs, i, v, e1, rep_int r2, h1, hv, use_same s h rv⟩)
    | _ => exact h.elim
  cases w1 with
  | str z =>
    cases w2 with
    | int i =>
      unfold subIx at h
      dsimp only at h
      by_cases hl : z.length ≤ LN
      · rw [if_pos hl] at h
        cases q : atI z.cps.toList i with
        | none => rw [q] at h; exact h.elim
        | some c =>
          rw [q] at h
          exact .inr (.inr ⟨z, i, c, rep_str r1, rep_int r2, by rw [← ln_eq]; exact hl, q, use_same s h mk_str⟩)
      · rw [if_neg hl] at h; exact h.elim
    | _ => exact h.elim
  | tup ws => exact go rfl h
  | tpz ws => exact go rfl h
  | arr ws => exact go rfl h
  | loc n =>
    have h' : Post C E G S.length (match lstOf S (.loc n) with
      | some ws => idx ws w2 S
      | none => match dicGet S (.loc n) w2 with
        | some (some w) => .ok w S
        | _ => .bad) (VQ C Q) := h
    cases q : lstOf S (.loc n) with
    | some ws => rw [q] at h'; exact go (show seqOf S (.loc n) = some ws from q) h'
    | none =>
      rw [q] at h'
      have z : dicGet S (.loc n) w2 = none := by
        unfold dicGet
        dsimp only
        cases q2 : S[n]? with
        | none => rfl
        | some c => cases c with
          | lst ws => rfl
          | ice ws => rfl
          | dT k => exact absurd ⟨n, rfl, .inl ⟨k, q2⟩⟩ nd
          | dK k => exact absurd ⟨n, rfl, .inr ⟨k, q2⟩⟩ nd
      rw [z] at h'
      exact h'.elim
  | _ => exact h.elim
theorem w_dix {G : Gh} {S : Store} {v1 v2 : V} {w1 w2 : W} {Q : VK} (d : isDic S w1) (s : Sim C G S) (r1 : Rep C G S.length v1 w1) (r2 : Rep C G S.length v2 w2) (h : Post C E G S.length (subIx w1 w2 S) (VQ C Q)) :
    ∃ a v, v1 = .ref a ∧ DGet G.H a v2 (some v) ∧ Q v G.H := by
  obtain ⟨n, rfl, hd⟩ := d
  have z : seqOf S (.loc n) = none := by
    unfold seqOf lstOf
    rcases hd with ⟨k, e⟩ | ⟨k, e⟩
    · dsimp only; rw [e]
    · dsimp only; rw [e]
  have h' : Post C E G S.length (match seqOf S (.loc n) with
      | some ws => idx ws w2 S
      | none => match dicGet S (.loc n) w2 with
        | some (some w) => .ok w S
        | _ => .bad) (VQ C Q) := h
  rw [z] at h'
  dsimp only at h'
  cases q : dicGet S (.loc n) w2 with
  | none => rw [q] at h'; exact h'.elim
  | some o => cases o with
    | none => rw [q] at h'; exact h'.elim
    | some w =>
      rw [q] at h'
      obtain ⟨a, p, e1, g1, g2, _⟩ := dget_ok s r1 r2 q
      obtain ⟨v, rfl, rv⟩ := g2 w rfl
      exact ⟨a, v, e1, g1, use_same s h' rv.up⟩
/-- both operands are looked at before the rule is chosen -/
theorem two_ways {t u : TE} {ρ : W → W → Store → Res W} (P : Store → W → W → Prop) (h1 : ∀ σ H Q, (∃ G S d, H = G.H ∧ Sim C G S ∧ EnvOk C G S.length σ d ∧ Post C E G S.length (eBin ρ f g d S) (VQ C Q) ∧ ∀ w1 S1 w2 S2, f d S = .ok w1 S1 → g d S1 = .ok w2 S2 → P S2 w1 w2) → t σ H Q)
    (h2 : ∀ σ H Q, (∃ G S d, H = G.H ∧ Sim C G S ∧ EnvOk C G S.length σ d ∧ Post C E G S.length (eBin ρ f g d S) (VQ C Q) ∧ ∀ w1 S1 w2 S2, f d S = .ok w1 S1 → g d S1 = .ok w2 S2 → ¬ P S2 w1 w2) → u σ H Q) :
    ∀ σ H Q, tE C E (eBin ρ f g) σ H Q → t σ H Q ∨ u σ H Q := fun σ H Q ⟨G, S, d, e, s, env, h⟩ => by
  by_cases z : ∃ w1 S1 w2 S2, f d S = .ok w1 S1 ∧ g d S1 = .ok w2 S2 ∧ P S2 w1 w2
  · obtain ⟨w1, S1, w2, S2, q1, q2, p⟩ := z
    refine .inl (h1 σ H Q ⟨G, S, d, e, s, env, h, fun a A b B e1 e2 => ?_⟩)
    rw [q1] at e1; cases e1
    rw [q2] at e2; cases e2
    exact p
  · exact .inr (h2 σ H Q ⟨G, S, d, e, s, env, h, fun a A b B e1 e2 p => z ⟨a, A, b, B, e1, e2, p⟩⟩)
theorem je_sub (hu : X.A.units + 1 < cLine) (ha : JE X T E a f) (hb : JE X T E b g) (hs : PlainIx b := by exact fun _ _ => rfl) : JE X T E (.Subscript a b pos) (eBin subIx f g) := by
  refine pe_weak (pe_or2 (pe_dget hu ha hb hs) (pe_ix ix_seq ha hb hs)) (two_ways (fun S x _ => isDic S x) (fun σ H Q ⟨G, S, d, e, s, env, h, p⟩ => ?_) fun σ H Q ⟨G, S, d, e, s, env, h, p⟩ => ?_)
  · refine ⟨G, S, d, e, s, env, post_eq (post_bind h) fun G1 w1 S1 q1 e1 s1 h1 v1 r1 => ?_⟩
    refine ⟨G1, S1, d, rfl, s1, env.go e1, post_eq (post_bind h1) fun G2 w2 S2 q2 e2 s2 h2 v2 r2 => ?_⟩
    exact w_dix (p _ _ _ _ q1 q2) s2 (r1.go e2) r2 h2
  · refine ⟨G, S, d, e, s, env, post_eq (post_bind h) fun G1 w1 S1 q1 e1 s1 h1 v1 r1 => ?_⟩
    refine ⟨G1, S1, d, rfl, s1, env.go e1, post_eq (post_bind h1) fun G2 w2 S2 q2 e2 s2 h2 v2 r2 => ?_⟩
    exact w_ix rfl (p _ _ _ _ q1 q2) s2 (r1.go e2) r2 h2
/-! ### in, not in -/
def flatW : W → Bool
  | .non => true
  | .bl _ => true
  | .int _ => true
  | .str _ => true
  | _ => false
def eqF : W → W → Bool
  | .non, .non => true
  | .bl a, .bl b => a == b
  | .bl a, .int b => (if a then 1 else 0) == b
  | .int a, .bl b => a == (if b then 1 else 0)
  | .int a, .int b => a == b
  | .str a, .str b => a == b
  | _, _ => false
def inS (x y : Str) : Bool := if h : x.cps.size = 1 then decide (x.cps[0] ∈ y.cps.toList) else !(Builtin.Str.occurrences y x 0 y.length 1).isEmpty
/-- the answer of in -/
def inW (S : Store) (x y : W) : Option Bool := match y with
  | .str z => match x with
    | .str a => some (inS a z)
    | _ => none
  | y => match seqOf S y with
    | some ws => if flatW x && ws.all flatW then some (ws.any fun w => eqF w x) else none
    | none => match dicGet S y x with
      | some o => some o.isSome
      | none => none
def cmpIn (neg : Bool) (x y : W) (S : Store) : Res W := match inW S x y with
  | some b => .ok (.bl (if neg then !b else b)) S
  | none => .bad
theorem rep_flat {G : Gh} {m : Nat} {v : V} {w : W} (r : Rep C G m v w) (h : flatW w = true) : flatV v = true := by
  cases w with
  | non => rw [rep_non r]; rfl
  | bl b => rw [rep_bl r]; rfl
  | int b => rw [rep_int r]; rfl
  | str b => rw [rep_str r]; rfl
  | _ => cases h
theorem rep_eqF {G : Gh} {m m' : Nat} {v v' : V} {w w' : W} (r : Rep C G m v w) (r' : Rep C G m' v' w') (h : flatW w = true) (h' : flatW w' = true) : eqV v v' = eqF w w' := by
  cases w with
  | non => rw [rep_non r]; cases w' with
    | non => rw [rep_non r']; rfl
    | bl b => rw [rep_bl r']; rfl
    | int b => rw [rep_int r']; rfl
    | str b => rw [rep_str r']; rfl
    | _ => cases h'
  | bl b => rw [rep_bl r]; cases w' with
    | non => rw [rep_non r']; rfl
    | bl b => rw [rep_bl r']; rfl
    | int b => rw [rep_int r']; rfl
    | str b => rw [rep_str r']; rfl
    | _ => cases h'
  | int b => rw [rep_int r]; cases w' with
    | non => rw [rep_non r']; rfl
    | bl b => rw [rep_bl r']; rfl
    | int b => rw [rep_int r']; rfl
    | str b => rw [rep_str r']; rfl
    | _ => cases h'
  | str b => rw [rep_str r]; cases w' with
    | non => rw [rep_non r']; rfl
    | bl b => rw [rep_bl r']; rfl
    | int b => rw [rep_int r']; rfl
    | str b => rw [rep_str r']; rfl
    | _ => cases h'
  | _ => cases h
theorem rep_flats {G : Gh} {m : Nat} : ∀ {vs : List V} {ws : List W}, Paired (Rep C G m) vs ws → ws.all flatW = true → vs.all flatV = true
  | _, _, .nil, _ => rfl
  | _, _, .cons r t, h => by
    rw [List.all_cons, Bool.and_eq_true] at h ⊢
    exact ⟨rep_flat r h.1, rep_flats t h.2⟩
theorem rep_inV {G : Gh} {m m' : Nat} {v : V} {w : W} (r : Rep C G m v w) (hf : flatW w = true) : ∀ {vs : List V} {ws : List W}, Paired (Rep C G m') vs ws → ws.all flatW = true → inV v vs = ws.any fun x => eqF x w
  | _, _, .nil, _ => rfl
  | _, _, .cons q t, h => by
    rw [List.all_cons, Bool.and_eq_true] at h
    unfold inV
    rw [List.any_cons, List.any_cons, rep_eqF q r h.1 hf]
    have ih := rep_inV r hf t h.2
    unfold inV at ih
    rw [ih]
abbrev rInA (K : PySem.W.Frag) : R2 := fun x y H Q => rInS x y H Q ∨ (∃ i j, x = .str i ∧ y = .str j ∧ Q (.bl (!(Builtin.Str.occurrences j i 0 j.length 1).isEmpty)) H) ∨ rIn K false x y H Q
abbrev rNotInA (K : PySem.W.Frag) : R2 := fun x y H Q => rNotInS x y H Q ∨ (∃ i j, x = .str i ∧ y = .str j ∧ Q (.bl (!(!(Builtin.Str.occurrences j i 0 j.length 1).isEmpty))) H) ∨ rIn K true x y H Q
theorem op_inA : OpR X (compareOp .In) (rInA X.K) := op_inS.or (op_in_str.or op_in_seq)
theorem op_notInA : OpR X (compareOp .NotIn) (rNotInA X.K) := op_notInS.or (op_notIn_str.or op_notIn_seq)
theorem sign_of {x : Str} (h : x.cps.size = 1) : x = ⟨#[x.cps[0]]⟩ := by
  obtain ⟨⟨l⟩⟩ := x
  match l, h with
  | [c], _ => rfl
theorem w_in (neg : Bool) {K : PySem.W.Frag} {G : Gh} {S : Store} {v1 v2 : V} {w1 w2 : W} {Q : VK} (hK : C.K = K) (nd : ¬ isDic S w2) (s : Sim C G S) (r1 : Rep C G S.length v1 w1) (r2 : Rep C G S.length v2 w2) (h : Post C E G S.length (cmpIn neg w1 w2 S) (VQ C Q)) :
    if neg then rNotInA K v1 v2 G.H Q else rInA K v1 v2 G.H Q := by
  have go : ∀ {ws}, seqOf S w2 = some ws → flatW w1 = true → ws.all flatW = true → Post C E G S.length (.ok (.bl (if neg then !(ws.any fun x => eqF x w1) else ws.any fun x => eqF x w1)) S) (VQ C Q) → if neg then rNotInA K v1 v2 G.H Q else rInA K v1 v2 G.H Q := fun {ws} e h1 h2 h => by
    obtain ⟨p, xs, e1, q1, p1⟩ := rep_seq s r2 e
    rw [hK] at q1
    have z : rIn K neg v1 v2 G.H Q := ⟨p, xs, e1, q1, rep_flat r1 h1, rep_flats p1 h2, by rw [rep_inV r1 h1 p1 h2]; exact use_same s h mk_bl⟩
    cases neg with
    | true => exact .inr (.inr z)
    | false => exact .inr (.inr z)
  unfold cmpIn at h
  cases q0 : inW S w1 w2 with
  | none => rw [q0] at h; exact h.elim
  | some k =>
    rw [q0] at h
    dsimp only at h
    have sq : ∀ {o}, (seqOf S w2 = o) → (match o with
        | some ws => if flatW w1 && ws.all flatW then some (ws.any fun w => eqF w w1) else none
        | none => match dicGet S w2 w1 with
          | some o => some o.isSome
          | none => none) = some k → if neg then rNotInA K v1 v2 G.H Q else rInA K v1 v2 G.H Q := fun {o} e q => by
      cases o with
      | some ws =>
        dsimp only at q
        by_cases z : (flatW w1 && ws.all flatW) = true
        · rw [if_pos z] at q
          rw [Bool.and_eq_true] at z
          obtain rfl := Option.some.inj q
          exact go e z.1 z.2 h
        · rw [if_neg z] at q; cases q
      | none =>
        dsimp only at q
        cases q2 : dicGet S w2 w1 with
        | none => rw [q2] at q; cases q
        | some o =>
          refine absurd ?_ nd
          cases w2 with
          | loc n =>
            unfold dicGet at q2
            dsimp only at q2
            cases q3 : S[n]? with
            | none => rw [q3] at q2; cases q2
            | some c => rw [q3] at q2; cases c with
              | lst ws => cases q2
              | ice ws => cases q2
              | dT k => exact ⟨n, rfl, .inl ⟨k, q3⟩⟩
              | dK k => exact ⟨n, rfl, .inr ⟨k, q3⟩⟩
          | _ => cases q2
    cases w2 with
    | str z =>
      cases w1 with
      | str a =>
        have e : some (inS a z) = some k := q0
        obtain rfl := Option.some.inj e
        unfold inS at h
        by_cases hs : a.cps.size = 1
        · rw [dif_pos hs] at h
          have ea := rep_str r1
          rw [sign_of hs] at ea
          cases neg with
          | true => exact .inl ⟨_, z, ea, rep_str r2, use_same s h mk_bl⟩
          | false => exact .inl ⟨_, z, ea, rep_str r2, use_same s h mk_bl⟩
        · rw [dif_neg hs] at h
          cases neg with
          | true => exact .inr (.inl ⟨a, z, rep_str r1, rep_str r2, use_same s h mk_bl⟩)
          | false => exact .inr (.inl ⟨a, z, rep_str r1, rep_str r2, use_same s h mk_bl⟩)
      | _ => cases q0
    | tup ws => exact sq rfl q0
    | tpz ws => exact sq rfl q0
    | twk ws => cases q0
    | arr ws => exact sq rfl q0
    | loc n => exact sq rfl q0
    | non => cases q0
    | bl b => cases q0
    | int b => cases q0
    | fn b => cases q0
    | scr b => cases q0
theorem w_din (neg : Bool) {G : Gh} {S : Store} {v1 v2 : V} {w1 w2 : W} {Q : VK} (d : isDic S w2) (s : Sim C G S) (r1 : Rep C G S.length v1 w1) (r2 : Rep C G S.length v2 w2) (h : Post C E G S.length (cmpIn neg w1 w2 S) (VQ C Q)) :
    ∃ a o, v2 = .ref a ∧ DGet G.H a v1 o ∧ Q (.bl (if neg then !o.isSome else o.isSome)) G.H := by
  obtain ⟨n, rfl, hd⟩ := d
  have z : seqOf S (.loc n) = none := by
    unfold seqOf lstOf
    rcases hd with ⟨k, e⟩ | ⟨k, e⟩
    · dsimp only; rw [e]
    · dsimp only; rw [e]
  have e : inW S w1 (.loc n) = match seqOf S (.loc n) with
      | some ws => if flatW w1 && ws.all flatW then some (ws.any fun w => eqF w w1) else none
      | none => match dicGet S (.loc n) w1 with
        | some o => some o.isSome
        | none => none := rfl
  rw [z] at e
  dsimp only at e
  unfold cmpIn at h
  rw [e] at h
  cases q : dicGet S (.loc n) w1 with
  | none => rw [q] at h; exact h.elim
  | some o =>
    rw [q] at h
    obtain ⟨a, p, e1, g1, g2, g3⟩ := dget_ok s r2 r1 q
    refine ⟨a, p, e1, g1, ?_⟩
    have ep : p.isSome = o.isSome := by
      cases o with
      | none => rw [g3 rfl] <;> rfl
      | some w => obtain ⟨v, rfl, _⟩ := g2 w rfl; rfl
    rw [ep]
    exact use_same s h mk_bl
theorem in_weak : ∀ σ H Q, tE (ct X T) E (eBin (cmpIn false) f g) σ H Q → tDIn (tE (ct X T) E f) (tE (ct X T) E g) σ H Q ∨ tOp (rInA X.K) (tE (ct X T) E f) (tE (ct X T) E g) σ H Q := by
  refine two_ways (fun S _ y => isDic S y) (fun σ H Q ⟨G, S, d, e, s, env, h, p⟩ => ?_) fun σ H Q ⟨G, S, d, e, s, env, h, p⟩ => ?_
  · refine ⟨G, S, d, e, s, env, post_eq (post_bind h) fun G1 w1 S1 q1 e1 s1 h1 v1 r1 => ?_⟩
    refine ⟨G1, S1, d, rfl, s1, env.go e1, post_eq (post_bind h1) fun G2 w2 S2 q2 e2 s2 h2 v2 r2 => ?_⟩
    exact w_din false (p _ _ _ _ q1 q2) s2 (r1.go e2) r2 h2
  · refine ⟨G, S, d, e, s, env, post_eq (post_bind h) fun G1 w1 S1 q1 e1 s1 h1 v1 r1 => ?_⟩
    refine ⟨G1, S1, d, rfl, s1, env.go e1, post_eq (post_bind h1) fun G2 w2 S2 q2 e2 s2 h2 v2 r2 => ?_⟩
    exact w_in false rfl (p _ _ _ _ q1 q2) s2 (r1.go e2) r2 h2
theorem notin_weak : ∀ σ H Q, tE (ct X T) E (eBin (cmpIn true) f g) σ H Q → tDNotIn (tE (ct X T) E f) (tE (ct X T) E g) σ H Q ∨ tOp (rNotInA X.K) (tE (ct X T) E f) (tE (ct X T) E g) σ H Q := by
  refine two_ways (fun S _ y => isDic S y) (fun σ H Q ⟨G, S, d, e, s, env, h, p⟩ => ?_) fun σ H Q ⟨G, S, d, e, s, env, h, p⟩ => ?_
  · refine ⟨G, S, d, e, s, env, post_eq (post_bind h) fun G1 w1 S1 q1 e1 s1 h1 v1 r1 => ?_⟩
    refine ⟨G1, S1, d, rfl, s1, env.go e1, post_eq (post_bind h1) fun G2 w2 S2 q2 e2 s2 h2 v2 r2 => ?_⟩
    exact w_din true (p _ _ _ _ q1 q2) s2 (r1.go e2) r2 h2
  · refine ⟨G, S, d, e, s, env, post_eq (post_bind h) fun G1 w1 S1 q1 e1 s1 h1 v1 r1 => ?_⟩
    refine ⟨G1, S1, d, rfl, s1, env.go e1, post_eq (post_bind h1) fun G2 w2 S2 q2 e2 s2 h2 v2 r2 => ?_⟩
    exact w_in true rfl (p _ _ _ _ q1 q2) s2 (r1.go e2) r2 h2
theorem pt_or2 {e : Expr} {t u : TT} (h : PT X e t) (h' : PT X e u) : PT X e (fun σ H Q => t σ H Q ∨ u σ H Q) := ⟨fun pins s σ H Q I q => q.elim (h.run pins s σ H Q I) (h'.run pins s σ H Q I)⟩
theorem je_in (hu : X.A.units + 1 < cLine) (ha : JE X T E a f) (hb : JE X T E b g) (hm : behindInMarks .In b = false := by rfl) : JE X T E (.Compare a [.In] [b] pos) (eBin (cmpIn false) f g) :=
  pe_weak (pe_or2 (pe_cmp (pc_din hu ha hb) hm) (pe_cmpR op_inA ha hb hm)) in_weak
theorem je_notin (hu : X.A.units + 1 < cLine) (ha : JE X T E a f) (hb : JE X T E b g) (hm : behindInMarks .NotIn b = false := by rfl) : JE X T E (.Compare a [.NotIn] [b] pos) (eBin (cmpIn true) f g) :=
  pe_weak (pe_or2 (pe_cmp (pc_dnotin hu ha hb) hm) (pe_cmpR op_notInA ha hb hm)) notin_weak
theorem jt_in (hu : X.A.units + 1 < cLine) (ha : JE X T E a f) (hb : JE X T E b g) (hm : behindInMarks .In b = false := by rfl) : JT X T E (.Compare a [.In] [b] pos) (tst (eBin (cmpIn false) f g)) :=
  pt_weak (pt_or2 (pt_cmp (pc_din hu ha hb) hm) (pt_cmpR op_inA ha hb hm)) (fun σ H Q h => (tst_w (t := fun σ H Q => tDIn (tE (ct X T) E f) (tE (ct X T) E g) σ H Q ∨ tOp (rInA X.K) (tE (ct X T) E f) (tE (ct X T) E g) σ H Q) in_weak σ H Q h))
theorem jt_notin (hu : X.A.units + 1 < cLine) (ha : JE X T E a f) (hb : JE X T E b g) (hm : behindInMarks .NotIn b = false := by rfl) : JT X T E (.Compare a [.NotIn] [b] pos) (tst (eBin (cmpIn true) f g)) :=
  pt_weak (pt_or2 (pt_cmp (pc_dnotin hu ha hb) hm) (pt_cmpR op_notInA ha hb hm)) (fun σ H Q h => (tst_w (t := fun σ H Q => tDNotIn (tE (ct X T) E f) (tE (ct X T) E g) σ H Q ∨ tOp (rNotInA X.K) (tE (ct X T) E f) (tE (ct X T) E g) σ H Q) notin_weak σ H Q h))
end
end PM
namespace PM
open PySem PySem.Spec L2
/-! ### slices -/
def cutW {α : Type} (xs : List α) (lo hi : Option Int) : List α := (xs.drop (HT.sIx xs.length 0 lo)).take (HT.sIx xs.length xs.length hi - HT.sIx xs.length 0 lo)
theorem cut_pair {α β : Type} {F : α → β → Prop} {l : List α} {r : List β} (lo hi : Option Int) (h : Paired F l r) : Paired F (cutW l lo hi) (cutW r lo hi) := by
  unfold cutW
  rw [h.length]
  exact p_take _ (p_drop _ h)
abbrev MO := Env1 → Store → Res (Option Int)
def OQ (Q : Option Int → Hp → Prop) : Gh → Option Int → Store → Prop := fun G o _ => Q o G.H
def tO (C : Ct) (E : XK) (f : MO) : TO := fun σ H Q => ∃ G S d, H = G.H ∧ Sim C G S ∧ EnvOk C G S.length σ d ∧ Post C E G S.length (f d S) (OQ Q)
abbrev JO (X : Cx) (T : List (Addr × Str)) (E : XK) (e : Option Expr) (f : MO) : Prop := PO X e (tO (ct X T) E f)
def oNo : MO := fun _ S => .ok none S
def oAt (f : ME) : MO := fun d S => (f d S).bind fun w S1 => match w with
  | .int i => .ok (some i) S1
  | _ => .bad
section
variable {X : Cx} {T : List (Addr × Str)} {E : XK} {e : Expr} {f : ME} {pos p2 : Pos} {C : Ct} {lo hi : Option Expr} {fl fh : MO}
theorem po_weak {o : Option Expr} {t t' : TO} (h : PO X o t) (w : ∀ σ H Q, t' σ H Q → t σ H Q) : PO X o t' := ⟨fun pins s σ H Q I q => h.run pins s σ H Q I (w σ H Q q)⟩
theorem jo_none : JO X T E none oNo := po_weak po_none fun σ H Q ⟨G, S, d, e, s, env, h⟩ => by
  subst e
  exact h G Ev.refl s
theorem jo_some (h : JE X T E e f) : JO X T E (some e) (oAt f) := po_weak (po_some h) fun σ H Q ⟨G, S, d, e, s, env, h⟩ => by
  refine ⟨G, S, d, e, s, env, post_mono (post_bind h) fun G1 w S1 e1 s1 h1 v r => ?_⟩
  cases w with
  | int i => exact ⟨i, rep_int r, h1 G1 Ev.refl s1⟩
  | _ => exact h1.elim
def slW (x : W) (lo hi : Option Int) (S : Store) : Res W := match x with
  | .str z => if z.length ≤ LN then .ok (.str (cutS z lo hi)) S else .bad
  | .tup ws => .ok (.tup (cutW ws lo hi)) S
  | .scr ns => .ok (.loc S.length) (S ++ [.lst (cutW (ns.map W.int) lo hi)])
  | x => match lstOf S x with
    | some ws => .ok (.loc S.length) (S ++ [.lst (cutW ws lo hi)])
    | none => .bad
def eSl (f : ME) (fl fh : MO) : ME := fun d S => (f d S).bind fun x S1 => (fl d S1).bind fun l S2 => (fh d S2).bind fun u S3 => slW x l u S3
abbrev rSl4 (K : PySem.W.Frag) : V → Option Int → Option Int → Hp → VK → Prop := fun x lo hi H Q => rSlS x lo hi H Q ∨ rSlA K x lo hi H Q ∨ rSlL K x lo hi H Q
theorem sl_4 : SlR X (rSl4 X.K) := sl_str.or (sl_tupA.or sl_list)
theorem rep_ints {G : Gh} {m : Nat} : ∀ ns : List Int, Paired (Rep C G m) (ns.map V.int) (ns.map W.int)
  | [] => .nil
  | n :: ns => .cons mk_int (rep_ints ns)
theorem w_sl {K : PySem.W.Frag} {G : Gh} {S : Store} {v : V} {w : W} {lo hi : Option Int} {Q : VK} (hK : C.K = K) (s : Sim C G S) (r : Rep C G S.length v w) (h : Post C E G S.length (slW w lo hi S) (VQ C Q)) : rSl4 K v lo hi G.H Q := by
  have go : ∀ {ws}, lstOf S w = some ws → Post C E G S.length (.ok (.loc S.length) (S ++ [.lst (cutW ws lo hi)])) (VQ C Q) → rSl4 K v lo hi G.H Q := fun {ws} e h => by
    obtain ⟨a, xs, e1, h1, p1⟩ := rep_lst s r e
    exact .inr (.inr ⟨a, xs, e1, .inl (.inl h1), use_lst s h (cut_pair lo hi p1)⟩)
  cases w with
  | str z =>
    have h' : Post C E G S.length (if z.length ≤ LN then .ok (.str (cutS z lo hi)) S else .bad) (VQ C Q) := h
    by_cases hl : z.length ≤ LN
    · rw [if_pos hl] at h'
      exact .inl ⟨z, rep_str r, by rw [← ln_eq]; exact hl, use_same s h' mk_str⟩
    · rw [if_neg hl] at h'; exact h'.elim
  | tup ws =>
    obtain ⟨a, xs, rfl, h1, p1⟩ := rep_tup r
    refine .inr (.inl ⟨a, xs, rfl, h1.sq K, fun ⟨z1, z2⟩ => ?_, fun _ => use_tup s h (cut_pair lo hi p1)⟩)
    have e : cutW ws lo hi = ws := by
      unfold cutW
      rw [← p1.length, z1, z2, List.drop_zero, p1.length]
      exact List.take_length
    have h' : Post C E G S.length (.ok (.tup (cutW ws lo hi)) S) (VQ C Q) := h
    rw [e] at h'
    exact use_same s h' r
  | scr ns =>
    obtain ⟨a, rfl, h1⟩ := rep_scr r
    refine .inr (.inr ⟨a, ns.map V.int, rfl, by rw [← hK]; exact h1.sq, use_lst s h (cut_pair lo hi (rep_ints ns))⟩)
  | arr ws => exact go rfl h
  | loc n =>
    have h' : Post C E G S.length (match lstOf S (.loc n) with
      | some ws => .ok (.loc S.length) (S ++ [.lst (cutW ws lo hi)])
      | none => .bad) (VQ C Q) := h
    cases q : lstOf S (.loc n) with
    | none => rw [q] at h'; exact h'.elim
    | some ws => rw [q] at h'; exact go q h'
  | _ => exact h.elim
theorem je_sl (ha : JE X T E e f) (hl : JO X T E lo fl) (hh : JO X T E hi fh) : JE X T E (.Subscript e (.Slice lo hi none p2) pos) (eSl f fl fh) :=
  pe_weak (pe_slice sl_4 ha hl hh) fun σ H Q ⟨G, S, d, e, s, env, h⟩ => by
    refine ⟨G, S, d, e, s, env, post_mono (post_bind h) fun G1 w S1 e1 s1 h1 v r => ?_⟩
    refine ⟨G1, S1, d, rfl, s1, env.go e1, post_mono (post_bind h1) fun G2 l S2 e2 s2 h2 => ?_⟩
    refine ⟨G2, S2, d, rfl, s2, (env.go e1).go e2, post_mono (post_bind h2) fun G3 u S3 e3 s3 h3 => ?_⟩
    exact w_sl rfl s3 ((r.go e2).go e3) h3
def eRev (f : ME) : ME := fun d S => (f d S).bind fun x S1 => match lstOf S1 x with
  | some ws => .ok (.loc S1.length) (S1 ++ [.lst ws.reverse])
  | none => .bad
theorem je_rev {k : Nat} {p1 p2 p3 pos : Pos} (ha : JE X T E e f) : JE X T E (.Subscript e (.Slice none none (some (.UnaryOp .USub (.Constant (.int 1) k p1) p2)) p3) pos) (eRev f) :=
  pe_weak (pe_revL ha) fun σ H Q ⟨G, S, d, e, s, env, h⟩ => by
    refine ⟨G, S, d, e, s, env, post_mono (post_bind h) fun G1 w S1 e1 s1 h1 v r => ?_⟩
    cases q : lstOf S1 w with
    | none => rw [q] at h1; exact h1.elim
    | some ws =>
      rw [q] at h1
      obtain ⟨a, xs, ea, ha, p1⟩ := rep_lst s1 r q
      exact ⟨a, xs, ea, .inl (.inl ha), use_lst s1 h1 (p_reverse p1)⟩
/-! ### calls of what is built in -/
def CallW (C : Ct) (E : XK) (r : List V → Hp → VK → Prop) (ρ : List W → Store → Res W) : Prop :=
  ∀ (G : Gh) (S : Store) (vs : List V) (ws : List W) (Q : VK), Sim C G S → RepL C G S.length vs ws → Post C E G S.length (ρ ws S) (VQ C Q) → r vs G.H Q
def eCall (ρ : List W → Store → Res W) (fs : MA) : ME := fun d S => (fs d S).bind ρ
variable {es : List Expr} {fs : MA} {x : Str} {p : Pos} {r : List V → Hp → VK → Prop} {ρ : List W → Store → Res W}
theorem call_w (hr : CallW C E r ρ) : ∀ σ H Q, tE C E (eCall ρ fs) σ H Q → tCB r (tA C E fs) σ H Q := fun σ H Q ⟨G, S, d, e, s, env, h⟩ =>
  ⟨G, S, d, e, s, env, post_mono (post_bind h) fun G1 ws S1 e1 s1 h1 vs rs => hr G1 S1 vs ws Q s1 rs h1⟩
theorem je_callB {id : String} (hc : CallR X (.builtin id) r) (hr : CallW (ct X T) E r ρ) (hg : Gl X x) (hm : X.mg x = none) (hv : bootBuiltins x = some (.builtin id)) (ha : JA X T E (e :: es) fs) (hn : x ≠ "__name__" := by decide) (hdb : (x == ("__debug__" : Str)) = false := by decide)
    (he : starEach (e :: es) X.env = (false, eval e X.env) :: starEach es X.env := by rfl) (hpl : (backTo pos (starEach es X.env)).any (·.1) = false := by rfl) : JE X T E (.Call (.Name x p) (e :: es) [] pos) (eCall ρ fs) :=
  pe_weak (pe_callB hc hg hm hv ha hn hdb he hpl) (call_w hr)
theorem je_callTy {id : String} (hc : CallR X (.type id) r) (hr : CallW (ct X T) E r ρ) (hg : Gl X x) (hm : X.mg x = none) (hv : bootBuiltins x = some (.type id)) (ha : JA X T E (e :: es) fs) (hn : x ≠ "__name__" := by decide) (hdb : (x == ("__debug__" : Str)) = false := by decide)
    (he : starEach (e :: es) X.env = (false, eval e X.env) :: starEach es X.env := by rfl) (hpl : (backTo pos (starEach es X.env)).any (·.1) = false := by rfl) : JE X T E (.Call (.Name x p) (e :: es) [] pos) (eCall ρ fs) :=
  pe_weak (pe_callTy hc hg hm hv ha hn hdb he hpl) (call_w hr)
theorem repl_one {G : Gh} {m : Nat} {vs : List V} {w : W} (h : RepL C G m vs [w]) : ∃ v, vs = [v] ∧ Rep C G m v w := by
  cases repL_iff.mp h with
  | cons a b => cases b; exact ⟨_, rfl, a⟩
theorem repl_two {G : Gh} {m : Nat} {vs : List V} {w w' : W} (h : RepL C G m vs [w, w']) : ∃ v v', vs = [v, v'] ∧ Rep C G m v w ∧ Rep C G m v' w' := by
  cases repL_iff.mp h with
  | cons a b => cases b with
    | cons c d => cases d; exact ⟨_, _, rfl, a, c⟩
/-- one argument -/
def on1 (ρ : W → Store → Res W) : List W → Store → Res W := fun ws S => match ws with
  | [w] => ρ w S
  | _ => .bad
def on2 (ρ : W → W → Store → Res W) : List W → Store → Res W := fun ws S => match ws with
  | [w, w'] => ρ w w' S
  | _ => .bad
theorem w_on1 {ρ : W → Store → Res W} (h : ∀ (G : Gh) (S : Store) (v : V) (w : W) (Q : VK), Sim C G S → Rep C G S.length v w → Post C E G S.length (ρ w S) (VQ C Q) → r [v] G.H Q) : CallW C E r (on1 ρ) := fun G S vs ws Q s rs q => by
  match ws, rs, q with
  | [], _, q => exact q.elim
  | [w], rs, q =>
    obtain ⟨v, rfl, rv⟩ := repl_one rs
    exact h G S v w Q s rv q
  | _ :: _ :: _, _, q => exact q.elim
theorem w_on2 {ρ : W → W → Store → Res W} (h : ∀ (G : Gh) (S : Store) (v v' : V) (w w' : W) (Q : VK), Sim C G S → Rep C G S.length v w → Rep C G S.length v' w' → Post C E G S.length (ρ w w' S) (VQ C Q) → r [v, v'] G.H Q) : CallW C E r (on2 ρ) := fun G S vs ws Q s rs q => by
  match ws, rs, q with
  | [], _, q => exact q.elim
  | [w], _, q => exact q.elim
  | [w, w'], rs, q =>
    obtain ⟨v, v', rfl, rv, rv'⟩ := repl_two rs
    exact h G S v v' w w' Q s rv rv' q
  | _ :: _ :: _ :: _, _, q => exact q.elim
def lenW (w : W) (S : Store) : Res W := match w with
  | .str z => if z.length ≤ LN then .ok (.int z.length) S else .bad
  | .scr ns => .ok (.int ns.length) S
  | w => match seqOf S w with
    | some ws => .ok (.int ws.length) S
    | none => match w with
      | .loc n => match S[n]? with
        | some (.dT k) => .ok (.int k.length) S
        | some (.dK k) => .ok (.int k.length) S
        | _ => .bad
      | _ => .bad
abbrev rLen4 (K : PySem.W.Frag) : List V → Hp → VK → Prop := fun xs H Q => (∃ p ys, xs = [.ref p] ∧ (SqL K H p ys ∨ SqT K H p ys) ∧ Q (.int ys.length) H) ∨ (∃ z, xs = [.str z] ∧ z.length ≤ sizeLine ∧ Q (.int z.length) H) ∨
  (∃ a kvs, xs = [V.ref a] ∧ H a = some (.dK kvs) ∧ Q (.int kvs.length) H) ∨ rLenT xs H Q
theorem call_len4 : CallR X (.builtin "len") (rLen4 X.K) := call_len_seq.or (call_len_str.or (call_lenD.or call_len_dT))
theorem w_len {K : PySem.W.Frag} (hK : C.K = K) : CallW C E (rLen4 K) (on1 lenW) := w_on1 fun G S v w Q s r h => by
  have go : ∀ {ws}, seqOf S w = some ws → Post C E G S.length (.ok (.int ws.length) S) (VQ C Q) → rLen4 K [v] G.H Q := fun {ws} e h => by
    obtain ⟨p, xs, e1, h1, p1⟩ := rep_seq s r e
    rw [hK] at h1
    exact .inl ⟨p, xs, by rw [e1], h1, by rw [p1.length]; exact use_same s h mk_int⟩
  cases w with
  | str z =>
    have h' : Post C E G S.length (if z.length ≤ LN then .ok (.int z.length) S else .bad) (VQ C Q) := h
    by_cases hl : z.length ≤ LN
    · rw [if_pos hl] at h'
      exact .inr (.inl ⟨z, by rw [rep_str r], by rw [← ln_eq]; exact hl, use_same s h' mk_int⟩)
    · rw [if_neg hl] at h'; exact h'.elim
  | scr ns =>
    obtain ⟨a, rfl, h1⟩ := rep_scr r
    exact .inl ⟨a, _, rfl, .inl (by rw [← hK]; exact h1.sq), by rw [List.length_map]; exact use_same s h mk_int⟩
  | tup ws => exact go rfl h
  | tpz ws => exact go rfl h
  | arr ws => exact go rfl h
  | loc n =>
    have h' : Post C E G S.length (match lstOf S (.loc n) with
      | some ws => .ok (.int ws.length) S
      | none => match S[n]? with
        | some (.dT k) => .ok (.int k.length) S
        | some (.dK k) => .ok (.int k.length) S
        | _ => .bad) (VQ C Q) := h
    cases q : lstOf S (.loc n) with
    | some ws => rw [q] at h'; exact go (show seqOf S (.loc n) = some ws from q) h'
    | none =>
      rw [q] at h'
      dsimp only at h'
      obtain ⟨hn, rfl⟩ := rep_loc r
      cases q2 : S[n]? with
      | none => rw [q2] at h'; exact h'.elim
      | some c =>
        rw [q2] at h'
        have hc := s.cell n c q2
        cases c with
        | lst ws => exact h'.elim
        | ice ws => exact h'.elim
        | dT k =>
          obtain ⟨_, ys, h1, h2⟩ := hc
          exact .inr (.inr (.inr ⟨_, ys, rfl, h1, by rw [h2.length]; exact use_same s h' mk_int⟩))
        | dK k =>
          obtain ⟨_, ys, h1, h2⟩ := hc
          exact .inr (.inr (.inl ⟨_, ys, rfl, h1, by rw [h2.length]; exact use_same s h' mk_int⟩))
  | _ => exact h.elim
def absW (w : W) (S : Store) : Res W := match w with
  | .int i => .ok (.int (if i < 0 then -i else i)) S
  | _ => .bad
theorem w_abs : CallW C E (fun xs H Q => ∃ i, xs = [.int i] ∧ Q (.int (if i < 0 then -i else i)) H) (on1 absW) := w_on1 fun G S v w Q s r h => by
  cases w with
  | int i => exact ⟨i, by rw [rep_int r], use_same s h mk_int⟩
  | _ => exact h.elim
def intW (w : W) (S : Store) : Res W := match w with
  | .int i => .ok (.int i) S
  | .bl k => .ok (.int (if k then 1 else 0)) S
  | _ => .bad
theorem w_int : CallW C E (fun xs H Q => (∃ i, xs = [.int i] ∧ Q (.int i) H) ∨ ∃ k, xs = [.bl k] ∧ Q (.int (if k then 1 else 0)) H) (on1 intW) := w_on1 fun G S v w Q s r h => by
  cases w with
  | int i => exact .inl ⟨i, by rw [rep_int r], use_same s h mk_int⟩
  | bl i => exact .inr ⟨i, by rw [rep_bl r], use_same s h mk_int⟩
  | _ => exact h.elim
def max2W (w w' : W) (S : Store) : Res W := match w with
  | .int i => match w' with
    | .int j => .ok (.int (if j > i then j else i)) S
    | _ => .bad
  | _ => .bad
theorem w_max2 : CallW C E (fun xs H Q => ∃ i j, xs = [.int i, .int j] ∧ Q (.int (if j > i then j else i)) H) (on2 max2W) := w_on2 fun G S v v' w w' Q s r r' h => by
  cases w with
  | int i => cases w' with
    | int j => exact ⟨i, j, by rw [rep_int r, rep_int r'], use_same s h mk_int⟩
    | _ => exact h.elim
  | _ => exact h.elim
def blsOf : List W → Option (List Bool)
  | [] => some []
  | .bl b :: ws => match blsOf ws with
    | some bs => some (b :: bs)
    | none => none
  | _ :: _ => none
theorem rep_bls {G : Gh} {m : Nat} : ∀ {vs : List V} {ws : List W} {bs : List Bool}, Paired (Rep C G m) vs ws → blsOf ws = some bs → vs = bs.map V.bl
  | _, _, bs, .nil, e => by simp [blsOf] at e; subst e; rfl
  | _, w :: ws, bs, .cons r t, e => by
    cases w with
    | bl b =>
      rw [blsOf] at e
      cases q : blsOf ws with
      | none => rw [q] at e; cases e
      | some b2 =>
        rw [q] at e
        obtain rfl : b :: b2 = bs := Option.some.inj e
        rw [rep_bl r, rep_bls t q]
        rfl
    | _ => simp [blsOf] at e
def allW (isAll : Bool) (w : W) (S : Store) : Res W := match lstOf S w with
  | some ws => match blsOf ws with
    | some bs => .ok (.bl (if isAll then bs.all id else bs.any id)) S
    | none => .bad
  | none => .bad
theorem w_all {K : PySem.W.Frag} : CallW C E (rAll K) (on1 (allW true)) := w_on1 fun G S v w Q s r h => by
  unfold allW at h
  cases q : lstOf S w with
  | none => rw [q] at h; exact h.elim
  | some ws =>
    rw [q] at h
    dsimp only at h
    obtain ⟨a, xs, e1, h1, p1⟩ := rep_lst s r q
    cases q2 : blsOf ws with
    | none => rw [q2] at h; exact h.elim
    | some bs =>
      rw [q2] at h
      rw [rep_bls p1 q2] at h1
      exact ⟨a, bs, by rw [e1], .inl (.inl h1), use_same s h mk_bl⟩
theorem w_any {K : PySem.W.Frag} : CallW C E (rAny K) (on1 (allW false)) := w_on1 fun G S v w Q s r h => by
  unfold allW at h
  cases q : lstOf S w with
  | none => rw [q] at h; exact h.elim
  | some ws =>
    rw [q] at h
    dsimp only at h
    obtain ⟨a, xs, e1, h1, p1⟩ := rep_lst s r q
    cases q2 : blsOf ws with
    | none => rw [q2] at h; exact h.elim
    | some bs =>
      rw [q2] at h
      rw [rep_bls p1 q2] at h1
      exact ⟨a, bs, by rw [e1], .inl (.inl h1), use_same s h mk_bl⟩
def intsOf : List W → Option (List Int)
  | [] => some []
  | .int b :: ws => match intsOf ws with
    | some bs => some (b :: bs)
    | none => none
  | _ :: _ => none
theorem rep_intsOf {G : Gh} {m : Nat} : ∀ {vs : List V} {ws : List W} {bs : List Int}, Paired (Rep C G m) vs ws → intsOf ws = some bs → vs = bs.map V.int
  | _, _, bs, .nil, e => by simp [intsOf] at e; subst e; rfl
  | _, w :: ws, bs, .cons r t, e => by
    cases w with
    | int b =>
      rw [intsOf] at e
      cases q : intsOf ws with
      | none => rw [q] at e; cases e
      | some b2 =>
        rw [q] at e
        obtain rfl : b :: b2 = bs := Option.some.inj e
        rw [rep_int r, rep_intsOf t q]
        rfl
    | _ => simp [intsOf] at e
def sumW (w : W) (S : Store) : Res W := match lstOf S w with
  | some ws => match intsOf ws with
    | some bs => .ok (.int bs.sum) S
    | none => .bad
  | none => .bad
theorem w_sum {K : PySem.W.Frag} : CallW C E (rSum K) (on1 sumW) := w_on1 fun G S v w Q s r h => by
  unfold sumW at h
  cases q : lstOf S w with
  | none => rw [q] at h; exact h.elim
  | some ws =>
    rw [q] at h
    dsimp only at h
    obtain ⟨a, xs, e1, h1, p1⟩ := rep_lst s r q
    cases q2 : intsOf ws with
    | none => rw [q2] at h; exact h.elim
    | some bs =>
      rw [q2] at h
      rw [rep_intsOf p1 q2] at h1
      exact ⟨a, bs, by rw [e1], .inl (.inl h1), use_same s h mk_int⟩
/-- the greatest of ints -/
def maxI : Int → List Int → Int
  | a, [] => a
  | a, b :: r => maxI (if b > a then b else a) r
theorem maxI_ge : ∀ (r : List Int) (a : Int), a ≤ maxI a r ∧ ∀ y ∈ r, y ≤ maxI a r
  | [], a => ⟨Int.le_refl _, fun _ h => by cases h⟩
  | b :: r, a => by
    obtain ⟨h1, h2⟩ := maxI_ge r (if b > a then b else a)
    refine ⟨?_, fun y hy => ?_⟩
    · rw [maxI]
      refine Int.le_trans ?_ h1
      split <;> omega
    · rw [maxI]
      rcases List.mem_cons.mp hy with e | hy
      · refine Int.le_trans ?_ h1
        rw [e]
        split <;> omega
      · exact h2 y hy
theorem maxI_mem : ∀ (r : List Int) (a : Int), maxI a r = a ∨ maxI a r ∈ r
  | [], a => .inl rfl
  | b :: r, a => by
    rw [maxI]
    rcases maxI_mem r (if b > a then b else a) with h | h
    · rw [h]
      split
      · exact .inr (List.mem_cons_self ..)
      · exact .inl rfl
    · exact .inr (List.mem_cons_of_mem _ h)
def maxW (w : W) (S : Store) : Res W := match lstOf S w with
  | some ws => match intsOf ws with
    | some (b :: bs) => .ok (.int (maxI b bs)) S
    | _ => .bad
  | none => .bad
theorem w_max {K : PySem.W.Frag} : CallW C E (rMax K) (on1 maxW) := w_on1 fun G S v w Q s r h => by
  unfold maxW at h
  cases q : lstOf S w with
  | none => rw [q] at h; exact h.elim
  | some ws =>
    rw [q] at h
    dsimp only at h
    obtain ⟨a, xs, e1, h1, p1⟩ := rep_lst s r q
    cases q2 : intsOf ws with
    | none => rw [q2] at h; exact h.elim
    | some bs => cases bs with
      | nil => rw [q2] at h; exact h.elim
      | cons b bs =>
        rw [q2] at h
        rw [rep_intsOf p1 q2] at h1
        refine ⟨a, b :: bs, by rw [e1], .inl (.inl h1), Nat.succ_pos _, fun m hm hle => ?_⟩
        have z : m = maxI b bs := by
          have a1 := maxI_ge bs b
          have a2 := maxI_mem bs b
          refine Int.le_antisymm ?_ ?_
          · rcases List.mem_cons.mp hm with e | hm
            · rw [e]; exact a1.1
            · exact a1.2 m hm
          · rcases a2 with e | e
            · rw [e]; exact hle b (List.mem_cons_self ..)
            · exact hle _ (List.mem_cons_of_mem _ e)
        rw [z]
        exact use_same s h mk_int
/-- list(x) of a list or tuple; tuple(x) -/
def listW (w : W) (S : Store) : Res W := match seqOf S w with
  | some ws => match storeL ws S with
    | some (ws', S') => .ok (.loc S'.length) (S' ++ [.lst ws'])
    | none => .bad
  | none => .bad
theorem w_list {K : PySem.W.Frag} (hK : C.K = K) : CallW C E (fun xs H Q => ∃ p ys, xs = [.ref p] ∧ (SqL K H p ys ∨ SqT K H p ys) ∧ ∀ l, H l = none → Q (.ref l) (upd H l (.lst ys))) (on1 listW) := w_on1 fun G S v w Q s r h => by
  unfold listW at h
  cases q : seqOf S w with
  | none => rw [q] at h; exact h.elim
  | some ws =>
    rw [q] at h
    dsimp only at h
    obtain ⟨a, xs, e1, h1, p1⟩ := rep_seq s r q
    rw [hK] at h1
    cases z : storeL ws S with
    | none => rw [z] at h; exact h.elim
    | some p =>
      obtain ⟨ws', S'⟩ := p
      rw [z] at h
      obtain ⟨G2, a1, a2, a3, a4, a5⟩ := storeL_ok ws xs G S ws' S' s p1 z
      have z2 := use_lst a3 (post_from a1 h) a4
      rw [a5] at z2
      exact ⟨a, xs, by rw [e1], h1, z2⟩
def tupleW (w : W) (S : Store) : Res W := match w with
  | .tup ws => .ok (.tup ws) S
  | w => match lstOf S w with
    | some ws => .ok (.tup ws) S
    | none => .bad
theorem w_tuple {K : PySem.W.Frag} (hK : C.K = K) : CallW C E (fun xs H Q => ∃ p ys, xs = [.ref p] ∧ ((SqL K H p ys ∧ ∀ l, H l = none → Q (.ref l) (upd H l (.tup ys))) ∨ (SqT K H p ys ∧ Q (.ref p) H))) (on1 tupleW) := w_on1 fun G S v w Q s r h => by
  have go : ∀ {ws}, lstOf S w = some ws → Post C E G S.length (.ok (.tup ws) S) (VQ C Q) → ∃ p ys, [v] = [V.ref p] ∧ ((SqL K G.H p ys ∧ ∀ l, G.H l = none → Q (.ref l) (upd G.H l (.tup ys))) ∨ (SqT K G.H p ys ∧ Q (.ref p) G.H)) := fun {ws} e h => by
    obtain ⟨a, xs, e1, h1, p1⟩ := rep_lst s r e
    exact ⟨a, xs, by rw [e1], .inl ⟨.inl (.inl h1), use_tup s h (Paired.mapP p1 fun _ _ z => z.up)⟩⟩
  cases w with
  | tup ws =>
    obtain ⟨a, xs, rfl, h1, p1⟩ := rep_tup r
    exact ⟨a, xs, rfl, .inr ⟨h1.sq K, use_same s h r⟩⟩
  | arr ws => exact go rfl h
  | loc n =>
    have h' : Post C E G S.length (match lstOf S (.loc n) with
      | some ws => .ok (.tup ws) S
      | none => .bad) (VQ C Q) := h
    cases q : lstOf S (.loc n) with
    | none => rw [q] at h'; exact h'.elim
    | some ws => rw [q] at h'; exact go q h'
  | _ => exact h.elim
/-- list(range(n)), list(range(a, b)) -/
def rgW (a b : Int) : List W := (List.range (b - a).toNat).map fun i => W.int (a + (i : Nat))
theorem rep_rg {G : Gh} {m : Nat} (a b : Int) : Paired (Rep C G m) (rgV a b) (rgW a b) := by
  unfold rgV rgW
  generalize List.range (b - a).toNat = l
  induction l with
  | nil => exact .nil
  | cons i l ih => exact .cons mk_int ih
def rgOk (a b : Int) : Bool := decide (-(2 ^ 62) ≤ a) && decide (a < 2 ^ 62) && decide (-(2 ^ 62) ≤ b) && decide (b < 2 ^ 62) && decide ((b - a).toNat ≤ 2 ^ 24)
theorem rgOk_of {a b : Int} (h : rgOk a b = true) : RgOk a b := by
  unfold rgOk at h
  simp only [Bool.and_eq_true, decide_eq_true_eq] at h
  exact ⟨h.1.1.1.1, h.1.1.1.2, h.1.1.2, h.1.2, h.2⟩
def lrgW (a b : Int) (S : Store) : Res W := if rgOk a b then .ok (.loc S.length) (S ++ [.lst (rgW a b)]) else .bad
def eLrg1 (f : ME) : ME := fun d S => (f d S).bind fun x S1 => match x with
  | .int n => lrgW 0 n S1
  | _ => .bad
theorem je_lrg1 {p p1 pos : Pos} (hc : X.calm = true) (hg : Gl X "list") (hm : X.mg "list" = none) (hg' : Gl X "range") (hm' : X.mg "range" = none) (ha : JE X T E e f) (na : starEach [e] X.env = (false, eval e X.env) :: starEach [] X.env := by rfl)
    (na' : starEach [.Call (.Name "range" p1) [e] [] pos] X.env = (false, eval (.Call (.Name "range" p1) [e] [] pos) X.env) :: starEach [] X.env := by rfl) : JE X T E (.Call (.Name "list" p) [.Call (.Name "range" p1) [e] [] pos] [] p2) (eLrg1 f) :=
  pe_weak (pe_listRg hc hg hm (prg_1 hg' hm' ha na) na') fun σ H Q ⟨G, S, d, e, s, env, h⟩ => by
    refine ⟨G, S, d, e, s, env, post_mono (post_bind h) fun G1 w S1 e1 s1 h1 v r => ?_⟩
    cases w with
    | int n =>
      have h' : Post (ct X T) E G1 S1.length (if rgOk 0 n then .ok (.loc S1.length) (S1 ++ [.lst (rgW 0 n)]) else .bad) (VQ (ct X T) Q) := h1
      cases q : rgOk 0 n with
      | false => rw [q] at h'; exact h'.elim
      | true => rw [q] at h'; exact ⟨n, rep_int r, rgOk_of q, use_lst s1 h' (rep_rg 0 n)⟩
    | _ => exact h1.elim
/-! ### isinstance -/
def tyN (S : Store) (w : W) : String := match w with
  | .non => "NoneType" | .bl _ => "bool" | .int _ => "int" | .str _ => "str" | .tup _ => "tuple" | .tpz _ => "tuple" | .twk _ => "tuple" | .arr _ => "list" | .scr _ => "list"
  | .loc n => match S[n]? with
    | some (.dT _) => "dict"
    | some (.dK _) => "dict"
    | _ => "list"
  | .fn _ => "?"
def isT (ty t : String) : Bool := t == ty || (ty == "int" && t == "bool")
def eIsi (ty : String) (f : ME) : ME := fun d S => (f d S).bind fun w S1 => match w with
  | .fn _ => .bad
  | w => .ok (.bl (isT ty (tyN S1 w))) S1
theorem rep_ty {G : Gh} {S : Store} {v : V} {w : W} (s : Sim C G S) (r : Rep C G S.length v w) (hf : ∀ x, w ≠ .fn x) : TyX C.K G.H v (.type (tyN S w)) := by
  cases w with
  | non => rw [rep_non r]; exact .base .non
  | bl b => rw [rep_bl r]; exact .base (.bl b)
  | int b => rw [rep_int r]; exact .base (.int b)
  | str b => rw [rep_str r]; exact .base (.str b)
  | tup b => obtain ⟨a, xs, rfl, h1, _⟩ := rep_tup r; exact .base (.tup h1.2)
  | arr b => obtain ⟨a, xs, rfl, h1, _⟩ := rep_arr r; exact .base (.lst h1.2)
  | tpz b => obtain ⟨a, xs, rfl, ⟨_, o, h1, _⟩, _⟩ := rep_tpz r; exact .fTuple h1
  | twk b => obtain ⟨a, xs, rfl, h1, _⟩ := rep_twk r; exact .base (.tup h1.2)
  | fn x => exact absurd rfl (hf x)
  | scr ns =>
    obtain ⟨a, rfl, h1⟩ := rep_scr r
    rcases h1 with ⟨_, h1 | ⟨o, h1⟩⟩ | ⟨o, its, n, h1, h2, _⟩
    · exact .base (.lst h1)
    · exact .base (.frz h1)
    · exact .kList h1 h2
  | loc n =>
    obtain ⟨hn, rfl⟩ := rep_loc r
    have e := List.getElem?_eq_getElem hn
    have hc := s.cell n S[n] e
    have et : tyN S (.loc n) = match S[n]? with
      | some (.dT _) => "dict"
      | some (.dK _) => "dict"
      | _ => "list" := rfl
    rw [et, e]
    generalize S[n] = c at hc ⊢
    cases c with
    | lst ws => obtain ⟨_, xs, h1, _⟩ := hc; exact .base (.lst h1)
    | ice ws => obtain ⟨_, xs, h1, _⟩ := hc; exact .base (.lst h1)
    | dT k => obtain ⟨_, ys, h1, _⟩ := hc; exact .base (.dT h1)
    | dK k => obtain ⟨_, ys, h1, _⟩ := hc; exact .base (.dK h1)
/-- the answers of the built-in types -/
def KitOk (ty : String) : Prop := ∀ t, t ∈ ["NoneType", "bool", "int", "str", "tuple", "list", "dict"] → kitB t ty = some (isT ty t)
theorem kit_int : KitOk "int" := by unfold KitOk; decide +kernel
theorem kit_str : KitOk "str" := by unfold KitOk; decide +kernel
theorem kit_tuple : KitOk "tuple" := by unfold KitOk; decide +kernel
theorem kit_bool : KitOk "bool" := by unfold KitOk; decide +kernel
theorem kit_list : KitOk "list" := by unfold KitOk; decide +kernel
theorem kit_dict : KitOk "dict" := by unfold KitOk; decide +kernel
theorem tyN_mem (S : Store) (w : W) (hf : ∀ x, w ≠ .fn x) : tyN S w ∈ ["NoneType", "bool", "int", "str", "tuple", "list", "dict"] := by
  cases w with
  | loc n =>
    have et : tyN S (.loc n) = match S[n]? with
      | some (.dT _) => "dict"
      | some (.dK _) => "dict"
      | _ => "list" := rfl
    rw [et]
    split <;> decide
  | fn x => exact absurd rfl (hf x)
  | _ => simp [tyN]
theorem je_isi {ty : String} {tx : Str} {p pt : Pos} (hk : KitOk ty) (hg : Gl X "isinstance") (hm : X.mg "isinstance" = none) (hb : bootBuiltins "isinstance" = some (.builtin "isinstance")) (hg' : Gl X tx) (hm' : X.mg tx = none) (hv : bootBuiltins tx = some (.type ty)) (ha : JE X T E e f)
    (hn : tx ≠ "__name__" := by decide) (hdb : (tx == ("__debug__" : Str)) = false := by decide)
    (he : starEach [e, .Name tx pt] X.env = (false, eval e X.env) :: starEach [.Name tx pt] X.env := by rfl) (hpl : (backTo pos (starEach [.Name tx pt] X.env)).any (·.1) = false := by rfl) : JE X T E (.Call (.Name "isinstance" p) [e, .Name tx pt] [] pos) (eIsi ty f) :=
  pe_weak (pe_callB call_isi hg hm hb (pa_cons ha (pa_cons (pe_bltn (v := .ty ty) hg' hm' hv rfl hn hdb) pa_nil) he) (by decide) (by decide) he hpl) fun σ H Q ⟨G, S, d, e, s, env, h⟩ => by
    refine ⟨G, S, d, e, s, env, post_mono (post_bind h) fun G1 w S1 e1 s1 h1 v r => ?_⟩
    have nf : ∀ x, w ≠ .fn x := fun x z => by subst z; exact h1.elim
    have h2 : Post (ct X T) E G1 S1.length (.ok (.bl (isT ty (tyN S1 w))) S1) (VQ (ct X T) Q) := by
      cases w with
      | fn x => exact absurd rfl (nf x)
      | _ => exact h1
    exact ⟨v, .ty ty, _, _, _, rfl, .ty ty, rep_ty s1 r nf, kit_ty (hk _ (tyN_mem S1 w nf)), use_same s1 h2 mk_bl⟩
end
end PM
namespace PM
open PySem PySem.Spec L2
/-! ### list.extend of a tuple -/
theorem ext_tupA (l : Addr) (items : Array Value) (n : Nat) (b : Addr) (items2 : Array Value) (n2 : Nat) (dd : Option Addr) (sl : Array (Option Value)) (hs0 : ¬(!items.isEmpty && Builtin.List.listTooLong (items.size + items2.size)) = true) (hs1 : items.size ≤ sizeLine)
    (hs2 : items.size + items2.size ≤ sizeLine + 1) :
    Meets (Builtin.«list.extend» ⟨[.ref l, .ref b], []⟩) (fun _ R s => s.heap.get? l = some { cls := .type "list", data := .seq items n } ∧ s.heap.get? b = some ⟨.type "tuple", dd, .seq items2 n2, sl⟩ ∧ R (.ok (.ret Value.none)) { s with heap := s.heap.update l (Obj.mapSeq fun x => x ++ items2), toks := s.toks }) :=
  .of_wp fun prog w A R s h => by
    obtain ⟨hp, g, d, tk, os⟩ := s
    obtain ⟨hl, hb, h⟩ := h
    have f1 := AutoSeq1.idx_int
    have f2 := AutoSeq1.sub_tuple_tuple
    have f3 := AutoSeq1.sub_list_list
    have f4 := AutoSeq1.sub_tuple_list
    have f5 := AutoSeq1.sub_list_tuple
    have hz' : (items ++ items2).size ≤ sizeLine + 1 := by
      rw [Array.size_append]
      omega
    wp_walk using (wpAny_updateSeq hl rfl (hz := hs1) (_hz' := hz')), AutoSeq1.wpAny_loadPart' hl, AutoSeq1.wpAny_loadPart' hb
    exact ⟨_, rfl, h⟩
def rExtT (K : PySem.W.Frag) : V → List V → Hp → VK → Prop := fun x vs H Q => ∃ l b xs zs, x = .ref l ∧ vs = [.ref b] ∧ H l = some (.lst xs) ∧ SqT K H b zs ∧ xs.length + zs.length ≤ sizeLine ∧ Q .non (upd H l (.lst (xs ++ zs)))
section
variable {X : Cx}
theorem mt_extT : MtM X "list.extend" (rExtT X.K) := by
  intro pins s σ H x vs v us Q I rx rv h
  obtain ⟨l, b, xs, zs, rfl, rfl, hH, hB, hz, q⟩ := h
  obtain rfl : v = Value.ref l := rx
  obtain ⟨u, rfl, ru⟩ := rv.one
  obtain rfl : u = Value.ref b := ru
  obtain ⟨z, its, n, r, hl, e⟩ := I.lstM hH
  obtain ⟨ts, rt, ⟨⟨c2, d2, dt2, sl2⟩, e2, hc2, n2, hd2⟩, z2⟩ := I.tuple hB
  simp only at hc2 hd2
  subst hc2 hd2
  have hl2 := rt.length
  have hsz : its.toArray.size + ts.toArray.size ≤ sizeLine := by rw [List.size_toArray, List.size_toArray]; omega
  have nl : ¬ (!its.toArray.isEmpty && Builtin.List.listTooLong (its.toArray.size + ts.toArray.size)) = true := by
    rw [notLongL hsz, Bool.and_false]
    exact Bool.false_ne_true
  refine call_meets F.slot_list_extend ⟨_, e, rfl⟩ F.entry_list_extend (F.args_list_extend_2 _ _) (ext_tupA l its.toArray n b ts.toArray n2 d2 sl2 nl (by rw [List.size_toArray]; omega) (by omega)) ⟨e, e2, ?_⟩
  refine ⟨.non, _, I.lset (its' := its ++ ts) hH e (by simp) (r.append rt) ?_, rfl, q⟩
  rw [List.length_append]
  omega
end
/-! ### methods -/
def MethW (C : Ct) (E : XK) (r : V → List V → Hp → VK → Prop) (ρ : W → List W → Store → Res W) : Prop :=
  ∀ (G : Gh) (S : Store) (v : V) (w : W) (vs : List V) (ws : List W) (Q : VK), Sim C G S → Rep C G S.length v w → RepL C G S.length vs ws → Post C E G S.length (ρ w ws S) (VQ C Q) → r v vs G.H Q
def eMeth (ty : W → Store → Bool) (ρ : W → List W → Store → Res W) (f : ME) (fs : MA) : ME := fun d S => (f d S).bind fun w S1 => if ty w S1 then (fs d S1).bind fun ws S2 => ρ w ws S2 else .bad
def isL (w : W) (S : Store) : Bool := (lstOf S w).isSome
def isSt (w : W) (_ : Store) : Bool := match w with
  | .str _ => true
  | _ => false
def isD (w : W) (S : Store) : Bool := match w with
  | .loc n => match S[n]? with
    | some (.dT _) => true
    | some (.dK _) => true
    | _ => false
  | _ => false
def TyW (C : Ct) (K : PySem.W.Frag) (T : String) (ty : W → Store → Bool) : Prop := ∀ (G : Gh) (S : Store) (v : V) (w : W), Sim C G S → Rep C G S.length v w → ty w S = true → tyV K T v G.H
section
variable {C : Ct} {E : XK} {K : PySem.W.Frag}
theorem ty_list : TyW C K "list" isL := fun G S v w s r h => by
  unfold isL at h
  obtain ⟨ws, e⟩ := Option.isSome_iff_exists.mp h
  obtain ⟨a, xs, rfl, h1, _⟩ := rep_lst s r e
  exact .inl ⟨rfl, xs, .inl (.inl h1)⟩
theorem ty_str : TyW C K "str" isSt := fun G S v w s r h => by
  cases w with
  | str z => rw [rep_str r]; exact rfl
  | _ => cases h
theorem ty_dict : TyW C K "dict" isD := fun G S v w s r h => by
  cases w with
  | loc n =>
    unfold isD at h
    dsimp only at h
    obtain ⟨hn, rfl⟩ := rep_loc r
    cases q : S[n]? with
    | none => rw [q] at h; cases h
    | some c =>
      rw [q] at h
      have hc := s.cell n c q
      cases c with
      | lst ws => cases h
      | ice ws => cases h
      | dT k => obtain ⟨_, ys, h1, _⟩ := hc; exact .inr (.inr (.inl ⟨rfl, .inr ⟨ys, h1⟩⟩))
      | dK k => obtain ⟨_, ys, h1, _⟩ := hc; exact .inr (.inr (.inl ⟨rfl, .inl ⟨ys, h1⟩⟩))
  | _ => cases h
end
section
variable {X : Cx} {T : List (Addr × Str)} {E : XK} {e o : Expr} {es : List Expr} {f : ME} {fs : MA} {pos apos cpos : Pos} {C : Ct} {name : Str} {TN id : String} {r : V → List V → Hp → VK → Prop} {ρ : W → List W → Store → Res W} {ty : W → Store → Bool}
theorem je_bm (pa : PlainAttrs TN) (slot : Slot TN name id) (hty : typeOf (.builtin id) = pure (.type "method_descriptor")) (hm : MtR X id r) (hr : MethW (ct X T) E r ρ) (ht : TyW (ct X T) X.K TN ty) (ho : JE X T E o f) (ha : JA X T E (e :: es) fs)
    (hbase : attributeBase o name X.env (eval o X.env) = eval o X.env := by rfl)
    (hfew : ((backTo cpos (starEach (e :: es) X.env)).all (fun x => !x.1) && (backToKw cpos (keywordEach [] X.env)).all (fun x => x.1.isSome)
      && decide ((e :: es).length + ([] : List Keyword).length + (if ([] : List Keyword).isEmpty then 0 else 1) < 30)) = true := by rfl)
    (hline : (apos.endLine == cpos.line) = true := by rfl) (hs : starEach (e :: es) X.env = (false, eval e X.env) :: starEach es X.env := by rfl) (hplain : (backTo cpos (starEach es X.env)).any (·.1) = false := by rfl) :
    JE X T E (.Call (.Attribute o name apos) (e :: es) [] cpos) (eMeth ty ρ f fs) :=
  pe_weak (pe_bm pa slot hty hm ho ha hbase hfew hline hs hplain) fun σ H Q ⟨G, S, d, ee, s, env, h⟩ => by
    refine ⟨G, S, d, ee, s, env, post_mono (post_bind h) fun G1 w S1 e1 s1 h1 v r1 => ?_⟩
    by_cases z : ty w S1 = true
    · rw [if_pos z] at h1
      refine ⟨ht G1 S1 v w s1 r1 z, G1, S1, d, rfl, s1, env.go e1, post_mono (post_bind h1) fun G2 ws S2 e2 s2 h2 vs rs => ?_⟩
      exact hr G2 S2 v w vs ws Q s2 (r1.go e2) rs h2
    · rw [if_neg z] at h1
      exact h1.elim
theorem je_bm0 (pa : PlainAttrs TN) (slot : Slot TN name id) (hty : typeOf (.builtin id) = pure (.type "method_descriptor")) (hm : MtR X id r) (hr : MethW (ct X T) E r ρ) (ht : TyW (ct X T) X.K TN ty) (ho : JE X T E o f)
    (hbase : attributeBase o name X.env (eval o X.env) = eval o X.env := by rfl) (hline : (apos.endLine == cpos.line) = true := by rfl) : JE X T E (.Call (.Attribute o name apos) [] [] cpos) (eMeth ty ρ f aNil) :=
  pe_weak (pe_bm0 pa slot hty hm ho hbase hline) fun σ H Q ⟨G, S, d, ee, s, env, h⟩ => by
    refine ⟨G, S, d, ee, s, env, post_mono (post_bind h) fun G1 w S1 e1 s1 h1 v r1 => ?_⟩
    by_cases z : ty w S1 = true
    · rw [if_pos z] at h1
      exact ⟨ht G1 S1 v w s1 r1 z, hr G1 S1 v w [] [] Q s1 r1 (by simp [RepL]) h1⟩
    · rw [if_neg z] at h1
      exact h1.elim
def appW (w : W) (ws : List W) (S : Store) : Res W := match w with
  | .loc n => match ws with
    | [a] => match storeW a S with
      | some (a', S1) => match S1[n]? with
        | some (.lst xs) => if xs.length < LN then .ok .non (S1.set n (.lst (xs ++ [a']))) else .bad
        | _ => .bad
      | none => .bad
    | _ => .bad
  | _ => .bad
/-- a list is written -/
theorem use_wr {G : Gh} {S : Store} {Q : VK} {n : Nat} {c0 : Cell} {o : HO} {c : Cell} {w : W} {v : V} (s : Sim C G S) (hn : S[n]? = some c0) (nf : ¬ G.fz (G.mu n)) (h : Post C E G S.length (.ok w (S.set n c)) (VQ C Q)) (hc : CellOk C (G.wr n o) (G.mu n) c) (r : Rep C G S.length v w) : Q v (upd G.H (G.mu n) o) := by
  have ev : Ev G S.length (G.wr n o) (S.set n c).length := by rw [List.length_set]; exact ev_wr s hn nf (cell_no hc)
  exact h (G.wr n o) ev (sim_wr s hn nf hc (cell_no hc)) v (r.go ev)
theorem use_wrl {G : Gh} {S : Store} {Q : VK} {n : Nat} {xs ys : List W} {vs : List V} {w : W} {v : V} (s : Sim C G S) (hn : S[n]? = some (.lst xs)) (h : Post C E G S.length (.ok w (S.set n (.lst ys))) (VQ C Q)) (p : Paired (Rep C G 0) vs ys) (r : Rep C G S.length v w) : Q v (upd G.H (G.mu n) (.lst vs)) := by
  have nf := (s.cell n _ hn).1
  have ev : Ev G S.length (G.wr n (.lst vs)) S.length := ev_wr s hn nf
  exact use_wr s hn nf h ⟨nf, vs, upd_same, repL_iff.mpr (Paired.mapP p fun _ _ z => z.go0 ev)⟩ r
theorem m_app : MethW C E rAppend appW := fun G S v w vs ws Q s r rs h => by
  cases w with
  | loc n =>
    obtain ⟨hn, rfl⟩ := rep_loc r
    match ws, rs, h with
    | [], _, h => exact h.elim
    | [a], rs, h =>
      obtain ⟨v1, rfl, r1⟩ := repl_one rs
      unfold appW at h
      dsimp only at h
      cases q : storeW a S with
      | none => rw [q] at h; exact h.elim
      | some p =>
        obtain ⟨a', S1⟩ := p
        rw [q] at h
        dsimp only at h
        obtain ⟨G1, a1, a2, a3, a4, a5⟩ := storeW_ok a v1 G S a' S1 s r1 q
        cases q2 : S1[n]? with
        | none => rw [q2] at h; exact h.elim
        | some c => cases c with
          | lst xs =>
            rw [q2] at h
            dsimp only at h
            by_cases hl : xs.length < LN
            · rw [if_pos hl] at h
              obtain ⟨nf, ys, h1, h2⟩ := a3.cell n _ q2
              have em : G1.mu n = G.mu n := a1.mu n hn
              have z := use_wrl a3 q2 (post_from a1 h) (p_append (repL_iff.mp h2) (.cons a4 .nil)) mk_non
              rw [em, a5] at h1
              rw [em, a5] at z
              exact ⟨_, ys, v1, rfl, rfl, h1, by rw [← ln_eq, repL_len h2]; exact hl, z⟩
            · rw [if_neg hl] at h; exact h.elim
          | ice xs => rw [q2] at h; exact h.elim
          | dT xs => rw [q2] at h; exact h.elim
          | dK xs => rw [q2] at h; exact h.elim
    | _ :: _ :: _, _, h => exact h.elim
  | _ => exact h.elim
theorem je_app (ho : JE X T E o f) (ha : JA X T E [e] fs) (hbase : attributeBase o "append" X.env (eval o X.env) = eval o X.env := by rfl)
    (hfew : ((backTo cpos (starEach [e] X.env)).all (fun x => !x.1) && (backToKw cpos (keywordEach [] X.env)).all (fun x => x.1.isSome) && decide ([e].length + ([] : List Keyword).length + (if ([] : List Keyword).isEmpty then 0 else 1) < 30)) = true := by rfl)
    (hline : (apos.endLine == cpos.line) = true := by rfl) (hs : starEach [e] X.env = (false, eval e X.env) :: starEach [] X.env := by rfl) : JE X T E (.Call (.Attribute o "append" apos) [e] [] cpos) (eMeth isL appW f fs) :=
  je_bm PySem.F.plainAttrs_list PySem.F.slot_list_append PySem.F.type_list_append mt_append m_app ty_list ho ha hbase hfew hline hs rfl
/-- a method of one argument -/
def onM (ρ : W → W → Store → Res W) : W → List W → Store → Res W := fun w ws S => match ws with
  | [a] => ρ w a S
  | _ => .bad
theorem m_on1 {ρ : W → W → Store → Res W} (h : ∀ (G : Gh) (S : Store) (v : V) (w : W) (v1 : V) (a : W) (Q : VK), Sim C G S → Rep C G S.length v w → Rep C G S.length v1 a → Post C E G S.length (ρ w a S) (VQ C Q) → r v [v1] G.H Q) : MethW C E r (onM ρ) := fun G S v w vs ws Q s rw rs q => by
  match ws, rs, q with
  | [], _, q => exact q.elim
  | [a], rs, q =>
    obtain ⟨v1, rfl, r1⟩ := repl_one rs
    exact h G S v w v1 a Q s rw r1 q
  | _ :: _ :: _, _, q => exact q.elim
def extA (w a : W) (S : Store) : Res W := match w with
  | .loc n => match a with
    | .tup zs => match S[n]? with
      | some (.lst xs) => if xs.length + zs.length ≤ LN ∧ W.freeL 0 zs = true then .ok .non (S.set n (.lst (xs ++ zs))) else .bad
      | _ => .bad
    | a => match lstOf S a with
      | some zs => match S[n]? with
        | some (.lst xs) => if xs.length + zs.length ≤ LN then .ok .non (S.set n (.lst (xs ++ zs))) else .bad
        | _ => .bad
      | none => .bad
  | _ => .bad
abbrev extW : W → List W → Store → Res W := onM extA
abbrev rExt2 (K : PySem.W.Frag) : V → List V → Hp → VK → Prop := fun x xs H Q => rExtend x xs H Q ∨ rExtT K x xs H Q
theorem ext_go {K : PySem.W.Frag} {G : Gh} {S : Store} {n : Nat} {v1 : V} {a : W} {Q : VK} (s : Sim C G S) (hn : n < S.length) (r1 : Rep C G S.length v1 a) (hh : Post C E G S.length (match lstOf S a with
      | some zs => match S[n]? with
        | some (.lst xs) => if xs.length + zs.length ≤ LN then .ok .non (S.set n (.lst (xs ++ zs))) else .bad
        | _ => .bad
      | none => .bad) (VQ C Q)) : rExt2 K (.ref (G.mu n)) [v1] G.H Q := by
  cases q : lstOf S a with
  | none => rw [q] at hh; exact hh.elim
  | some zs =>
    rw [q] at hh
    dsimp only at hh
    obtain ⟨b, ys, rfl, hb, pb⟩ := rep_lst s r1 q
    cases q2 : S[n]? with
    | none => rw [q2] at hh; exact hh.elim
    | some c => cases c with
      | lst xs =>
        rw [q2] at hh
        dsimp only at hh
        by_cases hl : xs.length + zs.length ≤ LN
        · rw [if_pos hl] at hh
          obtain ⟨nf, us, h1, h2⟩ := s.cell n _ q2
          exact .inl ⟨_, b, us, ys, rfl, rfl, h1, hb, by rw [← ln_eq, repL_len h2, pb.length]; exact hl, use_wrl s q2 hh (p_append (repL_iff.mp h2) pb) mk_non⟩
        · rw [if_neg hl] at hh; exact hh.elim
      | ice xs => rw [q2] at hh; exact hh.elim
      | dT xs => rw [q2] at hh; exact hh.elim
      | dK xs => rw [q2] at hh; exact hh.elim
theorem m_ext {K : PySem.W.Frag} : MethW C E (rExt2 K) extW := m_on1 fun G S v w v1 a Q s r r1 h => by
  cases w with
  | loc n =>
    obtain ⟨hn, rfl⟩ := rep_loc r
    cases a with
    | tup zs =>
      obtain ⟨b, ys, rfl, hb, pb⟩ := rep_tup r1
      have h : Post C E G S.length (match S[n]? with
        | some (.lst xs) => if xs.length + zs.length ≤ LN ∧ W.freeL 0 zs = true then .ok .non (S.set n (.lst (xs ++ zs))) else .bad
        | _ => .bad) (VQ C Q) := h
      cases q2 : S[n]? with
      | none => rw [q2] at h; exact h.elim
      | some c => cases c with
        | lst xs =>
          rw [q2] at h
          dsimp only at h
          by_cases hl : xs.length + zs.length ≤ LN ∧ W.freeL 0 zs = true
          · rw [if_pos hl] at h
            obtain ⟨nf, us, h1, h2⟩ := s.cell n _ q2
            exact .inr ⟨_, b, us, ys, rfl, rfl, h1, hb.sq K, by rw [← ln_eq, repL_len h2, pb.length]; exact hl.1, use_wrl s q2 h (p_append (repL_iff.mp h2) (repL_iff.mp (repL_free _ _ (repL_iff.mpr pb) hl.2))) mk_non⟩
          · rw [if_neg hl] at h; exact h.elim
        | ice xs => rw [q2] at h; exact h.elim
        | dT xs => rw [q2] at h; exact h.elim
        | dK xs => rw [q2] at h; exact h.elim
    | arr zs => exact ext_go s hn r1 h
    | loc m => exact ext_go s hn r1 h
    | _ => exact h.elim
  | _ => exact h.elim
theorem mt_ext2 : MtR X "list.extend" (rExt2 X.K) := MtR.or mt_extend mt_extT
theorem je_ext (ho : JE X T E o f) (ha : JA X T E [e] fs) (hbase : attributeBase o "extend" X.env (eval o X.env) = eval o X.env := by rfl)
    (hfew : ((backTo cpos (starEach [e] X.env)).all (fun x => !x.1) && (backToKw cpos (keywordEach [] X.env)).all (fun x => x.1.isSome) && decide ([e].length + ([] : List Keyword).length + (if ([] : List Keyword).isEmpty then 0 else 1) < 30)) = true := by rfl)
    (hline : (apos.endLine == cpos.line) = true := by rfl) (hs : starEach [e] X.env = (false, eval e X.env) :: starEach [] X.env := by rfl) : JE X T E (.Call (.Attribute o "extend" apos) [e] [] cpos) (eMeth isL extW f fs) :=
  je_bm PySem.F.plainAttrs_list PySem.F.slot_list_extend PySem.F.type_list_extend mt_ext2 m_ext ty_list ho ha hbase hfew hline hs rfl
def popW (w : W) (ws : List W) (S : Store) : Res W := match w with
  | .loc n => match ws with
    | [] => match S[n]? with
      | some (.lst xs) => match xs[xs.length - 1]? with
        | some y => .ok y (S.set n (.lst xs.dropLast))
        | none => .bad
      | _ => .bad
    | _ => .bad
  | _ => .bad
theorem m_pop : MethW C E rPop popW := fun G S v w vs ws Q s r rs h => by
  cases w with
  | loc n =>
    obtain ⟨hn, rfl⟩ := rep_loc r
    match ws, rs, h with
    | [], rs, h =>
      have e0 : vs = [] := by cases repL_iff.mp rs; rfl
      subst e0
      have h : Post C E G S.length (match S[n]? with
      | some (.lst xs) => match xs[xs.length - 1]? with
        | some y => .ok y (S.set n (.lst xs.dropLast))
        | none => .bad
      | _ => .bad) (VQ C Q) := h
      cases q2 : S[n]? with
      | none => rw [q2] at h; exact h.elim
      | some c => cases c with
        | lst xs =>
          rw [q2] at h
          dsimp only at h
          obtain ⟨nf, us, h1, h2⟩ := s.cell n _ q2
          cases q3 : xs[xs.length - 1]? with
          | none => rw [q3] at h; exact h.elim
          | some y =>
            rw [q3] at h
            obtain ⟨x, hx, rx⟩ := p_get (repL_iff.mp h2) q3
            exact ⟨_, us, x, rfl, rfl, h1, by rw [repL_len h2]; exact hx, use_wrl s q2 h (p_dropLast (repL_iff.mp h2)) rx.up⟩
        | ice xs => rw [q2] at h; exact h.elim
        | dT xs => rw [q2] at h; exact h.elim
        | dK xs => rw [q2] at h; exact h.elim
    | _ :: _, _, h => exact h.elim
  | _ => exact h.elim
theorem je_pop (ho : JE X T E o f) (hbase : attributeBase o "pop" X.env (eval o X.env) = eval o X.env := by rfl) (hline : (apos.endLine == cpos.line) = true := by rfl) : JE X T E (.Call (.Attribute o "pop" apos) [] [] cpos) (eMeth isL popW f aNil) :=
  je_bm0 PySem.F.plainAttrs_list PySem.F.slot_list_pop PySem.F.type_list_pop mt_pop m_pop ty_list ho hbase hline
/-! ### t.index(x) of a tuple of texts -/
def strsOf : List W → Option (List Str)
  | [] => some []
  | .str b :: ws => match strsOf ws with
    | some bs => some (b :: bs)
    | none => none
  | _ :: _ => none
theorem rep_strsOf {G : Gh} {m : Nat} : ∀ {vs : List V} {ws : List W} {bs : List Str}, Paired (Rep C G m) vs ws → strsOf ws = some bs → vs = bs.map V.str
  | _, _, bs, .nil, e => by simp [strsOf] at e; subst e; rfl
  | _, w :: ws, bs, .cons r t, e => by
    cases w with
    | str b =>
      rw [strsOf] at e
      cases q : strsOf ws with
      | none => rw [q] at e; cases e
      | some b2 =>
        rw [q] at e
        obtain rfl : b :: b2 = bs := Option.some.inj e
        rw [rep_str r, rep_strsOf t q]
        rfl
    | _ => simp [strsOf] at e
/-- the first place -/
def posOf (z : Str) : List Str → Option Nat
  | [] => none
  | y :: ys => if y = z then some 0 else (posOf z ys).map (· + 1)
theorem posOf_ok {z : Str} : ∀ {ys : List Str} {j : Nat}, posOf z ys = some j → ys[j]? = some z ∧ ∀ m, m < j → ys[m]? ≠ some z
  | [], j, h => by cases h
  | y :: ys, j, h => by
    rw [posOf] at h
    by_cases e : y = z
    · rw [if_pos e] at h
      obtain rfl := Option.some.inj h
      exact ⟨by rw [e] <;> rfl, fun m hm => absurd hm (Nat.not_lt_zero _)⟩
    · rw [if_neg e] at h
      obtain ⟨k, hk, rfl⟩ := Option.map_eq_some_iff.mp h
      obtain ⟨h1, h2⟩ := posOf_ok hk
      refine ⟨h1, fun m hm => ?_⟩
      cases m with
      | zero => exact fun q => e (Option.some.inj q)
      | succ m => exact h2 m (Nat.lt_of_succ_lt_succ hm)
def tixA (w a : W) (S : Store) : Res W := match w with
  | .tpz ys => match a with
    | .str z => match strsOf ys with
      | some bs => match posOf z bs with
        | some j => .ok (.int (j : Nat)) S
        | none => .bad
      | none => .bad
    | _ => .bad
  | _ => .bad
abbrev tixW : W → List W → Store → Res W := onM tixA
def isZ (w : W) (_ : Store) : Bool := match w with
  | .tpz _ => true
  | _ => false
def tTix (to : TE) (t : TA) (r : V → List V → Hp → VK → Prop) : TE := fun σ H Q => to σ H fun x H1 => (∃ a xs, ∃ ob : Obj, x = .ref a ∧ H1 a = some (.frz ob (.tup xs)) ∧ ob.dict = none) ∧ t σ H1 fun xs H2 => r x xs H2 Q
theorem pe_tix {to : TE} {t : TA} (slot : Slot "tuple" name id) (hty : typeOf (.builtin id) = pure (.type "method_descriptor")) (hm : MtR X id r) (ho : PE X o to) (ha : PA X (e :: es) t)
    (hbase : attributeBase o name X.env (eval o X.env) = eval o X.env)
    (hfew : ((backTo cpos (starEach (e :: es) X.env)).all (fun x => !x.1) && (backToKw cpos (keywordEach [] X.env)).all (fun x => x.1.isSome)
      && decide ((e :: es).length + ([] : List Keyword).length + (if ([] : List Keyword).isEmpty then 0 else 1) < 30)) = true)
    (hline : (apos.endLine == cpos.line) = true) (hs : starEach (e :: es) X.env = (false, eval e X.env) :: starEach es X.env) (hplain : (backTo cpos (starEach es X.env)).any (·.1) = false) :
    PE X (.Call (.Attribute o name apos) (e :: es) [] cpos) (tTix to t r) := by
  refine ⟨fun pins s σ H Q I h => wpAny_Call_method_late hbase hfew hline rfl (thn (ho.run pins s σ H _ I h) fun v s1 ⟨x, H1, I1, r1, hx, q1⟩ => ?_)⟩
  obtain ⟨a, xs, ob, rfl, h1, h2⟩ := hx
  obtain rfl : v = Value.ref a := r1
  obtain ⟨g1, g2⟩ := I1.hok a _ h1
  obtain ⟨_, its, _, o2, ho2, hc2, n2, hd2⟩ := g2
  rw [g1] at ho2
  obtain rfl := Option.some.inj ho2
  refine ⟨"tuple", id, PySem.F.plainAttrs_tuple, slot, hty, ⟨ob, g1, hc2⟩, fun b eb => ?_, ?_⟩
  · obtain rfl := Value.ref.inj eb
    exact ⟨ob, g1, h2⟩
  have hA := ha.run cpos pins s1 σ H1 _ I1 q1
  rw [hs] at hA ⊢
  refine Calls.callWith_builtin ?_ (Calls.evalArgs_plain (thn hA fun us s2 hh => ?_))
  · show (false || (backTo cpos (starEach es X.env)).any (·.1)) = false
    rw [hplain]
    rfl
  · obtain ⟨vs, H2, I2, r2, q2⟩ := hh
    exact hm pins s2 σ H2 (.ref a) vs _ us Q I2 rfl r2 q2
abbrev rTix (K : PySem.W.Frag) : V → List V → Hp → VK → Prop := fun x xs H Q => ∃ p, ∃ ys : List Str, ∃ z j, x = .ref p ∧ xs = [.str z] ∧ SqT K H p (ys.map V.str) ∧ ys[j]? = some z ∧ (∀ m, m < j → ys[m]? ≠ some z) ∧ Q (.int (j : Nat)) H
theorem m_tix {K : PySem.W.Frag} : MethW C E (rTix K) tixW := m_on1 fun G S v w v1 a Q s r r1 h => by
  cases w with
  | tpz ys =>
    obtain ⟨b, xs, rfl, h1, p1⟩ := rep_tpz r
    cases a with
    | str z =>
      have h : Post C E G S.length (match strsOf ys with
      | some bs => match posOf z bs with
        | some j => .ok (.int (j : Nat)) S
        | none => .bad
      | none => .bad) (VQ C Q) := h
      cases q : strsOf ys with
      | none => rw [q] at h; exact h.elim
      | some bs =>
        rw [q] at h
        dsimp only at h
        cases q2 : posOf z bs with
        | none => rw [q2] at h; exact h.elim
        | some j =>
          rw [q2] at h
          obtain ⟨g1, g2⟩ := posOf_ok q2
          have hS := h1.sq K
          rw [rep_strsOf p1 q] at hS
          exact ⟨b, bs, z, j, rfl, by rw [rep_str r1], hS, g1, g2, use_same s h mk_int⟩
    | _ => exact h.elim
  | _ => exact h.elim
theorem je_tix (ho : JE X T E o f) (ha : JA X T E [e] fs) (hbase : attributeBase o "index" X.env (eval o X.env) = eval o X.env := by rfl)
    (hfew : ((backTo cpos (starEach [e] X.env)).all (fun x => !x.1) && (backToKw cpos (keywordEach [] X.env)).all (fun x => x.1.isSome) && decide ([e].length + ([] : List Keyword).length + (if ([] : List Keyword).isEmpty then 0 else 1) < 30)) = true := by rfl)
    (hline : (apos.endLine == cpos.line) = true := by rfl) (hs : starEach [e] X.env = (false, eval e X.env) :: starEach [] X.env := by rfl) : JE X T E (.Call (.Attribute o "index" apos) [e] [] cpos) (eMeth isZ tixW f fs) :=
  pe_weak (pe_tix PySem.F.slot_tuple_index PySem.F.type_tuple_index mt_tup_index ho ha hbase hfew hline hs rfl) fun σ H Q ⟨G, S, d, ee, s, env, h⟩ => by
    refine ⟨G, S, d, ee, s, env, post_mono (post_bind h) fun G1 w S1 e1 s1 h1 v r1 => ?_⟩
    by_cases z : isZ w S1 = true
    · rw [if_pos z] at h1
      refine ⟨?_, G1, S1, d, rfl, s1, env.go e1, post_mono (post_bind h1) fun G2 ws S2 e2 s2 h2 vs rs => ?_⟩
      · cases w with
        | tpz ys =>
          obtain ⟨a, xs, rfl, ⟨_, ob, g1, g2⟩, _⟩ := rep_tpz r1
          exact ⟨a, xs, ob, rfl, g1, g2⟩
        | _ => cases z
      · exact m_tix G2 S2 v w vs ws Q s2 (r1.go e2) rs h2
    · rw [if_neg z] at h1
      exact h1.elim
end
end PM
namespace PM
open PySem PySem.Spec L2
/-! ### what is no longer needed is let go -/
def gcW (k : Nat) (w : W) (S : Store) : W × Store := match w with
  | .loc l => if l < k then (.loc l, S.take k) else match S[l]? with
    | some (.ice ws) => (.arr ws, S.take k)
    | some c => (.loc k, S.take k ++ [c])
    | none => (.loc l, S)
  | w => if w.free k then (w, S.take k) else (w, S)
section
variable {C : Ct} {G G1 : Gh} {m : Nat} {S1 : Store} {v : V} {w : W}
theorem take_len {k : Nat} (S : Store) (h : k ≤ S.length) : (S.take k).length = k := by rw [List.length_take]; omega
theorem gc_free (e : Ev G m G1 S1.length) (s : Sim C G1 S1) (r : Rep C G1 S1.length v w) (f : w.free m = true) : ∃ G2, G2.H = G1.H ∧ Ev G m G2 (S1.take m).length ∧ Sim C G2 (S1.take m) ∧ Rep C G2 (S1.take m).length v w := by
  rw [take_len S1 e.le]
  exact ⟨G1, rfl, ev_less e, sim_take s m, rep_free w v r f⟩
theorem gc_ok (e : Ev G m G1 S1.length) (s : Sim C G1 S1) (r : Rep C G1 S1.length v w) : ∃ G2, G2.H = G1.H ∧ Ev G m G2 (gcW m w S1).2.length ∧ Sim C G2 (gcW m w S1).2 ∧ Rep C G2 (gcW m w S1).2.length v (gcW m w S1).1 := by
  have plain : gcW m w S1 = (if w.free m then (w, S1.take m) else (w, S1)) → ∃ G2, G2.H = G1.H ∧ Ev G m G2 (gcW m w S1).2.length ∧ Sim C G2 (gcW m w S1).2 ∧ Rep C G2 (gcW m w S1).2.length v (gcW m w S1).1 := fun q => by
    rw [q]
    cases z : w.free m with
    | true => exact gc_free e s r z
    | false => exact ⟨G1, rfl, e, s, r⟩
  cases w with
  | loc l =>
    obtain ⟨hl, rfl⟩ := rep_loc r
    have q : gcW m (.loc l) S1 = (if l < m then (.loc l, S1.take m) else match S1[l]? with
      | some (.ice ws) => (.arr ws, S1.take m)
      | some c => (.loc m, S1.take m ++ [c])
      | none => (.loc l, S1)) := rfl
    rw [q]
    by_cases h : l < m
    · rw [if_pos h]
      exact gc_free e s r (by rw [W.free]; exact decide_eq_true h)
    · rw [if_neg h]
      have hg := List.getElem?_eq_getElem hl
      have hc := s.cell l S1[l] hg
      have mv : ∃ G2, G2.H = G1.H ∧ Ev G m G2 (S1.take m ++ [S1[l]]).length ∧ Sim C G2 (S1.take m ++ [S1[l]]) ∧ Rep C G2 (S1.take m ++ [S1[l]]).length (.ref (G1.mu l)) (.loc m) := by
        have len : (S1.take m ++ [S1[l]]).length = m + 1 := by rw [List.length_append, take_len S1 e.le, List.length_singleton]
        rw [len]
        refine ⟨G1.mv m l, rfl, ev_mv e (Nat.le_of_not_lt h) hl, sim_mv s (Nat.le_of_not_lt h) hg, ?_⟩
        have z := mk_loc (C := C) (G := G1.mv m l) (m := m + 1) (n := m) (Nat.lt_succ_self _)
        rw [show (G1.mv m l).mu m = G1.mu l from if_pos rfl] at z
        exact z
      rw [hg]
      generalize S1[l] = c at mv hc ⊢
      cases c with
      | ice ws =>
        obtain ⟨f, xs, e1, r1⟩ := hc
        dsimp only
        rw [take_len S1 e.le]
        exact ⟨G1, rfl, ev_less e, sim_take s m, mk_arr ⟨f, e1⟩ (repL_iff.mp r1)⟩
      | lst ws => exact mv
      | dT ws => exact mv
      | dK ws => exact mv
  | non => exact plain rfl
  | bl b => exact plain rfl
  | int b => exact plain rfl
  | str b => exact plain rfl
  | tup b => exact plain rfl
  | arr b => exact plain rfl
  | fn b => exact plain rfl
  | scr b => exact plain rfl
  | tpz b => exact plain rfl
  | twk b => exact plain rfl
/-- .. what a def hands back: a tuple's fresh lists are frozen -/
def retW (k : Nat) (w : W) (S : Store) : W × Store := match w with
  | .loc l => gcW k (.loc l) S
  | w => if w.free k then (w, S.take k) else match storeW w S with
    | some (w', S') => (w', S'.take k)
    | none => (w, S)
theorem ret_ok (e : Ev G m G1 S1.length) (s : Sim C G1 S1) (r : Rep C G1 S1.length v w) : ∃ G2, G2.H = G1.H ∧ Ev G m G2 (retW m w S1).2.length ∧ Sim C G2 (retW m w S1).2 ∧ Rep C G2 (retW m w S1).2.length v (retW m w S1).1 := by
  have plain : retW m w S1 = (if w.free m then (w, S1.take m) else match storeW w S1 with
    | some (w', S') => (w', S'.take m)
    | none => (w, S1)) → ∃ G2, G2.H = G1.H ∧ Ev G m G2 (retW m w S1).2.length ∧ Sim C G2 (retW m w S1).2 ∧ Rep C G2 (retW m w S1).2.length v (retW m w S1).1 := fun q => by
    rw [q]
    cases z : w.free m with
    | true => exact gc_free e s r z
    | false =>
      rw [if_neg Bool.false_ne_true]
      cases z2 : storeW w S1 with
      | none => exact ⟨G1, rfl, e, s, r⟩
      | some p =>
        obtain ⟨w', S'⟩ := p
        obtain ⟨G2, a1, a2, a3, a4, a5⟩ := storeW_ok w v G1 S1 w' S' s r z2
        dsimp only
        have e2 := e.trans a1
        rw [take_len S' e2.le]
        exact ⟨G2, a5, ev_less e2, sim_take a3 m, a4.up⟩
  cases w with
  | loc l => exact gc_ok e s r
  | non => exact plain rfl
  | bl b => exact plain rfl
  | int b => exact plain rfl
  | str b => exact plain rfl
  | tup b => exact plain rfl
  | arr b => exact plain rfl
  | fn b => exact plain rfl
  | scr b => exact plain rfl
  | tpz b => exact plain rfl
  | twk b => exact plain rfl
end
/-! ### blocks, small statements -/
def SR.andThen (r : SR) (k : MS) : SR := match r with
  | .next d S => k d S
  | r => r
def sNil : MS := fun d S => .next d S
def sSeq (a b : MS) : MS := fun d S => (a d S).andThen b
section
variable {X : Cx} {T : List (Addr × Str)} {E : XK} {e c o : Expr} {es : List Expr} {f g h : ME} {fs : MA} {pos pos' : Pos} {C : Ct} {st : Stmt} {sts : List Stmt} {a b : MS} {t : MT} {D : Ends}
theorem tS_at {C : Ct} {G : Gh} {S : Store} {d : Env1} {σ : L2.St} (s : Sim C G S) (env : EnvOk C G S.length σ d) (h : PostS C E G S.length (a d S) D) : tS C E a D σ G.H := ⟨G, S, d, rfl, s, env, h⟩
theorem posts_bind0 {α : Type} {G : Gh} {m : Nat} {r : Res α} {k : α → Store → SR} (h : PostS C E G m (r.thenS k) D) : Post C E G m r (fun _ x S1 => PostS C E G m (k x S1) D) := by
  cases r with
  | ok x S' => exact fun G' e s => h
  | exc x S' => exact h
  | bad => exact h
theorem jss_nil : JSs X T E [] sNil := pss_weak pss_nil fun D σ H ⟨G, S, d, e, s, env, q⟩ => by
  subst e
  exact q G σ Ev.refl s env
theorem jss_cons (h1 : JS X T E st a) (h2 : JSs X T E sts b) : JSs X T E (st :: sts) (sSeq a b) := pss_weak (pss_cons h1 h2) fun D σ H ⟨G, S, d, e, s, env, q⟩ => by
  refine ⟨G, S, d, e, s, env, ?_⟩
  have q : PostS (ct X T) E G S.length ((a d S).andThen b) D := q
  cases z : a d S with
  | next d1 S1 =>
    rw [z] at q
    exact fun G1 σ1 e1 s1 env1 => ⟨G1, S1, d1, rfl, s1, env1, posts_from e1 q⟩
  | ret w S1 => rw [z] at q; exact q
  | brk d1 S1 => rw [z] at q; exact q
  | cont d1 S1 => rw [z] at q; exact q
  | exc x S1 => rw [z] at q; exact q
  | bad => rw [z] at q; exact q
theorem jss_one (h1 : JS X T E st a) : JSs X T E [st] a := pss_one h1
def sPass : MS := fun d S => .next d S
def sBrk : MS := fun d S => .brk d S
def sCont : MS := fun d S => .cont d S
theorem js_pass : JS X T E (.Pass pos) sPass := ps_weak ps_pass fun D σ H ⟨G, S, d, e, s, env, q⟩ => by
  subst e
  exact q G σ Ev.refl s env
theorem js_brk : JS X T E (.Break pos) sBrk := ps_weak ps_break fun D σ H ⟨G, S, d, e, s, env, q⟩ => by
  subst e
  exact q G σ Ev.refl s env
theorem js_cont : JS X T E (.Continue pos) sCont := ps_weak ps_continue fun D σ H ⟨G, S, d, e, s, env, q⟩ => by
  subst e
  exact q G σ Ev.refl s env
def sExpr (f : ME) : MS := fun d S => (f d S).thenS fun _ S1 => .next d (S1.take S.length)
theorem js_expr (he : JE X T E e f) (hs : swapsWith e none pos.line X.env = pure false := by rfl) : JS X T E (.Expr e pos) (sExpr f) := ps_weak (ps_expr he hs) fun D σ H ⟨G, S, d, e, s, env, q⟩ => by
  refine ⟨G, S, d, e, s, env, post_mono (posts_bind0 q) fun G1 w S1 e1 s1 h1 v r => ?_⟩
  have l := take_len S1 e1.le
  refine h1 G1 σ ?_ (sim_take s1 _) ?_
  · rw [l]
    exact ev_less e1
  · rw [l]
    exact env.go (ev_less e1)
def sRet (f : ME) : MS := fun d S => (f d S).thenS fun w S1 => .ret w S1
theorem js_ret (he : JE X T E e f) : JS X T E (.Return (some e) pos) (sRet f) := ps_weak (ps_ret he) fun D σ H ⟨G, S, d, e, s, env, q⟩ =>
  ⟨G, S, d, e, s, env, post_mono (posts_bind q) fun G1 w S1 e1 s1 h1 v r => h1 G1 v Ev.refl s1 r⟩
def sRetN : MS := fun _ S => .ret .non S
theorem js_retN : JS X T E (.Return none pos) sRetN := ps_weak ps_retN fun D σ H ⟨G, S, d, e, s, env, q⟩ => by
  subst e
  exact q G .non Ev.refl s mk_non
def sIf (t : MT) (a b : MS) : MS := fun d S => (t d S).thenS fun k S1 => if k then a d (S1.take S.length) else b d (S1.take S.length)
theorem js_if {ss rs : List Stmt} (hc : JT X T E c t) (ha : JSs X T E ss a) (hb : JSs X T E rs b) : JS X T E (.If c ss rs pos) (sIf t a b) := ps_weak (ps_if hc ha hb) fun D σ H ⟨G, S, d, e, s, env, q⟩ => by
  refine ⟨G, S, d, e, s, env, post_mono (posts_bind0 q) fun G1 k S1 e1 s1 h1 => ?_⟩
  have l := take_len S1 e1.le
  have e2 : Ev G S.length G1 (S1.take S.length).length := by rw [l]; exact ev_less e1
  cases k with
  | true => exact ⟨G1, S1.take S.length, d, rfl, sim_take s1 _, env.go e2, posts_from e2 h1⟩
  | false => exact ⟨G1, S1.take S.length, d, rfl, sim_take s1 _, env.go e2, posts_from e2 h1⟩
/-! ### names are stored -/
theorem env_set {G : Gh} {m i : Nat} {σ : L2.St} {d : Env1} {v : V} {w : W} (env : EnvOk C G m σ d) (r : Rep C G m v w) : EnvOk C G m (σ.set i (some v)) (d.set i (some w)) :=
  p_set (fun w' e => ⟨v, rfl, by cases e; exact r⟩) i env
def sAsg (i : Nat) (f : ME) : MS := fun d S => (f d S).thenS fun w S1 => .next (d.set i (some (gcW S.length w S1).1)) (gcW S.length w S1).2
theorem js_asg {i : Nat} {x : Str} (he : JE X T E e f) (hN : X.N.Nodup) (hi : X.N[i]? = some x := by rfl) (hx : Loc X.env.scope x := by first | exact .inl rfl | exact .inr rfl) (hs : swapsWith e (some (.Name x pos')) pos.line X.env = pure false := by rfl)
    (hf : X.fn x = true ∨ X.env.scope.names.lookup x = some .local := by first | exact .inl rfl | exact .inr rfl | assumption) : JS X T E (.Assign [.Name x pos'] e pos) (sAsg i f) :=
  ps_weak (ps_set hN hi hx he hs hf) fun D σ H ⟨G, S, d, e, s, env, q⟩ => by
    refine ⟨G, S, d, e, s, env, post_mono (posts_bind0 q) fun G1 w S1 e1 s1 h1 v r => ?_⟩
    obtain ⟨G2, a1, a2, a3, a4⟩ := gc_ok e1 s1 r
    have z := h1 G2 (σ.set i (some v)) a2 a3 (env_set (env.go a2) a4)
    rw [a1] at z
    exact z
/-- x, y = a, b of plain locals -/
def sPar (is : List Nat) (fs : MA) : MS := fun d S => (fs d S).thenS fun ws S1 => if ws.length = is.length then .next ((is.zip ws).foldl (fun d p => d.set p.1 (some p.2)) d) (if W.freeL S.length ws then S1.take S.length else S1) else .bad
theorem gcL_ok {G G1 : Gh} {m : Nat} {S1 : Store} {vs : List V} {ws : List W} (e : Ev G m G1 S1.length) (s : Sim C G1 S1) (r : RepL C G1 S1.length vs ws) :
    ∃ G2, G2.H = G1.H ∧ Ev G m G2 (if W.freeL m ws then S1.take m else S1).length ∧ Sim C G2 (if W.freeL m ws then S1.take m else S1) ∧ RepL C G2 (if W.freeL m ws then S1.take m else S1).length vs ws := by
  cases z : W.freeL m ws with
  | true =>
    rw [if_pos rfl, take_len S1 e.le]
    exact ⟨G1, rfl, ev_less e, sim_take s m, repL_free ws vs r z⟩
  | false => exact ⟨G1, rfl, e, s, r⟩
theorem js_par {i j : Nat} {x y : Str} {e1 e2 : Expr} {px py pt : Pos} {kt k2 pt2} (ha : JA X T E [e1, e2] fs) (hc : X.calm = true) (hN : X.N.Nodup) (hij : i ≠ j) (hi : X.N[i]? = some x := by rfl) (hj : X.N[j]? = some y := by rfl)
    (hx : X.env.scope.names.lookup x = some .local := by rfl) (hy : X.env.scope.names.lookup y = some .local := by rfl)
    (hw : swappedStores [.Tuple [.Name x px, .Name y py] kt pt] (.Tuple [e1, e2] k2 pt2) X.env = pure (some [x, y]) := by rfl) (hs : swapsWithSole [.Tuple [.Name x px, .Name y py] kt pt] (.Tuple [e1, e2] k2 pt2) pos.line X.env = pure false := by rfl) :
    JS X T E (.Assign [.Tuple [.Name x px, .Name y py] kt pt] (.Tuple [e1, e2] k2 pt2) pos) (sPar [i, j] fs) :=
  ps_weak (ps_par hc hN hi hj hij hx hy ha hw hs) fun D σ H ⟨G, S, d, e, s, env, q⟩ => by
    refine ⟨G, S, d, e, s, env, post_mono (posts_bind0 q) fun G1 ws S1 e1 s1 h1 vs r => ?_⟩
    match ws, r, h1 with
    | [], _, h1 => exact h1.elim
    | [_], _, h1 => exact h1.elim
    | [w1, w2], r, h1 =>
      obtain ⟨v1, v2, rfl, r1, r2⟩ := repl_two r
      obtain ⟨G2, a1, a2, a3, a4⟩ := gcL_ok e1 s1 r
      obtain ⟨u1, u2, eu, b1, b2⟩ := repl_two a4
      cases eu
      refine ⟨v1, v2, rfl, ?_⟩
      have z := h1 G2 ((σ.set i (some v1)).set j (some v2)) a2 a3 (env_set (env_set (env.go a2) b1) b2)
      rw [a1] at z
      exact z
    | _ :: _ :: _ :: _, _, h1 => exact h1.elim
theorem repl_three {G : Gh} {m : Nat} {vs : List V} {w w' w'' : W} (h : RepL C G m vs [w, w', w'']) : ∃ v v' v'', vs = [v, v', v''] ∧ Rep C G m v w ∧ Rep C G m v' w' ∧ Rep C G m v'' w'' := by
  cases repL_iff.mp h with
  | cons a b => cases b with
    | cons c d => cases d with
      | cons e f => cases f; exact ⟨_, _, _, rfl, a, c, e⟩
theorem js_par3 {i j l : Nat} {x y z : Str} {e1 e2 e3 : Expr} {px py pz pt : Pos} {kt k2 pt2} (ha : JA X T E [e1, e2, e3] fs) (hc : X.calm = true) (hN : X.N.Nodup) (hij : i ≠ j) (hil : i ≠ l) (hjl : j ≠ l) (hi : X.N[i]? = some x := by rfl) (hj : X.N[j]? = some y := by rfl) (hl : X.N[l]? = some z := by rfl)
    (hx : X.env.scope.names.lookup x = some .local := by rfl) (hy : X.env.scope.names.lookup y = some .local := by rfl) (hz : X.env.scope.names.lookup z = some .local := by rfl)
    (hw : swappedStores [.Tuple [.Name x px, .Name y py, .Name z pz] kt pt] (.Tuple [e1, e2, e3] k2 pt2) X.env = pure (some [x, y, z]) := by rfl) (hs : swapsWithSole [.Tuple [.Name x px, .Name y py, .Name z pz] kt pt] (.Tuple [e1, e2, e3] k2 pt2) pos.line X.env = pure false := by rfl) :
    JS X T E (.Assign [.Tuple [.Name x px, .Name y py, .Name z pz] kt pt] (.Tuple [e1, e2, e3] k2 pt2) pos) (sPar [i, j, l] fs) :=
  ps_weak (ps_par3 hc hN hi hj hl hij hil hjl hx hy hz ha hw hs) fun D σ H ⟨G, S, d, e, s, env, q⟩ => by
    refine ⟨G, S, d, e, s, env, post_mono (posts_bind0 q) fun G1 ws S1 e1 s1 h1 vs r => ?_⟩
    match ws, r, h1 with
    | [], _, h1 => exact h1.elim
    | [_], _, h1 => exact h1.elim
    | [_, _], _, h1 => exact h1.elim
    | [w1, w2, w3], r, h1 =>
      obtain ⟨G2, a1, a2, a3, a4⟩ := gcL_ok e1 s1 r
      obtain ⟨v1, v2, v3, rfl, b1, b2, b3⟩ := repl_three a4
      refine ⟨v1, v2, v3, rfl, ?_⟩
      have z := h1 G2 (((σ.set i (some v1)).set j (some v2)).set l (some v3)) a2 a3 (env_set (env_set (env_set (env.go a2) b1) b2) b3)
      rw [a1] at z
      exact z
    | _ :: _ :: _ :: _ :: _, _, h1 => exact h1.elim
/-! ### targets -/
abbrev MG := W → Store → Env1 → Option Env1
abbrev MGs := List W → Store → Env1 → Option Env1
def tG (C : Ct) (b : MG) : TG := fun v σ H Q => ∃ G S d w, H = G.H ∧ Sim C G S ∧ EnvOk C G S.length σ d ∧ Rep C G S.length v w ∧ ∃ d', b w S d = some d' ∧ ∀ σ', EnvOk C G S.length σ' d' → Q σ' G.H
def tGs (C : Ct) (b : MGs) : TGs := fun vs σ H Q => ∃ G S d ws, H = G.H ∧ Sim C G S ∧ EnvOk C G S.length σ d ∧ Paired (Rep C G S.length) vs ws ∧ ∃ d', b ws S d = some d' ∧ ∀ σ', EnvOk C G S.length σ' d' → Q σ' G.H
abbrev JG (X : Cx) (T : List (Addr × Str)) (e : Expr) (b : MG) : Prop := PG X e (tG (ct X T) b)
abbrev JGs (X : Cx) (T : List (Addr × Str)) (es : List Expr) (b : MGs) : Prop := PGs X es (tGs (ct X T) b)
theorem pg_weak {tg : Expr} {t t' : TG} (h : PG X tg t) (w : ∀ v σ H Q, t' v σ H Q → t v σ H Q) : PG X tg t' := ⟨fun pins s σ H v u Q I r q => h.run pins s σ H v u Q I r (w v σ H Q q)⟩
theorem pgs_weak {tgs : List Expr} {t t' : TGs} (h : PGs X tgs t) (w : ∀ v σ H Q, t' v σ H Q → t v σ H Q) : PGs X tgs t' := ⟨fun pins s σ H v u Q I r q => h.run pins s σ H v u Q I r (w v σ H Q q)⟩
def bName (i : Nat) : MG := fun w _ d => some (d.set i (some w))
theorem jg_name {i : Nat} {x : Str} (hN : X.N.Nodup) (hi : X.N[i]? = some x := by rfl) (hx : Loc X.env.scope x := by first | exact .inl rfl | exact .inr rfl) (hf : X.fn x = true ∨ X.env.scope.names.lookup x = some .local := by first | exact .inl rfl | exact .inr rfl | assumption) : JG X T (.Name x pos) (bName i) :=
  pg_weak (pg_name hN hi hx hf) fun v σ H Q ⟨G, S, d, w, e, s, env, r, d', hb, q⟩ => by
    subst e
    obtain rfl := Option.some.inj hb
    exact q _ (env_set env r)
def bNil : MGs := fun ws _ d => match ws with
  | [] => some d
  | _ => none
def bCons (b : MG) (bs : MGs) : MGs := fun ws S d => match ws with
  | w :: ws => match b w S d with
    | some d1 => bs ws S d1
    | none => none
  | [] => none
theorem jgs_nil : JGs X T [] bNil := pgs_weak pgs_nil fun vs σ H Q ⟨G, S, d, ws, e, s, env, r, d', hb, q⟩ => by
  subst e
  cases ws with
  | nil =>
    obtain rfl := Option.some.inj hb
    cases r
    exact ⟨rfl, q σ env⟩
  | cons w ws => cases hb
theorem jgs_cons {tg : Expr} {tgs : List Expr} {b : MG} {bs : MGs} (h1 : JG X T tg b) (h2 : JGs X T tgs bs) (hs : (assignEach (tg :: tgs) X.env).map (·.2) = assign tg X.env :: (assignEach tgs X.env).map (·.2) := by rfl) : JGs X T (tg :: tgs) (bCons b bs) :=
  pgs_weak (pgs_cons h1 h2 hs) fun vs σ H Q ⟨G, S, d, ws, e, s, env, r, d', hb, q⟩ => by
    subst e
    cases ws with
    | nil => cases hb
    | cons w ws =>
      cases r with
      | cons r1 r2 =>
        have hb : (match b w S d with
          | some d1 => bs ws S d1
          | none => none) = some d' := hb
        cases q1 : b w S d with
        | none => rw [q1] at hb; cases hb
        | some d1 =>
          rw [q1] at hb
          exact ⟨_, _, rfl, G, S, d, w, rfl, s, env, r1, d1, q1, fun σ1 env1 => ⟨G, S, d1, ws, rfl, s, env1, r2, d', hb, q⟩⟩
def tupOf : W → Option (List W)
  | .tup ws => some ws
  | .tpz ws => some ws
  | .twk ws => some ws
  | _ => none
def bTup (n : Nat) (bs : MGs) : MG := fun w S d => match tupOf w with
  | some ws => if ws.length = n then bs ws S d else none
  | none => none
theorem rep_tupOf {G : Gh} {S : Store} {v : V} {w : W} {ws : List W} (r : Rep C G S.length v w) (e : tupOf w = some ws) (K : PySem.W.Frag) : ∃ a xs, v = .ref a ∧ SqT K G.H a xs ∧ Paired (Rep C G S.length) xs ws := by
  cases w with
  | tup ys =>
    obtain rfl := Option.some.inj e
    obtain ⟨a, xs, h1, h2, h3⟩ := rep_tup r
    exact ⟨a, xs, h1, h2.sq K, h3⟩
  | tpz ys =>
    obtain rfl := Option.some.inj e
    obtain ⟨a, xs, h1, h2, h3⟩ := rep_tpz r
    exact ⟨a, xs, h1, h2.sq K, Paired.mapP h3 fun _ _ z => z.up⟩
  | twk ys =>
    obtain rfl := Option.some.inj e
    obtain ⟨a, xs, h1, h2, h3⟩ := rep_twk r
    exact ⟨a, xs, h1, h2.sq K, h3⟩
  | _ => cases e
theorem jg_tup {tgs : List Expr} {k : Nat} {bs : MGs} {n : Nat} (hc : X.calm = true) (h : JGs X T tgs bs) (hn : (assignEach tgs X.env).length = n := by rfl) (hst : (assignEach tgs X.env).findIdx? (·.1) = none := by rfl) : JG X T (.Tuple tgs k pos) (bTup n bs) :=
  pg_weak (pg_tup hc h hn hst) fun v σ H Q ⟨G, S, d, w, e, s, env, r, d', hb, q⟩ => by
    subst e
    unfold bTup at hb
    cases q1 : tupOf w with
    | none => rw [q1] at hb; cases hb
    | some ws =>
      rw [q1] at hb
      dsimp only at hb
      obtain ⟨a, xs, rfl, h1, h2⟩ := rep_tupOf r q1 X.K
      by_cases hl : ws.length = n
      · rw [if_pos hl] at hb
        exact ⟨a, xs, rfl, h1, by rw [h2.length]; exact hl, G, S, d, ws, rfl, s, env, h2, d', hb, q⟩
      · rw [if_neg hl] at hb; cases hb
/-- any target = e -/
def gcF (k : Nat) (w : W) (S : Store) : Store := if w.free k then S.take k else S
def sAsgT (b : MG) (f : ME) : MS := fun d S => (f d S).thenS fun w S1 => match b w (gcF S.length w S1) d with
  | some d' => .next d' (gcF S.length w S1)
  | none => .bad
theorem gcF_ok {G G1 : Gh} {m : Nat} {S1 : Store} {v : V} {w : W} (e : Ev G m G1 S1.length) (s : Sim C G1 S1) (r : Rep C G1 S1.length v w) : ∃ G2, G2.H = G1.H ∧ Ev G m G2 (gcF m w S1).length ∧ Sim C G2 (gcF m w S1) ∧ Rep C G2 (gcF m w S1).length v w := by
  unfold gcF
  cases z : w.free m with
  | true => rw [if_pos rfl]; exact gc_free e s r z
  | false => exact ⟨G1, rfl, e, s, r⟩
theorem js_asgT {tg : Expr} {b : MG} (he : JE X T E e f) (hg : JG X T tg b) (hs : swapsWithSole [tg] e pos.line X.env = pure false := by rfl) (hw : swappedStores [tg] e X.env = pure none := by rfl) (h1 : (assignEach [tg] X.env).map (·.2) = [assign tg X.env] := by rfl) :
    JS X T E (.Assign [tg] e pos) (sAsgT b f) :=
  ps_weak (ps_asg he hg hs hw h1) fun D σ H ⟨G, S, d, e, s, env, q⟩ => by
    refine ⟨G, S, d, e, s, env, post_mono (posts_bind0 q) fun G1 w S1 e1 s1 h1 v r => ?_⟩
    obtain ⟨G2, a1, a2, a3, a4⟩ := gcF_ok e1 s1 r
    rw [← a1]
    cases z : b w (gcF S.length w S1) d with
    | none => rw [z] at h1; exact h1.elim
    | some d' =>
      rw [z] at h1
      exact ⟨G2, _, d, w, rfl, a3, env.go a2, a4, d', z, fun σ' env' => h1 G2 σ' a2 a3 env'⟩
/-! ### x[i] = e, x op= e, x[i] op= e -/
def setW (o i v : W) (S : Store) : Option Store := match o with
  | .loc n => match S[n]? with
    | some (.lst xs) => match i with
      | .int k => match ixN xs.length k with
        | some j => some (S.set n (.lst (xs.set j v)))
        | none => none
      | _ => none
    | _ => dicPut S (.loc n) i v
  | _ => none
def sSetIx (f g h : ME) : MS := fun d S => (f d S).thenS fun v S1 => (g d S1).thenS fun o S2 => (h d S2).thenS fun i S3 => match storeW v S3 with
  | some (v', S4) => match setW o i v' S4 with
    | some S5 => .next d (S5.take S.length)
    | none => .bad
  | none => .bad
theorem post_bad {α : Type} {G : Gh} {m : Nat} {Φ : Gh → α → Store → Prop} (h : Post C E G m .bad Φ) : False := h
theorem setW_len {o i v : W} {S S' : Store} (h : setW o i v S = some S') : S'.length = S.length := by
  have dp : ∀ {x k w}, dicPut S x k w = some S' → S'.length = S.length := fun {x k w} e => by
    cases x with
    | loc n =>
      unfold dicPut at e
      dsimp only at e
      cases q : S[n]? with
      | none => rw [q] at e; cases e
      | some c =>
        rw [q] at e
        cases c with
        | lst ws => cases e
        | ice ws => cases e
        | dT kvs =>
          dsimp only at e
          cases k with
          | tup ws =>
            dsimp only at e
            cases q2 : keyL ws with
            | none => rw [q2] at e; cases e
            | some ks =>
              rw [q2] at e
              dsimp only at e
              split at e
              · obtain rfl := Option.some.inj e; exact List.length_set
              · cases e
          | _ => cases e
        | dK kvs =>
          dsimp only at e
          cases q2 : key1 k with
          | none => rw [q2] at e; cases e
          | some ks =>
            rw [q2] at e
            dsimp only at e
            split at e
            · obtain rfl := Option.some.inj e; exact List.length_set
            · cases e
    | _ => cases e
  cases o with
  | loc n =>
    have h : (match (generalizing := false) S[n]? with
    | some (.lst xs) => match (generalizing := false) i with
      | .int k => match ixN xs.length k with
        | some j => some (S.set n (.lst (xs.set j v)))
        | none => none
      | _ => none
    | _ => dicPut S (.loc n) i v) = some S' := h
    cases q : S[n]? with
    | none => rw [q] at h; exact dp h
    | some c => cases c with
      | lst xs =>
        rw [q] at h
        dsimp only at h
        cases i with
        | int k =>
          dsimp only at h
          cases q2 : ixN xs.length k with
          | none => rw [q2] at h; cases h
          | some j =>
            rw [q2] at h
            obtain rfl := Option.some.inj h
            exact List.length_set
        | _ => cases h
      | ice xs => rw [q] at h; exact dp h
      | dT xs => rw [q] at h; exact dp h
      | dK xs => rw [q] at h; exact dp h
  | _ => cases h
/-- what a store into a list or dict leaves -/
theorem setW_ok {G : Gh} {S S' : Store} {v1 v2 v3 : V} {o i w : W} (s : Sim C G S) (r1 : Rep C G S.length v1 o) (r2 : Rep C G S.length v2 i) (r3 : Rep C G 0 v3 w) (e : setW o i w S = some S') :
    (∃ p xs k j G', v1 = .ref p ∧ v2 = .int k ∧ G.H p = some (.lst xs) ∧ ixN xs.length k = some j ∧ G'.H = upd G.H p (.lst (xs.set j v3)) ∧ Ev G S.length G' S'.length ∧ Sim C G' S' ∧ ¬ isDic S o) ∨
      ∃ a H' G', v1 = .ref a ∧ DPut G.H a v2 v3 H' ∧ G'.H = H' ∧ Ev G S.length G' S'.length ∧ Sim C G' S' ∧ isDic S o := by
  have hlen := setW_len e
  cases o with
  | loc n =>
    have isd : ∀ {w}, dicPut S (.loc n) i w = some S' → isDic S (.loc n) := fun {w} e => by
      unfold dicPut at e
      dsimp only at e
      cases q : S[n]? with
      | none => rw [q] at e; cases e
      | some c =>
        rw [q] at e
        cases c with
        | lst ws => cases e
        | ice ws => cases e
        | dT kvs => exact ⟨n, rfl, .inl ⟨kvs, q⟩⟩
        | dK kvs => exact ⟨n, rfl, .inr ⟨kvs, q⟩⟩
    have dp : dicPut S (.loc n) i w = some S' → ∃ a H' G', v1 = .ref a ∧ DPut G.H a v2 v3 H' ∧ G'.H = H' ∧ Ev G S.length G' S'.length ∧ Sim C G' S' ∧ isDic S (.loc n) := fun e => by
      obtain ⟨a, H', G', b1, b2, b3, b4, b5⟩ := dput_ok s r1 r2 r3 e
      exact ⟨a, H', G', b1, b2, b3, b4, b5, isd e⟩
    have h : (match (generalizing := false) S[n]? with
    | some (.lst xs) => match (generalizing := false) i with
      | .int k => match ixN xs.length k with
        | some j => some (S.set n (.lst (xs.set j w)))
        | none => none
      | _ => none
    | _ => dicPut S (.loc n) i w) = some S' := e
    cases q : S[n]? with
    | none => rw [q] at h; exact .inr (dp h)
    | some c => cases c with
      | lst xs =>
        rw [q] at h
        dsimp only at h
        cases i with
        | int k =>
          dsimp only at h
          cases q2 : ixN xs.length k with
          | none => rw [q2] at h; cases h
          | some j =>
            rw [q2] at h
            obtain rfl := Option.some.inj h
            obtain ⟨hn, rfl⟩ := rep_loc r1
            obtain ⟨nf, ys, h1, h2⟩ := s.cell n _ q
            have ev : Ev G S.length (G.wr n (.lst (ys.set j v3))) S.length := ev_wr s q nf
            refine .inl ⟨_, ys, k, j, G.wr n (.lst (ys.set j v3)), rfl, rep_int r2, h1, by rw [repL_len h2]; exact q2, rfl, by rw [List.length_set]; exact ev, sim_wr s q nf ⟨nf, _, upd_same, ?_⟩, fun ⟨m, e1, e2⟩ => ?_⟩
            · exact repL_iff.mpr (p_set (r3.go0 ev) j (repL_iff.mp (h2.go0 ev)))
            · cases e1
              rcases e2 with ⟨_, e2⟩ | ⟨_, e2⟩
              · rw [q] at e2; cases e2
              · rw [q] at e2; cases e2
        | _ => cases h
      | ice xs => rw [q] at h; exact .inr (dp h)
      | dT xs => rw [q] at h; exact .inr (dp h)
      | dK xs => rw [q] at h; exact .inr (dp h)
  | _ => cases e
theorem js_setix {i : Expr} (hu : X.A.units + 1 < cLine) (hv : JE X T E e f) (ho : JE X T E o g) (hi : JE X T E i h) (hs : swapsWith e (some (.Subscript o i pos')) pos.line X.env = pure false := by rfl)
    (hs1 : swapsWithSole [.Subscript o i pos'] e pos.line X.env = pure false := by rfl) (hw : swappedStores [.Subscript o i pos'] e X.env = pure none := by rfl) (h1 : (assignEach [.Subscript o i pos'] X.env).map (·.2) = [assign (.Subscript o i pos') X.env] := by rfl)
    (ha : ∀ v, assign (.Subscript o i pos') X.env v = (do
      let ov ← holding [v] (eval o X.env)
      let iv ← holding [v, ov] (eval i X.env)
      standAt pos'
      holding [v, ov, iv] (setItem ov iv v)
      release [v, ov, iv] []) := by intro _; rfl) : JS X T E (.Assign [.Subscript o i pos'] e pos) (sSetIx f g h) := by
  refine ps_weak (ps_or2 (ps_dput hu ho hi hv hs) (ps_asg hv (pg_sub ho hi set_list ha) hs1 hw h1)) fun D σ H ⟨G, S, d, e, s, env, q⟩ => ?_
  have go : ∀ (v : W) (S1 : Store) (o i : W) (S2 S3 : Store), f d S = .ok v S1 → g d S1 = .ok o S2 → h d S2 = .ok i S3 → PostS (ct X T) E G S.length (match storeW v S3 with
      | some (v', S4) => match setW o i v' S4 with
        | some S5 => .next d (S5.take S.length)
        | none => .bad
      | none => .bad) D := fun v S1 o i S2 S3 q1 q2 q3 => by
    have q : PostS (ct X T) E G S.length ((f d S).thenS fun v S1 => (g d S1).thenS fun o S2 => (h d S2).thenS fun i S3 => match storeW v S3 with
      | some (v', S4) => match setW o i v' S4 with
        | some S5 => .next d (S5.take S.length)
        | none => .bad
      | none => .bad) D := q
    rw [q1] at q
    dsimp only [Res.thenS] at q
    rw [q2] at q
    dsimp only [Res.thenS] at q
    rw [q3] at q
    exact q
  -- the last step, from the three values
  have fin : ∀ (v : W) (S1 : Store) (o i : W) (S2 S3 : Store) (G3 : Gh) (x y z : V), f d S = .ok v S1 → g d S1 = .ok o S2 → h d S2 = .ok i S3 → Ev G S.length G3 S3.length → Sim (ct X T) G3 S3 → Rep (ct X T) G3 S3.length x v → Rep (ct X T) G3 S3.length y o → Rep (ct X T) G3 S3.length z i →
      ((∃ v' S4, storeW v S3 = some (v', S4) ∧ isDic S4 o) → ∃ a H4, y = .ref a ∧ DPut G3.H a z x H4 ∧ D.nx σ H4) ∧ ((¬ ∃ v' S4, storeW v S3 = some (v', S4) ∧ isDic S4 o) → rSetL y z x G3.H fun H3 => D.nx σ H3) := fun v S1 o i S2 S3 G3 x y z q1 q2 q3 ev s3 rx ry rz => by
    have q := go v S1 o i S2 S3 q1 q2 q3
    cases q4 : storeW v S3 with
    | none => rw [q4] at q; exact q.elim
    | some p =>
      obtain ⟨v', S4⟩ := p
      rw [q4] at q
      dsimp only at q
      obtain ⟨G4, a1, a2, a3, a4, a5⟩ := storeW_ok v x G3 S3 v' S4 s3 rx q4
      cases q5 : setW o i v' S4 with
      | none => rw [q5] at q; exact q.elim
      | some S5 =>
        rw [q5] at q
        have fl : ∀ G5, Ev G4 S4.length G5 S5.length → Sim (ct X T) G5 S5 → D.nx σ G5.H := fun G5 e5 s5 => by
          have et := (ev.trans a1).trans e5
          have l := take_len S5 et.le
          refine q G5 σ ?_ (sim_take s5 _) ?_
          · rw [l]; exact ev_less et
          · rw [l]; exact env.go (ev_less et)
        rcases setW_ok a3 (ry.go a1) (rz.go a1) a4 q5 with ⟨p, xs, k, j, G5, b1, b2, b3, b4, b5, b6, b7, b8⟩ | ⟨a, H', G5, b1, b2, b3, b4, b5, b6⟩
        · refine ⟨fun ⟨v2, S6, c1, c2⟩ => ?_, fun _ => ⟨p, xs, k, j, b1, b2, by rw [← a5]; exact b3, b4, ?_⟩⟩
          · cases c1
            exact absurd c2 b8
          · have z := fl G5 b6 b7
            rw [b5, a5] at z
            exact z
        · refine ⟨fun _ => ⟨a, H', b1, by rw [← a5]; exact b2, ?_⟩, fun c => absurd ⟨v', S4, rfl, b6⟩ c⟩
          have z := fl G5 b4 b5
          rw [b3] at z
          exact z
  by_cases dd : ∃ v S1 o S2 i S3 v' S4, f d S = .ok v S1 ∧ g d S1 = .ok o S2 ∧ h d S2 = .ok i S3 ∧ storeW v S3 = some (v', S4) ∧ isDic S4 o
  · refine .inl ⟨G, S, d, e, s, env, post_eq (posts_bind0 q) fun G1 v S1 q1 e1 s1 h1 x rx => ?_⟩
    refine ⟨G1, S1, d, rfl, s1, env.go e1, post_eq (posts_bind0 (posts_from e1 h1)) fun G2 o S2 q2 e2 s2 h2 y ry => ?_⟩
    refine ⟨G2, S2, d, rfl, s2, (env.go e1).go e2, post_eq (posts_bind0 (posts_from e2 h2)) fun G3 i S3 q3 e3 s3 h3 z rz => ?_⟩
    refine (fin v S1 o i S2 S3 G3 x y z q1 q2 q3 ((e1.trans e2).trans e3) s3 ((rx.go e2).go e3) (ry.go e3) rz).1 ?_
    obtain ⟨v9, S19, o9, S29, i9, S39, v', S4, c1, c2, c3, c4, c5⟩ := dd
    rw [q1] at c1; cases c1
    rw [q2] at c2; cases c2
    rw [q3] at c3; cases c3
    exact ⟨v', S4, c4, c5⟩
  · refine .inr ⟨G, S, d, e, s, env, post_eq (posts_bind0 q) fun G1 v S1 q1 e1 s1 h1 x rx => ?_⟩
    refine ⟨G1, S1, d, rfl, s1, env.go e1, post_eq (posts_bind0 (posts_from e1 h1)) fun G2 o S2 q2 e2 s2 h2 y ry => ?_⟩
    refine ⟨G2, S2, d, rfl, s2, (env.go e1).go e2, post_eq (posts_bind0 (posts_from e2 h2)) fun G3 i S3 q3 e3 s3 h3 z rz => ?_⟩
    exact (fin v S1 o i S2 S3 G3 x y z q1 q2 q3 ((e1.trans e2).trans e3) s3 ((rx.go e2).go e3) (ry.go e3) rz).2 fun ⟨v', S4, c4, c5⟩ => dd ⟨v, S1, o, S2, i, S3, v', S4, q1, q2, q3, c4, c5⟩
/-- x op= e, two ints -/
def sAug (i : Nat) (op : Int → Int → Int) (f : ME) : MS := fun d S => match d[i]? with
  | some (some (.int a)) => (f d S).thenS fun w S1 => match w with
    | .int b => .next (d.set i (some (.int (op a b)))) (S1.take S.length)
    | _ => .bad
  | _ => .bad
theorem js_aug {i : Nat} {x : Str} {op : Operator} {p : Int → Int → Int} (hp : PIp X op (ipI p)) (he : JE X T E e f) (hN : X.N.Nodup) (hi : X.N[i]? = some x := by rfl) (hx : Loc X.env.scope x := by first | exact .inl rfl | exact .inr rfl)
    (hf : X.fn x = true ∨ X.env.scope.names.lookup x = some .local := by first | exact .inl rfl | exact .inr rfl | assumption) : JS X T E (.AugAssign (.Name x pos') op e pos) (sAug i p f) :=
  ps_weak (ps_aug hN hi hx he hp hf) fun D σ H ⟨G, S, d, e, s, env, q⟩ => by
    unfold sAug at q
    cases q1 : d[i]? with
    | none => rw [q1] at q; exact q.elim
    | some w0 => cases w0 with
      | none => rw [q1] at q; exact q.elim
      | some w1 => cases w1 with
        | int a =>
          rw [q1] at q
          dsimp only at q
          obtain ⟨y, hy, r0⟩ := p_get env q1
          obtain ⟨v0, rfl, r9⟩ := r0 _ rfl
          refine ⟨v0, hy, G, S, d, e, s, env, post_mono (posts_bind0 q) fun G1 w S1 e1 s1 h1 v r => ?_⟩
          cases w with
          | int b =>
            have l := take_len S1 e1.le
            have e2 : Ev G S.length G1 (S1.take S.length).length := by rw [l]; exact ev_less e1
            exact ⟨a, b, rep_int r9, rep_int r, h1 G1 _ e2 (sim_take s1 _) (env_set (env.go e2) mk_int)⟩
          | _ => exact h1.elim
        | _ => rw [q1] at q; exact q.elim
end
end PM
namespace PM
open PySem PySem.Spec L2
/-! ### while -/
/-- behind a turn: names that hold what was made in the loop are forgotten (where gl says so) -/
def fgtD (k : Nat) (d : Env1) : Env1 := d.map fun o => match o with
  | some w => if w.free k then some w else none
  | none => none
def fgt (gl : Bool) (k : Nat) (d : Env1) (S : Store) (go : Env1 → Store → SR) : SR := if gl then go (fgtD k d) (S.take k) else go d S
def sWhile (gl : Bool) (k : Nat) (t : MT) (b : MS) : Nat → MS
  | 0 => fun _ _ => .bad
  | n + 1 => fun d S => (t d S).thenS fun z S1 => if z then (match b d (S1.take S.length) with
      | .next d' S' => fgt gl k d' S' (sWhile gl k t b n)
      | .cont d' S' => fgt gl k d' S' (sWhile gl k t b n)
      | .brk d' S' => .next d' S'
      | r => r) else .next d (S1.take S.length)
def WF : Nat := 1000000000
def sWh (gl : Bool) (t : MT) (b : MS) : MS := fun d S => sWhile gl S.length t b WF d S
section
variable {X : Cx} {T : List (Addr × Str)} {E : XK} {e c o : Expr} {es : List Expr} {f g h : ME} {fs : MA} {pos pos' : Pos} {C : Ct} {st : Stmt} {sts : List Stmt} {a b : MS} {t : MT} {D : Ends} {G G1 : Gh} {m k : Nat} {S S1 : Store} {d : Env1} {σ : L2.St}
theorem env_fgt (env : EnvOk C G m σ d) : EnvOk C G k σ (fgtD k d) := by
  unfold fgtD
  induction env with
  | nil => exact .nil
  | @cons x y xs ys p t ih =>
    rw [List.map_cons]
    refine .cons (fun w hw => ?_) ih
    cases y with
    | none => cases hw
    | some w0 =>
      have hw : (if w0.free k then some w0 else none) = some w := hw
      by_cases z : w0.free k = true
      · rw [if_pos z] at hw
        cases hw
        obtain ⟨v, e1, r⟩ := p w rfl
        exact ⟨v, e1, rep_free w v r z⟩
      · rw [if_neg z] at hw
        cases hw
/-- at a turn's end -/
theorem fgt_ok {gl : Bool} {go : Env1 → Store → SR} {G0 : Gh} (e : Ev G0 k G1 S1.length) (hk : k ≤ S1.length) (s1 : Sim C G1 S1) (env : EnvOk C G1 S1.length σ d) (q : PostS C E G0 k (fgt gl k d S1 go) D) :
    ∃ d2 S2, Ev G0 k G1 S2.length ∧ k ≤ S2.length ∧ Sim C G1 S2 ∧ EnvOk C G1 S2.length σ d2 ∧ PostS C E G0 k (go d2 S2) D := by
  cases gl with
  | false => exact ⟨d, S1, e, hk, s1, env, q⟩
  | true =>
    refine ⟨fgtD k d, S1.take k, ?_, ?_, sim_take s1 k, ?_, q⟩
    · rw [take_len S1 hk]; exact ev_less e
    · rw [take_len S1 hk]; exact Nat.le_refl _
    · rw [take_len S1 hk]; exact env_fgt env
theorem js_while {ss : List Stmt} (gl : Bool) (hp : PassesOwn (model X.prog X.w) X.A X.env X.xe) (hc : JT X T E c t) (hb : JSs X T E ss a) : JS X T E (.While c ss [] pos) (sWh gl t a) :=
  ps_weak (ps_while hp hc hb) fun D σ H ⟨G0, S0, d0, e0, s0, env0, q0⟩ => by
    refine ⟨fun m σ H => ∃ G S d, H = G.H ∧ Ev G0 S0.length G S.length ∧ S0.length ≤ S.length ∧ Sim (ct X T) G S ∧ EnvOk (ct X T) G S.length σ d ∧ PostS (ct X T) E G0 S0.length (sWhile gl S0.length t a m d S) D, ⟨WF, G0, S0, d0, e0, Ev.refl, Nat.le_refl _, s0, env0, q0⟩, ?_⟩
    rintro m σ H ⟨G, S, d, rfl, ev, hk, s, env, q⟩
    cases m with
    | zero => exact q.elim
    | succ n =>
      refine ⟨G, S, d, rfl, s, env, post_mono (post_from ev (posts_bind0 q)) fun G1 z S1 e1 s1 h1 => ?_⟩
      have l := take_len S1 e1.le
      have e2 : Ev G S.length G1 (S1.take S.length).length := by rw [l]; exact ev_less e1
      have s2 := sim_take s1 S.length
      cases z with
      | false => exact h1 G1 σ (ev.trans e2) s2 (env.go e2)
      | true =>
        refine ⟨fun σ' H' => ∃ G' S' d', H' = G'.H ∧ Ev G0 S0.length G' S'.length ∧ S0.length ≤ S'.length ∧ Sim (ct X T) G' S' ∧ EnvOk (ct X T) G' S'.length σ' d' ∧ PostS (ct X T) E G0 S0.length (sWhile gl S0.length t a n d' S') D,
          fun σ' H' w => ⟨n, Nat.lt_succ_self n, w⟩, G1, S1.take S.length, d, rfl, s2, env.go e2, ?_⟩
        have h1 : PostS (ct X T) E G0 S0.length (match a d (S1.take S.length) with
          | .next d' S' => fgt gl S0.length d' S' (sWhile gl S0.length t a n)
          | .cont d' S' => fgt gl S0.length d' S' (sWhile gl S0.length t a n)
          | .brk d' S' => .next d' S'
          | r => r) D := h1
        cases q2 : a d (S1.take S.length) with
        | next d3 S3 =>
          rw [q2] at h1
          intro G3 σ3 e3 s3 env3
          have et := (ev.trans e2).trans e3
          obtain ⟨d4, S4, b1, b2, b3, b4, b5⟩ := fgt_ok et et.le s3 env3 h1
          exact ⟨G3, S4, d4, rfl, b1, b2, b3, b4, b5⟩
        | cont d3 S3 =>
          rw [q2] at h1
          intro G3 σ3 e3 s3 env3
          have et := (ev.trans e2).trans e3
          obtain ⟨d4, S4, b1, b2, b3, b4, b5⟩ := fgt_ok et et.le s3 env3 h1
          exact ⟨G3, S4, d4, rfl, b1, b2, b3, b4, b5⟩
        | brk d3 S3 =>
          rw [q2] at h1
          exact fun G3 σ3 e3 s3 env3 => h1 G3 σ3 ((ev.trans e2).trans e3) s3 env3
        | ret w S3 => rw [q2] at h1; exact posts_from (ev.trans e2) h1
        | exc x S3 => rw [q2] at h1; exact posts_from (ev.trans e2) h1
        | bad => rw [q2] at h1; exact h1.elim
theorem post_bind0 {α β : Type} {r : Res α} {k : α → Store → Res β} {Φ : Gh → β → Store → Prop} (h : Post C E G m (r.bind k) Φ) : Post C E G m r (fun _ x S1 => Post C E G m (k x S1) Φ) := by
  cases r with
  | ok x S' => exact fun G' e s => h
  | exc x S' => exact h
  | bad => exact h
/-! ### what a for walks -/
def lstB (S : Store) (l : Nat) (ws : List W) : Bool := match lstOf S (.loc l) with
  | some ys => W.beqL ys ws
  | none => false
/-- is the live list still what it was -/
def chk (S : Store) (gs : List (Nat × List W)) : Bool := gs.all fun p => lstB S p.1 p.2
def JOk (C : Ct) (G0 : Gh) (m0 : Nat) (J : It) (ws : List W) (g : List (Nat × List W)) : Prop := ∀ (G : Gh) (S : Store), Ev G0 m0 G S.length → Sim C G S → chk S g = true →
  (∀ i w, ws[i]? = some w → J.go i G.H ∧ ∀ x H', J.yld i G.H x H' → ∃ G', G'.H = H' ∧ Ev G S.length G' S.length ∧ Sim C G' S ∧ Rep C G' S.length x w) ∧ ∀ i, ws.length ≤ i → J.stop i G.H
abbrev MI := Env1 → Store → Res (List W × List (Nat × List W))
def tI (C : Ct) (E : XK) (h : MI) : TI := fun σ H R => ∃ G S d, H = G.H ∧ Sim C G S ∧ EnvOk C G S.length σ d ∧ Post C E G S.length (h d S) (fun G1 p S1 => ∀ J, JOk C G1 S1.length J p.1 p.2 → R J G1.H)
abbrev JI (X : Cx) (T : List (Addr × Str)) (E : XK) (tg e : Expr) (h : MI) : Prop := PI X tg e (tI (ct X T) E h)
theorem pi_weak {tg : Expr} {t t' : TI} (h : PI X tg e t) (w : ∀ σ H Q, t' σ H Q → t σ H Q) : PI X tg e t' := ⟨fun pins s σ H Q I q => h.run pins s σ H Q I (w σ H Q q)⟩
theorem pi_or2 {tg : Expr} {t u : TI} (h : PI X tg e t) (h' : PI X tg e u) : PI X tg e (fun σ H Q => t σ H Q ∨ u σ H Q) := ⟨fun pins s σ H Q I q => q.elim (h.run pins s σ H Q I) (h'.run pins s σ H Q I)⟩
/-- the items of a value: a tuple's, a frozen list's, a new list's; a list that stood: it is live -/
def iterG (k : Nat) (w : W) (S : Store) : Option (List W × List (Nat × List W)) := match w with
  | .tup ws => if W.freeL k ws then some (ws, []) else none
  | .tpz ws => some (ws, [])
  | .arr ws => some (ws, [])
  | .loc l => match lstOf S (.loc l) with
    | some ws => if l < k then some (ws, [(l, ws)]) else some (ws, [])
    | none => none
  | _ => none
def iterW (k : Nat) (w : W) (S : Store) : Res (List W × List (Nat × List W)) := match iterG k w S with
  | some p => .ok p (S.take k)
  | none => .bad
def iExp (f : ME) : MI := fun d S => (f d S).bind fun w S1 => iterW S.length w S1
theorem keepL {G1 G2 : Gh} {m n : Nat} {a : Addr} {xs : List V} (e : Ev G1 m G2 n) (h : G1.H a = some (.lst xs)) (hf : G1.fz a ∨ ∀ k, k < m → G1.mu k ≠ a) : G2.H a = some (.lst xs) := e.keep a _ h (fun _ z => by cases z) hf
theorem jok_list {K : PySem.W.Frag} {G0 : Gh} {m0 : Nat} {a : Addr} {ws : List W} {g : List (Nat × List W)} (st : ∀ (G : Gh) (S : Store), Ev G0 m0 G S.length → Sim C G S → chk S g = true → ∃ xs, SqL K G.H a xs ∧ Paired (Rep C G S.length) xs ws) : JOk C G0 m0 (Itl K a) ws g := fun G S ev s hc => by
  obtain ⟨xs, h1, p2⟩ := st G S ev s hc
  refine ⟨fun i w hw => ?_, fun i hi => ⟨xs, h1, by rw [p2.length]; exact hi⟩⟩
  obtain ⟨v, hv, rv⟩ := p_get p2 hw
  refine ⟨⟨xs, v, h1, hv⟩, fun x H' ⟨e1, e2⟩ => ⟨G, e1.symm, Ev.refl, s, ?_⟩⟩
  have z := e2 xs h1
  rw [hv] at z
  cases z
  exact rv
theorem jok_tup {K : PySem.W.Frag} {G0 : Gh} {m0 : Nat} {a : Addr} {xs : List V} {ws : List W} (st : ∀ (G : Gh) (n : Nat), Ev G0 m0 G n → SqT K G.H a xs) (p : Paired (Rep C G0 m0) xs ws) : JOk C G0 m0 (Itt K a) ws [] := fun G S ev s hc => by
  have p2 : Paired (Rep C G S.length) xs ws := Paired.mapP p fun _ _ z => z.go ev
  have h1 := st G S.length ev
  refine ⟨fun i w hw => ?_, fun i hi => ⟨xs, h1, by rw [p2.length]; exact hi⟩⟩
  obtain ⟨v, hv, rv⟩ := p_get p2 hw
  refine ⟨⟨xs, v, h1, hv⟩, fun x H' ⟨e1, e2⟩ => ⟨G, e1.symm, Ev.refl, s, ?_⟩⟩
  have z := e2 xs h1
  rw [hv] at z
  cases z
  exact rv
/-- the list at a is live, or it is let go -/
theorem iterG_ok {K : PySem.W.Frag} {G0 G1 : Gh} {k : Nat} {S1 : Store} {v : V} {w : W} {p : List W × List (Nat × List W)} (hK : C.K = K) (e : Ev G0 k G1 S1.length) (s : Sim C G1 S1) (r : Rep C G1 S1.length v w) (h : iterG k w S1 = some p) :
    ((tupOf w).isSome = false ∧ ∃ a, v = .ref a ∧ (∃ xs, SqL K G1.H a xs) ∧ JOk C G1 k (Itl K a) p.1 p.2) ∨ ((tupOf w).isSome = true ∧ ∃ a, v = .ref a ∧ (∃ xs, SqT K G1.H a xs) ∧ JOk C G1 k (Itt K a) p.1 p.2) := by
  subst hK
  cases w with
  | tup ws =>
    obtain ⟨a, xs, rfl, h1, p1⟩ := rep_tup r
    have h : (if W.freeL k ws then some (ws, []) else none) = some p := h
    by_cases z : W.freeL k ws = true
    · rw [if_pos z] at h
      cases h
      exact .inr ⟨rfl, a, rfl, ⟨xs, h1.sq _⟩, jok_tup (fun G n ev => (h1.mono ev).sq _) (repL_iff.mp (repL_free ws xs (repL_iff.mpr p1) z))⟩
    · rw [if_neg z] at h; cases h
  | tpz ws =>
    obtain ⟨a, xs, rfl, h1, p1⟩ := rep_tpz r
    cases h
    exact .inr ⟨rfl, a, rfl, ⟨xs, h1.sq _⟩, jok_tup (fun G n ev => (h1.mono ev).sq _) (Paired.mapP p1 fun _ _ z => z.up)⟩
  | arr ws =>
    obtain ⟨a, xs, rfl, h1, p1⟩ := rep_arr r
    cases h
    exact .inl ⟨rfl, a, rfl, ⟨xs, h1.sq _⟩, jok_list fun G S ev _ _ => ⟨xs, (h1.mono ev).sq _, Paired.mapP p1 fun _ _ z => (z.go0 ev).up⟩⟩
  | loc l =>
    have h : (match lstOf S1 (.loc l) with
      | some ws => if l < k then some (ws, [(l, ws)]) else some (ws, [])
      | none => none) = some p := h
    obtain ⟨hl, rfl⟩ := rep_loc r
    cases q : lstOf S1 (.loc l) with
    | none => rw [q] at h; cases h
    | some ws =>
      rw [q] at h
      dsimp only at h
      obtain ⟨a, xs, ea, h1, p1⟩ := rep_lst s r q
      cases ea
      by_cases hlk : l < k
      · rw [if_pos hlk] at h
        cases h
        refine .inl ⟨rfl, _, rfl, ⟨xs, .inl (.inl h1)⟩, jok_list fun G S ev s' hc => ?_⟩
        have hc : (match lstOf S (.loc l) with
          | some ys => W.beqL ys ws
          | none => false) = true := by
            have h0 : (lstB S l ws && true) = true := hc
            rw [Bool.and_true] at h0
            exact h0
        cases q2 : lstOf S (.loc l) with
        | none => rw [q2] at hc; cases hc
        | some ys =>
          rw [q2] at hc
          have ey := W.eqL_of_beq _ _ hc
          subst ey
          obtain ⟨b, zs, eb, h3, p3⟩ := rep_lst s' (mk_loc (Nat.lt_of_lt_of_le hlk ev.le)) q2
          have em : G.mu l = G1.mu l := ev.mu l hlk
          cases eb
          rw [em] at h3
          exact ⟨zs, .inl (.inl h3), Paired.mapP p3 fun _ _ z => z.up⟩
      · rw [if_neg hlk] at h
        cases h
        refine .inl ⟨rfl, _, rfl, ⟨xs, .inl (.inl h1)⟩, jok_list fun G S ev s' hc => ?_⟩
        refine ⟨xs, .inl (.inl (keepL ev h1 (.inr fun n hn z => ?_))), Paired.mapP p1 fun _ _ z => (z.go0 ev).up⟩
        have := s.inj n l (by have := e.le; omega) hl z
        omega
  | _ => cases h
theorem iterW_ok {K : PySem.W.Frag} {G0 G1 : Gh} {k : Nat} {S1 : Store} {v : V} {w : W} {R : It → Hp → Prop} (hK : C.K = K) (e : Ev G0 k G1 S1.length) (s : Sim C G1 S1) (r : Rep C G1 S1.length v w) (h : Post C E G0 k (iterW k w S1) (fun G1 p S1 => ∀ J, JOk C G1 S1.length J p.1 p.2 → R J G1.H)) :
    (((tupOf w).isSome = false → ∃ a, v = .ref a ∧ (∃ xs, SqL K G1.H a xs) ∧ R (Itl K a) G1.H)) ∧ ((tupOf w).isSome = true → ∃ a, v = .ref a ∧ (∃ xs, SqT K G1.H a xs) ∧ R (Itt K a) G1.H) := by
  unfold iterW at h
  cases q : iterG k w S1 with
  | none => rw [q] at h; exact h.elim
  | some p =>
    rw [q] at h
    have l := take_len S1 e.le
    have h : ∀ J, JOk C G1 (S1.take k).length J p.1 p.2 → R J G1.H := h G1 (by rw [l]; exact ev_less e) (sim_take s k)
    rw [l] at h
    rcases iterG_ok hK e s r q with ⟨t, a, b, c, d⟩ | ⟨t, a, b, c, d⟩
    · exact ⟨fun _ => ⟨a, b, c, h _ d⟩, fun z => by rw [t] at z; cases z⟩
    · exact ⟨fun z => (by rw [t] at z; cases z), fun _ => ⟨a, b, c, h _ d⟩⟩
/-- for x in e, e a list or a tuple -/
theorem ji_exp {tg : Expr} (he : JE X T E e f) : JI X T E tg e (iExp f) := pi_weak (pi_or2 (pi_list he) (pi_tup he)) fun σ H R ⟨G, S, d, ee, s, env, q⟩ => by
  by_cases dd : ∃ w S1, f d S = .ok w S1 ∧ (tupOf w).isSome = true
  · refine .inr ⟨G, S, d, ee, s, env, post_eq (post_bind0 q) fun G1 w S1 z e1 s1 h1 v r => ?_⟩
    obtain ⟨w', S', c1, c2⟩ := dd
    rw [z] at c1
    cases c1
    exact (iterW_ok rfl e1 s1 r h1).2 c2
  · refine .inl ⟨G, S, d, ee, s, env, post_eq (post_bind0 q) fun G1 w S1 z e1 s1 h1 v r => ?_⟩
    refine (iterW_ok rfl e1 s1 r h1).1 ?_
    cases c2 : (tupOf w).isSome with
    | false => rfl
    | true => exact absurd ⟨w, S1, z, c2⟩ dd
end
end PM
namespace PM
open PySem PySem.Spec L2 RZ
/-! ### for -/
def forW (gl : Bool) (k : Nat) (g : MG) (b : MS) (ck : List (Nat × List W)) : List W → Env1 → Store → SR
  | [], d, S => if chk S ck then .next d S else .bad
  | w :: ws, d, S => if chk S ck then (match g w S d with
    | some d1 => (match b d1 S with
      | .next d' S' => fgt gl k d' S' (forW gl k g b ck ws)
      | .cont d' S' => fgt gl k d' S' (forW gl k g b ck ws)
      | .brk d' S' => .next d' S'
      | r => r)
    | none => .bad) else .bad
def sFor (gl : Bool) (h : MI) (g : MG) (b : MS) : MS := fun d S => (h d S).thenS fun p S1 => forW gl S1.length g b p.2 p.1 d S1
section
variable {X : Cx} {T : List (Addr × Str)} {E : XK} {e c o tg : Expr} {es : List Expr} {f : ME} {h : MI} {g : MG} {fs : MA} {pos pos' p : Pos} {C : Ct} {st : Stmt} {sts : List Stmt} {a b : MS} {t : MT} {D : Ends} {G G1 : Gh} {m k : Nat} {S S1 : Store} {d : Env1} {σ : L2.St}
theorem drop_cons {α : Type} {ws : List α} {i : Nat} {w : α} (hw : ws[i]? = some w) : ws.drop i = w :: ws.drop (i + 1) := by
  have hi : i < ws.length := by
    rcases Nat.lt_or_ge i ws.length with q | q
    · exact q
    · rw [List.getElem?_eq_none q] at hw; cases hw
  rw [List.getElem?_eq_getElem hi] at hw
  cases hw
  exact List.drop_eq_getElem_cons hi
theorem js_for {ss : List Stmt} (gl : Bool) (hp : PassesOwn (model X.prog X.w) X.A X.env X.xe) (hc : X.calm = true) (hi : JI X T E tg e h) (hg : JG X T tg g) (hb : JSs X T E ss b) (hs : ∀ x, foldedSetIterable e X.env x = pure x := by intro _; rfl) :
    JS X T E (.For tg e ss [] pos) (sFor gl h g b) :=
  ps_weak (ps_for hp hc hi hg hb hs) fun D σ H ⟨G, S, d, ee, s, env, q⟩ => by
    refine ⟨G, S, d, ee, s, env, post_mono (posts_bind0 q) fun G0 pr S0 e0 s0 q0 J hJ => ?_⟩
    obtain ⟨all, ck⟩ := pr
    have q0 : PostS (ct X T) E G0 S0.length (forW gl S0.length g b ck all d S0) D := posts_from e0 q0
    have hJ : JOk (ct X T) G0 S0.length J all ck := hJ
    refine ⟨fun i m σ H => m = all.length - i ∧ i ≤ all.length ∧ ∃ G S d, H = G.H ∧ Ev G0 S0.length G S.length ∧ S0.length ≤ S.length ∧ Sim (ct X T) G S ∧ EnvOk (ct X T) G S.length σ d ∧ PostS (ct X T) E G0 S0.length (forW gl S0.length g b ck (all.drop i) d S) D,
      ⟨_, rfl, Nat.zero_le _, G0, S0, d, rfl, Ev.refl, Nat.le_refl _, s0, env.go e0, q0⟩, ?_⟩
    rintro i m σ H ⟨rfl, hil, G, S, d, rfl, ev, hk, s, env, q⟩
    by_cases hi : i < all.length
    · have hw : all[i]? = some all[i] := List.getElem?_eq_getElem hi
      rw [drop_cons hw] at q
      unfold forW at q
      by_cases hc : chk S ck = true
      · rw [if_pos hc] at q
        obtain ⟨j1, j2⟩ := hJ G S ev s hc
        obtain ⟨j3, j4⟩ := j1 i _ hw
        refine .inr ⟨j3, fun σ' H' => ∃ G' S' d', H' = G'.H ∧ Ev G0 S0.length G' S'.length ∧ S0.length ≤ S'.length ∧ Sim (ct X T) G' S' ∧ EnvOk (ct X T) G' S'.length σ' d' ∧ PostS (ct X T) E G0 S0.length (forW gl S0.length g b ck (all.drop (i + 1)) d' S') D,
          fun σ' H' w => ⟨_, by omega, rfl, hi, w⟩, fun x H' hy => ?_⟩
        obtain ⟨G1, rfl, e1, s1, r1⟩ := j4 x H' hy
        cases z : g all[i] S d with
        | none => rw [z] at q; exact q.elim
        | some d1 =>
          rw [z] at q
          dsimp only at q
          refine ⟨G1, S, d, _, rfl, s1, env.go e1, r1, d1, z, fun σ2 env2 => ⟨G1, S, d1, rfl, s1, env2, ?_⟩⟩
          cases q2 : b d1 S with
          | next d3 S3 =>
            rw [q2] at q
            intro G3 σ3 e3 s3 env3
            have et := (ev.trans e1).trans e3
            obtain ⟨d4, S4, b1, b2, b3, b4, b5⟩ := fgt_ok et et.le s3 env3 q
            exact ⟨G3, S4, d4, rfl, b1, b2, b3, b4, b5⟩
          | cont d3 S3 =>
            rw [q2] at q
            intro G3 σ3 e3 s3 env3
            have et := (ev.trans e1).trans e3
            obtain ⟨d4, S4, b1, b2, b3, b4, b5⟩ := fgt_ok et et.le s3 env3 q
            exact ⟨G3, S4, d4, rfl, b1, b2, b3, b4, b5⟩
          | brk d3 S3 =>
            rw [q2] at q
            exact fun G3 σ3 e3 s3 env3 => q G3 σ3 ((ev.trans e1).trans e3) s3 env3
          | ret w S3 => rw [q2] at q; exact posts_from (ev.trans e1) q
          | exc x S3 => rw [q2] at q; exact posts_from (ev.trans e1) q
          | bad => rw [q2] at q; exact q.elim
      · rw [if_neg hc] at q; exact q.elim
    · have hd : all.drop i = [] := List.drop_eq_nil_of_le (Nat.le_of_not_lt hi)
      rw [hd] at q
      unfold forW at q
      by_cases hc : chk S ck = true
      · rw [if_pos hc] at q
        exact .inl ⟨(hJ G S ev s hc).2 i (Nat.le_of_not_lt hi), q G σ ev s env⟩
      · rw [if_neg hc] at q; exact q.elim
/-! ### range, enumerate, zip, signs -/
def rngL (lo hi : Int) : List W := (List.range (hi - lo).toNat).map fun i : Nat => .int (lo + i)
def inR (i : Int) : Bool := decide (-(2 ^ 62) ≤ i) && decide (i < 2 ^ 62)
def iRg1 (f : MA) : MI := fun d S => (f d S).bind fun ws S1 => match ws with
  | [.int j] => if inR j then .ok (rngL 0 j, []) (S1.take S.length) else .bad
  | _ => .bad
def iRg2 (f : MA) : MI := fun d S => (f d S).bind fun ws S1 => match ws with
  | [.int i, .int j] => if inR i && inR j then .ok (rngL i j, []) (S1.take S.length) else .bad
  | _ => .bad
theorem inR_le {i : Int} (h : inR i = true) : -(2 ^ 62) ≤ i ∧ i < 2 ^ 62 := by
  unfold inR at h
  rw [Bool.and_eq_true] at h
  exact ⟨of_decide_eq_true h.1, of_decide_eq_true h.2⟩
theorem jok_rng {G0 : Gh} {m0 : Nat} (lo hi : Int) : JOk C G0 m0 (Itr lo (hi - lo).toNat) (rngL lo hi) [] := fun G S ev s hc => by
  have hl : (rngL lo hi).length = (hi - lo).toNat := by unfold rngL; rw [List.length_map, List.length_range]
  refine ⟨fun i w hw => ?_, fun i hi => by rw [hl] at hi; exact hi⟩
  have hi' : i < (hi - lo).toNat := by
    rcases Nat.lt_or_ge i (hi - lo).toNat with q | q
    · exact q
    · rw [List.getElem?_eq_none (by rw [hl]; exact q)] at hw; cases hw
  have ew : w = .int (lo + i) := by
    unfold rngL at hw
    rw [List.getElem?_map, List.getElem?_range hi'] at hw
    exact (Option.some.inj hw).symm
  subst ew
  exact ⟨hi', fun x H' ⟨e1, e2⟩ => ⟨G, e1.symm, Ev.refl, s, by rw [e2]; exact mk_int⟩⟩
theorem ji_rng1 {x : Expr} (ha : JA X T E [x] fs) (hg : Gl X "range") (hm : X.mg "range" = none) (hs : starEach [x] X.env = [(false, eval x X.env)] := by rfl) : JI X T E tg (.Call (.Name "range" p) [x] [] pos) (iRg1 fs) :=
  pi_weak (pi_range1 hg hm ha hs) fun σ H R ⟨G, S, d, e, s, env, q⟩ => ⟨G, S, d, e, s, env, post_mono (post_bind0 q) fun G1 ws S1 e1 s1 h1 vs r => by
    match ws, r, h1 with
    | [.int j], r, h1 =>
      cases repL_iff.mp r with
      | cons r0 rr =>
        cases rr
        cases rep_int r0
        dsimp only at h1
        by_cases z : inR j = true
        · rw [if_pos z] at h1
          obtain ⟨z1, z2⟩ := inR_le z
          have l := take_len S1 e1.le
          have e2 : Ev G S.length G1 (S1.take S.length).length := by rw [l]; exact ev_less e1
          have t := h1 G1 e2 (sim_take s1 _) (Itr 0 j.toNat) (by have := jok_rng (C := ct X T) (G0 := G1) (m0 := (S1.take S.length).length) 0 j; rw [Int.sub_zero] at this; exact this)
          exact ⟨j, rfl, z1, z2, t⟩
        · rw [if_neg z] at h1; exact h1.elim⟩
theorem ji_rng2 {x y : Expr} (ha : JA X T E [x, y] fs) (hg : Gl X "range") (hm : X.mg "range" = none) (hs : starEach [x, y] X.env = [(false, eval x X.env), (false, eval y X.env)] := by rfl) (hs2 : starEach [y] X.env = [(false, eval y X.env)] := by rfl) : JI X T E tg (.Call (.Name "range" p) [x, y] [] pos) (iRg2 fs) :=
  pi_weak (pi_range2 hg hm ha hs hs2) fun σ H R ⟨G, S, d, e, s, env, q⟩ => ⟨G, S, d, e, s, env, post_mono (post_bind0 q) fun G1 ws S1 e1 s1 h1 vs r => by
    match ws, r, h1 with
    | [.int i, .int j], r, h1 =>
      cases repL_iff.mp r with
      | cons r0 rr =>
        cases rr with
        | cons r1 rr =>
          cases rr
          cases rep_int r0
          cases rep_int r1
          dsimp only at h1
          by_cases z : (inR i && inR j) = true
          · rw [if_pos z] at h1
            rw [Bool.and_eq_true] at z
            obtain ⟨z1, z2⟩ := inR_le z.1
            obtain ⟨z3, z4⟩ := inR_le z.2
            have l := take_len S1 e1.le
            have e2 : Ev G S.length G1 (S1.take S.length).length := by rw [l]; exact ev_less e1
            exact ⟨i, j, rfl, ⟨z1, z2, z3, z4⟩, h1 G1 e2 (sim_take s1 _) (Itr i (j - i).toNat) (jok_rng i j)⟩
          · rw [if_neg z] at h1; exact h1.elim⟩
/-- a list's items with their places -/
def numW (ws : List W) (k : Nat) : List W := match ws with
  | [] => []
  | w :: ws => .twk [.int k, w] :: numW ws (k + 1)
theorem numW_get : ∀ {ws : List W} {k i : Nat} {x : W}, (numW ws k)[i]? = some x → ∃ w, ws[i]? = some w ∧ x = .twk [.int ((k + i : Nat) : Int), w]
  | [], k, i, x, h => by simp [numW] at h
  | w :: ws, k, 0, x, h => by
    rw [numW, List.getElem?_cons_zero] at h
    exact ⟨w, rfl, (Option.some.inj h).symm⟩
  | w :: ws, k, i + 1, x, h => by
    rw [numW, List.getElem?_cons_succ] at h
    obtain ⟨w', h1, h2⟩ := numW_get h
    exact ⟨w', by rw [List.getElem?_cons_succ]; exact h1, by rw [h2]; congr 3; omega⟩
theorem numW_len : ∀ {ws : List W} {k : Nat}, (numW ws k).length = ws.length
  | [], k => rfl
  | w :: ws, k => by rw [numW, List.length_cons, List.length_cons, numW_len]
theorem numW_all {ws : List W} {k i : Nat} {w : W} (h : ws[i]? = some w) : (numW ws k)[i]? = some (.twk [.int ((k + i : Nat) : Int), w]) := by
  have hl : i < (numW ws k).length := by
    rw [numW_len]
    rcases Nat.lt_or_ge i ws.length with q | q
    · exact q
    · rw [List.getElem?_eq_none q] at h; cases h
  obtain ⟨w', h1, h2⟩ := numW_get (List.getElem?_eq_getElem hl)
  rw [h] at h1
  cases h1
  rw [List.getElem?_eq_getElem hl, h2]
/-- a new tuple of a turn -/
theorem twk_new {T0 : Addr} {xs : List V} {ws : List W} (s : Sim C G S) (hT : G.H T0 = none) (p : Paired (Rep C G S.length) xs ws) : ∃ G', G'.H = upd G.H T0 (.tup xs) ∧ Ev G S.length G' S.length ∧ Sim C G' S ∧ Rep C G' S.length (.ref T0) (.twk ws) := by
  have ev : Ev G S.length (G.addF T0 (.tup xs)) S.length := ev_addF hT
  exact ⟨G.addF T0 (.tup xs), rfl, ev, sim_addF s hT, mk_twk ⟨.inl rfl, upd_same⟩ (Paired.mapP p fun _ _ z => z.go ev)⟩
theorem jok_enum {K : PySem.W.Frag} {G0 : Gh} {m0 : Nat} {a : Addr} {ws : List W} {gs : List (Nat × List W)} (h : JOk C G0 m0 (Itl K a) ws gs) : JOk C G0 m0 (Ite K a) (numW ws 0) gs := fun G S ev s hc => by
  obtain ⟨h1, h2⟩ := h G S ev s hc
  refine ⟨fun i w hw => ?_, fun i hi => h2 i (by rw [numW_len] at hi; exact hi)⟩
  obtain ⟨w0, hw0, rfl⟩ := numW_get hw
  obtain ⟨g1, g2⟩ := h1 i w0 hw0
  refine ⟨g1, fun x H' ⟨T0, x0, e1, e2, e3, e4⟩ => ?_⟩
  subst e1 e3
  obtain ⟨G2, b1, b2, b3, b4⟩ := g2 x0 G.H ⟨rfl, e4⟩
  rw [← b1]
  rw [← b1] at e2
  obtain ⟨G3, c1, c2, c3, c4⟩ := twk_new (xs := [V.int ((0 + i : Nat) : Int), x0]) (ws := [W.int ((0 + i : Nat) : Int), w0]) b3 e2 (.cons mk_int (.cons b4 .nil))
  refine ⟨G3, ?_, b2.trans c2, c3, c4⟩
  rw [c1, Nat.zero_add]
def iEnm (f : MA) : MI := fun d S => (f d S).bind fun ws S1 => match ws with
  | [w] => (match tupOf w with
    | some _ => .bad
    | none => (match iterG S.length w S1 with
      | some p => .ok (numW p.1 0, p.2) (S1.take S.length)
      | none => .bad))
  | _ => .bad
theorem ji_enum {x : Expr} {elts : List Expr} {kk : Nat} {tpos : Pos} (ha : JA X T E [x] fs) (hg : Gl X "enumerate") (hm : X.mg "enumerate" = none) (hs : starEach [x] X.env = [(false, eval x X.env)] := by rfl) : JI X T E (.Tuple elts kk tpos) (.Call (.Name "enumerate" p) [x] [] pos) (iEnm fs) :=
  pi_weak (pi_enum hg hm ha hs) fun σ H R ⟨G, S, d, e, s, env, q⟩ => ⟨G, S, d, e, s, env, post_mono (post_bind0 q) fun G1 ws S1 e1 s1 h1 vs r => by
    match ws, r, h1 with
    | [w], r, h1 =>
      cases repL_iff.mp r with
      | cons r0 rr =>
        cases rr
        dsimp only at h1
        cases z : tupOf w with
        | some t => rw [z] at h1; exact h1.elim
        | none =>
          rw [z] at h1
          dsimp only at h1
          cases z2 : iterG S.length w S1 with
          | none => rw [z2] at h1; exact h1.elim
          | some pr =>
            rw [z2] at h1
            have l := take_len S1 e1.le
            have h1 : ∀ J, JOk (ct X T) G1 (S1.take S.length).length J (numW pr.1 0) pr.2 → R J G1.H := h1 G1 (by rw [l]; exact ev_less e1) (sim_take s1 _)
            rw [l] at h1
            rcases iterG_ok rfl e1 s1 r0 z2 with ⟨t, a, rfl, ⟨xs, hx⟩, hj⟩ | ⟨t, _⟩
            · exact ⟨a, xs, rfl, hx, h1 _ (jok_enum hj)⟩
            · rw [z] at t; cases t⟩
/-- two lists side by side -/
def zipW : List W → List W → List W
  | x :: xs, y :: ys => .twk [x, y] :: zipW xs ys
  | _, _ => []
theorem zipW_get : ∀ {xs ys : List W} {i : Nat} {x : W}, (zipW xs ys)[i]? = some x → ∃ a b, xs[i]? = some a ∧ ys[i]? = some b ∧ x = .twk [a, b]
  | [], ys, i, x, h => by simp [zipW] at h
  | a :: as, [], i, x, h => by simp [zipW] at h
  | a :: as, b :: bs, 0, x, h => by
    rw [zipW, List.getElem?_cons_zero] at h
    exact ⟨a, b, rfl, rfl, (Option.some.inj h).symm⟩
  | a :: as, b :: bs, i + 1, x, h => by
    rw [zipW, List.getElem?_cons_succ] at h
    obtain ⟨u, v, h1, h2, h3⟩ := zipW_get h
    exact ⟨u, v, by rw [List.getElem?_cons_succ]; exact h1, by rw [List.getElem?_cons_succ]; exact h2, h3⟩
theorem zipW_end : ∀ {xs ys : List W} {i : Nat}, (zipW xs ys).length ≤ i → xs.length ≤ i ∨ ys.length ≤ i
  | [], ys, i, h => .inl (Nat.zero_le _)
  | a :: as, [], i, h => .inr (Nat.zero_le _)
  | a :: as, b :: bs, 0, h => by simp [zipW] at h
  | a :: as, b :: bs, i + 1, h => by
    rw [zipW, List.length_cons] at h
    rcases zipW_end (Nat.le_of_succ_le_succ h) with q | q
    · exact .inl (Nat.succ_le_succ q)
    · exact .inr (Nat.succ_le_succ q)
theorem chk_app {S : Store} {a b : List (Nat × List W)} (h : chk S (a ++ b) = true) : chk S a = true ∧ chk S b = true := by
  unfold chk at h ⊢
  rw [List.all_append, Bool.and_eq_true] at h
  exact h
theorem len_le {α : Type} {l : List α} {i : Nat} : l[i]? = none ↔ l.length ≤ i := List.getElem?_eq_none_iff
theorem jok_zip {K : PySem.W.Frag} {G0 : Gh} {m0 : Nat} {a b : Addr} {ws us : List W} {gs hs : List (Nat × List W)} (h : JOk C G0 m0 (Itl K a) ws gs) (h' : JOk C G0 m0 (Itl K b) us hs) : JOk C G0 m0 (Itz K a b) (zipW ws us) (gs ++ hs) := fun G S ev s hc => by
  obtain ⟨c1, c2⟩ := chk_app hc
  obtain ⟨h1, h2⟩ := h G S ev s c1
  obtain ⟨h3, h4⟩ := h' G S ev s c2
  -- a list as it stands
  have sq : ∀ {a : Addr} {ws : List W}, (∀ i w, ws[i]? = some w → (Itl K a).go i G.H ∧ ∀ x H', (Itl K a).yld i G.H x H' → ∃ G', G'.H = H' ∧ Ev G S.length G' S.length ∧ Sim C G' S ∧ Rep C G' S.length x w) → (∀ i, ws.length ≤ i → (Itl K a).stop i G.H) → ∃ xs, SqL K G.H a xs := fun {a ws} p q => by
    obtain ⟨xs, e, _⟩ := q ws.length (Nat.le_refl _)
    exact ⟨xs, e⟩
  refine ⟨fun i w hw => ?_, fun i hi => ?_⟩
  · obtain ⟨x, y, hx, hy, rfl⟩ := zipW_get hw
    obtain ⟨⟨xs, x0, f1, f2⟩, g2⟩ := h1 i x hx
    obtain ⟨⟨ys, y0, f3, f4⟩, g4⟩ := h3 i y hy
    refine ⟨⟨xs, ys, x0, y0, f1, f3, f2, f4⟩, fun v H' ⟨T0, x1, y1, e1, e2, e3, e4, e5⟩ => ?_⟩
    subst e1 e3
    obtain ⟨G2, b1, b2, b3, b4⟩ := g2 x1 G.H ⟨rfl, e4⟩
    -- one after the other: both stand in the last
    have again := h' G2 S (ev.trans b2) b3 c2
    obtain ⟨_, g5⟩ := again.1 i y hy
    obtain ⟨G3, d1, d2, d3, d4⟩ := g5 y1 G2.H ⟨rfl, by rw [b1]; exact e5⟩
    have e : G3.H = G.H := d1.trans b1
    rw [← e]
    rw [← e] at e2
    obtain ⟨G4, c1, c2, c3, c4⟩ := twk_new d3 e2 (.cons (b4.go d2) (.cons d4 .nil))
    exact ⟨G4, c1, (b2.trans d2).trans c2, c3, c4⟩
  · rcases zipW_end hi with q | q
    · obtain ⟨xs, e1, e2⟩ := h2 i q
      obtain ⟨ys, e3⟩ := sq h3 h4
      exact ⟨xs, ys, e1, e3, .inl e2⟩
    · obtain ⟨ys, e1, e2⟩ := h4 i q
      obtain ⟨xs, e3⟩ := sq h1 h2
      exact ⟨xs, ys, e3, e1, .inr e2⟩
theorem jok_zipT {K : PySem.W.Frag} {G0 : Gh} {m0 : Nat} {a b : Addr} {ws us : List W} {gs hs : List (Nat × List W)} (h : JOk C G0 m0 (Itt K a) ws gs) (h' : JOk C G0 m0 (Itt K b) us hs) : JOk C G0 m0 (ItzT K a b) (zipW ws us) (gs ++ hs) := fun G S ev s hc => by
  obtain ⟨c1, c2⟩ := chk_app hc
  obtain ⟨h1, h2⟩ := h G S ev s c1
  obtain ⟨h3, h4⟩ := h' G S ev s c2
  have sq : ∀ {a : Addr} {ws : List W}, (∀ i w, ws[i]? = some w → (Itt K a).go i G.H ∧ ∀ x H', (Itt K a).yld i G.H x H' → ∃ G', G'.H = H' ∧ Ev G S.length G' S.length ∧ Sim C G' S ∧ Rep C G' S.length x w) → (∀ i, ws.length ≤ i → (Itt K a).stop i G.H) → ∃ xs, SqT K G.H a xs := fun {a ws} p q => by
    obtain ⟨xs, e, _⟩ := q ws.length (Nat.le_refl _)
    exact ⟨xs, e⟩
  refine ⟨fun i w hw => ?_, fun i hi => ?_⟩
  · obtain ⟨x, y, hx, hy, rfl⟩ := zipW_get hw
    obtain ⟨⟨xs, x0, f1, f2⟩, g2⟩ := h1 i x hx
    obtain ⟨⟨ys, y0, f3, f4⟩, g4⟩ := h3 i y hy
    refine ⟨⟨xs, ys, x0, y0, f1, f3, f2, f4⟩, fun v H' ⟨T0, x1, y1, e1, e2, e3, e4, e5⟩ => ?_⟩
    subst e1 e3
    obtain ⟨G2, b1, b2, b3, b4⟩ := g2 x1 G.H ⟨rfl, e4⟩
    have again := h' G2 S (ev.trans b2) b3 c2
    obtain ⟨_, g5⟩ := again.1 i y hy
    obtain ⟨G3, d1, d2, d3, d4⟩ := g5 y1 G2.H ⟨rfl, by rw [b1]; exact e5⟩
    have e : G3.H = G.H := d1.trans b1
    rw [← e]
    rw [← e] at e2
    obtain ⟨G4, c1, c2, c3, c4⟩ := twk_new d3 e2 (.cons (b4.go d2) (.cons d4 .nil))
    exact ⟨G4, c1, (b2.trans d2).trans c2, c3, c4⟩
  · rcases zipW_end hi with q | q
    · obtain ⟨xs, e1, e2⟩ := h2 i q
      obtain ⟨ys, e3⟩ := sq h3 h4
      exact ⟨xs, ys, e1, e3, .inl e2⟩
    · obtain ⟨ys, e1, e2⟩ := h4 i q
      obtain ⟨xs, e3⟩ := sq h1 h2
      exact ⟨xs, ys, e3, e1, .inr e2⟩
def iZp (f : MA) : MI := fun d S => (f d S).bind fun ws S1 => match ws with
  | [w, u] => if (tupOf w).isSome = (tupOf u).isSome then (match iterG S.length w S1 with
    | some p => (match iterG S.length u S1 with
      | some r => .ok (zipW p.1 r.1, p.2 ++ r.2) (S1.take S.length)
      | none => .bad)
    | none => .bad) else .bad
  | _ => .bad
theorem ji_zip {x y : Expr} {elts : List Expr} {kk : Nat} {tpos : Pos} (ha : JA X T E [x, y] fs) (hg : Gl X "zip") (hm : X.mg "zip" = none) (hs : starEach [x, y] X.env = (false, eval x X.env) :: starEach [y] X.env := by rfl) (hpl : (backTo pos (starEach [y] X.env)).any (·.1) = false := by rfl) :
    JI X T E (.Tuple elts kk tpos) (.Call (.Name "zip" p) [x, y] [] pos) (iZp fs) :=
  pi_weak (pi_zipA hg hm ha hs hpl) fun σ H R ⟨G, S, d, e, s, env, q⟩ => ⟨G, S, d, e, s, env, post_mono (post_bind0 q) fun G1 ws S1 e1 s1 h1 vs r => by
    match ws, r, h1 with
    | [w, u], r, h1 =>
      cases repL_iff.mp r with
      | cons r0 rr =>
        cases rr with
        | cons r1 rr =>
          cases rr
          dsimp only at h1
          by_cases z : (tupOf w).isSome = (tupOf u).isSome
          · rw [if_pos z] at h1
            cases z2 : iterG S.length w S1 with
            | none => rw [z2] at h1; exact h1.elim
            | some pr =>
              rw [z2] at h1
              dsimp only at h1
              cases z3 : iterG S.length u S1 with
              | none => rw [z3] at h1; exact h1.elim
              | some ps =>
                rw [z3] at h1
                have l := take_len S1 e1.le
                have h1 : ∀ J, JOk (ct X T) G1 (S1.take S.length).length J (zipW pr.1 ps.1) (pr.2 ++ ps.2) → R J G1.H := h1 G1 (by rw [l]; exact ev_less e1) (sim_take s1 _)
                rw [l] at h1
                rcases iterG_ok rfl e1 s1 r0 z2 with ⟨t, a, rfl, ⟨xs, hx⟩, hj⟩ | ⟨t, a, rfl, ⟨xs, hx⟩, hj⟩
                · rcases iterG_ok rfl e1 s1 r1 z3 with ⟨t', b, rfl, ⟨ys, hy⟩, hj'⟩ | ⟨t', _⟩
                  · exact ⟨a, b, xs, ys, rfl, .inl ⟨hx, hy, h1 _ (jok_zip hj hj')⟩⟩
                  · rw [z, t'] at t; cases t
                · rcases iterG_ok rfl e1 s1 r1 z3 with ⟨t', _⟩ | ⟨t', b, rfl, ⟨ys, hy⟩, hj'⟩
                  · rw [z, t'] at t; cases t
                  · exact ⟨a, b, xs, ys, rfl, .inr ⟨hx, hy, h1 _ (jok_zipT hj hj')⟩⟩
          · rw [if_neg z] at h1; exact h1.elim⟩
/-- the signs of a text -/
def signW (x : Str) : List W := x.cps.toList.map fun c => .str ⟨#[c]⟩
def iSgn (f : ME) : MI := fun d S => (f d S).bind fun w S1 => match w with
  | .str x => .ok (signW x, []) (S1.take S.length)
  | _ => .bad
theorem jok_str {G0 : Gh} {m0 : Nat} (x : Str) : JOk C G0 m0 (Its x) (signW x) [] := fun G S ev s hc => by
  have hl : (signW x).length = x.cps.size := by unfold signW; rw [List.length_map, Array.length_toList]
  refine ⟨fun i w hw => ?_, fun i hi => by rw [hl] at hi; exact hi⟩
  unfold signW at hw
  rw [List.getElem?_map] at hw
  cases z : x.cps.toList[i]? with
  | none => rw [z] at hw; cases hw
  | some c =>
    rw [z] at hw
    have ew : w = .str ⟨#[c]⟩ := (Option.some.inj hw).symm
    subst ew
    rw [Array.getElem?_toList] at z
    refine ⟨?_, fun v H' ⟨e1, c', e2, e3⟩ => ⟨G, e1.symm, Ev.refl, s, ?_⟩⟩
    · show i < x.cps.size
      rcases Nat.lt_or_ge i x.cps.size with q | q
      · exact q
      · rw [Array.getElem?_eq_none q] at z; cases z
    · rw [z] at e2
      cases e2
      rw [e3]
      exact mk_str
theorem ji_sgn (he : JE X T E e f) : JI X T E tg e (iSgn f) :=
  pi_weak (pi_str he) fun σ H R ⟨G, S, d, ee, s, env, q⟩ => ⟨G, S, d, ee, s, env, post_mono (post_bind0 q) fun G1 w S1 e1 s1 h1 v r => by
    cases w with
    | str x =>
      have l := take_len S1 e1.le
      have e2 : Ev G S.length G1 (S1.take S.length).length := by rw [l]; exact ev_less e1
      exact ⟨x, rep_str r, h1 G1 e2 (sim_take s1 _) (Its x) (jok_str x)⟩
    | _ => exact h1.elim⟩
end
end PM
namespace PM
open PySem PySem.Spec L2
/-! ### a comprehension's target: only its own slots change -/
def SameBut (vs : List Nat) (σ σ' : L2.St) : Prop := σ'.length = σ.length ∧ ∀ j, j ∉ vs → σ'[j]? = σ[j]?
def tGc (C : Ct) (vs : List Nat) (b : MG) : TG := fun v σ H Q => ∃ G S d w, H = G.H ∧ Sim C G S ∧ EnvOk C G S.length σ d ∧ Rep C G S.length v w ∧ ∃ d', b w S d = some d' ∧ ∀ σ', EnvOk C G S.length σ' d' → SameBut vs σ σ' → Q σ' G.H
def tGcs (C : Ct) (vs : List Nat) (b : MGs) : TGs := fun us σ H Q => ∃ G S d ws, H = G.H ∧ Sim C G S ∧ EnvOk C G S.length σ d ∧ Paired (Rep C G S.length) us ws ∧ ∃ d', b ws S d = some d' ∧ ∀ σ', EnvOk C G S.length σ' d' → SameBut vs σ σ' → Q σ' G.H
abbrev JGc (X : Cx) (T : List (Addr × Str)) (vs : List Nat) (e : Expr) (b : MG) : Prop := PG X e (tGc (ct X T) vs b)
abbrev JGcs (X : Cx) (T : List (Addr × Str)) (vs : List Nat) (es : List Expr) (b : MGs) : Prop := PGs X es (tGcs (ct X T) vs b)
section
variable {X : Cx} {T : List (Addr × Str)} {E : XK} {e c o tg iter : Expr} {es : List Expr} {f : ME} {h : MI} {g : MG} {fs : MA} {pos pos' p : Pos} {C : Ct} {st : Stmt} {sts : List Stmt} {a b : MS} {t : MT} {D : Ends} {G G1 : Gh} {m k : Nat} {S S1 : Store} {d : Env1} {σ σ1 σ2 : L2.St} {vs : List Nat}
theorem SameBut.rfl : SameBut vs σ σ := ⟨Eq.refl _, fun _ _ => Eq.refl _⟩
theorem SameBut.trans (h : SameBut vs σ σ1) (h' : SameBut vs σ1 σ2) : SameBut vs σ σ2 := ⟨h'.1.trans h.1, fun j hj => (h'.2 j hj).trans (h.2 j hj)⟩
theorem wipe_get : ∀ {vs : List Nat} {j : Nat}, (wipe σ vs)[j]? = if j ∈ vs then (if j < σ.length then some none else none) else σ[j]?
  | [], j => by simp [wipe]
  | v :: vs, j => by
    unfold wipe
    rw [List.getElem?_set, wipe_length, wipe_get]
    by_cases h1 : v = j
    · subst h1
      simp
    · rw [if_neg h1]
      by_cases h2 : j ∈ vs
      · rw [if_pos h2, if_pos (List.mem_cons_of_mem _ h2)]
      · rw [if_neg h2, if_neg (fun z => by rcases List.mem_cons.mp z with q | q; exact h1 q.symm; exact h2 q)]
theorem SameBut.wipe (h : SameBut vs σ σ1) : wipe σ1 vs = wipe σ vs := by
  apply List.ext_getElem?
  intro j
  rw [wipe_get, wipe_get, h.1]
  by_cases z : j ∈ vs
  · rw [if_pos z, if_pos z]
  · rw [if_neg z, if_neg z, h.2 j z]
theorem wipe_wipe : SameBut vs σ (L2.wipe σ vs) := ⟨wipe_length _ _, fun j hj => by rw [wipe_get, if_neg hj]⟩
theorem jgc_name {i : Nat} {x : Str} (hN : X.N.Nodup) (hv : i ∈ vs := by decide) (hi : X.N[i]? = some x := by rfl) (hx : Loc X.env.scope x := by first | exact .inl rfl | exact .inr rfl) (hf : X.fn x = true ∨ X.env.scope.names.lookup x = some .local := by first | exact .inl rfl | exact .inr rfl | assumption) : JGc X T vs (.Name x pos) (bName i) :=
  pg_weak (pg_name hN hi hx hf) fun v σ H Q ⟨G, S, d, w, e, s, env, r, d', hb, q⟩ => by
    subst e
    obtain rfl := Option.some.inj hb
    refine q _ (env_set env r) ⟨List.length_set, fun j hj => ?_⟩
    exact List.getElem?_set_ne fun z => hj (by rw [← z]; exact hv)
theorem jgcs_nil : JGcs X T vs [] bNil := pgs_weak pgs_nil fun vs σ H Q ⟨G, S, d, ws, e, s, env, r, d', hb, q⟩ => by
  subst e
  cases ws with
  | nil =>
    obtain rfl := Option.some.inj hb
    cases r
    exact ⟨rfl, q σ env .rfl⟩
  | cons w ws => cases hb
theorem jgcs_cons {tg : Expr} {tgs : List Expr} {b : MG} {bs : MGs} (h1 : JGc X T vs tg b) (h2 : JGcs X T vs tgs bs) (hs : (assignEach (tg :: tgs) X.env).map (·.2) = assign tg X.env :: (assignEach tgs X.env).map (·.2) := by rfl) : JGcs X T vs (tg :: tgs) (bCons b bs) :=
  pgs_weak (pgs_cons h1 h2 hs) fun vs σ H Q ⟨G, S, d, ws, e, s, env, r, d', hb, q⟩ => by
    subst e
    cases ws with
    | nil => cases hb
    | cons w ws =>
      cases r with
      | cons r1 r2 =>
        have hb : (match b w S d with
          | some d1 => bs ws S d1
          | none => none) = some d' := hb
        cases q1 : b w S d with
        | none => rw [q1] at hb; cases hb
        | some d1 =>
          rw [q1] at hb
          exact ⟨_, _, rfl, G, S, d, w, rfl, s, env, r1, d1, q1, fun σ1 env1 b1 => ⟨G, S, d1, ws, rfl, s, env1, r2, d', hb, fun σ2 env2 b2 => q σ2 env2 (b1.trans b2)⟩⟩
theorem jgc_tup {tgs : List Expr} {k : Nat} {bs : MGs} {n : Nat} (hc : X.calm = true) (h : JGcs X T vs tgs bs) (hn : (assignEach tgs X.env).length = n := by rfl) (hst : (assignEach tgs X.env).findIdx? (·.1) = none := by rfl) : JGc X T vs (.Tuple tgs k pos) (bTup n bs) :=
  pg_weak (pg_tup hc h hn hst) fun v σ H Q ⟨G, S, d, w, e, s, env, r, d', hb, q⟩ => by
    subst e
    unfold bTup at hb
    cases q1 : tupOf w with
    | none => rw [q1] at hb; cases hb
    | some ws =>
      rw [q1] at hb
      dsimp only at hb
      obtain ⟨a, xs, rfl, h1, h2⟩ := rep_tupOf r q1 X.K
      by_cases hl : ws.length = n
      · rw [if_pos hl] at hb
        exact ⟨a, xs, rfl, h1, by rw [h2.length]; exact hl, G, S, d, ws, rfl, s, env, h2, d', hb, q⟩
      · rw [if_neg hl] at hb; cases hb
/-! ### [e for t in i if c] -/
abbrev noE : XK := fun _ _ _ => False
def noX {α : Type} (r : Res α) : Res α := match r with
  | .exc _ _ => .bad
  | r => r
theorem noX_post {α : Type} {r : Res α} {Φ : Gh → α → Store → Prop} (h : Post C E G m (noX r) Φ) : Post C noE G m r Φ := by
  cases r with
  | ok x S => exact h
  | exc x S => exact h.elim
  | bad => exact h.elim
theorem noX_bind {α β : Type} {r : Res α} {k : α → Store → Res β} {Φ : Gh → β → Store → Prop} (h : Post C E G m ((noX r).bind k) Φ) : Post C noE G m r (fun _ x S1 => Post C E G m (k x S1) Φ) := noX_post (E := E) (post_bind0 h)
def wipeD (d : Env1) : List Nat → Env1
  | [] => d
  | v :: vs => (wipeD d vs).set v none
theorem env_wipe (env : EnvOk C G m σ d) : ∀ vs : List Nat, EnvOk C G m (wipe σ vs) (wipeD d vs)
  | [] => env
  | v :: vs => by
    unfold wipe wipeD
    exact p_set (fun w e => by cases e) v (env_wipe env vs)
def lcW (k : Nat) (g : MG) (t : MT) (f : ME) (ck : List (Nat × List W)) : List W → Env1 → Store → Res W
  | [], d, S => if chk S ck then .ok (.loc k) S else .bad
  | w :: ws, d, S => if chk S ck then (match g w S d with
    | none => .bad
    | some d1 => (noX (t d1 S)).bind fun z S1 => if z then (noX (f d1 S1)).bind fun y S2 => (match storeW y S2 with
        | some (y', S3) => (match S3[k]? with
          | some (.lst acc) => if acc.length < LN then lcW k g t f ck ws d ((S3.set k (.lst (acc ++ [y']))).take S.length) else .bad
          | _ => .bad)
        | none => .bad)
      else lcW k g t f ck ws d (S1.take S.length)) else .bad
def eLc (h : MI) (g : MG) (t : MT) (f : ME) (vs : List Nat) : ME := fun d S => (h d S).bind fun p S1 => lcW S1.length g t f p.2 p.1 (wipeD d vs) (S1 ++ [.lst []])
def tTru : MT := fun _ S => .ok true S
theorem lc_sem {σ : L2.St} {H : Hp} {Q : VK} (q : tE C E (eLc h g t f vs) σ H Q) : tLc (tI C E h) (tGc C vs g) (tT C noE t) (tE C noE f) vs σ H Q := by
  obtain ⟨G, S, d, ee, s, env, q⟩ := q
  refine ⟨G, S, d, ee, s, env, post_mono (post_bind0 q) fun G1 pr S1 e1 s1 h1 J hJ A hA => ?_⟩
  obtain ⟨all, ck⟩ := pr
  have hJ : JOk C G1 S1.length J all ck := hJ
  have nf : ¬ G1.fz A := fun z => by
    exact nt_none hA (s1.fzH A z)
  have e2 : Ev G1 S1.length (G1.addL S1.length A (.lst [])) (S1.length + 1) := ev_addL hA
  have s2 : Sim C (G1.addL S1.length A (.lst [])) (S1 ++ [.lst []]) := by
    refine sim_addL s1 hA nf ⟨nf, [], ?_, by simp [RepL]⟩
    exact upd_same
  have hm : (G1.addL S1.length A (.lst [])).mu S1.length = A := if_pos rfl
  have l2 : (S1 ++ [Cell.lst []]).length = S1.length + 1 := by rw [List.length_append, List.length_singleton]
  have env1 := env.go e1
  have q1 : Post C E G1 S1.length (lcW S1.length g t f ck all (wipeD d vs) (S1 ++ [.lst []])) (VQ C Q) := post_from e1 h1
  refine ⟨fun i m H => m = all.length - i ∧ i ≤ all.length ∧ ∃ G S, H = G.H ∧ Ev G1 S1.length G S.length ∧ S.length = S1.length + 1 ∧ G.mu S1.length = A ∧ Sim C G S ∧ Post C E G1 S1.length (lcW S1.length g t f ck (all.drop i) (wipeD d vs) S) (VQ C Q),
    ⟨_, rfl, Nat.zero_le _, _, _, rfl, by rw [l2]; exact e2, l2, hm, s2, q1⟩, ?_⟩
  rintro i m H ⟨rfl, hil, G2, S2, rfl, ev, hlen, hmu, s3, q⟩
  by_cases hi : i < all.length
  · have hw : all[i]? = some all[i] := List.getElem?_eq_getElem hi
    rw [drop_cons hw] at q
    unfold lcW at q
    by_cases hc : chk S2 ck = true
    · rw [if_pos hc] at q
      obtain ⟨j1, j2⟩ := hJ G2 S2 ev s3 hc
      obtain ⟨j3, j4⟩ := j1 i _ hw
      refine .inr ⟨j3, fun H' => ∃ G S, H' = G.H ∧ Ev G1 S1.length G S.length ∧ S.length = S1.length + 1 ∧ G.mu S1.length = A ∧ Sim C G S ∧ Post C E G1 S1.length (lcW S1.length g t f ck (all.drop (i + 1)) (wipeD d vs) S) (VQ C Q),
        fun H' w => ⟨_, by omega, rfl, hi, w⟩, fun x H' hy => ?_⟩
      obtain ⟨G3, rfl, e3, s4, r3⟩ := j4 x H' hy
      cases z : g all[i] S2 (wipeD d vs) with
      | none => rw [z] at q; exact q.elim
      | some d1 =>
        rw [z] at q
        dsimp only at q
        have ew : EnvOk C G3 S2.length (wipe σ vs) (wipeD d vs) := env_wipe ((env1.go ev).go e3) vs
        refine ⟨G3, S2, _, _, rfl, s4, ew, r3, d1, z, fun σ2 en2 sb => ⟨?_, G3, S2, d1, rfl, s4, en2, ?_⟩⟩
        · have z := sb.wipe
          rw [z]
          exact (wipe_wipe (σ := σ) (vs := vs)).wipe
        · refine post_mono (post_from (ev.trans e3) (noX_bind q)) fun G4 b S4 e4 s5 q4 => ?_
          have et4 := (ev.trans e3).trans e4
          have h2 : S1.length < S2.length := by rw [hlen]; exact Nat.lt_succ_self _
          have hmu4 : G4.mu S1.length = A := by
            rw [e4.mu _ h2, e3.mu _ h2]
            exact hmu
          cases b with
          | false =>
            have q4 : Post C E G1 S1.length (lcW S1.length g t f ck (all.drop (i + 1)) (wipeD d vs) (S4.take S2.length)) (VQ C Q) := q4
            have l := take_len S4 e4.le
            refine ⟨G4, S4.take S2.length, rfl, ?_, by rw [l, hlen], hmu4, sim_take s5 _, q4⟩
            rw [l]; exact (ev.trans e3).trans (ev_less e4)
          | true =>
            have q4 : Post C E G1 S1.length ((noX (f d1 S4)).bind fun y S2' => (match storeW y S2' with
              | some (y', S3) => (match S3[S1.length]? with
                | some (.lst acc) => if acc.length < LN then lcW S1.length g t f ck (all.drop (i + 1)) (wipeD d vs) ((S3.set S1.length (.lst (acc ++ [y']))).take S2.length) else .bad
                | _ => .bad)
              | none => .bad)) (VQ C Q) := q4
            refine ⟨G4, S4, d1, rfl, s5, en2.go e4, post_mono (post_from et4 (noX_bind q4)) fun G5 y S5 e5 s6 q5 v rv => ?_⟩
            cases z5 : storeW y S5 with
            | none => rw [z5] at q5; exact q5.elim
            | some pr =>
              obtain ⟨y', S6⟩ := pr
              rw [z5] at q5
              dsimp only at q5
              obtain ⟨G6, a1, a2, a3, a4, a5⟩ := storeW_ok y v G5 S5 y' S6 s6 rv z5
              have et6 := (et4.trans e5).trans a1
              cases z6 : S6[S1.length]? with
              | none => rw [z6] at q5; exact q5.elim
              | some cl =>
                rw [z6] at q5
                cases cl with
                | lst acc =>
                  dsimp only at q5
                  by_cases hz : acc.length < LN
                  · rw [if_pos hz] at q5
                    have h4 : S1.length < S4.length := Nat.lt_of_lt_of_le h2 e4.le
                    have h5 : S1.length < S5.length := Nat.lt_of_lt_of_le h4 e5.le
                    have hmu6 : G6.mu S1.length = A := by
                      rw [a1.mu _ h5, e5.mu _ h4]
                      exact hmu4
                    obtain ⟨nf6, xs, hx, rx⟩ := a3.cell _ _ z6
                    have evw : Ev G6 S6.length (G6.wr S1.length (.lst (xs ++ [v]))) S6.length := ev_wr a3 z6 nf6
                    have siw : Sim C (G6.wr S1.length (.lst (xs ++ [v]))) (S6.set S1.length (.lst (acc ++ [y']))) := by
                      refine sim_wr a3 z6 nf6 ⟨nf6, xs ++ [v], upd_same, ?_⟩
                      exact repL_iff.mpr (p_append (repL_iff.mp (rx.go0 evw)) (.cons (a4.go0 evw) .nil))
                    have sl : (S6.set S1.length (Cell.lst (acc ++ [y']))).length = S6.length := List.length_set
                    have le : S2.length ≤ S6.length := Nat.le_trans (Nat.le_trans e4.le e5.le) a1.le
                    have lt : ((S6.set S1.length (Cell.lst (acc ++ [y']))).take S2.length).length = S2.length := take_len _ (by rw [sl]; exact le)
                    have hH : G5.H A = some (.lst xs) := by
                      rw [← a5, ← hmu6]; exact hx
                    refine ⟨xs, hH, ?_, G6.wr S1.length (.lst (xs ++ [v])), (S6.set S1.length (Cell.lst (acc ++ [y']))).take S2.length, ?_, ?_, by rw [lt, hlen], ?_, sim_take siw _, q5⟩
                    · rw [repL_len rx, ← ln_eq]; exact hz
                    · show upd G5.H A (.lst (xs ++ [v])) = upd G6.H (G6.mu S1.length) (.lst (xs ++ [v]))
                      rw [hmu6, a5]
                    · rw [lt]
                      have e6 : Ev G2 S2.length (G6.wr S1.length (.lst (xs ++ [v]))) S2.length := ev_less ((((e3.trans e4).trans e5).trans a1).trans evw)
                      exact ev.trans e6
                    · exact hmu6
                  · rw [if_neg hz] at q5; exact q5.elim
                | _ => exact q5.elim
    · rw [if_neg hc] at q; exact q.elim
  · have hd : all.drop i = [] := List.drop_eq_nil_of_le (Nat.le_of_not_lt hi)
    rw [hd] at q
    unfold lcW at q
    by_cases hc : chk S2 ck = true
    · rw [if_pos hc] at q
      refine .inl ⟨(hJ G2 S2 ev s3 hc).2 i (Nat.le_of_not_lt hi), q G2 ev s3 (.ref A) ?_⟩
      rw [← hmu]
      exact mk_loc (by rw [hlen]; exact Nat.lt_succ_self _)
    · rw [if_neg hc] at q; exact q.elim
theorem pt_yes {σ : L2.St} {H : Hp} {Q : Bool → Hp → Prop} (q : tT C noE tTru σ H Q) : tYes σ H Q := by
  obtain ⟨G, S, d, rfl, s, env, q⟩ := q
  exact q G Ev.refl s
theorem jts_nil {X : Cx} {T : List (Addr × Str)} : PTs X [] (tT (ct X T) noE tTru) := ⟨fun pins s σ H Q I h => pts_nil.run pins s σ H Q I (pt_yes h)⟩
theorem jts_one {X : Cx} {T : List (Addr × Str)} {c : Expr} {t : MT} (h : JT X T noE c t) : PTs X [c] (tT (ct X T) noE t) := pts_one h
theorem je_lc {elt : Expr} {ifs : List Expr} {scope : Scope} {own : List (Str × Nat)} {vs : List Nat} (hc : X.calm = true) (hN : X.N.Nodup) (hi : JI X T E tg iter h) (ok : BlkOk X.N X.env.scope scope own) (hv : own.map (·.2) = vs)
    (hg : ∀ (s : Shared) (H : Hp) (C : Addr) (cl : List (Str × Addr)) (fp : List Addr), JGc (X.blk s H scope (compEnvC scope cl C X.env) fp) T vs tg g)
    (ht : ∀ (s : Shared) (H : Hp) (C : Addr) (cl : List (Str × Addr)) (fp : List Addr), PTs (X.blk s H scope (compEnvC scope cl C X.env) fp) ifs (tT (ct X T) noE t))
    (he : ∀ (s : Shared) (H : Hp) (C : Addr) (cl : List (Str × Addr)) (fp : List Addr), JE (X.blk s H scope (compEnvC scope cl C X.env) fp) T noE elt f) (hs : ∀ x, foldedSetIterable iter X.env x = pure x := by intro _; rfl) :
    JE X T E (.ListComp elt [⟨tg, iter, ifs, 0⟩] scope pos) (eLc h g t f vs) := by
  subst hv
  exact pe_weak (pe_lc hc hN hi ok hg ht he hs) fun σ H Q q => lc_sem q
theorem asg_sem {C : Ct} {i : Nat} {D : Ends} {σ : L2.St} {H : Hp} (q : tS C E (sAsg i f) D σ H) : tE C E f σ H (fun x H1 => gName i x σ H1 D.nx) := by
  obtain ⟨G, S, d, e, s, env, q⟩ := q
  refine ⟨G, S, d, e, s, env, post_mono (posts_bind0 q) fun G1 w S1 e1 s1 h1 v r => ?_⟩
  obtain ⟨G2, a1, a2, a3, a4⟩ := gc_ok e1 s1 r
  have z := h1 G2 (σ.set i (some v)) a2 a3 (env_set (env.go a2) a4)
  rw [a1] at z
  exact z
theorem js_setLc {i : Nat} {y : Str} {py spos : Pos} {elt : Expr} {ifs : List Expr} {scope : Scope} {own : List (Str × Nat)} {vs : List Nat} (hc : X.calm = true) (hN : X.N.Nodup) (hi : JI X T E tg iter h) (ok : BlkOk X.N X.env.scope scope own) (hv : own.map (·.2) = vs)
    (hg : ∀ (s : Shared) (H : Hp) (C : Addr) (cl : List (Str × Addr)) (fp : List Addr), JGc (X.blk s H scope (compEnvC scope cl C X.env) fp) T vs tg g)
    (ht : ∀ (s : Shared) (H : Hp) (C : Addr) (cl : List (Str × Addr)) (fp : List Addr), PTs (X.blk s H scope (compEnvC scope cl C X.env) fp) ifs (tT (ct X T) noE t))
    (he : ∀ (s : Shared) (H : Hp) (C : Addr) (cl : List (Str × Addr)) (fp : List Addr), JE (X.blk s H scope (compEnvC scope cl C X.env) fp) T noE elt f)
    (hsw : swapsWith (.ListComp elt [⟨tg, iter, ifs, 0⟩] scope pos) (some (.Name y py)) spos.line X.env = pure true) (hy : X.N[i]? = some y := by rfl) (hyl : X.env.scope.names.lookup y = some .local := by rfl) (hs : ∀ x, foldedSetIterable iter X.env x = pure x := by intro _; rfl) :
    JS X T E (.Assign [.Name y py] (.ListComp elt [⟨tg, iter, ifs, 0⟩] scope pos) spos) (sAsg i (eLc h g t f vs)) := by
  subst hv
  exact ps_weak (ps_setLc hc hN hy hyl hsw hi ok hg ht he hs) fun D σ H q => lc_sem (asg_sem q)
/-- a text's signs, or what iterW walks -/
def iAny (f : ME) : MI := fun d S => (f d S).bind fun w S1 => match w with
  | .str x => .ok (signW x, []) (S1.take S.length)
  | w => iterW S.length w S1
theorem ji_any (he : JE X T E e f) : JI X T E tg e (iAny f) := pi_weak (pi_or2 (ji_exp he) (ji_sgn he)) fun σ H R ⟨G, S, d, ee, s, env, q⟩ => by
  by_cases dd : ∃ x S1, f d S = .ok (.str x) S1
  · obtain ⟨x, S1, z⟩ := dd
    refine .inr ⟨G, S, d, ee, s, env, ?_⟩
    unfold iAny at q
    unfold iSgn
    rw [z] at q ⊢
    exact q
  · refine .inl ⟨G, S, d, ee, s, env, ?_⟩
    unfold iAny at q
    unfold iExp
    cases z : f d S with
    | ok w S1 =>
      rw [z] at q
      cases w with
      | str x => exact absurd ⟨x, S1, z⟩ dd
      | _ => exact q
    | exc x S1 => rw [z] at q; exact q
    | bad => rw [z] at q; exact q
end
end PM
namespace PM
open PySem PySem.Spec L2 RZ
open PyProof.Rows (envOfC AllBare)
/-! ### defs and their calls -/
abbrev MF := List W → Store → Res W
def spW (C : Ct) (n : Nat) (m : MF) : Sp := fun vs H Q E => ∃ G S ws, H = G.H ∧ Sim C G S ∧ RepL C G S.length vs ws ∧ ws.length = n ∧ Post C E G S.length (m ws S) (VQ C Q)
def noM : MF := fun _ _ => .bad
def runF (N : Nat) (b : MS) : MF := fun ws S => match b (ws.map some ++ List.replicate (N - ws.length) none) S with
  | .ret w S' => .ok (retW S.length w S').1 (retW S.length w S').2
  | .next _ S' => .ok .non (S'.take S.length)
  | .exc x S' => .exc x (S'.take S.length)
  | _ => .bad
abbrev FkW (P : Program) (w : World) (K : PySem.W.Frag) (mg : Str → Option Value) (base : Heap) (T : List (Addr × Str)) (k : Nat) (f : Addr) (fd : FuncData) (ps : List Str) (m : MF) : Prop := FnOk P w K mg base (L2.CX P w) k f fd ps (spW ⟨K, mg, T⟩ ps.length m)
section
variable {P : Program} {w : World} {K : PySem.W.Frag} {mg : Str → Option Value} {base : Heap} {T : List (Addr × Str)} {x qual : Str} {st : Stmt} {f : Addr} {fd : FuncData} {N ps : List Str} {k : Nat}
theorem spw_len {C : Ct} {n : Nat} {m : MF} (hn : ps.length = n) : ∀ vs H Q E, spW C n m vs H Q E → vs.length = ps.length := fun vs H Q E ⟨G, S, ws, _, _, r, l, _⟩ => by
  rw [hn, ← l]
  exact (repL_iff.mp r).length
theorem fn_none {m : MF} (hm : m = noM) : FkW P w K mg base T k f fd ps m := by
  subst hm
  exact ⟨spw_len rfl, fun A outer s H args us vs Q E _ _ _ _ ⟨G, S, ws, _, _, _, _, h⟩ => h.elim⟩
theorem env_start {C : Ct} {G : Gh} {m : Nat} {vs : List V} {ws : List W} (r : RepL C G m vs ws) (n : Nat) : EnvOk C G m (vs.map some ++ List.replicate n none) (ws.map some ++ List.replicate n none) := by
  refine p_append ?_ ?_
  · have p := repL_iff.mp r
    induction p with
    | nil => exact .nil
    | cons a t ih => exact .cons (fun w e => ⟨_, rfl, by cases e; exact a⟩) (ih (repL_iff.mpr t))
  · induction n with
    | zero => exact .nil
    | succ n ih => exact .cons (fun w e => by cases e) ih
theorem fn_ok {b : MS} (F : Fun K x qual st f fd) (S : FnScope N ps (defScope st)) (hbody : ∀ (cdv : Value) (A : Around) (outer : List Env) (s : Shared) (H : Hp) (E : XK), Room k (A.deeper (envOfC qual (defScope st) s.heap.objs.size f cdv)) →
    JSs (cxOf (L2.CX P w) P w K mg base N qual (defScope st) f cdv A outer s H E) T E (defBody st) b) : FkW P w K mg base T (k + 1) f fd ps (runF N.length b) := by
  refine F.okX S (spw_len rfl) fun cdv A outer s H vs Q E hr ⟨G, S0, ws, e, sim, r, l, h⟩ => ⟨_, hbody cdv A outer s H E hr, G, S0, ws.map some ++ List.replicate (N.length - ws.length) none, e, sim, ?_, ?_⟩
  · have hl : vs.length = ws.length := (repL_iff.mp r).length
    unfold L2.start
    rw [hl]
    exact env_start r _
  · unfold runF at h
    cases z : b (ws.map some ++ List.replicate (N.length - ws.length) none) S0 with
    | ret w S1 =>
      rw [z] at h
      intro G1 v ev s1 r1
      obtain ⟨G2, a1, a2, a3, a4⟩ := ret_ok ev s1 r1
      have q := h G2 a2 a3 v a4
      rw [a1] at q
      exact q
    | next d S1 =>
      rw [z] at h
      intro G1 σ1 ev s1 env1
      exact h G1 (by rw [take_len S1 ev.le]; exact ev_less ev) (sim_take s1 _) .non mk_non
    | exc y S1 =>
      rw [z] at h
      intro G1 A1 d ev s1 hm hx
      exact h G1 A1 d (by rw [take_len S1 ev.le]; exact ev_less ev) (sim_take s1 _) hm hx
    | brk d S1 => rw [z] at h; exact h.elim
    | cont d S1 => rw [z] at h; exact h.elim
    | bad => rw [z] at h; exact h.elim
end
def eFn (n : Nat) (m : MF) (fs : MA) : ME := fun d S => (fs d S).bind fun ws S1 => if ws.length = n then m ws S1 else .bad
section
variable {X : Cx} {T : List (Addr × Str)} {E : XK} {e c o tg iter : Expr} {es : List Expr} {f : ME} {h : MI} {g : MG} {fs : MA} {pos pos' p : Pos} {C : Ct} {st : Stmt} {sts : List Stmt} {a b : MS} {t : MT} {D : Ends} {G G1 : Gh} {m : MF} {k : Nat} {S S1 : Store} {d : Env1} {x : Str} {fa : Addr} {fd : FuncData} {ps : List Str}
theorem je_call {n : Nat} (F : FkW X.prog X.w X.K X.mg X.base T k fa fd ps m) (hr : Room k X.A) (hx : Passes (L2.CX X.prog X.w) X E) (hm : X.mg x = some (.ref fa)) (hk : PySem.W.keepIn X.K (.ref fa) = true) (hb : Binds X.K fd ps []) (ha : JA X T E (e :: es) fs) 
    (hg : Gl X x) (hn : ps.length = n := by rfl) (hdb : (x == ("__debug__" : Str)) = false := by decide) (he : starEach (e :: es) X.env = (false, eval e X.env) :: starEach es X.env := by rfl) (hpl : (backTo pos (starEach es X.env)).any (·.1) = false := by rfl) :
    JE X T E (.Call (.Name x p) (e :: es) [] pos) (eFn n m fs) :=
  pe_weak (pe_call F hr hg hm hk hb (.nil : Vals [] []) hx ha hdb he hpl) fun σ H Q ⟨G, S, d, ee, s, env, q⟩ => ⟨G, S, d, ee, s, env, post_mono (post_bind q) fun G1 ws S1 e1 s1 h1 vs r => by
    by_cases z : ws.length = n
    · rw [if_pos z] at h1
      rw [List.append_nil]
      exact ⟨G1, S1, ws, rfl, s1, r, z.trans hn.symm, h1⟩
    · rw [if_neg z] at h1; exact h1.elim⟩
theorem je_call0 (F : FkW X.prog X.w X.K X.mg X.base T k fa fd [] m) (hr : Room k X.A) (hx : Passes (L2.CX X.prog X.w) X E) (hm : X.mg x = some (.ref fa)) (hk : PySem.W.keepIn X.K (.ref fa) = true) (hb : Binds X.K fd [] [])
    (hg : Gl X x) (hdb : (x == ("__debug__" : Str)) = false := by decide) : JE X T E (.Call (.Name x p) [] [] pos) (fun _ S => m [] S) :=
  pe_weak (pe_call0 F hr hg hm hk hb (.nil : Vals [] []) hx hdb) fun σ H Q ⟨G, S, d, ee, s, env, q⟩ => ⟨G, S, [], ee, s, by simp [RepL], rfl, q⟩
/-! ### own exceptions without arguments: C(), the __init__ leaves no field -/
/-- what such an __init__ promises -/
def spI (K : PySem.W.Frag) : Sp := fun vs H Q _ => ∃ a A : Addr, vs = [.ref a] ∧ OexC K A ∧ H a = some (exo a A none) ∧ Q .non H
theorem let_go {pins : List (Addr × Obj)} {σ : L2.St} {H₁ H₂ : Hp} {hA hB hC : Heap} {ga gb : Array GenState} {da db : Drawn} {ta tb : Nat} {oa ob : OsState} {a A : Addr} (I₁ : Inv X pins σ H₁ ⟨hA, ga, da, ta, oa⟩)
    (low : hA.objs.size ≤ a) (sub : ∀ b o, hA.get? b = some o → hB.get? b = some o) (un : Un (frs X.stack) [] (upd H₁ a (exo a A none)) H₂ hB hC) (hok : HOk X.prog X.w H₂ hC) (eo : ob = oa) (bare : AllBare gb) (ea : H₂ a = some (exo a A none)) :
    ∃ (t0 : Addr) (Gd : Heap), Inv X pins σ (del H₂ a) ⟨Gd, gb, db, tb, ob⟩ ∧ (∀ b o, Gd.get? b = some o → hC.get? b = some o) ∧ Gd.get? a = none ∧
      hC.get? a = some ({ cls := .ref A, dict := none, data := .fields #[.ref t0, .none, .none, .none, .bool false, .none] } : Obj) := by
  obtain ⟨t0, rec⟩ := exo_at hok ea
  have n0 : H₁ a = none := I₁.hok.fresh low
  obtain ⟨Gd, same, gone⟩ := restrict hC fun b => decide (b ≠ a)
  have keepG : ∀ b, b ≠ a → Gd.get? b = hC.get? b := fun b hb => same b (decide_eq_true hb)
  have goneA : Gd.get? a = none := gone a (by simp)
  have old : ∀ {b : Addr} {o : Obj}, hA.get? b = some o → b ≠ a := fun {b o} z => Nat.ne_of_lt (Nat.lt_of_lt_of_le (Heap.lt_size z) low)
  have still : ∀ {b : Addr}, b ≠ a → H₁ b = none → upd H₁ a (exo a A none) b = none := fun {b} hb n => (upd_ne hb).trans n
  have U : Un (frs X.stack) [] H₁ (del H₂ a) hA Gd := {
    keep := fun b o z n hf hx => (keepG b (old z)).trans (un.keep b o (sub b o z) (still (old z) n) hf hx)
    slot := fun b o z n hf hx => by
      obtain ⟨sl, y⟩ := un.slot b o (sub b o z) (still (old z) n) hf hx
      exact ⟨sl, (keepG b (old z)).trans y⟩
    free := fun b o z n hx => (del_ne (old z)).trans (un.free b o (sub b o z) (still (old z) n) hx)
    there := fun b o z hx => by
      obtain ⟨o', y⟩ := un.there b o (sub b o z) hx
      exact ⟨o', (keepG b (old z)).trans y⟩
    tups := fun b xs z => (del_ne (ne_of_none z n0)).trans (un.tups b xs ((upd_ne (ne_of_none z n0)).trans z))
    frzs := fun b o v z => (del_ne (ne_of_none z n0)).trans (un.frzs b o v ((upd_ne (ne_of_none z n0)).trans z))
    tbls := fun b ps z => by
      obtain ⟨more, y⟩ := un.tbls b ps ((upd_ne (ne_of_none z n0)).trans z)
      exact ⟨more, (del_ne (ne_of_none z n0)).trans y⟩ }
  have hokG : HOk X.prog X.w (del H₂ a) Gd := fun b o z => by
    have hba : b ≠ a := fun e => by
      rw [e, del_same] at z
      cases z
    rw [del_ne hba] at z
    have noa : ∀ {c : Addr}, H₂ c = some (.own b) → c ≠ a := fun {c} hc => at_ne ea hc exo_own
    refine (hok b o z).stay (fun c v hc y => ?_) (fun c hc => (del_ne (noa hc)).trans hc) fun c xs hc => (del_ne (at_ne ea hc exo_tup)).trans hc
    have hca : c ≠ a := by
      rcases hc with hc | hc
      · rw [hc]; exact hba
      · exact noa hc
    exact (keepG c hca).trans y
  have J : Inv X pins σ (del H₂ a) ⟨Gd, gb, db, tb, ob⟩ := I₁.call' (ch := []) eo U hokG bare (fun b z => by cases z)
  refine ⟨t0, Gd, J, fun b o z => ?_, goneA, rec⟩
  by_cases hba : b = a
  · rw [hba, goneA] at z
    cases z
  · exact (keepG b hba).symm.trans z
theorem pmk_new {A fI : Addr} {fd : FuncData} (T0 : OexC X.K A) (iC : PySem.W.findIn X.K (.ref A) "__init__" = some (some (.ref fI))) (tI : PySem.W.typeIn X.K (.ref fI) = some (.type "function"))
    (F1 : FnOk X.prog X.w X.K X.mg X.base (L2.CX X.prog X.w) k fI fd ps (spI X.K)) (hr : Room (k + 1) X.A) (hb : Binds X.K fd ps []) (hx : Passes (L2.CX X.prog X.w) X noE) (hg : Gl X x) (hm : X.mg x = some (.ref A)) (hdb : (x == ("__debug__" : Str)) = false := by decide) :
    PMk X (.Call (.Name x p) [] [] pos) (fun _ H Q => ∀ a, H a = none → Q (.ref A) none (del (upd H a (exo a A none)) a)) := by
  intro pins s σ H Q I h
  obtain ⟨nm, q, N, bs, bm, sn, sub, ab, col, dd, k0, k1, k2, k3, k5, hC, hbm⟩ := T0.cls
  refine wpAny_Call_Name_kw (ld_glob I hg hm ?_ hdb)
  refine PySem.W.callWith_K0 I.kIn T0.kC ?_
  show wpAny _ _ (call (.ref A) []) _ _ _
  obtain ⟨hp, ga, dr, tk, os⟩ := s
  have hsz : hp.objs.size ≤ hp.objs.size + 1 := Nat.le_succ _
  have hn : H (hp.objs.size + 1) = none := I.hok.fresh hsz
  have grow : ∀ b o, hp.get? b = some o → ((hp.push (PySem.W.kdv_tup [])).push (PySem.HandSPX.excO A hp.objs.size)).get? b = some o := fun b o e => Heap.get?_push_of_some _ (Heap.get?_push_of_some _ e)
  have hget : ((hp.push (PySem.W.kdv_tup [])).push (PySem.HandSPX.excO A hp.objs.size)).get? (hp.objs.size + 1) = some (PySem.HandSPX.excO A hp.objs.size) := by heap_get
  have I2 : Inv X pins σ (upd H (hp.objs.size + 1) (exo (hp.objs.size + 1) A none)) ⟨(hp.push (PySem.W.kdv_tup [])).push (PySem.HandSPX.excO A hp.objs.size), ga, dr, tk, os⟩ :=
    I.laid (t' := tk) (a := hp.objs.size + 1) (o := exo (hp.objs.size + 1) A none) (h' := (hp.push (PySem.W.kdv_tup [])).push (PySem.HandSPX.excO A hp.objs.size)) grow hsz (exo_ok hget)
  have r2 : Vals [V.ref (hp.objs.size + 1)] [Value.ref (hp.objs.size + 1)] := .cons rfl .nil
  have promise : spI X.K [V.ref (hp.objs.size + 1)] (upd H (hp.objs.size + 1) (exo (hp.objs.size + 1) A none)) (fun v H2 => v = .non ∧ H2 = upd H (hp.objs.size + 1) (exo (hp.objs.size + 1) A none)) noE := ⟨_, A, rfl, T0, upd_same, rfl, rfl⟩
  have hl : ([Value.ref (hp.objs.size + 1)] ++ []).length = ps.length := by
    have e := F1.len _ _ _ _ promise
    exact e
  refine wpAny_call (PySem.HandSPX.call_own F.excBase_ValueError (fun Y => PySem.HandSPX.refsVE_contains Y bm hbm) (I.kIn _ _ hC) (PySem.W.looks_findIn I.kIn iC) (fun self => PySem.W.bind_fn I.kIn self tI) (Nat.zero_le _)
    (codeAny_mono (F1.run _ X.stack _ _ ⟨[Value.ref (hp.objs.size + 1)], []⟩ ([Value.ref (hp.objs.size + 1)] ++ []) [V.ref (hp.objs.size + 1)] (fun v H2 => v = .non ∧ H2 = upd H (hp.objs.size + 1) (exo (hp.objs.size + 1) A none)) noE (hr.make A [] []) (I2.env0.make A [] []) (hb _ [Value.ref (hp.objs.size + 1)] I2.kIn hl) r2 promise) fun r s' hq' => ?_))
  cases r with
  | error er => exact hx pins σ _ _ er s' I2 hq'
  | ok fl =>
    cases fl with
    | ret u =>
      obtain ⟨v, H2, os2, bare2, un2, hok2, rv, ev, eH⟩ := hq'
      subst ev eH
      obtain ⟨h2, g2, d2, t2, os'⟩ := s'
      obtain ⟨t0, Gd, J, kG, ge, hoe⟩ := let_go (tb := t2) (db := d2) I hsz grow un2 hok2 os2 bare2 upd_same
      exact ⟨rv, _, _, _, ⟨Gd, g2, d2, t2, os'⟩, _, .ref A, none, rfl, J, kG, ge, hoe, ⟨rfl, rfl⟩, rfl, rfl, del_same, rfl, bare2, raises_own T0.exC T0.tyC, h _ hn⟩
    | next => exact hq'.elim
    | brk => exact hq'.elim
    | cont => exact hq'.elim
/-- raise C() -/
def sRaise (x : Str) : MS := fun _ S => .exc ⟨x, []⟩ S
theorem del_upd {H : Hp} {a : Addr} {o : HO} (h : H a = none) : del (upd H a o) a = H := by
  funext b
  by_cases z : b = a
  · rw [z, del_same, h]
  · rw [del_ne z, upd_ne z]
theorem js_raise {A fI : Addr} {fd : FuncData} (hc : X.calm = true) (tk : Takes X (fun cls d _ H => E cls d H)) (T0 : OexC X.K A) (iC : PySem.W.findIn X.K (.ref A) "__init__" = some (some (.ref fI))) (tI : PySem.W.typeIn X.K (.ref fI) = some (.type "function"))
    (F1 : FnOk X.prog X.w X.K X.mg X.base (L2.CX X.prog X.w) k fI fd ps (spI X.K)) (hr : Room (k + 1) X.A) (hb : Binds X.K fd ps []) (hx : Passes (L2.CX X.prog X.w) X noE) (hg : Gl X x) (hm : X.mg x = some (.ref A)) (hdb : (x == ("__debug__" : Str)) = false := by decide) :
    JS X T E (.Raise (some (.Call (.Name x p) [] [] pos)) none pos') (sRaise x) :=
  ps_weak (ps_raise hc tk (pmk_new T0 iC tI F1 hr hb hx hg hm hdb)) fun D σ H ⟨G, S, d, e, s, env, q⟩ => by
    subst e
    intro a ha
    rw [del_upd ha]
    exact q G A none Ev.refl s hm (.inl ⟨rfl, rfl⟩)
end
end PM
/-! ### sorted: tuples, some of them without items -/
namespace PM
open PySem PySem.Calls PyProof.Rows PySem.W PySem.SeqAt
section
variable {prog : Program} {w : World} {A : Around} {E : Value → Shared → Prop} {s : Shared}
theorem tup_lt {l b : Addr} {its its' : Array Value} {e r : Nat → Bool} {Q : Value → Shared → Prop} (hl : s.heap.IsTuple l its) (hb : s.heap.IsTuple b its')
    (he : ∀ j (h1 : j < its.size) (h2 : j < its'.size), EqAt A.in1 s its[j] its'[j] (e j)) (hr : ∀ j (h1 : j < its.size) (h2 : j < its'.size), e j = false → RcLt A.in1 s its[j] its'[j] (r j))
    (h : Q (.bool (firstLt e r (decide (its.size < its'.size)) (List.range (min its.size its'.size)))) s) : wpAny (model prog w) A (call (.builtin "tuple.__lt__") [.ref l, .ref b]) Q E s := by
  obtain ⟨⟨c1, d1, x1, s1⟩, h1, h2, n1, h3⟩ := id hl
  obtain ⟨⟨c2, d2, x2, s2⟩, k1, k2, n2, k3⟩ := id hb
  dsimp only at h2 h3 k2 k3
  subst h2 h3 k2 k3
  exact call_meets PySem.F.slot_tuple_lt ⟨_, h1, rfl⟩ PySem.F.entry_tuple_lt (PySem.F.args_tuple_lt_2 _ _) (tuple_ltAt l b its its' n1 n2 d1 d2 s1 s2 e r) ⟨h1, k1, he, hr, h⟩
theorem one_tup {xs ys : List PyData} {a b : Value} {as bs : List Addr} {Q : Bool → Shared → Prop} (ra : Reads s.heap a (.tuple xs) as) (rb : Reads s.heap b (.tuple ys) bs) (h : alike (.tuple xs) (.tuple ys) = true)
    (hu : A.units + min (PyData.tuple xs).depth (PyData.tuple ys).depth < cLine) (hq : Q (dataLt (.tuple xs) (.tuple ys)) s) : wpAny (model prog w) A (oneLt' true a b) Q E s := by
  have al : alikeAll xs ys = true := by simpa [alike] using h
  cases ra with
  | @tuple l o vs n _ _ h1 h2 h3 h4 =>
    cases rb with
    | @tuple l' o' vs' n' _ _ k1 k2 k3 k4 =>
      have e1 : vs.size = xs.length := by simpa using PySem.SeqAt.ReadsAll.length _ _ _ h4
      have e2 : vs'.size = ys.length := by simpa using PySem.SeqAt.ReadsAll.length _ _ _ k4
      rw [dataLt_tuple, ← firstLt_toks xs ys al, ← e1, ← e2] at hq
      rw [oneLt'_eq]
      simp only [if_true]
      refine wpAny_bind (wpAny_cRoomFor (room_here hu) ?_)
      refine wpAny_bind (wpAny_callSpecialIfBound?_slot (T := "tuple") ⟨_, h1, h2⟩ PySem.F.slot_tuple_lt (tup_lt (e := pairEq xs ys) (r := fun j => dataLt (xs.getD j .none) (ys.getD j .none)) ⟨_, h1, h2, _, h3⟩ ⟨_, k1, k2, _, k3⟩ (fun j j1 j2 => ?_) (fun j j1 j2 hj => ?_) ?_))
      · have z := eqAt_alikeAll xs ys A.in1 s vs.toList vs'.toList _ _ h4 k4 al (room_in hu) j (by simpa using j1) (by simpa using j2)
        simpa using z
      · have z := rcLt_alikeAll xs ys A.in1 s vs.toList vs'.toList _ _ h4 k4 al (room_in hu) j (by simpa using j1) (by simpa using j2) hj
        simpa using z
      · exact wpAny_truthy_bool hq
theorem firsts_of : ∀ (vs : List Value) (ds : List (List PyData)) {Q : List (Option Value) → Shared → Prop}, EachIs (fun v d => ∃ as, Reads s.heap v (.tuple d) as) vs ds →
    (∀ fs : List (Option Value), EachIs (fun f d => f.isSome = !d.isEmpty) fs ds → Q fs s) → wpAny (model prog w) A (vs.mapM firstOfTuple') Q E s
  | _, _, Q, .nil, h => by rw [List.mapM_nil]; exact wpAny_pure (h [] .nil)
  | _, _, Q, .cons (a := v) (b := d) (as := vs) (bs := ds) ⟨as, r⟩ t, h => by
    cases r with
    | @tuple a o xs n _ _ ho hc hd hr =>
      have hl : xs.size = d.length := by simpa using PySem.SeqAt.ReadsAll.length _ _ _ hr
      rw [List.mapM_cons]
      refine wpAny_bind ?_
      rw [kas_first_eq]
      refine wpAny_bind (Looks.here (show Looks (model prog w) s.heap (typeOf (.ref a)) o.cls from (Looks.ld ho).andThen .now) ?_)
      rw [hc, if_neg (by decide)]
      refine wpAny_bind (listItems_at ho hd (wpAny_pure ?_))
      refine wpAny_bind (firsts_of vs ds (Q := fun bs s' => wpAny (model prog w) A (pure (xs[0]? :: bs)) Q E s') t fun fs hf => wpAny_pure (h _ (.cons ?_ hf)))
      cases d with
      | nil => rw [Array.getElem?_eq_none (i := 0) (by rw [hl]; exact Nat.le_refl _)]; rfl
      | cons d0 dr =>
        have z : 0 < xs.size := by rw [hl]; exact Nat.succ_pos _
        rw [Array.getElem?_eq_getElem z]
        rfl
theorem each_ex {α β : Type} {F : α → β → Prop} : ∀ {xs : List α} {ys : List β}, EachIs F xs ys → ∀ y ∈ ys, ∃ x ∈ xs, F x y
  | _, _, .nil, y, h => by cases h
  | _, _, .cons (a := a) p t, y, h => by
    rcases List.mem_cons.mp h with rfl | h
    · exact ⟨a, List.mem_cons_self .., p⟩
    · obtain ⟨x, h1, h2⟩ := each_ex t y h
      exact ⟨x, List.mem_cons_of_mem _ h1, h2⟩
/-- tuples of which one has no item -/
theorem sorts_empties {vs : List Value} {ds : List (List PyData)} (e : EachIs (fun v d => ∃ as, Reads s.heap v d as) vs (ds.map .tuple)) (hal : AllAlike (ds.map .tuple)) (hm : [] ∈ ds) (hu : ∀ d, d ∈ ds.map PyData.tuple → A.units + d.depth < cLine) :
    SortsAt prog w A s (dataKind s.heap (ds.map .tuple)) vs := by
  have e' : EachIs (fun v d => ∃ as, Reads s.heap v (.tuple d) as) vs ds := by
    clear hal hm hu
    induction ds generalizing vs with
    | nil => cases e; exact .nil
    | cons d ds ih =>
      have e : EachIs (fun v d => ∃ as, Reads s.heap v d as) vs (.tuple d :: ds.map .tuple) := e
      cases e with
      | cons p t => exact .cons p (ih t)
  have room : ∀ {d d' : PyData}, d ∈ ds.map PyData.tuple → A.units + min d.depth d'.depth < cLine := fun {d d'} hd => Nat.lt_of_le_of_lt (Nat.add_le_add_left (Nat.min_le_left _ _) _) (hu d hd)
  have lts : ∀ f : Bool, PyProof.Rows.H.LtAt prog w A s (dataKind s.heap (ds.map .tuple)) (if f then oneType' else general') := fun f E x y a b Q ha hb hq => by
    obtain ⟨d, as, hd, ra, rfl⟩ := dataKind_inv ha
    obtain ⟨d', as', hd', rb, rfl⟩ := dataKind_inv hb
    have hroom := room (d' := d') hd
    have hdd := hal d hd d' hd'
    obtain ⟨t, ht, rfl⟩ := List.mem_map.mp hd
    obtain ⟨t', ht', rfl⟩ := List.mem_map.mp hd'
    cases f with
    | true => exact one_tup ra rb hdd hroom hq
    | false => exact oneLt_alike (f := false) (fun z => by cases z) ra rb hdd (fun z => by cases z) hroom hq
  refine ⟨fun v hv => ?_, ?_⟩
  · obtain ⟨d, hd, as, r⟩ := e.left v hv
    exact ⟨_, dataKind_some hal hd r⟩
  cases ds with
  | nil => cases hm
  | cons d0 dr =>
    refine ⟨if d0.isEmpty then oneType' else general', lts d0.isEmpty, fun h2 E Q hq => ?_⟩
    rw [keyKind'_eq, List.mapM_toArray, map_eq_pure_bind]
    refine wpAny_bind (wpAny_bind (firsts_of vs _ e' fun fs hf => wpAny_pure ?_))
    have nall : (fs.toArray.all fun x => x.isSome) = false := by
      obtain ⟨f, h1, h2⟩ := each_ex hf [] hm
      rw [Bool.eq_false_iff]
      intro z
      simp only [List.all_toArray, List.all_eq_true] at z
      have z2 := z f h1
      rw [h2] at z2
      cases z2
    rw [if_neg (by rw [nall]; exact Bool.false_ne_true)]
    cases hf with
    | @cons f _ fs _ p t =>
      have h0 : ((f :: fs).toArray[0]?.bind id) = f := by simp
      rw [h0, p]
      cases d0 with
      | cons x r => exact wpAny_pure hq
      | nil =>
        rw [if_neg (by decide)]
        obtain ⟨v1, vr, rfl⟩ : ∃ v1 vr, vs = v1 :: vr := by
          cases vs with
          | nil => exact absurd h2 (by decide)
          | cons v1 vr => exact ⟨v1, vr, rfl⟩
        rw [oneTypeOnly'_eq, List.mapM_toArray, map_eq_pure_bind]
        refine wpAny_bind (wpAny_bind (wpAny_bind (kas_mapM (r := Value.type "tuple") _ (fun v hv Q' hq' => ?_) (wpAny_pure ?_))))
        · obtain ⟨d, hd, as, r⟩ := e'.left v hv
          exact (looks_reads r).here hq'
        · have hall : ((List.map (fun _ => Value.type "tuple") (v1 :: vr)).toArray.all fun x => x == Value.type "tuple") = true := by
            simp only [List.all_toArray, List.all_map, List.all_eq_true]
            intro _ _
            exact beq_self_eq_true _
          have hf0 : (List.map (fun _ => Value.type "tuple") (v1 :: vr)).toArray[0]? = some (Value.type "tuple") := by simp
          rw [hf0]
          simp only [hall, if_true]
          exact wpAny_pure (wpAny_pure hq)
end
/-! ### an own sort, the same as mergeSort -/
def insB {α : Type} (le : α → α → Bool) (x : α) : List α → List α
  | [] => [x]
  | y :: ys => if le x y then x :: y :: ys else y :: insB le x ys
def isort {α : Type} (le : α → α → Bool) : List α → List α
  | [] => []
  | x :: xs => insB le x (isort le xs)
section
variable {α : Type} {le : α → α → Bool}
theorem ins_mem {x z : α} : ∀ {l : List α}, z ∈ insB le x l → z = x ∨ z ∈ l
  | [], h => by rw [insB, List.mem_singleton] at h; exact .inl h
  | y :: ys, h => by
    rw [insB] at h
    split at h
    · rcases List.mem_cons.mp h with h | h
      · exact .inl h
      · exact .inr h
    · rcases List.mem_cons.mp h with h | h
      · exact .inr (by rw [h]; exact List.mem_cons_self ..)
      · rcases ins_mem h with h | h
        · exact .inl h
        · exact .inr (List.mem_cons_of_mem _ h)
theorem ins_sorted (h : PySem.W.TotalLe le) {x : α} : ∀ {l : List α}, l.Pairwise (fun a b => le a b = true) → (insB le x l).Pairwise (fun a b => le a b = true)
  | [], _ => by rw [insB]; exact List.pairwise_singleton _ _
  | y :: ys, p => by
    rw [insB]
    have p' := List.pairwise_cons.mp p
    by_cases z : le x y = true
    · rw [if_pos z]
      refine List.pairwise_cons.mpr ⟨fun b hb => ?_, p⟩
      rcases List.mem_cons.mp hb with rfl | hb
      · exact z
      · exact h.trans _ _ _ z (p'.1 b hb)
    · rw [if_neg z]
      refine List.pairwise_cons.mpr ⟨fun b hb => ?_, ins_sorted h p'.2⟩
      rcases ins_mem hb with rfl | hb
      · exact (h.total _ _).resolve_left z
      · exact p'.1 b hb
theorem ins_filter (h : PySem.W.TotalLe le) {x c : α} : ∀ {l : List α}, l.Pairwise (fun a b => le a b = true) → (insB le x l).filter (PySem.W.sameRank le c) = (x :: l).filter (PySem.W.sameRank le c)
  | [], _ => by rw [insB]
  | y :: ys, p => by
    rw [insB]
    by_cases z : le x y = true
    · rw [if_pos z]
    · rw [if_neg z]
      have p' := List.pairwise_cons.mp p
      have ih := ins_filter h (x := x) (c := c) p'.2
      rw [List.filter_cons, ih]
      by_cases hx : PySem.W.sameRank le c x = true
      · have hy : ¬ PySem.W.sameRank le c y = true := fun hy => by
          unfold PySem.W.sameRank at hx hy
          rw [Bool.and_eq_true] at hx hy
          exact z (h.trans _ _ _ hx.2 hy.1)
        simp [hx, hy]
      · rw [List.filter_cons, if_neg hx, List.filter_cons, if_neg hx, List.filter_cons]
theorem isort_sorted (h : PySem.W.TotalLe le) : ∀ l : List α, (isort le l).Pairwise (fun a b => le a b = true)
  | [] => List.Pairwise.nil
  | x :: xs => ins_sorted h (isort_sorted h xs)
theorem isort_filter (h : PySem.W.TotalLe le) (c : α) : ∀ l : List α, (isort le l).filter (PySem.W.sameRank le c) = l.filter (PySem.W.sameRank le c)
  | [] => rfl
  | x :: xs => by
    show (insB le x (isort le xs)).filter _ = _
    rw [ins_filter h (isort_sorted h xs), List.filter_cons, List.filter_cons, isort_filter h c xs]
theorem isort_merge (h : PySem.W.TotalLe le) (l : List α) : isort le l = l.mergeSort le := PySem.W.sort_unique h (isort_sorted h l) fun c => isort_filter h c l
end
/-! ### values as data -/
mutual
def encW : W → PyData
  | .int i => .int i
  | .str x => .str x
  | .bl b => .bool b
  | .tup ws => .tuple (encL ws)
  | .tpz ws => .tuple (encL ws)
  | .twk ws => .tuple (encL ws)
  | _ => .none
def encL : List W → List PyData
  | [] => []
  | w :: ws => encW w :: encL ws
end
mutual
def datW : W → Bool
  | .int _ => true
  | .str _ => true
  | .bl _ => true
  | .tup ws => datL ws
  | .tpz ws => datL ws
  | .twk ws => datL ws
  | _ => false
def datL : List W → Bool
  | [] => true
  | w :: ws => datW w && datL ws
end
theorem encL_map : ∀ ws : List W, encL ws = ws.map encW
  | [] => rfl
  | w :: ws => by rw [encL, encL_map ws]; rfl
section
open L2
variable {X : Cx} {C : Ct} {G : Gh} {m : Nat} {pins : List (Addr × Obj)} {σ : L2.St} {s : Shared}
theorem tup_at {a : Addr} {xs : List V} (I : L2.Inv X pins σ G.H s) (h : SqT X.K G.H a xs) : ∃ (o : Obj) (us : List Value) (n : Nat), s.heap.get? a = some o ∧ o.cls = .type "tuple" ∧ o.data = .seq us.toArray n ∧ L2.Vals xs us := by
  obtain ⟨its, rv, p, hz⟩ := I.tuple h
  obtain ⟨o, h1, h2, n, h3⟩ := p
  exact ⟨o, its, n, h1, h2, by simpa using h3, rv⟩
mutual
theorem reads_of (I : L2.Inv X pins σ G.H s) : ∀ (w : W) (v : V) (u : Value), Rep C G m v w → RelV v u → datW w = true → ∃ as, PySem.Reads s.heap u (encW w) as
  | .int i, v, u, r, q, _ => by
    cases rep_int r
    obtain ⟨t, rfl⟩ := q
    exact ⟨_, by rw [encW]; exact .int i t⟩
  | .str x, v, u, r, q, _ => by
    cases rep_str r
    obtain ⟨t, rfl⟩ := q
    exact ⟨_, by rw [encW]; exact .str x t⟩
  | .bl b, v, u, r, q, _ => by
    cases rep_bl r
    obtain rfl : u = .bool b := q
    exact ⟨_, by rw [encW]; exact .bool b⟩
  | .tup ws, v, u, r, q, d => by
    rw [Rep] at r
    obtain ⟨a, xs, rfl, h1, h2⟩ := r
    obtain rfl : u = .ref a := q
    rw [datW] at d
    obtain ⟨o, us, n, e1, e2, e3, rv⟩ := tup_at (X := X) I (h1.sq _)
    obtain ⟨as, ra⟩ := readsL_of I ws xs us h2 rv d
    exact ⟨as, by rw [encW]; exact .tuple e1 e2 e3 (by simpa using ra)⟩
  | .twk ws, v, u, r, q, d => by
    rw [Rep] at r
    obtain ⟨a, xs, rfl, h1, h2⟩ := r
    obtain rfl : u = .ref a := q
    rw [datW] at d
    obtain ⟨o, us, n, e1, e2, e3, rv⟩ := tup_at (X := X) I (h1.sq _)
    obtain ⟨as, ra⟩ := readsL_of I ws xs us h2 rv d
    exact ⟨as, by rw [encW]; exact .tuple e1 e2 e3 (by simpa using ra)⟩
  | .tpz ws, v, u, r, q, d => by
    rw [Rep] at r
    obtain ⟨a, xs, rfl, h1, h2⟩ := r
    obtain rfl : u = .ref a := q
    rw [datW] at d
    obtain ⟨o, us, n, e1, e2, e3, rv⟩ := tup_at (X := X) I (h1.sq _)
    obtain ⟨as, ra⟩ := readsL_of I ws xs us h2.up rv d
    exact ⟨as, by rw [encW]; exact .tuple e1 e2 e3 (by simpa using ra)⟩
  | .non, _, _, _, _, d => by simp [datW] at d
  | .arr _, _, _, _, _, d => by simp [datW] at d
  | .loc _, _, _, _, _, d => by simp [datW] at d
  | .fn _, _, _, _, _, d => by simp [datW] at d
  | .scr _, _, _, _, _, d => by simp [datW] at d
theorem readsL_of (I : L2.Inv X pins σ G.H s) : ∀ (ws : List W) (vs : List V) (us : List Value), RepL C G m vs ws → L2.Vals vs us → datL ws = true → ∃ as, PySem.ReadsAll s.heap us (encL ws) as
  | [], [], _, _, q, _ => by cases q; exact ⟨[], .nil⟩
  | w :: ws, v :: vs, _, r, q, d => by
    cases q with
    | cons q1 q2 =>
      rw [RepL] at r
      rw [datL, Bool.and_eq_true] at d
      obtain ⟨as, h1⟩ := reads_of I w v _ r.1 q1 d.1
      obtain ⟨bs, h2⟩ := readsL_of I ws vs _ r.2 q2 d.2
      exact ⟨_, .cons h1 h2⟩
  | [], _ :: _, _, r, _, _ => by simp [RepL] at r
  | _ :: _, [], _, r, _, _ => by simp [RepL] at r
end
end
end PM
namespace PM
open PySem PySem.Spec L2
open PySem.W (dataLe EachIs AllAlike Sortable SortsAt sortVals dataKind)
/-! ### sorted(xs) of data -/
def leW : W → W → Bool := dataLe false encW
def okS (ws : List W) : Bool := datL ws && (ws.all fun a => ws.all fun b => PySem.W.alike (encW a) (encW b)) && (ws.all fun a => decide ((encW a).depth ≤ 60)) && decide (ws.length ≤ LN)
def sortW (w : W) (S : Store) : Res W := match lstOf S w with
  | some ws => if okS ws then .ok (.loc S.length) (S ++ [.lst (isort leW ws)]) else .bad
  | none => .bad
def rSrt (C : Ct) : List V → Hp → VK → Prop := fun vs H Q => ∃ (G : Gh) (S : Store) (v : V) (w : W) (ws : List W), H = G.H ∧ Sim C G S ∧ vs = [v] ∧ Rep C G S.length v w ∧ lstOf S w = some ws ∧ okS ws = true ∧
  ∀ p ys, H p = none → Paired (Rep C G 0) ys (isort leW ws) → ys.length ≤ sizeLine → Q (.ref p) (upd H p (.lst ys))
theorem total_leW : PySem.W.TotalLe leW := PySem.W.sortLe_total (PyProof.Rows.listOrd PyProof.Rows.itemOrd) false fun b => PySem.W.keyToks (encW b)
theorem datL_mem : ∀ {ws : List W}, datL ws = true → ∀ w ∈ ws, datW w = true
  | [], _, w, h => by cases h
  | a :: ws, d, w, h => by
    rw [datL, Bool.and_eq_true] at d
    rcases List.mem_cons.mp h with rfl | h
    · exact d.1
    · exact datL_mem d.2 w h
theorem dat_non {w : W} (h : datW w = true) : encW w ≠ .none := by
  cases w <;> simp [datW] at h <;> rw [encW] <;> intro z <;> cases z
theorem enc_tup {w : W} (h : datW w = true) {xs : List PyData} (e : encW w = .tuple xs) : ∃ ws, datL ws = true ∧ xs = encL ws := by
  cases w <;> simp only [datW] at h <;> rw [encW] at e <;> cases e <;> exact ⟨_, h, rfl⟩
section
variable {prog : Program} {w : World} {A : Around} {E : Value → Shared → Prop} {s : Shared}
theorem sorts_any {vs : List Value} {ds : List PyData} (e : EachIs (fun v d => ∃ as, Reads s.heap v d as) vs ds) (hal : AllAlike ds) (nn : ∀ d ∈ ds, d ≠ .none) (hu : ∀ d, d ∈ ds → A.units + d.depth < cLine) : SortsAt prog w A s (dataKind s.heap ds) vs := by
  by_cases t : ∃ xs, PyData.tuple xs ∈ ds
  · obtain ⟨xs, hx⟩ := t
    have all : ∀ d ∈ ds, ∃ ys, d = .tuple ys := fun d hd => by
      have z := hal _ hx d hd
      cases d <;> first | exact ⟨_, rfl⟩ | exact absurd z (by simp [PySem.W.alike])
    by_cases em : PyData.tuple [] ∈ ds
    · -- all tuples
      have key : ∀ ds : List PyData, (∀ d ∈ ds, ∃ ys, d = PyData.tuple ys) → ∃ ts : List (List PyData), ds = ts.map .tuple := by
        intro ds
        induction ds with
        | nil => intro _; exact ⟨[], rfl⟩
        | cons d ds ih =>
          intro h
          obtain ⟨ys, rfl⟩ := h d (List.mem_cons_self ..)
          obtain ⟨ts, e⟩ := ih fun d hd => h d (List.mem_cons_of_mem _ hd)
          exact ⟨ys :: ts, by rw [e]; rfl⟩
      obtain ⟨ts, rfl⟩ := key ds all
      refine sorts_empties e hal ?_ hu
      obtain ⟨y, hy, e⟩ := List.mem_map.mp em
      cases e
      exact hy
    · refine SortsAt.data e hal (.inl fun d hd => ?_) hu
      obtain ⟨ys, rfl⟩ := all d hd
      cases ys with
      | nil => exact absurd hd em
      | cons y r => exact ⟨y, r, rfl⟩
  · exact SortsAt.data e hal (.inr fun d hd => ⟨nn d hd, fun xs z => t ⟨xs, by rw [← z]; exact hd⟩⟩) hu
end
theorem sort_each {α : Type} {le : α → α → Bool} (f : α → W) (h : ∀ a b, le a b = leW (f a) (f b)) (l : List α) : (l.mergeSort le).map f = isort leW (l.map f) := by
  rw [isort_merge total_leW]
  exact PySem.W.sort_maps f fun a _ b _ => h a b
theorem vals_each {xs : List V} {us : List Value} {ws : List W} (q : L2.Vals xs us) (hl : xs.length = ws.length) : EachIs (fun (u : Value) (b : V × W) => RelV b.1 u) us (xs.zip ws) := by
  induction q generalizing ws with
  | nil =>
    cases ws with
    | nil => exact .nil
    | cons _ _ => cases hl
  | cons p t ih =>
    cases ws with
    | nil => cases hl
    | cons w ws => exact .cons p (ih (Nat.succ.inj hl))
theorem each_vals : ∀ {us : List Value} {bs : List (V × W)}, EachIs (fun (u : Value) (b : V × W) => RelV b.1 u) us bs → L2.Vals (bs.map Prod.fst) us
  | _, _, .nil => .nil
  | _, _, .cons p t => .cons p (each_vals t)
theorem zip_pairs {F : V → W → Prop} : ∀ {xs : List V} {ws : List W}, Paired F xs ws → ∀ b ∈ xs.zip ws, F b.1 b.2
  | _, _, .nil, b, h => by cases h
  | _, _, .cons p t, b, h => by
    rcases List.mem_cons.mp h with rfl | h
    · exact p
    · exact zip_pairs t b h
theorem pairs_map {F : V → W → Prop} : ∀ {bs : List (V × W)}, (∀ b ∈ bs, F b.1 b.2) → Paired F (bs.map Prod.fst) (bs.map Prod.snd)
  | [], _ => .nil
  | b :: bs, h => .cons (h b (List.mem_cons_self ..)) (pairs_map fun c hc => h c (List.mem_cons_of_mem _ hc))
theorem cr_srt {X : Cx} {T : List (Addr × Str)} (hu : X.A.units + 64 < cLine) : CallR X (.builtin "sorted") (rSrt (ct X T)) := by
  intro pins s σ H vs us Q I r h
  obtain ⟨G, S, v, w, ws, rfl, sim, rfl, rw_, hl, ok, q⟩ := h
  obtain ⟨a, xs, rfl, hH, hp⟩ := rep_lst sim rw_ hl
  obtain ⟨its, rv, lst, hz⟩ := I.list (.inl (.inl hH))
  rw [Vals.ref1 r]
  unfold okS at ok
  simp only [Bool.and_eq_true, List.all_eq_true, decide_eq_true_eq] at ok
  obtain ⟨⟨⟨ok1, ok2⟩, ok3⟩, ok4⟩ := ok
  have hlen : xs.length = ws.length := hp.length
  have hR := vals_each rv hlen
  have hmem : ∀ b ∈ xs.zip ws, Rep (ct X T) G 0 b.1 b.2 ∧ b.2 ∈ ws := fun b hb => ⟨zip_pairs hp b hb, (List.of_mem_zip hb).2⟩
  have er : ∀ h' : Heap, (∀ b o, s.heap.get? b = some o → h'.get? b = some o) → EachIs (fun (u : Value) (b : V × W) => ∃ as, Reads h' u (encW b.2) as) its (xs.zip ws) := fun h' k =>
    (PySem.W.each_mem hR).mono fun u b ⟨e1, e2⟩ => by
      obtain ⟨e3, e4⟩ := hmem b e2
      obtain ⟨as, z⟩ := reads_of I b.2 b.1 u e3 e1 (datL_mem ok1 _ e4)
      exact ⟨as, PyProof.Rows.Reads.keeps k z⟩
  have hal : AllAlike ((xs.zip ws).map fun b => encW b.2) := by
    intro d hd d' hd'
    obtain ⟨b, hb, rfl⟩ := List.mem_map.mp hd
    obtain ⟨b', hb', rfl⟩ := List.mem_map.mp hd'
    exact ok2 _ (hmem b hb).2 _ (hmem b' hb').2
  have er' := er (PySem.W.sortingHeap (PySem.W.copyHeap s.heap its) (s.heap.objs.size + 1) its) fun _ _ => PySem.W.sorting_copy_old
  have sa : SortsAt X.prog X.w X.A.in1.in1 { s with heap := PySem.W.sortingHeap (PySem.W.copyHeap s.heap its) (s.heap.objs.size + 1) its } (dataKind (PySem.W.sortingHeap (PySem.W.copyHeap s.heap its) (s.heap.objs.size + 1) its) ((xs.zip ws).map fun b => encW b.2)) its := by
    refine sorts_any (PySem.W.each_map (fun b : V × W => encW b.2) er') hal (fun d hd => ?_) fun d hd => ?_
    · obtain ⟨b, hb, rfl⟩ := List.mem_map.mp hd
      exact dat_non (datL_mem ok1 _ (hmem b hb).2)
    · obtain ⟨b, hb, rfl⟩ := List.mem_map.mp hd
      have := ok3 _ (hmem b hb).2
      show X.A.units + 1 + 1 + _ < cLine
      omega
  have hls : its.length = xs.length := rv.length.symm
  refine PySem.W.sorted_vals lst.isList sa (by rw [hls]; exact hz) ?_
  have out := PySem.W.sortVals_data (enc := fun b : V × W => encW b.2) false hR er' hal
  generalize sortVals (dataKind (PySem.W.sortingHeap (PySem.W.copyHeap s.heap its) (s.heap.objs.size + 1) its) ((xs.zip ws).map fun b => encW b.2)) false its its = res at out ⊢
  obtain ⟨ep, he'⟩ := PyProof.Rows.sortedAll_at s.heap its res.toArray
  generalize hB : (xs.zip ws).mergeSort (dataLe false fun b : V × W => encW b.2) = bs at out
  have perm : bs.Perm (xs.zip ws) := by rw [← hB]; exact List.mergeSort_perm _ _
  have hsnd : bs.map Prod.snd = isort leW ws := by
    rw [← hB, sort_each (le := dataLe false fun b : V × W => encW b.2) Prod.snd (fun _ _ => rfl), List.map_snd_zip (by omega)]
  have hys : Paired (Rep (ct X T) G 0) (bs.map Prod.fst) (isort leW ws) := by
    rw [← hsnd]
    exact pairs_map fun b hb => (hmem b (perm.mem_iff.mp hb)).1
  have rel := each_vals out
  have len : (bs.map Prod.fst).length ≤ sizeLine := by
    rw [List.length_map, perm.length_eq, List.length_zip]
    omega
  exact ⟨.ref _, upd G.H (s.heap.objs.size + 1) (.lst (bs.map Prod.fst)), I.laid (t' := s.toks) (fun _ _ => PyProof.Rows.sortedAll_old) (Nat.le_succ _) ⟨len, res, ep, rel, he'⟩, rfl, q _ _ (I.hok.fresh (Nat.le_succ _)) hys len⟩
theorem w_srt {C : Ct} {E : XK} : CallW C E (rSrt C) (on1 sortW) := w_on1 fun G S v w Q s r h => by
  unfold sortW at h
  cases z : lstOf S w with
  | none => rw [z] at h; exact h.elim
  | some ws =>
    rw [z] at h
    dsimp only at h
    by_cases ok : okS ws = true
    · rw [if_pos ok] at h
      refine ⟨G, S, v, w, ws, rfl, s, rfl, r, z, ok, fun p ys hp rp hl => ?_⟩
      have nf : ¬ G.fz p := fun z => by
        exact nt_none hp (s.fzH p z)
      have ev : Ev G S.length (G.addL S.length p (.lst ys)) (S.length + 1) := ev_addL hp
      have si := sim_addL (c := .lst (isort leW ws)) s hp nf (o := .lst ys) ⟨nf, ys, upd_same, repL_iff.mpr (Paired.mapP rp fun _ _ z => z.go0 ev)⟩
      have ls : (S ++ [Cell.lst (isort leW ws)]).length = S.length + 1 := by rw [List.length_append, List.length_singleton]
      have em : (G.addL S.length p (.lst ys)).mu S.length = p := if_pos rfl
      have q := h _ (by rw [ls]; exact ev) si (.ref ((G.addL S.length p (.lst ys)).mu S.length)) (mk_loc (by rw [ls]; exact Nat.lt_succ_self _))
      rw [em] at q
      exact q
    · rw [if_neg ok] at h; exact h.elim
/-! ### sorted(d) of a dict whose keys are texts -/
def strK : List (Key × W) → Option (List Str)
  | [] => some []
  | (.inr x, _) :: r => match strK r with
    | some xs => some (x :: xs)
    | none => none
  | _ :: _ => none
def sortK (w : W) (S : Store) : Res W := match w with
  | .loc n => match S[n]? with
    | some (.dK kvs) => match strK kvs with
      | some xs => if xs.length < 64 then .ok (.loc S.length) (S ++ [.lst (isort leW (xs.map .str))]) else .bad
      | none => .bad
    | _ => .bad
  | _ => .bad
theorem leW_str (a b : Str) : leW (.str a) (.str b) = !PySem.Spec.ltCps b.cps.toList a.cps.toList := by
  show (!PySem.W.dataLt (encW (.str b)) (encW (.str a))) = _
  rw [encW, encW, PySem.W.dataLt_str, PyProof.Rows.lt_meets]
theorem rising_pw : ∀ (r : List Str) (x : Str), PyProof.Rows.risingS x r = true → ((x :: r).map W.str).Pairwise (fun a b => leW a b = true)
  | [], x, _ => List.pairwise_singleton _ _
  | y :: r, x, h => by
    unfold PyProof.Rows.risingS at h
    rw [Bool.and_eq_true] at h
    have ih := rising_pw r y h.2
    have hxy : leW (.str x) (.str y) = true := by rw [leW_str]; exact h.1
    refine List.pairwise_cons.mpr ⟨fun b hb => ?_, ih⟩
    rcases List.mem_cons.mp hb with rfl | hb
    · exact hxy
    · exact total_leW.trans _ _ _ hxy ((List.pairwise_cons.mp ih).1 b hb)
theorem sorted_pw {l : List Str} (h : PyProof.Rows.sortedS l = true) : (l.map W.str).Pairwise (fun a b => leW a b = true) := by
  cases l with
  | nil => exact List.Pairwise.nil
  | cons x r => exact rising_pw r x h
theorem anti_str {a b : Str} (h1 : leW (.str a) (.str b) = true) (h2 : leW (.str b) (.str a) = true) : a = b := by
  rw [leW_str, ← PyProof.Rows.lt_meets, Bool.not_eq_true', decide_eq_false_iff_not] at h1 h2
  exact PySem.W.str_of_cps (List.le_antisymm (List.not_lt.mp h1) (List.not_lt.mp h2))
theorem rank_str (c : W) (l : List Str) : (l.map W.str).filter (PySem.W.sameRank leW c) = (l.map W.str).filter (PySem.W.sameRank leW c) := rfl
theorem perm_filter {ys ks : List Str} (h : ys.Perm ks) (c : W) : (ys.map W.str).filter (PySem.W.sameRank leW c) = (ks.map W.str).filter (PySem.W.sameRank leW c) := by
  have p : ((ys.map W.str).filter (PySem.W.sameRank leW c)).Perm ((ks.map W.str).filter (PySem.W.sameRank leW c)) := (h.map _).filter _
  -- all that is left is one text
  have one : ∀ a ∈ (ks.map W.str).filter (PySem.W.sameRank leW c), ∀ b ∈ (ks.map W.str).filter (PySem.W.sameRank leW c), a = b := fun a ha b hb => by
    obtain ⟨a1, a2⟩ := List.mem_filter.mp ha
    obtain ⟨b1, b2⟩ := List.mem_filter.mp hb
    unfold PySem.W.sameRank at a2 b2
    rw [Bool.and_eq_true] at a2 b2
    obtain ⟨x, _, rfl⟩ := List.mem_map.mp a1
    obtain ⟨y, _, rfl⟩ := List.mem_map.mp b1
    rw [anti_str (total_leW.trans _ _ _ a2.2 b2.1) (total_leW.trans _ _ _ b2.2 a2.1)]
  generalize (ks.map W.str).filter (PySem.W.sameRank leW c) = B at p one
  generalize (ys.map W.str).filter (PySem.W.sameRank leW c) = A at p
  have hl := p.length_eq
  have memA : ∀ a ∈ A, a ∈ B := fun a ha => p.mem_iff.mp ha
  clear p
  have key : ∀ (A B : List W), A.length = B.length → (∀ a ∈ A, ∀ b ∈ B, a = b) → A = B := by
    intro A
    induction A with
    | nil => intro B e _; cases B with
      | nil => rfl
      | cons _ _ => cases e
    | cons a A ih => intro B e m; cases B with
      | nil => cases e
      | cons b B =>
        rw [m a (List.mem_cons_self ..) b (List.mem_cons_self ..), ih B (Nat.succ.inj e) fun x hx y hy => m x (List.mem_cons_of_mem _ hx) y (List.mem_cons_of_mem _ hy)]
  exact key A B hl fun a ha b hb => one a (memA a ha) b hb
theorem strK_keys : ∀ {kvs : List (Key × W)} {xs : List Str}, strK kvs = some xs → kvs.map (·.1) = xs.map Sum.inr
  | [], xs, h => by cases h; rfl
  | (.inr x, w) :: r, xs, h => by
    unfold strK at h
    cases z : strK r with
    | none => rw [z] at h; cases h
    | some ys =>
      rw [z] at h
      cases h
      rw [List.map_cons, strK_keys z]
      rfl
  | (.inl i, w) :: r, xs, h => by unfold strK at h; cases h
theorem w_sortK {C : Ct} {E : XK} : CallW C E (fun xs H Q => ∃ (a : Addr) (kvs : List (Key × V)) (ks : List Str), xs = [.ref a] ∧ Rd H a (.dK kvs) ∧ kvs.map (·.1) = ks.map Sum.inr ∧ ks.length < 64 ∧
    ∀ ys p, ys.Perm ks → PyProof.Rows.sortedS ys = true → H p = none → Q (.ref p) (upd H p (.lst (ys.map V.str)))) (on1 sortK) := w_on1 fun G S v w Q s r h => by
  cases w with
  | loc n =>
    have h : Post C E G S.length (match S[n]? with
      | some (.dK kvs) => match strK kvs with
        | some xs => if xs.length < 64 then .ok (.loc S.length) (S ++ [.lst (isort leW (xs.map .str))]) else .bad
        | none => .bad
      | _ => .bad) (VQ C Q) := h
    obtain ⟨hn, rfl⟩ := rep_loc r
    cases q : S[n]? with
    | none => rw [q] at h; exact h.elim
    | some c =>
      rw [q] at h
      cases c with
      | dK kvs =>
        dsimp only at h
        cases q2 : strK kvs with
        | none => rw [q2] at h; exact h.elim
        | some ks =>
          rw [q2] at h
          dsimp only at h
          by_cases hz : ks.length < 64
          · rw [if_pos hz] at h
            obtain ⟨_, ys, hH, rk⟩ := s.cell n _ q
            have keys : ys.map (·.1) = kvs.map (·.1) := by
              clear q q2 h hH
              induction rk with
              | nil => rfl
              | cons p t ih => rw [List.map_cons, List.map_cons, ih, p.1]
            refine ⟨_, ys, ks, rfl, .inl hH, keys.trans (strK_keys q2), hz, fun zs p hp hs hn => ?_⟩
            have nf : ¬ G.fz p := fun z => by
              exact nt_none hn (s.fzH p z)
            have e : zs.map W.str = isort leW (ks.map W.str) := by
              rw [isort_merge total_leW]
              exact PySem.W.sort_unique total_leW (sorted_pw hs) (perm_filter hp)
            have rz : ∀ (l : List Str) (G' : Gh), RepL C G' 0 (l.map V.str) (l.map W.str) := fun l G' => by
              induction l with
              | nil => simp [RepL]
              | cons x l ih =>
                rw [List.map_cons, List.map_cons, RepL]
                exact ⟨mk_str, ih⟩
            have ev : Ev G S.length (G.addL S.length p (.lst (zs.map V.str))) (S.length + 1) := ev_addL hn
            have si := sim_addL (c := .lst (isort leW (ks.map .str))) s hn nf (o := .lst (zs.map V.str)) ⟨nf, _, upd_same, by rw [← e]; exact rz zs _⟩
            have ls : (S ++ [Cell.lst (isort leW (ks.map .str))]).length = S.length + 1 := by rw [List.length_append, List.length_singleton]
            have em : (G.addL S.length p (.lst (zs.map V.str))).mu S.length = p := if_pos rfl
            have fin := h _ (by rw [ls]; exact ev) si (.ref ((G.addL S.length p (.lst (zs.map V.str))).mu S.length)) (mk_loc (by rw [ls]; exact Nat.lt_succ_self _))
            rw [em] at fin
            exact fin
          · rw [if_neg hz] at h; exact h.elim
      | _ => exact h.elim
  | _ => exact h.elim
end PM
namespace PM
open PySem PySem.Spec L2
open PyProof.Rows (envOfC AllBare)
/-! ### list.count of flat items -/
def rCnt (K : PySem.W.Frag) : V → List V → Hp → VK → Prop := fun x xs H Q => ∃ (a : Addr) (ys : List V) (y : V), x = V.ref a ∧ xs = [y] ∧ SqL K H a ys ∧ flatV y = true ∧ ys.all flatV = true ∧ Q (.int ((ys.countP fun z => eqV z y : Nat) : Int)) H
theorem count_flat {y : V} : ∀ {ys : List V} {us : List Value}, L2.Vals ys us → ys.all flatV = true → us.countP (eqU y) = ys.countP fun z => eqV z y
  | _, _, .nil, _ => rfl
  | _, _, .cons p t, h => by
    rw [List.all_cons, Bool.and_eq_true] at h
    rw [List.countP_cons, List.countP_cons, count_flat t h.2, eqU_of p h.1]
theorem mt_cnt {X : Cx} : MtR X "list.count" (rCnt X.K) := by
  intro pins s σ H x xs v us Q I rx rxs h
  obtain ⟨a, ys, y, rfl, rfl, hs, fy, fys, q⟩ := h
  cases rx
  cases rxs with
  | cons ry rt =>
    rename_i uy ut
    cases rt
    obtain ⟨its, rv, ⟨⟨c0, d0, x0, s0⟩, n, e1, e2, e3, e4⟩, hl⟩ := I.list hs
    dsimp only at e2 e4
    subst e2 e4
    refine call_meets PySem.F.slot_list_count ⟨_, e1, rfl⟩ PySem.F.entry_list_count (PySem.F.args_list_count_2 _ _) (SeqAt.list_countAt a its.toArray n d0 s0 uy (eqU y)) ⟨e1, fun z hz => mem_eqAt ry fy rv fys z (by simpa using hz), ?_⟩
    refine ⟨.int ((ys.countP fun z => eqV z y : Nat) : Int), H, I.tok _, ⟨s.toks, ?_⟩, q⟩
    have e : its.toArray.toList.countP (eqU y) = ys.countP fun z => eqV z y := count_flat rv fys
    show Value.int ((its.toArray.toList.countP (eqU y) : Nat) : Int) s.toks = Value.int ((ys.countP fun z => eqV z y : Nat) : Int) s.toks
    rw [e]
/-! ### said(lambda: e) -/
/-- what the said def does with the lambda's end: on: the answers to exceptions without fields -/
def TTs (C : Ct) (on : Str → Option Str) : (XK → Hp → VK → Prop) → Hp → VK → Prop := fun tl H Q =>
  tl (fun cls d H' => ∃ (x : Str) (A : Addr) (w : Str), cls = .ref A ∧ d = none ∧ C.mg x = some (.ref A) ∧ on x = some w ∧ ∀ p q ys zs, H' p = none → upd H' p (.lst ys) q = none → Q (.str w) (upd (upd H' p (.lst ys)) q (.lst zs))) H fun _ H' => Q (.str "let") H'
def eSaid (on : Str → Option Str) (f : ME) : ME := fun d S => match f d S with
  | .ok _ S' => .ok (.str "let") (S'.take S.length)
  | .exc x S' => match x.fs with
    | [] => match on x.name with
      | some w => .ok (.str w) (S'.take S.length)
      | none => .bad
    | _ => .bad
  | .bad => .bad
section
variable {X : Cx} {T : List (Addr × Str)} {E : XK} {f : ME}
def Gh.at (G : Gh) (H : Hp) : Gh := ⟨G.mu, G.fz, H⟩
theorem nt_ext {H H1 : Hp} (e : LamX.ExtN H H1) {a : Addr} (h : Nt H a) : Nt H1 a := by
  obtain ⟨o, h1, h2⟩ := h
  exact ⟨o, e a o h1 h2, h2⟩
theorem ev_ext {G : Gh} {H1 : Hp} {m : Nat} (e : LamX.ExtN G.H H1) : Ev G m (G.at H1) m :=
  ⟨Nat.le_refl _, fun _ _ => rfl, fun _ h => h, fun a o h n _ => e a o h n, fun n h1 h2 => absurd h2 (Nat.not_lt.mpr h1), fun _ h => nt_ext e h, fun _ h => .inl h, fun a xs h => e a _ h fun _ z => by cases z⟩
theorem sim_ext {C : Ct} {G : Gh} {S : Store} {H1 : Hp} (s : Sim C G S) (e : LamX.ExtN G.H H1) (t : LamX.Tabs C.T H1) : Sim C (G.at H1) S := by
  refine ⟨fun n c h => (s.cell n c h).go (ev_ext (m := 0) e) ?_ Iff.rfl, s.inj, fun a h => nt_ext e (s.fzH a h), t⟩
  obtain ⟨o, h1, h2, _⟩ := (s.cell n c h).some
  exact (e _ o h1 h2).trans h1.symm
theorem said_sem {C : Ct} {on : Str → Option Str} {σ : L2.St} {H : Hp} {Q : VK} (q : tE C E (eSaid on f) σ H Q) : LamX.tLam C.T (TTs C on) (fun E' => tE C E' f) σ H Q := by
  obtain ⟨G, S, d, rfl, s, env, q⟩ := q
  refine ⟨s.tabs, fun H1 e t => ?_⟩
  have ev : Ev G S.length (G.at H1) S.length := ev_ext e
  have s1 := sim_ext s e t
  refine ⟨G.at H1, S, d, rfl, s1, env.go ev, ?_⟩
  have q : Post C E G S.length (match f d S with
    | .ok _ S' => .ok (.str "let") (S'.take S.length)
    | .exc x S' => match x.fs with
      | [] => match on x.name with
        | some w => .ok (.str w) (S'.take S.length)
        | none => .bad
      | _ => .bad
    | .bad => .bad) (VQ C Q) := q
  cases z : f d S with
  | ok w S' =>
    rw [z] at q
    intro G2 e2 s2 v r
    have l := take_len S' e2.le
    exact q G2 (by rw [l]; exact ev_less (ev.trans e2)) (sim_take s2 _) (.str "let") mk_str
  | bad => rw [z] at q; exact q.elim
  | exc x S' =>
    rw [z] at q
    dsimp only at q
    obtain ⟨xn, xf⟩ := x
    intro G2 A dd e2 s2 hm hx
    dsimp only at q hm hx
    cases xf with
    | cons _ _ => exact q.elim
    | nil =>
      dsimp only at q
      cases z2 : on xn with
      | none => rw [z2] at q; exact q.elim
      | some w =>
        rw [z2] at q
        rcases hx with ⟨_, hd⟩ | ⟨hd, _⟩
        · refine ⟨xn, A, w, rfl, hd, hm, z2, fun p r ys zs hp hr => ?_⟩
          have l := take_len S' e2.le
          have a1 : Ev G2 S.length (G2.addF p (.lst ys)) S.length := ev_addF hp
          have s3 := sim_addF (o := .lst ys) (sim_take s2 S.length) hp
          have a2 : Ev (G2.addF p (.lst ys)) S.length ((G2.addF p (.lst ys)).addF r (.lst zs)) S.length := ev_addF hr
          have s4 := sim_addF (o := .lst zs) s3 hr
          have b := ev_less (ev.trans e2)
          exact q _ (by rw [l]; exact (b.trans a1).trans a2) s4 (.str w) mk_str
        · exact absurd rfl hd
/-- x(lambda: body), x keeping TTs -/
theorem je_said {on : Str → Option Str} {x a : Str} {g c P : Addr} {k : Nat} {pg : Arguments} {bg : List Stmt} {sg : Scope} {dV kV doc pm cdv ctv oc : Value} {an od : Option Addr} {osl : Array (Option Value)} {Ng : List Str} {params : Arguments} {body : Expr} {scope : Scope} {p lpos pos : Pos}
    (hG : LamX.GivesTo X Ng x sg g cdv bg a (X.env.qual ++ "<lambda>") (TTs (ct X T) on)) (lk : X.K.lookup g = some ⟨oc, od, .func (PySem.W.fnOf x x pg bg sg dV kV doc pm an cdv ctv), osl⟩) (hcg : PySem.W.codeIn X.K cdv x = true) (hb : L2.Binds X.K (PySem.W.fnOf x x pg bg sg dV kV doc pm an cdv ctv) [a] [])
    (Sg : FnScope Ng [a] sg) (TB : LamX.TabB X.base X.mg c P) (hcode : X.env.code = .ref c) (hmT : (P, X.env.qual ++ "<lambda>") ∈ T) (hu : ∀ p ∈ T, p.1 = P → p.2 = X.env.qual ++ "<lambda>") (hr : Room (k + 2) X.A) (L : LamX.LamS X.env.scope scope)
    (hm : X.mg x = some (.ref g)) (hk : PySem.W.keepIn X.K (.ref g) = true) (hdef : defaultsOf params X.env = ([], [])) (hbind : ∀ (q : Str) (cl : List (Str × Addr)) (pm cv ctv : Value), bindArgs (PySem.W.kla_fn "<lambda>" q params body scope cl pm cv ctv) ⟨[], []⟩ = pure [])
    (hbody : ∀ (A : Around) (outer : List Env) (s : Shared) (H : Hp) (E' : XK) (fl c' : Addr), Room k (A.deeper (LamX.lamEnv X scope s.heap.objs.size fl c')) → JE (LamX.lamCx X A outer s H E' scope fl c') T E' body f)
    (hg : Gl X x) (hNg : Ng[0]? = some a) (hva : Vis sg a) (hdb : (x == ("__debug__" : Str)) = false) (hd : (a == ("__debug__" : Str)) = false) (hcd : (a == ("__classdict__" : Str)) = false) :
    JE X T E (.Call (.Name x p) [.Lambda params body scope lpos] [] pos) (eSaid on f) :=
  pe_weak (LamX.pe_lamcall (TT := TTs (ct X T) on) (t := fun E' => tE (ct X T) E' f) hg hm hk lk hcg hb Sg hNg hva hG TB hcode hmT hu hr L hdef hbind (fun A outer s H E' fl c' hr' => hbody A outer s H E' fl c' hr') hdb hd hcd) fun σ H Q q => said_sem q
end
end PM
/-! ### enumerate of a tuple -/
namespace PySem
open Sem (wp)
open AutoSeq1 (wpAny_loadPart')
theorem pm_enum_new (l : Addr) (its : Array Value) (n : Nat) (dc : Option Addr) (sl : Array (Option Value)) :
    Meets (Builtin.«enumerate.__new__» ⟨[.type "enumerate", .ref l], []⟩) (fun _ R s => s.heap.get? l = some { cls := .type "tuple", dict := dc, data := .seq its n, slots := sl } ∧
      R (.ok (.ret (.ref (s.heap.push { cls := .type "tuple_iterator", data := .fields #[.ref l, .int 0 0] }).objs.size)))
        { s with heap := (s.heap.push { cls := .type "tuple_iterator", data := .fields #[.ref l, .int 0 0] }).push { cls := .type "enumerate", data := .fields #[.none, .bool false, .ref s.heap.objs.size, rawInt 0, .none, .none] } }) :=
  .of_wp fun prog w A R s h => by
    obtain ⟨hp, ga, da, tk, os⟩ := s
    obtain ⟨hl, h⟩ := h
    have sub := sub_enumerate
    have isT : Heap.IsTuple (Shared.heap ⟨hp, ga, da, tk, os⟩) l its := ⟨_, hl, rfl, n, rfl⟩
    wp_walk using wpAny_loadPart' hl
    refine wpAny_stack_any fun st => wpAny_pure ?_
    split
    · rename_i c _ _ _ _ _
      cases (c == Value.type "enumerate")
      · wp_walk using wpAny_loadPart' hl, wpAny_pyIter_tuple isT
        exact ⟨_, rfl, h⟩
      · wp_walk using wpAny_loadPart' hl, wpAny_pyIter_tuple isT
        exact ⟨_, rfl, h⟩
    · wp_walk using wpAny_loadPart' hl, wpAny_pyIter_tuple isT
      exact ⟨_, rfl, h⟩
section
variable {prog : Program} {w : World} {A : Around} {E : Value → Shared → Prop} {s : Shared}
theorem pm_call_enum {l : Addr} {its : Array Value} {Q : Value → Shared → Prop} (isT : s.heap.IsTuple l its)
    (h : ∀ h', IsEnum h' (s.heap.objs.size + 1) s.heap.objs.size 0 .none → h'.IsTupleIter s.heap.objs.size l 0 → (∀ b o, s.heap.get? b = some o → h'.get? b = some o) → Q (.ref (s.heap.objs.size + 1)) { s with heap := h' }) :
    wpAny (model prog w) A (call (.type "enumerate") [.ref l]) Q E s := by
  obtain ⟨⟨c, dc, dt, sl⟩, hl, hc, n, hd⟩ := isT
  dsimp only at hc hd
  subst hc hd
  refine callType_new F.called_enumerate (by decide) (F.typeCall_enumerate_1 _) (F.newCall_enumerate_1 _) (fun obj => F.args_object_init_2 obj _) F.entry_enumerate_new (pm_enum_new l its n dc sl) ⟨hl, ?_⟩
  have hz : (s.heap.push { cls := .type "tuple_iterator", data := .fields #[.ref l, .int 0 0] }).objs.size = s.heap.objs.size + 1 := Heap.size_push ..
  show _ ∧ _
  rw [hz]
  have he := Heap.get?_push_size (s.heap.push { cls := .type "tuple_iterator", data := .fields #[.ref l, .int 0 0] }) (o := { cls := .type "enumerate", data := .fields #[.none, .bool false, .ref s.heap.objs.size, rawInt 0, .none, .none] }) rfl
  rw [hz] at he
  exact ⟨⟨_, he, rfl⟩, h _ he ⟨_, Heap.get?_push_of_some _ (Heap.get?_push_size _ rfl), rfl, rfl⟩ fun b o x => Heap.get?_push_of_some _ (Heap.get?_push_of_some _ x)⟩
end
end PySem
namespace PySem
section
variable {prog : Program} {w : World} {A : Around} {E : Value → Shared → Prop} {s : Shared}
theorem pm_enum_end {e it l : Addr} {i : Nat} {its : Array Value} {old : Value} {Q : Option Value → Shared → Prop} (calm : A.handled = none) (he : IsEnum s.heap e it i old) (hit : s.heap.IsTupleIter it l i) (hl : s.heap.IsTuple l its) (none_ : its[i]? = none)
    (hQ : ∀ h', Heap.ExtBut it s.heap h' → Q none { s with heap := h' }) : wpAny (model prog w) A (pyNext (.ref e)) Q E s := by
  have isE : s.TypeIs (.ref e) "enumerate" := ⟨_, he, rfl⟩
  unfold pyNext
  refine wpAny_bind (wpAny_attempt (wpAny_callSpecial?_slot (name := Str.ofString "__next__") isE F.slot_enumerate_next (wpAny_call_entry F.slot_enumerate_next isE F.entry_enumerate_next ?_ (F.args_enumerate_next_1 _))))
  show wpAny _ _ (field (.ref e) 2 >>= _) _ _ _
  refine wpAny_bind (wpAny_field he rfl (x := .ref it) rfl ?_)
  refine wpAny_bind (wpAny_nextOf_tuple_end (A := A.in1) calm hit hl none_ fun h' x ext stop => ?_)
  obtain ⟨o, ho, hc⟩ := stop
  exact wpAny_bind (wpAny_isInstance (T := "StopIteration") (b := true) ⟨o, ho, hc⟩ isSubtype_stop (wpAny_pure (hQ _ ext)))
end
end PySem
namespace PM
open PySem PySem.Spec L2 RZ PyProof.Rows
/-- the tuple at a, each item in a new pair -/
def IteT (K : PySem.W.Frag) (a : Addr) : It :=
  ⟨fun i H => ∃ (xs : List V) (x : V), SqT K H a xs ∧ xs[i]? = some x, fun i H v H' => ∃ T x, v = .ref T ∧ H T = none ∧ H' = upd H T (.tup [.int (i : Nat), x]) ∧ ∀ ys, SqT K H a ys → ys[i]? = some x, fun i H => ∃ xs : List V, SqT K H a xs ∧ xs.length ≤ i⟩
theorem turn_enT {P : Program} {w : World} {K : PySem.W.Frag} {elts : List Expr} {kk : Nat} {tpos : Pos} {a e it : Addr} (n1 : e ≠ it) (n2 : a ≠ it) (n3 : e ≠ a) :
    Turn P w K (.Tuple elts kk tpos) (IteT K a) [e, it] e (fun i h => (∃ old, IsEnum h e it ((i : Nat) : Int) old) ∧ h.IsTupleIter it a i) where
  mem := by simp
  obj := fun i h st b hb => by
    obtain ⟨⟨old, he⟩, o, ho, hc, hd⟩ := st
    have e' : b = e ∨ b = it := by simpa using hb
    rcases e' with z | z
    · subst z; exact ⟨_, he, fun v q => nomatch q⟩
    · subst z; exact ⟨o, ho, fun v q => by rw [hd] at q; cases q⟩
  keep := fun i h h' st k => by
    obtain ⟨⟨old, he⟩, hi⟩ := st
    exact ⟨⟨old, k e (by simp) _ he⟩, hi.at fun o q => k it (by simp) o q⟩
  item := by
    intro X hP hw hK hc i pins s σ H E I hf st hg
    subst hP hw hK
    obtain ⟨⟨old, he⟩, hit⟩ := st
    obtain ⟨xs, x, hq, hx⟩ := hg
    obtain ⟨its, rv, p, hz⟩ := I.tuple hq
    obtain ⟨u, hu, ru⟩ := rv.get hx
    have hlt : i < its.toArray.size := by
      rw [List.size_toArray]
      exact (List.getElem?_eq_some_iff.mp hu).1
    have hel : e < s.heap.objs.size := Heap.lt_size he
    have hil : it < s.heap.objs.size := by obtain ⟨_, q, _⟩ := hit; exact Heap.lt_size q
    refine wpAny_pyNext_enum_itemD (Draws.tuple (A := X.A.in1) (I.ok.hd hc) it a n2 its.toArray) he ⟨hit, p⟩ hlt n1 (by simp [n1, n3]) fun y h' tk hy ho hst hT hsz hk => ?_
    have ey : y = u := by
      rw [List.getElem?_toArray, hu] at hy
      exact (Option.some.inj hy).symm
    subst ey
    refine ⟨_, rfl, wpAny_letOwnedTupleGo_enum (s := { s with heap := h', toks := tk + 1 }) ho fun h'' he' sb => ?_⟩
    have hT2 : h''.get? s.heap.objs.size = some { cls := .type "tuple", data := .seq #[.int i tk, y] } := (sb.2 _ (Nat.ne_of_gt hel)).trans hT
    have new : ObjOk X.prog X.w (upd H s.heap.objs.size (.tup [.int (i : Nat), x])) h'' s.heap.objs.size (.tup [.int (i : Nat), x]) :=
      ⟨by show 2 ≤ sizeLine; decide, [.int i tk, y], .cons ⟨_, rfl⟩ (.cons ru .nil), ⟨_, hT2, rfl, _, rfl⟩⟩
    have I1 : Inv X pins σ (upd H s.heap.objs.size (.tup [.int (i : Nat), x])) { s with heap := h'', toks := tk + 1 } :=
      I.turnedNew (t' := tk + 1) (ch := [e, it]) (fun b ob hb q => (sb.2 b (fun z => hb (by simp [z]))).trans (hk b ob (fun z => hb (by simp [z])) (fun z => hb (by simp [z])) q)) hf (Nat.le_refl _) new
    refine ⟨.ref s.heap.objs.size, _, I1, rfl, ⟨_, x, rfl, I.hok.fresh (Nat.le_refl _), rfl, fun ys hy => ?_⟩, ⟨⟨y, ?_⟩, hst.1.at fun o q => (sb.2 it (Ne.symm n1)).trans q⟩, fun b hb => ?_⟩
    · rw [I.tuple_inj hy hq]; exact hx
    · have e1 : ((i + 1 : Nat) : Int) = (i : Int) + 1 := by omega
      rw [e1]; exact he'
    · have hb' : b < s.heap.objs.size := by
        have e' : b = e ∨ b = it := by simpa using hb
        rcases e' with z | z
        · subst z; exact hel
        · subst z; exact hil
      rw [upd_ne (Nat.ne_of_lt hb')]
      exact (hf b hb).1
  done := by
    intro X hP hw hK hc i pins s σ H E I hf st hg
    subst hP hw hK
    obtain ⟨⟨old, he⟩, hit⟩ := st
    obtain ⟨xs, hq, hx⟩ := hg
    obtain ⟨its, rv, p, hz⟩ := I.tuple hq
    obtain ⟨f0, f1, f2, f3, f4, f5⟩ := hf it (by simp)
    have hl := rv.length
    exact pm_enum_end (I.ok.hd hc) he hit p (by simp; omega) fun h' eb => ⟨rfl, I.turned (t' := s.toks) (fun b o hb q => eb b o hb q) f0 f1 f3 f4 f5⟩
  self := fun A i s Q E st h => by
    obtain ⟨⟨_, he⟩, _⟩ := st
    exact wpAny_pyIter_enum he h
def iEnT (K : PySem.W.Frag) (ta : TA) : TI := fun σ H R => ta σ H fun vs H1 => ∃ a xs, vs = [.ref a] ∧ SqT K H1 a xs ∧ R (IteT K a) H1
theorem pi_enT {X : Cx} {e : Expr} {ta : TA} {p pos tpos : Pos} {elts : List Expr} {kk : Nat} (hg : Gl X "enumerate") (hm : X.mg "enumerate" = none) (ha : PA X [e] ta) (hs : starEach [e] X.env = [(false, eval e X.env)] := by rfl) :
    PI X (.Tuple elts kk tpos) (.Call (.Name "enumerate" p) [e] [] pos) (iEnT X.K ta) := by
  refine ⟨fun pins s σ H R I h => ?_⟩
  refine Call_ (ld_blt I hg hm boot_enumerate (PyProof.Rows.callWith_type1 (thn (ha.run pos pins s σ H _ I h) fun us s1 ⟨vs, H1, I1, r1, q1⟩ => ?_) hs rfl))
  obtain ⟨a, xs, ex, hq, q⟩ := q1
  subst ex
  cases r1 with
  | cons r rr =>
    cases rr
    cases r
    obtain ⟨its, rv, isT, hz⟩ := I1.tuple hq
    have la : a < s1.heap.objs.size := by
      obtain ⟨o, e, _⟩ := isT
      exact Heap.lt_size e
    refine pm_call_enum (show s1.heap.IsTuple a its.toArray from isT) fun h' he hit hk => wpAny_pyIter_enum he ?_
    have I2 : Inv X pins σ H1 { s1 with heap := h' } := I1.kept (t' := s1.toks) hk
    refine ⟨s1.heap.objs.size + 1, [s1.heap.objs.size + 1, s1.heap.objs.size], _, _, H1, rfl, I2, turn_enT (a := a) (e := s1.heap.objs.size + 1) (it := s1.heap.objs.size) (Nat.succ_ne_self _) (Nat.ne_of_lt la) (Nat.ne_of_gt (Nat.lt_succ_of_lt la)), ⟨⟨.none, he⟩, hit⟩, fun b hb => ?_, q⟩
    have e' : b = s1.heap.objs.size + 1 ∨ b = s1.heap.objs.size := by simpa using hb
    have hle : s1.heap.objs.size ≤ b := by
      rcases e' with z | z
      · rw [z]; exact Nat.le_add_right _ _
      · rw [z]; exact Nat.le_refl _
    exact I1.fpOk hle (I1.hok.fresh hle)
section
variable {X : Cx} {T : List (Addr × Str)} {E : XK} {C : Ct} {fs : MA} {p pos tpos : Pos} {elts : List Expr} {kk : Nat}
theorem jok_enT {K : PySem.W.Frag} {G0 : Gh} {m0 : Nat} {a : Addr} {ws : List W} {gs : List (Nat × List W)} (h : JOk C G0 m0 (Itt K a) ws gs) : JOk C G0 m0 (IteT K a) (numW ws 0) gs := fun G S ev s hc => by
  obtain ⟨h1, h2⟩ := h G S ev s hc
  refine ⟨fun i w hw => ?_, fun i hi => h2 i (by rw [numW_len] at hi; exact hi)⟩
  obtain ⟨w0, hw0, rfl⟩ := numW_get hw
  obtain ⟨g1, g2⟩ := h1 i w0 hw0
  refine ⟨g1, fun x H' ⟨T0, x0, e1, e2, e3, e4⟩ => ?_⟩
  subst e1 e3
  obtain ⟨G2, b1, b2, b3, b4⟩ := g2 x0 G.H ⟨rfl, e4⟩
  rw [← b1]
  rw [← b1] at e2
  obtain ⟨G3, c1, c2, c3, c4⟩ := twk_new (xs := [V.int ((0 + i : Nat) : Int), x0]) (ws := [W.int ((0 + i : Nat) : Int), w0]) b3 e2 (.cons mk_int (.cons b4 .nil))
  refine ⟨G3, ?_, b2.trans c2, c3, c4⟩
  rw [c1, Nat.zero_add]
/-- enumerate of a list or a tuple -/
def iEn2 (f : MA) : MI := fun d S => (f d S).bind fun ws S1 => match ws with
  | [w] => (match iterG S.length w S1 with
      | some p => .ok (numW p.1 0, p.2) (S1.take S.length)
      | none => .bad)
  | _ => .bad
theorem ji_en2 {x : Expr} (ha : JA X T E [x] fs) (hg : Gl X "enumerate") (hm : X.mg "enumerate" = none) (hs : starEach [x] X.env = [(false, eval x X.env)] := by rfl) : JI X T E (.Tuple elts kk tpos) (.Call (.Name "enumerate" p) [x] [] pos) (iEn2 fs) :=
  pi_weak (pi_or2 (pi_enum hg hm ha hs) (pi_enT hg hm ha hs)) fun σ H R ⟨G, S, d, e, s, env, q⟩ => by
    have use : ∀ (ws : List W) (G1 : Gh) (S1 : Store) (vs : List V), Ev G S.length G1 S1.length → Sim (ct X T) G1 S1 → RepL (ct X T) G1 S1.length vs ws → Post (ct X T) E G S.length (match ws with
        | [w] => (match iterG S.length w S1 with
          | some p => .ok (numW p.1 0, p.2) (S1.take S.length)
          | none => .bad)
        | _ => .bad) (fun G1 p S1 => ∀ J, JOk (ct X T) G1 S1.length J p.1 p.2 → R J G1.H) →
        ∃ w, ws = [w] ∧ (((tupOf w).isSome = false ∧ ∃ a xs, vs = [.ref a] ∧ SqL X.K G1.H a xs ∧ R (Ite X.K a) G1.H) ∨ ((tupOf w).isSome = true ∧ ∃ a xs, vs = [.ref a] ∧ SqT X.K G1.H a xs ∧ R (IteT X.K a) G1.H)) := fun ws G1 S1 vs e1 s1 r h1 => by
      match ws, r, h1 with
      | [w], r, h1 =>
        cases repL_iff.mp r with
        | cons r0 rr =>
          cases rr
          dsimp only at h1
          cases z2 : iterG S.length w S1 with
          | none => rw [z2] at h1; exact h1.elim
          | some pr =>
            rw [z2] at h1
            have l := take_len S1 e1.le
            have h1 : ∀ J, JOk (ct X T) G1 (S1.take S.length).length J (numW pr.1 0) pr.2 → R J G1.H := h1 G1 (by rw [l]; exact ev_less e1) (sim_take s1 _)
            rw [l] at h1
            rcases iterG_ok rfl e1 s1 r0 z2 with ⟨t, a, rfl, ⟨xs, hx⟩, hj⟩ | ⟨t, a, rfl, ⟨xs, hx⟩, hj⟩
            · exact ⟨w, rfl, .inl ⟨t, a, xs, rfl, hx, h1 _ (jok_enum hj)⟩⟩
            · exact ⟨w, rfl, .inr ⟨t, a, xs, rfl, hx, h1 _ (jok_enT hj)⟩⟩
    by_cases dd : ∃ w S1, fs d S = .ok [w] S1 ∧ (tupOf w).isSome = true
    · obtain ⟨w0, S0, z0, t0⟩ := dd
      refine .inr ⟨G, S, d, e, s, env, post_eq (post_bind0 q) fun G1 ws S1 z e1 s1 h1 vs r => ?_⟩
      obtain ⟨w, rfl, ⟨t, _⟩ | ⟨t, h⟩⟩ := use ws G1 S1 vs e1 s1 r h1
      · rw [z0] at z
        cases z
        rw [t0] at t; cases t
      · exact h
    · refine .inl ⟨G, S, d, e, s, env, post_eq (post_bind0 q) fun G1 ws S1 z e1 s1 h1 vs r => ?_⟩
      obtain ⟨w, rfl, ⟨t, h⟩ | ⟨t, _⟩⟩ := use ws G1 S1 vs e1 s1 r h1
      · exact h
      · exact absurd ⟨w, S1, z, t⟩ dd
end
end PM
namespace PM
open PySem
/-! ### mirrors told plainly: loops -/
theorem chk_nil (S : Store) : chk S [] = true := rfl
/-- what a turn leaves -/
def fgE (gl : Bool) (k : Nat) (d : Env1) : Env1 := if gl then fgtD k d else d
def fgS (gl : Bool) (k : Nat) (S : Store) : Store := if gl then S.take k else S
theorem fgt_eq (gl : Bool) (k : Nat) (d : Env1) (S : Store) (go : Env1 → Store → SR) : fgt gl k d S go = go (fgE gl k d) (fgS gl k S) := by
  unfold fgt fgE fgS
  cases gl <;> rfl
theorem forW_inv {gl : Bool} {k : Nat} {g : MG} {b : MS} {ck : List (Nat × List W)} {I : Nat → Env1 → Store → Prop} (ws : List W) (hc : ∀ i d S, I i d S → chk S ck = true)
    (step : ∀ i w d S, ws[i]? = some w → I i d S → ∃ d1, g w S d = some d1 ∧ ∃ d' S', (b d1 S = .next d' S' ∨ b d1 S = .cont d' S') ∧ I (i + 1) (fgE gl k d') (fgS gl k S')) :
    ∀ (n i : Nat) (d : Env1) (S : Store), n + i = ws.length → I i d S → ∃ d' S', forW gl k g b ck (ws.drop i) d S = .next d' S' ∧ I ws.length d' S'
  | 0, i, d, S, e, h => by
    have e : i = ws.length := by omega
    subst e
    rw [List.drop_length]
    unfold forW
    rw [if_pos (hc _ _ _ h)]
    exact ⟨d, S, rfl, h⟩
  | n + 1, i, d, S, e, h => by
    have hi : i < ws.length := by omega
    have hw : ws[i]? = some ws[i] := List.getElem?_eq_getElem hi
    rw [drop_cons hw]
    unfold forW
    rw [if_pos (hc _ _ _ h)]
    obtain ⟨d1, e1, d', S', e2, h2⟩ := step i _ d S hw h
    rw [e1]
    dsimp only
    obtain ⟨d2, S2, e3, h3⟩ := forW_inv ws hc step n (i + 1) _ _ (by omega) h2
    refine ⟨d2, S2, ?_, h3⟩
    rcases e2 with e2 | e2
    · rw [e2]
      dsimp only
      rw [fgt_eq]
      exact e3
    · rw [e2]
      dsimp only
      rw [fgt_eq]
      exact e3
theorem forW_all {gl : Bool} {k : Nat} {g : MG} {b : MS} {ck : List (Nat × List W)} {I : Nat → Env1 → Store → Prop} {ws : List W} {d : Env1} {S : Store} (hc : ∀ i d S, I i d S → chk S ck = true)
    (step : ∀ i w d S, ws[i]? = some w → I i d S → ∃ d1, g w S d = some d1 ∧ ∃ d' S', (b d1 S = .next d' S' ∨ b d1 S = .cont d' S') ∧ I (i + 1) (fgE gl k d') (fgS gl k S')) (h : I 0 d S) :
    ∃ d' S', forW gl k g b ck ws d S = .next d' S' ∧ I ws.length d' S' := by
  have z := forW_inv ws hc step ws.length 0 d S (by omega) h
  rw [List.drop_zero] at z
  exact z
/-- over a range -/
theorem rngL_get {lo hi : Int} {i : Nat} {w : W} (h : (rngL lo hi)[i]? = some w) : i < (hi - lo).toNat ∧ w = .int (lo + i) := by
  unfold rngL at h
  rw [List.getElem?_map] at h
  by_cases z : i < (hi - lo).toNat
  · rw [List.getElem?_range z] at h
    exact ⟨z, (Option.some.inj h).symm⟩
  · rw [List.getElem?_eq_none (by rw [List.length_range]; omega)] at h
    cases h
theorem rngL_len (lo hi : Int) : (rngL lo hi).length = (hi - lo).toNat := by unfold rngL; rw [List.length_map, List.length_range]
theorem lcW_inv {k : Nat} {g : MG} {t : MT} {f : ME} {ck : List (Nat × List W)} {d : Env1} {I : Nat → Store → Prop} (ws : List W) (hc : ∀ i S, I i S → chk S ck = true)
    (step : ∀ i w S, ws[i]? = some w → I i S → ∃ d1, g w S d = some d1 ∧ ∃ z S1, t d1 S = .ok z S1 ∧ (z = false → I (i + 1) (S1.take S.length)) ∧
      (z = true → ∃ y S2 y' S3 acc, f d1 S1 = .ok y S2 ∧ storeW y S2 = some (y', S3) ∧ S3[k]? = some (.lst acc) ∧ acc.length < LN ∧ I (i + 1) ((S3.set k (.lst (acc ++ [y']))).take S.length))) :
    ∀ (n i : Nat) (S : Store), n + i = ws.length → I i S → ∃ S', lcW k g t f ck (ws.drop i) d S = .ok (.loc k) S' ∧ I ws.length S'
  | 0, i, S, e, h => by
    have e : i = ws.length := by omega
    subst e
    rw [List.drop_length]
    unfold lcW
    rw [if_pos (hc _ _ h)]
    exact ⟨S, rfl, h⟩
  | n + 1, i, S, e, h => by
    have hi : i < ws.length := by omega
    have hw : ws[i]? = some ws[i] := List.getElem?_eq_getElem hi
    rw [drop_cons hw]
    unfold lcW
    rw [if_pos (hc _ _ h)]
    obtain ⟨d1, e1, z, S1, e2, hf, ht⟩ := step i _ S hw h
    rw [e1]
    dsimp only
    rw [e2]
    dsimp only [noX, Res.bind]
    cases z with
    | false =>
      rw [if_neg (by decide)]
      exact lcW_inv ws hc step n (i + 1) _ (by omega) (hf rfl)
    | true =>
      obtain ⟨y, S2, y', S3, acc, a1, a2, a3, a4, a5⟩ := ht rfl
      rw [if_pos rfl, a1]
      dsimp only [noX, Res.bind]
      rw [a2]
      dsimp only
      rw [a3]
      dsimp only
      rw [if_pos a4]
      exact lcW_inv ws hc step n (i + 1) _ (by omega) a5
theorem lcW_all {k : Nat} {g : MG} {t : MT} {f : ME} {ck : List (Nat × List W)} {d : Env1} {I : Nat → Store → Prop} {ws : List W} {S : Store} (hc : ∀ i S, I i S → chk S ck = true)
    (step : ∀ i w S, ws[i]? = some w → I i S → ∃ d1, g w S d = some d1 ∧ ∃ z S1, t d1 S = .ok z S1 ∧ (z = false → I (i + 1) (S1.take S.length)) ∧
      (z = true → ∃ y S2 y' S3 acc, f d1 S1 = .ok y S2 ∧ storeW y S2 = some (y', S3) ∧ S3[k]? = some (.lst acc) ∧ acc.length < LN ∧ I (i + 1) ((S3.set k (.lst (acc ++ [y']))).take S.length))) (h : I 0 S) :
    ∃ S', lcW k g t f ck ws d S = .ok (.loc k) S' ∧ I ws.length S' := by
  have z := lcW_inv ws hc step ws.length 0 S (by omega) h
  rw [List.drop_zero] at z
  exact z
/-- while -/
theorem sWhile_inv {gl : Bool} {k : Nat} {t : MT} {b : MS} {μ : Env1 → Store → Nat} {I : Env1 → Store → Prop}
    (step : ∀ d S, I d S → ∃ z S1, t d S = .ok z S1 ∧ (z = true → ∃ d' S', (b d (S1.take S.length) = .next d' S' ∨ b d (S1.take S.length) = .cont d' S') ∧ I (fgE gl k d') (fgS gl k S') ∧ μ (fgE gl k d') (fgS gl k S') < μ d S)) :
    ∀ (n : Nat) (d : Env1) (S : Store), μ d S < n → I d S → ∃ d' S' S1, sWhile gl k t b n d S = .next d' (S1.take S'.length) ∧ I d' S' ∧ t d' S' = .ok false S1
  | 0, d, S, h, _ => absurd h (Nat.not_lt_zero _)
  | n + 1, d, S, h, hi => by
    obtain ⟨z, S1, e1, hz⟩ := step d S hi
    unfold sWhile
    rw [e1]
    dsimp only [Res.thenS]
    cases z with
    | false => exact ⟨d, S, S1, rfl, hi, e1⟩
    | true =>
      obtain ⟨d', S', e2, h2, h3⟩ := hz rfl
      rw [if_pos rfl]
      have go := sWhile_inv step n _ _ (by omega) h2
      rcases e2 with e2 | e2
      · rw [e2]
        dsimp only
        rw [fgt_eq]
        exact go
      · rw [e2]
        dsimp only
        rw [fgt_eq]
        exact go
end PM
namespace PM
open PySem
/-! ### mirrors told plainly: single steps -/
section
variable {α β : Type} {x : α} {S S1 S2 : Store} {d : Env1} {w a b : W} {i j : Int}
theorem ev_bind {k : α → Store → Res β} : (Res.ok x S).bind k = k x S := rfl
theorem ev_then {k : α → Store → SR} : (Res.ok x S).thenS k = k x S := rfl
theorem ev_var0 {o : List (Option W)} : eVar 0 (some w :: o) S = .ok w S := rfl
theorem ev_varS {n : Nat} {o : Option W} {os : List (Option W)} : eVar (n + 1) (o :: os) S = eVar n os S := rfl
theorem ev_c : eC w d S = .ok w S := rfl
theorem ev_add : opAdd (.int i) (.int j) S = .ok (.int (i + j)) S := rfl
theorem ev_sub : opSub (.int i) (.int j) S = .ok (.int (i - j)) S := rfl
theorem ev_lt : cmpLt (.int i) (.int j) S = .ok (.bl (decide (i < j))) S := rfl
theorem ev_le : cmpLe (.int i) (.int j) S = .ok (.bl (decide (i ≤ j))) S := rfl
theorem ev_gt : cmpGt (.int i) (.int j) S = .ok (.bl (decide (j < i))) S := rfl
theorem ev_ge : cmpGe (.int i) (.int j) S = .ok (.bl (decide (j ≤ i))) S := rfl
theorem ev_eq : cmpEq (.int i) (.int j) S = .ok (.bl (decide (i = j))) S := rfl
theorem ev_ne : cmpNe (.int i) (.int j) S = .ok (.bl (!decide (i = j))) S := rfl
theorem ev_mod (h : 0 < j) : opMod (.int i) (.int j) S = .ok (.int (i % j)) S := by
  show (if decide (0 < j) = true then _ else _) = _
  rw [if_pos (decide_eq_true h)]
theorem ev_tst {f : ME} {k : Bool} (h : f d S = .ok (.bl k) S1) : tst f d S = .ok k S1 := by
  unfold tst
  rw [h]
  rfl
theorem ev_mul (h : cMul i j = true) : opMul (.int i) (.int j) S = .ok (.int (i * j)) S := by
  show (if cMul i j = true then _ else _) = _
  rw [if_pos h]
theorem cmul_r (h1 : -(2 ^ 64) < j) (h2 : j < 2 ^ 64) : cMul i j = true := by
  unfold cMul
  rw [decide_eq_true h1, decide_eq_true h2]
  simp
theorem cmul_l (h1 : -(2 ^ 64) < i) (h2 : i < 2 ^ 64) : cMul i j = true := by
  unfold cMul
  rw [decide_eq_true h1, decide_eq_true h2]
  simp
theorem ev_div (h1 : 0 < j) (h2 : j < 1073741824) : opDiv (.int i) (.int j) S = .ok (.int (i / j)) S := by
  show (if (decide (0 < j) && decide (j < 1073741824)) = true then _ else _) = _
  rw [decide_eq_true h1, decide_eq_true h2]
  rfl
theorem ev_bin {ρ : W → W → Store → Res W} {f g : ME} (hf : f d S = .ok a S1) (hg : g d S1 = .ok b S2) : eBin ρ f g d S = ρ a b S2 := by
  unfold eBin
  rw [hf, ev_bind, hg, ev_bind]
theorem ev_call1 {ρ : W → Store → Res W} {f : ME} (hf : f d S = .ok a S1) : eCall (on1 ρ) (aCons f aNil) d S = ρ a S1 := by
  unfold eCall aCons aNil
  rw [hf]
  rfl
theorem ev_int : intW (.int i) S = .ok (.int i) S := rfl
theorem sq_next {p q : MS} {d1 : Env1} (h : p d S = .next d1 S1) : sSeq p q d S = q d1 S1 := by
  unfold sSeq
  rw [h]
  rfl
theorem sq_ret {p q : MS} (h : p d S = .ret w S1) : sSeq p q d S = .ret w S1 := by
  unfold sSeq
  rw [h]
  rfl
theorem if_t {t : MT} {p q : MS} (h : t d S = .ok true S1) : sIf t p q d S = p d (S1.take S.length) := by
  unfold sIf
  rw [h]
  rfl
theorem if_f {t : MT} {p q : MS} (h : t d S = .ok false S1) : sIf t p q d S = q d (S1.take S.length) := by
  unfold sIf
  rw [h]
  rfl
theorem asg_flat {n : Nat} {f : ME} (h : f d S = .ok (.int i) S) : sAsg n f d S = .next (d.set n (some (.int i))) S := by
  unfold sAsg
  rw [h]
  show SR.next (d.set n (some (.int i))) (S.take S.length) = _
  rw [List.take_length]
theorem and_t {t u : MT} {z : Bool} (h : t d S = .ok true S1) (h2 : u d S1 = .ok z S2) : tAndM t u d S = .ok z S2 := by
  unfold tAndM
  rw [h]
  exact h2
theorem and_f {t u : MT} (h : t d S = .ok false S1) : tAndM t u d S = .ok false S1 := by
  unfold tAndM
  rw [h]
  rfl
theorem or_t {t u : MT} (h : t d S = .ok true S1) : tOrM t u d S = .ok true S1 := by
  unfold tOrM
  rw [h]
  rfl
theorem or_f {t u : MT} {z : Bool} (h : t d S = .ok false S1) (h2 : u d S1 = .ok z S2) : tOrM t u d S = .ok z S2 := by
  unfold tOrM
  rw [h]
  exact h2
theorem not_ev {t : MT} {z : Bool} (h : t d S = .ok z S1) : tNotM t d S = .ok (!z) S1 := by
  unfold tNotM
  rw [h]
  rfl
theorem setix_int {f g h : ME} {v : Int} {o ix : W} {S5 : Store} (h1 : f d S = .ok (.int v) S) (h2 : g d S = .ok o S) (h3 : h d S = .ok ix S) (h4 : setW o ix (.int v) S = some S5) : sSetIx f g h d S = .next d S5 := by
  unfold sSetIx
  rw [h1]
  dsimp only [Res.thenS]
  rw [h2]
  dsimp only [Res.thenS]
  rw [h3]
  dsimp only [Res.thenS]
  have e : storeW (.int v) S = some (.int v, S) := rfl
  rw [e]
  dsimp only
  rw [h4]
  dsimp only
  rw [← setW_len h4, List.take_length]
end
end PM
namespace PM
open PySem PySem.Spec L2
/-! ### mirrors run by simp -/
/-! values that no store touches -/
mutual
def W.imm : W → Bool
  | .tup ws => W.immL ws
  | .tpz ws => W.immL ws
  | .loc _ => false
  | .twk _ => false
  | _ => true
def W.immL : List W → Bool
  | [] => true
  | w :: ws => w.imm && W.immL ws
end
mutual
theorem storeW_imm : ∀ (w : W) (S : Store), w.imm = true → storeW w S = some (w, S)
  | .non, S, h => rfl
  | .bl b, S, h => rfl
  | .int i, S, h => rfl
  | .str x, S, h => rfl
  | .tup ws, S, h => by rw [W.imm] at h; rw [storeW, storeL_imm ws S h]
  | .arr ws, S, h => rfl
  | .loc n, S, h => by rw [W.imm] at h; cases h
  | .fn x, S, h => rfl
  | .scr x, S, h => rfl
  | .tpz x, S, h => rfl
  | .twk x, S, h => by rw [W.imm] at h; cases h
theorem storeL_imm : ∀ (ws : List W) (S : Store), W.immL ws = true → storeL ws S = some (ws, S)
  | [], S, h => rfl
  | w :: ws, S, h => by
    rw [W.immL, Bool.and_eq_true] at h
    rw [storeL, storeW_imm w S h.1]
    dsimp only
    rw [storeL_imm ws S h.2]
end
mutual
theorem free_imm : ∀ (w : W) (k : Nat), w.imm = true → w.free k = true
  | .non, k, h => rfl
  | .bl b, k, h => rfl
  | .int i, k, h => rfl
  | .str x, k, h => rfl
  | .tup ws, k, h => by rw [W.imm] at h; rw [W.free, freeL_imm ws k h]
  | .arr ws, k, h => rfl
  | .loc n, k, h => by rw [W.imm] at h; cases h
  | .fn x, k, h => rfl
  | .scr x, k, h => rfl
  | .tpz x, k, h => rfl
  | .twk x, k, h => by rw [W.imm] at h; cases h
theorem freeL_imm : ∀ (ws : List W) (k : Nat), W.immL ws = true → W.freeL k ws = true
  | [], k, h => rfl
  | w :: ws, k, h => by
    rw [W.immL, Bool.and_eq_true] at h
    rw [W.freeL, free_imm w k h.1, freeL_imm ws k h.2]
    rfl
end
section
variable {α β : Type} {x : α} {S S1 S2 S' L : Store} {d : Env1} {w a b v : W} {i j : Int} {n k l : Nat} {ws xs ys : List W} {f g h : ME} {fs : MA} {t u : MT} {p q : MS} {c : Cell} {ρ ρ' : W → W → Store → Res W}
theorem imm_non : W.imm .non = true := rfl
theorem imm_bl {z : Bool} : W.imm (.bl z) = true := rfl
theorem imm_int : W.imm (.int i) = true := rfl
theorem imm_str {z : Str} : W.imm (.str z) = true := rfl
theorem imm_arr : W.imm (.arr ws) = true := rfl
theorem imm_fn {z : Str} : W.imm (.fn z) = true := rfl
theorem imm_scr {z} : W.imm (.scr z) = true := rfl
theorem imm_loc : W.imm (.loc n) = false := rfl
theorem imm_tup : W.imm (.tup ws) = W.immL ws := by rw [W.imm]
theorem imm_tpz : W.imm (.tpz ws) = W.immL ws := by rw [W.imm]
theorem immL_nil : W.immL [] = true := rfl
theorem immL_cons : W.immL (w :: ws) = (w.imm && W.immL ws) := by rw [W.immL]
theorem immL_app : ∀ {xs ys : List W}, W.immL (xs ++ ys) = (W.immL xs && W.immL ys)
  | [], ys => rfl
  | x :: xs, ys => by rw [List.cons_append, immL_cons, immL_cons, immL_app, Bool.and_assoc]
theorem immL_rev : ∀ {xs : List W}, W.immL xs.reverse = W.immL xs
  | [] => rfl
  | x :: xs => by rw [List.reverse_cons, immL_app, immL_rev, immL_cons, immL_cons, immL_nil, Bool.and_true, Bool.and_comm]
theorem immL_mem : ∀ {xs : List W}, (∀ x ∈ xs, W.imm x = true) → W.immL xs = true
  | [], _ => rfl
  | x :: xs, h => by rw [immL_cons, h x (List.mem_cons_self ..), immL_mem fun y hy => h y (List.mem_cons_of_mem _ hy)]; rfl
theorem mem_immL : ∀ {xs : List W}, W.immL xs = true → ∀ x ∈ xs, W.imm x = true
  | [], _, x, h => by cases h
  | y :: xs, h, x, hx => by
    rw [immL_cons, Bool.and_eq_true] at h
    rcases List.mem_cons.mp hx with rfl | hx
    · exact h.1
    · exact mem_immL h.2 x hx
theorem free_loc : W.free k (.loc n) = decide (n < k) := by rw [W.free]
theorem freeL_nil : W.freeL k [] = true := rfl
theorem freeL_cons : W.freeL k (w :: ws) = (w.free k && W.freeL k ws) := by rw [W.freeL]
theorem free_tup : W.free k (.tup ws) = W.freeL k ws := by rw [W.free]
theorem free_twk : W.free k (.twk ws) = W.freeL k ws := by rw [W.free]
/-! stores: what stood, then the new cells -/
theorem st_get : (S ++ L)[S.length + k]? = L[k]? := by
  rw [List.getElem?_append_right (Nat.le_add_right _ _), Nat.add_sub_cancel_left]
theorem st_get0 : (S ++ L)[S.length]? = L[0]? := st_get (k := 0)
theorem st_old (h : n < S.length) : (S ++ L)[n]? = S[n]? := List.getElem?_append_left h
theorem st_set : (S ++ L).set (S.length + k) c = S ++ L.set k c := by
  rw [List.set_append_right _ _ (Nat.le_add_right _ _), Nat.add_sub_cancel_left]
theorem st_set0 : (S ++ L).set S.length c = S ++ L.set 0 c := st_set (k := 0)
theorem st_take : (S ++ L).take (S.length + k) = S ++ L.take k := by
  rw [List.take_append, List.take_of_length_le (Nat.le_add_right _ _), Nat.add_sub_cancel_left]
theorem st_take0 : (S ++ L).take S.length = S := List.take_left' rfl
theorem st_len : (S ++ L).length = S.length + L.length := List.length_append
theorem lt_base : (S.length + k < S.length + l) = (k < l) := propext (Nat.add_lt_add_iff_left)
theorem lt_base0 : (S.length < S.length + l) = (0 < l) := propext ⟨fun h => by omega, fun h => by omega⟩
theorem lt_base1 : (S.length + k < S.length) = False := propext ⟨fun h => by omega, fun h => h.elim⟩
theorem lt_self : (S.length < S.length) = False := propext ⟨fun h => by omega, fun h => h.elim⟩
/-! results -/
theorem then_exc {y : XV} {k : α → Store → SR} : (Res.exc y S : Res α).thenS k = .exc y S := rfl
theorem bind_exc {y : XV} {k : α → Store → Res β} : (Res.exc y S : Res α).bind k = .exc y S := rfl
theorem an_next {k : MS} : (SR.next d S).andThen k = k d S := rfl
theorem an_ret {k : MS} : (SR.ret w S).andThen k = .ret w S := rfl
theorem an_brk {k : MS} : (SR.brk d S).andThen k = .brk d S := rfl
theorem an_cont {k : MS} : (SR.cont d S).andThen k = .cont d S := rfl
theorem an_exc {y : XV} {k : MS} : (SR.exc y S).andThen k = .exc y S := rfl
theorem asB_bl {z : Bool} : asB (.ok (.bl z) S) = .ok z S := rfl
theorem asB_exc {y : XV} : asB (.exc y S) = .exc y S := rfl
/-! expressions -/
theorem e_bin : eBin ρ f g d S = (f d S).bind fun x S1 => (g d S1).bind fun y S2 => ρ x y S2 := rfl
theorem e_tst : tst f d S = asB (f d S) := rfl
theorem e_and : tAndM t u d S = (t d S).bind fun b S1 => if b then u d S1 else .ok false S1 := rfl
theorem e_or : tOrM t u d S = (t d S).bind fun b S1 => if b then .ok true S1 else u d S1 := rfl
theorem e_not : tNotM t d S = (t d S).bind fun b S1 => .ok (!b) S1 := rfl
def andC (g : ME) (d : Env1) (w : W) (S : Store) : Res W := match w with
  | .bl true => g d S
  | .bl false => .ok (.bl false) S
  | _ => .bad
def orC (g : ME) (d : Env1) (w : W) (S : Store) : Res W := match w with
  | .bl true => .ok (.bl true) S
  | .bl false => g d S
  | _ => .bad
def notC (w : W) (S : Store) : Res W := match w with
  | .bl b => .ok (.bl (!b)) S
  | _ => .bad
theorem e_eand : eAndM f g d S = (f d S).bind (andC g d) := rfl
theorem andC_t : andC g d (.bl true) S = g d S := rfl
theorem andC_f : andC g d (.bl false) S = .ok (.bl false) S := rfl
theorem e_eor : eOrM f g d S = (f d S).bind (orC g d) := rfl
theorem orC_t : orC g d (.bl true) S = .ok (.bl true) S := rfl
theorem orC_f : orC g d (.bl false) S = g d S := rfl
theorem e_enot : eNotM f d S = (f d S).bind notC := rfl
theorem notC_bl {z : Bool} : notC (.bl z) S = .ok (.bl (!z)) S := rfl
theorem e_if : eIf t f g d S = (t d S).bind fun b S1 => if b then f d S1 else g d S1 := rfl
def chC (ρ' : W → W → Store → Res W) (h : ME) (d : Env1) (y : W) (z : W) (S : Store) : Res W := match z with
  | .bl true => (h d S).bind fun w S4 => ρ' y w S4
  | .bl false => .ok (.bl false) S
  | _ => .bad
theorem e_chain : eChain ρ ρ' f g h d S = (f d S).bind fun x S1 => (g d S1).bind fun y S2 => (ρ x y S2).bind fun z S3 => chC ρ' h d y z S3 := rfl
theorem chC_t : chC ρ' h d w (.bl true) S = (h d S).bind fun y S4 => ρ' w y S4 := rfl
theorem chC_f : chC ρ' h d w (.bl false) S = .ok (.bl false) S := rfl
theorem a_nil : aNil d S = .ok [] S := rfl
theorem a_cons : aCons f fs d S = (f d S).bind fun x S1 => (fs d S1).bind fun xs S2 => .ok (x :: xs) S2 := rfl
def tupC (ws : List W) (S : Store) : Res W := if ws.length ≤ LN then .ok (.tup ws) S else .bad
theorem e_tup : eTup fs d S = (fs d S).bind tupC := rfl
theorem tup0 : tupC [] S = .ok (.tup []) S := rfl
theorem tup1 : tupC [a] S = .ok (.tup [a]) S := rfl
theorem tup2 : tupC [a, b] S = .ok (.tup [a, b]) S := rfl
theorem tup3 : tupC [a, b, w] S = .ok (.tup [a, b, w]) S := rfl
theorem tup4 : tupC [a, b, w, v] S = .ok (.tup [a, b, w, v]) S := rfl
def tpzC (ws : List W) (S : Store) : Res W := if ws.length ≤ LN ∧ W.freeL 0 ws = true then .ok (.tpz ws) S else .bad
theorem e_tpz : eTupZ fs d S = (fs d S).bind tpzC := rfl
theorem tpz0 : tpzC [] S = .ok (.tpz []) S := rfl
theorem tpz1 (h : a.imm = true) : tpzC [a] S = .ok (.tpz [a]) S := by
  unfold tpzC
  have e : W.freeL 0 [a] = true := freeL_imm _ _ (by rw [immL_cons, h]; rfl)
  exact if_pos ⟨by show 1 ≤ LN; decide, e⟩
theorem e_lst : eLst fs d S = (fs d S).bind newLst := rfl
theorem lst_imm (h : W.immL ws = true) (hl : ws.length ≤ LN) : newLst ws S = .ok (.loc S.length) (S ++ [.lst ws]) := by
  unfold newLst
  rw [storeL_imm ws S h]
  exact if_pos hl
theorem lst0 : newLst [] S = .ok (.loc S.length) (S ++ [.lst []]) := rfl
theorem lst1 (h : a.imm = true) : newLst [a] S = .ok (.loc S.length) (S ++ [.lst [a]]) := lst_imm (by rw [immL_cons, h]; rfl) (by show 1 ≤ LN; decide)
theorem lst2 (h : a.imm = true) (h2 : b.imm = true) : newLst [a, b] S = .ok (.loc S.length) (S ++ [.lst [a, b]]) := lst_imm (by rw [immL_cons, immL_cons, h, h2]; rfl) (by show 2 ≤ LN; decide)
theorem lst3 (h : a.imm = true) (h2 : b.imm = true) (h3 : w.imm = true) : newLst [a, b, w] S = .ok (.loc S.length) (S ++ [.lst [a, b, w]]) := lst_imm (by rw [immL_cons, immL_cons, immL_cons, h, h2, h3]; rfl) (by show 3 ≤ LN; decide)
theorem e_dT : eDT d S = .ok (.loc S.length) (S ++ [.dT []]) := rfl
theorem e_dK : eDK d S = .ok (.loc S.length) (S ++ [.dK []]) := rfl
theorem e_call {r : List W → Store → Res W} : eCall r fs d S = (fs d S).bind r := rfl
theorem c_on1 {r : W → Store → Res W} : on1 r [a] S = r a S := rfl
theorem c_on2 {r : W → W → Store → Res W} : on2 r [a, b] S = r a b S := rfl
def mthC (ty : W → Store → Bool) (r : W → List W → Store → Res W) (fs : MA) (d : Env1) (w : W) (S : Store) : Res W := if ty w S then (fs d S).bind fun ws S2 => r w ws S2 else .bad
theorem e_meth {ty : W → Store → Bool} {r : W → List W → Store → Res W} : eMeth ty r f fs d S = (f d S).bind (mthC ty r fs d) := rfl
theorem mth_l {r : W → List W → Store → Res W} : mthC isL r fs d (.loc n) S = if (lstOf S (.loc n)).isSome then (fs d S).bind fun ws S2 => r (.loc n) ws S2 else .bad := rfl
theorem mth_z {r : W → List W → Store → Res W} : mthC isZ r fs d (.tpz ws) S = (fs d S).bind fun xs S2 => r (.tpz ws) xs S2 := rfl
def fnC (n : Nat) (m : MF) (ws : List W) (S : Store) : Res W := if ws.length = n then m ws S else .bad
theorem e_fn {m : MF} : eFn n m fs d S = (fs d S).bind (fnC n m) := rfl
theorem fn1 {m : MF} : fnC 1 m [a] S = m [a] S := rfl
theorem fn2 {m : MF} : fnC 2 m [a, b] S = m [a, b] S := rfl
theorem fn3 {m : MF} : fnC 3 m [a, b, w] S = m [a, b, w] S := rfl
theorem fn4 {m : MF} : fnC 4 m [a, b, w, v] S = m [a, b, w, v] S := rfl
theorem on_m {r : W → W → Store → Res W} : onM r w [a] S = r w a S := rfl
/-! cells -/
def lstC : Option Cell → Option (List W)
  | some (.lst ws) => some ws
  | some (.ice ws) => some ws
  | _ => none
theorem lof_loc : lstOf S (.loc n) = lstC S[n]? := by
  show (match S[n]? with | some (.lst ws) => some ws | some (.ice ws) => some ws | _ => none) = _
  cases S[n]? with
  | none => rfl
  | some c => cases c <;> rfl
theorem lof_arr : lstOf S (.arr ws) = some ws := rfl
theorem lstC_lst : lstC (some (.lst ws)) = some ws := rfl
theorem lstC_ice : lstC (some (.ice ws)) = some ws := rfl
theorem lstC_dT {z} : lstC (some (.dT z)) = none := rfl
theorem lstC_dK {z} : lstC (some (.dK z)) = none := rfl
theorem sof_tup : seqOf S (.tup ws) = some ws := rfl
theorem sof_tpz : seqOf S (.tpz ws) = some ws := rfl
theorem sof_loc : seqOf S (.loc n) = lstC S[n]? := lof_loc
theorem sof_arr : seqOf S (.arr ws) = some ws := rfl
def appC (c : Option Cell) (n : Nat) (a : W) (S : Store) : Res W := match c with
  | some (.lst xs) => if xs.length < LN then .ok .non (S.set n (.lst (xs ++ [a]))) else .bad
  | _ => .bad
theorem app_loc (h : a.imm = true) : appW (.loc n) [a] S = appC S[n]? n a S := by
  show (match storeW a S with | some (a', S1) => (match S1[n]? with | some (.lst xs) => if xs.length < LN then Res.ok W.non (S1.set n (.lst (xs ++ [a']))) else .bad | _ => .bad) | none => .bad) = _
  rw [storeW_imm a S h]
  rfl
theorem appC_lst (h : xs.length < LN) : appC (some (.lst xs)) n a S = .ok .non (S.set n (.lst (xs ++ [a]))) := if_pos h
def popC (c : Option Cell) (n : Nat) (S : Store) : Res W := match c with
  | some (.lst xs) => match xs[xs.length - 1]? with
    | some y => .ok y (S.set n (.lst xs.dropLast))
    | none => .bad
  | _ => .bad
theorem pop_loc : popW (.loc n) [] S = popC S[n]? n S := rfl
theorem popC_app : popC (some (.lst (xs ++ [a]))) n S = .ok a (S.set n (.lst xs)) := by
  have e1 : (xs ++ [a])[(xs ++ [a]).length - 1]? = some a := by
    rw [List.length_append, List.length_singleton, Nat.add_sub_cancel, List.getElem?_append_right (Nat.le_refl _), Nat.sub_self]
    rfl
  have e2 : (xs ++ [a]).dropLast = xs := by rw [List.dropLast_concat]
  show (match (xs ++ [a])[(xs ++ [a]).length - 1]? with | some y => Res.ok y (S.set n (.lst (xs ++ [a]).dropLast)) | none => .bad) = _
  rw [e1, e2]
theorem popC_one : popC (some (.lst [a])) n S = .ok a (S.set n (.lst [])) := rfl
def extC (c : Option Cell) (n : Nat) (zs : List W) (S : Store) : Res W := match c with
  | some (.lst xs) => if xs.length + zs.length ≤ LN then .ok .non (S.set n (.lst (xs ++ zs))) else .bad
  | _ => .bad
theorem ext_loc (h : lstOf S (.loc k) = some ys) : extA (.loc n) (.loc k) S = extC S[n]? n ys S := by
  show (match lstOf S (.loc k) with | some zs => _ | none => _) = _
  rw [h]
  rfl
theorem ext_loc2 : extA (.loc n) (.loc k) S = (match lstC S[k]? with | some ys => extC S[n]? n ys S | none => .bad) := by
  rw [← lof_loc]
  rfl
theorem ext_arr : extA (.loc n) (.arr ys) S = extC S[n]? n ys S := rfl
theorem ext_tup (h : W.immL ys = true) : extA (.loc n) (.tup ys) S = extC S[n]? n ys S := by
  show (match S[n]? with | some (.lst xs) => if xs.length + ys.length ≤ LN ∧ W.freeL 0 ys = true then Res.ok W.non (S.set n (.lst (xs ++ ys))) else .bad | _ => .bad) = _
  unfold extC
  cases S[n]? with
  | none => rfl
  | some c => cases c with
    | lst xs =>
      dsimp only
      by_cases z : xs.length + ys.length ≤ LN
      · rw [if_pos z, if_pos ⟨z, freeL_imm _ _ h⟩]
      · rw [if_neg z, if_neg fun y => z y.1]
    | _ => rfl
theorem extC_lst (h : xs.length + ys.length ≤ LN) : extC (some (.lst xs)) n ys S = .ok .non (S.set n (.lst (xs ++ ys))) := if_pos h
/-- len -/
def lenC (c : Option Cell) (S : Store) : Res W := match c with
  | some (.lst xs) => .ok (.int xs.length) S
  | some (.ice xs) => .ok (.int xs.length) S
  | some (.dT xs) => .ok (.int xs.length) S
  | some (.dK xs) => .ok (.int xs.length) S
  | none => .bad
theorem len_loc : lenW (.loc n) S = lenC S[n]? S := by
  show (match seqOf S (.loc n) with | some ws => Res.ok (W.int ws.length) S | none => (match S[n]? with | some (.dT k) => Res.ok (W.int k.length) S | some (.dK k) => Res.ok (W.int k.length) S | _ => .bad)) = _
  rw [sof_loc]
  cases e : S[n]? with
  | none => rfl
  | some c => cases c <;> rfl
theorem len_arr : lenW (.arr xs) S = .ok (.int xs.length) S := rfl
theorem len_tup : lenW (.tup xs) S = .ok (.int xs.length) S := rfl
theorem len_tpz : lenW (.tpz xs) S = .ok (.int xs.length) S := rfl
theorem len_str {z : Str} (h : z.length ≤ LN) : lenW (.str z) S = .ok (.int z.length) S := if_pos h
theorem lenC_lst : lenC (some (.lst xs)) S = .ok (.int xs.length) S := rfl
theorem lenC_ice : lenC (some (.ice xs)) S = .ok (.int xs.length) S := rfl
theorem lenC_dT {z} : lenC (some (.dT z)) S = .ok (.int z.length) S := rfl
theorem lenC_dK {z} : lenC (some (.dK z)) S = .ok (.int z.length) S := rfl
/-- x[i] -/
theorem at_0 : atI (a :: xs) 0 = some a := by unfold atI ixN; simp
theorem at_1 : atI (b :: a :: xs) 1 = some a := by
  unfold atI ixN
  have e : (1 : Int) < ((b :: a :: xs).length : Nat) := by rw [List.length_cons, List.length_cons]; omega
  rw [if_pos (by decide), if_pos e]
  rfl
theorem at_2 : atI (v :: b :: a :: xs) 2 = some a := by
  unfold atI ixN
  have e : (2 : Int) < ((v :: b :: a :: xs).length : Nat) := by rw [List.length_cons, List.length_cons, List.length_cons]; omega
  rw [if_pos (by decide), if_pos e]
  rfl
theorem at_nat {xs : List α} {n : Nat} {y : α} (h : xs[n]? = some y) : atI xs (n : Int) = some y := by
  unfold atI ixN
  have hn := (List.getElem?_eq_some_iff.mp h).1
  rw [if_pos (by omega), if_pos (by omega)]
  exact h
def idxC (o : Option W) (S : Store) : Res W := match o with
  | some w => .ok w S
  | none => .bad
theorem idxC_some : idxC (some w) S = .ok w S := rfl
theorem ix_tup : subIx (.tup ws) (.int i) S = idxC (atI ws i) S := rfl
theorem ix_tpz : subIx (.tpz ws) (.int i) S = idxC (atI ws i) S := rfl
theorem ix_arr : subIx (.arr ws) (.int i) S = idxC (atI ws i) S := rfl
def cellIx (c : Option Cell) (i : W) (S : Store) : Res W := match c with
  | some (.lst ws) => idx ws i S
  | some (.ice ws) => idx ws i S
  | some (.dT kvs) => match i with
    | .tup ws => match keyL ws with
      | some ks => idxC (getW kvs ks) S
      | none => .bad
    | _ => .bad
  | some (.dK kvs) => match key1 i with
    | some k => idxC (getW kvs k) S
    | none => .bad
  | none => .bad
theorem ix_loc : subIx (.loc n) a S = cellIx S[n]? a S := by
  unfold subIx
  dsimp only
  rw [sof_loc]
  cases e : S[n]? with
  | none => unfold lstC cellIx dicGet; dsimp only; rw [e]
  | some c => cases c with
    | lst ws => rfl
    | ice ws => rfl
    | dT kvs =>
      unfold lstC cellIx dicGet
      dsimp only
      rw [e]
      dsimp only
      cases a with
      | tup ws =>
        dsimp only
        cases keyL ws with
        | none => rfl
        | some ks =>
          dsimp only
          cases getW kvs ks <;> rfl
      | _ => rfl
    | dK kvs =>
      unfold lstC cellIx dicGet
      dsimp only
      rw [e]
      dsimp only
      cases key1 a with
      | none => rfl
      | some k =>
        dsimp only
        cases getW kvs k <;> rfl
theorem cix_lst : cellIx (some (.lst ws)) (.int i) S = idxC (atI ws i) S := rfl
theorem cix_ice : cellIx (some (.ice ws)) (.int i) S = idxC (atI ws i) S := rfl
/-- keys that are tuples -/
def keyD (ws : List W) : List Key := (keyL ws).getD []
theorem cix_dT {kvs} (h : (keyL ws).isSome = true) : cellIx (some (.dT kvs)) (.tup ws) S = idxC (getW kvs (keyD ws)) S := by
  show (match keyL ws with | some ks => idxC (getW kvs ks) S | none => .bad) = idxC (getW kvs ((keyL ws).getD [])) S
  cases e : keyL ws with
  | none => rw [e] at h; cases h
  | some k => rfl
theorem cix_dKi {kvs} : cellIx (some (.dK kvs)) (.int i) S = idxC (getW kvs (.inl i)) S := rfl
theorem cix_dKs {kvs} {z : Str} : cellIx (some (.dK kvs)) (.str z) S = idxC (getW kvs (.inr z)) S := rfl
/-! isinstance -/
def isiC (ty : String) (w : W) (S : Store) : Res W := match w with
  | .fn _ => .bad
  | w => .ok (.bl (isT ty (tyN S w))) S
theorem e_isi {ty : String} : eIsi ty f d S = (f d S).bind (isiC ty) := rfl
theorem isi_int {ty} : isiC ty (.int i) S = .ok (.bl (isT ty "int")) S := rfl
theorem isi_bl {ty} {z : Bool} : isiC ty (.bl z) S = .ok (.bl (isT ty "bool")) S := rfl
theorem isi_str {ty} {z : Str} : isiC ty (.str z) S = .ok (.bl (isT ty "str")) S := rfl
theorem isi_non {ty} : isiC ty .non S = .ok (.bl (isT ty "NoneType")) S := rfl
theorem isi_tup {ty} : isiC ty (.tup ws) S = .ok (.bl (isT ty "tuple")) S := rfl
theorem isi_tpz {ty} : isiC ty (.tpz ws) S = .ok (.bl (isT ty "tuple")) S := rfl
theorem isi_arr {ty} : isiC ty (.arr ws) S = .ok (.bl (isT ty "list")) S := rfl
theorem is_ii : isT "int" "int" = true := by decide
theorem is_ib : isT "int" "bool" = true := by decide
theorem is_is : isT "int" "str" = false := by decide
theorem is_in : isT "int" "NoneType" = false := by decide
theorem is_it : isT "int" "tuple" = false := by decide
theorem is_il : isT "int" "list" = false := by decide
theorem is_id : isT "int" "dict" = false := by decide
theorem is_bi : isT "bool" "int" = false := by decide
theorem is_bb : isT "bool" "bool" = true := by decide
theorem is_bs : isT "bool" "str" = false := by decide
theorem is_bn : isT "bool" "NoneType" = false := by decide
theorem is_bt : isT "bool" "tuple" = false := by decide
theorem is_bL : isT "bool" "list" = false := by decide
theorem is_bd : isT "bool" "dict" = false := by decide
theorem is_si : isT "str" "int" = false := by decide
theorem is_sb : isT "str" "bool" = false := by decide
theorem is_ss : isT "str" "str" = true := by decide
theorem is_sn : isT "str" "NoneType" = false := by decide
theorem is_st : isT "str" "tuple" = false := by decide
theorem is_sl : isT "str" "list" = false := by decide
theorem is_sd : isT "str" "dict" = false := by decide
theorem is_ti : isT "tuple" "int" = false := by decide
theorem is_tb : isT "tuple" "bool" = false := by decide
theorem is_ts : isT "tuple" "str" = false := by decide
theorem is_tn : isT "tuple" "NoneType" = false := by decide
theorem is_tt : isT "tuple" "tuple" = true := by decide
theorem is_tl : isT "tuple" "list" = false := by decide
theorem is_td : isT "tuple" "dict" = false := by decide
/-! slices, reversed -/
def slC (f : Option Int) (h : MO) (d : Env1) (x : W) (S : Store) : Res W := (h d S).bind fun u S3 => slW x f u S3
theorem e_sl {fl fh : MO} : eSl f fl fh d S = (f d S).bind fun x S1 => (fl d S1).bind fun l S2 => (fh d S2).bind fun u S3 => slW x l u S3 := rfl
theorem o_no : oNo d S = .ok none S := rfl
def oAtC (w : W) (S : Store) : Res (Option Int) := match w with
  | .int i => .ok (some i) S
  | _ => .bad
theorem o_at : oAt f d S = (f d S).bind oAtC := rfl
theorem oAtC_int : oAtC (.int i) S = .ok (some i) S := rfl
theorem sl_tup {lo hi} : slW (.tup ws) lo hi S = .ok (.tup (cutW ws lo hi)) S := rfl
theorem cut_1 : cutW (a :: ws) (some 1) none = ws := by
  unfold cutW
  have e1 : HT.sIx (a :: ws).length 0 (some 1) = 1 := by
    unfold HT.sIx
    simp
  have e2 : HT.sIx (a :: ws).length (a :: ws).length none = (a :: ws).length := rfl
  rw [e1, e2]
  simp
theorem cut_2 : cutW (a :: b :: ws) (some 2) none = ws := by
  unfold cutW
  have e1 : HT.sIx (a :: b :: ws).length 0 (some 2) = 2 := by
    unfold HT.sIx
    simp
  have e2 : HT.sIx (a :: b :: ws).length (a :: b :: ws).length none = (a :: b :: ws).length := rfl
  rw [e1, e2]
  simp
def revC (o : Option (List W)) (S : Store) : Res W := match o with
  | some ws => .ok (.loc S.length) (S ++ [.lst ws.reverse])
  | none => .bad
theorem e_rev : eRev f d S = (f d S).bind fun x S1 => revC (lstOf S1 x) S1 := rfl
theorem revC_some : revC (some ws) S = .ok (.loc S.length) (S ++ [.lst ws.reverse]) := rfl
/-! comparisons of texts -/
def sOk (z : Str) : Bool := (PyData.str z).canLay0
theorem shaped_str {z : Str} (h : sOk z = true) : SeqAt.shaped (.str z) = true := by
  unfold SeqAt.shaped
  rw [show (PyData.str z).canLay0 = true from h]
  simp [PyData.depth]
theorem eqv_str {y z : Str} : PyData.eqv (.str y) (.str z) = decide (y = z) := by
  rw [PyData.eqv]
  by_cases h : y = z
  · subst h; simp
  · simp [h]
theorem ev_eqs {y z : Str} (h1 : sOk y = true) (h2 : sOk z = true) : cmpEq (.str y) (.str z) S = .ok (.bl (decide (y = z))) S := by
  have e : eqW S (.str y) (.str z) = some (decide (y = z)) := by
    show (if SeqAt.shaped (.str y) && SeqAt.shaped (.str z) then some (PyData.eqv (.str y) (.str z)) else none) = _
    rw [shaped_str h1, shaped_str h2, eqv_str]
    rfl
  unfold cmpEq
  rw [e]
theorem ev_nes {y z : Str} (h1 : sOk y = true) (h2 : sOk z = true) : cmpNe (.str y) (.str z) S = .ok (.bl (!decide (y = z))) S := by
  have e : eqW S (.str y) (.str z) = some (decide (y = z)) := by
    show (if SeqAt.shaped (.str y) && SeqAt.shaped (.str z) then some (PyData.eqv (.str y) (.str z)) else none) = _
    rw [shaped_str h1, shaped_str h2, eqv_str]
    rfl
  unfold cmpNe
  rw [e]
theorem so_of : sOk "of" = true := by decide +kernel
theorem so_with : sOk "with" = true := by decide +kernel
theorem of_ne : (("of" : Str) = "with") = False := propext ⟨fun h => by revert h; decide, fun h => h.elim⟩
theorem with_ne : (("with" : Str) = "of") = False := propext ⟨fun h => by revert h; decide, fun h => h.elim⟩
/-! statements -/
theorem s_seq : sSeq p q d S = (p d S).andThen q := rfl
theorem s_nil : sNil d S = .next d S := rfl
theorem s_pass : sPass d S = .next d S := rfl
theorem s_brk : sBrk d S = .brk d S := rfl
theorem s_cont : sCont d S = .cont d S := rfl
theorem s_expr : sExpr f d S = (f d S).thenS fun _ S1 => .next d (S1.take S.length) := rfl
theorem s_ret : sRet f d S = (f d S).thenS fun w S1 => .ret w S1 := rfl
theorem s_if : sIf t p q d S = (t d S).thenS fun k S1 => if k then p d (S1.take S.length) else q d (S1.take S.length) := rfl
theorem s_asg : sAsg n f d S = (f d S).thenS fun w S1 => .next (d.set n (some (gcW S.length w S1).1)) (gcW S.length w S1).2 := rfl
theorem gc_imm (h : w.imm = true) : gcW k w S = (w, S.take k) := by
  have q := free_imm w k h
  unfold gcW
  cases w with
  | loc n => rw [imm_loc] at h; cases h
  | _ => dsimp only; rw [if_pos q]
theorem gc_old (h : n < k) : gcW k (.loc n) S = (.loc n, S.take k) := if_pos h
def gcC (c : Option Cell) (k l : Nat) (S : Store) : W × Store := match c with
  | some (.ice ws) => (.arr ws, S.take k)
  | some c => (.loc k, S.take k ++ [c])
  | none => (.loc l, S)
theorem gc_new (h : ¬ l < k) : gcW k (.loc l) S = gcC S[l]? k l S := if_neg h
theorem gc_loc : gcW k (.loc l) S = if l < k then (.loc l, S.take k) else gcC S[l]? k l S := rfl
theorem gcC_lst : gcC (some (.lst ws)) k l S = (.loc k, S.take k ++ [.lst ws]) := rfl
theorem gcC_ice : gcC (some (.ice ws)) k l S = (.arr ws, S.take k) := rfl
theorem gcC_dT {z} : gcC (some (.dT z)) k l S = (.loc k, S.take k ++ [.dT z]) := rfl
theorem gcC_dK {z} : gcC (some (.dK z)) k l S = (.loc k, S.take k ++ [.dK z]) := rfl
def parC (is : List Nat) (d : Env1) (k : Nat) (ws : List W) (S1 : Store) : SR := if ws.length = is.length then .next ((is.zip ws).foldl (fun d p => d.set p.1 (some p.2)) d) (if W.freeL k ws then S1.take k else S1) else .bad
theorem s_par {is : List Nat} : sPar is fs d S = (fs d S).thenS (parC is d S.length) := rfl
theorem par2 {i j : Nat} : parC [i, j] d k [a, b] S = .next ((d.set i (some a)).set j (some b)) (if a.free k && b.free k then S.take k else S) := by
  have e : W.freeL k [a, b] = (a.free k && b.free k) := by rw [freeL_cons, freeL_cons, freeL_nil, Bool.and_true]
  rw [← e]
  rfl
theorem par3 {i j l : Nat} : parC [i, j, l] d k [a, b, w] S = .next (((d.set i (some a)).set j (some b)).set l (some w)) (if a.free k && (b.free k && w.free k) then S.take k else S) := by
  have e : W.freeL k [a, b, w] = (a.free k && (b.free k && w.free k)) := by rw [freeL_cons, freeL_cons, freeL_cons, freeL_nil, Bool.and_true]
  rw [← e]
  rfl
def bindC (o : Option Env1) (S : Store) : SR := match o with
  | some d' => .next d' S
  | none => .bad
theorem s_asgT {b : MG} : sAsgT b f d S = (f d S).thenS fun w S1 => bindC (b w (gcF S.length w S1) d) (gcF S.length w S1) := rfl
theorem bindC_some : bindC (some d) S = .next d S := rfl
theorem gcF_imm (h : w.imm = true) : gcF k w S = S.take k := if_pos (free_imm w k h)
theorem b_name : bName n w S d = some (d.set n (some w)) := rfl
theorem b_nil : bNil [] S d = some d := rfl
def bcC (bs : MGs) (ws : List W) (S : Store) (o : Option Env1) : Option Env1 := match o with
  | some d1 => bs ws S d1
  | none => none
theorem b_cons {b : MG} {bs : MGs} : bCons b bs (w :: ws) S d = bcC bs ws S (b w S d) := rfl
theorem bcC_some {bs : MGs} : bcC bs ws S (some d) = bs ws S d := rfl
theorem b_tup {bs : MGs} : bTup n bs (.tup ws) S d = if ws.length = n then bs ws S d else none := rfl
theorem b_twk {bs : MGs} : bTup n bs (.twk ws) S d = if ws.length = n then bs ws S d else none := rfl
/-- x[i] = v -/
def setC (o : Option Store) (d : Env1) (k : Nat) : SR := match o with
  | some S5 => .next d (S5.take k)
  | none => .bad
theorem s_set : sSetIx f g h d S = (f d S).thenS fun v S1 => (g d S1).thenS fun o S2 => (h d S2).thenS fun i S3 => match storeW v S3 with
  | some (v', S4) => setC (setW o i v' S4) d S.length
  | none => .bad := rfl
theorem setC_some : setC (some S1) d k = .next d (S1.take k) := rfl
def cellSet (c : Option Cell) (n : Nat) (i v : W) (S : Store) : Option Store := match c with
  | some (.lst xs) => match i with
    | .int k => match ixN xs.length k with
      | some j => some (S.set n (.lst (xs.set j v)))
      | none => none
    | _ => none
  | some (.dT kvs) => match i with
    | .tup ws => match keyL ws with
      | some ks => if kvs.length < LN then some (S.set n (.dT (putW kvs ks v))) else none
      | none => none
    | _ => none
  | some (.dK kvs) => match key1 i with
    | some k => if kvs.length < LN then some (S.set n (.dK (putW kvs k v))) else none
    | none => none
  | _ => none
theorem set_loc : setW (.loc n) a v S = cellSet S[n]? n a v S := by
  unfold setW cellSet
  dsimp only
  cases e : S[n]? with
  | none => dsimp only; unfold dicPut; dsimp only; rw [e]
  | some c => cases c with
    | lst xs => rfl
    | ice xs => dsimp only; unfold dicPut; dsimp only; rw [e]
    | dT kvs => dsimp only; unfold dicPut; dsimp only; rw [e] <;> rfl
    | dK kvs => dsimp only; unfold dicPut; dsimp only; rw [e] <;> rfl
theorem cs_dT {kvs} (h : (keyL ws).isSome = true) (hl : kvs.length < LN) : cellSet (some (.dT kvs)) n (.tup ws) v S = some (S.set n (.dT (putW kvs (keyD ws) v))) := by
  show (match keyL ws with | some ks => if kvs.length < LN then some (S.set n (.dT (putW kvs ks v))) else none | none => none) = some (S.set n (.dT (putW kvs ((keyL ws).getD []) v)))
  cases e : keyL ws with
  | none => rw [e] at h; cases h
  | some k => exact if_pos hl
theorem cs_dKi {kvs} (hl : kvs.length < LN) : cellSet (some (.dK kvs)) n (.int i) v S = some (S.set n (.dK (putW kvs (.inl i) v))) := if_pos hl
theorem cs_dKs {kvs} {z : Str} (hl : kvs.length < LN) : cellSet (some (.dK kvs)) n (.str z) v S = some (S.set n (.dK (putW kvs (.inr z) v))) := if_pos hl
/-- x += e -/
def augC (i : Nat) (op : Int → Int → Int) (r : Option (Option W)) (f : ME) (d : Env1) (S : Store) : SR := match r with
  | some (some (.int a)) => (f d S).thenS fun w S1 => match w with
    | .int b => .next (d.set i (some (.int (op a b)))) (S1.take S.length)
    | _ => .bad
  | _ => .bad
theorem s_aug {op : Int → Int → Int} : sAug n op f d S = augC n op d[n]? f d S := rfl
def augD (i : Nat) (op : Int → Int → Int) (a : Int) (d : Env1) (k : Nat) (w : W) (S1 : Store) : SR := match w with
  | .int b => .next (d.set i (some (.int (op a b)))) (S1.take k)
  | _ => .bad
theorem augC_int {op : Int → Int → Int} : augC n op (some (some (.int i))) f d S = (f d S).thenS (augD n op i d S.length) := rfl
theorem augD_int {op : Int → Int → Int} : augD n op i d k (.int j) S = .next (d.set n (some (.int (op i j)))) (S.take k) := rfl
theorem s_raise {y : Str} : sRaise y d S = .exc ⟨y, []⟩ S := rfl
/-! what is walked -/
def itC (k : Nat) (w : W) (S : Store) : Res (List W × List (Nat × List W)) := match w with
  | .str x => .ok (signW x, []) (S.take k)
  | w => iterW k w S
theorem i_any : iAny f d S = (f d S).bind fun w S1 => itC S.length w S1 := rfl
theorem it_arr : itC k (.arr ws) S = .ok (ws, []) (S.take k) := rfl
theorem it_tpz : itC k (.tpz ws) S = .ok (ws, []) (S.take k) := rfl
theorem it_str {z : Str} : itC k (.str z) S = .ok (signW z, []) (S.take k) := rfl
theorem it_tup (h : W.immL ws = true) : itC k (.tup ws) S = .ok (ws, []) (S.take k) := by
  show (match iterG k (.tup ws) S with | some p => Res.ok p (S.take k) | none => .bad) = _
  have e : iterG k (.tup ws) S = some (ws, []) := if_pos (freeL_imm _ _ h)
  rw [e]
def itL (k l : Nat) (o : Option (List W)) (S : Store) : Res (List W × List (Nat × List W)) := match o with
  | some ws => .ok (if l < k then (ws, [(l, ws)]) else (ws, [])) (S.take k)
  | none => .bad
theorem it_loc : itC k (.loc n) S = itL k n (lstC S[n]?) S := by
  show (match iterG k (.loc n) S with | some p => Res.ok p (S.take k) | none => .bad) = _
  have e : iterG k (.loc n) S = (match lstC S[n]? with | some ws => if n < k then some (ws, [(n, ws)]) else some (ws, []) | none => none) := by
    rw [← lof_loc]
    rfl
  rw [e]
  unfold itL
  cases lstC S[n]? with
  | none => rfl
  | some ws =>
    dsimp only
    by_cases z : n < k
    · rw [if_pos z, if_pos z]
    · rw [if_neg z, if_neg z]
theorem itL_some : itL k l (some ws) S = .ok (if l < k then (ws, [(l, ws)]) else (ws, [])) (S.take k) := rfl
def rgC (k : Nat) (ws : List W) (S : Store) : Res (List W × List (Nat × List W)) := match ws with
  | [.int j] => if inR j then .ok (rngL 0 j, []) (S.take k) else .bad
  | [.int i, .int j] => if inR i && inR j then .ok (rngL i j, []) (S.take k) else .bad
  | _ => .bad
theorem i_rg1 : iRg1 (aCons f aNil) d S = (f d S).bind fun x S1 => rgC S.length [x] S1 := by
  unfold iRg1 aCons aNil
  cases f d S with
  | ok w S1 => cases w <;> rfl
  | exc y S1 => rfl
  | bad => rfl
theorem i_rg2 : iRg2 (aCons f (aCons g aNil)) d S = (f d S).bind fun x S1 => (g d S1).bind fun y S2 => rgC S.length [x, y] S2 := by
  unfold iRg2 aCons aNil
  cases f d S with
  | ok w S1 =>
    dsimp only [Res.bind]
    cases g d S1 with
    | ok u S2 =>
      dsimp only [Res.bind]
      cases w with
      | int i => cases u <;> rfl
      | _ => rfl
    | exc y S1 => rfl
    | bad => rfl
  | exc y S1 => rfl
  | bad => rfl
theorem rg1 (h : inR j = true) : rgC k [.int j] S = .ok (rngL 0 j, []) (S.take k) := if_pos h
theorem rg2 (h : inR i = true) (h2 : inR j = true) : rgC k [.int i, .int j] S = .ok (rngL i j, []) (S.take k) := by
  show (if (inR i && inR j) = true then _ else _) = _
  rw [h, h2]
  rfl
def enC (k : Nat) (w : W) (S : Store) : Res (List W × List (Nat × List W)) := match iterG k w S with
  | some p => .ok (numW p.1 0, p.2) (S.take k)
  | none => .bad
theorem i_en2 : iEn2 (aCons f aNil) d S = (f d S).bind fun x S1 => enC S.length x S1 := by
  unfold iEn2 aCons aNil
  cases f d S <;> rfl
theorem en_tup (h : W.immL ws = true) : enC k (.tup ws) S = .ok (numW ws 0, []) (S.take k) := by
  have e : iterG k (.tup ws) S = some (ws, []) := if_pos (freeL_imm _ _ h)
  unfold enC
  rw [e]
theorem s_for {gl : Bool} {h : MI} {g : MG} : sFor gl h g p d S = (h d S).thenS fun r S1 => forW gl S1.length g p r.2 r.1 d S1 := rfl
theorem s_wh {gl : Bool} : sWh gl t p d S = sWhile gl S.length t p WF d S := rfl
/-! defs -/
def retR (k : Nat) (r : SR) : Res W := match r with
  | .ret w S' => .ok (retW k w S').1 (retW k w S').2
  | .next _ S' => .ok .non (S'.take k)
  | .exc x S' => .exc x (S'.take k)
  | _ => .bad
theorem run_f {N : Nat} : runF N p ws S = retR S.length (p (ws.map some ++ List.replicate (N - ws.length) none) S) := by
  unfold runF retR
  cases p (ws.map some ++ List.replicate (N - ws.length) none) S <;> rfl
theorem retR_ret : retR k (.ret w S) = .ok (retW k w S).1 (retW k w S).2 := rfl
theorem retR_next : retR k (.next d S) = .ok .non (S.take k) := rfl
theorem retR_exc {y : XV} : retR k (.exc y S) = .exc y (S.take k) := rfl
theorem ret_imm (h : w.imm = true) : retW k w S = (w, S.take k) := by
  have q := free_imm w k h
  unfold retW
  cases w with
  | loc n => rw [imm_loc] at h; cases h
  | _ => dsimp only; rw [if_pos q]
theorem ret_loc : retW k (.loc l) S = gcW k (.loc l) S := rfl
/-- comprehensions -/
theorem e_lc {h : MI} {g : MG} {vs : List Nat} : eLc h g t f vs d S = (h d S).bind fun r S1 => lcW S1.length g t f r.2 r.1 (wipeD d vs) (S1 ++ [.lst []]) := rfl
theorem wipe_nil : wipeD d [] = d := rfl
theorem wipe_cons {vs : List Nat} : wipeD d (n :: vs) = (wipeD d vs).set n none := rfl
theorem t_tru : tTru d S = .ok true S := rfl
end
end PM
namespace PM
open PySem PySem.Spec L2
/-! ### loops run by simp -/
section
variable {gl : Bool} {k m n : Nat} {g : MG} {b : MS} {t : MT} {f : ME} {w : W} {ws : List W} {d d1 : Env1} {S S1 L : Store}
def turn (gl : Bool) (k : Nat) (go : Env1 → Store → SR) (r : SR) : SR := match r with
  | .next d' S' => go (fgE gl k d') (fgS gl k S')
  | .cont d' S' => go (fgE gl k d') (fgS gl k S')
  | .brk d' S' => .next d' S'
  | r => r
theorem turn_next {go : Env1 → Store → SR} : turn gl k go (.next d S) = go (fgE gl k d) (fgS gl k S) := rfl
theorem turn_cont {go : Env1 → Store → SR} : turn gl k go (.cont d S) = go (fgE gl k d) (fgS gl k S) := rfl
theorem turn_brk {go : Env1 → Store → SR} : turn gl k go (.brk d S) = .next d S := rfl
theorem turn_ret {go : Env1 → Store → SR} : turn gl k go (.ret w S) = .ret w S := rfl
theorem turn_exc {go : Env1 → Store → SR} {x : XV} : turn gl k go (.exc x S) = .exc x S := rfl
theorem fgE_t : fgE true k d = fgtD k d := rfl
theorem fgE_f : fgE false k d = d := rfl
theorem fgS_t : fgS true k S = S.take k := rfl
theorem fgS_f : fgS false k S = S := rfl
theorem fg_nil : fgtD k [] = [] := rfl
theorem fg_none : fgtD k (none :: d) = none :: fgtD k d := rfl
theorem fg_some : fgtD k (some w :: d) = (if w.free k then some w else none) :: fgtD k d := rfl
/-- a slot that no loop's end forgets -/
def keepO (k : Nat) (o : Option W) : Option W := match o with
  | some w => if w.free k then some w else none
  | none => none
theorem keepO_none : keepO k none = none := rfl
theorem keepO_some : keepO k (some w) = if w.free k then some w else none := rfl
theorem keepO_imm (h : w.imm = true) : keepO k (some w) = some w := by rw [keepO_some, free_imm w k h]; rfl
theorem fg_any {o : Option W} : fgtD k (o :: d) = keepO k o :: fgtD k d := rfl
def forC (gl : Bool) (k : Nat) (b : MS) (go : Env1 → Store → SR) (o : Option Env1) (S : Store) : SR := match o with
  | some d1 => turn gl k go (b d1 S)
  | none => .bad
theorem for_nil : forW gl k g b [] [] d S = .next d S := rfl
theorem for_cons : forW gl k g b [] (w :: ws) d S = forC gl k b (forW gl k g b [] ws) (g w S d) S := by
  show (if chk S [] then (match g w S d with
    | some d1 => (match b d1 S with
      | .next d' S' => fgt gl k d' S' (forW gl k g b [] ws)
      | .cont d' S' => fgt gl k d' S' (forW gl k g b [] ws)
      | .brk d' S' => .next d' S'
      | r => r)
    | none => .bad) else .bad) = _
  rw [if_pos (chk_nil S)]
  unfold forC
  cases g w S d with
  | none => rfl
  | some d1 =>
    dsimp only
    cases b d1 S <;> simp only [fgt_eq] <;> rfl
theorem forC_some {go : Env1 → Store → SR} : forC gl k b go (some d1) S = turn gl k go (b d1 S) := rfl
def whT (gl : Bool) (k : Nat) (t : MT) (b : MS) (n : Nat) (d : Env1) (m : Nat) (z : Bool) (S1 : Store) : SR := if z then turn gl k (sWhile gl k t b n) (b d (S1.take m)) else .next d (S1.take m)
theorem wh_s : sWhile gl k t b (n + 1) d S = (t d S).thenS (whT gl k t b n d S.length) := by
  show (t d S).thenS _ = _
  congr 1
  funext z S1
  unfold whT
  cases z with
  | false => rfl
  | true =>
    rw [if_pos rfl, if_pos rfl]
    cases b d (S1.take S.length) <;> simp only [fgt_eq] <;> rfl
theorem whT_t : whT gl k t b n d m true S = turn gl k (sWhile gl k t b n) (b d (S.take m)) := rfl
theorem whT_f : whT gl k t b n d m false S = .next d (S.take m) := rfl
theorem cast_lit {n : Nat} : ((no_index (OfNat.ofNat n : Nat)) : Int) = OfNat.ofNat n := rfl
theorem int_pos {n : Nat} : ((0 : Int) < ((n + 1 : Nat) : Int)) = True := propext ⟨fun _ => trivial, fun _ => by omega⟩
theorem int_len1 {n : Nat} : ((0 : Int) < ((1 + n : Nat) : Int)) = True := propext ⟨fun _ => trivial, fun _ => by omega⟩
theorem ln_lt0 : (0 < LN) = True := propext ⟨fun _ => trivial, fun _ => by decide⟩
theorem ln_lt1 : (1 < LN) = True := propext ⟨fun _ => trivial, fun _ => by decide⟩
theorem ln_lt2 : (2 < LN) = True := propext ⟨fun _ => trivial, fun _ => by decide⟩
theorem ln_le1 : (1 ≤ LN) = True := propext ⟨fun _ => trivial, fun _ => by decide⟩
theorem ln_le2 : (2 ≤ LN) = True := propext ⟨fun _ => trivial, fun _ => by decide⟩
theorem ln_le3 : (3 ≤ LN) = True := propext ⟨fun _ => trivial, fun _ => by decide⟩
def lc1 (go : Store → Res W) (k : Nat) (t : MT) (f : ME) (o : Option Env1) (S : Store) : Res W := match o with
  | none => .bad
  | some d1 => (noX (t d1 S)).bind fun z S1 => if z then (noX (f d1 S1)).bind fun y S2 => (match storeW y S2 with
        | some (y', S3) => (match S3[k]? with
          | some (.lst acc) => if acc.length < LN then go ((S3.set k (.lst (acc ++ [y']))).take S.length) else .bad
          | _ => .bad)
        | none => .bad)
      else go (S1.take S.length)
def lc2 (go : Store → Res W) (k : Nat) (f : ME) (d1 : Env1) (m : Nat) (z : Bool) (S1 : Store) : Res W := if z then (noX (f d1 S1)).bind fun y S2 => (match storeW y S2 with
        | some (y', S3) => (match S3[k]? with
          | some (.lst acc) => if acc.length < LN then go ((S3.set k (.lst (acc ++ [y']))).take m) else .bad
          | _ => .bad)
        | none => .bad)
      else go (S1.take m)
def lc3 (go : Store → Res W) (k m : Nat) (y : W) (S2 : Store) : Res W := match storeW y S2 with
        | some (y', S3) => (match S3[k]? with
          | some (.lst acc) => if acc.length < LN then go ((S3.set k (.lst (acc ++ [y']))).take m) else .bad
          | _ => .bad)
        | none => .bad
def lc4 (go : Store → Res W) (k m : Nat) (y : W) (S3 : Store) (c : Option Cell) : Res W := match c with
  | some (.lst acc) => if acc.length < LN then go ((S3.set k (.lst (acc ++ [y]))).take m) else .bad
  | _ => .bad
theorem lc_nil : lcW k g t f [] [] d S = .ok (.loc k) S := rfl
theorem lc_cons : lcW k g t f [] (w :: ws) d S = lc1 (fun S' => lcW k g t f [] ws d S') k t f (g w S d) S := by
  show (if chk S [] then _ else _) = _
  rw [if_pos (chk_nil S)]
  unfold lc1
  cases g w S d <;> rfl
theorem lc1_some {go : Store → Res W} : lc1 go k t f (some d1) S = (noX (t d1 S)).bind (lc2 go k f d1 S.length) := rfl
theorem lc2_t {go : Store → Res W} : lc2 go k f d1 m true S = (noX (f d1 S)).bind (lc3 go k m) := rfl
theorem lc2_f {go : Store → Res W} : lc2 go k f d1 m false S = go (S.take m) := rfl
theorem lc3_imm {go : Store → Res W} (h : w.imm = true) : lc3 go k m w S = lc4 go k m w S S[k]? := by
  unfold lc3
  rw [storeW_imm w S h]
  rfl
theorem lc4_lst {go : Store → Res W} {acc : List W} (h : acc.length < LN) : lc4 go k m w S (some (.lst acc)) = go ((S.set k (.lst (acc ++ [w]))).take m) := if_pos h
theorem noX_ok {α : Type} {x : α} : noX (.ok x S) = .ok x S := rfl
/-! comprehensions: items that no store touches -/
def LcStep (S : Store) (g : MG) (t : MT) (f : ME) (d : Env1) (w : W) (o : Option W) : Prop := ∀ acc, ∃ d1, g w (S ++ [.lst acc]) d = some d1 ∧ match o with
  | none => ∃ L, t d1 (S ++ [.lst acc]) = .ok false (S ++ .lst acc :: L)
  | some y => ∃ L L', t d1 (S ++ [.lst acc]) = .ok true (S ++ .lst acc :: L) ∧ f d1 (S ++ .lst acc :: L) = .ok y (S ++ .lst acc :: L') ∧ y.imm = true
theorem lc_fm {φ : W → Option W} : ∀ (ws acc : List W), (∀ w ∈ ws, LcStep S g t f d w (φ w)) → acc.length + ws.length ≤ LN →
    lcW S.length g t f [] ws d (S ++ [.lst acc]) = .ok (.loc S.length) (S ++ [.lst (acc ++ ws.filterMap φ)])
  | [], acc, _, _ => by
    unfold lcW
    rw [if_pos (chk_nil _), List.filterMap_nil, List.append_nil]
  | w :: ws, acc, h, hl => by
    have hl : acc.length + (ws.length + 1) ≤ LN := hl
    obtain ⟨d1, e1, q⟩ := h w (List.mem_cons_self ..) acc
    unfold lcW
    rw [if_pos (chk_nil _), e1]
    dsimp only
    cases z : φ w with
    | none =>
      rw [z] at q
      obtain ⟨L, e2⟩ := q
      rw [e2]
      dsimp only [noX, Res.bind]
      rw [if_neg Bool.false_ne_true]
      have e3 : (S ++ Cell.lst acc :: L).take (S ++ [Cell.lst acc]).length = S ++ [.lst acc] := by
        rw [st_len, st_take]; rfl
      rw [e3, List.filterMap_cons_none z]
      exact lc_fm ws acc (fun w hw => h w (List.mem_cons_of_mem _ hw)) (by omega)
    | some y =>
      rw [z] at q
      obtain ⟨L, L', e2, e3, e4⟩ := q
      rw [e2]
      dsimp only [noX, Res.bind]
      rw [if_pos rfl, e3]
      dsimp only [noX, Res.bind]
      rw [storeW_imm y _ e4]
      dsimp only
      have e5 : (S ++ Cell.lst acc :: L')[S.length]? = some (.lst acc) := by rw [st_get0]; rfl
      rw [e5]
      dsimp only
      rw [if_pos (by omega)]
      have e6 : ((S ++ Cell.lst acc :: L').set S.length (.lst (acc ++ [y]))).take (S ++ [Cell.lst acc]).length = S ++ [.lst (acc ++ [y])] := by
        rw [st_set0, st_len, List.set_cons_zero, st_take]; rfl
      rw [e6, List.filterMap_cons_some z]
      have e7 := lc_fm ws (acc ++ [y]) (fun w hw => h w (List.mem_cons_of_mem _ hw)) (by rw [List.length_append, List.length_singleton]; omega)
      rw [e7, List.append_assoc, List.singleton_append]
theorem lc_filterMap {φ : W → Option W} (hk : k = S.length) (hS : S1 = S ++ [.lst []]) (h : ∀ w ∈ ws, LcStep S g t f d w (φ w)) (hl : ws.length ≤ LN) :
    lcW k g t f [] ws d S1 = .ok (.loc S.length) (S ++ [.lst (ws.filterMap φ)]) := by
  subst hk hS
  exact lc_fm ws [] h (by rw [List.length_nil]; omega)
/-- .. all of them -/
theorem lc_map {h : W → W} (hk : k = S.length) (hS : S1 = S ++ [.lst []]) (hh : ∀ w ∈ ws, ∀ acc, ∃ d1, g w (S ++ [.lst acc]) d = some d1 ∧ ∃ L, f d1 (S ++ [.lst acc]) = .ok (h w) (S ++ .lst acc :: L) ∧ (h w).imm = true) (hl : ws.length ≤ LN) :
    lcW k g tTru f [] ws d S1 = .ok (.loc S.length) (S ++ [.lst (ws.map h)]) := by
  rw [lc_filterMap (φ := fun w => some (h w)) hk hS (fun w hw acc => ?_) hl]
  · rw [List.filterMap_eq_map']
  · obtain ⟨d1, e1, L, e2, e3⟩ := hh w hw acc
    exact ⟨d1, e1, [], L, rfl, e2, e3⟩
/-- .. those that a test lets -/
theorem lc_filter {p : W → Bool} (hk : k = S.length) (hS : S1 = S ++ [.lst []]) (hh : ∀ w ∈ ws, w.imm = true ∧ ∀ acc, ∃ d1, g w (S ++ [.lst acc]) d = some d1 ∧ ∃ L L', t d1 (S ++ [.lst acc]) = .ok (p w) (S ++ .lst acc :: L) ∧ f d1 (S ++ .lst acc :: L) = .ok w (S ++ .lst acc :: L')) (hl : ws.length ≤ LN) :
    lcW k g t f [] ws d S1 = .ok (.loc S.length) (S ++ [.lst (ws.filter p)]) := by
  rw [lc_filterMap (φ := fun w => if p w then some w else none) hk hS (fun w hw acc => ?_) hl]
  · have e : ws.filterMap (fun w => if p w = true then some w else none) = ws.filter p := by
      clear hh hl
      induction ws with
      | nil => rfl
      | cons w ws ih =>
        rw [List.filterMap_cons, List.filter_cons, ih]
        cases p w <;> rfl
    rw [e]
  · obtain ⟨h0, h1⟩ := hh w hw
    obtain ⟨d1, e1, L, L', e2, e3⟩ := h1 acc
    refine ⟨d1, e1, ?_⟩
    cases z : p w with
    | true => rw [z] at e2; exact ⟨L, L', e2, e3, h0⟩
    | false => rw [z] at e2; exact ⟨L, e2⟩
end
end PM
namespace PM
open PySem PySem.Spec L2
/-! ### paths; dicts of them; tuples of names -/
def pth (p : List Int) : W := .tup (p.map W.int)
def pk (p : List Int) : List Key := p.map Sum.inl
theorem pth_nil : pth [] = .tup [] := rfl
section
variable {p q : List Int} {i : Int} {S : Store} {kvs : List (List Key × W)} {w : W} {n k : Nat} {xs ys : List W} {x : Str} {L : List Str}
theorem imm_pth : (pth p).imm = true := by
  unfold pth
  rw [imm_tup]
  exact immL_mem fun x hx => by
    obtain ⟨i, _, rfl⟩ := List.mem_map.mp hx
    rfl
theorem keyL_ints : ∀ p : List Int, keyL (p.map W.int) = some (p.map Sum.inl)
  | [] => rfl
  | i :: p => by
    show (match keyL (p.map W.int) with | some ks => some (Sum.inl i :: ks) | none => none) = _
    rw [keyL_ints p]
    rfl
theorem pth_add (h : p.length + 1 ≤ LN) : opAdd (pth p) (.tup [.int i]) S = .ok (pth (p ++ [i])) S := by
  unfold pth opAdd
  dsimp only
  rw [if_pos (by rw [List.length_map]; exact h), List.map_append]
  rfl
theorem cix_pth : cellIx (some (.dT kvs)) (pth p) S = idxC (getW kvs (pk p)) S := by
  unfold pth pk
  rw [cix_dT (by rw [keyL_ints]; rfl)]
  unfold keyD
  rw [keyL_ints]
  rfl
theorem cs_pth (h : kvs.length < LN) : cellSet (some (.dT kvs)) n (pth p) w S = some (S.set n (.dT (putW kvs (pk p) w))) := by
  unfold pth pk
  rw [cs_dT (by rw [keyL_ints]; rfl) h]
  unfold keyD
  rw [keyL_ints]
  rfl
theorem pk_inj (h : pk p = pk q) : p = q := List.map_inj_right (fun _ _ e => Sum.inl.inj e) |>.mp h
theorem get_nil {κ : Type} [DecidableEq κ] {k : κ} : getW ([] : List (κ × W)) k = none := rfl
theorem get_put {κ : Type} [DecidableEq κ] {kvs : List (κ × W)} {k k' : κ} {w : W} : getW (putW kvs k w) k' = if k' = k then some w else getW kvs k' := by
  have nf : ∀ (l : List (κ × W)), (l.any fun p => decide (p.1 = k)) = false → getW l k = none := fun l h => by
    induction l with
    | nil => rfl
    | cons a l ih =>
      rw [List.any_cons, Bool.or_eq_false_iff] at h
      unfold getW
      rw [List.find?_cons, h.1]
      exact ih h.2
  unfold putW
  by_cases e : (kvs.any fun p => decide (p.1 = k)) = true
  · rw [if_pos e]
    by_cases h : k' = k
    · subst h
      rw [if_pos rfl]
      induction kvs with
      | nil => cases e
      | cons a l ih =>
        rw [List.map_cons]
        unfold getW
        rw [List.find?_cons]
        by_cases z : a.1 = k'
        · rw [if_pos z]
          simp [z]
        · rw [if_neg z]
          have z2 : decide (a.1 = k') = false := decide_eq_false z
          rw [z2]
          rw [List.any_cons, z2, Bool.false_or] at e
          exact ih e
    · rw [if_neg h]
      clear e
      induction kvs with
      | nil => rfl
      | cons a l ih =>
        rw [List.map_cons]
        unfold getW at ih ⊢
        rw [List.find?_cons, List.find?_cons]
        by_cases z : a.1 = k
        · rw [if_pos z]
          have z2 : decide (a.1 = k') = false := decide_eq_false fun y => h (y.symm.trans z)
          dsimp only
          rw [z2]
          exact ih
        · rw [if_neg z]
          cases z2 : decide (a.1 = k')
          · exact ih
          · rfl
  · rw [if_neg e]
    have e : (kvs.any fun p => decide (p.1 = k)) = false := by
      cases z : kvs.any fun p => decide (p.1 = k) with
      | true => exact absurd z e
      | false => rfl
    unfold getW
    rw [List.find?_append]
    by_cases h : k' = k
    · subst h
      rw [if_pos rfl]
      have z := nf kvs e
      unfold getW at z
      rw [Option.map_eq_none_iff.mp z]
      simp
    · rw [if_neg h]
      have z2 : decide (k = k') = false := decide_eq_false fun y => h y.symm
      rw [List.find?_cons]
      dsimp only
      rw [z2]
      simp
theorem len_put {κ : Type} [DecidableEq κ] {kvs : List (κ × W)} {k : κ} {w : W} : (putW kvs k w).length ≤ kvs.length + 1 := by
  unfold putW
  by_cases e : (kvs.any fun p => decide (p.1 = k)) = true
  · rw [if_pos e, List.length_map]; omega
  · rw [if_neg e, List.length_append, List.length_singleton]; omega
/-- a dict from paths that says nothing but val -/
def DI (val : List Int → Option W) (F : List (List Key × W)) : Prop := ∀ p w, getW F (pk p) = some w → val p = some w
def DH (F : List (List Key × W)) (p : List Int) : Prop := getW F (pk p) ≠ none
theorem di_nil {val} : DI val [] := fun p w h => by rw [get_nil] at h; cases h
theorem di_put {val} {F : List (List Key × W)} (h : DI val F) (e : val p = some w) : DI val (putW F (pk p) w) := fun q u hq => by
  rw [get_put] at hq
  by_cases z : pk q = pk p
  · rw [if_pos z] at hq
    rw [pk_inj z, e]
    exact hq
  · rw [if_neg z] at hq
    exact h q u hq
theorem dh_put {F : List (List Key × W)} (h : DH F q) : DH (putW F (pk p) w) q := by
  unfold DH
  rw [get_put]
  by_cases z : pk q = pk p
  · rw [if_pos z]; exact fun y => by cases y
  · rw [if_neg z]; exact h
theorem dh_self {F : List (List Key × W)} : DH (putW F (pk p) w) p := by
  unfold DH
  rw [get_put, if_pos rfl]
  exact fun y => by cases y
theorem di_get {val} {F : List (List Key × W)} (h : DI val F) (hp : DH F p) (e : val p = some w) : getW F (pk p) = some w := by
  cases z : getW F (pk p) with
  | none => exact absurd z hp
  | some u =>
    have := h p u z
    rw [e] at this
    exact this.symm
/-- names bound around -/
def nms (L : List Str) : W := .tpz (L.map W.str)
theorem nms_nil : nms [] = .tpz [] := rfl
theorem imm_nms : (nms L).imm = true := by
  unfold nms
  rw [imm_tpz]
  exact immL_mem fun x hx => by
    obtain ⟨i, _, rfl⟩ := List.mem_map.mp hx
    rfl
theorem nms_cons (h : L.length + 1 ≤ LN) : opAdd (.tpz [.str x]) (nms L) S = .ok (nms (x :: L)) S := by
  unfold nms opAdd
  dsimp only
  rw [if_pos (by rw [List.length_map, List.length_singleton]; omega)]
  rfl
theorem any_str : (L.map W.str).any (fun w => eqF w (.str x)) = decide (x ∈ L) := by
  induction L with
  | nil => rfl
  | cons y L ih =>
    rw [List.map_cons, List.any_cons, ih]
    show ((y == x) || decide (x ∈ L)) = _
    by_cases h : y = x
    · subst h; simp
    · have h1 : (y == x) = false := by simp [h]
      have h2 : ¬ x = y := fun e => h e.symm
      rw [h1]
      simp [h2]
theorem all_flat : (L.map W.str).all flatW = true := by
  rw [List.all_eq_true]
  intro w hw
  obtain ⟨y, _, rfl⟩ := List.mem_map.mp hw
  rfl
theorem in_nms : cmpIn false (.str x) (nms L) S = .ok (.bl (decide (x ∈ L))) S := by
  unfold cmpIn
  have e : inW S (.str x) (nms L) = some (decide (x ∈ L)) := by
    show (if (flatW (.str x) && (L.map W.str).all flatW) = true then some ((L.map W.str).any fun w => eqF w (.str x)) else none) = _
    rw [all_flat, any_str]
    rfl
  rw [e]
  rfl
def cellIn (c : Option Cell) (x : W) : Option Bool := match c with
  | some (.lst ws) => if flatW x && ws.all flatW then some (ws.any fun w => eqF w x) else none
  | some (.ice ws) => if flatW x && ws.all flatW then some (ws.any fun w => eqF w x) else none
  | some (.dT kvs) => match x with
    | .tup ws => match keyL ws with
      | some ks => some (getW kvs ks).isSome
      | none => none
    | _ => none
  | some (.dK kvs) => match key1 x with
    | some k => some (getW kvs k).isSome
    | none => none
  | none => none
def inR' (neg : Bool) (o : Option Bool) (S : Store) : Res W := match o with
  | some b => .ok (.bl (if neg then !b else b)) S
  | none => .bad
theorem inR_some {neg b : Bool} : inR' neg (some b) S = .ok (.bl (if neg then !b else b)) S := rfl
theorem in_loc {neg : Bool} : cmpIn neg w (.loc n) S = inR' neg (cellIn S[n]? w) S := by
  have e : inW S w (.loc n) = cellIn S[n]? w := by
    unfold inW
    dsimp only
    rw [sof_loc]
    cases e : S[n]? with
    | none => unfold lstC cellIn dicGet; dsimp only; rw [e]
    | some c => cases c with
      | lst ws => rfl
      | ice ws => rfl
      | dT kvs =>
        unfold lstC cellIn dicGet
        dsimp only
        rw [e]
        dsimp only
        cases w with
        | tup ws => dsimp only; cases keyL ws <;> rfl
        | _ => rfl
      | dK kvs =>
        unfold lstC cellIn dicGet
        dsimp only
        rw [e]
        dsimp only
        cases key1 w <;> rfl
  unfold cmpIn
  rw [e]
  rfl
theorem ci_strs : cellIn (some (.lst (L.map W.str))) (.str x) = some (decide (x ∈ L)) := by
  show (if (flatW (.str x) && (L.map W.str).all flatW) = true then some ((L.map W.str).any fun w => eqF w (.str x)) else none) = _
  rw [all_flat, any_str]
  rfl
theorem ci_pth : cellIn (some (.dT kvs)) (pth p) = some (getW kvs (pk p)).isSome := by
  show (match keyL (p.map W.int) with | some ks => some (getW kvs ks).isSome | none => none) = _
  rw [keyL_ints]
  rfl
theorem strsOf_map : ∀ L : List Str, strsOf (L.map W.str) = some L
  | [] => rfl
  | x :: L => by
    show (match strsOf (L.map W.str) with | some bs => some (x :: bs) | none => none) = _
    rw [strsOf_map L]
theorem tix_nms (h : posOf x L = some n) : tixA (nms L) (.str x) S = .ok (.int (n : Nat)) S := by
  show (match strsOf (L.map W.str) with | some bs => (match posOf x bs with | some j => Res.ok (W.int (j : Nat)) S | none => .bad) | none => .bad) = _
  rw [strsOf_map]
  dsimp only
  rw [h]
theorem mth_nms {r : W → List W → Store → Res W} {fs : MA} {d : Env1} : mthC isZ r fs d (nms L) S = (fs d S).bind fun xs S2 => r (nms L) xs S2 := rfl
theorem pos_mem : ∀ {L : List Str}, (posOf x L).isSome = decide (x ∈ L)
  | [] => rfl
  | y :: L => by
    rw [posOf]
    by_cases h : y = x
    · rw [if_pos h]; subst h; simp
    · rw [if_neg h, Option.isSome_map, pos_mem]
      have h2 : ¬ x = y := fun e => h e.symm
      simp [h2]
theorem ev_max : max2W (.int i) (.int j) S = .ok (.int (max i j)) S := by
  show Res.ok (W.int (if j > i then j else i)) S = _
  congr 2
  by_cases h : j > i
  · rw [if_pos h]; omega
  · rw [if_neg h]; omega
end
end PM
namespace PM
open PySem PySem.Spec L2
/-! ### ranges, rows, things frozen -/
section
variable {S S1 S2 : Store} {d : Env1} {w a b : W} {i j lo hi : Int} {n m k l : Nat} {ws xs ys : List W} {f : ME}
theorem rng_cons (h : lo < hi) : rngL lo hi = .int lo :: rngL (lo + 1) hi := by
  unfold rngL
  have e : (hi - lo).toNat = (hi - (lo + 1)).toNat + 1 := by omega
  rw [e, List.range_succ_eq_map, List.map_cons, List.map_map]
  congr 1
  · congr 1
    omega
  · apply List.map_congr_left
    intro x _
    show W.int (lo + ((x + 1 : Nat) : Int)) = W.int (lo + 1 + (x : Nat))
    congr 1
    omega
theorem rng_nil (h : hi ≤ lo) : rngL lo hi = [] := by
  unfold rngL
  have e : (hi - lo).toNat = 0 := by omega
  rw [e]
  rfl
def appF (c : Option Cell) (n m : Nat) (S : Store) : Res W := match c with
  | some (.lst ws) => appC (S.set m (.ice ws))[n]? n (.arr ws) (S.set m (.ice ws))
  | some (.ice ws) => appC S[n]? n (.arr ws) S
  | _ => .bad
theorem app_fr : appW (.loc n) [.loc m] S = appF S[m]? n m S := by
  show (match storeW (.loc m) S with | some (a', S1) => (match S1[n]? with | some (.lst xs) => if xs.length < LN then Res.ok W.non (S1.set n (.lst (xs ++ [a']))) else .bad | _ => .bad) | none => .bad) = _
  rw [storeW]
  unfold appF
  cases S[m]? with
  | none => rfl
  | some c => cases c <;> rfl
theorem appF_lst : appF (some (.lst ws)) n m S = appC (S.set m (.ice ws))[n]? n (.arr ws) (S.set m (.ice ws)) := rfl
theorem appF_ice : appF (some (.ice ws)) n m S = appC S[n]? n (.arr ws) S := rfl
def newF (c : Option Cell) (m : Nat) (S : Store) : Res W := match c with
  | some (.lst ws) => .ok (.loc S.length) (S.set m (.ice ws) ++ [.lst [.arr ws]])
  | some (.ice ws) => .ok (.loc S.length) (S ++ [.lst [.arr ws]])
  | _ => .bad
theorem lst_fr : newLst [.loc m] S = newF S[m]? m S := by
  unfold newLst
  rw [storeL, storeW]
  unfold newF
  cases S[m]? with
  | none => rfl
  | some c => cases c with
    | lst ws =>
      show (if 1 ≤ LN then Res.ok (W.loc (S.set m (.ice ws)).length) (S.set m (.ice ws) ++ [.lst [.arr ws]]) else .bad) = _
      rw [if_pos (by decide), List.length_set]
    | ice ws => rfl
    | dT kvs => rfl
    | dK kvs => rfl
theorem newF_lst : newF (some (.lst ws)) m S = .ok (.loc S.length) (S.set m (.ice ws) ++ [.lst [.arr ws]]) := rfl
theorem newF_ice : newF (some (.ice ws)) m S = .ok (.loc S.length) (S ++ [.lst [.arr ws]]) := rfl
def mulC (o : Option (List W)) (k : Int) (S : Store) : Res W := match o with
  | some a => if k < 2 ^ 62 && (-(2 ^ 62) < k) && (a.length * k.toNat ≤ LN) then .ok (.loc S.length) (S ++ [.lst (List.replicate k.toNat a).flatten]) else .bad
  | none => .bad
theorem mul_loc : opMul (.loc n) (.int i) S = mulC (lstC S[n]?) i S := by
  rw [← lof_loc]
  rfl
theorem mulC_one (h : k ≤ LN) : mulC (some [a]) (k : Nat) S = .ok (.loc S.length) (S ++ [.lst (List.replicate k a)]) := by
  unfold mulC
  have hln : LN = 16777216 := rfl
  dsimp only
  rw [if_pos ?_]
  · have e : (List.replicate ((k : Nat) : Int).toNat [a]).flatten = List.replicate k a := by
      rw [Int.toNat_natCast]
      induction k with
      | zero => rfl
      | succ k ih =>
        rw [List.replicate_succ, List.flatten_cons, ih (by omega)]
        rfl
    rw [e]
  · simp only [Bool.and_eq_true, decide_eq_true_eq, List.length_singleton, Int.toNat_natCast]
    omega
/-- sums from o on, c of them -/
def sm (g : Nat → Int) : Nat → Nat → Int
  | _, 0 => 0
  | o, c + 1 => g o + sm g (o + 1) c
/-- rows of a table -/
def trow (T : Nat → Int) (n : Nat) : List W := (List.range n).map fun b => .int (T b)
def tab (T : Nat → Nat → Int) (wide n : Nat) : List W := (List.range n).map fun s => .arr (trow (T s) wide)
theorem trow_len {T : Nat → Int} : (trow T n).length = n := by unfold trow; rw [List.length_map, List.length_range]
theorem tab_len {T : Nat → Nat → Int} : (tab T m n).length = n := by unfold tab; rw [List.length_map, List.length_range]
theorem trow_succ {T : Nat → Int} : trow T (n + 1) = trow T n ++ [.int (T n)] := by
  unfold trow
  rw [List.range_succ, List.map_append]
  rfl
theorem tab_succ {T : Nat → Nat → Int} : tab T m (n + 1) = tab T m n ++ [.arr (trow (T n) m)] := by
  unfold tab
  rw [List.range_succ, List.map_append]
  rfl
theorem at_trow {T : Nat → Int} (h : l < n) : atI (trow T n) (l : Nat) = some (.int (T l)) := at_nat (by unfold trow; rw [List.getElem?_map, List.getElem?_range h]; rfl)
theorem at_tab {T : Nat → Nat → Int} (h : l < n) : atI (tab T m n) (l : Nat) = some (.arr (trow (T l) m)) := at_nat (by unfold tab; rw [List.getElem?_map, List.getElem?_range h]; rfl)
theorem inR_nat (h : n ≤ 1000000000) : inR ((n : Nat) : Int) = true := by
  unfold inR
  simp only [Bool.and_eq_true, decide_eq_true_eq]
  omega
theorem inR_0 : inR 0 = true := by decide
theorem inR_1 : inR 1 = true := by decide
theorem inR_of (h1 : -4611686018427387904 ≤ i) (h2 : i < 4611686018427387904) : inR i = true := by
  unfold inR
  simp only [Bool.and_eq_true, decide_eq_true_eq]
  omega
/-! a thing that stood is written -/
section
variable {L : Store} {c c' : Cell}
theorem st_getS : (S.set m c ++ L)[S.length + k]? = L[k]? := by rw [← List.length_set (as := S) (i := m) (a := c), st_get]
theorem st_get0S : (S.set m c ++ L)[S.length]? = L[0]? := st_getS (k := 0)
theorem st_setS : (S.set m c ++ L).set (S.length + k) c' = S.set m c ++ L.set k c' := by rw [← List.length_set (as := S) (i := m) (a := c), st_set]
theorem st_set0S : (S.set m c ++ L).set S.length c' = S.set m c ++ L.set 0 c' := st_setS (k := 0)
theorem st_takeS : (S.set m c ++ L).take (S.length + k) = S.set m c ++ L.take k := by rw [← List.length_set (as := S) (i := m) (a := c), st_take]
theorem st_take0S : (S.set m c ++ L).take S.length = S.set m c := by rw [← List.length_set (as := S) (i := m) (a := c), st_take0]
theorem st_take1S : (S.set m c).take S.length = S.set m c := by rw [← List.length_set (as := S) (i := m) (a := c), List.take_length]
theorem st_selfS (h : m < S.length) : (S.set m c ++ L)[m]? = some c := by rw [List.getElem?_append_left (by rw [List.length_set]; exact h), List.getElem?_set_self h]
theorem st_selfS1 (h : m < S.length) : (S.set m c)[m]? = some c := List.getElem?_set_self h
theorem st_againS (h : m < S.length) : (S.set m c ++ L).set m c' = S.set m c' ++ L := by rw [List.set_append_left _ _ (by rw [List.length_set]; exact h), List.set_set]
theorem st_againS1 : (S.set m c).set m c' = S.set m c' := List.set_set _
theorem st_asS (h : S[m]? = some c) : S = S.set m c := by
  obtain ⟨hm, e⟩ := List.getElem?_eq_some_iff.mp h
  rw [← e, List.set_getElem_self]
end
/-! comprehensions over what is told by trees -/
section
variable {α : Type} {g : MG} {t : MT} {e : α → W}
theorem lc_fmA {φ : α → Option W} : ∀ (xs : List α) (acc : List W), (∀ x ∈ xs, LcStep S g t f d (e x) (φ x)) → acc.length + xs.length ≤ LN →
    lcW S.length g t f [] (xs.map e) d (S ++ [.lst acc]) = .ok (.loc S.length) (S ++ [.lst (acc ++ xs.filterMap φ)])
  | [], acc, _, _ => by
    rw [List.map_nil, lc_nil, List.filterMap_nil, List.append_nil]
  | x :: xs, acc, h, hl => by
    have hl : acc.length + (xs.length + 1) ≤ LN := hl
    obtain ⟨d1, e1, q⟩ := h x (List.mem_cons_self ..) acc
    rw [List.map_cons, lc_cons, e1, lc1_some]
    cases z : φ x with
    | none =>
      rw [z] at q
      obtain ⟨L, e2⟩ := q
      have e3 : (S ++ Cell.lst acc :: L).take (S ++ [Cell.lst acc]).length = S ++ [.lst acc] := by
        rw [st_len, st_take]; rfl
      rw [e2, noX_ok, ev_bind, lc2_f, e3, List.filterMap_cons_none z]
      exact lc_fmA xs acc (fun w hw => h w (List.mem_cons_of_mem _ hw)) (by omega)
    | some y =>
      rw [z] at q
      obtain ⟨L, L', e2, e3, e4⟩ := q
      rw [e2, noX_ok, ev_bind, lc2_t, e3, noX_ok, ev_bind, lc3_imm e4, st_get0]
      have e6 : ((S ++ Cell.lst acc :: L').set S.length (.lst (acc ++ [y]))).take (S ++ [Cell.lst acc]).length = S ++ [.lst (acc ++ [y])] := by
        rw [st_set0, st_len, List.set_cons_zero, st_take]; rfl
      rw [List.getElem?_cons_zero, lc4_lst (by omega), e6, List.filterMap_cons_some z]
      have e7 := lc_fmA xs (acc ++ [y]) (fun w hw => h w (List.mem_cons_of_mem _ hw)) (by rw [List.length_append, List.length_singleton]; omega)
      rw [e7, List.append_assoc, List.singleton_append]
theorem lc_mapA {xs : List α} {h : α → W} (hk : k = S.length) (hS : S1 = S ++ [.lst []]) (hh : ∀ x ∈ xs, ∀ acc, ∃ d1, g (e x) (S ++ [.lst acc]) d = some d1 ∧ ∃ L, f d1 (S ++ [.lst acc]) = .ok (h x) (S ++ .lst acc :: L) ∧ (h x).imm = true) (hl : xs.length ≤ LN) :
    lcW k g tTru f [] (xs.map e) d S1 = .ok (.loc S.length) (S ++ [.lst (xs.map h)]) := by
  subst hk hS
  rw [lc_fmA (φ := fun x => some (h x)) xs [] (fun x hx acc => ?_) (by rw [List.length_nil]; omega)]
  · rw [List.filterMap_eq_map']
    rfl
  · obtain ⟨d1, e1, L, e2, e3⟩ := hh x hx acc
    exact ⟨d1, e1, [], L, rfl, e2, e3⟩
theorem lc_filterA {xs : List α} {p : α → Bool} {h : α → W} (hk : k = S.length) (hS : S1 = S ++ [.lst []]) (hh : ∀ x ∈ xs, (h x).imm = true ∧ ∀ acc, ∃ d1, g (e x) (S ++ [.lst acc]) d = some d1 ∧ ∃ L L', t d1 (S ++ [.lst acc]) = .ok (p x) (S ++ .lst acc :: L) ∧ f d1 (S ++ .lst acc :: L) = .ok (h x) (S ++ .lst acc :: L')) (hl : xs.length ≤ LN) :
    lcW k g t f [] (xs.map e) d S1 = .ok (.loc S.length) (S ++ [.lst ((xs.filter p).map h)]) := by
  subst hk hS
  rw [lc_fmA (φ := fun x => if p x then some (h x) else none) xs [] (fun x hx acc => ?_) (by rw [List.length_nil]; omega)]
  · have e : xs.filterMap (fun x => if p x = true then some (h x) else none) = (xs.filter p).map h := by
      clear hh hl
      induction xs with
      | nil => rfl
      | cons x xs ih =>
        rw [List.filterMap_cons, List.filter_cons, ih]
        cases p x <;> rfl
    rw [e]
    rfl
  · obtain ⟨h0, h1⟩ := hh x hx
    obtain ⟨d1, e1, L, L', e2, e3⟩ := h1 acc
    refine ⟨d1, e1, ?_⟩
    cases z : p x with
    | true => rw [z] at e2; exact ⟨L, L', e2, e3, h0⟩
    | false => rw [z] at e2; exact ⟨L, e2⟩
end
def stF (c : Option Cell) (n : Nat) (S : Store) : Option (W × Store) := match c with
  | some (.lst ws) => some (.arr ws, S.set n (.ice ws))
  | some (.ice ws) => some (.arr ws, S)
  | _ => none
theorem storeW_loc : storeW (.loc n) S = stF S[n]? n S := by
  rw [storeW]
  cases S[n]? with
  | none => rfl
  | some c => cases c <;> rfl
theorem stF_lst : stF (some (.lst ws)) n S = some (.arr ws, S.set n (.ice ws)) := rfl
theorem stF_ice : stF (some (.ice ws)) n S = some (.arr ws, S) := rfl
theorem cix_t2 {kvs : List (List Key × W)} : cellIx (some (.dT kvs)) (.tup [.int i, .int j]) S = idxC (getW kvs (pk [i, j])) S := cix_pth (p := [i, j])
theorem cs_t2 {kvs : List (List Key × W)} (h : kvs.length < LN) : cellSet (some (.dT kvs)) n (.tup [.int i, .int j]) w S = some (S.set n (.dT (putW kvs (pk [i, j]) w))) := cs_pth (p := [i, j]) h
theorem ci_t2 {kvs : List (List Key × W)} : cellIn (some (.dT kvs)) (.tup [.int i, .int j]) = some (getW kvs (pk [i, j])).isSome := ci_pth (p := [i, j])
theorem tup_pth2 : W.tup [.int i, .int j] = pth [i, j] := rfl
def lrgC (w : W) (S : Store) : Res W := match w with
  | .int n => lrgW 0 n S
  | _ => .bad
theorem e_lrg1 : eLrg1 f d S = (f d S).bind lrgC := rfl
theorem lrgC_nat (h : n ≤ 1000000) : lrgC (.int (n : Nat)) S = .ok (.loc S.length) (S ++ [.lst ((List.range n).map fun i => .int (i : Nat))]) := by
  have e0 : lrgC (.int (n : Nat)) S = lrgW 0 (n : Nat) S := rfl
  rw [e0]
  unfold lrgW
  have e : rgOk 0 (n : Nat) = true := by
    unfold rgOk
    simp only [Bool.and_eq_true, decide_eq_true_eq]
    omega
  have e2 : (((n : Nat) : Int) - 0).toNat = n := by omega
  have e3 : rgW 0 (n : Nat) = (List.range n).map fun i => .int (i : Nat) := by
    unfold rgW
    rw [e2]
    apply List.map_congr_left
    intro i _
    show W.int (0 + (i : Nat)) = _
    rw [Int.zero_add]
  rw [e, e3]
  exact if_pos rfl
end
end PM
namespace PM
open PySem PySem.Spec L2
/-! ### == of things without truth values -/
mutual
def pdW : W → Bool
  | .non => true
  | .int _ => true
  | .str x => sOk x
  | .tup ws => pdL ws
  | .arr ws => pdL ws
  | _ => false
def pdL : List W → Bool
  | [] => true
  | w :: ws => pdW w && pdL ws
end
mutual
def dpW : W → Nat
  | .tup ws => dpL ws + 1
  | .arr ws => dpL ws + 1
  | _ => 0
def dpL : List W → Nat
  | [] => 0
  | w :: ws => max (dpW w) (dpL ws)
end
mutual
def dW : W → PyData
  | .int i => .int i
  | .str x => .str x
  | .tup ws => .tuple (dL ws)
  | .arr ws => .list (dL ws)
  | _ => .none
def dL : List W → List PyData
  | [] => []
  | w :: ws => dW w :: dL ws
end
mutual
theorem toD0_pd : ∀ w : W, pdW w = true → toD0 w = some (dW w)
  | .non, _ => by simp [toD0, dW]
  | .int i, _ => by simp [toD0, dW]
  | .str x, _ => by simp [toD0, dW]
  | .tup ws, h => by rw [pdW] at h; rw [toD0, toDL0_pd ws h, dW]
  | .arr ws, h => by rw [pdW] at h; rw [toD0, toDL0_pd ws h, dW]
  | .bl b, h => by simp [pdW] at h
  | .loc n, h => by simp [pdW] at h
  | .fn x, h => by simp [pdW] at h
  | .scr x, h => by simp [pdW] at h
  | .tpz x, h => by simp [pdW] at h
  | .twk x, h => by simp [pdW] at h
theorem toDL0_pd : ∀ ws : List W, pdL ws = true → toDL0 ws = some (dL ws)
  | [], _ => by simp [toDL0, dL]
  | w :: ws, h => by
    rw [pdL, Bool.and_eq_true] at h
    rw [toDL0, toD0_pd w h.1, toDL0_pd ws h.2, dL]
end
mutual
theorem toD_pd (S : Store) : ∀ w : W, pdW w = true → toD S w = some (dW w)
  | .non, _ => by simp [toD, toD0, dW]
  | .int i, _ => by simp [toD, toD0, dW]
  | .str x, _ => by simp [toD, toD0, dW]
  | .tup ws, h => by rw [pdW] at h; rw [toD, toDL_pd S ws h, dW]
  | .arr ws, h => by
    have e := toD0_pd (.arr ws) h
    rw [← e]
    simp [toD]
  | .bl b, h => by simp [pdW] at h
  | .loc n, h => by simp [pdW] at h
  | .fn x, h => by simp [pdW] at h
  | .scr x, h => by simp [pdW] at h
  | .tpz x, h => by simp [pdW] at h
  | .twk x, h => by simp [pdW] at h
theorem toDL_pd (S : Store) : ∀ ws : List W, pdL ws = true → toDL S ws = some (dL ws)
  | [], _ => by simp [toDL, dL]
  | w :: ws, h => by
    rw [pdL, Bool.and_eq_true] at h
    rw [toDL, toD_pd S w h.1, toDL_pd S ws h.2, dL]
end
mutual
theorem lay_pd : ∀ w : W, pdW w = true → (dW w).canLay0 = true ∧ (dW w).depth = dpW w
  | .non, _ => by simp [dW, PyData.canLay0, PyData.depth, dpW]
  | .int i, _ => by simp [dW, PyData.canLay0, PyData.depth, dpW]
  | .str x, h => by
    rw [pdW] at h
    exact ⟨h, by simp [dW, PyData.depth, dpW]⟩
  | .tup ws, h => by
    rw [pdW] at h
    obtain ⟨h1, h2⟩ := layL_pd ws h
    rw [dW, PyData.canLay0, PyData.depth, dpW, h2]
    exact ⟨h1, rfl⟩
  | .arr ws, h => by
    rw [pdW] at h
    obtain ⟨h1, h2⟩ := layL_pd ws h
    rw [dW, PyData.canLay0, PyData.depth, dpW, h2]
    exact ⟨h1, rfl⟩
  | .bl b, h => by simp [pdW] at h
  | .loc n, h => by simp [pdW] at h
  | .fn x, h => by simp [pdW] at h
  | .scr x, h => by simp [pdW] at h
  | .tpz x, h => by simp [pdW] at h
  | .twk x, h => by simp [pdW] at h
theorem layL_pd : ∀ ws : List W, pdL ws = true → PyData.canLayAll0 (dL ws) = true ∧ PyData.depthAll (dL ws) = dpL ws
  | [], _ => by simp [dL, PyData.canLayAll0, PyData.depthAll, dpL]
  | w :: ws, h => by
    rw [pdL, Bool.and_eq_true] at h
    obtain ⟨a1, a2⟩ := lay_pd w h.1
    obtain ⟨b1, b2⟩ := layL_pd ws h.2
    rw [dL, PyData.canLayAll0, PyData.depthAll, dpL, a1, a2, b1, b2]
    exact ⟨rfl, rfl⟩
end
mutual
theorem eqv_pd : ∀ w u : W, pdW w = true → pdW u = true → PyData.eqv (dW w) (dW u) = W.beq w u
  | .non, u, _, h => by cases u <;> simp [pdW, dW, PyData.eqv, W.beq] at h ⊢
  | .int i, u, _, h => by
    cases u <;> simp [pdW, dW, PyData.eqv, W.beq] at h ⊢
    rename_i j
    by_cases z : i = j <;> simp [z]
  | .str x, u, _, h => by
    cases u <;> simp [pdW, dW, PyData.eqv, W.beq] at h ⊢
    rename_i j
    by_cases z : x = j <;> simp [z]
  | .tup ws, u, h1, h => by
    rw [pdW] at h1
    cases u <;> simp only [pdW, dW, PyData.eqv, W.beq] at h ⊢
    · exact eqvL_pd ws _ h1 h
    all_goals (first | rfl | exact absurd h Bool.false_ne_true)
  | .arr ws, u, h1, h => by
    rw [pdW] at h1
    cases u <;> simp only [pdW, dW, PyData.eqv, W.beq] at h ⊢
    · exact eqvL_pd ws _ h1 h
    all_goals (first | rfl | exact absurd h Bool.false_ne_true)
  | .bl b, u, h, _ => by simp [pdW] at h
  | .loc n, u, h, _ => by simp [pdW] at h
  | .fn x, u, h, _ => by simp [pdW] at h
  | .scr x, u, h, _ => by simp [pdW] at h
  | .tpz x, u, h, _ => by simp [pdW] at h
  | .twk x, u, h, _ => by simp [pdW] at h
theorem eqvL_pd : ∀ ws us : List W, pdL ws = true → pdL us = true → PyData.eqvAll (dL ws) (dL us) = W.beqL ws us
  | [], [], _, _ => by simp [dL, PyData.eqvAll, W.beqL]
  | [], u :: us, _, _ => by simp [dL, PyData.eqvAll, W.beqL]
  | w :: ws, [], _, _ => by simp [dL, PyData.eqvAll, W.beqL]
  | w :: ws, u :: us, h1, h2 => by
    rw [pdL, Bool.and_eq_true] at h1 h2
    rw [dL, dL, PyData.eqvAll, W.beqL, eqv_pd w u h1.1 h2.1, eqvL_pd ws us h1.2 h2.2]
end
section
variable {S : Store} {w u : W} {ws us : List W} {n m : Nat}
theorem shaped_pd (h : pdW w = true) (hd : dpW w ≤ 64) : SeqAt.shaped (dW w) = true := by
  obtain ⟨h1, h2⟩ := lay_pd w h
  unfold SeqAt.shaped
  rw [h1, h2]
  exact decide_eq_true hd
theorem eqW_pd (h1 : pdW w = true) (h2 : pdW u = true) (d1 : dpW w ≤ 64) (d2 : dpW u ≤ 64) : eqW S w u = some (W.beq w u) := by
  unfold eqW
  rw [toD_pd S w h1, toD_pd S u h2]
  dsimp only
  rw [shaped_pd h1 d1, shaped_pd h2 d2, eqv_pd w u h1 h2]
  rfl
theorem eq_pd (h1 : pdW w = true) (h2 : pdW u = true) (d1 : dpW w ≤ 64) (d2 : dpW u ≤ 64) : cmpEq w u S = .ok (.bl (W.beq w u)) S := by
  unfold cmpEq
  rw [eqW_pd h1 h2 d1 d2]
theorem ne_pd (h1 : pdW w = true) (h2 : pdW u = true) (d1 : dpW w ≤ 64) (d2 : dpW u ≤ 64) : cmpNe w u S = .ok (.bl (!W.beq w u)) S := by
  unfold cmpNe
  rw [eqW_pd h1 h2 d1 d2]
/-- lists, told by what is in them -/
def valW (c : Option Cell) : W := match c with
  | some (.lst ws) => .arr ws
  | some (.ice ws) => .arr ws
  | _ => .non
def isLC (c : Option Cell) : Bool := match c with
  | some (.lst _) => true
  | some (.ice _) => true
  | _ => false
theorem valW_lst : valW (some (.lst ws)) = .arr ws := rfl
theorem valW_ice : valW (some (.ice ws)) = .arr ws := rfl
theorem isLC_lst : isLC (some (.lst ws)) = true := by rfl
theorem isLC_ice : isLC (some (.ice ws)) = true := by rfl
theorem toD_loc (h : isLC S[n]? = true) (h2 : pdW (valW S[n]?) = true) : toD S (.loc n) = some (dW (valW S[n]?)) := by
  rw [toD, lof_loc]
  cases e : S[n]? with
  | none => rw [e] at h; cases h
  | some c => cases c with
    | lst ws =>
      rw [e] at h2
      have h2 : pdL ws = true := by rw [valW, pdW] at h2; exact h2
      rw [lstC_lst]
      dsimp only
      rw [toDL0_pd ws h2, valW, dW]
    | ice ws =>
      rw [e] at h2
      have h2 : pdL ws = true := by rw [valW, pdW] at h2; exact h2
      rw [lstC_ice]
      dsimp only
      rw [toDL0_pd ws h2, valW, dW]
    | dT k => rw [e] at h; cases h
    | dK k => rw [e] at h; cases h
theorem eqW_ll (h1 : isLC S[n]? = true) (h2 : isLC S[m]? = true) (p1 : pdW (valW S[n]?) = true) (p2 : pdW (valW S[m]?) = true) (d1 : dpW (valW S[n]?) ≤ 64) (d2 : dpW (valW S[m]?) ≤ 64) : eqW S (.loc n) (.loc m) = some (W.beq (valW S[n]?) (valW S[m]?)) := by
  unfold eqW
  rw [toD_loc h1 p1, toD_loc h2 p2]
  dsimp only
  rw [shaped_pd p1 d1, shaped_pd p2 d2, eqv_pd _ _ p1 p2]
  rfl
theorem eq_ll (h1 : isLC S[n]? = true) (h2 : isLC S[m]? = true) (p1 : pdW (valW S[n]?) = true) (p2 : pdW (valW S[m]?) = true) (d1 : dpW (valW S[n]?) ≤ 64) (d2 : dpW (valW S[m]?) ≤ 64) : cmpEq (.loc n) (.loc m) S = .ok (.bl (W.beq (valW S[n]?) (valW S[m]?))) S := by
  unfold cmpEq
  rw [eqW_ll h1 h2 p1 p2 d1 d2]
theorem ne_ll (h1 : isLC S[n]? = true) (h2 : isLC S[m]? = true) (p1 : pdW (valW S[n]?) = true) (p2 : pdW (valW S[m]?) = true) (d1 : dpW (valW S[n]?) ≤ 64) (d2 : dpW (valW S[m]?) ≤ 64) : cmpNe (.loc n) (.loc m) S = .ok (.bl (!W.beq (valW S[n]?) (valW S[m]?))) S := by
  unfold cmpNe
  rw [eqW_ll h1 h2 p1 p2 d1 d2]
theorem pd_int {i : Int} : pdW (.int i) = true := by rw [pdW]
theorem pd_non : pdW .non = true := by rw [pdW]
theorem pd_str {x : Str} : pdW (.str x) = sOk x := by rw [pdW]
theorem pd_tup : pdW (.tup ws) = pdL ws := by rw [pdW]
theorem pd_arr : pdW (.arr ws) = pdL ws := by rw [pdW]
theorem pdl_nil : pdL [] = true := by rw [pdL]
theorem pdl_cons : pdL (w :: ws) = (pdW w && pdL ws) := by rw [pdL]
theorem dp_int {i : Int} : dpW (.int i) = 0 := by simp [dpW]
theorem dp_non : dpW .non = 0 := by simp [dpW]
theorem dp_str {x : Str} : dpW (.str x) = 0 := by simp [dpW]
theorem dp_tup : dpW (.tup ws) = dpL ws + 1 := by rw [dpW]
theorem dp_arr : dpW (.arr ws) = dpL ws + 1 := by rw [dpW]
theorem dpl_nil : dpL [] = 0 := by rw [dpL]
theorem dpl_cons : dpL (w :: ws) = max (dpW w) (dpL ws) := by rw [dpL]
theorem beq_int {i j : Int} : W.beq (.int i) (.int j) = decide (i = j) := by rw [W.beq]
theorem beq_str {x y : Str} : W.beq (.str x) (.str y) = decide (x = y) := by rw [W.beq]
theorem beq_arr : W.beq (.arr ws) (.arr us) = W.beqL ws us := by rw [W.beq]
theorem beq_tup : W.beq (.tup ws) (.tup us) = W.beqL ws us := by rw [W.beq]
theorem beqL_nil : W.beqL [] [] = true := by rw [W.beqL]
theorem beqL_cons : W.beqL (w :: ws) (u :: us) = (W.beq w u && W.beqL ws us) := by rw [W.beqL]
theorem beq_ne (h : w ≠ u) : W.beq w u = false := by
  cases e : W.beq w u with
  | true => exact absurd (W.eq_of_beq w u e) h
  | false => rfl
end
end PM
namespace PB
open PM
/- 1 _law_any -/
def b_law_any (c : Nat → MF) : MS :=
  (sRet (eBin subIx (eVar 1) (eFn 2 (c 7) (aCons (eVar 0) (aCons (eCall (on1 lenW) (aCons (eVar 1) aNil)) aNil)))))
/- 2 many_ends -/
def b_many_ends (c : Nat → MF) : MS :=
  (sSeq (sExpr (eFn 3 (c 6) (aCons (eVar 0) (aCons (eC (.int 1)) (aCons (eC (.int 40)) aNil)))))
    (sSeq (sExpr (eFn 3 (c 6) (aCons (eVar 1) (aCons (eC (.int 0)) (aCons (eC (.int 6)) aNil)))))
    (sRet (eBin subIx (eBin subIx (eBin subIx (eFn 2 (c 5) (aCons (eVar 0) (aCons (eVar 1) aNil))) (eC (.int 0))) (eVar 0)) (eVar 1)))))
/- 3 _law_is_right -/
def b_law_is_right_1 (c : Nat → MF) : MS :=
  (sSeq (sAsg 5 (eBin opAdd (eC (.int 1)) (eFn 2 (c 7) (aCons (eVar 0) (aCons (eVar 2) aNil)))))
    (sSeq (sAsg 6 (eBin subIx (eBin subIx (eVar 3) (eTup (aCons (eVar 5) (aCons (eVar 1) aNil)))) (eC (.int 0))))
    (sSeq (sIf (tOrM (tst (eBin cmpNe (eLst (aCons (eFn 2 (c 2) (aCons (eVar 5) (aCons (eVar 1) aNil))) (aCons (eFn 2 (c 2) (aCons (eVar 5) (aCons (eVar 1) aNil))) aNil))) (eLst (aCons (eVar 6) (aCons (eVar 6) aNil))))) (tst (eBin cmpGt (eVar 6) (eFn 2 (c 12) (aCons (eVar 5) (aCons (eVar 1) aNil)))))) (sRet (eC (.bl false))) sNil)
    (sIf (tAndM (tst (eBin cmpLt (eVar 1) (eC (.int 6)))) (tst (eBin cmpLt (eFn 2 (c 2) (aCons (eVar 5) (aCons (eBin opAdd (eVar 1) (eC (.int 1))) aNil))) (eVar 6)))) (sRet (eC (.bl false))) sNil))))
def b_law_is_right (c : Nat → MF) : MS :=
  (sSeq (sPar [1, 2] (aCons (eFn 2 (c 7) (aCons (eVar 0) (aCons (eC (.int 7)) aNil))) (aCons (eFn 2 (c 1) (aCons (eVar 0) (aCons (eLst (aCons (eC (.int 6)) (aCons (eC (.int 14)) aNil))) aNil))) aNil)))
    (sSeq (sAsg 3 (eFn 3 (c 13) (aCons (eVar 2) (aCons (eVar 1) (aCons (eC (.bl true)) aNil)))))
    (sSeq (sFor true (iRg1 (aCons (eC (.int 6)) aNil)) (bName 4) (b_law_is_right_1 c))
    (sSeq (sAsg 5 (eBin opAdd (eC (.int 1)) (eFn 2 (c 7) (aCons (eVar 0) (aCons (eC (.int 6)) aNil)))))
    (sSeq (sIf (tOrM (tst (eBin cmpLt (eVar 5) (eC (.int 6)))) (tst (eBin cmpLt (eVar 1) (eC (.int 3))))) (sIf (tst (eBin cmpNe (eFn 2 (c 2) (aCons (eVar 5) (aCons (eVar 1) aNil))) (eCall (on1 lenW) (aCons (eLc (iAny (eFn 3 (c 10) (aCons (eVar 5) (aCons (eVar 1) (aCons eDT aNil))))) (bName 7) (tst (eFn 1 (c 11) (aCons (eVar 7) aNil))) (eVar 7) [7]) aNil)))) (sRet (eC (.bl false))) sNil) sNil)
    (sRet (eBin cmpEq (eFn 2 (c 2) (aCons (eVar 5) (aCons (eC (.int 0)) aNil))) (eCall (on1 lenW) (aCons (eLc (iAny (eFn 1 (c 8) (aCons (eVar 5) aNil))) (bName 7) (tst (eFn 1 (c 9) (aCons (eVar 7) aNil))) (eVar 7) [7]) aNil)))))))))
theorem x_law_is_right_1 {c : Nat → MF} {d : Env1} {S : Store} : b_law_is_right_1 c d S = (sSeq (sAsg 5 (eBin opAdd (eC (.int 1)) (eFn 2 (c 7) (aCons (eVar 0) (aCons (eVar 2) aNil)))))
    (sSeq (sAsg 6 (eBin subIx (eBin subIx (eVar 3) (eTup (aCons (eVar 5) (aCons (eVar 1) aNil)))) (eC (.int 0))))
    (sSeq (sIf (tOrM (tst (eBin cmpNe (eLst (aCons (eFn 2 (c 2) (aCons (eVar 5) (aCons (eVar 1) aNil))) (aCons (eFn 2 (c 2) (aCons (eVar 5) (aCons (eVar 1) aNil))) aNil))) (eLst (aCons (eVar 6) (aCons (eVar 6) aNil))))) (tst (eBin cmpGt (eVar 6) (eFn 2 (c 12) (aCons (eVar 5) (aCons (eVar 1) aNil)))))) (sRet (eC (.bl false))) sNil)
    (sIf (tAndM (tst (eBin cmpLt (eVar 1) (eC (.int 6)))) (tst (eBin cmpLt (eFn 2 (c 2) (aCons (eVar 5) (aCons (eBin opAdd (eVar 1) (eC (.int 1))) aNil))) (eVar 6)))) (sRet (eC (.bl false))) sNil)))) d S := rfl
/- 4 _law_hand -/
def b_law_hand (c : Nat → MF) : MS :=
  (sSeq (sAsg 1 (eLc (iAny (eSl (eVar 0) oNo (oAt (eC (.int 63))))) (bName 2) tTru (eCall (on1 absW) (aCons (eCall (on1 intW) (aCons (eVar 2) aNil)) aNil)) [2]))
    (sRet (eLst (aCons (eVar 1) (aCons (eC (.int 0)) (aCons (eC (.int 0)) (aCons (eBin opAdd (eC (.int 83)) (eBin opMul (eC (.int 5)) (eCall (on1 lenW) (aCons (eVar 1) aNil)))) (aCons (eC (.int 0)) aNil))))))))
/- 5 ends_sized -/
def b_ends_sized_3 (c : Nat → MF) : MS :=
  (sAug 9 (fun i j => i + j) (eBin opMul (eBin subIx (eBin subIx (eVar 4) (eVar 10)) (eVar 8)) (eBin subIx (eBin subIx (eVar 3) (eBin opSub (eBin opSub (eVar 5) (eC (.int 1))) (eVar 10))) (eVar 8))))
def b_ends_sized_2 (c : Nat → MF) : MS :=
  (sSeq (sAsg 9 (eIf (tst (eBin cmpEq (eVar 5) (eC (.int 1)))) (eVar 8) (eC (.int 0))))
    (sSeq (sFor true (iRg2 (aCons (eC (.int 1)) (aCons (eBin opSub (eVar 5) (eC (.int 1))) aNil))) (bName 10) (b_ends_sized_3 c))
    (sSeq (sExpr (eMeth isL appW (eVar 7) (aCons (eVar 9) aNil)))
    (sExpr (eMeth isL appW (eVar 6) (aCons (eBin opAdd (eVar 9) (eIf (tAndM (tst (eBin cmpGt (eVar 5) (eC (.int 1)))) (tst (eBin cmpLt (eBin opAdd (eVar 8) (eC (.int 1))) (eVar 2)))) (eBin subIx (eBin subIx (eVar 3) (eBin opSub (eVar 5) (eC (.int 1)))) (eBin opAdd (eVar 8) (eC (.int 1)))) (eC (.int 0)))) aNil))))))
def b_ends_sized_1 (c : Nat → MF) : MS :=
  (sSeq (sPar [6, 7] (aCons (eLst aNil) (aCons (eLst aNil) aNil)))
    (sSeq (sFor true (iRg1 (aCons (eVar 2) aNil)) (bName 8) (b_ends_sized_2 c))
    (sSeq (sExpr (eMeth isL appW (eVar 3) (aCons (eVar 6) aNil)))
    (sExpr (eMeth isL appW (eVar 4) (aCons (eVar 7) aNil))))))
def b_ends_sized (c : Nat → MF) : MS :=
  (sSeq (sAsg 2 (eBin opAdd (eBin opAdd (eVar 0) (eVar 1)) (eC (.int 2))))
    (sSeq (sPar [3, 4] (aCons (eLst (aCons (eBin opMul (eLst (aCons (eC (.int 0)) aNil)) (eVar 2)) aNil)) (aCons (eLst (aCons (eBin opMul (eLst (aCons (eC (.int 0)) aNil)) (eVar 2)) aNil)) aNil)))
    (sSeq (sFor true (iRg2 (aCons (eC (.int 1)) (aCons (eBin opAdd (eVar 0) (eC (.int 1))) aNil))) (bName 5) (b_ends_sized_1 c))
    (sRet (eTup (aCons (eVar 3) (aCons (eVar 4) aNil)))))))
theorem x_ends_sized_3 {c : Nat → MF} {d : Env1} {S : Store} : b_ends_sized_3 c d S = (sAug 9 (fun i j => i + j) (eBin opMul (eBin subIx (eBin subIx (eVar 4) (eVar 10)) (eVar 8)) (eBin subIx (eBin subIx (eVar 3) (eBin opSub (eBin opSub (eVar 5) (eC (.int 1))) (eVar 10))) (eVar 8)))) d S := rfl
theorem x_ends_sized_2 {c : Nat → MF} {d : Env1} {S : Store} : b_ends_sized_2 c d S = (sSeq (sAsg 9 (eIf (tst (eBin cmpEq (eVar 5) (eC (.int 1)))) (eVar 8) (eC (.int 0))))
    (sSeq (sFor true (iRg2 (aCons (eC (.int 1)) (aCons (eBin opSub (eVar 5) (eC (.int 1))) aNil))) (bName 10) (b_ends_sized_3 c))
    (sSeq (sExpr (eMeth isL appW (eVar 7) (aCons (eVar 9) aNil)))
    (sExpr (eMeth isL appW (eVar 6) (aCons (eBin opAdd (eVar 9) (eIf (tAndM (tst (eBin cmpGt (eVar 5) (eC (.int 1)))) (tst (eBin cmpLt (eBin opAdd (eVar 8) (eC (.int 1))) (eVar 2)))) (eBin subIx (eBin subIx (eVar 3) (eBin opSub (eVar 5) (eC (.int 1)))) (eBin opAdd (eVar 8) (eC (.int 1)))) (eC (.int 0)))) aNil)))))) d S := rfl
theorem x_ends_sized_1 {c : Nat → MF} {d : Env1} {S : Store} : b_ends_sized_1 c d S = (sSeq (sPar [6, 7] (aCons (eLst aNil) (aCons (eLst aNil) aNil)))
    (sSeq (sFor true (iRg1 (aCons (eVar 2) aNil)) (bName 8) (b_ends_sized_2 c))
    (sSeq (sExpr (eMeth isL appW (eVar 3) (aCons (eVar 6) aNil)))
    (sExpr (eMeth isL appW (eVar 4) (aCons (eVar 7) aNil)))))) d S := rfl
/- 6 check_number -/
def b_check_number (c : Nat → MF) : MS :=
  (sIf (tNotM (tst (eFn 3 (c 14) (aCons (eVar 0) (aCons (eVar 1) (aCons (eVar 2) aNil)))))) (sRaise "NoNumber") sNil)
/- 7 _law_draw -/
def b_law_draw (c : Nat → MF) : MS :=
  (sSeq (sIf (tAndM (tst (eBin cmpEq (eBin subIx (eVar 0) (eC (.int 2))) (eC (.int 0)))) (tst (eBin cmpLt (eBin subIx (eVar 0) (eC (.int 1))) (eCall (on1 lenW) (aCons (eBin subIx (eVar 0) (eC (.int 0))) aNil))))) (sSeq (sAsg 2 (eBin subIx (eBin subIx (eVar 0) (eC (.int 0))) (eBin subIx (eVar 0) (eC (.int 1)))))
    (sSeq (sSetIx (eBin opAdd (eBin subIx (eVar 0) (eC (.int 1))) (eC (.int 1))) (eVar 0) (eC (.int 1)))
    (sSeq (sSetIx (eBin opMod (eCall (on1 intW) (aCons (eBin opAdd (eBin opAdd (eBin opMul (eBin subIx (eVar 0) (eC (.int 3))) (eC (.int 69621))) (eBin opMul (eVar 2) (eC (.int 40692)))) (eC (.int 17))) aNil)) (eC (.int 2147483629))) (eVar 0) (eC (.int 3)))
    (sIf (tst (eBin cmpGe (eVar 2) (eBin opPow (eC (.int 10)) (eC (.int 18))))) (sSetIx (eVar 2) (eVar 0) (eC (.int 2))) sNil)))) sNil)
    (sSeq (sIf (tst (eBin cmpGt (eBin subIx (eVar 0) (eC (.int 2))) (eC (.int 0)))) (sSeq (sAsg 3 (eBin opMod (eCall (on1 intW) (aCons (eBin subIx (eVar 0) (eC (.int 2))) aNil)) (eVar 1)))
    (sSeq (sSetIx (eBin opDiv (eBin subIx (eVar 0) (eC (.int 2))) (eVar 1)) (eVar 0) (eC (.int 2)))
    (sRet (eVar 3)))) sNil)
    (sSeq (sSetIx (eBin opAdd (eBin subIx (eVar 0) (eC (.int 4))) (eC (.int 1))) (eVar 0) (eC (.int 4)))
    (sSeq (sAsg 4 (eBin opMod (eCall (on1 intW) (aCons (eBin opMul (eCall (on1 intW) (aCons (eBin opAdd (eBin subIx (eVar 0) (eC (.int 3))) (eBin opMul (eC (.int 7919)) (eBin subIx (eVar 0) (eC (.int 4))))) aNil)) (eC (.int 48271))) aNil)) (eC (.int 2147483647))))
    (sSeq (sAsg 4 (eBin opMod (eCall (on1 intW) (aCons (eBin opMul (eVar 4) (eBin opAdd (eBin opDiv (eVar 4) (eC (.int 1009))) (eC (.int 69621)))) aNil)) (eC (.int 2147483647))))
    (sSeq (sAsg 4 (eBin opMod (eCall (on1 intW) (aCons (eBin opMul (eVar 4) (eBin opAdd (eBin opDiv (eVar 4) (eC (.int 2003))) (eC (.int 40014)))) aNil)) (eC (.int 2147483563))))
    (sRet (eBin opMod (eCall (on1 intW) (aCons (eBin opDiv (eVar 4) (eC (.int 16))) aNil)) (eVar 1)))))))))
/- 8 all_closed -/
def b_all_closed (c : Nat → MF) : MS :=
  (sSeq (sExpr (eFn 3 (c 6) (aCons (eVar 0) (aCons (eC (.int 1)) (aCons (eC (.int 9)) aNil)))))
    (sRet (eLc (iAny (eFn 2 (c 15) (aCons (eVar 0) (aCons (eC (.int 0)) aNil)))) (bName 1) tTru (eFn 1 (c 16) (aCons (eVar 1) aNil)) [1])))
/- 9 is_end -/
def b_is_end (c : Nat → MF) : MS :=
  (sSeq (sExpr (eFn 1 (c 19) (aCons (eVar 0) aNil)))
    (sRet (eBin cmpEq (eCall (on1 lenW) (aCons (eFn 1 (c 18) (aCons (eFn 1 (c 17) (aCons (eVar 0) aNil)) aNil)) aNil)) (eC (.int 0)))))
/- 10 _law_terms -/
def b_law_terms_2 (c : Nat → MF) : MS :=
  (sExpr (eMeth isL extW (eVar 3) (aCons (eLc (iAny (eFn 3 (c 10) (aCons (eBin opSub (eBin opSub (eVar 0) (eC (.int 1))) (eVar 4)) (aCons (eVar 1) (aCons (eVar 2) aNil))))) (bName 6) tTru (eTup (aCons (eC (.str "of")) (aCons (eVar 5) (aCons (eVar 6) aNil)))) [6]) aNil)))
def b_law_terms_1 (c : Nat → MF) : MS :=
  (sFor true (iAny (eFn 3 (c 10) (aCons (eVar 4) (aCons (eVar 1) (aCons (eVar 2) aNil))))) (bName 5) (b_law_terms_2 c))
def b_law_terms (c : Nat → MF) : MS :=
  (sSeq (sIf (tst (eBin (cmpIn false) (eTup (aCons (eVar 0) (aCons (eVar 1) aNil))) (eVar 2))) (sRet (eBin subIx (eVar 2) (eTup (aCons (eVar 0) (aCons (eVar 1) aNil))))) sNil)
    (sSeq (sAsg 3 (eLst aNil))
    (sSeq (sIf (tst (eBin cmpEq (eVar 0) (eC (.int 1)))) (sAsg 3 (eLrg1 (eVar 1))) sNil)
    (sSeq (sFor true (iRg2 (aCons (eC (.int 1)) (aCons (eBin opSub (eVar 0) (eC (.int 1))) aNil))) (bName 4) (b_law_terms_1 c))
    (sSeq (sIf (tst (eBin cmpGt (eVar 0) (eC (.int 1)))) (sExpr (eMeth isL extW (eVar 3) (aCons (eLc (iAny (eFn 3 (c 10) (aCons (eBin opSub (eVar 0) (eC (.int 1))) (aCons (eBin opAdd (eVar 1) (eC (.int 1))) (aCons (eVar 2) aNil))))) (bName 7) tTru (eTup (aCons (eC (.str "with")) (aCons (eVar 7) aNil))) [7]) aNil))) sNil)
    (sSeq (sSetIx (eVar 3) (eVar 2) (eTup (aCons (eVar 0) (aCons (eVar 1) aNil))))
    (sRet (eVar 3))))))))
theorem x_law_terms_2 {c : Nat → MF} {d : Env1} {S : Store} : b_law_terms_2 c d S = (sExpr (eMeth isL extW (eVar 3) (aCons (eLc (iAny (eFn 3 (c 10) (aCons (eBin opSub (eBin opSub (eVar 0) (eC (.int 1))) (eVar 4)) (aCons (eVar 1) (aCons (eVar 2) aNil))))) (bName 6) tTru (eTup (aCons (eC (.str "of")) (aCons (eVar 5) (aCons (eVar 6) aNil)))) [6]) aNil))) d S := rfl
theorem x_law_terms_1 {c : Nat → MF} {d : Env1} {S : Store} : b_law_terms_1 c d S = (sFor true (iAny (eFn 3 (c 10) (aCons (eVar 4) (aCons (eVar 1) (aCons (eVar 2) aNil))))) (bName 5) (b_law_terms_2 c)) d S := rfl
/- 11 _law_is_end -/
def b_law_is_end (c : Nat → MF) : MS :=
  (sSeq (sIf (tst (eIsi "int" (eVar 0))) (sRet (eC (.bl true))) sNil)
    (sSeq (sIf (tst (eBin cmpEq (eBin subIx (eVar 0) (eC (.int 0))) (eC (.str "with")))) (sRet (eFn 1 (c 11) (aCons (eBin subIx (eVar 0) (eC (.int 1))) aNil))) sNil)
    (sSeq (sIf (tAndM (tNotM (tst (eIsi "int" (eBin subIx (eVar 0) (eC (.int 1)))))) (tst (eBin cmpEq (eBin subIx (eBin subIx (eVar 0) (eC (.int 1))) (eC (.int 0))) (eC (.str "with"))))) (sRet (eC (.bl false))) sNil)
    (sRet (eAndM (eFn 1 (c 11) (aCons (eBin subIx (eVar 0) (eC (.int 1))) aNil)) (eFn 1 (c 11) (aCons (eBin subIx (eVar 0) (eC (.int 2))) aNil)))))))
/- 12 many_terms -/
def b_many_terms (c : Nat → MF) : MS :=
  (sSeq (sExpr (eFn 3 (c 6) (aCons (eVar 0) (aCons (eC (.int 1)) (aCons (eC (.int 40)) aNil)))))
    (sSeq (sExpr (eFn 3 (c 6) (aCons (eVar 1) (aCons (eC (.int 0)) (aCons (eC (.int 6)) aNil)))))
    (sRet (eBin subIx (eBin subIx (eFn 2 (c 20) (aCons (eVar 0) (aCons (eVar 1) aNil))) (eVar 0)) (eVar 1)))))
/- 13 _law_choices -/
def b_law_choices_3 (c : Nat → MF) : MS :=
  (sSeq (sAsg 9 (eBin subIx (eBin subIx (eVar 3) (eTup (aCons (eVar 8) (aCons (eVar 5) aNil)))) (eCall (on1 intW) (aCons (eVar 2) aNil))))
    (sAsg 6 (eBin opAdd (eVar 6) (eBin opMul (eVar 9) (eBin subIx (eBin subIx (eVar 3) (eTup (aCons (eBin opSub (eBin opSub (eVar 4) (eC (.int 1))) (eVar 8)) (aCons (eVar 5) aNil)))) (eC (.int 0)))))))
def b_law_choices_2 (c : Nat → MF) : MS :=
  (sSeq (sAsgT (bTup 2 (bCons (bName 6) (bCons (bName 7) bNil))) (eTup (aCons (eC (.int 0)) (aCons (eC (.int 0)) aNil))))
    (sSeq (sIf (tst (eBin cmpEq (eVar 4) (eC (.int 1)))) (sPar [6, 7] (aCons (eVar 5) (aCons (eVar 5) aNil))) sNil)
    (sSeq (sFor true (iRg2 (aCons (eC (.int 1)) (aCons (eBin opSub (eVar 4) (eC (.int 1))) aNil))) (bName 8) (b_law_choices_3 c))
    (sSeq (sIf (tst (eBin cmpGt (eVar 4) (eC (.int 1)))) (sAsg 7 (eBin opAdd (eVar 6) (eBin subIx (eBin subIx (eVar 3) (eTup (aCons (eBin opSub (eVar 4) (eC (.int 1))) (aCons (eBin opAdd (eVar 5) (eC (.int 1))) aNil)))) (eC (.int 0))))) sNil)
    (sSetIx (eTup (aCons (eVar 7) (aCons (eVar 6) aNil))) (eVar 3) (eTup (aCons (eVar 4) (aCons (eVar 5) aNil))))))))
def b_law_choices_1 (c : Nat → MF) : MS :=
  (sFor true (iRg1 (aCons (eBin opAdd (eBin opSub (eBin opAdd (eVar 1) (eVar 0)) (eVar 4)) (eC (.int 1))) aNil)) (bName 5) (b_law_choices_2 c))
def b_law_choices (c : Nat → MF) : MS :=
  (sSeq (sAsg 3 eDT)
    (sSeq (sFor true (iRg2 (aCons (eC (.int 1)) (aCons (eBin opAdd (eVar 0) (eC (.int 1))) aNil))) (bName 4) (b_law_choices_1 c))
    (sRet (eVar 3))))
theorem x_law_choices_3 {c : Nat → MF} {d : Env1} {S : Store} : b_law_choices_3 c d S = (sSeq (sAsg 9 (eBin subIx (eBin subIx (eVar 3) (eTup (aCons (eVar 8) (aCons (eVar 5) aNil)))) (eCall (on1 intW) (aCons (eVar 2) aNil))))
    (sAsg 6 (eBin opAdd (eVar 6) (eBin opMul (eVar 9) (eBin subIx (eBin subIx (eVar 3) (eTup (aCons (eBin opSub (eBin opSub (eVar 4) (eC (.int 1))) (eVar 8)) (aCons (eVar 5) aNil)))) (eC (.int 0))))))) d S := rfl
theorem x_law_choices_2 {c : Nat → MF} {d : Env1} {S : Store} : b_law_choices_2 c d S = (sSeq (sAsgT (bTup 2 (bCons (bName 6) (bCons (bName 7) bNil))) (eTup (aCons (eC (.int 0)) (aCons (eC (.int 0)) aNil))))
    (sSeq (sIf (tst (eBin cmpEq (eVar 4) (eC (.int 1)))) (sPar [6, 7] (aCons (eVar 5) (aCons (eVar 5) aNil))) sNil)
    (sSeq (sFor true (iRg2 (aCons (eC (.int 1)) (aCons (eBin opSub (eVar 4) (eC (.int 1))) aNil))) (bName 8) (b_law_choices_3 c))
    (sSeq (sIf (tst (eBin cmpGt (eVar 4) (eC (.int 1)))) (sAsg 7 (eBin opAdd (eVar 6) (eBin subIx (eBin subIx (eVar 3) (eTup (aCons (eBin opSub (eVar 4) (eC (.int 1))) (aCons (eBin opAdd (eVar 5) (eC (.int 1))) aNil)))) (eC (.int 0))))) sNil)
    (sSetIx (eTup (aCons (eVar 7) (aCons (eVar 6) aNil))) (eVar 3) (eTup (aCons (eVar 4) (aCons (eVar 5) aNil)))))))) d S := rfl
theorem x_law_choices_1 {c : Nat → MF} {d : Env1} {S : Store} : b_law_choices_1 c d S = (sFor true (iRg1 (aCons (eBin opAdd (eBin opSub (eBin opAdd (eVar 1) (eVar 0)) (eVar 4)) (eC (.int 1))) aNil)) (bName 5) (b_law_choices_2 c)) d S := rfl
/- 14 is_within -/
def b_is_within (c : Nat → MF) : MS :=
  (sRet (eAndM (eFn 1 (c 21) (aCons (eVar 0) aNil)) (eChain cmpLe cmpLe (eVar 1) (eVar 0) (eVar 2))))
/- 15 raw_listed -/
def b_raw_listed_4 (c : Nat → MF) : MS :=
  (sExpr (eMeth isL extW (eVar 5) (aCons (eLc (iAny (eBin subIx (eVar 2) (eTup (aCons (eBin opSub (eBin opSub (eVar 3) (eC (.int 1))) (eVar 6)) (aCons (eVar 4) aNil))))) (bName 8) tTru (eTup (aCons (eC (.str "of")) (aCons (eVar 7) (aCons (eVar 8) aNil)))) [8]) aNil)))
def b_raw_listed_3 (c : Nat → MF) : MS :=
  (sFor true (iAny (eBin subIx (eVar 2) (eTup (aCons (eVar 6) (aCons (eVar 4) aNil))))) (bName 7) (b_raw_listed_4 c))
def b_raw_listed_2 (c : Nat → MF) : MS :=
  (sSeq (sAsg 5 (eIf (tst (eBin cmpEq (eVar 3) (eC (.int 1)))) (eLrg1 (eVar 4)) (eLst aNil)))
    (sSeq (sFor true (iRg2 (aCons (eC (.int 1)) (aCons (eBin opSub (eVar 3) (eC (.int 1))) aNil))) (bName 6) (b_raw_listed_3 c))
    (sSeq (sIf (tst (eBin cmpGt (eVar 3) (eC (.int 1)))) (sExpr (eMeth isL extW (eVar 5) (aCons (eLc (iAny (eBin subIx (eVar 2) (eTup (aCons (eBin opSub (eVar 3) (eC (.int 1))) (aCons (eBin opAdd (eVar 4) (eC (.int 1))) aNil))))) (bName 9) tTru (eTup (aCons (eC (.str "with")) (aCons (eVar 9) aNil))) [9]) aNil))) sNil)
    (sSetIx (eVar 5) (eVar 2) (eTup (aCons (eVar 3) (aCons (eVar 4) aNil)))))))
def b_raw_listed_1 (c : Nat → MF) : MS :=
  (sFor true (iRg1 (aCons (eBin opAdd (eBin opSub (eBin opAdd (eVar 1) (eVar 0)) (eVar 3)) (eC (.int 1))) aNil)) (bName 4) (b_raw_listed_2 c))
def b_raw_listed (c : Nat → MF) : MS :=
  (sSeq (sAsg 2 eDT)
    (sSeq (sFor true (iRg2 (aCons (eC (.int 1)) (aCons (eBin opAdd (eVar 0) (eC (.int 1))) aNil))) (bName 3) (b_raw_listed_1 c))
    (sRet (eBin subIx (eVar 2) (eTup (aCons (eVar 0) (aCons (eVar 1) aNil)))))))
theorem x_raw_listed_4 {c : Nat → MF} {d : Env1} {S : Store} : b_raw_listed_4 c d S = (sExpr (eMeth isL extW (eVar 5) (aCons (eLc (iAny (eBin subIx (eVar 2) (eTup (aCons (eBin opSub (eBin opSub (eVar 3) (eC (.int 1))) (eVar 6)) (aCons (eVar 4) aNil))))) (bName 8) tTru (eTup (aCons (eC (.str "of")) (aCons (eVar 7) (aCons (eVar 8) aNil)))) [8]) aNil))) d S := rfl
theorem x_raw_listed_3 {c : Nat → MF} {d : Env1} {S : Store} : b_raw_listed_3 c d S = (sFor true (iAny (eBin subIx (eVar 2) (eTup (aCons (eVar 6) (aCons (eVar 4) aNil))))) (bName 7) (b_raw_listed_4 c)) d S := rfl
theorem x_raw_listed_2 {c : Nat → MF} {d : Env1} {S : Store} : b_raw_listed_2 c d S = (sSeq (sAsg 5 (eIf (tst (eBin cmpEq (eVar 3) (eC (.int 1)))) (eLrg1 (eVar 4)) (eLst aNil)))
    (sSeq (sFor true (iRg2 (aCons (eC (.int 1)) (aCons (eBin opSub (eVar 3) (eC (.int 1))) aNil))) (bName 6) (b_raw_listed_3 c))
    (sSeq (sIf (tst (eBin cmpGt (eVar 3) (eC (.int 1)))) (sExpr (eMeth isL extW (eVar 5) (aCons (eLc (iAny (eBin subIx (eVar 2) (eTup (aCons (eBin opSub (eVar 3) (eC (.int 1))) (aCons (eBin opAdd (eVar 4) (eC (.int 1))) aNil))))) (bName 9) tTru (eTup (aCons (eC (.str "with")) (aCons (eVar 9) aNil))) [9]) aNil))) sNil)
    (sSetIx (eVar 5) (eVar 2) (eTup (aCons (eVar 3) (aCons (eVar 4) aNil))))))) d S := rfl
theorem x_raw_listed_1 {c : Nat → MF} {d : Env1} {S : Store} : b_raw_listed_1 c d S = (sFor true (iRg1 (aCons (eBin opAdd (eBin opSub (eBin opAdd (eVar 1) (eVar 0)) (eVar 3)) (eC (.int 1))) aNil)) (bName 4) (b_raw_listed_2 c)) d S := rfl
/- 16 raw_named -/
def b_raw_named_1 (c : Nat → MF) : MS :=
  (sIf (tst (eIsi "str" (eVar 8))) (sSetIx (eVar 8) (eVar 10) (eVar 7)) (sIf (tst (eFn 1 (c 21) (aCons (eVar 8) aNil))) (sSetIx (eBin subIx (eVar 2) (eBin opSub (eBin opSub (eVar 9) (eC (.int 1))) (eVar 8))) (eVar 10) (eVar 7)) (sIf (tst (eBin cmpEq (eBin subIx (eVar 8) (eC (.int 0))) (eC (.str "of")))) (sSetIx (eTup (aCons (eC (.str "of")) (aCons (eBin subIx (eVar 10) (eBin opAdd (eVar 7) (eTup (aCons (eC (.int 0)) aNil)))) (aCons (eBin subIx (eVar 10) (eBin opAdd (eVar 7) (eTup (aCons (eC (.int 1)) aNil)))) aNil)))) (eVar 10) (eVar 7)) (sSetIx (eTup (aCons (eC (.str "with")) (aCons (eBin subIx (eVar 2) (eVar 9)) (aCons (eBin subIx (eVar 10) (eBin opAdd (eVar 7) (eTup (aCons (eC (.int 0)) aNil)))) aNil)))) (eVar 10) (eVar 7)))))
def b_raw_named_2t (c : Nat → MF) : MT :=
  (tst (eBin cmpLt (eCall (on1 lenW) (aCons (eVar 2) aNil)) (eVar 6)))
def b_raw_named_2 (c : Nat → MF) : MS :=
  (sSeq (sIf (tst (eBin (cmpIn true) (eFn 1 (c 22) (aCons (eVar 3) aNil)) (eVar 1))) (sExpr (eMeth isL appW (eVar 2) (aCons (eFn 1 (c 22) (aCons (eVar 3) aNil)) aNil))) sNil)
    (sAug 3 (fun i j => i + j) (eC (.int 1))))
def b_raw_named_3t (c : Nat → MF) : MT :=
  (tst (eBin cmpGt (eCall (on1 lenW) (aCons (eVar 4) aNil)) (eC (.int 0))))
def b_raw_named_3 (c : Nat → MF) : MS :=
  (sSeq (sAsgT (bTup 3 (bCons (bName 7) (bCons (bName 8) (bCons (bName 9) bNil)))) (eMeth isL popW (eVar 4) aNil))
    (sSeq (sExpr (eMeth isL appW (eVar 5) (aCons (eTup (aCons (eVar 7) (aCons (eVar 8) (aCons (eVar 9) aNil)))) aNil)))
    (sSeq (sAsg 6 (eCall (on2 max2W) (aCons (eVar 6) (aCons (eVar 9) aNil))))
    (sIf (tAndM (tNotM (tst (eIsi "str" (eVar 8)))) (tNotM (tst (eFn 1 (c 21) (aCons (eVar 8) aNil))))) (sIf (tst (eBin cmpEq (eBin subIx (eVar 8) (eC (.int 0))) (eC (.str "of")))) (sExpr (eMeth isL extW (eVar 4) (aCons (eLst (aCons (eTup (aCons (eBin opAdd (eVar 7) (eTup (aCons (eC (.int 0)) aNil))) (aCons (eBin subIx (eVar 8) (eC (.int 1))) (aCons (eVar 9) aNil)))) (aCons (eTup (aCons (eBin opAdd (eVar 7) (eTup (aCons (eC (.int 1)) aNil))) (aCons (eBin subIx (eVar 8) (eC (.int 2))) (aCons (eVar 9) aNil)))) aNil))) aNil))) (sExpr (eMeth isL appW (eVar 4) (aCons (eTup (aCons (eBin opAdd (eVar 7) (eTup (aCons (eC (.int 0)) aNil))) (aCons (eBin subIx (eVar 8) (eC (.int 1))) (aCons (eBin opAdd (eVar 9) (eC (.int 1))) aNil)))) aNil)))) sNil))))
def b_raw_named (c : Nat → MF) : MS :=
  (sSeq (sAsg 1 (eFn 1 (c 23) (aCons (eVar 0) aNil)))
    (sSeq (sPar [2, 3] (aCons (eLst aNil) (aCons (eC (.int 0)) aNil)))
    (sSeq (sPar [4, 5] (aCons (eLst (aCons (eTup (aCons (eTup aNil) (aCons (eVar 0) (aCons (eC (.int 0)) aNil)))) aNil)) (aCons (eLst aNil) aNil)))
    (sSeq (sAsg 6 (eC (.int 0)))
    (sSeq (sWh true (b_raw_named_3t c) (b_raw_named_3 c))
    (sSeq (sWh true (b_raw_named_2t c) (b_raw_named_2 c))
    (sSeq (sAsg 10 eDT)
    (sSeq (sFor true (iAny (eRev (eVar 5))) (bTup 3 (bCons (bName 7) (bCons (bName 8) (bCons (bName 9) bNil)))) (b_raw_named_1 c))
    (sRet (eBin subIx (eVar 10) (eTup aNil)))))))))))
theorem x_raw_named_1 {c : Nat → MF} {d : Env1} {S : Store} : b_raw_named_1 c d S = (sIf (tst (eIsi "str" (eVar 8))) (sSetIx (eVar 8) (eVar 10) (eVar 7)) (sIf (tst (eFn 1 (c 21) (aCons (eVar 8) aNil))) (sSetIx (eBin subIx (eVar 2) (eBin opSub (eBin opSub (eVar 9) (eC (.int 1))) (eVar 8))) (eVar 10) (eVar 7)) (sIf (tst (eBin cmpEq (eBin subIx (eVar 8) (eC (.int 0))) (eC (.str "of")))) (sSetIx (eTup (aCons (eC (.str "of")) (aCons (eBin subIx (eVar 10) (eBin opAdd (eVar 7) (eTup (aCons (eC (.int 0)) aNil)))) (aCons (eBin subIx (eVar 10) (eBin opAdd (eVar 7) (eTup (aCons (eC (.int 1)) aNil)))) aNil)))) (eVar 10) (eVar 7)) (sSetIx (eTup (aCons (eC (.str "with")) (aCons (eBin subIx (eVar 2) (eVar 9)) (aCons (eBin subIx (eVar 10) (eBin opAdd (eVar 7) (eTup (aCons (eC (.int 0)) aNil)))) aNil)))) (eVar 10) (eVar 7))))) d S := rfl
theorem x_raw_named_2t {c : Nat → MF} {d : Env1} {S : Store} : b_raw_named_2t c d S = (tst (eBin cmpLt (eCall (on1 lenW) (aCons (eVar 2) aNil)) (eVar 6))) d S := rfl
theorem x_raw_named_2 {c : Nat → MF} {d : Env1} {S : Store} : b_raw_named_2 c d S = (sSeq (sIf (tst (eBin (cmpIn true) (eFn 1 (c 22) (aCons (eVar 3) aNil)) (eVar 1))) (sExpr (eMeth isL appW (eVar 2) (aCons (eFn 1 (c 22) (aCons (eVar 3) aNil)) aNil))) sNil)
    (sAug 3 (fun i j => i + j) (eC (.int 1)))) d S := rfl
theorem x_raw_named_3t {c : Nat → MF} {d : Env1} {S : Store} : b_raw_named_3t c d S = (tst (eBin cmpGt (eCall (on1 lenW) (aCons (eVar 4) aNil)) (eC (.int 0)))) d S := rfl
theorem x_raw_named_3 {c : Nat → MF} {d : Env1} {S : Store} : b_raw_named_3 c d S = (sSeq (sAsgT (bTup 3 (bCons (bName 7) (bCons (bName 8) (bCons (bName 9) bNil)))) (eMeth isL popW (eVar 4) aNil))
    (sSeq (sExpr (eMeth isL appW (eVar 5) (aCons (eTup (aCons (eVar 7) (aCons (eVar 8) (aCons (eVar 9) aNil)))) aNil)))
    (sSeq (sAsg 6 (eCall (on2 max2W) (aCons (eVar 6) (aCons (eVar 9) aNil))))
    (sIf (tAndM (tNotM (tst (eIsi "str" (eVar 8)))) (tNotM (tst (eFn 1 (c 21) (aCons (eVar 8) aNil))))) (sIf (tst (eBin cmpEq (eBin subIx (eVar 8) (eC (.int 0))) (eC (.str "of")))) (sExpr (eMeth isL extW (eVar 4) (aCons (eLst (aCons (eTup (aCons (eBin opAdd (eVar 7) (eTup (aCons (eC (.int 0)) aNil))) (aCons (eBin subIx (eVar 8) (eC (.int 1))) (aCons (eVar 9) aNil)))) (aCons (eTup (aCons (eBin opAdd (eVar 7) (eTup (aCons (eC (.int 1)) aNil))) (aCons (eBin subIx (eVar 8) (eC (.int 2))) (aCons (eVar 9) aNil)))) aNil))) aNil))) (sExpr (eMeth isL appW (eVar 4) (aCons (eTup (aCons (eBin opAdd (eVar 7) (eTup (aCons (eC (.int 0)) aNil))) (aCons (eBin subIx (eVar 8) (eC (.int 1))) (aCons (eBin opAdd (eVar 9) (eC (.int 1))) aNil)))) aNil)))) sNil)))) d S := rfl
/- 17 raw_indexed -/
def b_raw_indexed_1 (c : Nat → MF) : MS :=
  (sIf (tNotM (tst (eIsi "str" (eVar 5)))) (sIf (tst (eBin cmpEq (eBin subIx (eVar 5) (eC (.int 0))) (eC (.str "of")))) (sSetIx (eTup (aCons (eC (.str "of")) (aCons (eBin subIx (eVar 1) (eBin opAdd (eVar 4) (eTup (aCons (eC (.int 0)) aNil)))) (aCons (eBin subIx (eVar 1) (eBin opAdd (eVar 4) (eTup (aCons (eC (.int 1)) aNil)))) aNil)))) (eVar 1) (eVar 4)) (sSetIx (eTup (aCons (eC (.str "with")) (aCons (eBin subIx (eVar 1) (eBin opAdd (eVar 4) (eTup (aCons (eC (.int 0)) aNil)))) aNil))) (eVar 1) (eVar 4))) sNil)
def b_raw_indexed_2t (c : Nat → MF) : MT :=
  (tst (eBin cmpGt (eCall (on1 lenW) (aCons (eVar 2) aNil)) (eC (.int 0))))
def b_raw_indexed_2 (c : Nat → MF) : MS :=
  (sSeq (sAsgT (bTup 3 (bCons (bName 4) (bCons (bName 5) (bCons (bName 6) bNil)))) (eMeth isL popW (eVar 2) aNil))
    (sSeq (sExpr (eMeth isL appW (eVar 3) (aCons (eTup (aCons (eVar 4) (aCons (eVar 5) aNil))) aNil)))
    (sIf (tst (eIsi "str" (eVar 5))) (sSetIx (eIf (tst (eBin (cmpIn false) (eVar 5) (eVar 6))) (eMeth isZ tixW (eVar 6) (aCons (eVar 5) aNil)) (eVar 5)) (eVar 1) (eVar 4)) (sIf (tst (eBin cmpEq (eBin subIx (eVar 5) (eC (.int 0))) (eC (.str "of")))) (sExpr (eMeth isL extW (eVar 2) (aCons (eLst (aCons (eTup (aCons (eBin opAdd (eVar 4) (eTup (aCons (eC (.int 0)) aNil))) (aCons (eBin subIx (eVar 5) (eC (.int 1))) (aCons (eVar 6) aNil)))) (aCons (eTup (aCons (eBin opAdd (eVar 4) (eTup (aCons (eC (.int 1)) aNil))) (aCons (eBin subIx (eVar 5) (eC (.int 2))) (aCons (eVar 6) aNil)))) aNil))) aNil))) (sExpr (eMeth isL appW (eVar 2) (aCons (eTup (aCons (eBin opAdd (eVar 4) (eTup (aCons (eC (.int 0)) aNil))) (aCons (eBin subIx (eVar 5) (eC (.int 2))) (aCons (eBin opAdd (eTupZ (aCons (eBin subIx (eVar 5) (eC (.int 1))) aNil)) (eVar 6)) aNil)))) aNil)))))))
def b_raw_indexed (c : Nat → MF) : MS :=
  (sSeq (sPar [1, 2, 3] (aCons eDT (aCons (eLst (aCons (eTup (aCons (eTup aNil) (aCons (eVar 0) (aCons (eTupZ aNil) aNil)))) aNil)) (aCons (eLst aNil) aNil))))
    (sSeq (sWh true (b_raw_indexed_2t c) (b_raw_indexed_2 c))
    (sSeq (sFor true (iAny (eRev (eVar 3))) (bTup 2 (bCons (bName 4) (bCons (bName 5) bNil))) (b_raw_indexed_1 c))
    (sRet (eBin subIx (eVar 1) (eTup aNil))))))
theorem x_raw_indexed_1 {c : Nat → MF} {d : Env1} {S : Store} : b_raw_indexed_1 c d S = (sIf (tNotM (tst (eIsi "str" (eVar 5)))) (sIf (tst (eBin cmpEq (eBin subIx (eVar 5) (eC (.int 0))) (eC (.str "of")))) (sSetIx (eTup (aCons (eC (.str "of")) (aCons (eBin subIx (eVar 1) (eBin opAdd (eVar 4) (eTup (aCons (eC (.int 0)) aNil)))) (aCons (eBin subIx (eVar 1) (eBin opAdd (eVar 4) (eTup (aCons (eC (.int 1)) aNil)))) aNil)))) (eVar 1) (eVar 4)) (sSetIx (eTup (aCons (eC (.str "with")) (aCons (eBin subIx (eVar 1) (eBin opAdd (eVar 4) (eTup (aCons (eC (.int 0)) aNil)))) aNil))) (eVar 1) (eVar 4))) sNil) d S := rfl
theorem x_raw_indexed_2t {c : Nat → MF} {d : Env1} {S : Store} : b_raw_indexed_2t c d S = (tst (eBin cmpGt (eCall (on1 lenW) (aCons (eVar 2) aNil)) (eC (.int 0)))) d S := rfl
theorem x_raw_indexed_2 {c : Nat → MF} {d : Env1} {S : Store} : b_raw_indexed_2 c d S = (sSeq (sAsgT (bTup 3 (bCons (bName 4) (bCons (bName 5) (bCons (bName 6) bNil)))) (eMeth isL popW (eVar 2) aNil))
    (sSeq (sExpr (eMeth isL appW (eVar 3) (aCons (eTup (aCons (eVar 4) (aCons (eVar 5) aNil))) aNil)))
    (sIf (tst (eIsi "str" (eVar 5))) (sSetIx (eIf (tst (eBin (cmpIn false) (eVar 5) (eVar 6))) (eMeth isZ tixW (eVar 6) (aCons (eVar 5) aNil)) (eVar 5)) (eVar 1) (eVar 4)) (sIf (tst (eBin cmpEq (eBin subIx (eVar 5) (eC (.int 0))) (eC (.str "of")))) (sExpr (eMeth isL extW (eVar 2) (aCons (eLst (aCons (eTup (aCons (eBin opAdd (eVar 4) (eTup (aCons (eC (.int 0)) aNil))) (aCons (eBin subIx (eVar 5) (eC (.int 1))) (aCons (eVar 6) aNil)))) (aCons (eTup (aCons (eBin opAdd (eVar 4) (eTup (aCons (eC (.int 1)) aNil))) (aCons (eBin subIx (eVar 5) (eC (.int 2))) (aCons (eVar 6) aNil)))) aNil))) aNil))) (sExpr (eMeth isL appW (eVar 2) (aCons (eTup (aCons (eBin opAdd (eVar 4) (eTup (aCons (eC (.int 0)) aNil))) (aCons (eBin subIx (eVar 5) (eC (.int 2))) (aCons (eBin opAdd (eTupZ (aCons (eBin subIx (eVar 5) (eC (.int 1))) aNil)) (eVar 6)) aNil)))) aNil))))))) d S := rfl
/- 18 raw_steps -/
def b_raw_steps (c : Nat → MF) : MS :=
  (sRet (eCall (on1 sortW) (aCons (eLc (iAny (eFn 1 (c 24) (aCons (eVar 0) aNil))) (bTup 3 (bCons (bName 1) (bCons (bName 2) (bCons (bName 3) bNil)))) (tst (eFn 1 (c 25) (aCons (eVar 2) aNil))) (eVar 1) [1, 2, 3]) aNil)))
/- 19 check_term -/
def b_check_term (c : Nat → MF) : MS :=
  (sIf (tNotM (tst (eFn 1 (c 26) (aCons (eVar 0) aNil)))) (sRaise "NoTerm") sNil)
/- 20 many_sized -/
def b_many_sized_3 (c : Nat → MF) : MS :=
  (sAug 6 (fun i j => i + j) (eBin opMul (eBin subIx (eBin subIx (eVar 2) (eVar 7)) (eVar 5)) (eBin subIx (eBin subIx (eVar 2) (eBin opSub (eBin opSub (eVar 3) (eC (.int 1))) (eVar 7))) (eVar 5))))
def b_many_sized_2 (c : Nat → MF) : MS :=
  (sSeq (sAsg 6 (eIf (tst (eBin cmpEq (eVar 3) (eC (.int 1)))) (eVar 5) (eC (.int 0))))
    (sSeq (sIf (tAndM (tst (eBin cmpGt (eVar 3) (eC (.int 1)))) (tst (eBin cmpLt (eBin opAdd (eVar 5) (eC (.int 1))) (eBin opAdd (eBin opAdd (eVar 0) (eVar 1)) (eC (.int 2)))))) (sAug 6 (fun i j => i + j) (eBin subIx (eBin subIx (eVar 2) (eBin opSub (eVar 3) (eC (.int 1)))) (eBin opAdd (eVar 5) (eC (.int 1))))) sNil)
    (sSeq (sFor true (iRg2 (aCons (eC (.int 1)) (aCons (eBin opSub (eVar 3) (eC (.int 1))) aNil))) (bName 7) (b_many_sized_3 c))
    (sExpr (eMeth isL appW (eVar 4) (aCons (eVar 6) aNil))))))
def b_many_sized_1 (c : Nat → MF) : MS :=
  (sSeq (sAsg 4 (eLst aNil))
    (sSeq (sFor true (iRg1 (aCons (eBin opAdd (eBin opAdd (eVar 0) (eVar 1)) (eC (.int 2))) aNil)) (bName 5) (b_many_sized_2 c))
    (sExpr (eMeth isL appW (eVar 2) (aCons (eVar 4) aNil)))))
def b_many_sized (c : Nat → MF) : MS :=
  (sSeq (sAsg 2 (eLst (aCons (eBin opMul (eLst (aCons (eC (.int 0)) aNil)) (eBin opAdd (eBin opAdd (eVar 0) (eVar 1)) (eC (.int 2)))) aNil)))
    (sSeq (sFor true (iRg2 (aCons (eC (.int 1)) (aCons (eBin opAdd (eVar 0) (eC (.int 1))) aNil))) (bName 3) (b_many_sized_1 c))
    (sRet (eVar 2))))
theorem x_many_sized_3 {c : Nat → MF} {d : Env1} {S : Store} : b_many_sized_3 c d S = (sAug 6 (fun i j => i + j) (eBin opMul (eBin subIx (eBin subIx (eVar 2) (eVar 7)) (eVar 5)) (eBin subIx (eBin subIx (eVar 2) (eBin opSub (eBin opSub (eVar 3) (eC (.int 1))) (eVar 7))) (eVar 5)))) d S := rfl
theorem x_many_sized_2 {c : Nat → MF} {d : Env1} {S : Store} : b_many_sized_2 c d S = (sSeq (sAsg 6 (eIf (tst (eBin cmpEq (eVar 3) (eC (.int 1)))) (eVar 5) (eC (.int 0))))
    (sSeq (sIf (tAndM (tst (eBin cmpGt (eVar 3) (eC (.int 1)))) (tst (eBin cmpLt (eBin opAdd (eVar 5) (eC (.int 1))) (eBin opAdd (eBin opAdd (eVar 0) (eVar 1)) (eC (.int 2)))))) (sAug 6 (fun i j => i + j) (eBin subIx (eBin subIx (eVar 2) (eBin opSub (eVar 3) (eC (.int 1)))) (eBin opAdd (eVar 5) (eC (.int 1))))) sNil)
    (sSeq (sFor true (iRg2 (aCons (eC (.int 1)) (aCons (eBin opSub (eVar 3) (eC (.int 1))) aNil))) (bName 7) (b_many_sized_3 c))
    (sExpr (eMeth isL appW (eVar 4) (aCons (eVar 6) aNil)))))) d S := rfl
theorem x_many_sized_1 {c : Nat → MF} {d : Env1} {S : Store} : b_many_sized_1 c d S = (sSeq (sAsg 4 (eLst aNil))
    (sSeq (sFor true (iRg1 (aCons (eBin opAdd (eBin opAdd (eVar 0) (eVar 1)) (eC (.int 2))) aNil)) (bName 5) (b_many_sized_2 c))
    (sExpr (eMeth isL appW (eVar 2) (aCons (eVar 4) aNil))))) d S := rfl
/- 21 is_integer -/
def b_is_integer (c : Nat → MF) : MS :=
  (sRet (eAndM (eIsi "int" (eVar 0)) (eNotM (eIsi "bool" (eVar 0)))))
/- 22 name_at -/
def b_name_at_1t (c : Nat → MF) : MT :=
  (tst (eBin cmpGt (eVar 2) (eC (.int 0))))
def b_name_at_1 (c : Nat → MF) : MS :=
  (sSeq (sAug 2 (fun i j => i - j) (eC (.int 1)))
    (sPar [1, 2] (aCons (eBin opAdd (eBin subIx (eC (.str "abcdefghijklmnopqrstuvwxyz")) (eBin opMod (eVar 2) (eC (.int 26)))) (eVar 1)) (aCons (eBin opDiv (eVar 2) (eC (.int 26))) aNil))))
def b_name_at (c : Nat → MF) : MS :=
  (sSeq (sPar [1, 2] (aCons (eC (.str "")) (aCons (eBin opAdd (eVar 0) (eC (.int 1))) aNil)))
    (sSeq (sWh true (b_name_at_1t c) (b_name_at_1 c))
    (sRet (eVar 1))))
theorem x_name_at_1t {c : Nat → MF} {d : Env1} {S : Store} : b_name_at_1t c d S = (tst (eBin cmpGt (eVar 2) (eC (.int 0)))) d S := rfl
theorem x_name_at_1 {c : Nat → MF} {d : Env1} {S : Store} : b_name_at_1 c d S = (sSeq (sAug 2 (fun i j => i - j) (eC (.int 1)))
    (sPar [1, 2] (aCons (eBin opAdd (eBin subIx (eC (.str "abcdefghijklmnopqrstuvwxyz")) (eBin opMod (eVar 2) (eC (.int 26)))) (eVar 1)) (aCons (eBin opDiv (eVar 2) (eC (.int 26))) aNil)))) d S := rfl
/- 23 free_of_indexed -/
def b_free_of_indexed_1t (c : Nat → MF) : MT :=
  (tst (eBin cmpGt (eCall (on1 lenW) (aCons (eVar 2) aNil)) (eC (.int 0))))
def b_free_of_indexed_1 (c : Nat → MF) : MS :=
  (sSeq (sAsg 3 (eMeth isL popW (eVar 2) aNil))
    (sIf (tst (eIsi "str" (eVar 3))) (sSetIx (eC (.bl true)) (eVar 1) (eVar 3)) (sIf (tNotM (tst (eFn 1 (c 21) (aCons (eVar 3) aNil)))) (sExpr (eMeth isL extW (eVar 2) (aCons (eSl (eVar 3) (oAt (eC (.int 1))) oNo) aNil))) sNil)))
def b_free_of_indexed (c : Nat → MF) : MS :=
  (sSeq (sPar [1, 2] (aCons eDK (aCons (eLst (aCons (eVar 0) aNil)) aNil)))
    (sSeq (sWh true (b_free_of_indexed_1t c) (b_free_of_indexed_1 c))
    (sRet (eCall (on1 sortK) (aCons (eVar 1) aNil)))))
theorem x_free_of_indexed_1t {c : Nat → MF} {d : Env1} {S : Store} : b_free_of_indexed_1t c d S = (tst (eBin cmpGt (eCall (on1 lenW) (aCons (eVar 2) aNil)) (eC (.int 0)))) d S := rfl
theorem x_free_of_indexed_1 {c : Nat → MF} {d : Env1} {S : Store} : b_free_of_indexed_1 c d S = (sSeq (sAsg 3 (eMeth isL popW (eVar 2) aNil))
    (sIf (tst (eIsi "str" (eVar 3))) (sSetIx (eC (.bl true)) (eVar 1) (eVar 3)) (sIf (tNotM (tst (eFn 1 (c 21) (aCons (eVar 3) aNil)))) (sExpr (eMeth isL extW (eVar 2) (aCons (eSl (eVar 3) (oAt (eC (.int 1))) oNo) aNil))) sNil))) d S := rfl
/- 24 parts_of -/
def b_parts_of_2 (c : Nat → MF) : MS :=
  (sExpr (eMeth isL appW (eVar 1) (aCons (eTup (aCons (eBin opAdd (eVar 3) (eTup (aCons (eVar 7) aNil))) (aCons (eVar 8) (aCons (eBin opAdd (eVar 5) (eVar 6)) aNil)))) aNil)))
def b_parts_of_1t (c : Nat → MF) : MT :=
  (tst (eBin cmpLt (eVar 2) (eCall (on1 lenW) (aCons (eVar 1) aNil))))
def b_parts_of_1 (c : Nat → MF) : MS :=
  (sSeq (sAsgT (bTup 3 (bCons (bName 3) (bCons (bName 4) (bCons (bName 5) bNil)))) (eBin subIx (eVar 1) (eVar 2)))
    (sSeq (sAug 2 (fun i j => i + j) (eC (.int 1)))
    (sIf (tAndM (tNotM (tst (eIsi "str" (eVar 4)))) (tNotM (tst (eFn 1 (c 21) (aCons (eVar 4) aNil))))) (sSeq (sAsg 6 (eCall (on1 intW) (aCons (eBin cmpEq (eBin subIx (eVar 4) (eC (.int 0))) (eC (.str "with"))) aNil)))
    (sFor true (iEn2 (aCons (eSl (eVar 4) (oAt (eC (.int 1))) oNo) aNil)) (bTup 2 (bCons (bName 7) (bCons (bName 8) bNil))) (b_parts_of_2 c))) sNil)))
def b_parts_of (c : Nat → MF) : MS :=
  (sSeq (sPar [1, 2] (aCons (eLst (aCons (eTup (aCons (eTup aNil) (aCons (eVar 0) (aCons (eC (.int 0)) aNil)))) aNil)) (aCons (eC (.int 0)) aNil)))
    (sSeq (sWh true (b_parts_of_1t c) (b_parts_of_1 c))
    (sRet (eVar 1))))
theorem x_parts_of_2 {c : Nat → MF} {d : Env1} {S : Store} : b_parts_of_2 c d S = (sExpr (eMeth isL appW (eVar 1) (aCons (eTup (aCons (eBin opAdd (eVar 3) (eTup (aCons (eVar 7) aNil))) (aCons (eVar 8) (aCons (eBin opAdd (eVar 5) (eVar 6)) aNil)))) aNil))) d S := rfl
theorem x_parts_of_1t {c : Nat → MF} {d : Env1} {S : Store} : b_parts_of_1t c d S = (tst (eBin cmpLt (eVar 2) (eCall (on1 lenW) (aCons (eVar 1) aNil)))) d S := rfl
theorem x_parts_of_1 {c : Nat → MF} {d : Env1} {S : Store} : b_parts_of_1 c d S = (sSeq (sAsgT (bTup 3 (bCons (bName 3) (bCons (bName 4) (bCons (bName 5) bNil)))) (eBin subIx (eVar 1) (eVar 2)))
    (sSeq (sAug 2 (fun i j => i + j) (eC (.int 1)))
    (sIf (tAndM (tNotM (tst (eIsi "str" (eVar 4)))) (tNotM (tst (eFn 1 (c 21) (aCons (eVar 4) aNil))))) (sSeq (sAsg 6 (eCall (on1 intW) (aCons (eBin cmpEq (eBin subIx (eVar 4) (eC (.int 0))) (eC (.str "with"))) aNil)))
    (sFor true (iEn2 (aCons (eSl (eVar 4) (oAt (eC (.int 1))) oNo) aNil)) (bTup 2 (bCons (bName 7) (bCons (bName 8) bNil))) (b_parts_of_2 c))) sNil))) d S := rfl
/- 25 is_redex -/
def b_is_redex (c : Nat → MF) : MS :=
  (sSeq (sIf (tOrM (tst (eIsi "str" (eVar 0))) (tOrM (tst (eFn 1 (c 21) (aCons (eVar 0) aNil))) (tst (eBin cmpNe (eBin subIx (eVar 0) (eC (.int 0))) (eC (.str "of")))))) (sRet (eC (.bl false))) sNil)
    (sRet (eAndM (eNotM (eIsi "str" (eBin subIx (eVar 0) (eC (.int 1))))) (eAndM (eNotM (eFn 1 (c 21) (aCons (eBin subIx (eVar 0) (eC (.int 1))) aNil))) (eBin cmpEq (eBin subIx (eBin subIx (eVar 0) (eC (.int 1))) (eC (.int 0))) (eC (.str "with")))))))
/- 26 is_term -/
def b_is_term_1t (c : Nat → MF) : MT :=
  (tst (eBin cmpGt (eCall (on1 lenW) (aCons (eVar 1) aNil)) (eC (.int 0))))
def b_is_term_1 (c : Nat → MF) : MS :=
  (sSeq (sAsgT (bTup 2 (bCons (bName 3) (bCons (bName 4) bNil))) (eMeth isL popW (eVar 1) aNil))
    (sSeq (sAug 2 (fun i j => i + j) (eC (.int 1)))
    (sSeq (sAsgT (bTup 2 (bCons (bName 5) (bCons (bName 6) bNil))) (eFn 1 (c 27) (aCons (eVar 3) aNil)))
    (sSeq (sIf (tOrM (tNotM (tst (eVar 6))) (tOrM (tst (eBin cmpGt (eVar 4) (eC (.int 16)))) (tst (eBin cmpGt (eVar 2) (eC (.int 120)))))) (sRet (eC (.bl false))) sNil)
    (sExpr (eMeth isL extW (eVar 1) (aCons (eLc (iAny (eVar 5)) (bName 7) tTru (eTup (aCons (eVar 7) (aCons (eBin opAdd (eVar 4) (eC (.int 1))) aNil))) [7]) aNil)))))))
def b_is_term (c : Nat → MF) : MS :=
  (sSeq (sPar [1, 2] (aCons (eLst (aCons (eTup (aCons (eVar 0) (aCons (eC (.int 1)) aNil))) aNil)) (aCons (eC (.int 0)) aNil)))
    (sSeq (sWh true (b_is_term_1t c) (b_is_term_1 c))
    (sRet (eC (.bl true)))))
theorem x_is_term_1t {c : Nat → MF} {d : Env1} {S : Store} : b_is_term_1t c d S = (tst (eBin cmpGt (eCall (on1 lenW) (aCons (eVar 1) aNil)) (eC (.int 0)))) d S := rfl
theorem x_is_term_1 {c : Nat → MF} {d : Env1} {S : Store} : b_is_term_1 c d S = (sSeq (sAsgT (bTup 2 (bCons (bName 3) (bCons (bName 4) bNil))) (eMeth isL popW (eVar 1) aNil))
    (sSeq (sAug 2 (fun i j => i + j) (eC (.int 1)))
    (sSeq (sAsgT (bTup 2 (bCons (bName 5) (bCons (bName 6) bNil))) (eFn 1 (c 27) (aCons (eVar 3) aNil)))
    (sSeq (sIf (tOrM (tNotM (tst (eVar 6))) (tOrM (tst (eBin cmpGt (eVar 4) (eC (.int 16)))) (tst (eBin cmpGt (eVar 2) (eC (.int 120)))))) (sRet (eC (.bl false))) sNil)
    (sExpr (eMeth isL extW (eVar 1) (aCons (eLc (iAny (eVar 5)) (bName 7) tTru (eTup (aCons (eVar 7) (aCons (eBin opAdd (eVar 4) (eC (.int 1))) aNil))) [7]) aNil))))))) d S := rfl
/- 27 forms_of -/
def b_forms_of (c : Nat → MF) : MS :=
  (sSeq (sIf (tst (eFn 1 (c 29) (aCons (eVar 0) aNil))) (sRet (eTup (aCons (eTup aNil) (aCons (eC (.bl true)) aNil)))) sNil)
    (sSeq (sIf (tst (eFn 3 (c 28) (aCons (eVar 0) (aCons (eC (.str "of")) (aCons (eC (.int 3)) aNil))))) (sRet (eTup (aCons (eSl (eVar 0) (oAt (eC (.int 1))) oNo) (aCons (eC (.bl true)) aNil)))) sNil)
    (sSeq (sIf (tAndM (tst (eFn 3 (c 28) (aCons (eVar 0) (aCons (eC (.str "with")) (aCons (eC (.int 3)) aNil))))) (tst (eFn 1 (c 29) (aCons (eBin subIx (eVar 0) (eC (.int 1))) aNil)))) (sRet (eTup (aCons (eSl (eVar 0) (oAt (eC (.int 2))) oNo) (aCons (eC (.bl true)) aNil)))) sNil)
    (sRet (eTup (aCons (eTup aNil) (aCons (eC (.bl false)) aNil)))))))
/- 28 is_headed -/
def b_is_headed (c : Nat → MF) : MS :=
  (sRet (eAndM (eFn 2 (c 30) (aCons (eVar 0) (aCons (eVar 2) aNil))) (eAndM (eIsi "str" (eBin subIx (eVar 0) (eC (.int 0)))) (eBin cmpEq (eBin subIx (eVar 0) (eC (.int 0))) (eVar 1)))))
/- 29 is_name -/
def b_is_name (c : Nat → MF) : MS :=
  (sRet (eAndM (eIsi "str" (eVar 0)) (eAndM (eChain cmpLe cmpLe (eC (.int 1)) (eCall (on1 lenW) (aCons (eVar 0) aNil)) (eC (.int 8))) (eCall (on1 (allW true)) (aCons (eLc (iAny (eVar 0)) (bName 1) tTru (eBin (cmpIn false) (eVar 1) (eC (.str "abcdefghijklmnopqrstuvwxyz"))) [1]) aNil)))))
/- 30 is_tuple -/
def b_is_tuple (c : Nat → MF) : MS :=
  (sRet (eAndM (eIsi "tuple" (eVar 0)) (eBin cmpEq (eCall (on1 lenW) (aCons (eVar 0) aNil)) (eVar 1))))
def bod (c : Nat → MF) (i : Nat) : MF := match i with
  | 1 => runF 2 (b_law_any c)
  | 2 => runF 2 (b_many_ends c)
  | 3 => runF 8 (b_law_is_right c)
  | 4 => runF 3 (b_law_hand c)
  | 5 => runF 11 (b_ends_sized c)
  | 6 => runF 3 (b_check_number c)
  | 7 => runF 5 (b_law_draw c)
  | 8 => runF 2 (b_all_closed c)
  | 9 => runF 1 (b_is_end c)
  | 10 => runF 8 (b_law_terms c)
  | 11 => runF 1 (b_law_is_end c)
  | 12 => runF 2 (b_many_terms c)
  | 13 => runF 10 (b_law_choices c)
  | 14 => runF 3 (b_is_within c)
  | 15 => runF 10 (b_raw_listed c)
  | 16 => runF 11 (b_raw_named c)
  | 17 => runF 7 (b_raw_indexed c)
  | 18 => runF 4 (b_raw_steps c)
  | 19 => runF 1 (b_check_term c)
  | 20 => runF 8 (b_many_sized c)
  | 21 => runF 1 (b_is_integer c)
  | 22 => runF 3 (b_name_at c)
  | 23 => runF 4 (b_free_of_indexed c)
  | 24 => runF 9 (b_parts_of c)
  | 25 => runF 1 (b_is_redex c)
  | 26 => runF 8 (b_is_term c)
  | 27 => runF 1 (b_forms_of c)
  | 28 => runF 3 (b_is_headed c)
  | 29 => runF 2 (b_is_name c)
  | 30 => runF 2 (b_is_tuple c)
  | _ => noM
def M : Nat → Nat → MF
  | 0 => fun _ => noM
  | k + 1 => bod (M k)
/-- the package's defs stand behind these numbers -/
def Good (M : Nat → Nat → MF) : Prop := ∀ k i, M (k + 1) i = bod (M k) i
theorem good : Good M := fun _ _ => rfl
section
variable {M : Nat → Nat → MF} (G : Good M) {k : Nat}
include G
theorem u_law_any : M (k + 1) 1 = runF 2 (b_law_any (M k)) := G k 1
theorem u_many_ends : M (k + 1) 2 = runF 2 (b_many_ends (M k)) := G k 2
theorem u_law_is_right : M (k + 1) 3 = runF 8 (b_law_is_right (M k)) := G k 3
theorem u_law_hand : M (k + 1) 4 = runF 3 (b_law_hand (M k)) := G k 4
theorem u_ends_sized : M (k + 1) 5 = runF 11 (b_ends_sized (M k)) := G k 5
theorem u_check_number : M (k + 1) 6 = runF 3 (b_check_number (M k)) := G k 6
theorem u_law_draw : M (k + 1) 7 = runF 5 (b_law_draw (M k)) := G k 7
theorem u_all_closed : M (k + 1) 8 = runF 2 (b_all_closed (M k)) := G k 8
theorem u_is_end : M (k + 1) 9 = runF 1 (b_is_end (M k)) := G k 9
theorem u_law_terms : M (k + 1) 10 = runF 8 (b_law_terms (M k)) := G k 10
theorem u_law_is_end : M (k + 1) 11 = runF 1 (b_law_is_end (M k)) := G k 11
theorem u_many_terms : M (k + 1) 12 = runF 2 (b_many_terms (M k)) := G k 12
theorem u_law_choices : M (k + 1) 13 = runF 10 (b_law_choices (M k)) := G k 13
theorem u_is_within : M (k + 1) 14 = runF 3 (b_is_within (M k)) := G k 14
theorem u_raw_listed : M (k + 1) 15 = runF 10 (b_raw_listed (M k)) := G k 15
theorem u_raw_named : M (k + 1) 16 = runF 11 (b_raw_named (M k)) := G k 16
theorem u_raw_indexed : M (k + 1) 17 = runF 7 (b_raw_indexed (M k)) := G k 17
theorem u_raw_steps : M (k + 1) 18 = runF 4 (b_raw_steps (M k)) := G k 18
theorem u_check_term : M (k + 1) 19 = runF 1 (b_check_term (M k)) := G k 19
theorem u_many_sized : M (k + 1) 20 = runF 8 (b_many_sized (M k)) := G k 20
theorem u_is_integer : M (k + 1) 21 = runF 1 (b_is_integer (M k)) := G k 21
theorem u_name_at : M (k + 1) 22 = runF 3 (b_name_at (M k)) := G k 22
theorem u_free_of_indexed : M (k + 1) 23 = runF 4 (b_free_of_indexed (M k)) := G k 23
theorem u_parts_of : M (k + 1) 24 = runF 9 (b_parts_of (M k)) := G k 24
theorem u_is_redex : M (k + 1) 25 = runF 1 (b_is_redex (M k)) := G k 25
theorem u_is_term : M (k + 1) 26 = runF 8 (b_is_term (M k)) := G k 26
theorem u_forms_of : M (k + 1) 27 = runF 1 (b_forms_of (M k)) := G k 27
theorem u_is_headed : M (k + 1) 28 = runF 3 (b_is_headed (M k)) := G k 28
theorem u_is_name : M (k + 1) 29 = runF 2 (b_is_name (M k)) := G k 29
theorem u_is_tuple : M (k + 1) 30 = runF 2 (b_is_tuple (M k)) := G k 30
end
end PB
namespace PM
open PySem PySem.Spec L2
/-! ### terms as trees -/
inductive Pl where
  | v (x : Str) | a (f x : Pl) | l (x : Str) (b : Pl)
inductive Ix where
  | n (i : Nat) | s (x : Str) | a (f x : Ix) | l (b : Ix)
def Pl.w : Pl → W
  | .v x => .str x
  | .a f x => .tup [.str "of", f.w, x.w]
  | .l x b => .tup [.str "with", .str x, b.w]
def Ix.w : Ix → W
  | .n i => .int i
  | .s x => .str x
  | .a f x => .tup [.str "of", f.w, x.w]
  | .l b => .tup [.str "with", b.w]
def Pl.size : Pl → Nat
  | .v _ => 1
  | .a f x => 1 + f.size + x.size
  | .l _ b => 1 + b.size
def Pl.dep : Pl → Nat
  | .v _ => 1
  | .a f x => 1 + max f.dep x.dep
  | .l _ b => 1 + b.dep
def Ix.size : Ix → Nat
  | .n _ => 1
  | .s _ => 1
  | .a f x => 1 + f.size + x.size
  | .l b => 1 + b.size
def Ix.dep : Ix → Nat
  | .n _ => 1
  | .s _ => 1
  | .a f x => 1 + max f.dep x.dep
  | .l b => 1 + b.dep
theorem Pl.imm : ∀ p : Pl, p.w.imm = true
  | .v _ => rfl
  | .a f x => by rw [Pl.w, imm_tup, immL_cons, immL_cons, immL_cons, f.imm, x.imm]; rfl
  | .l _ b => by rw [Pl.w, imm_tup, immL_cons, immL_cons, immL_cons, b.imm]; rfl
theorem Ix.imm : ∀ p : Ix, p.w.imm = true
  | .n _ => rfl
  | .s _ => rfl
  | .a f x => by rw [Ix.w, imm_tup, immL_cons, immL_cons, immL_cons, f.imm, x.imm]; rfl
  | .l b => by rw [Ix.w, imm_tup, immL_cons, immL_cons, b.imm]; rfl
def small : Str := "abcdefghijklmnopqrstuvwxyz"
/-- a name -/
def nameOk (x : Str) : Bool := decide (1 ≤ x.length) && decide (x.length ≤ 8) && x.cps.toList.all fun c => decide (c ∈ small.cps.toList)
theorem nameOk_len {x : Str} (h : nameOk x = true) : 1 ≤ x.length ∧ x.length ≤ 8 := by
  unfold nameOk at h
  simp only [Bool.and_eq_true, decide_eq_true_eq] at h
  exact h.1
theorem small_lt : ∀ c ∈ small.cps.toList, c < 1114112 := by decide +kernel
theorem nameOk_sOk {x : Str} (h : nameOk x = true) : sOk x = true := by
  unfold nameOk at h
  simp only [Bool.and_eq_true, decide_eq_true_eq, List.all_eq_true] at h
  unfold sOk PyData.canLay0 PyData.strOk
  rw [← Array.all_toList, List.all_eq_true]
  intro c hc
  exact decide_eq_true (small_lt c (h.2 c hc))
def Pl.ok : Pl → Bool
  | .v x => nameOk x
  | .a f x => f.ok && x.ok
  | .l x b => nameOk x && b.ok
def Ix.ok : Ix → Bool
  | .n _ => true
  | .s x => nameOk x
  | .a f x => f.ok && x.ok
  | .l b => b.ok
theorem Pl.size_pos (p : Pl) : 0 < p.size := by cases p <;> simp only [Pl.size] <;> omega
theorem Pl.dep_pos (p : Pl) : 0 < p.dep := by cases p <;> simp only [Pl.dep] <;> omega
theorem Ix.size_pos (p : Ix) : 0 < p.size := by cases p <;> simp only [Ix.size] <;> omega
theorem Ix.dep_pos (p : Ix) : 0 < p.dep := by cases p <;> simp only [Ix.dep] <;> omega
end PM
local macro_rules | `(tactic| simp_arith [$hs,*]) => `(tactic| simp -implicitDefEqProofs only [PM.ev_bind, PM.ev_then, PM.ev_var0, PM.ev_varS, PM.ev_c, PM.ev_add, PM.ev_sub, PM.ev_lt, PM.ev_le, PM.ev_gt, PM.ev_ge, PM.ev_eq, PM.ev_ne, PM.ev_int, PM.ev_mod, PM.ev_div, PM.bind_exc, PM.then_exc, PM.an_next, PM.an_ret, PM.an_brk, PM.an_cont, PM.an_exc, PM.asB_bl, PM.asB_exc, PM.e_bin, PM.e_tst, PM.e_and, PM.e_or, PM.e_not, PM.e_eand, PM.andC_t, PM.andC_f, PM.e_eor, PM.orC_t, PM.orC_f, PM.e_enot, PM.notC_bl, PM.e_if, PM.e_chain, PM.chC_t, PM.chC_f, PM.a_nil, PM.a_cons, PM.e_tup, PM.tup0, PM.tup1, PM.tup2, PM.tup3, PM.tup4, PM.e_tpz, PM.tpz0, PM.tpz1, PM.e_lst, PM.lst0, PM.lst1, PM.lst2, PM.lst3, PM.e_dT, PM.e_dK, PM.e_call, PM.c_on1, PM.c_on2, PM.e_meth, PM.mth_l, PM.mth_z, PM.e_fn, PM.fn1, PM.fn2, PM.fn3, PM.fn4, PM.on_m, PM.lof_loc, PM.lof_arr, PM.lstC_lst, PM.lstC_ice, PM.lstC_dT, PM.lstC_dK, PM.sof_tup, PM.sof_tpz, PM.sof_loc, PM.sof_arr, PM.app_loc, PM.appC_lst, PM.pop_loc, PM.popC_app, PM.popC_one, PM.ext_loc2, PM.ext_arr, PM.ext_tup, PM.extC_lst, PM.len_loc, PM.len_arr, PM.len_tup, PM.len_tpz, PM.lenC_lst, PM.lenC_ice, PM.lenC_dT, PM.lenC_dK, PM.at_0, PM.at_1, PM.at_2, PM.idxC_some, PM.ix_tup, PM.ix_tpz, PM.ix_arr, PM.ix_loc, PM.cix_lst, PM.cix_ice, PM.cix_dT, PM.cix_dKi, PM.cix_dKs, PM.e_isi, PM.isi_int, PM.isi_bl, PM.isi_str, PM.isi_non, PM.isi_tup, PM.isi_tpz, PM.isi_arr, PM.is_ii, PM.is_ib, PM.is_is, PM.is_in, PM.is_it, PM.is_il, PM.is_id, PM.is_bi, PM.is_bb, PM.is_bs, PM.is_bn, PM.is_bt, PM.is_bL, PM.is_bd, PM.is_si, PM.is_sb, PM.is_ss, PM.is_sn, PM.is_st, PM.is_sl, PM.is_sd, PM.is_ti, PM.is_tb, PM.is_ts, PM.is_tn, PM.is_tt, PM.is_tl, PM.is_td, PM.e_sl, PM.o_no, PM.o_at, PM.oAtC_int, PM.sl_tup, PM.cut_1, PM.cut_2, PM.e_rev, PM.revC_some, PM.ev_eqs, PM.ev_nes, PM.so_of, PM.so_with, PM.of_ne, PM.with_ne, PM.s_seq, PM.s_nil, PM.s_pass, PM.s_brk, PM.s_cont, PM.s_expr, PM.s_ret, PM.s_if, PM.s_asg, PM.gc_imm, PM.gc_loc, PM.gcC_lst, PM.gcC_ice, PM.gcC_dT, PM.gcC_dK, PM.s_par, PM.par2, PM.par3, PM.s_asgT, PM.bindC_some, PM.gcF_imm, PM.b_name, PM.b_nil, PM.b_cons, PM.bcC_some, PM.b_tup, PM.b_twk, PM.s_set, PM.storeW_imm, PM.setC_some, PM.set_loc, PM.cs_dT, PM.cs_dKi, PM.cs_dKs, PM.s_aug, PM.augC_int, PM.augD_int, PM.s_raise, PM.i_any, PM.it_arr, PM.it_tpz, PM.it_str, PM.it_tup, PM.it_loc, PM.itL_some, PM.i_rg1, PM.i_rg2, PM.rg1, PM.rg2, PM.i_en2, PM.en_tup, PM.s_for, PM.s_wh, PM.cix_t2, PM.cs_t2, PM.ci_t2, PM.storeW_loc, PM.stF_lst, PM.stF_ice, PM.e_lrg1, PM.lrgC_nat, PM.app_fr, PM.appF_lst, PM.appF_ice, PM.lst_fr, PM.newF_lst, PM.newF_ice, PM.mul_loc, PM.mulC_one, PM.inR_0, PM.inR_1, PM.inR_of, PM.imm_pth, PM.cix_pth, PM.cs_pth, PM.imm_nms, PM.in_nms, PM.in_loc, PM.inR_some, PM.ci_strs, PM.ci_pth, PM.mth_nms, PM.ev_max, PM.pth_add, PM.nms_cons, PM.run_f, PM.retR_ret, PM.retR_next, PM.retR_exc, PM.ret_imm, PM.ret_loc, PM.e_lc, PM.turn_next, PM.turn_cont, PM.turn_brk, PM.turn_ret, PM.turn_exc, PM.fgE_t, PM.fgE_f, PM.fgS_t, PM.fgS_f, PM.fg_nil, PM.fg_any, PM.keepO_none, PM.keepO_some, PM.for_nil, PM.for_cons, PM.forC_some, PM.whT_t, PM.whT_f, PM.wipe_nil, PM.lc_nil, PM.lc_cons, PM.lc1_some, PM.lc2_t, PM.lc2_f, PM.lc3_imm, PM.lc4_lst, PM.noX_ok, PM.ln_lt0, PM.ln_lt1, PM.ln_lt2, PM.ln_le1, PM.ln_le2, PM.ln_le3, PM.wipe_cons, PM.t_tru, PM.imm_non, PM.imm_bl, PM.imm_int, PM.imm_str, PM.imm_arr, PM.imm_fn, PM.imm_scr, PM.imm_loc, PM.imm_tup, PM.imm_tpz, PM.immL_nil, PM.immL_cons, PM.immL_app, PM.immL_rev, PM.free_imm, PM.free_loc, PM.freeL_nil, PM.freeL_cons, PM.free_tup, PM.free_twk, PM.st_get, PM.st_get0, PM.st_set, PM.st_set0, PM.st_take, PM.st_take0, PM.st_len, PM.st_getS, PM.st_get0S, PM.st_setS, PM.st_set0S, PM.st_takeS, PM.st_take0S, PM.st_take1S, PM.st_selfS, PM.st_selfS1, PM.st_againS, PM.st_againS1, List.length_set, PM.lt_base, PM.lt_base0, PM.lt_base1, PM.lt_self, List.map_cons, List.map_nil, List.length_cons, List.length_nil, List.length_append, List.append_assoc, List.cons_append, List.nil_append, List.append_nil, List.getElem?_cons_zero, List.getElem?_cons_succ, List.set_cons_zero, List.set_cons_succ, List.take_succ_cons, List.take_zero, List.take_length, List.take_nil, List.reverse_cons, List.reverse_nil, List.length_reverse, List.length_map, PM.ne_ll, PM.eq_ll, PM.valW_lst, PM.valW_ice, PM.isLC_lst, PM.isLC_ice, PM.pd_int, PM.pd_non, PM.pd_str, PM.pd_tup, PM.pd_arr, PM.pdl_nil, PM.pdl_cons, PM.dp_int, PM.dp_non, PM.dp_str, PM.dp_tup, PM.dp_arr, PM.dpl_nil, PM.dpl_cons, PM.beq_int, PM.beq_str, PM.beq_arr, PM.beq_tup, PM.beqL_nil, PM.beqL_cons, PM.W.beq_refl, PM.W.beqL_refl, Nat.max_self, Nat.max_le, and_self, and_true, true_and, Nat.add_zero, Nat.zero_add, Nat.zero_lt_succ, Nat.add_assoc, decide_true, decide_false, Bool.and_true, Bool.true_and, Bool.and_false, Bool.false_and, Bool.not_true, Bool.not_false, if_true, if_false, Bool.false_eq_true, Option.isSome_some, Option.isSome_none, eq_self, decide_eq_true_eq, ↓reduceIte, Nat.reduceAdd, Nat.reduceSub, Nat.reduceLT, Nat.reduceSucc, Nat.reduceMul, Int.reduceMul, Int.reduceNeg, Int.reduceToNat, PM.cast_lit, PM.int_pos, PM.int_len1, Nat.reduceLeDiff, Nat.reduceEqDiff, List.reduceReplicate, Int.reduceAdd, Int.reduceSub, Int.reduceLT, Int.reduceLE, Int.reduceEq, reduceCtorEq, $hs,*])
local macro_rules | `(tactic| simp_arith) => `(tactic| simp -implicitDefEqProofs only [PM.ev_bind, PM.ev_then, PM.ev_var0, PM.ev_varS, PM.ev_c, PM.ev_add, PM.ev_sub, PM.ev_lt, PM.ev_le, PM.ev_gt, PM.ev_ge, PM.ev_eq, PM.ev_ne, PM.ev_int, PM.ev_mod, PM.ev_div, PM.bind_exc, PM.then_exc, PM.an_next, PM.an_ret, PM.an_brk, PM.an_cont, PM.an_exc, PM.asB_bl, PM.asB_exc, PM.e_bin, PM.e_tst, PM.e_and, PM.e_or, PM.e_not, PM.e_eand, PM.andC_t, PM.andC_f, PM.e_eor, PM.orC_t, PM.orC_f, PM.e_enot, PM.notC_bl, PM.e_if, PM.e_chain, PM.chC_t, PM.chC_f, PM.a_nil, PM.a_cons, PM.e_tup, PM.tup0, PM.tup1, PM.tup2, PM.tup3, PM.tup4, PM.e_tpz, PM.tpz0, PM.tpz1, PM.e_lst, PM.lst0, PM.lst1, PM.lst2, PM.lst3, PM.e_dT, PM.e_dK, PM.e_call, PM.c_on1, PM.c_on2, PM.e_meth, PM.mth_l, PM.mth_z, PM.e_fn, PM.fn1, PM.fn2, PM.fn3, PM.fn4, PM.on_m, PM.lof_loc, PM.lof_arr, PM.lstC_lst, PM.lstC_ice, PM.lstC_dT, PM.lstC_dK, PM.sof_tup, PM.sof_tpz, PM.sof_loc, PM.sof_arr, PM.app_loc, PM.appC_lst, PM.pop_loc, PM.popC_app, PM.popC_one, PM.ext_loc2, PM.ext_arr, PM.ext_tup, PM.extC_lst, PM.len_loc, PM.len_arr, PM.len_tup, PM.len_tpz, PM.lenC_lst, PM.lenC_ice, PM.lenC_dT, PM.lenC_dK, PM.at_0, PM.at_1, PM.at_2, PM.idxC_some, PM.ix_tup, PM.ix_tpz, PM.ix_arr, PM.ix_loc, PM.cix_lst, PM.cix_ice, PM.cix_dT, PM.cix_dKi, PM.cix_dKs, PM.e_isi, PM.isi_int, PM.isi_bl, PM.isi_str, PM.isi_non, PM.isi_tup, PM.isi_tpz, PM.isi_arr, PM.is_ii, PM.is_ib, PM.is_is, PM.is_in, PM.is_it, PM.is_il, PM.is_id, PM.is_bi, PM.is_bb, PM.is_bs, PM.is_bn, PM.is_bt, PM.is_bL, PM.is_bd, PM.is_si, PM.is_sb, PM.is_ss, PM.is_sn, PM.is_st, PM.is_sl, PM.is_sd, PM.is_ti, PM.is_tb, PM.is_ts, PM.is_tn, PM.is_tt, PM.is_tl, PM.is_td, PM.e_sl, PM.o_no, PM.o_at, PM.oAtC_int, PM.sl_tup, PM.cut_1, PM.cut_2, PM.e_rev, PM.revC_some, PM.ev_eqs, PM.ev_nes, PM.so_of, PM.so_with, PM.of_ne, PM.with_ne, PM.s_seq, PM.s_nil, PM.s_pass, PM.s_brk, PM.s_cont, PM.s_expr, PM.s_ret, PM.s_if, PM.s_asg, PM.gc_imm, PM.gc_loc, PM.gcC_lst, PM.gcC_ice, PM.gcC_dT, PM.gcC_dK, PM.s_par, PM.par2, PM.par3, PM.s_asgT, PM.bindC_some, PM.gcF_imm, PM.b_name, PM.b_nil, PM.b_cons, PM.bcC_some, PM.b_tup, PM.b_twk, PM.s_set, PM.storeW_imm, PM.setC_some, PM.set_loc, PM.cs_dT, PM.cs_dKi, PM.cs_dKs, PM.s_aug, PM.augC_int, PM.augD_int, PM.s_raise, PM.i_any, PM.it_arr, PM.it_tpz, PM.it_str, PM.it_tup, PM.it_loc, PM.itL_some, PM.i_rg1, PM.i_rg2, PM.rg1, PM.rg2, PM.i_en2, PM.en_tup, PM.s_for, PM.s_wh, PM.cix_t2, PM.cs_t2, PM.ci_t2, PM.storeW_loc, PM.stF_lst, PM.stF_ice, PM.e_lrg1, PM.lrgC_nat, PM.app_fr, PM.appF_lst, PM.appF_ice, PM.lst_fr, PM.newF_lst, PM.newF_ice, PM.mul_loc, PM.mulC_one, PM.inR_0, PM.inR_1, PM.inR_of, PM.imm_pth, PM.cix_pth, PM.cs_pth, PM.imm_nms, PM.in_nms, PM.in_loc, PM.inR_some, PM.ci_strs, PM.ci_pth, PM.mth_nms, PM.ev_max, PM.pth_add, PM.nms_cons, PM.run_f, PM.retR_ret, PM.retR_next, PM.retR_exc, PM.ret_imm, PM.ret_loc, PM.e_lc, PM.turn_next, PM.turn_cont, PM.turn_brk, PM.turn_ret, PM.turn_exc, PM.fgE_t, PM.fgE_f, PM.fgS_t, PM.fgS_f, PM.fg_nil, PM.fg_any, PM.keepO_none, PM.keepO_some, PM.for_nil, PM.for_cons, PM.forC_some, PM.whT_t, PM.whT_f, PM.wipe_nil, PM.lc_nil, PM.lc_cons, PM.lc1_some, PM.lc2_t, PM.lc2_f, PM.lc3_imm, PM.lc4_lst, PM.noX_ok, PM.ln_lt0, PM.ln_lt1, PM.ln_lt2, PM.ln_le1, PM.ln_le2, PM.ln_le3, PM.wipe_cons, PM.t_tru, PM.imm_non, PM.imm_bl, PM.imm_int, PM.imm_str, PM.imm_arr, PM.imm_fn, PM.imm_scr, PM.imm_loc, PM.imm_tup, PM.imm_tpz, PM.immL_nil, PM.immL_cons, PM.immL_app, PM.immL_rev, PM.free_imm, PM.free_loc, PM.freeL_nil, PM.freeL_cons, PM.free_tup, PM.free_twk, PM.st_get, PM.st_get0, PM.st_set, PM.st_set0, PM.st_take, PM.st_take0, PM.st_len, PM.st_getS, PM.st_get0S, PM.st_setS, PM.st_set0S, PM.st_takeS, PM.st_take0S, PM.st_take1S, PM.st_selfS, PM.st_selfS1, PM.st_againS, PM.st_againS1, List.length_set, PM.lt_base, PM.lt_base0, PM.lt_base1, PM.lt_self, List.map_cons, List.map_nil, List.length_cons, List.length_nil, List.length_append, List.append_assoc, List.cons_append, List.nil_append, List.append_nil, List.getElem?_cons_zero, List.getElem?_cons_succ, List.set_cons_zero, List.set_cons_succ, List.take_succ_cons, List.take_zero, List.take_length, List.take_nil, List.reverse_cons, List.reverse_nil, List.length_reverse, List.length_map, PM.ne_ll, PM.eq_ll, PM.valW_lst, PM.valW_ice, PM.isLC_lst, PM.isLC_ice, PM.pd_int, PM.pd_non, PM.pd_str, PM.pd_tup, PM.pd_arr, PM.pdl_nil, PM.pdl_cons, PM.dp_int, PM.dp_non, PM.dp_str, PM.dp_tup, PM.dp_arr, PM.dpl_nil, PM.dpl_cons, PM.beq_int, PM.beq_str, PM.beq_arr, PM.beq_tup, PM.beqL_nil, PM.beqL_cons, PM.W.beq_refl, PM.W.beqL_refl, Nat.max_self, Nat.max_le, and_self, and_true, true_and, Nat.add_zero, Nat.zero_add, Nat.zero_lt_succ, Nat.add_assoc, decide_true, decide_false, Bool.and_true, Bool.true_and, Bool.and_false, Bool.false_and, Bool.not_true, Bool.not_false, if_true, if_false, Bool.false_eq_true, Option.isSome_some, Option.isSome_none, eq_self, decide_eq_true_eq, ↓reduceIte, Nat.reduceAdd, Nat.reduceSub, Nat.reduceLT, Nat.reduceSucc, Nat.reduceMul, Int.reduceMul, Int.reduceNeg, Int.reduceToNat, PM.cast_lit, PM.int_pos, PM.int_len1, Nat.reduceLeDiff, Nat.reduceEqDiff, List.reduceReplicate, Int.reduceAdd, Int.reduceSub, Int.reduceLT, Int.reduceLE, Int.reduceEq, reduceCtorEq])
local macro_rules | `(tactic| simp_arith [$hs,*] at $h:ident) => `(tactic| simp -implicitDefEqProofs only [PM.ev_bind, PM.ev_then, PM.ev_var0, PM.ev_varS, PM.ev_c, PM.ev_add, PM.ev_sub, PM.ev_lt, PM.ev_le, PM.ev_gt, PM.ev_ge, PM.ev_eq, PM.ev_ne, PM.ev_int, PM.ev_mod, PM.ev_div, PM.bind_exc, PM.then_exc, PM.an_next, PM.an_ret, PM.an_brk, PM.an_cont, PM.an_exc, PM.asB_bl, PM.asB_exc, PM.e_bin, PM.e_tst, PM.e_and, PM.e_or, PM.e_not, PM.e_eand, PM.andC_t, PM.andC_f, PM.e_eor, PM.orC_t, PM.orC_f, PM.e_enot, PM.notC_bl, PM.e_if, PM.e_chain, PM.chC_t, PM.chC_f, PM.a_nil, PM.a_cons, PM.e_tup, PM.tup0, PM.tup1, PM.tup2, PM.tup3, PM.tup4, PM.e_tpz, PM.tpz0, PM.tpz1, PM.e_lst, PM.lst0, PM.lst1, PM.lst2, PM.lst3, PM.e_dT, PM.e_dK, PM.e_call, PM.c_on1, PM.c_on2, PM.e_meth, PM.mth_l, PM.mth_z, PM.e_fn, PM.fn1, PM.fn2, PM.fn3, PM.fn4, PM.on_m, PM.lof_loc, PM.lof_arr, PM.lstC_lst, PM.lstC_ice, PM.lstC_dT, PM.lstC_dK, PM.sof_tup, PM.sof_tpz, PM.sof_loc, PM.sof_arr, PM.app_loc, PM.appC_lst, PM.pop_loc, PM.popC_app, PM.popC_one, PM.ext_loc2, PM.ext_arr, PM.ext_tup, PM.extC_lst, PM.len_loc, PM.len_arr, PM.len_tup, PM.len_tpz, PM.lenC_lst, PM.lenC_ice, PM.lenC_dT, PM.lenC_dK, PM.at_0, PM.at_1, PM.at_2, PM.idxC_some, PM.ix_tup, PM.ix_tpz, PM.ix_arr, PM.ix_loc, PM.cix_lst, PM.cix_ice, PM.cix_dT, PM.cix_dKi, PM.cix_dKs, PM.e_isi, PM.isi_int, PM.isi_bl, PM.isi_str, PM.isi_non, PM.isi_tup, PM.isi_tpz, PM.isi_arr, PM.is_ii, PM.is_ib, PM.is_is, PM.is_in, PM.is_it, PM.is_il, PM.is_id, PM.is_bi, PM.is_bb, PM.is_bs, PM.is_bn, PM.is_bt, PM.is_bL, PM.is_bd, PM.is_si, PM.is_sb, PM.is_ss, PM.is_sn, PM.is_st, PM.is_sl, PM.is_sd, PM.is_ti, PM.is_tb, PM.is_ts, PM.is_tn, PM.is_tt, PM.is_tl, PM.is_td, PM.e_sl, PM.o_no, PM.o_at, PM.oAtC_int, PM.sl_tup, PM.cut_1, PM.cut_2, PM.e_rev, PM.revC_some, PM.ev_eqs, PM.ev_nes, PM.so_of, PM.so_with, PM.of_ne, PM.with_ne, PM.s_seq, PM.s_nil, PM.s_pass, PM.s_brk, PM.s_cont, PM.s_expr, PM.s_ret, PM.s_if, PM.s_asg, PM.gc_imm, PM.gc_loc, PM.gcC_lst, PM.gcC_ice, PM.gcC_dT, PM.gcC_dK, PM.s_par, PM.par2, PM.par3, PM.s_asgT, PM.bindC_some, PM.gcF_imm, PM.b_name, PM.b_nil, PM.b_cons, PM.bcC_some, PM.b_tup, PM.b_twk, PM.s_set, PM.storeW_imm, PM.setC_some, PM.set_loc, PM.cs_dT, PM.cs_dKi, PM.cs_dKs, PM.s_aug, PM.augC_int, PM.augD_int, PM.s_raise, PM.i_any, PM.it_arr, PM.it_tpz, PM.it_str, PM.it_tup, PM.it_loc, PM.itL_some, PM.i_rg1, PM.i_rg2, PM.rg1, PM.rg2, PM.i_en2, PM.en_tup, PM.s_for, PM.s_wh, PM.cix_t2, PM.cs_t2, PM.ci_t2, PM.storeW_loc, PM.stF_lst, PM.stF_ice, PM.e_lrg1, PM.lrgC_nat, PM.app_fr, PM.appF_lst, PM.appF_ice, PM.lst_fr, PM.newF_lst, PM.newF_ice, PM.mul_loc, PM.mulC_one, PM.inR_0, PM.inR_1, PM.inR_of, PM.imm_pth, PM.cix_pth, PM.cs_pth, PM.imm_nms, PM.in_nms, PM.in_loc, PM.inR_some, PM.ci_strs, PM.ci_pth, PM.mth_nms, PM.ev_max, PM.pth_add, PM.nms_cons, PM.run_f, PM.retR_ret, PM.retR_next, PM.retR_exc, PM.ret_imm, PM.ret_loc, PM.e_lc, PM.turn_next, PM.turn_cont, PM.turn_brk, PM.turn_ret, PM.turn_exc, PM.fgE_t, PM.fgE_f, PM.fgS_t, PM.fgS_f, PM.fg_nil, PM.fg_any, PM.keepO_none, PM.keepO_some, PM.for_nil, PM.for_cons, PM.forC_some, PM.whT_t, PM.whT_f, PM.wipe_nil, PM.lc_nil, PM.lc_cons, PM.lc1_some, PM.lc2_t, PM.lc2_f, PM.lc3_imm, PM.lc4_lst, PM.noX_ok, PM.ln_lt0, PM.ln_lt1, PM.ln_lt2, PM.ln_le1, PM.ln_le2, PM.ln_le3, PM.wipe_cons, PM.t_tru, PM.imm_non, PM.imm_bl, PM.imm_int, PM.imm_str, PM.imm_arr, PM.imm_fn, PM.imm_scr, PM.imm_loc, PM.imm_tup, PM.imm_tpz, PM.immL_nil, PM.immL_cons, PM.immL_app, PM.immL_rev, PM.free_imm, PM.free_loc, PM.freeL_nil, PM.freeL_cons, PM.free_tup, PM.free_twk, PM.st_get, PM.st_get0, PM.st_set, PM.st_set0, PM.st_take, PM.st_take0, PM.st_len, PM.st_getS, PM.st_get0S, PM.st_setS, PM.st_set0S, PM.st_takeS, PM.st_take0S, PM.st_take1S, PM.st_selfS, PM.st_selfS1, PM.st_againS, PM.st_againS1, List.length_set, PM.lt_base, PM.lt_base0, PM.lt_base1, PM.lt_self, List.map_cons, List.map_nil, List.length_cons, List.length_nil, List.length_append, List.append_assoc, List.cons_append, List.nil_append, List.append_nil, List.getElem?_cons_zero, List.getElem?_cons_succ, List.set_cons_zero, List.set_cons_succ, List.take_succ_cons, List.take_zero, List.take_length, List.take_nil, List.reverse_cons, List.reverse_nil, List.length_reverse, List.length_map, PM.ne_ll, PM.eq_ll, PM.valW_lst, PM.valW_ice, PM.isLC_lst, PM.isLC_ice, PM.pd_int, PM.pd_non, PM.pd_str, PM.pd_tup, PM.pd_arr, PM.pdl_nil, PM.pdl_cons, PM.dp_int, PM.dp_non, PM.dp_str, PM.dp_tup, PM.dp_arr, PM.dpl_nil, PM.dpl_cons, PM.beq_int, PM.beq_str, PM.beq_arr, PM.beq_tup, PM.beqL_nil, PM.beqL_cons, PM.W.beq_refl, PM.W.beqL_refl, Nat.max_self, Nat.max_le, and_self, and_true, true_and, Nat.add_zero, Nat.zero_add, Nat.zero_lt_succ, Nat.add_assoc, decide_true, decide_false, Bool.and_true, Bool.true_and, Bool.and_false, Bool.false_and, Bool.not_true, Bool.not_false, if_true, if_false, Bool.false_eq_true, Option.isSome_some, Option.isSome_none, eq_self, decide_eq_true_eq, ↓reduceIte, Nat.reduceAdd, Nat.reduceSub, Nat.reduceLT, Nat.reduceSucc, Nat.reduceMul, Int.reduceMul, Int.reduceNeg, Int.reduceToNat, PM.cast_lit, PM.int_pos, PM.int_len1, Nat.reduceLeDiff, Nat.reduceEqDiff, List.reduceReplicate, Int.reduceAdd, Int.reduceSub, Int.reduceLT, Int.reduceLE, Int.reduceEq, reduceCtorEq, $hs,*] at $h:ident)
local macro_rules | `(tactic| simp_arith at $h:ident) => `(tactic| simp -implicitDefEqProofs only [PM.ev_bind, PM.ev_then, PM.ev_var0, PM.ev_varS, PM.ev_c, PM.ev_add, PM.ev_sub, PM.ev_lt, PM.ev_le, PM.ev_gt, PM.ev_ge, PM.ev_eq, PM.ev_ne, PM.ev_int, PM.ev_mod, PM.ev_div, PM.bind_exc, PM.then_exc, PM.an_next, PM.an_ret, PM.an_brk, PM.an_cont, PM.an_exc, PM.asB_bl, PM.asB_exc, PM.e_bin, PM.e_tst, PM.e_and, PM.e_or, PM.e_not, PM.e_eand, PM.andC_t, PM.andC_f, PM.e_eor, PM.orC_t, PM.orC_f, PM.e_enot, PM.notC_bl, PM.e_if, PM.e_chain, PM.chC_t, PM.chC_f, PM.a_nil, PM.a_cons, PM.e_tup, PM.tup0, PM.tup1, PM.tup2, PM.tup3, PM.tup4, PM.e_tpz, PM.tpz0, PM.tpz1, PM.e_lst, PM.lst0, PM.lst1, PM.lst2, PM.lst3, PM.e_dT, PM.e_dK, PM.e_call, PM.c_on1, PM.c_on2, PM.e_meth, PM.mth_l, PM.mth_z, PM.e_fn, PM.fn1, PM.fn2, PM.fn3, PM.fn4, PM.on_m, PM.lof_loc, PM.lof_arr, PM.lstC_lst, PM.lstC_ice, PM.lstC_dT, PM.lstC_dK, PM.sof_tup, PM.sof_tpz, PM.sof_loc, PM.sof_arr, PM.app_loc, PM.appC_lst, PM.pop_loc, PM.popC_app, PM.popC_one, PM.ext_loc2, PM.ext_arr, PM.ext_tup, PM.extC_lst, PM.len_loc, PM.len_arr, PM.len_tup, PM.len_tpz, PM.lenC_lst, PM.lenC_ice, PM.lenC_dT, PM.lenC_dK, PM.at_0, PM.at_1, PM.at_2, PM.idxC_some, PM.ix_tup, PM.ix_tpz, PM.ix_arr, PM.ix_loc, PM.cix_lst, PM.cix_ice, PM.cix_dT, PM.cix_dKi, PM.cix_dKs, PM.e_isi, PM.isi_int, PM.isi_bl, PM.isi_str, PM.isi_non, PM.isi_tup, PM.isi_tpz, PM.isi_arr, PM.is_ii, PM.is_ib, PM.is_is, PM.is_in, PM.is_it, PM.is_il, PM.is_id, PM.is_bi, PM.is_bb, PM.is_bs, PM.is_bn, PM.is_bt, PM.is_bL, PM.is_bd, PM.is_si, PM.is_sb, PM.is_ss, PM.is_sn, PM.is_st, PM.is_sl, PM.is_sd, PM.is_ti, PM.is_tb, PM.is_ts, PM.is_tn, PM.is_tt, PM.is_tl, PM.is_td, PM.e_sl, PM.o_no, PM.o_at, PM.oAtC_int, PM.sl_tup, PM.cut_1, PM.cut_2, PM.e_rev, PM.revC_some, PM.ev_eqs, PM.ev_nes, PM.so_of, PM.so_with, PM.of_ne, PM.with_ne, PM.s_seq, PM.s_nil, PM.s_pass, PM.s_brk, PM.s_cont, PM.s_expr, PM.s_ret, PM.s_if, PM.s_asg, PM.gc_imm, PM.gc_loc, PM.gcC_lst, PM.gcC_ice, PM.gcC_dT, PM.gcC_dK, PM.s_par, PM.par2, PM.par3, PM.s_asgT, PM.bindC_some, PM.gcF_imm, PM.b_name, PM.b_nil, PM.b_cons, PM.bcC_some, PM.b_tup, PM.b_twk, PM.s_set, PM.storeW_imm, PM.setC_some, PM.set_loc, PM.cs_dT, PM.cs_dKi, PM.cs_dKs, PM.s_aug, PM.augC_int, PM.augD_int, PM.s_raise, PM.i_any, PM.it_arr, PM.it_tpz, PM.it_str, PM.it_tup, PM.it_loc, PM.itL_some, PM.i_rg1, PM.i_rg2, PM.rg1, PM.rg2, PM.i_en2, PM.en_tup, PM.s_for, PM.s_wh, PM.cix_t2, PM.cs_t2, PM.ci_t2, PM.storeW_loc, PM.stF_lst, PM.stF_ice, PM.e_lrg1, PM.lrgC_nat, PM.app_fr, PM.appF_lst, PM.appF_ice, PM.lst_fr, PM.newF_lst, PM.newF_ice, PM.mul_loc, PM.mulC_one, PM.inR_0, PM.inR_1, PM.inR_of, PM.imm_pth, PM.cix_pth, PM.cs_pth, PM.imm_nms, PM.in_nms, PM.in_loc, PM.inR_some, PM.ci_strs, PM.ci_pth, PM.mth_nms, PM.ev_max, PM.pth_add, PM.nms_cons, PM.run_f, PM.retR_ret, PM.retR_next, PM.retR_exc, PM.ret_imm, PM.ret_loc, PM.e_lc, PM.turn_next, PM.turn_cont, PM.turn_brk, PM.turn_ret, PM.turn_exc, PM.fgE_t, PM.fgE_f, PM.fgS_t, PM.fgS_f, PM.fg_nil, PM.fg_any, PM.keepO_none, PM.keepO_some, PM.for_nil, PM.for_cons, PM.forC_some, PM.whT_t, PM.whT_f, PM.wipe_nil, PM.lc_nil, PM.lc_cons, PM.lc1_some, PM.lc2_t, PM.lc2_f, PM.lc3_imm, PM.lc4_lst, PM.noX_ok, PM.ln_lt0, PM.ln_lt1, PM.ln_lt2, PM.ln_le1, PM.ln_le2, PM.ln_le3, PM.wipe_cons, PM.t_tru, PM.imm_non, PM.imm_bl, PM.imm_int, PM.imm_str, PM.imm_arr, PM.imm_fn, PM.imm_scr, PM.imm_loc, PM.imm_tup, PM.imm_tpz, PM.immL_nil, PM.immL_cons, PM.immL_app, PM.immL_rev, PM.free_imm, PM.free_loc, PM.freeL_nil, PM.freeL_cons, PM.free_tup, PM.free_twk, PM.st_get, PM.st_get0, PM.st_set, PM.st_set0, PM.st_take, PM.st_take0, PM.st_len, PM.st_getS, PM.st_get0S, PM.st_setS, PM.st_set0S, PM.st_takeS, PM.st_take0S, PM.st_take1S, PM.st_selfS, PM.st_selfS1, PM.st_againS, PM.st_againS1, List.length_set, PM.lt_base, PM.lt_base0, PM.lt_base1, PM.lt_self, List.map_cons, List.map_nil, List.length_cons, List.length_nil, List.length_append, List.append_assoc, List.cons_append, List.nil_append, List.append_nil, List.getElem?_cons_zero, List.getElem?_cons_succ, List.set_cons_zero, List.set_cons_succ, List.take_succ_cons, List.take_zero, List.take_length, List.take_nil, List.reverse_cons, List.reverse_nil, List.length_reverse, List.length_map, PM.ne_ll, PM.eq_ll, PM.valW_lst, PM.valW_ice, PM.isLC_lst, PM.isLC_ice, PM.pd_int, PM.pd_non, PM.pd_str, PM.pd_tup, PM.pd_arr, PM.pdl_nil, PM.pdl_cons, PM.dp_int, PM.dp_non, PM.dp_str, PM.dp_tup, PM.dp_arr, PM.dpl_nil, PM.dpl_cons, PM.beq_int, PM.beq_str, PM.beq_arr, PM.beq_tup, PM.beqL_nil, PM.beqL_cons, PM.W.beq_refl, PM.W.beqL_refl, Nat.max_self, Nat.max_le, and_self, and_true, true_and, Nat.add_zero, Nat.zero_add, Nat.zero_lt_succ, Nat.add_assoc, decide_true, decide_false, Bool.and_true, Bool.true_and, Bool.and_false, Bool.false_and, Bool.not_true, Bool.not_false, if_true, if_false, Bool.false_eq_true, Option.isSome_some, Option.isSome_none, eq_self, decide_eq_true_eq, ↓reduceIte, Nat.reduceAdd, Nat.reduceSub, Nat.reduceLT, Nat.reduceSucc, Nat.reduceMul, Int.reduceMul, Int.reduceNeg, Int.reduceToNat, PM.cast_lit, PM.int_pos, PM.int_len1, Nat.reduceLeDiff, Nat.reduceEqDiff, List.reduceReplicate, Int.reduceAdd, Int.reduceSub, Int.reduceLT, Int.reduceLE, Int.reduceEq, reduceCtorEq] at $h:ident)
namespace PM
open PySem PySem.Spec L2 PB
theorem all_bls {α : Type} (p : α → Bool) : ∀ ws : List α, blsOf (ws.map fun w => W.bl (p w)) = some (ws.map p)
  | [] => rfl
  | w :: ws => by
    show (match blsOf (ws.map fun w => W.bl (p w)) with | some bs => some (p w :: bs) | none => none) = _
    rw [all_bls p ws]
    rfl
section
variable {M : Nat → Nat → MF} (G : Good M) {k : Nat} {S : Store} {w u : W} {i j n : Int} {x y : Str} {ws : List W}
include G
theorem is_integer_int : M (k + 1) 21 [.int i] S = .ok (.bl true) S := by
  rw [u_is_integer G]
  unfold b_is_integer
  simp_arith
theorem is_integer_str : M (k + 1) 21 [.str x] S = .ok (.bl false) S := by
  rw [u_is_integer G]
  unfold b_is_integer
  simp_arith
theorem is_integer_tup : M (k + 1) 21 [.tup ws] S = .ok (.bl false) S := by
  rw [u_is_integer G]
  unfold b_is_integer
  simp_arith
theorem is_within_int : M (k + 2) 14 [.int i, .int j, .int n] S = .ok (.bl (decide (j ≤ i) && decide (i ≤ n))) S := by
  rw [u_is_within G]
  unfold b_is_within
  simp_arith [is_integer_int G]
  cases decide (j ≤ i) <;> simp_arith
theorem check_number_ok (h : i ≤ j) (h2 : j ≤ n) : M (k + 3) 6 [.int j, .int i, .int n] S = .ok .non S := by
  rw [u_check_number G]
  unfold b_check_number
  simp_arith [is_within_int G, h, h2]
theorem is_tuple_tup : M (k + 1) 30 [.tup ws, .int i] S = .ok (.bl (decide ((ws.length : Int) = i))) S := by
  rw [u_is_tuple G]
  unfold b_is_tuple
  simp_arith
theorem is_tuple_str : M (k + 1) 30 [.str x, .int i] S = .ok (.bl false) S := by
  rw [u_is_tuple G]
  unfold b_is_tuple
  simp_arith
theorem is_headed_str : M (k + 2) 28 [.str x, .str y, .int i] S = .ok (.bl false) S := by
  rw [u_is_headed G]
  unfold b_is_headed
  simp_arith [is_tuple_str G]
theorem is_headed_tup (h : sOk x = true) (hy : sOk y = true) (hl : ((ws.length + 1 : Nat) : Int) = i) : M (k + 2) 28 [.tup (.str x :: ws), .str y, .int i] S = .ok (.bl (decide (x = y))) S := by
  rw [u_is_headed G]
  unfold b_is_headed
  simp_arith [is_tuple_tup G, hl, h, hy]
theorem is_name_tup : M (k + 1) 29 [.tup ws] S = .ok (.bl false) S := by
  rw [u_is_name G]
  unfold b_is_name
  simp_arith
theorem is_name_str (hl : x.length ≤ LN) : M (k + 1) 29 [.str x] S = .ok (.bl (nameOk x)) S := by
  rw [u_is_name G]
  unfold b_is_name
  simp_arith [hl, len_str]
  unfold nameOk
  have e1 : decide ((1 : Int) ≤ (x.length : Nat)) = decide (1 ≤ x.length) := by simp only [decide_eq_decide]; omega
  have e2 : decide (((x.length : Nat) : Int) ≤ 8) = decide (x.length ≤ 8) := by simp only [decide_eq_decide]; omega
  rw [e1]
  cases z1 : decide (1 ≤ x.length) with
  | false => simp_arith
  | true =>
    simp_arith [e2]
    cases z2 : decide (x.length ≤ 8) with
    | false => simp_arith
    | true =>
      simp_arith
      rw [lc_map (S := S) (h := fun w => match w with | .str z => .bl (inS z small) | _ => .non) rfl rfl (fun w hw acc => ?_) (by unfold signW; rw [List.length_map, Array.length_toList]; exact hl)]
      · simp_arith
        unfold signW allW
        simp_arith [List.map_map]
        have e := all_bls (fun c : Nat => decide (c ∈ small.cps.toList)) x.cps.toList
        have e2 : (x.cps.toList.map ((fun w => match w with | .str z => W.bl (inS z small) | _ => .non) ∘ fun c => W.str ⟨#[c]⟩)) = x.cps.toList.map fun c => W.bl (decide (c ∈ small.cps.toList)) := by
          apply List.map_congr_left
          intro c _
          show W.bl (inS ⟨#[c]⟩ small) = _
          unfold inS
          rw [dif_pos (by rfl)]
          rfl
        rw [e2, e]
        simp_arith [List.all_map]
        rfl
      · unfold signW at hw
        obtain ⟨c, hc, rfl⟩ := List.mem_map.mp hw
        refine ⟨_, rfl, [], ?_, rfl⟩
        simp_arith
        rfl
end
end PM
namespace PM
open PySem PySem.Spec L2 PB
section
variable {M : Nat → Nat → MF} (G : Good M) {k : Nat} {S : Store} {w u : W} {i j n : Int} {x y : Str} {ws : List W}
theorem nl (h : nameOk x = true) : x.length ≤ LN := by
  have := (nameOk_len h).2
  have e : LN = 16777216 := rfl
  omega
theorem so_nm (h : nameOk x = true) : sOk x = true := nameOk_sOk h
include G
theorem forms_name (h : nameOk x = true) : M (k + 3) 27 [.str x] S = .ok (.tup [.tup [], .bl true]) S := by
  rw [u_forms_of G]
  unfold b_forms_of
  simp_arith [is_name_str G (nl h), h]
theorem forms_of (h : W.immL [w, u] = true) : M (k + 3) 27 [.tup [.str "of", w, u]] S = .ok (.tup [.tup [w, u], .bl true]) S := by
  rw [u_forms_of G]
  unfold b_forms_of
  simp_arith [is_name_tup G, is_headed_tup G so_of so_of (ws := [w, u]) (i := 3) rfl, h]
theorem forms_with (h : w.imm = true) (hx : nameOk x = true) : M (k + 3) 27 [.tup [.str "with", .str x, w]] S = .ok (.tup [.tup [w], .bl true]) S := by
  rw [u_forms_of G]
  unfold b_forms_of
  simp_arith [is_name_tup G, is_headed_tup G so_with so_of (ws := [.str x, w]) (i := 3) rfl, is_headed_tup G so_with so_with (ws := [.str x, w]) (i := 3) rfl, is_name_str G (nl hx), hx, h]
/-- what waits in is_term -/
def tw (p : Pl × Int) : W := .tup [p.1.w, .int p.2]
omit G in
theorem len_sum {α : Type} {f : α → Nat} (hf : ∀ x, 0 < f x) : ∀ l : List α, l.length ≤ (l.map f).sum
  | [] => Nat.le_refl _
  | x :: l => by
    have h := len_sum hf l
    have := hf x
    simp only [List.length_cons, List.map_cons, List.sum_cons]
    omega
omit G in
theorem le_LN {n : Nat} (h : n ≤ 1000) : n ≤ LN := by
  have e : LN = 16777216 := rfl
  omega
theorem is_term_loop (hw : w.imm = true) : ∀ (n : Nat) (stk : List (Pl × Int)) (m : Int) (a3 a4 a5 a6 : Option W), (stk.map fun p => p.1.size).sum < n → 0 ≤ m → m + (stk.map fun p => p.1.size).sum ≤ 120 → (∀ p ∈ stk, p.1.ok = true ∧ p.2 + p.1.dep ≤ 17) →
    ∃ m' b3 b4 b5 b6, sWhile true (S.length + 1) (b_is_term_1t (M (k + 3))) (b_is_term_1 (M (k + 3))) n [some w, some (.loc S.length), some (.int m), a3, a4, a5, a6, none] (S ++ [.lst (stk.map tw).reverse]) =
      .next [some w, some (.loc S.length), some (.int m'), b3, b4, b5, b6, none] (S ++ [.lst []])
  | 0, stk, m, a3, a4, a5, a6, h, _, _, _ => absurd h (Nat.not_lt_zero _)
  | n + 1, [], m, a3, a4, a5, a6, _, _, _, _ => by
    refine ⟨m, a3, a4, a5, a6, ?_⟩
    rw [wh_s]
    simp_arith [x_is_term_1t]
  | n + 1, (p, d) :: stk, m, a3, a4, a5, a6, h1, h0, h2, h3 => by
    obtain ⟨h4, h5⟩ := h3 _ (List.mem_cons_self ..)
    have h6 := fun p hp => h3 p (List.mem_cons_of_mem _ hp)
    have hl := len_sum (f := fun p : Pl × Int => p.1.size) (fun p => p.1.size_pos) stk
    simp only [List.map_cons, List.sum_cons] at h1 h2 h4 h5
    have hp := p.size_pos
    have hd := p.dep_pos
    have l1 : ¬ 16 < d := by omega
    have l2 : ¬ 120 < m + 1 := by omega
    have l3 : stk.length ≤ LN := le_LN (by omega)
    have l4 : stk.length + 1 ≤ LN := le_LN (by omega)
    have l5 : stk.length + 2 ≤ LN := le_LN (by omega)
    cases p with
    | v x =>
      simp only [Pl.ok, Pl.size, Pl.dep] at h1 h2 h4 h5
      obtain ⟨m', b3, b4, b5, b6, ih⟩ := is_term_loop hw n stk (m + 1) (some (.str x)) (some (.int d)) (some (.tup [])) (some (.bl true)) (by omega) (by omega) (by omega) h6
      refine ⟨m', b3, b4, b5, b6, ?_⟩
      rw [wh_s]
      simp_arith [tw, Pl.w, x_is_term_1t, x_is_term_1, forms_name G h4, l1, l2, l3, hw, ih]
    | a f x =>
      simp only [Pl.ok, Pl.size, Pl.dep, Bool.and_eq_true] at h1 h2 h4 h5
      obtain ⟨m', b3, b4, b5, b6, ih⟩ := is_term_loop hw n ((x, d + 1) :: (f, d + 1) :: stk) (m + 1) (some (Pl.a f x).w) (some (.int d)) (some (.tup [f.w, x.w])) (some (.bl true)) (by simp only [List.map_cons, List.sum_cons]; omega) (by omega) (by simp only [List.map_cons, List.sum_cons]; omega) (fun p hp => by
        rcases List.mem_cons.mp hp with rfl | hp
        · exact ⟨h4.2, by show d + 1 + (x.dep : Int) ≤ 17; omega⟩
        · rcases List.mem_cons.mp hp with rfl | hp
          · exact ⟨h4.1, by show d + 1 + (f.dep : Int) ≤ 17; omega⟩
          · exact h6 p hp)
      refine ⟨m', b3, b4, b5, b6, ?_⟩
      rw [wh_s]
      simp_arith [tw, Pl.w] at ih
      simp_arith [tw, Pl.w, x_is_term_1t, x_is_term_1, forms_of G (w := f.w) (u := x.w) (by simp_arith [Pl.imm]), Pl.imm, l1, l2, l5, hw, ih]
    | l x b =>
      simp only [Pl.ok, Pl.size, Pl.dep, Bool.and_eq_true] at h1 h2 h4 h5
      obtain ⟨m', b3, b4, b5, b6, ih⟩ := is_term_loop hw n ((b, d + 1) :: stk) (m + 1) (some (Pl.l x b).w) (some (.int d)) (some (.tup [b.w])) (some (.bl true)) (by simp only [List.map_cons, List.sum_cons]; omega) (by omega) (by simp only [List.map_cons, List.sum_cons]; omega) (fun p hp => by
        rcases List.mem_cons.mp hp with rfl | hp
        · exact ⟨h4.2, by show d + 1 + (b.dep : Int) ≤ 17; omega⟩
        · exact h6 p hp)
      refine ⟨m', b3, b4, b5, b6, ?_⟩
      rw [wh_s]
      simp_arith [tw, Pl.w] at ih
      simp_arith [tw, Pl.w, x_is_term_1t, x_is_term_1, forms_with G (w := b.w) b.imm h4.1, Pl.imm, l1, l2, l4, hw, ih]
theorem is_term_ok {p : Pl} (h : p.ok = true) (hs : p.size ≤ 120) (hd : p.dep ≤ 16) : M (k + 4) 26 [p.w] S = .ok (.bl true) S := by
  rw [u_is_term G]
  obtain ⟨m', a3, a4, a5, a6, e⟩ := is_term_loop G (k := k) (S := S) (w := p.w) p.imm WF [(p, 1)] 0 none none none none (by show p.size + 0 < WF; have e : WF = 1000000000 := rfl; omega) (by omega) (by show (0 : Int) + ((p.size + 0 : Nat) : Int) ≤ 120; omega) (fun q hq => by
    rw [List.mem_singleton.mp hq]
    exact ⟨h, by show (1 : Int) + (p.dep : Int) ≤ 17; omega⟩)
  simp_arith [tw] at e
  unfold b_is_term
  simp_arith [Pl.imm, e]
theorem check_term_ok {p : Pl} (h : p.ok = true) (hs : p.size ≤ 120) (hd : p.dep ≤ 16) : M (k + 5) 19 [p.w] S = .ok .non S := by
  rw [u_check_term G]
  unfold b_check_term
  simp_arith [is_term_ok G h hs hd]
end
end PM
namespace PM
open PySem PySem.Spec L2 PB
/-! ### walks over trees: queues and piles -/
section
variable {α : Type} (ch : α → List α) (bf : Bool)
def nxt (q cs : List α) : List α := if bf then q ++ cs else cs.reverse ++ q
def trav : Nat → List α → List α
  | 0, _ => []
  | _ + 1, [] => []
  | n + 1, x :: q => x :: trav n (nxt bf q (ch x))
/-- behind each stands all that lies right within -/
def ChOk : List α → Prop
  | [] => True
  | x :: r => (∀ y ∈ ch x, y ∈ r) ∧ ChOk r
variable {ch bf} {sz : α → Nat}
theorem mem_nxt {q cs : List α} {y : α} : y ∈ nxt bf q cs ↔ y ∈ q ∨ y ∈ cs := by
  unfold nxt
  cases bf with
  | true => rw [if_pos rfl, List.mem_append]
  | false => rw [if_neg Bool.false_ne_true, List.mem_append, List.mem_reverse]; exact Or.comm
theorem sum_nxt {q cs : List α} : ((nxt bf q cs).map sz).sum = (q.map sz).sum + (cs.map sz).sum := by
  unfold nxt
  cases bf with
  | true => rw [if_pos rfl, List.map_append, List.sum_append]
  | false => rw [if_neg Bool.false_ne_true, List.map_append, List.sum_append, List.map_reverse, List.sum_reverse, Nat.add_comm]
theorem trav_mem (hs : ∀ x, ((ch x).map sz).sum + 1 = sz x) : ∀ (n : Nat) (q : List α), (q.map sz).sum ≤ n → ∀ x ∈ q, x ∈ trav ch bf n q
  | 0, [], _, x, hx => by cases hx
  | 0, y :: q, h, x, hx => by
    have := hs y
    simp only [List.map_cons, List.sum_cons] at h
    omega
  | n + 1, [], _, x, hx => by cases hx
  | n + 1, y :: q, h, x, hx => by
    have := hs y
    simp only [List.map_cons, List.sum_cons] at h
    show x ∈ y :: trav ch bf n (nxt bf q (ch y))
    rcases List.mem_cons.mp hx with rfl | hx
    · exact List.mem_cons_self ..
    · exact List.mem_cons_of_mem _ (trav_mem hs n _ (by rw [sum_nxt]; omega) x (mem_nxt.mpr (.inl hx)))
theorem trav_ch (hs : ∀ x, ((ch x).map sz).sum + 1 = sz x) : ∀ (n : Nat) (q : List α), (q.map sz).sum ≤ n → ChOk ch (trav ch bf n q)
  | 0, q, _ => trivial
  | n + 1, [], _ => trivial
  | n + 1, y :: q, h => by
    have := hs y
    simp only [List.map_cons, List.sum_cons] at h
    have h2 : ((nxt bf q (ch y)).map sz).sum ≤ n := by rw [sum_nxt]; omega
    exact ⟨fun x hx => trav_mem hs n _ h2 x (mem_nxt.mpr (.inr hx)), trav_ch hs n _ h2⟩
theorem trav_all {P : α → Prop} (hc : ∀ x, P x → ∀ y ∈ ch x, P y) : ∀ (n : Nat) (q : List α), (∀ x ∈ q, P x) → ∀ x ∈ trav ch bf n q, P x
  | 0, q, _, x, hx => by cases hx
  | n + 1, [], _, x, hx => by cases hx
  | n + 1, y :: q, h, x, hx => by
    rcases List.mem_cons.mp hx with rfl | hx
    · exact h x (List.mem_cons_self ..)
    · refine trav_all hc n _ (fun z hz => ?_) x hx
      rcases mem_nxt.mp hz with hz | hz
      · exact h z (List.mem_cons_of_mem _ hz)
      · exact hc y (h y (List.mem_cons_self ..)) z hz
theorem trav_len (hs : ∀ x, ((ch x).map sz).sum + 1 = sz x) : ∀ (n : Nat) (q : List α), (q.map sz).sum ≤ n → (trav ch bf n q).length = (q.map sz).sum
  | 0, [], _ => rfl
  | 0, y :: q, h => by
    have := hs y
    simp only [List.map_cons, List.sum_cons] at h
    omega
  | n + 1, [], _ => rfl
  | n + 1, y :: q, h => by
    have := hs y
    simp only [List.map_cons, List.sum_cons] at h
    have h2 : ((nxt bf q (ch y)).map sz).sum ≤ n := by rw [sum_nxt]; omega
    show (trav ch bf n (nxt bf q (ch y))).length + 1 = _
    rw [trav_len hs n _ h2, sum_nxt]
    simp only [List.map_cons, List.sum_cons]
    omega
theorem trav_nil : ∀ n : Nat, trav ch bf n [] = []
  | 0 => rfl
  | _ + 1 => rfl
end
/-! ### sets of names -/
def addS (L : List Str) (x : Str) : List Str := if x ∈ L then L else L ++ [x]
def kvS (L : List Str) : List (Key × W) := L.map fun x => (.inr x, .bl true)
theorem mem_addS {L : List Str} {x y : Str} : y ∈ addS L x ↔ y ∈ L ∨ y = x := by
  unfold addS
  by_cases h : x ∈ L
  · rw [if_pos h]
    exact ⟨.inl, fun z => z.elim id fun e => e ▸ h⟩
  · rw [if_neg h, List.mem_append, List.mem_singleton]
theorem len_addS {L : List Str} {x : Str} : (addS L x).length ≤ L.length + 1 := by
  unfold addS
  by_cases h : x ∈ L
  · rw [if_pos h]; omega
  · rw [if_neg h, List.length_append, List.length_singleton]; omega
theorem put_kvS {L : List Str} {x : Str} : putW (kvS L) (.inr x) (.bl true) = kvS (addS L x) := by
  unfold putW addS
  have e : ((kvS L).any fun p => decide (p.1 = Sum.inr x)) = decide (x ∈ L) := by
    unfold kvS
    induction L with
    | nil => rfl
    | cons y L ih =>
      rw [List.map_cons, List.any_cons, ih]
      by_cases h : y = x
      · subst h; simp
      · have h1 : ¬ (Sum.inr y : Key) = Sum.inr x := fun z => h (Sum.inr.inj z)
        have h2 : ¬ x = y := fun z => h z.symm
        simp [h1, h2, h]
  rw [e]
  by_cases h : x ∈ L
  · rw [if_pos (decide_eq_true h), if_pos h]
    unfold kvS
    rw [List.map_map]
    apply List.map_congr_left
    intro y _
    show (if (Sum.inr y : Key) = Sum.inr x then ((Sum.inr y : Key), W.bl true) else (Sum.inr y, W.bl true)) = (Sum.inr y, W.bl true)
    rw [ite_self]
  · rw [if_neg (by rw [decide_eq_true_eq]; exact h), if_neg h]
    unfold kvS
    rw [List.map_append]
    rfl
theorem strK_kvS : ∀ L : List Str, strK (kvS L) = some L
  | [] => rfl
  | x :: L => by
    show (match strK (kvS L) with | some xs => some (x :: xs) | none => none) = _
    rw [strK_kvS L]
/-- sorted names -/
def leS (a b : Str) : Bool := leW (.str a) (.str b)
def sortS (L : List Str) : List Str := isort leS L
theorem insB_map {α β : Type} {g : α → β} {le : β → β → Bool} (x : α) : ∀ L : List α, insB le (g x) (L.map g) = (insB (fun a b => le (g a) (g b)) x L).map g
  | [] => rfl
  | y :: L => by
    show (if le (g x) (g y) then g x :: g y :: L.map g else g y :: insB le (g x) (L.map g)) = (if le (g x) (g y) then x :: y :: L else y :: insB _ x L).map g
    rw [insB_map x L]
    cases le (g x) (g y) <;> rfl
theorem isort_map {α β : Type} {g : α → β} {le : β → β → Bool} : ∀ L : List α, isort le (L.map g) = (isort (fun a b => le (g a) (g b)) L).map g
  | [] => rfl
  | x :: L => by
    show insB le (g x) (isort le (L.map g)) = _
    rw [isort_map L, insB_map]
    rfl
theorem mem_insB {α : Type} {le : α → α → Bool} {x y : α} : ∀ {L : List α}, y ∈ insB le x L ↔ y = x ∨ y ∈ L
  | [] => by simp [insB]
  | z :: L => by
    show y ∈ (if le x z then x :: z :: L else z :: insB le x L) ↔ _
    cases le x z with
    | true => rw [if_pos rfl, List.mem_cons]
    | false =>
      rw [if_neg Bool.false_ne_true, List.mem_cons, mem_insB, List.mem_cons]
      exact ⟨fun h => h.elim (fun a => .inr (.inl a)) (fun a => a.elim .inl fun b => .inr (.inr b)), fun h => h.elim (fun a => .inr (.inl a)) (fun a => a.elim .inl fun b => .inr (.inr b))⟩
theorem mem_isort {α : Type} {le : α → α → Bool} {y : α} : ∀ {L : List α}, y ∈ isort le L ↔ y ∈ L
  | [] => Iff.rfl
  | x :: L => by
    show y ∈ insB le x (isort le L) ↔ _
    rw [mem_insB, mem_isort, List.mem_cons]
theorem len_insB {α : Type} {le : α → α → Bool} {x : α} : ∀ {L : List α}, (insB le x L).length = L.length + 1
  | [] => rfl
  | z :: L => by
    show (if le x z then x :: z :: L else z :: insB le x L).length = _
    cases le x z with
    | true => rfl
    | false =>
      show (insB le x L).length + 1 = _
      rw [len_insB]
      rfl
theorem len_isort {α : Type} {le : α → α → Bool} : ∀ {L : List α}, (isort le L).length = L.length
  | [] => rfl
  | x :: L => by
    show (insB le x (isort le L)).length = _
    rw [len_insB, len_isort]
    rfl
def skC (c : Option Cell) (S : Store) : Res W := match c with
  | some (.dK kvs) => match strK kvs with
    | some xs => if xs.length < 64 then .ok (.loc S.length) (S ++ [.lst (isort leW (xs.map .str))]) else .bad
    | none => .bad
  | _ => .bad
theorem sortK_loc {n : Nat} {S : Store} : sortK (.loc n) S = skC S[n]? S := rfl
theorem skC_kvS {L : List Str} {S : Store} (h : L.length < 64) : skC (some (.dK (kvS L))) S = .ok (.loc S.length) (S ++ [.lst ((sortS L).map .str)]) := by
  unfold skC
  dsimp only
  rw [strK_kvS]
  dsimp only
  rw [if_pos h, isort_map]
  rfl
def Ix.names : Ix → List Str
  | .n _ => []
  | .s x => [x]
  | .a f x => f.names ++ x.names
  | .l b => b.names
theorem Ix.names_len : ∀ t : Ix, t.names.length ≤ t.size
  | .n _ => by simp [names, size]
  | .s _ => by simp [names, size]
  | .a f x => by
    have := names_len f
    have := names_len x
    simp only [names, size, List.length_append]
    omega
  | .l b => by
    have := names_len b
    simp only [names, size]
    omega
section
variable {M : Nat → Nat → MF} (G : Good M) {k : Nat} {S : Store} {w u : W} {i j n : Int} {x y : Str} {ws : List W}
theorem len_kvS {L : List Str} : (kvS L).length = L.length := by unfold kvS; rw [List.length_map]
include G
theorem free_loop (hw : w.imm = true) : ∀ (n : Nat) (stk : List Ix) (L : List Str) (a3 : Option W), (stk.map Ix.size).sum < n → L.length + (stk.map Ix.size).sum ≤ 1000 →
    ∃ L' b3, (∀ x, x ∈ L' ↔ x ∈ L ∨ ∃ t ∈ stk, x ∈ t.names) ∧ L'.length ≤ L.length + (stk.map fun t => t.names.length).sum ∧ sWhile true (S.length + 2) (b_free_of_indexed_1t (M (k + 1))) (b_free_of_indexed_1 (M (k + 1))) n [some w, some (.loc S.length), some (.loc (S.length + 1)), a3] (S ++ [.dK (kvS L), .lst (stk.map Ix.w).reverse]) =
      .next [some w, some (.loc S.length), some (.loc (S.length + 1)), b3] (S ++ [.dK (kvS L'), .lst []])
  | 0, stk, L, a3, h, _ => absurd h (Nat.not_lt_zero _)
  | n + 1, [], L, a3, _, _ => by
    refine ⟨L, a3, fun x => ⟨.inl, fun h => h.elim id fun ⟨t, ht, _⟩ => by cases ht⟩, Nat.le_add_right _ _, ?_⟩
    rw [wh_s]
    simp_arith [x_free_of_indexed_1t]
  | n + 1, t :: stk, L, a3, h1, h2 => by
    have hl := len_sum (f := Ix.size) Ix.size_pos stk
    simp only [List.map_cons, List.sum_cons] at h1 h2
    cases t with
    | n i =>
      simp only [Ix.size] at h1 h2
      obtain ⟨L', b3, q1, q2, ih⟩ := free_loop hw n stk L (some (.int i)) (by omega) (by omega)
      refine ⟨L', b3, fun x => (q1 x).trans ?_, by simpa [Ix.names] using q2, ?_⟩
      · simp [Ix.names]
      · rw [wh_s]
        simp_arith [Ix.w, x_free_of_indexed_1t, x_free_of_indexed_1, is_integer_int G, ih, hw]
    | s x =>
      simp only [Ix.size] at h1 h2
      have := len_addS (L := L) (x := x)
      obtain ⟨L', b3, q1, q2, ih⟩ := free_loop hw n stk (addS L x) (some (.str x)) (by omega) (by omega)
      refine ⟨L', b3, fun y => (q1 y).trans ?_, ?_, ?_⟩
      · simp [Ix.names, mem_addS, or_assoc]
      · simp only [List.map_cons, List.sum_cons, Ix.names, List.length_singleton]
        omega
      · rw [wh_s]
        have l1 : L.length < LN := Nat.lt_of_lt_of_le (Nat.lt_succ_self _) (le_LN (n := L.length + 1) (by omega))
        simp_arith [Ix.w, x_free_of_indexed_1t, x_free_of_indexed_1, len_kvS, l1, put_kvS, ih, hw]
    | a f x =>
      simp only [Ix.size] at h1 h2
      obtain ⟨L', b3, q1, q2, ih⟩ := free_loop hw n (x :: f :: stk) L (some (Ix.a f x).w) (by simp only [List.map_cons, List.sum_cons]; omega) (by simp only [List.map_cons, List.sum_cons]; omega)
      refine ⟨L', b3, fun y => (q1 y).trans ?_, ?_, ?_⟩
      · simp only [List.mem_cons, exists_eq_or_imp, Ix.names, List.mem_append]
        constructor
        · rintro (h | h | h | h)
          · exact .inl h
          · exact .inr (.inl (.inr h))
          · exact .inr (.inl (.inl h))
          · exact .inr (.inr h)
        · rintro (h | (h | h) | h)
          · exact .inl h
          · exact .inr (.inr (.inl h))
          · exact .inr (.inl h)
          · exact .inr (.inr (.inr h))
      · simp only [List.map_cons, List.sum_cons, Ix.names, List.length_append] at q2 ⊢
        omega
      · rw [wh_s]
        have l1 : stk.length + 2 ≤ LN := le_LN (by have := f.size_pos; have := x.size_pos; omega)
        simp_arith [Ix.w] at ih
        simp_arith [Ix.w, x_free_of_indexed_1t, x_free_of_indexed_1, is_integer_tup G, Ix.imm, l1, ih, hw]
    | l b =>
      simp only [Ix.size] at h1 h2
      obtain ⟨L', b3, q1, q2, ih⟩ := free_loop hw n (b :: stk) L (some (Ix.l b).w) (by simp only [List.map_cons, List.sum_cons]; omega) (by simp only [List.map_cons, List.sum_cons]; omega)
      refine ⟨L', b3, fun y => (q1 y).trans ?_, ?_, ?_⟩
      · simp [Ix.names]
      · simpa [Ix.names] using q2
      · rw [wh_s]
        have l1 : stk.length + 1 ≤ LN := le_LN (by have := b.size_pos; omega)
        simp_arith [Ix.w] at ih
        simp_arith [Ix.w, x_free_of_indexed_1t, x_free_of_indexed_1, is_integer_tup G, Ix.imm, l1, ih, hw]
theorem free_of_indexed_ok {t : Ix} (h : t.size ≤ 900) (hn : t.names.length < 64) : ∃ L : List Str, (∀ x, x ∈ L ↔ x ∈ t.names) ∧ L.length ≤ t.names.length ∧ M (k + 2) 23 [t.w] S = .ok (.loc S.length) (S ++ [.lst (L.map .str)]) := by
  obtain ⟨L, b3, q1, q2, e⟩ := free_loop G (k := k) (S := S) (w := t.w) t.imm WF [t] [] none (by show t.size + 0 < WF; have e : WF = 1000000000 := rfl; omega) (by show 0 + (t.size + 0) ≤ 1000; omega)
  have q3 : L.length ≤ t.names.length := by simpa using q2
  refine ⟨sortS L, fun x => mem_isort.trans ((q1 x).trans (by simp)), by unfold sortS; rw [len_isort]; exact q3, ?_⟩
  rw [u_free_of_indexed G]
  simp_arith [show kvS [] = [] from rfl] at e
  unfold b_free_of_indexed
  simp_arith [Ix.imm, e, sortK_loc, skC_kvS (Nat.lt_of_le_of_lt q3 hn)]
end
end PM
namespace PM
open PySem PySem.Spec L2 PB
/-! ### raw_indexed -/
abbrev PItem := List Int × Pl × List Str
def pch : PItem → List PItem
  | (_, .v _, _) => []
  | (p, .a f x, b) => [(p ++ [0], f, b), (p ++ [1], x, b)]
  | (p, .l x t, b) => [(p ++ [0], t, x :: b)]
def psz (i : PItem) : Nat := i.2.1.size
theorem psz_ch (i : PItem) : ((pch i).map psz).sum + 1 = psz i := by
  obtain ⟨p, t, b⟩ := i
  cases t <;> simp [pch, psz, Pl.size] <;> omega
def Pl.ix (b : List Str) : Pl → Ix
  | .v x => match posOf x b with
    | some j => .n j
    | none => .s x
  | .a f x => .a (f.ix b) (x.ix b)
  | .l x t => .l (t.ix (x :: b))
def pwi (i : PItem) : W := .tup [pth i.1, i.2.1.w, nms i.2.2]
def pwd (i : PItem) : W := .tup [pth i.1, i.2.1.w]
/-- what lies at a path -/
def psub : Pl × List Str → Int → Option (Pl × List Str)
  | (.a f _, b), 0 => some (f, b)
  | (.a _ x, b), 1 => some (x, b)
  | (.l x t, b), 0 => some (t, x :: b)
  | _, _ => none
def pat (t : Pl) (p : List Int) : Option (Pl × List Str) := p.foldl (fun o i => o.bind fun a => psub a i) (some (t, []))
theorem pat_snoc {t : Pl} {p : List Int} {i : Int} : pat t (p ++ [i]) = (pat t p).bind fun a => psub a i := by
  unfold pat
  rw [List.foldl_append]
  rfl
def PAt (t : Pl) (i : PItem) : Prop := pat t i.1 = some i.2 ∧ i.1.length + i.2.1.size ≤ t.size
theorem pat_ch {t : Pl} (i : PItem) (h : PAt t i) : ∀ j ∈ pch i, PAt t j := by
  obtain ⟨p, u, b⟩ := i
  obtain ⟨h, h2⟩ := h
  intro j hj
  cases u with
  | v x => cases hj
  | a f x =>
    have := f.size_pos
    have := x.size_pos
    simp only [Pl.size] at h2
    rcases List.mem_cons.mp hj with rfl | hj
    · refine ⟨?_, ?_⟩
      · show pat t (p ++ [0]) = _
        rw [pat_snoc, h]
        rfl
      · simp only [List.length_append, List.length_singleton]; omega
    · rw [List.mem_singleton.mp hj]
      refine ⟨?_, ?_⟩
      · show pat t (p ++ [1]) = _
        rw [pat_snoc, h]
        rfl
      · simp only [List.length_append, List.length_singleton]; omega
  | l x u =>
    simp only [Pl.size] at h2
    rw [List.mem_singleton.mp hj]
    refine ⟨?_, ?_⟩
    · show pat t (p ++ [0]) = _
      rw [pat_snoc, h]
      rfl
    · simp only [List.length_append, List.length_singleton]; omega
def pval (t : Pl) (p : List Int) : Option W := (pat t p).map fun a => (a.1.ix a.2).w
theorem pval_at {t : Pl} {i : PItem} (h : PAt t i) : pval t i.1 = some (i.2.1.ix i.2.2).w := by
  unfold pval
  rw [h.1]
  rfl
def Pl.isV : Pl → Bool
  | .v _ => true
  | _ => false
section
variable {M : Nat → Nat → MF} (G : Good M) {k : Nat} {S : Store} {w u : W} {i j n : Int} {x y : Str} {ws : List W} {r : Pl}
theorem ri_loop1 (hw : w.imm = true) : ∀ (n : Nat) (stk : List PItem) (F : List (List Key × W)) (D : List W) (a4 a5 a6 : Option W), (stk.map psz).sum < n → (∀ i ∈ stk, PAt r i ∧ i.2.2.length ≤ i.1.length) → r.size ≤ 1000 → DI (pval r) F → F.length + (stk.map psz).sum ≤ 2000 → D.length + (stk.map psz).sum ≤ 2000 → (∀ K, keepO K a6 = a6) →
    ∃ F' b4 b5 b6, (∀ K, keepO K b6 = b6) ∧ DI (pval r) F' ∧ (∀ p, DH F p → DH F' p) ∧ (∀ i ∈ trav pch false n stk, i.2.1.isV = true → DH F' i.1) ∧ F'.length ≤ F.length + (stk.map psz).sum ∧
    sWhile true (S.length + 3) (b_raw_indexed_2t (M k)) (b_raw_indexed_2 (M k)) n [some w, some (.loc S.length), some (.loc (S.length + 1)), some (.loc (S.length + 2)), a4, a5, a6] (S ++ [.dT F, .lst (stk.map pwi).reverse, .lst D]) =
      .next [some w, some (.loc S.length), some (.loc (S.length + 1)), some (.loc (S.length + 2)), b4, b5, b6] (S ++ [.dT F', .lst [], .lst (D ++ (trav pch false n stk).map pwd)])
  | 0, stk, F, D, a4, a5, a6, h, _, _, _, _, _, _ => absurd h (Nat.not_lt_zero _)
  | n + 1, [], F, D, a4, a5, a6, _, _, _, hF, _, _, h6 => by
    refine ⟨F, a4, a5, a6, h6, hF, fun _ h => h, fun i (hi : i ∈ ([] : List PItem)) _ => (by cases hi), Nat.le_add_right _ _, ?_⟩
    rw [wh_s]
    simp_arith [x_raw_indexed_2t, trav]
  | n + 1, (p, t, b) :: stk, F, D, a4, a5, a6, h1, hP, hr, hF, h2, h3, h6 => by
    have h6b : ∀ K, keepO K (some (nms b)) = some (nms b) := fun K => keepO_imm imm_nms
    have hl := len_sum (f := psz) (fun i => i.2.1.size_pos) stk
    have hP1 := hP _ (List.mem_cons_self ..)
    have hP2 := fun i hi => hP i (List.mem_cons_of_mem _ hi)
    have hc := pat_ch _ hP1.1
    have hv := pval_at hP1.1
    obtain ⟨⟨hp1, hp2⟩, hp3⟩ := hP1
    have e1 : (trav pch false (n + 1) ((p, t, b) :: stk)) = (p, t, b) :: trav pch false n (nxt false stk (pch (p, t, b))) := rfl
    rw [e1]
    simp only [List.map_cons, List.sum_cons] at h1 h2 h3
    simp only [] at hp2 hp3
    have hts := t.size_pos
    have l0 : D.length < LN := Nat.lt_of_lt_of_le (Nat.lt_succ_self _) (by
      have e : LN = 16777216 := rfl
      have : psz (p, t, b) = t.size := rfl
      omega)
    have l4 : p.length + 1 ≤ LN := le_LN (by omega)
    cases t with
    | v x =>
      have e0 : psz (p, .v x, b) = 1 := rfl
      rw [e0] at h1 h2 h3
      have := len_put (kvs := F) (k := pk p) (w := (Pl.ix b (.v x)).w)
      have hF2 := di_put hF hv
      obtain ⟨F', b4, b5, b6, q0, q1, q2, q3, q4, ih⟩ := ri_loop1 hw n stk (putW F (pk p) (Pl.ix b (.v x)).w) (D ++ [pwd (p, .v x, b)]) (some (pth p)) (some (.str x)) (some (nms b)) (by omega) hP2 hr hF2 (by omega) (by rw [List.length_append, List.length_singleton]; omega) h6b
      refine ⟨F', b4, b5, b6, q0, q1, fun q hq => q2 q (dh_put hq), fun i hi hv => ?_, ?_, ?_⟩
      · rcases List.mem_cons.mp hi with rfl | hi
        · exact q2 _ dh_self
        · exact q3 i hi hv
      · simp only [List.map_cons, List.sum_cons, e0]; omega
      · rw [wh_s]
        have l1 : F.length < LN := Nat.lt_of_lt_of_le (Nat.lt_succ_self _) (by
          have e : LN = 16777216 := rfl
          omega)
        simp_arith [pwd, Pl.w] at ih
        cases z : posOf x b with
        | some j =>
          have m : decide (x ∈ b) = true := by rw [← pos_mem, z]; rfl
          have e2 : (Pl.ix b (.v x)).w = .int (j : Nat) := by simp only [Pl.ix, z, Ix.w]
          rw [e2] at ih
          simp_arith [pwi, pwd, Pl.w, x_raw_indexed_2t, x_raw_indexed_2, l0, l1, m, tix_nms z, hw, nxt, pch, e2, ih]
        | none =>
          have m : decide (x ∈ b) = false := by rw [← pos_mem, z]; rfl
          have e2 : (Pl.ix b (.v x)).w = .str x := by simp only [Pl.ix, z, Ix.w]
          rw [e2] at ih
          simp_arith [pwi, pwd, Pl.w, x_raw_indexed_2t, x_raw_indexed_2, l0, l1, m, hw, nxt, pch, e2, ih]
    | a f x =>
      have e0 : psz (p, .a f x, b) = 1 + f.size + x.size := rfl
      rw [e0] at h1 h2 h3
      simp only [Pl.size] at hp2
      have := f.size_pos
      have := x.size_pos
      obtain ⟨F', b4, b5, b6, q0, q1, q2, q3, q4, ih⟩ := ri_loop1 hw n (nxt false stk (pch (p, .a f x, b))) F (D ++ [pwd (p, .a f x, b)]) (some (pth p)) (some (Pl.a f x).w) (some (nms b)) (by rw [sum_nxt]; simp [pch, psz]; omega) (fun i hi => by
        rcases mem_nxt.mp hi with hi | hi
        · exact hP2 i hi
        · refine ⟨hc i hi, ?_⟩
          rcases List.mem_cons.mp hi with rfl | hi
          · simp only [List.length_append, List.length_singleton]; omega
          · rw [List.mem_singleton.mp hi]
            simp only [List.length_append, List.length_singleton]; omega) hr hF (by rw [sum_nxt]; simp [pch, psz]; omega) (by rw [sum_nxt, List.length_append, List.length_singleton]; simp [pch, psz]; omega) h6b
      refine ⟨F', b4, b5, b6, q0, q1, q2, fun i hi hv => ?_, ?_, ?_⟩
      · rcases List.mem_cons.mp hi with rfl | hi
        · cases hv
        · exact q3 i hi hv
      · rw [sum_nxt] at q4
        simp only [pch, psz, List.map_cons, List.map_nil, List.sum_cons, List.sum_nil, Pl.size] at q4 ⊢
        omega
      · rw [wh_s]
        have l1 : stk.length + 2 ≤ LN := by
          have e : LN = 16777216 := rfl
          omega
        simp_arith [pwi, pwd, Pl.w, nxt, pch] at ih
        simp_arith [pwi, pwd, Pl.w, Pl.imm, x_raw_indexed_2t, x_raw_indexed_2, l0, l1, l4, hw, nxt, pch, ih]
    | l x u =>
      have e0 : psz (p, .l x u, b) = 1 + u.size := rfl
      rw [e0] at h1 h2 h3
      simp only [Pl.size] at hp2
      have := u.size_pos
      obtain ⟨F', b4, b5, b6, q0, q1, q2, q3, q4, ih⟩ := ri_loop1 hw n (nxt false stk (pch (p, .l x u, b))) F (D ++ [pwd (p, .l x u, b)]) (some (pth p)) (some (Pl.l x u).w) (some (nms b)) (by rw [sum_nxt]; simp [pch, psz]; omega) (fun i hi => by
        rcases mem_nxt.mp hi with hi | hi
        · exact hP2 i hi
        · refine ⟨hc i hi, ?_⟩
          rw [List.mem_singleton.mp hi]
          simp only [List.length_append, List.length_singleton, List.length_cons]; omega) hr hF (by rw [sum_nxt]; simp [pch, psz]; omega) (by rw [sum_nxt, List.length_append, List.length_singleton]; simp [pch, psz]; omega) h6b
      refine ⟨F', b4, b5, b6, q0, q1, q2, fun i hi hv => ?_, ?_, ?_⟩
      · rcases List.mem_cons.mp hi with rfl | hi
        · cases hv
        · exact q3 i hi hv
      · rw [sum_nxt] at q4
        simp only [pch, psz, List.map_cons, List.map_nil, List.sum_cons, List.sum_nil, Pl.size] at q4 ⊢
        omega
      · rw [wh_s]
        have l1 : stk.length < LN := by
          have e : LN = 16777216 := rfl
          omega
        have l5 : b.length + 1 ≤ LN := by
          have e : LN = 16777216 := rfl
          omega
        simp_arith [pwi, pwd, Pl.w, nxt, pch] at ih
        simp_arith [pwi, pwd, Pl.w, Pl.imm, x_raw_indexed_2t, x_raw_indexed_2, l0, l1, l4, l5, hw, nxt, pch, ih]
theorem ri_loop2 (hw : w.imm = true) {c1 c2 : Cell} (hr : r.size ≤ 1000) (rest : List W) : ∀ (V : List PItem) (F : List (List Key × W)) (a4 a5 a6 : Option W), ChOk pch V → (∀ i ∈ V, PAt r i) → DI (pval r) F → (∀ i ∈ V, i.2.1.isV = true → DH F i.1) → F.length + V.length ≤ 4000 → (∀ K, keepO K a6 = a6) →
    ∃ F' b4 b5, DI (pval r) F' ∧ (∀ p, DH F p → DH F' p) ∧ (∀ i ∈ V, DH F' i.1) ∧ F'.length ≤ F.length + V.length ∧
    forW true (S.length + 3) (bTup 2 (bCons (bName 4) (bCons (bName 5) bNil))) (b_raw_indexed_1 (M k)) [] ((V.map pwd).reverse ++ rest) [some w, some (.loc S.length), some (.loc (S.length + 1)), some (.loc (S.length + 2)), a4, a5, a6] (S ++ [.dT F, c1, c2]) =
      forW true (S.length + 3) (bTup 2 (bCons (bName 4) (bCons (bName 5) bNil))) (b_raw_indexed_1 (M k)) [] rest [some w, some (.loc S.length), some (.loc (S.length + 1)), some (.loc (S.length + 2)), b4, b5, a6] (S ++ [.dT F', c1, c2])
  | [], F, a4, a5, a6, _, _, hF, _, _, _ => by
    refine ⟨F, a4, a5, hF, fun _ h => h, fun i hi => (by cases hi), Nat.le_add_right _ _, ?_⟩
    simp_arith
  | (p, t, b) :: V, F, a4, a5, a6, hc, hA, hF, hv, hl, h6 => by
    obtain ⟨F1, b4, b5, q1, q2, q3, q4, e⟩ := ri_loop2 hw hr (pwd (p, t, b) :: rest) V F a4 a5 a6 hc.2 (fun i hi => hA i (List.mem_cons_of_mem _ hi)) hF (fun i hi => hv i (List.mem_cons_of_mem _ hi)) (by rw [List.length_cons] at hl; omega) h6
    have hA1 := hA _ (List.mem_cons_self ..)
    have hval := pval_at hA1
    have hch := pat_ch _ hA1
    have e1 : (((p, t, b) :: V).map pwd).reverse ++ rest = (V.map pwd).reverse ++ (pwd (p, t, b) :: rest) := by simp
    have hls : (p, t, b) :: V = (p, t, b) :: V := rfl
    rw [List.length_cons] at hl
    have l1 : F1.length < LN := by
      have e : LN = 16777216 := rfl
      omega
    have h6k := h6 (S.length + 3)
    have l4 : p.length + 1 ≤ LN := by
      have e : LN = 16777216 := rfl
      have := hA1.2
      simp only [] at this
      omega
    cases t with
    | v x =>
      refine ⟨F1, some (pth p), some (.str x), q1, q2, fun i hi => ?_, by rw [List.length_cons]; omega, ?_⟩
      · rcases List.mem_cons.mp hi with rfl | hi
        · exact q2 _ (hv _ (List.mem_cons_self ..) rfl)
        · exact q3 i hi
      · rw [e1, e]
        simp_arith [pwd, Pl.w, x_raw_indexed_1, hw, h6k]
    | a f x =>
      have m0 := hch _ (List.mem_cons_self ..)
      have m1 := hch _ (List.mem_cons_of_mem _ (List.mem_cons_self ..))
      have g0 := di_get q1 (q3 _ (hc.1 _ (List.mem_cons_self ..))) (pval_at m0)
      have g1 := di_get q1 (q3 _ (hc.1 _ (List.mem_cons_of_mem _ (List.mem_cons_self ..)))) (pval_at m1)
      have := len_put (kvs := F1) (k := pk p) (w := (Pl.ix b (.a f x)).w)
      refine ⟨putW F1 (pk p) (Pl.ix b (.a f x)).w, some (pth p), some (Pl.a f x).w, di_put q1 hval, fun q hq => dh_put (q2 q hq), fun i hi => ?_, by rw [List.length_cons]; omega, ?_⟩
      · rcases List.mem_cons.mp hi with rfl | hi
        · exact dh_self
        · exact dh_put (q3 i hi)
      · rw [e1, e]
        simp only [] at g0 g1
        simp_arith [pwd, Pl.w, Pl.imm, x_raw_indexed_1, hw, h6k, g0, g1, l1, l4, Pl.ix, Ix.w, Ix.imm]
    | l x u =>
      have m0 := hch _ (List.mem_cons_self ..)
      have g0 := di_get q1 (q3 _ (hc.1 _ (List.mem_cons_self ..))) (pval_at m0)
      have := len_put (kvs := F1) (k := pk p) (w := (Pl.ix b (.l x u)).w)
      refine ⟨putW F1 (pk p) (Pl.ix b (.l x u)).w, some (pth p), some (Pl.l x u).w, di_put q1 hval, fun q hq => dh_put (q2 q hq), fun i hi => ?_, by rw [List.length_cons]; omega, ?_⟩
      · rcases List.mem_cons.mp hi with rfl | hi
        · exact dh_self
        · exact dh_put (q3 i hi)
      · rw [e1, e]
        simp only [] at g0
        simp_arith [pwd, Pl.w, Pl.imm, x_raw_indexed_1, hw, h6k, g0, l1, l4, Pl.ix, Ix.w, Ix.imm]
include G in
theorem raw_indexed_ok {t : Pl} (ht : t.size ≤ 900) (hok : t.ok = true) : M (k + 1) 17 [t.w] S = .ok (t.ix []).w S := by
  have hwf : WF = 1000000000 := rfl
  obtain ⟨F1, b4, b5, b6, q0, q1, q2, q3, q4, e1⟩ := ri_loop1 (M := M) (k := k) (S := S) (w := t.w) (r := t) t.imm WF [([], t, [])] [] [] none none none (by show t.size + 0 < WF; omega) (fun i hi => by
    rw [List.mem_singleton.mp hi]
    exact ⟨⟨rfl, by show 0 + t.size ≤ t.size; omega⟩, Nat.le_refl _⟩) (by omega) di_nil (by show 0 + (t.size + 0) ≤ 2000; omega) (by show 0 + (t.size + 0) ≤ 2000; omega) (fun K => rfl)
  have hV := trav_ch (bf := false) psz_ch WF [([], t, [])] (by show t.size + 0 ≤ WF; omega)
  have hVl := trav_len (bf := false) psz_ch WF [([], t, [])] (by show t.size + 0 ≤ WF; omega)
  have hVA := trav_all (bf := false) (P := PAt t) pat_ch WF [([], t, [])] (fun i hi => by
    rw [List.mem_singleton.mp hi]
    exact ⟨rfl, by show 0 + t.size ≤ t.size; omega⟩)
  have hVm := trav_mem (bf := false) psz_ch WF [([], t, [])] (by show t.size + 0 ≤ WF; omega) _ (List.mem_cons_self ..)
  have q4 : F1.length ≤ t.size := by simpa [psz] using q4
  have hVl : (trav pch false WF [([], t, [])]).length = t.size := by simpa [psz] using hVl
  generalize trav pch false WF [([], t, [])] = V at *
  obtain ⟨F2, c4, c5, p1, p2, p3, p4, e2⟩ := ri_loop2 (M := M) (k := k) (S := S) (w := t.w) (r := t) t.imm (c1 := .lst []) (c2 := .lst (V.map pwd)) (by omega) [] V F1 b4 b5 b6 hV hVA q1 q3 (by omega) q0
  have g := di_get p1 (p3 _ hVm) (pval_at (hVA _ hVm))
  rw [u_raw_indexed G]
  simp_arith [pwi] at e1
  rw [List.append_nil] at e2
  unfold b_raw_indexed
  have g : getW F2 (pk []) = some (t.ix []).w := g
  simp_arith [Pl.imm, e1, e2, ← pth_nil, ← nms_nil, g, Ix.imm]
end
end PM
namespace PM
open PySem PySem.Spec L2 PB
/-! ### name_at -/
def nameCs : Nat → Nat → List Nat
  | 0, _ => []
  | _ + 1, 0 => []
  | f + 1, m + 1 => nameCs f (m / 26) ++ [97 + m % 26]
def nameAt (n : Nat) : Str := ⟨(nameCs (n + 1) (n + 1)).toArray⟩
theorem nameCs_len : ∀ f m, (nameCs f m).length ≤ m
  | 0, _ => by simp [nameCs]
  | _ + 1, 0 => by simp [nameCs]
  | f + 1, m + 1 => by
    have := nameCs_len f (m / 26)
    simp only [nameCs, List.length_append, List.length_singleton]
    omega
theorem nameCs_fuel : ∀ f m, m ≤ f → nameCs f m = nameCs m m
  | 0, m, h => by rw [Nat.le_zero.mp h]
  | f + 1, 0, _ => rfl
  | f + 1, m + 1, h => by
    show nameCs f (m / 26) ++ [97 + m % 26] = nameCs m (m / 26) ++ [97 + m % 26]
    rw [nameCs_fuel f (m / 26) (by omega), nameCs_fuel m (m / 26) (by omega)]
theorem small_at : ∀ i, i < 26 → small.cps.toList[i]? = some (97 + i) := by decide +kernel
theorem ix_small {i : Nat} {S : Store} (h : i < 26) : subIx (.str "abcdefghijklmnopqrstuvwxyz") (.int (i : Nat)) S = .ok (.str ⟨#[97 + i]⟩) S := by
  show (if small.length ≤ LN then (match atI small.cps.toList (i : Nat) with | some c => Res.ok (W.str ⟨#[c]⟩) S | none => .bad) else .bad) = _
  have e : small.length = 26 := by decide +kernel
  rw [at_nat (small_at i h), if_pos (le_LN (by omega))]
theorem ev_adds {a b : Str} {S : Store} (h : a.length + b.length ≤ LN) : opAdd (.str a) (.str b) S = .ok (.str (a ++ b)) S := if_pos h
theorem sub_one {n : Nat} : ((n + 1 : Nat) : Int) - 1 = (n : Nat) := by omega
theorem md26 {n : Nat} : ((n : Nat) : Int) % 26 = ((n % 26 : Nat) : Int) := by omega
theorem dv26 {n : Nat} : ((n : Nat) : Int) / 26 = ((n / 26 : Nat) : Int) := by omega
def nameVal (cs : List Nat) : Nat := cs.foldl (fun a c => a * 26 + (c - 96)) 0
theorem nameVal_cs : ∀ f m, m ≤ f → nameVal (nameCs f m) = m
  | 0, m, h => by rw [Nat.le_zero.mp h]; rfl
  | f + 1, 0, _ => rfl
  | f + 1, m + 1, h => by
    have ih := nameVal_cs f (m / 26) (by omega)
    show nameVal (nameCs f (m / 26) ++ [97 + m % 26]) = m + 1
    unfold nameVal at ih ⊢
    rw [List.foldl_append, ih]
    show m / 26 * 26 + (97 + m % 26 - 96) = m + 1
    omega
theorem nameAt_inj {a b : Nat} (h : nameAt a = nameAt b) : a = b := by
  unfold nameAt at h
  have h2 : nameCs (a + 1) (a + 1) = nameCs (b + 1) (b + 1) := by
    have := congrArg (fun s : Str => s.cps.toList) h
    simpa using this
  have h3 := congrArg nameVal h2
  rw [nameVal_cs _ _ (Nat.le_refl _), nameVal_cs _ _ (Nat.le_refl _)] at h3
  omega
def nameCap : Nat → Nat
  | 0 => 0
  | j + 1 => 26 * nameCap j + 26
theorem nameCs_cap : ∀ j f m, m ≤ nameCap j → (nameCs f m).length ≤ j
  | j, 0, m, _ => Nat.zero_le _
  | j, f + 1, 0, _ => Nat.zero_le _
  | 0, f + 1, m + 1, h => absurd h (by show ¬ m + 1 ≤ 0; omega)
  | j + 1, f + 1, m + 1, h => by
    have h : m + 1 ≤ 26 * nameCap j + 26 := h
    have := nameCs_cap j f (m / 26) (by omega)
    show (nameCs f (m / 26) ++ [97 + m % 26]).length ≤ j + 1
    rw [List.length_append, List.length_singleton]
    omega
theorem small_mem : ∀ i, i < 26 → (97 + i) ∈ small.cps.toList := fun i h => List.mem_of_getElem? (small_at i h)
theorem nameCs_small : ∀ f m, ∀ c ∈ nameCs f m, c ∈ small.cps.toList
  | 0, m, c, h => by cases h
  | f + 1, 0, c, h => by cases h
  | f + 1, m + 1, c, h => by
    have h : c ∈ nameCs f (m / 26) ++ [97 + m % 26] := h
    rcases List.mem_append.mp h with h | h
    · exact nameCs_small f _ c h
    · rw [List.mem_singleton.mp h]
      exact small_mem _ (Nat.mod_lt _ (by omega))
theorem nameOk_at {n : Nat} (h : n < 18000) : nameOk (nameAt n) = true := by
  have h3 := nameCs_cap 3 (n + 1) (n + 1) (by show n + 1 ≤ 26 * (26 * (26 * 0 + 26) + 26) + 26; omega)
  have h1 : 1 ≤ (nameCs (n + 1) (n + 1)).length := by
    show 1 ≤ (nameCs n (n / 26) ++ [97 + n % 26]).length
    rw [List.length_append, List.length_singleton]
    omega
  unfold nameOk
  have e1 : (nameAt n).length = (nameCs (n + 1) (n + 1)).length := by
    show (nameCs (n + 1) (n + 1)).toArray.size = _
    rw [List.size_toArray]
  have e2 : (nameAt n).cps.toList = nameCs (n + 1) (n + 1) := rfl
  rw [e1, e2, decide_eq_true h1, decide_eq_true (by omega : (nameCs (n + 1) (n + 1)).length ≤ 8)]
  show (nameCs (n + 1) (n + 1)).all _ = true
  rw [List.all_eq_true]
  intro c hc
  exact decide_eq_true (nameCs_small _ _ c hc)
/-- the names that are not taken, of the first n -/
def frs (L : List Str) (n : Nat) : List Str := ((List.range n).map nameAt).filter fun x => !decide (x ∈ L)
theorem frs_succ {L : List Str} {n : Nat} : frs L (n + 1) = if nameAt n ∈ L then frs L n else frs L n ++ [nameAt n] := by
  unfold frs
  rw [List.range_succ, List.map_append, List.filter_append]
  show _ ++ List.filter _ [nameAt n] = _
  by_cases h : nameAt n ∈ L
  · rw [if_pos h, List.filter_cons_of_neg (by simp [h])]
    simp
  · rw [if_neg h, List.filter_cons_of_pos (by simp [h])]
    rfl
theorem range_names_nodup (n : Nat) : ((List.range n).map nameAt).Nodup := by
  rw [List.nodup_iff_pairwise_ne, List.pairwise_map]
  exact (List.nodup_iff_pairwise_ne.mp List.nodup_range).imp fun h e => h (nameAt_inj e)
theorem len_filter2 {α : Type} (p : α → Bool) : ∀ l : List α, l.length = (l.filter p).length + (l.filter fun x => !p x).length
  | [] => rfl
  | x :: l => by
    have := len_filter2 p l
    rw [List.filter_cons, List.filter_cons]
    cases p x <;> simp <;> omega
theorem frs_len (L : List Str) (n : Nat) : n ≤ (frs L n).length + L.length := by
  have e : n = ((List.range n).map nameAt).length := by rw [List.length_map, List.length_range]
  have e2 := len_filter2 (fun x => !decide (x ∈ L)) ((List.range n).map nameAt)
  have e3 : (((List.range n).map nameAt).filter fun x => !!decide (x ∈ L)).length ≤ L.length := by
    refine List.Nodup.length_le_of_subset ((range_names_nodup n).sublist List.filter_sublist) fun x hx => ?_
    have := (List.mem_filter.mp hx).2
    simpa using this
  unfold frs
  omega
theorem frs_nodup (L : List Str) (n : Nat) : (frs L n).Nodup := (range_names_nodup n).sublist List.filter_sublist
theorem frs_prefix {L : List Str} : ∀ (n m : Nat), frs L n <+: frs L (n + m)
  | n, 0 => List.prefix_rfl
  | n, m + 1 => by
    refine (frs_prefix n m).trans ?_
    show frs L (n + m) <+: frs L (n + m + 1)
    rw [frs_succ]
    by_cases h : nameAt (n + m) ∈ L
    · rw [if_pos h]; exact List.prefix_rfl
    · rw [if_neg h]; exact List.prefix_append _ _
theorem frs_mem {L : List Str} {n : Nat} {x : Str} (h : x ∈ frs L n) : x ∉ L ∧ ∃ i, i < n ∧ x = nameAt i := by
  unfold frs at h
  obtain ⟨h1, h2⟩ := List.mem_filter.mp h
  obtain ⟨i, hi, e⟩ := List.mem_map.mp h1
  exact ⟨by simpa using h2, i, List.mem_range.mp hi, e.symm⟩
theorem frs_congr {L L' : List Str} (h : ∀ x, x ∈ L ↔ x ∈ L') (n : Nat) : frs L n = frs L' n := by
  unfold frs
  congr 1
  funext x
  simp only [h x]
theorem frs_le (L : List Str) (n : Nat) : (frs L n).length ≤ n := by
  unfold frs
  refine Nat.le_trans (List.length_filter_le _ _) ?_
  rw [List.length_map, List.length_range]
  exact Nat.le_refl _
section
variable {M : Nat → Nat → MF} (G : Good M) {k : Nat} {S : Store} {w u : W} {i j n : Int} {x y : Str} {ws : List W} {r : Pl}
theorem name_loop (hw : w.imm = true) : ∀ (n m : Nat) (acc : List Nat), m < n → acc.length + m ≤ LN →
    sWhile true S.length (b_name_at_1t (M k)) (b_name_at_1 (M k)) n [some w, some (.str ⟨acc.toArray⟩), some (.int (m : Nat))] S = .next [some w, some (.str ⟨(nameCs m m ++ acc).toArray⟩), some (.int 0)] S
  | 0, m, acc, h, _ => absurd h (Nat.not_lt_zero _)
  | n + 1, 0, acc, _, _ => by
    rw [wh_s]
    simp_arith [x_name_at_1t]
    rfl
  | n + 1, m + 1, acc, h, h2 => by
    have ih := name_loop hw n (m / 26) ((97 + m % 26) :: acc) (by omega) (by rw [List.length_cons]; omega)
    rw [wh_s]
    have l1 : m % 26 < 26 := Nat.mod_lt _ (by omega)
    have l2 : (⟨#[97 + m % 26]⟩ : Str).length + (⟨acc.toArray⟩ : Str).length ≤ LN := by
      show 1 + acc.toArray.size ≤ LN
      rw [List.size_toArray]
      omega
    have e1 : (⟨#[97 + m % 26]⟩ : Str) ++ (⟨acc.toArray⟩ : Str) = ⟨((97 + m % 26) :: acc).toArray⟩ := by
      show Str.mk (#[97 + m % 26] ++ acc.toArray) = _
      simp
    simp_arith [x_name_at_1t, x_name_at_1, hw, sub_one, md26, dv26, ix_small l1, ev_adds l2, e1, ih]
    show _ = SR.next [some w, some (W.str ⟨((nameCs m (m / 26) ++ [97 + m % 26]) ++ acc).toArray⟩), some (.int 0)] S
    rw [nameCs_fuel m (m / 26) (by omega), List.append_assoc]
    rfl
include G in
theorem name_at_ok {n : Nat} (h : n < 1000000) : M (k + 1) 22 [.int (n : Nat)] S = .ok (.str (nameAt n)) S := by
  have hwf : WF = 1000000000 := rfl
  have hln : LN = 16777216 := rfl
  have e := name_loop (M := M) (k := k) (S := S) (w := .int (n : Nat)) rfl WF (n + 1) [] (by omega) (by rw [List.length_nil]; omega)
  rw [u_name_at G]
  unfold b_name_at
  have e0 : (("" : Str)) = ⟨([] : List Nat).toArray⟩ := by decide
  have e1 : ((n : Nat) : Int) + 1 = ((n + 1 : Nat) : Int) := by omega
  simp_arith [e0, e1, e]
  rfl
end
end PM
namespace PM
open PySem PySem.Spec L2 PB
/-! ### raw_named -/
abbrev IItem := List Int × Ix × Nat
def ich : IItem → List IItem
  | (_, .n _, _) => []
  | (_, .s _, _) => []
  | (p, .a f x, d) => [(p ++ [0], f, d), (p ++ [1], x, d)]
  | (p, .l t, d) => [(p ++ [0], t, d + 1)]
def isz (i : IItem) : Nat := i.2.1.size
theorem isz_ch (i : IItem) : ((ich i).map isz).sum + 1 = isz i := by
  obtain ⟨p, t, b⟩ := i
  cases t <;> simp [ich, isz, Ix.size] <;> omega
/-- numbers below what binds around -/
def Ix.cl : Nat → Ix → Bool
  | d, .n i => decide (i < d)
  | _, .s _ => true
  | d, .a f x => f.cl d && x.cl d
  | d, .l b => b.cl (d + 1)
def Ix.nm (ns : List Str) : Nat → Ix → Pl
  | d, .n i => .v (ns.getD (d - 1 - i) ⟨#[]⟩)
  | _, .s x => .v x
  | d, .a f x => .a (f.nm ns d) (x.nm ns d)
  | d, .l b => .l (ns.getD d ⟨#[]⟩) (b.nm ns (d + 1))
def iwi (i : IItem) : W := .tup [pth i.1, i.2.1.w, .int (i.2.2 : Nat)]
def isub : Ix × Nat → Int → Option (Ix × Nat)
  | (.a f _, d), 0 => some (f, d)
  | (.a _ x, d), 1 => some (x, d)
  | (.l t, d), 0 => some (t, d + 1)
  | _, _ => none
def iat (t : Ix) (p : List Int) : Option (Ix × Nat) := p.foldl (fun o i => o.bind fun a => isub a i) (some (t, 0))
theorem iat_snoc {t : Ix} {p : List Int} {i : Int} : iat t (p ++ [i]) = (iat t p).bind fun a => isub a i := by
  unfold iat
  rw [List.foldl_append]
  rfl
def IAt (t : Ix) (i : IItem) : Prop := iat t i.1 = some i.2 ∧ i.1.length + i.2.1.size ≤ t.size ∧ i.2.2 ≤ i.1.length
theorem iat_ch {t : Ix} (i : IItem) (h : IAt t i) : ∀ j ∈ ich i, IAt t j := by
  obtain ⟨p, u, b⟩ := i
  obtain ⟨h, h2, h3⟩ := h
  simp only [] at h h2 h3
  intro j hj
  cases u with
  | n x => cases hj
  | s x => cases hj
  | a f x =>
    have := f.size_pos
    have := x.size_pos
    simp only [Ix.size] at h2
    rcases List.mem_cons.mp hj with rfl | hj
    · refine ⟨?_, ?_, ?_⟩
      · show iat t (p ++ [0]) = _
        rw [iat_snoc, h]
        rfl
      · simp only [List.length_append, List.length_singleton]; omega
      · simp only [List.length_append, List.length_singleton]; omega
    · rw [List.mem_singleton.mp hj]
      refine ⟨?_, ?_, ?_⟩
      · show iat t (p ++ [1]) = _
        rw [iat_snoc, h]
        rfl
      · simp only [List.length_append, List.length_singleton]; omega
      · simp only [List.length_append, List.length_singleton]; omega
  | l u =>
    simp only [Ix.size] at h2
    rw [List.mem_singleton.mp hj]
    refine ⟨?_, ?_, ?_⟩
    · show iat t (p ++ [0]) = _
      rw [iat_snoc, h]
      rfl
    · simp only [List.length_append, List.length_singleton]; omega
    · simp only [List.length_append, List.length_singleton]; omega
/-- .. with what is closed -/
def ICl (t : Ix) (i : IItem) : Prop := IAt t i ∧ i.2.1.cl i.2.2 = true
theorem icl_ch {t : Ix} (i : IItem) (h : ICl t i) : ∀ j ∈ ich i, ICl t j := fun j hj => ⟨iat_ch i h.1 j hj, by
  obtain ⟨p, u, b⟩ := i
  have h := h.2
  cases u with
  | n x => cases hj
  | s x => cases hj
  | a f x =>
    simp only [Ix.cl, Bool.and_eq_true] at h
    rcases List.mem_cons.mp hj with rfl | hj
    · exact h.1
    · rw [List.mem_singleton.mp hj]
      exact h.2
  | l u =>
    rw [List.mem_singleton.mp hj]
    exact h⟩
def ival (ns : List Str) (t : Ix) (p : List Int) : Option W := (iat t p).map fun a => (a.1.nm ns a.2).w
theorem ival_at {ns : List Str} {t : Ix} {i : IItem} (h : IAt t i) : ival ns t i.1 = some (i.2.1.nm ns i.2.2).w := by
  unfold ival
  rw [h.1]
  rfl
theorem nat_succ {n : Nat} : ((n : Nat) : Int) + 1 = ((n + 1 : Nat) : Int) := by omega
theorem max_nat {m n : Nat} : max ((m : Nat) : Int) ((n : Nat) : Int) = ((max m n : Nat) : Int) := by omega
section
variable {M : Nat → Nat → MF} (G : Good M) {k : Nat} {S : Store} {w u : W} {i j n : Int} {x y : Str} {ws : List W} {r : Ix}
include G
/-- all parts, how deep they lie -/
theorem rn_loop1 (hw : w.imm = true) {c1 c2 : Cell} : ∀ (n : Nat) (stk : List IItem) (D : List W) (m : Nat) (a7 a8 a9 : Option W), (stk.map isz).sum < n → (∀ i ∈ stk, IAt r i) → r.size ≤ 1000 → D.length + (stk.map isz).sum ≤ 2000 → (∀ K, keepO K a7 = a7) → (∀ K, keepO K a8 = a8) → (∀ K, keepO K a9 = a9) → m ≤ r.size →
    ∃ (m' : Nat) (b7 b8 b9 : Option W), m ≤ m' ∧ m' ≤ r.size ∧ (∀ i ∈ trav ich false n stk, i.2.2 ≤ m') ∧ (∀ K, keepO K b7 = b7) ∧ (∀ K, keepO K b8 = b8) ∧ (∀ K, keepO K b9 = b9) ∧
    sWhile true (S.length + 4) (b_raw_named_3t (M (k + 1))) (b_raw_named_3 (M (k + 1))) n [some w, some (.loc S.length), some (.loc (S.length + 1)), some (.int 0), some (.loc (S.length + 2)), some (.loc (S.length + 3)), some (.int (m : Nat)), a7, a8, a9, none] (S ++ [c1, c2, .lst (stk.map iwi).reverse, .lst D]) =
      .next [some w, some (.loc S.length), some (.loc (S.length + 1)), some (.int 0), some (.loc (S.length + 2)), some (.loc (S.length + 3)), some (.int (m' : Nat)), b7, b8, b9, none] (S ++ [c1, c2, .lst [], .lst (D ++ (trav ich false n stk).map iwi)])
  | 0, stk, D, m, a7, a8, a9, h, _, _, _, _, _, _, _ => absurd h (Nat.not_lt_zero _)
  | n + 1, [], D, m, a7, a8, a9, _, _, _, _, k7, k8, k9, hm => by
    refine ⟨m, a7, a8, a9, Nat.le_refl _, hm, fun i (hi : i ∈ ([] : List IItem)) => (by cases hi), k7, k8, k9, ?_⟩
    rw [wh_s]
    simp_arith [x_raw_named_3t, trav]
  | n + 1, (p, t, b) :: stk, D, m, a7, a8, a9, h1, hP, hr, h3, _, _, _, hm => by
    have hl := len_sum (f := isz) (fun i => i.2.1.size_pos) stk
    have hP1 := hP _ (List.mem_cons_self ..)
    have hP2 := fun i hi => hP i (List.mem_cons_of_mem _ hi)
    have hc := iat_ch _ hP1
    obtain ⟨hp1, hp2, hp3⟩ := hP1
    have e1 : (trav ich false (n + 1) ((p, t, b) :: stk)) = (p, t, b) :: trav ich false n (nxt false stk (ich (p, t, b))) := rfl
    rw [e1]
    simp only [List.map_cons, List.sum_cons] at h1 h3
    simp only [] at hp2 hp3
    have hts := t.size_pos
    have hln : LN = 16777216 := rfl
    have l0 : D.length < LN := by
      have : isz (p, t, b) = t.size := rfl
      omega
    have l4 : p.length + 1 ≤ LN := by omega
    have kI : ∀ {z : W}, z.imm = true → ∀ K, keepO K (some z) = some z := fun h K => keepO_imm h
    have hs := isz_ch (p, t, b)
    obtain ⟨m', b7, b8, b9, q0, q1, q2, r7, r8, r9, ih⟩ := rn_loop1 hw (c1 := c1) (c2 := c2) n (nxt false stk (ich (p, t, b))) (D ++ [iwi (p, t, b)]) (max m b) (some (pth p)) (some t.w) (some (.int (b : Nat))) (by rw [sum_nxt]; omega) (fun i hi => (mem_nxt.mp hi).elim (hP2 i) (hc i)) hr (by rw [sum_nxt, List.length_append, List.length_singleton]; omega) (kI imm_pth) (kI t.imm) (kI rfl) (by omega)
    refine ⟨m', b7, b8, b9, by omega, q1, fun i hi => ?_, r7, r8, r9, ?_⟩
    · rcases List.mem_cons.mp hi with rfl | hi
      · show b ≤ m'; omega
      · exact q2 i hi
    · have l1 : stk.length + 2 ≤ LN := by omega
      have l2 : stk.length < LN := by omega
      rw [wh_s]
      cases t with
      | n x =>
        simp_arith [iwi, Ix.w, nxt, ich] at ih
        simp_arith [iwi, Ix.w, Ix.imm, x_raw_named_3t, x_raw_named_3, l0, l1, l4, hw, nxt, ich, max_nat, is_integer_int G, ih]
      | s x =>
        simp_arith [iwi, Ix.w, nxt, ich] at ih
        simp_arith [iwi, Ix.w, Ix.imm, x_raw_named_3t, x_raw_named_3, l0, l1, l4, hw, nxt, ich, max_nat, ih]
      | a f x =>
        simp_arith [iwi, Ix.w, nxt, ich] at ih
        simp_arith [iwi, Ix.w, Ix.imm, x_raw_named_3t, x_raw_named_3, l0, l1, l4, hw, nxt, ich, max_nat, is_integer_tup G, ih]
      | l t =>
        simp_arith [iwi, Ix.w, nxt, ich] at ih
        simp_arith [iwi, Ix.w, Ix.imm, x_raw_named_3t, x_raw_named_3, l0, l1, l2, l4, hw, nxt, ich, max_nat, is_integer_tup G, nat_succ, ih]
/-- the names that are not taken -/
theorem rn_loop2 (hw : w.imm = true) {c3 c4 : Cell} {L : List Str} {m : Nat} {a7 a8 a9 : Option W} (k7 : ∀ K, keepO K a7 = a7) (k8 : ∀ K, keepO K a8 = a8) (k9 : ∀ K, keepO K a9 = a9) (hL : L.length ≤ 1000) (hm : m ≤ 1000) : ∀ (n N : Nat), m + L.length < N + n → N ≤ m + L.length → (frs L N).length ≤ m →
    ∃ N', N ≤ N' ∧ N' ≤ m + L.length ∧ (frs L N').length = m ∧ sWhile true (S.length + 4) (b_raw_named_2t (M (k + 1))) (b_raw_named_2 (M (k + 1))) n [some w, some (.loc S.length), some (.loc (S.length + 1)), some (.int (N : Nat)), some (.loc (S.length + 2)), some (.loc (S.length + 3)), some (.int (m : Nat)), a7, a8, a9, none] (S ++ [.lst (L.map .str), .lst ((frs L N).map .str), c3, c4]) =
      .next [some w, some (.loc S.length), some (.loc (S.length + 1)), some (.int (N' : Nat)), some (.loc (S.length + 2)), some (.loc (S.length + 3)), some (.int (m : Nat)), a7, a8, a9, none] (S ++ [.lst (L.map .str), .lst ((frs L N').map .str), c3, c4])
  | 0, N, h, h2, _ => by omega
  | n + 1, N, h, h2, h3 => by
    by_cases hd : (frs L N).length = m
    · refine ⟨N, Nat.le_refl _, h2, hd, ?_⟩
      rw [wh_s]
      have l0 : ¬ ((m : Nat) : Int) < (m : Nat) := by omega
      simp_arith [x_raw_named_2t, hd, l0]
    · have hN := frs_len L N
      have hb := frs_le L N
      have hln : LN = 16777216 := rfl
      have l0 : (((frs L N).length : Nat) : Int) < (m : Nat) := by omega
      have l1 : (frs L N).length < LN := by omega
      rw [wh_s]
      by_cases z : nameAt N ∈ L
      · have e : frs L (N + 1) = frs L N := by rw [frs_succ, if_pos z]
        obtain ⟨N', q1, q2, q3, ih⟩ := rn_loop2 hw (c3 := c3) (c4 := c4) k7 k8 k9 hL hm n (N + 1) (by omega) (by omega) (by rw [e]; exact h3)
        refine ⟨N', by omega, q2, q3, ?_⟩
        rw [e] at ih
        simp_arith [x_raw_named_2t, x_raw_named_2, l0, name_at_ok G (n := N) (by omega), z, nat_succ, hw, k7, k8, k9, ih]
      · have e : frs L (N + 1) = frs L N ++ [nameAt N] := by rw [frs_succ, if_neg z]
        obtain ⟨N', q1, q2, q3, ih⟩ := rn_loop2 hw (c3 := c3) (c4 := c4) k7 k8 k9 hL hm n (N + 1) (by omega) (by omega) (by rw [e, List.length_append, List.length_singleton]; omega)
        refine ⟨N', by omega, q2, q3, ?_⟩
        rw [e] at ih
        simp_arith [List.map_append] at ih
        simp_arith [x_raw_named_2t, x_raw_named_2, l0, l1, name_at_ok G (n := N) (by omega), z, nat_succ, hw, k7, k8, k9, ih]
/-- what the parts are made to -/
theorem rn_loop3 (hw : w.imm = true) {c1 c3 c4 : Cell} {ns : List Str} {m N : Nat} (hr : r.size ≤ 1000) (hns : ns.length = m) (rest : List W) : ∀ (V : List IItem) (F : List (List Key × W)) (a7 a8 a9 : Option W), ChOk ich V → (∀ i ∈ V, ICl r i) → (∀ i ∈ V, i.2.2 ≤ m) → DI (ival ns r) F → F.length + V.length ≤ 4000 →
    ∃ F' b7 b8 b9, DI (ival ns r) F' ∧ (∀ p, DH F p → DH F' p) ∧ (∀ i ∈ V, DH F' i.1) ∧ F'.length ≤ F.length + V.length ∧
    forW true (S.length + 5) (bTup 3 (bCons (bName 7) (bCons (bName 8) (bCons (bName 9) bNil)))) (b_raw_named_1 (M (k + 1))) [] ((V.map iwi).reverse ++ rest) [some w, some (.loc S.length), some (.loc (S.length + 1)), some (.int (N : Nat)), some (.loc (S.length + 2)), some (.loc (S.length + 3)), some (.int (m : Nat)), a7, a8, a9, some (.loc (S.length + 4))] (S ++ [c1, .lst (ns.map .str), c3, c4, .dT F]) =
      forW true (S.length + 5) (bTup 3 (bCons (bName 7) (bCons (bName 8) (bCons (bName 9) bNil)))) (b_raw_named_1 (M (k + 1))) [] rest [some w, some (.loc S.length), some (.loc (S.length + 1)), some (.int (N : Nat)), some (.loc (S.length + 2)), some (.loc (S.length + 3)), some (.int (m : Nat)), b7, b8, b9, some (.loc (S.length + 4))] (S ++ [c1, .lst (ns.map .str), c3, c4, .dT F'])
  | [], F, a7, a8, a9, _, _, _, hF, _ => by
    refine ⟨F, a7, a8, a9, hF, fun _ h => h, fun i hi => (by cases hi), Nat.le_add_right _ _, ?_⟩
    simp_arith
  | (p, t, b) :: V, F, a7, a8, a9, hc, hA, hd, hF, hl => by
    rw [List.length_cons] at hl
    obtain ⟨F1, b7, b8, b9, q1, q2, q3, q4, e⟩ := rn_loop3 hw (c1 := c1) (c3 := c3) (c4 := c4) (N := N) hr hns (iwi (p, t, b) :: rest) V F a7 a8 a9 hc.2 (fun i hi => hA i (List.mem_cons_of_mem _ hi)) (fun i hi => hd i (List.mem_cons_of_mem _ hi)) hF (by omega)
    have hA1 := hA _ (List.mem_cons_self ..)
    have hd1 : b ≤ m := hd _ (List.mem_cons_self ..)
    have hcl := hA1.2
    have hval := ival_at (ns := ns) hA1.1
    have hch := icl_ch _ hA1
    have e1 : (((p, t, b) :: V).map iwi).reverse ++ rest = (V.map iwi).reverse ++ (iwi (p, t, b) :: rest) := by simp
    have hln : LN = 16777216 := rfl
    have l1 : F1.length < LN := by omega
    have l4 : p.length + 1 ≤ LN := by
      have := hA1.1.2.1
      simp only [] at this
      omega
    have hlp := len_put (kvs := F1) (k := pk p) (w := (t.nm ns b).w)
    refine ⟨putW F1 (pk p) (t.nm ns b).w, some (pth p), some t.w, some (.int (b : Nat)), di_put q1 hval, fun q hq => dh_put (q2 q hq), fun i hi => ?_, by rw [List.length_cons]; omega, ?_⟩
    · rcases List.mem_cons.mp hi with rfl | hi
      · exact dh_self
      · exact dh_put (q3 i hi)
    · rw [e1, e]
      clear e
      have gd : ∀ i, i < m → (ns.map W.str)[i]? = some (.str (ns.getD i ⟨#[]⟩)) := fun i hi => by
        rw [List.getElem?_map, List.getElem?_eq_getElem (by omega), List.getD_eq_getElem?_getD, List.getElem?_eq_getElem (by omega)]
        rfl
      cases t with
      | n x =>
        simp only [Ix.cl, decide_eq_true_eq] at hcl
        have e2 : ((b : Nat) : Int) - 1 - (x : Nat) = ((b - 1 - x : Nat) : Int) := by omega
        simp_arith [iwi, Ix.w, Ix.nm, Pl.w, x_raw_named_1, hw, is_integer_int G, e2, at_nat (gd (b - 1 - x) (by omega)), l1]
      | s x =>
        simp_arith [iwi, Ix.w, Ix.nm, Pl.w, x_raw_named_1, hw, l1]
      | a f x =>
        have m0 := hch _ (List.mem_cons_self ..)
        have m1 := hch _ (List.mem_cons_of_mem _ (List.mem_cons_self ..))
        have g0 := di_get q1 (q3 _ (hc.1 _ (List.mem_cons_self ..))) (ival_at m0.1)
        have g1 := di_get q1 (q3 _ (hc.1 _ (List.mem_cons_of_mem _ (List.mem_cons_self ..)))) (ival_at m1.1)
        simp only [] at g0 g1
        simp_arith [iwi, Ix.w, Ix.imm, Ix.nm, Pl.w, Pl.imm, x_raw_named_1, hw, is_integer_tup G, g0, g1, l1, l4]
      | l u =>
        have m0 := hch _ (List.mem_cons_self ..)
        have hm0 : b + 1 ≤ m := hd _ (List.mem_cons_of_mem _ (hc.1 _ (List.mem_cons_self ..)))
        have g0 := di_get q1 (q3 _ (hc.1 _ (List.mem_cons_self ..))) (ival_at m0.1)
        simp only [] at g0
        simp_arith [iwi, Ix.w, Ix.imm, Ix.nm, Pl.w, Pl.imm, x_raw_named_1, hw, is_integer_tup G, g0, at_nat (gd b (by omega)), l1, l4]
omit G in
theorem nm_congr {ns ns' : List Str} {m : Nat} (h : ∀ i, i < m → ns.getD i ⟨#[]⟩ = ns'.getD i ⟨#[]⟩) : ∀ V : List IItem, ChOk ich V → (∀ i ∈ V, ICl r i) → (∀ i ∈ V, i.2.2 ≤ m) → ∀ i ∈ V, i.2.1.nm ns i.2.2 = i.2.1.nm ns' i.2.2
  | [], _, _, _, i, hi => by cases hi
  | (p, t, d) :: V, hc, hA, hd, i, hi => by
    have ih := nm_congr h V hc.2 (fun i hi => hA i (List.mem_cons_of_mem _ hi)) (fun i hi => hd i (List.mem_cons_of_mem _ hi))
    rcases List.mem_cons.mp hi with rfl | hi
    · have hcl := (hA _ (List.mem_cons_self ..)).2
      have hd1 : d ≤ m := hd _ (List.mem_cons_self ..)
      cases t with
      | n x =>
        simp only [Ix.cl, decide_eq_true_eq] at hcl
        simp only [Ix.nm]
        rw [h _ (by omega)]
      | s x => rfl
      | a f x =>
        have i0 := ih _ (hc.1 _ (List.mem_cons_self ..))
        have i1 := ih _ (hc.1 _ (List.mem_cons_of_mem _ (List.mem_cons_self ..)))
        simp only [] at i0 i1
        simp only [Ix.nm]
        rw [i0, i1]
      | l b =>
        have i0 := ih _ (hc.1 _ (List.mem_cons_self ..))
        have hm0 : d + 1 ≤ m := hd _ (List.mem_cons_of_mem _ (hc.1 _ (List.mem_cons_self ..)))
        simp only [] at i0
        simp only [Ix.nm]
        rw [h _ (by omega), i0]
    · exact ih i hi
/-- the plain term -/
def Ix.pl (t : Ix) : Pl := t.nm (frs t.names (t.size + t.names.length)) 0
theorem raw_named_ok {t : Ix} (ht : t.size ≤ 900) (hn : t.names.length < 64) (hcl : t.cl 0 = true) : M (k + 3) 16 [t.w] S = .ok t.pl.w S := by
  have hwf : WF = 1000000000 := rfl
  have e0 : (1 : Nat) ≤ 1 := Nat.le_refl _
  obtain ⟨L, hL1, hL2, eF⟩ := free_of_indexed_ok G (k := k) (S := S) ht hn
  obtain ⟨m, b7, b8, b9, q0, q1, q2, k7, k8, k9, e1⟩ := rn_loop1 G (k := k + 1) (S := S) (w := t.w) (r := t) t.imm (c1 := .lst (L.map .str)) (c2 := .lst []) WF [([], t, 0)] [] 0 none none none (by show t.size + 0 < WF; omega) (fun i hi => by
    rw [List.mem_singleton.mp hi]
    exact ⟨rfl, by show 0 + t.size ≤ t.size; omega, Nat.le_refl _⟩) (by omega) (by show 0 + (t.size + 0) ≤ 2000; omega) (fun K => rfl) (fun K => rfl) (fun K => rfl) (Nat.zero_le _)
  have hV := trav_ch (bf := false) isz_ch WF [([], t, 0)] (by show t.size + 0 ≤ WF; omega)
  have hVl := trav_len (bf := false) isz_ch WF [([], t, 0)] (by show t.size + 0 ≤ WF; omega)
  have hVA := trav_all (bf := false) (P := ICl t) icl_ch WF [([], t, 0)] (fun i hi => by
    rw [List.mem_singleton.mp hi]
    exact ⟨⟨rfl, by show 0 + t.size ≤ t.size; omega, Nat.le_refl _⟩, hcl⟩)
  have hVm := trav_mem (bf := false) isz_ch WF [([], t, 0)] (by show t.size + 0 ≤ WF; omega) _ (List.mem_cons_self ..)
  have hVl : (trav ich false WF [([], t, 0)]).length = t.size := by simpa [isz] using hVl
  generalize trav ich false WF [([], t, 0)] = V at *
  obtain ⟨N, p0, p1, p2, e2⟩ := rn_loop2 G (k := k + 1) (S := S) (w := t.w) t.imm (c3 := .lst []) (c4 := .lst (V.map iwi)) (L := L) (m := m) k7 k8 k9 (by omega) (by omega) WF 0 (by omega) (by omega) (by show 0 ≤ m; omega)
  obtain ⟨F, c7, c8, c9, r1, r2, r3, r4, e3⟩ := rn_loop3 G (k := k + 1) (S := S) (w := t.w) (r := t) t.imm (c1 := .lst (L.map .str)) (c3 := .lst []) (c4 := .lst (V.map iwi)) (N := N) (by omega) p2 [] V [] b7 b8 b9 hV hVA q2 di_nil (by rw [List.length_nil]; omega)
  have g := di_get r1 (r3 _ hVm) (ival_at (hVA _ hVm).1)
  have g : getW F (pk []) = some (t.nm (frs L N) 0).w := g
  have ge : t.nm (frs L N) 0 = t.pl := by
    refine (nm_congr (r := t) (m := m) (fun i hi => ?_) V hV hVA q2 _ hVm).trans rfl
    rw [frs_congr hL1]
    obtain ⟨T, hT⟩ := frs_prefix (L := t.names) N (t.size + t.names.length - N)
    rw [show N + (t.size + t.names.length - N) = t.size + t.names.length by omega] at hT
    rw [← hT, List.getD_eq_getElem?_getD, List.getD_eq_getElem?_getD, List.getElem?_append_left (by rw [← frs_congr hL1, p2]; exact hi)]
  rw [ge] at g
  rw [u_raw_named G]
  simp_arith [iwi, List.append_nil] at e1
  rw [List.append_nil] at e3
  simp_arith [show frs L 0 = [] from rfl] at e2
  unfold b_raw_named
  simp_arith [eF, Ix.imm, ← pth_nil, e1, e2, e3, k7, k8, k9, g, Pl.imm]
end
end PM
namespace PM
open PySem PySem.Spec L2 PB
/-! ### how many terms there are -/
structure MSeq (wide most : Nat) (T : Nat → Nat → Int) : Prop where
  z : ∀ b, T 0 b = 0
  s : ∀ s b, 1 ≤ s → b < wide → T s b = (if s = 1 then (b : Int) else 0) + (if 1 < s ∧ b + 1 < wide then T (s - 1) (b + 1) else 0) + sm (fun o => T o b * T (s - 1 - o) b) 1 (s - 2)
  c : ∀ s b o, s ≤ most → b < wide → 1 ≤ o → o + 1 < s → cMul (T o b) (T (s - 1 - o) b) = true
section
variable {M : Nat → Nat → MF} (G : Good M) {k : Nat} {S : Store} {w u : W} {wide most bound : Nat} {T : Nat → Nat → Int}
theorem kInt {i : Int} : ∀ K, keepO K (some (.int i)) = some (.int i) := fun K => rfl
theorem ms3 {s b : Nat} (h : MSeq wide most T) (hs : s ≤ most) (hb : b < wide) (hm : most ≤ 1000) : ∀ (c o : Nat) (acc : Int) (a7 : Option W), o + c + 1 = s → 1 ≤ o → (∀ K, keepO K a7 = a7) →
    ∃ b7, (∀ K, keepO K b7 = b7) ∧ forW true (S.length + 2) (bName 7) (b_many_sized_3 (M k)) [] (rngL (o : Nat) ((s : Nat) - 1)) [some (.int (most : Nat)), some (.int (bound : Nat)), some (.loc S.length), some (.int (s : Nat)), some (.loc (S.length + 1)), some (.int (b : Nat)), some (.int acc), a7] (S ++ [.lst (tab T wide s), .lst (trow (T s) b)]) =
      .next [some (.int (most : Nat)), some (.int (bound : Nat)), some (.loc S.length), some (.int (s : Nat)), some (.loc (S.length + 1)), some (.int (b : Nat)), some (.int (acc + sm (fun o => T o b * T (s - 1 - o) b) o c)), b7] (S ++ [.lst (tab T wide s), .lst (trow (T s) b)])
  | 0, o, acc, a7, e, ho, h7 => by
    refine ⟨a7, h7, ?_⟩
    rw [rng_nil (by omega)]
    simp_arith [sm, Int.add_zero]
  | c + 1, o, acc, a7, e, ho, h7 => by
    obtain ⟨b7, h8, ih⟩ := ms3 h hs hb hm c (o + 1) (acc + T o b * T (s - 1 - o) b) (some (.int (o : Nat))) (by omega) (by omega) kInt
    refine ⟨b7, h8, ?_⟩
    rw [rng_cons (by omega)]
    have e1 : ((o : Nat) : Int) + 1 = ((o + 1 : Nat) : Int) := by omega
    have e2 : ((s : Nat) : Int) - 1 - (o : Nat) = ((s - 1 - o : Nat) : Int) := by omega
    rw [e1]
    simp_arith [x_many_sized_3, at_tab (T := T) (m := wide) (l := o) (n := s) (by omega), at_tab (T := T) (m := wide) (l := s - 1 - o) (n := s) (by omega), at_trow (T := T o) hb, at_trow (T := T (s - 1 - o)) hb, e2, ev_mul (h.c s b o hs hb ho (by omega)), ih]
    show _ = SR.next [_, _, _, _, _, _, some (W.int (acc + (T o b * T (s - 1 - o) b + sm (fun o => T o b * T (s - 1 - o) b) (o + 1) c))), _] _
    rw [Int.add_assoc]
theorem ms3w {s b : Nat} (h : MSeq wide most T) (hs : s ≤ most) (hs1 : 1 ≤ s) (hb : b < wide) (hm : most ≤ 1000) (acc : Int) (a7 : Option W) (h7 : ∀ K, keepO K a7 = a7) :
    ∃ b7, (∀ K, keepO K b7 = b7) ∧ forW true (S.length + 2) (bName 7) (b_many_sized_3 (M k)) [] (rngL 1 ((s : Nat) - 1)) [some (.int (most : Nat)), some (.int (bound : Nat)), some (.loc S.length), some (.int (s : Nat)), some (.loc (S.length + 1)), some (.int (b : Nat)), some (.int acc), a7] (S ++ [.lst (tab T wide s), .lst (trow (T s) b)]) =
      .next [some (.int (most : Nat)), some (.int (bound : Nat)), some (.loc S.length), some (.int (s : Nat)), some (.loc (S.length + 1)), some (.int (b : Nat)), some (.int (acc + sm (fun o => T o b * T (s - 1 - o) b) 1 (s - 2))), b7] (S ++ [.lst (tab T wide s), .lst (trow (T s) b)]) := by
  by_cases h2 : s = 1
  · subst h2
    refine ⟨a7, h7, ?_⟩
    rw [rng_nil (by omega)]
    simp_arith [sm, Int.add_zero]
  · exact ms3 h hs hb hm (s - 2) 1 acc a7 (by omega) (Nat.le_refl _) h7
theorem ms2 {s : Nat} (h : MSeq wide most T) (hs : s ≤ most) (hs1 : 1 ≤ s) (hm : most ≤ 1000) (hbd : bound ≤ 1000) (hw : wide = most + bound + 2) : ∀ (c b : Nat) (a5 a6 a7 : Option W), b + c = wide → (∀ K, keepO K a5 = a5) → (∀ K, keepO K a6 = a6) → (∀ K, keepO K a7 = a7) →
    ∃ b5 b6 b7, (∀ K, keepO K b5 = b5) ∧ (∀ K, keepO K b6 = b6) ∧ (∀ K, keepO K b7 = b7) ∧ forW true (S.length + 2) (bName 5) (b_many_sized_2 (M k)) [] (rngL (b : Nat) (wide : Nat)) [some (.int (most : Nat)), some (.int (bound : Nat)), some (.loc S.length), some (.int (s : Nat)), some (.loc (S.length + 1)), a5, a6, a7] (S ++ [.lst (tab T wide s), .lst (trow (T s) b)]) =
      .next [some (.int (most : Nat)), some (.int (bound : Nat)), some (.loc S.length), some (.int (s : Nat)), some (.loc (S.length + 1)), b5, b6, b7] (S ++ [.lst (tab T wide s), .lst (trow (T s) wide)])
  | 0, b, a5, a6, a7, e, h5, h6, h7 => by
    refine ⟨a5, a6, a7, h5, h6, h7, ?_⟩
    rw [rng_nil (by omega)]
    have e : b = wide := by omega
    subst e
    simp_arith
  | c + 1, b, a5, a6, a7, e, h5, h6, h7 => by
    have hb : b < wide := by omega
    have e1 : ((b : Nat) : Int) + 1 = ((b + 1 : Nat) : Int) := by omega
    have hT := h.s s b hs1 hb
    obtain ⟨a7', h7', e3⟩ := ms3w (M := M) (k := k) (S := S) (bound := bound) h hs hs1 hb hm ((if s = 1 then (b : Int) else 0) + (if 1 < s ∧ b + 1 < wide then T (s - 1) (b + 1) else 0)) a7 h7
    obtain ⟨b5, b6, b7, q5, q6, q7, ih⟩ := ms2 h hs hs1 hm hbd hw c (b + 1) (some (.int (b : Nat))) (some (.int (T s b))) a7' (by omega) kInt kInt h7'
    refine ⟨b5, b6, b7, q5, q6, q7, ?_⟩
    rw [← hT] at e3
    rw [trow_succ] at ih
    rw [rng_cons (by omega), e1]
    have hln : LN = 16777216 := rfl
    have l1 : b < LN := by omega
    have i1 : inR (((s : Nat) : Int) - 1) = true := by
      unfold inR
      simp only [Bool.and_eq_true, decide_eq_true_eq]
      omega
    by_cases z1 : s = 1
    · have z2 : ¬ (1 : Int) < (s : Nat) := by omega
      have z3 : ((s : Nat) : Int) = 1 := by omega
      have z4 : ¬ 1 < s := by omega
      rw [if_pos z1, if_neg (fun z => z4 z.1), Int.add_zero] at e3
      simp_arith [z3] at e3
      simp_arith [z3] at ih
      simp_arith [x_many_sized_2, z3, e3, h7, h7', trow_len, l1, ih]
    · have z2 : (1 : Int) < (s : Nat) := by omega
      have z3 : ¬ ((s : Nat) : Int) = 1 := by omega
      have z4 : 1 < s := by omega
      by_cases z5 : b + 1 < wide
      · have z6 : ((b + 1 : Nat) : Int) < (most : Nat) + (bound : Nat) + 2 := by omega
        have e4 : ((s : Nat) : Int) - 1 = ((s - 1 : Nat) : Int) := by omega
        rw [if_neg z1, if_pos ⟨z4, z5⟩, Int.zero_add] at e3
        rw [e4] at e3 i1
        simp_arith [x_many_sized_2, z2, z3, z6, e1, e4, i1, at_tab (T := T) (m := wide) (l := s - 1) (n := s) (by omega), at_trow (T := T (s - 1)) z5, Int.zero_add, e3, h7, h7', trow_len, l1, ih]
      · have z6 : ¬ ((b + 1 : Nat) : Int) < (most : Nat) + (bound : Nat) + 2 := by omega
        rw [if_neg z1, if_neg (fun z => z5 z.2), Int.zero_add] at e3
        simp_arith [x_many_sized_2, z2, z3, z6, e1, i1, e3, h7, h7', trow_len, l1, ih]
theorem ms1 (h : MSeq wide most T) (hm : most ≤ 1000) (hbd : bound ≤ 1000) (hw : wide = most + bound + 2) : ∀ (c s : Nat) (a3 a5 a6 a7 : Option W), s + c = most + 1 → 1 ≤ s → (∀ K, keepO K a5 = a5) → (∀ K, keepO K a6 = a6) → (∀ K, keepO K a7 = a7) →
    ∃ b3 b5 b6 b7, forW true (S.length + 1) (bName 3) (b_many_sized_1 (M k)) [] (rngL (s : Nat) ((most : Nat) + 1)) [some (.int (most : Nat)), some (.int (bound : Nat)), some (.loc S.length), a3, none, a5, a6, a7] (S ++ [.lst (tab T wide s)]) =
      .next [some (.int (most : Nat)), some (.int (bound : Nat)), some (.loc S.length), b3, none, b5, b6, b7] (S ++ [.lst (tab T wide (most + 1))])
  | 0, s, a3, a5, a6, a7, e, h1, _, _, _ => by
    refine ⟨a3, a5, a6, a7, ?_⟩
    rw [rng_nil (by omega)]
    have e : s = most + 1 := by omega
    subst e
    simp_arith
  | c + 1, s, a3, a5, a6, a7, e, h1, h5, h6, h7 => by
    obtain ⟨a5', a6', a7', q5, q6, q7, e3⟩ := ms2 (M := M) (k := k) (S := S) h (by omega) h1 hm hbd hw wide 0 a5 a6 a7 (by omega) h5 h6 h7
    obtain ⟨b3, b5, b6, b7, ih⟩ := ms1 h hm hbd hw c (s + 1) (some (.int (s : Nat))) a5' a6' a7' (by omega) (by omega) q5 q6 q7
    refine ⟨b3, b5, b6, b7, ?_⟩
    have hln : LN = 16777216 := rfl
    have e1 : ((s : Nat) : Int) + 1 = ((s + 1 : Nat) : Int) := by omega
    have e2 : ((most : Nat) : Int) + (bound : Nat) + 2 = ((wide : Nat) : Int) := by omega
    have l1 : s < LN := by omega
    rw [rng_cons (by omega), e1]
    rw [tab_succ] at ih
    simp_arith [show trow (T s) 0 = [] from rfl] at e3
    simp_arith [x_many_sized_1, e2, inR_nat (n := wide) (by omega), e3, q5, q6, q7, tab_len, l1, ih]
include G in
theorem many_sized_ok (h : MSeq wide most T) (hm : most ≤ 1000) (hbd : bound ≤ 1000) (hw : wide = most + bound + 2) : M (k + 1) 20 [.int (most : Nat), .int (bound : Nat)] S = .ok (.loc S.length) (S ++ [.lst (tab T wide (most + 1))]) := by
  obtain ⟨b3, b5, b6, b7, e⟩ := ms1 (M := M) (k := k) (S := S) h hm hbd hw most 1 none none none none (by omega) (Nat.le_refl _) (fun _ => rfl) (fun _ => rfl) (fun _ => rfl)
  have hln : LN = 16777216 := rfl
  have e2 : ((most : Nat) : Int) + (bound : Nat) + 2 = ((wide : Nat) : Int) := by omega
  have e3 : ((most : Nat) : Int) + 1 = ((most + 1 : Nat) : Int) := by omega
  have et : tab T wide 1 = [.arr (List.replicate wide (.int 0))] := by
    show [W.arr (trow (T 0) wide)] = _
    congr 2
    unfold trow
    rw [List.eq_replicate_iff]
    refine ⟨by rw [List.length_map, List.length_range], fun b hb => ?_⟩
    obtain ⟨x, _, rfl⟩ := List.mem_map.mp hb
    rw [h.z]
  rw [u_many_sized G]
  unfold b_many_sized
  simp_arith [et, e3] at e
  simp_arith [e2, e3, inR_nat (n := most + 1) (by omega), show wide ≤ LN by omega, e]
include G in
theorem many_terms_ok (h : MSeq wide most T) (hm : most ≤ 40) (hm1 : 1 ≤ most) (hbd : bound ≤ 6) (hw : wide = most + bound + 2) : M (k + 4) 12 [.int (most : Nat), .int (bound : Nat)] S = .ok (.int (T most bound)) S := by
  rw [u_many_terms G]
  unfold b_many_terms
  have l1 : (1 : Int) ≤ (most : Nat) := by omega
  have l2 : ((most : Nat) : Int) ≤ 40 := by omega
  have l3 : (0 : Int) ≤ (bound : Nat) := by omega
  have l4 : ((bound : Nat) : Int) ≤ 6 := by omega
  simp_arith [check_number_ok G l1 l2, check_number_ok G l3 l4, many_sized_ok G h (by omega) (by omega) hw, at_tab (T := T) (m := wide) (l := most) (n := most + 1) (by omega), at_trow (T := T most) (l := bound) (n := wide) (by omega)]
end
end PM
namespace PM
open PySem PySem.Spec L2 PB
/-! ### how many ends there are -/
structure ESeq (wide most : Nat) (E H : Nat → Nat → Int) : Prop where
  ze : ∀ b, E 0 b = 0
  zh : ∀ b, H 0 b = 0
  h : ∀ s b, 1 ≤ s → b < wide → H s b = (if s = 1 then (b : Int) else 0) + sm (fun o => H o b * E (s - 1 - o) b) 1 (s - 2)
  e : ∀ s b, 1 ≤ s → b < wide → E s b = H s b + (if 1 < s ∧ b + 1 < wide then E (s - 1) (b + 1) else 0)
  c : ∀ s b o, s ≤ most → b < wide → 1 ≤ o → o + 1 < s → cMul (H o b) (E (s - 1 - o) b) = true
section
variable {M : Nat → Nat → MF} (G : Good M) {k : Nat} {S : Store} {w u : W} {wide most bound : Nat} {E H : Nat → Nat → Int} {c0 c1 c3 c4 : Cell}
theorem es3 {s b : Nat} (h : ESeq wide most E H) (hs : s ≤ most) (hb : b < wide) (hm : most ≤ 1000) : ∀ (c o : Nat) (acc : Int) (a7 : Option W), o + c + 1 = s → 1 ≤ o → (∀ K, keepO K a7 = a7) →
    ∃ b7, (∀ K, keepO K b7 = b7) ∧ forW true (S.length + 8) (bName 10) (b_ends_sized_3 (M k)) [] (rngL (o : Nat) ((s : Nat) - 1)) [some (.int (most : Nat)), some (.int (bound : Nat)), some (.int (wide : Nat)), some (.loc (S.length + 2)), some (.loc (S.length + 5)), some (.int (s : Nat)), some (.loc (S.length + 6)), some (.loc (S.length + 7)), some (.int (b : Nat)), some (.int acc), a7] (S ++ [c0, c1, .lst (tab E wide s), c3, c4, .lst (tab H wide s), .lst (trow (E s) b), .lst (trow (H s) b)]) =
      .next [some (.int (most : Nat)), some (.int (bound : Nat)), some (.int (wide : Nat)), some (.loc (S.length + 2)), some (.loc (S.length + 5)), some (.int (s : Nat)), some (.loc (S.length + 6)), some (.loc (S.length + 7)), some (.int (b : Nat)), some (.int (acc + sm (fun o => H o b * E (s - 1 - o) b) o c)), b7] (S ++ [c0, c1, .lst (tab E wide s), c3, c4, .lst (tab H wide s), .lst (trow (E s) b), .lst (trow (H s) b)])
  | 0, o, acc, a7, e, ho, h7 => by
    refine ⟨a7, h7, ?_⟩
    rw [rng_nil (by omega)]
    simp_arith [sm, Int.add_zero]
  | c + 1, o, acc, a7, e, ho, h7 => by
    obtain ⟨b7, h8, ih⟩ := es3 h hs hb hm c (o + 1) (acc + H o b * E (s - 1 - o) b) (some (.int (o : Nat))) (by omega) (by omega) kInt
    refine ⟨b7, h8, ?_⟩
    rw [rng_cons (by omega)]
    have e1 : ((o : Nat) : Int) + 1 = ((o + 1 : Nat) : Int) := by omega
    have e2 : ((s : Nat) : Int) - 1 - (o : Nat) = ((s - 1 - o : Nat) : Int) := by omega
    rw [e1]
    simp_arith [x_ends_sized_3, at_tab (T := H) (m := wide) (l := o) (n := s) (by omega), at_tab (T := E) (m := wide) (l := s - 1 - o) (n := s) (by omega), at_trow (T := H o) hb, at_trow (T := E (s - 1 - o)) hb, e2, ev_mul (h.c s b o hs hb ho (by omega)), ih]
    show _ = SR.next [_, _, _, _, _, _, _, _, _, some (W.int (acc + (H o b * E (s - 1 - o) b + sm (fun o => H o b * E (s - 1 - o) b) (o + 1) c))), _] _
    rw [Int.add_assoc]
theorem es3w {s b : Nat} (h : ESeq wide most E H) (hs : s ≤ most) (hs1 : 1 ≤ s) (hb : b < wide) (hm : most ≤ 1000) (acc : Int) (a7 : Option W) (h7 : ∀ K, keepO K a7 = a7) :
    ∃ b7, (∀ K, keepO K b7 = b7) ∧ forW true (S.length + 8) (bName 10) (b_ends_sized_3 (M k)) [] (rngL 1 ((s : Nat) - 1)) [some (.int (most : Nat)), some (.int (bound : Nat)), some (.int (wide : Nat)), some (.loc (S.length + 2)), some (.loc (S.length + 5)), some (.int (s : Nat)), some (.loc (S.length + 6)), some (.loc (S.length + 7)), some (.int (b : Nat)), some (.int acc), a7] (S ++ [c0, c1, .lst (tab E wide s), c3, c4, .lst (tab H wide s), .lst (trow (E s) b), .lst (trow (H s) b)]) =
      .next [some (.int (most : Nat)), some (.int (bound : Nat)), some (.int (wide : Nat)), some (.loc (S.length + 2)), some (.loc (S.length + 5)), some (.int (s : Nat)), some (.loc (S.length + 6)), some (.loc (S.length + 7)), some (.int (b : Nat)), some (.int (acc + sm (fun o => H o b * E (s - 1 - o) b) 1 (s - 2))), b7] (S ++ [c0, c1, .lst (tab E wide s), c3, c4, .lst (tab H wide s), .lst (trow (E s) b), .lst (trow (H s) b)]) := by
  by_cases h2 : s = 1
  · subst h2
    refine ⟨a7, h7, ?_⟩
    rw [rng_nil (by omega)]
    simp_arith [sm, Int.add_zero]
  · exact es3 h hs hb hm (s - 2) 1 acc a7 (by omega) (Nat.le_refl _) h7
theorem es2 {s : Nat} (h : ESeq wide most E H) (hs : s ≤ most) (hs1 : 1 ≤ s) (hm : most ≤ 1000) (hbd : bound ≤ 1000) (hw : wide = most + bound + 2) : ∀ (c b : Nat) (a5 a6 a7 : Option W), b + c = wide → (∀ K, keepO K a5 = a5) → (∀ K, keepO K a6 = a6) → (∀ K, keepO K a7 = a7) →
    ∃ b5 b6 b7, (∀ K, keepO K b5 = b5) ∧ (∀ K, keepO K b6 = b6) ∧ (∀ K, keepO K b7 = b7) ∧ forW true (S.length + 8) (bName 8) (b_ends_sized_2 (M k)) [] (rngL (b : Nat) (wide : Nat)) [some (.int (most : Nat)), some (.int (bound : Nat)), some (.int (wide : Nat)), some (.loc (S.length + 2)), some (.loc (S.length + 5)), some (.int (s : Nat)), some (.loc (S.length + 6)), some (.loc (S.length + 7)), a5, a6, a7] (S ++ [c0, c1, .lst (tab E wide s), c3, c4, .lst (tab H wide s), .lst (trow (E s) b), .lst (trow (H s) b)]) =
      .next [some (.int (most : Nat)), some (.int (bound : Nat)), some (.int (wide : Nat)), some (.loc (S.length + 2)), some (.loc (S.length + 5)), some (.int (s : Nat)), some (.loc (S.length + 6)), some (.loc (S.length + 7)), b5, b6, b7] (S ++ [c0, c1, .lst (tab E wide s), c3, c4, .lst (tab H wide s), .lst (trow (E s) wide), .lst (trow (H s) wide)])
  | 0, b, a5, a6, a7, e, h5, h6, h7 => by
    refine ⟨a5, a6, a7, h5, h6, h7, ?_⟩
    rw [rng_nil (by omega)]
    have e : b = wide := by omega
    subst e
    simp_arith
  | c + 1, b, a5, a6, a7, e, h5, h6, h7 => by
    have hb : b < wide := by omega
    have e1 : ((b : Nat) : Int) + 1 = ((b + 1 : Nat) : Int) := by omega
    have hH := h.h s b hs1 hb
    have hE := h.e s b hs1 hb
    obtain ⟨a7', h7', e3⟩ := es3w (M := M) (k := k) (S := S) (bound := bound) (c0 := c0) (c1 := c1) (c3 := c3) (c4 := c4) h hs hs1 hb hm (if s = 1 then (b : Int) else 0) a7 h7
    obtain ⟨b5, b6, b7, q5, q6, q7, ih⟩ := es2 h hs hs1 hm hbd hw c (b + 1) (some (.int (b : Nat))) (some (.int (H s b))) a7' (by omega) kInt kInt h7'
    refine ⟨b5, b6, b7, q5, q6, q7, ?_⟩
    rw [← hH] at e3
    rw [trow_succ, trow_succ] at ih
    rw [rng_cons (by omega), e1]
    have hln : LN = 16777216 := rfl
    have l1 : b < LN := by omega
    have i1 : inR (((s : Nat) : Int) - 1) = true := by
      unfold inR
      simp only [Bool.and_eq_true, decide_eq_true_eq]
      omega
    by_cases z1 : s = 1
    · have z2 : ¬ (1 : Int) < (s : Nat) := by omega
      have z3 : ((s : Nat) : Int) = 1 := by omega
      have z4 : ¬ 1 < s := by omega
      rw [if_pos z1] at e3
      rw [if_neg (fun z => z4 z.1), Int.add_zero] at hE
      rw [hE] at ih
      simp_arith [z3] at e3
      simp_arith [z3] at ih
      simp_arith [x_ends_sized_2, z3, e3, h7, h7', trow_len, l1, Int.add_zero, ih]
    · have z2 : (1 : Int) < (s : Nat) := by omega
      have z3 : ¬ ((s : Nat) : Int) = 1 := by omega
      have z4 : 1 < s := by omega
      rw [if_neg z1] at e3
      by_cases z5 : b + 1 < wide
      · have z6 : ((b + 1 : Nat) : Int) < (wide : Nat) := by omega
        have e4 : ((s : Nat) : Int) - 1 = ((s - 1 : Nat) : Int) := by omega
        rw [if_pos ⟨z4, z5⟩] at hE
        rw [hE] at ih
        rw [e4] at e3 i1
        simp_arith [x_ends_sized_2, z2, z3, z6, e1, e4, i1, at_tab (T := E) (m := wide) (l := s - 1) (n := s) (by omega), at_trow (T := E (s - 1)) z5, e3, h7, h7', trow_len, l1, ih]
      · have z6 : ¬ ((b + 1 : Nat) : Int) < (wide : Nat) := by omega
        rw [if_neg (fun z => z5 z.2), Int.add_zero] at hE
        rw [hE] at ih
        simp_arith [x_ends_sized_2, z2, z3, z6, e1, i1, e3, h7, h7', trow_len, l1, Int.add_zero, ih]
theorem es1 (h : ESeq wide most E H) (hm : most ≤ 1000) (hbd : bound ≤ 1000) (hw : wide = most + bound + 2) : ∀ (c s : Nat) (a3 a5 a6 a7 : Option W), s + c = most + 1 → 1 ≤ s → (∀ K, keepO K a5 = a5) → (∀ K, keepO K a6 = a6) → (∀ K, keepO K a7 = a7) →
    ∃ b3 b5 b6 b7, forW true (S.length + 6) (bName 5) (b_ends_sized_1 (M k)) [] (rngL (s : Nat) ((most : Nat) + 1)) [some (.int (most : Nat)), some (.int (bound : Nat)), some (.int (wide : Nat)), some (.loc (S.length + 2)), some (.loc (S.length + 5)), a3, none, none, a5, a6, a7] (S ++ [c0, c1, .lst (tab E wide s), c3, c4, .lst (tab H wide s)]) =
      .next [some (.int (most : Nat)), some (.int (bound : Nat)), some (.int (wide : Nat)), some (.loc (S.length + 2)), some (.loc (S.length + 5)), b3, none, none, b5, b6, b7] (S ++ [c0, c1, .lst (tab E wide (most + 1)), c3, c4, .lst (tab H wide (most + 1))])
  | 0, s, a3, a5, a6, a7, e, h1, _, _, _ => by
    refine ⟨a3, a5, a6, a7, ?_⟩
    rw [rng_nil (by omega)]
    have e : s = most + 1 := by omega
    subst e
    simp_arith
  | c + 1, s, a3, a5, a6, a7, e, h1, h5, h6, h7 => by
    obtain ⟨a5', a6', a7', q5, q6, q7, e3⟩ := es2 (M := M) (k := k) (S := S) (c0 := c0) (c1 := c1) (c3 := c3) (c4 := c4) h (by omega) h1 hm hbd hw wide 0 a5 a6 a7 (by omega) h5 h6 h7
    obtain ⟨b3, b5, b6, b7, ih⟩ := es1 h hm hbd hw c (s + 1) (some (.int (s : Nat))) a5' a6' a7' (by omega) (by omega) q5 q6 q7
    refine ⟨b3, b5, b6, b7, ?_⟩
    have hln : LN = 16777216 := rfl
    have e1 : ((s : Nat) : Int) + 1 = ((s + 1 : Nat) : Int) := by omega
    have l1 : s < LN := by omega
    rw [rng_cons (by omega), e1]
    rw [tab_succ, tab_succ] at ih
    simp_arith [show trow (E s) 0 = [] from rfl, show trow (H s) 0 = [] from rfl] at e3
    simp_arith [x_ends_sized_1, inR_nat (n := wide) (by omega), e3, q5, q6, q7, tab_len, l1, ih]
theorem tab_one {T : Nat → Nat → Int} (h : ∀ b, T 0 b = 0) : tab T wide 1 = [.arr (List.replicate wide (.int 0))] := by
  show [W.arr (trow (T 0) wide)] = _
  congr 2
  unfold trow
  rw [List.eq_replicate_iff]
  refine ⟨by rw [List.length_map, List.length_range], fun b hb => ?_⟩
  obtain ⟨x, _, rfl⟩ := List.mem_map.mp hb
  rw [h]
theorem ret_tup {ws ys : List W} {S1 : Store} (h : W.freeL k ws = false) (h2 : storeL ws S = some (ys, S1)) : retW k (.tup ws) S = (.tup ys, S1.take k) := by
  show (if W.free k (.tup ws) then _ else match storeW (.tup ws) S with | some (w', S') => (w', S'.take k) | none => _) = _
  rw [free_tup, h, if_neg Bool.false_ne_true, storeW, h2]
include G in
theorem ends_sized_ok (h : ESeq wide most E H) (hm : most ≤ 1000) (hbd : bound ≤ 1000) (hw : wide = most + bound + 2) : M (k + 1) 5 [.int (most : Nat), .int (bound : Nat)] S = .ok (.tup [.arr (tab E wide (most + 1)), .arr (tab H wide (most + 1))]) S := by
  obtain ⟨b3, b5, b6, b7, e⟩ := es1 (M := M) (k := k) (S := S) (c0 := .lst [.int 0]) (c1 := .ice (List.replicate wide (.int 0))) (c3 := .lst [.int 0]) (c4 := .ice (List.replicate wide (.int 0))) h hm hbd hw most 1 none none none none (by omega) (Nat.le_refl _) (fun _ => rfl) (fun _ => rfl) (fun _ => rfl)
  have hln : LN = 16777216 := rfl
  have e2 : ((most : Nat) : Int) + (bound : Nat) + 2 = ((wide : Nat) : Int) := by omega
  have e3 : ((most : Nat) : Int) + 1 = ((most + 1 : Nat) : Int) := by omega
  rw [u_ends_sized G]
  unfold b_ends_sized
  simp_arith [tab_one h.ze, tab_one h.zh, e3] at e
  simp_arith [e2, e3, inR_nat (n := most + 1) (by omega), show wide ≤ LN by omega, e]
  rw [ret_tup (ys := [.arr (tab E wide (most + 1)), .arr (tab H wide (most + 1))]) (S1 := S ++ [.lst [.int 0], .ice (List.replicate wide (.int 0)), .ice (tab E wide (most + 1)), .lst [.int 0], .ice (List.replicate wide (.int 0)), .ice (tab H wide (most + 1))])]
  · simp_arith
  · simp_arith
  · simp_arith [storeL, storeW]
include G in
theorem many_ends_ok (h : ESeq wide most E H) (hm : most ≤ 40) (hm1 : 1 ≤ most) (hbd : bound ≤ 6) (hw : wide = most + bound + 2) : M (k + 4) 2 [.int (most : Nat), .int (bound : Nat)] S = .ok (.int (E most bound)) S := by
  rw [u_many_ends G]
  unfold b_many_ends
  have l1 : (1 : Int) ≤ (most : Nat) := by omega
  have l2 : ((most : Nat) : Int) ≤ 40 := by omega
  have l3 : (0 : Int) ≤ (bound : Nat) := by omega
  have l4 : ((bound : Nat) : Int) ≤ 6 := by omega
  simp_arith [check_number_ok G l1 l2, check_number_ok G l3 l4, ends_sized_ok G h (by omega) (by omega) hw, at_tab (T := E) (m := wide) (l := most) (n := most + 1) (by omega), at_trow (T := E most) (l := bound) (n := wide) (by omega)]
end
end PM
namespace PM
open PySem PySem.Spec L2 PB
/-! ### the lists of terms -/
def lsm {α : Type} (g : Nat → List α) : Nat → Nat → List α
  | _, 0 => []
  | o, c + 1 => g o ++ lsm g (o + 1) c
structure LSeq (L : Nat → Nat → List Ix) : Prop where
  s : ∀ s b, 1 ≤ s → L s b = (if s = 1 then (List.range b).map Ix.n else []) ++ lsm (fun o => (L o b).flatMap fun f => (L (s - 1 - o) b).map fun x => Ix.a f x) 1 (s - 2) ++ (if 1 < s then (L (s - 1) (b + 1)).map Ix.l else [])
section
variable {M : Nat → Nat → MF} (G : Good M) {k : Nat} {S : Store} {w u : W} {size binding : Nat} {L : Nat → Nat → List Ix} {F : List (List Key × W)}
theorem rl4 {s b o : Nat} {ys : List Ix} (hg : getW F (pk [((s - 1 - o : Nat) : Int), (b : Nat)]) = some (.arr (ys.map Ix.w))) (ho : o + 1 < s) : ∀ (xs A : List Ix) (a7 : Option W), A.length + xs.length * ys.length ≤ LN → ys.length ≤ LN → (∀ K, keepO K a7 = a7) →
    ∃ b7, (∀ K, keepO K b7 = b7) ∧ forW true (S.length + 2) (bName 7) (b_raw_listed_4 (M k)) [] (xs.map Ix.w) [some (.int (size : Nat)), some (.int (binding : Nat)), some (.loc S.length), some (.int (s : Nat)), some (.int (b : Nat)), some (.loc (S.length + 1)), some (.int (o : Nat)), a7, none, none] (S ++ [.dT F, .lst (A.map Ix.w)]) =
      .next [some (.int (size : Nat)), some (.int (binding : Nat)), some (.loc S.length), some (.int (s : Nat)), some (.int (b : Nat)), some (.loc (S.length + 1)), some (.int (o : Nat)), b7, none, none] (S ++ [.dT F, .lst ((A ++ xs.flatMap fun f => ys.map fun x => Ix.a f x).map Ix.w)])
  | [], A, a7, _, _, h7 => by
    refine ⟨a7, h7, ?_⟩
    simp_arith [List.flatMap_nil]
  | x :: xs, A, a7, hl, hy, h7 => by
    have hl : A.length + (xs.length + 1) * ys.length ≤ LN := hl
    rw [Nat.add_mul, Nat.one_mul] at hl
    obtain ⟨b7, h8, ih⟩ := rl4 hg ho xs (A ++ ys.map fun y => Ix.a x y) (some x.w) (by rw [List.length_append, List.length_map]; omega) hy (fun K => keepO_imm x.imm)
    refine ⟨b7, h8, ?_⟩
    have e2 : ((s : Nat) : Int) - 1 - (o : Nat) = ((s - 1 - o : Nat) : Int) := by omega
    have l1 : A.length + ys.length ≤ LN := by omega
    simp_arith [x_raw_listed_4, e2, tup_pth2, hg]
    rw [lc_mapA (S := S ++ [.dT F, .lst (A.map Ix.w)]) (xs := ys) (e := Ix.w) (h := fun y => (Ix.a x y).w) ?_ ?_ ?_ hy]
    · simp only [List.map_append, List.map_map, List.append_assoc] at ih
      simp_arith [l1, List.flatMap_cons, List.map_append, List.map_map, Ix.imm]
      rw [← ih]
      rfl
    · simp_arith
    · simp_arith
    · intro y _ acc
      refine ⟨_, rfl, [], ?_, Ix.imm _⟩
      simp_arith [Ix.w]
theorem len_fm {α β γ : Type} {h : α → β → γ} : ∀ (xs : List α) (ys : List β), (xs.flatMap fun f => ys.map (h f)).length = xs.length * ys.length
  | [], ys => by simp
  | x :: xs, ys => by
    rw [List.flatMap_cons, List.length_append, List.length_map, len_fm xs ys, List.length_cons, Nat.add_mul, Nat.one_mul, Nat.add_comm]
/-- what is known so far -/
def RF (L : Nat → Nat → List Ix) (tot : Nat) (F : List (List Key × W)) (s b : Nat) : Prop := ∀ s' b', 1 ≤ s' → (s' < s ∧ s' + b' ≤ tot ∨ s' = s ∧ b' < b) → getW F (pk [((s' : Nat) : Int), (b' : Nat)]) = some (.arr ((L s' b').map Ix.w))
def lg (L : Nat → Nat → List Ix) (s b : Nat) (o : Nat) : List Ix := (L o b).flatMap fun f => (L (s - 1 - o) b).map fun x => Ix.a f x
theorem rl3 {s b tot : Nat} (hF : RF L tot F s b) (hB : ∀ s' b', s' + b' ≤ tot → (L s' b').length ≤ LN) (hb : s + b ≤ tot) : ∀ (c o : Nat) (A : List Ix) (a6 a7 : Option W), o + c + 1 = s → 1 ≤ o → A.length + (lsm (lg L s b) o c).length ≤ LN → (∀ K, keepO K a6 = a6) → (∀ K, keepO K a7 = a7) →
    ∃ b6 b7, (∀ K, keepO K b6 = b6) ∧ (∀ K, keepO K b7 = b7) ∧ forW true (S.length + 2) (bName 6) (b_raw_listed_3 (M k)) [] (rngL (o : Nat) ((s : Nat) - 1)) [some (.int (size : Nat)), some (.int (binding : Nat)), some (.loc S.length), some (.int (s : Nat)), some (.int (b : Nat)), some (.loc (S.length + 1)), a6, a7, none, none] (S ++ [.dT F, .lst (A.map Ix.w)]) =
      .next [some (.int (size : Nat)), some (.int (binding : Nat)), some (.loc S.length), some (.int (s : Nat)), some (.int (b : Nat)), some (.loc (S.length + 1)), b6, b7, none, none] (S ++ [.dT F, .lst ((A ++ lsm (lg L s b) o c).map Ix.w)])
  | 0, o, A, a6, a7, e, ho, _, h6, h7 => by
    refine ⟨a6, a7, h6, h7, ?_⟩
    rw [rng_nil (by omega)]
    simp_arith [lsm]
  | c + 1, o, A, a6, a7, e, ho, hl, h6, h7 => by
    have hl : A.length + (lg L s b o ++ lsm (lg L s b) (o + 1) c).length ≤ LN := hl
    rw [List.length_append] at hl
    have hx := hF o b ho (.inl ⟨by omega, by omega⟩)
    have hy := hF (s - 1 - o) b (by omega) (.inl ⟨by omega, by omega⟩)
    have hfl : (lg L s b o).length = (L o b).length * (L (s - 1 - o) b).length := len_fm _ _
    obtain ⟨b7, h8, e4⟩ := rl4 (M := M) (k := k) (S := S) (size := size) (binding := binding) hy (by omega) (L o b) A a7 (by omega) (hB _ _ (by omega)) h7
    obtain ⟨c6, c7, q6, q7, ih⟩ := rl3 hF hB hb c (o + 1) (A ++ lg L s b o) (some (.int (o : Nat))) b7 (by omega) (by omega) (by rw [List.length_append]; omega) (fun _ => rfl) h8
    refine ⟨c6, c7, q6, q7, ?_⟩
    rw [rng_cons (by omega)]
    have e1 : ((o : Nat) : Int) + 1 = ((o + 1 : Nat) : Int) := by omega
    rw [e1]
    rw [List.append_assoc] at ih
    have e5 : (L o b).flatMap (fun f => (L (s - 1 - o) b).map fun x => Ix.a f x) = lg L s b o := rfl
    rw [e5] at e4
    simp_arith [x_raw_listed_3, tup_pth2, hx, e4, h6, h8, ih]
    rfl
theorem rl3w {s b tot : Nat} (hF : RF L tot F s b) (hB : ∀ s' b', s' + b' ≤ tot → (L s' b').length ≤ LN) (hb : s + b ≤ tot) (hs : 1 ≤ s) (A : List Ix) (a6 a7 : Option W) (hl : A.length + (lsm (lg L s b) 1 (s - 2)).length ≤ LN) (h6 : ∀ K, keepO K a6 = a6) (h7 : ∀ K, keepO K a7 = a7) :
    ∃ b6 b7, (∀ K, keepO K b6 = b6) ∧ (∀ K, keepO K b7 = b7) ∧ forW true (S.length + 2) (bName 6) (b_raw_listed_3 (M k)) [] (rngL 1 ((s : Nat) - 1)) [some (.int (size : Nat)), some (.int (binding : Nat)), some (.loc S.length), some (.int (s : Nat)), some (.int (b : Nat)), some (.loc (S.length + 1)), a6, a7, none, none] (S ++ [.dT F, .lst (A.map Ix.w)]) =
      .next [some (.int (size : Nat)), some (.int (binding : Nat)), some (.loc S.length), some (.int (s : Nat)), some (.int (b : Nat)), some (.loc (S.length + 1)), b6, b7, none, none] (S ++ [.dT F, .lst ((A ++ lsm (lg L s b) 1 (s - 2)).map Ix.w)]) := by
  by_cases h2 : s = 1
  · subst h2
    refine ⟨a6, a7, h6, h7, ?_⟩
    rw [rng_nil (by omega)]
    simp_arith [lsm]
  · exact rl3 hF hB hb (s - 2) 1 A a6 a7 (by omega) (Nat.le_refl _) hl h6 h7
theorem rl2 {s tot : Nat} (hL : LSeq L) (hB : ∀ s' b', s' + b' ≤ tot → (L s' b').length ≤ LN) (hs : 1 ≤ s) (ht : tot ≤ 1000) (hst : s ≤ tot) : ∀ (c b : Nat) (F : List (List Key × W)) (a4 a6 a7 : Option W), s + b + c = tot + 1 → RF L tot F s b → F.length + c ≤ 1000000 → (∀ K, keepO K a6 = a6) → (∀ K, keepO K a7 = a7) → (∀ K, keepO K a4 = a4) →
    ∃ F' b4 b6 b7, RF L tot F' s (tot - s + 1) ∧ F'.length ≤ F.length + c ∧ (∀ K, keepO K b4 = b4) ∧ (∀ K, keepO K b6 = b6) ∧ (∀ K, keepO K b7 = b7) ∧ forW true (S.length + 1) (bName 4) (b_raw_listed_2 (M k)) [] (rngL (b : Nat) ((tot - s + 1 : Nat) : Int)) [some (.int (size : Nat)), some (.int (binding : Nat)), some (.loc S.length), some (.int (s : Nat)), a4, none, a6, a7, none, none] (S ++ [.dT F]) =
      .next [some (.int (size : Nat)), some (.int (binding : Nat)), some (.loc S.length), some (.int (s : Nat)), b4, none, b6, b7, none, none] (S ++ [.dT F'])
  | 0, b, F, a4, a6, a7, e, hF, hFl, h6, h7, h4 => by
    refine ⟨F, a4, a6, a7, ?_, Nat.le_refl _, h4, h6, h7, ?_⟩
    · have e : tot - s + 1 = b := by omega
      rw [e]
      exact hF
    · rw [rng_nil (by omega)]
      simp_arith
  | c + 1, b, F, a4, a6, a7, e, hF, hFl, h6, h7, h4 => by
    have hs2 := hL.s s b hs
    have hlen := hB s b (by omega)
    rw [hs2, List.length_append, List.length_append] at hlen
    obtain ⟨a6', a7', q6, q7, e3⟩ := rl3w (M := M) (k := k) (S := S) (size := size) (binding := binding) hF hB (by omega) hs (if s = 1 then (List.range b).map Ix.n else []) a6 a7 (by rw [show lsm (lg L s b) 1 (s - 2) = lsm (fun o => (L o b).flatMap fun f => (L (s - 1 - o) b).map fun x => Ix.a f x) 1 (s - 2) from rfl]; omega) h6 h7
    have hlp := len_put (kvs := F) (k := pk [((s : Nat) : Int), (b : Nat)]) (w := .arr ((L s b).map Ix.w))
    obtain ⟨F', b4, b6, b7, p1, p2, p4, p6, p7, ih⟩ := rl2 hL hB hs ht hst c (b + 1) (putW F (pk [((s : Nat) : Int), (b : Nat)]) (.arr ((L s b).map Ix.w))) (some (.int (b : Nat))) a6' a7' (by omega) (fun s' b' h1 h2 => by
      rw [get_put]
      by_cases z : pk [((s' : Nat) : Int), (b' : Nat)] = pk [((s : Nat) : Int), (b : Nat)]
      · rw [if_pos z]
        have z2 := pk_inj z
        simp only [List.cons.injEq, and_true] at z2
        have z3 : s' = s := by omega
        have z4 : b' = b := by omega
        subst z3 z4
        rfl
      · rw [if_neg z]
        refine hF s' b' h1 ?_
        rcases h2 with h2 | h2
        · exact .inl h2
        · refine .inr ⟨h2.1, ?_⟩
          have : b' ≠ b := fun y => z (by rw [h2.1, y])
          omega) (by omega) q6 q7 (fun _ => rfl)
    refine ⟨F', b4, b6, b7, p1, by omega, p4, p6, p7, ?_⟩
    have hln : LN = 16777216 := rfl
    have e1 : ((b : Nat) : Int) + 1 = ((b + 1 : Nat) : Int) := by omega
    have i1 : inR (((s : Nat) : Int) - 1) = true := by
      unfold inR
      simp only [Bool.and_eq_true, decide_eq_true_eq]
      omega
    have l1 : F.length < LN := by omega
    have hLr : lsm (lg L s b) 1 (s - 2) = lsm (fun o => (L o b).flatMap fun f => (L (s - 1 - o) b).map fun x => Ix.a f x) 1 (s - 2) := rfl
    rw [rng_cons (by omega), e1]
    by_cases z1 : s = 1
    · have z2 : ¬ (1 : Int) < (s : Nat) := by omega
      have z3 : ((s : Nat) : Int) = 1 := by omega
      have z4 : ¬ 1 < s := by omega
      rw [← hLr, if_pos z1, if_neg z4, List.append_nil] at hs2
      rw [if_pos z1, ← hs2] at e3
      simp_arith [z3, List.map_map] at e3
      rw [z3] at ih
      have e6 : Ix.w ∘ Ix.n = fun i : Nat => W.int (i : Nat) := rfl
      rw [e6] at e3
      have l2 : b ≤ 1000000 := by omega
      simp_arith [x_raw_listed_2, z3, l2, e3, q6, q7, tup_pth2, l1, ih]
    · have z2 : (1 : Int) < (s : Nat) := by omega
      have z3 : ¬ ((s : Nat) : Int) = 1 := by omega
      have z4 : 1 < s := by omega
      have e4 : ((s : Nat) : Int) - 1 = ((s - 1 : Nat) : Int) := by omega
      rw [← hLr, if_neg z1, if_pos z4, List.nil_append] at hs2
      rw [← hLr, if_neg z1, if_pos z4, List.length_nil, Nat.zero_add, List.length_map] at hlen
      rw [if_neg z1, List.nil_append, List.map_nil] at e3
      have hy := hF (s - 1) (b + 1) (by omega) (.inl ⟨by omega, by omega⟩)
      rw [e4] at e3 i1
      simp_arith [x_raw_listed_2, z2, z3, e1, e4, i1, e3, tup_pth2, hy]
      rw [lc_mapA (S := S ++ [.dT F, .lst ((lsm (lg L s b) 1 (s - 2)).map Ix.w)]) (xs := L (s - 1) (b + 1)) (e := Ix.w) (h := fun y => (Ix.l y).w) ?_ ?_ ?_ (hB _ _ (by omega))]
      · have e7 : (L s b).map Ix.w = (lsm (lg L s b) 1 (s - 2)).map Ix.w ++ (L (s - 1) (b + 1)).map (fun y => (Ix.l y).w) := by
          rw [hs2, List.map_append, List.map_map]
          rfl
        rw [e7] at ih
        simp_arith [hlen, l1, q6, q7, tup_pth2, ih]
      · simp_arith
      · simp_arith
      · intro y _ acc
        refine ⟨_, rfl, [], ?_, Ix.imm _⟩
        simp_arith [Ix.w]
theorem rl1 {tot : Nat} (hL : LSeq L) (hB : ∀ s' b', s' + b' ≤ tot → (L s' b').length ≤ LN) (ht : tot ≤ 900) (htt : tot = size + binding) : ∀ (c s : Nat) (F : List (List Key × W)) (a3 a4 a6 a7 : Option W), s + c = size + 1 → 1 ≤ s → RF L tot F s 0 → F.length + c * 1000 ≤ 910000 → (∀ K, keepO K a6 = a6) → (∀ K, keepO K a7 = a7) → (∀ K, keepO K a4 = a4) →
    ∃ F' b3 b4 b6 b7, RF L tot F' (size + 1) 0 ∧ forW true (S.length + 1) (bName 3) (b_raw_listed_1 (M k)) [] (rngL (s : Nat) ((size : Nat) + 1)) [some (.int (size : Nat)), some (.int (binding : Nat)), some (.loc S.length), a3, a4, none, a6, a7, none, none] (S ++ [.dT F]) =
      .next [some (.int (size : Nat)), some (.int (binding : Nat)), some (.loc S.length), b3, b4, none, b6, b7, none, none] (S ++ [.dT F'])
  | 0, s, F, a3, a4, a6, a7, e, hs, hF, hl, h6, h7, h4 => by
    refine ⟨F, a3, a4, a6, a7, ?_, ?_⟩
    · have e : size + 1 = s := by omega
      rw [e]
      exact hF
    · rw [rng_nil (by omega)]
      simp_arith
  | c + 1, s, F, a3, a4, a6, a7, e, hs, hF, hl, h6, h7, h4 => by
    obtain ⟨F1, b4, b6, b7, p1, p2, p4, p6, p7, e2⟩ := rl2 (M := M) (k := k) (S := S) (size := size) (binding := binding) hL hB hs (by omega) (by omega) (tot - s + 1) 0 F a4 a6 a7 (by omega) hF (by omega) h6 h7 h4
    obtain ⟨F', c3, c4, c6, c7, q1, ih⟩ := rl1 hL hB ht htt c (s + 1) F1 (some (.int (s : Nat))) b4 b6 b7 (by omega) (by omega) (fun s' b' h1 h2 => by
      rcases h2 with h2 | h2
      · by_cases z : s' < s
        · exact p1 s' b' h1 (.inl ⟨z, h2.2⟩)
        · exact p1 s' b' h1 (.inr ⟨by omega, by omega⟩)
      · exact absurd h2.2 (Nat.not_lt_zero _)) (by omega) p6 p7 p4
    refine ⟨F', c3, c4, c6, c7, q1, ?_⟩
    have e1 : ((s : Nat) : Int) + 1 = ((s + 1 : Nat) : Int) := by omega
    have e3 : ((binding : Nat) : Int) + (size : Nat) - (s : Nat) + 1 = ((tot - s + 1 : Nat) : Int) := by omega
    rw [rng_cons (by omega), e1]
    simp_arith at e2
    simp_arith [x_raw_listed_1, e3, inR_nat (n := tot - s + 1) (by omega), e2, h6, h7, p4, p6, p7, ih]
include G in
theorem raw_listed_ok (hL : LSeq L) (hB : ∀ s' b', s' + b' ≤ size + binding → (L s' b').length ≤ LN) (h1 : 1 ≤ size) (ht : size + binding ≤ 900) : M (k + 1) 15 [.int (size : Nat), .int (binding : Nat)] S = .ok (.arr ((L size binding).map Ix.w)) S := by
  obtain ⟨F, b3, b4, b6, b7, q, e⟩ := rl1 (M := M) (k := k) (S := S) hL hB ht rfl size 1 [] none none none none (by omega) (Nat.le_refl _) (fun s' b' h1 h2 => by omega) (by show 0 + size * 1000 ≤ 910000; omega) (fun _ => rfl) (fun _ => rfl) (fun _ => rfl)
  have hg := q size binding h1 (.inl ⟨by omega, Nat.le_refl _⟩)
  have e3 : ((size : Nat) : Int) + 1 = ((size + 1 : Nat) : Int) := by omega
  rw [u_raw_listed G]
  unfold b_raw_listed
  simp_arith [e3] at e
  simp_arith [e3, inR_nat (n := size + 1) (by omega), e, tup_pth2, hg]
include G in
theorem all_closed_ok (hL : LSeq L) (hB : ∀ s' b', s' + b' ≤ size → (L s' b').length ≤ LN) (h1 : 1 ≤ size) (h9 : size ≤ 9) (hc : ∀ t ∈ L size 0, t.cl 0 = true ∧ t.size ≤ 900 ∧ t.names.length < 64) :
    M (k + 4) 8 [.int (size : Nat)] S = .ok (.loc S.length) (S ++ [.lst ((L size 0).map fun t => t.pl.w)]) := by
  have l1 : (1 : Int) ≤ (size : Nat) := by omega
  have l2 : ((size : Nat) : Int) ≤ 9 := by omega
  have e := raw_listed_ok G (k := k + 2) (S := S) (binding := 0) hL hB h1 (by omega)
  rw [u_all_closed G]
  unfold b_all_closed
  simp_arith at e
  simp_arith [check_number_ok G l1 l2, e]
  rw [lc_mapA (S := S) (xs := L size 0) (e := Ix.w) (h := fun t => t.pl.w) rfl rfl ?_ (hB _ _ (by omega))]
  · simp_arith
  · intro t ht acc
    refine ⟨_, rfl, [], ?_, Pl.imm _⟩
    obtain ⟨c1, c2, c3⟩ := hc t ht
    simp_arith [raw_named_ok G c2 c3 c1]
end
end PM
namespace PM
open PySem PySem.Spec L2 PB
/-! ### all parts, the steps that can be done -/
def Ix.parts (t : Ix) : List IItem := trav ich true WF [([], t, 0)]
def Ix.isRx : Ix → Bool
  | .a (.l _) _ => true
  | _ => false
/-- nothing that binds is given something -/
def Ix.ne : Ix → Bool
  | .a f x => !(Ix.a f x).isRx && (f.ne && x.ne)
  | .l b => b.ne
  | _ => true
theorem trav_fuel {α : Type} {ch : α → List α} {bf : Bool} {sz : α → Nat} (hs : ∀ x, ((ch x).map sz).sum + 1 = sz x) : ∀ (n m : Nat) (q : List α), (q.map sz).sum ≤ n → (q.map sz).sum ≤ m → trav ch bf n q = trav ch bf m q
  | n, m, [], _, _ => by rw [trav_nil, trav_nil]
  | 0, m, y :: q, h, _ => by
    have := hs y
    simp only [List.map_cons, List.sum_cons] at h
    omega
  | n + 1, 0, y :: q, _, h => by
    have := hs y
    simp only [List.map_cons, List.sum_cons] at h
    omega
  | n + 1, m + 1, y :: q, h, h2 => by
    have := hs y
    simp only [List.map_cons, List.sum_cons] at h h2
    show y :: trav ch bf n _ = y :: trav ch bf m _
    rw [trav_fuel hs n m _ (by rw [sum_nxt]; omega) (by rw [sum_nxt]; omega)]
theorem numW_nil {k : Nat} : numW [] k = [] := rfl
theorem numW_cons {k : Nat} {w : W} {ws : List W} : numW (w :: ws) k = .twk [.int (k : Nat), w] :: numW ws (k + 1) := rfl
theorem at_mid {α : Type} {l r : List α} {a : α} {n : Nat} (h : l.length = n) : atI (l ++ a :: r) (n : Nat) = some a := at_nat (by subst h; rw [List.getElem?_append_right (Nat.le_refl _), Nat.sub_self]; rfl)
section
variable {M : Nat → Nat → MF} (G : Good M) {k : Nat} {S : Store} {w u : W} {r : Ix}
theorem int_bl {b : Bool} : intW (.bl b) S = .ok (.int (if b then 1 else 0)) S := rfl
include G
theorem parts_loop (hw : w.imm = true) : ∀ (n : Nat) (Q D : List IItem) (a3 a4 a5 a6 a7 a8 : Option W), (Q.map isz).sum < n → D.length + (Q.map isz).sum ≤ 5000 → (∀ i ∈ Q, i.1.length + i.2.1.size ≤ 2000) → (∀ K, keepO K a3 = a3) → (∀ K, keepO K a4 = a4) → (∀ K, keepO K a5 = a5) → (∀ K, keepO K a6 = a6) → (∀ K, keepO K a7 = a7) → (∀ K, keepO K a8 = a8) →
    ∃ (sp : Int) (b3 b4 b5 b6 b7 b8 : Option W), sWhile true (S.length + 1) (b_parts_of_1t (M (k + 1))) (b_parts_of_1 (M (k + 1))) n [some w, some (.loc S.length), some (.int (D.length : Nat)), a3, a4, a5, a6, a7, a8] (S ++ [.lst (D.map iwi ++ Q.map iwi)]) =
      .next [some w, some (.loc S.length), some (.int sp), b3, b4, b5, b6, b7, b8] (S ++ [.lst (D.map iwi ++ (trav ich true n Q).map iwi)])
  | 0, Q, D, _, _, _, _, _, _, h, _, _, _, _, _, _, _, _ => absurd h (Nat.not_lt_zero _)
  | n + 1, [], D, a3, a4, a5, a6, a7, a8, _, _, _, _, _, _, _, _, _ => by
    refine ⟨((D.length : Nat) : Int), a3, a4, a5, a6, a7, a8, ?_⟩
    rw [wh_s]
    have l0 : ¬ ((D.length : Nat) : Int) < ((D.length : Nat) : Int) := by omega
    simp_arith [x_parts_of_1t, trav, l0]
  | n + 1, (p, t, d) :: Q, D, a3, a4, a5, a6, a7, a8, h1, h2, hP, k3, k4, k5, k6, k7, k8 => by
    have hl := len_sum (f := isz) (fun i => i.2.1.size_pos) Q
    have hP1 := hP _ (List.mem_cons_self ..)
    have hP2 := fun i hi => hP i (List.mem_cons_of_mem _ hi)
    have e1 : (trav ich true (n + 1) ((p, t, d) :: Q)) = (p, t, d) :: trav ich true n (nxt true Q (ich (p, t, d))) := rfl
    rw [e1]
    simp only [List.map_cons, List.sum_cons] at h1 h2
    simp only [] at hP1
    have hs := isz_ch (p, t, d)
    have hln : LN = 16777216 := rfl
    have kI : ∀ {z : W}, z.imm = true → ∀ K, keepO K (some z) = some z := fun h K => keepO_imm h
    have hch : ∀ i ∈ nxt true Q (ich (p, t, d)), i.1.length + i.2.1.size ≤ 2000 := fun i hi => by
      rcases mem_nxt.mp hi with hi | hi
      · exact hP2 i hi
      · cases t with
        | n x => cases hi
        | s x => cases hi
        | a f x =>
          simp only [Ix.size] at hP1
          rcases List.mem_cons.mp hi with rfl | hi
          · simp only [List.length_append, List.length_singleton]; omega
          · rw [List.mem_singleton.mp hi]
            simp only [List.length_append, List.length_singleton]; omega
        | l b =>
          simp only [Ix.size] at hP1
          rw [List.mem_singleton.mp hi]
          simp only [List.length_append, List.length_singleton]; omega
    have l0 : ((D.length : Nat) : Int) < ((D.length + (Q.length + 1) : Nat) : Int) := by omega
    have l1 : p.length + 1 ≤ LN := by omega
    have e2 : ((D.length : Nat) : Int) + 1 = ((D.length + 1 : Nat) : Int) := by omega
    have e3 : ∀ {r}, atI (D.map iwi ++ W.tup [pth p, t.w, .int (d : Nat)] :: r) ((D.length : Nat) : Int) = some (.tup [pth p, t.w, .int (d : Nat)]) := at_mid (by rw [List.length_map])
    have hts := t.size_pos
    have hsz : isz (p, t, d) = t.size := rfl
    cases t with
    | n x =>
      obtain ⟨sp, b3, b4, b5, b6, b7, b8, ih⟩ := parts_loop hw n Q (D ++ [(p, .n x, d)]) (some (pth p)) (some (Ix.n x).w) (some (.int (d : Nat))) a6 a7 a8 (by omega) (by rw [List.length_append, List.length_singleton]; omega) hP2 (kI imm_pth) (kI rfl) (kI rfl) k6 k7 k8
      refine ⟨sp, b3, b4, b5, b6, b7, b8, ?_⟩
      rw [wh_s]
      simp_arith [iwi, Ix.w, List.map_append, nxt, ich] at ih
      simp_arith [Ix.w] at e3
      simp_arith [x_parts_of_1t, x_parts_of_1, iwi, Ix.w, l0, e2, e3, is_integer_int G, hw, k6, k7, k8, nxt, ich, ih]
    | s x =>
      obtain ⟨sp, b3, b4, b5, b6, b7, b8, ih⟩ := parts_loop hw n Q (D ++ [(p, .s x, d)]) (some (pth p)) (some (Ix.s x).w) (some (.int (d : Nat))) a6 a7 a8 (by omega) (by rw [List.length_append, List.length_singleton]; omega) hP2 (kI imm_pth) (kI rfl) (kI rfl) k6 k7 k8
      refine ⟨sp, b3, b4, b5, b6, b7, b8, ?_⟩
      rw [wh_s]
      simp_arith [iwi, Ix.w, List.map_append, nxt, ich] at ih
      simp_arith [Ix.w] at e3
      simp_arith [x_parts_of_1t, x_parts_of_1, iwi, Ix.w, l0, e2, e3, hw, k6, k7, k8, nxt, ich, ih]
    | a f x =>
      obtain ⟨sp, b3, b4, b5, b6, b7, b8, ih⟩ := parts_loop hw n (nxt true Q (ich (p, .a f x, d))) (D ++ [(p, .a f x, d)]) (some (pth p)) (some (Ix.a f x).w) (some (.int (d : Nat))) (some (.int 0)) (some (.int 1)) (some x.w) (by rw [sum_nxt]; omega) (by rw [sum_nxt, List.length_append, List.length_singleton]; omega) hch (kI imm_pth) (kI (Ix.imm _)) (kI rfl) (kI rfl) (kI rfl) (kI x.imm)
      refine ⟨sp, b3, b4, b5, b6, b7, b8, ?_⟩
      rw [wh_s]
      have l2 : D.length + (Q.length + 1) < LN := by omega
      have l3 : D.length + (Q.length + 2) < LN := by omega
      simp_arith [iwi, Ix.w, List.map_append, nxt, ich] at ih
      simp_arith [Ix.w] at e3
      simp_arith [x_parts_of_1t, x_parts_of_1, x_parts_of_2, iwi, Ix.w, Ix.imm, l0, l1, l2, l3, e2, e3, is_integer_tup G, hw, k7, k8, nxt, ich, int_bl, numW_nil, numW_cons, Int.add_zero, ih]
    | l b =>
      obtain ⟨sp, b3, b4, b5, b6, b7, b8, ih⟩ := parts_loop hw n (nxt true Q (ich (p, .l b, d))) (D ++ [(p, .l b, d)]) (some (pth p)) (some (Ix.l b).w) (some (.int (d : Nat))) (some (.int 1)) (some (.int 0)) (some b.w) (by rw [sum_nxt]; omega) (by rw [sum_nxt, List.length_append, List.length_singleton]; omega) hch (kI imm_pth) (kI (Ix.imm _)) (kI rfl) (kI rfl) (kI rfl) (kI b.imm)
      refine ⟨sp, b3, b4, b5, b6, b7, b8, ?_⟩
      rw [wh_s]
      have l2 : D.length + (Q.length + 1) < LN := by omega
      simp_arith [iwi, Ix.w, List.map_append, nxt, ich] at ih
      simp_arith [Ix.w] at e3
      simp_arith [x_parts_of_1t, x_parts_of_1, x_parts_of_2, iwi, Ix.w, Ix.imm, l0, l1, l2, e2, e3, is_integer_tup G, hw, k7, k8, nxt, ich, int_bl, numW_nil, numW_cons, nat_succ, ih]
theorem parts_of_ok {t : Ix} (h : t.size ≤ 1500) : M (k + 2) 24 [t.w] S = .ok (.loc S.length) (S ++ [.lst (t.parts.map iwi)]) := by
  have hwf : WF = 1000000000 := rfl
  obtain ⟨sp, b3, b4, b5, b6, b7, b8, e⟩ := parts_loop G (k := k) (S := S) (w := t.w) t.imm WF [([], t, 0)] [] none none none none none none (by show t.size + 0 < WF; omega) (by show 0 + (t.size + 0) ≤ 5000; omega) (fun i hi => by
    rw [List.mem_singleton.mp hi]
    show 0 + t.size ≤ 2000
    omega) (fun _ => rfl) (fun _ => rfl) (fun _ => rfl) (fun _ => rfl) (fun _ => rfl) (fun _ => rfl)
  rw [u_parts_of G]
  unfold b_parts_of
  simp_arith [iwi] at e
  simp_arith [← pth_nil, Ix.imm, e]
  rfl
theorem is_redex_ok {t : Ix} : M (k + 2) 25 [t.w] S = .ok (.bl t.isRx) S := by
  rw [u_is_redex G]
  unfold b_is_redex
  cases t with
  | n x => simp_arith [Ix.w, is_integer_int G, Ix.isRx]
  | s x => simp_arith [Ix.w, Ix.isRx]
  | l b => simp_arith [Ix.w, is_integer_tup G, Ix.isRx]
  | a f x =>
    cases f with
    | n y => simp_arith [Ix.w, is_integer_tup G, is_integer_int G, Ix.isRx]
    | s y => simp_arith [Ix.w, is_integer_tup G, Ix.isRx]
    | a g y => simp_arith [Ix.w, is_integer_tup G, Ix.isRx]
    | l b => simp_arith [Ix.w, is_integer_tup G, Ix.isRx]
/-- where steps can be done -/
def Ix.rxs (t : Ix) : List (List Int) := (t.parts.filter fun i => i.2.1.isRx).map (·.1)
omit G in
theorem parts_len {t : Ix} (h : t.size ≤ 1500) : t.parts.length = t.size := by
  have hwf : WF = 1000000000 := rfl
  have e := trav_len (bf := true) isz_ch WF [([], t, 0)] (by show t.size + 0 ≤ WF; omega)
  show (trav ich true WF [([], t, 0)]).length = _
  rw [e]
  rfl
omit G in
theorem depth_ints : ∀ p : List Int, (encL (p.map W.int)).map PyData.depth = p.map fun _ => 0
  | [] => rfl
  | i :: p => by
    rw [List.map_cons, encL, List.map_cons, depth_ints p]
    rw [encW, PyData.depth]
    rfl
omit G in
theorem depthAll_ints : ∀ p : List Int, PyData.depthAll (encL (p.map W.int)) = 0
  | [] => by rw [List.map_nil, encL, PyData.depthAll]
  | i :: p => by
    rw [List.map_cons, encL, PyData.depthAll, depthAll_ints p, encW, PyData.depth]
    rfl
omit G in
theorem alike_ints : ∀ p q : List Int, PySem.W.alikeAll (encL (p.map W.int)) (encL (q.map W.int)) = true
  | [], q => by rw [List.map_nil, encL, PySem.W.alikeAll]
  | i :: p, [] => by rw [List.map_cons, encL, List.map_nil, encL, PySem.W.alikeAll]
  | i :: p, j :: q => by
    rw [List.map_cons, encL, List.map_cons, encL, PySem.W.alikeAll, alike_ints p q, encW, encW, PySem.W.alike]
    rfl
omit G in
theorem datL_ints : ∀ p : List Int, datL (p.map W.int) = true
  | [] => by rw [List.map_nil, datL]
  | i :: p => by rw [List.map_cons, datL, datL_ints p, datW]; rfl
omit G in
theorem datL_map {α : Type} {f : α → W} (h : ∀ x, datW (f x) = true) : ∀ l : List α, datL (l.map f) = true
  | [] => by rw [List.map_nil, datL]
  | x :: l => by rw [List.map_cons, datL, datL_map h l, h]; rfl
omit G in
theorem okS_pths {L : List (List Int)} (h : L.length ≤ LN) : okS (L.map pth) = true := by
  unfold okS
  simp only [Bool.and_eq_true, List.all_eq_true, decide_eq_true_eq, List.length_map]
  refine ⟨⟨⟨datL_map (fun p => ?_) L, fun a ha b hb => ?_⟩, fun a ha => ?_⟩, h⟩
  · unfold pth
    rw [datW]
    exact datL_ints p
  · obtain ⟨p, _, rfl⟩ := List.mem_map.mp ha
    obtain ⟨q, _, rfl⟩ := List.mem_map.mp hb
    unfold pth
    rw [encW, encW, PySem.W.alike]
    exact alike_ints p q
  · obtain ⟨p, _, rfl⟩ := List.mem_map.mp ha
    unfold pth
    rw [encW, PyData.depth, depthAll_ints]
    decide
def srtC (o : Option (List W)) (S : Store) : Res W := match o with
  | some ws => if okS ws then .ok (.loc S.length) (S ++ [.lst (isort leW ws)]) else .bad
  | none => .bad
omit G in
theorem sort_w {w : W} : sortW w S = srtC (lstOf S w) S := rfl
omit G in
theorem srtC_some {ws : List W} (h : okS ws = true) : srtC (some ws) S = .ok (.loc S.length) (S ++ [.lst (isort leW ws)]) := if_pos h
/-- paths in their order -/
def leP (p q : List Int) : Bool := leW (pth p) (pth q)
theorem raw_steps_ok {t : Ix} (h : t.size ≤ 1500) : M (k + 3) 18 [t.w] S = .ok (.loc S.length) (S ++ [.lst ((isort leP t.rxs).map pth)]) := by
  have hln : LN = 16777216 := rfl
  rw [u_raw_steps G]
  unfold b_raw_steps
  simp_arith [parts_of_ok G h]
  rw [lc_filterA (S := S) (xs := t.parts) (e := iwi) (p := fun i => i.2.1.isRx) (h := fun i => pth i.1) ?_ ?_ ?_ (by rw [parts_len h]; omega)]
  · have e : (t.parts.filter fun i => i.2.1.isRx).map (fun i => pth i.1) = t.rxs.map pth := by
      unfold Ix.rxs
      rw [List.map_map]
      rfl
    have hl : (t.rxs).length ≤ LN := by
      unfold Ix.rxs
      rw [List.length_map]
      refine Nat.le_trans (List.length_filter_le _ _) ?_
      rw [parts_len h]
      omega
    rw [e]
    simp_arith [sort_w, srtC_some (okS_pths hl)]
    rw [isort_map]
    rfl
  · simp_arith
  · simp_arith
  · intro i hi
    refine ⟨imm_pth, fun acc => ⟨_, rfl, [], [], ?_, ?_⟩⟩
    · simp_arith [is_redex_ok G]
    · simp_arith
omit G in
theorem ne_of {t : Ix} (h : t.ne = true) : t.isRx = false ∧ ∀ p d, ∀ j ∈ ich (p, t, d), j.2.1.ne = true := by
  cases t with
  | n x => exact ⟨rfl, fun p d j hj => by cases hj⟩
  | s x => exact ⟨rfl, fun p d j hj => by cases hj⟩
  | a f x =>
    simp only [Ix.ne, Bool.and_eq_true, Bool.not_eq_true'] at h
    refine ⟨h.1, fun p d j hj => ?_⟩
    rcases List.mem_cons.mp hj with rfl | hj
    · exact h.2.1
    · rw [List.mem_singleton.mp hj]
      exact h.2.2
  | l b =>
    simp only [Ix.ne] at h
    refine ⟨rfl, fun p d j hj => ?_⟩
    rw [List.mem_singleton.mp hj]
    exact h
omit G in
theorem ne_back : ∀ V : List IItem, ChOk ich V → (∀ i ∈ V, i.2.1.isRx = false) → ∀ i ∈ V, i.2.1.ne = true
  | [], _, _, i, hi => by cases hi
  | (p, t, d) :: V, hc, hr, i, hi => by
    have ih := ne_back V hc.2 fun i hi => hr i (List.mem_cons_of_mem _ hi)
    rcases List.mem_cons.mp hi with rfl | hi
    · have h0 := hr _ (List.mem_cons_self ..)
      simp only [] at h0 ⊢
      cases t with
      | n x => rfl
      | s x => rfl
      | a f x =>
        have i0 := ih _ (hc.1 _ (List.mem_cons_self ..))
        have i1 := ih _ (hc.1 _ (List.mem_cons_of_mem _ (List.mem_cons_self ..)))
        simp only [] at i0 i1
        simp only [Ix.ne]
        rw [h0, i0, i1]
        rfl
      | l b =>
        have i0 := ih _ (hc.1 _ (List.mem_cons_self ..))
        exact i0
    · exact ih i hi
omit G in
theorem rxs_nil {t : Ix} (h : t.size ≤ 1500) : decide (t.rxs.length = 0) = t.ne := by
  have hwf : WF = 1000000000 := rfl
  have hV := trav_ch (bf := true) isz_ch WF [([], t, 0)] (by show t.size + 0 ≤ WF; omega)
  have hVm := trav_mem (bf := true) isz_ch WF [([], t, 0)] (by show t.size + 0 ≤ WF; omega) _ (List.mem_cons_self ..)
  have e : t.rxs.length = 0 ↔ ∀ i ∈ t.parts, i.2.1.isRx = false := by
    unfold Ix.rxs
    rw [List.length_map, List.length_eq_zero_iff, List.filter_eq_nil_iff]
    exact ⟨fun h i hi => by simpa using h i hi, fun h i hi => by rw [h i hi]; exact Bool.false_ne_true⟩
  cases z : t.ne with
  | true =>
    apply decide_eq_true
    rw [e]
    intro i hi
    exact (ne_of (trav_all (bf := true) (ch := ich) (P := fun i => i.2.1.ne = true) (fun i hi j hj => (ne_of hi).2 i.1 i.2.2 j hj) WF [([], t, 0)] (fun i hi => by rw [List.mem_singleton.mp hi]; exact z) i hi)).1
  | false =>
    apply decide_eq_false
    rw [e]
    intro hh
    have := ne_back _ hV hh _ hVm
    rw [z] at this
    cases this
theorem is_end_ok {p : Pl} (h : p.ok = true) (hs : p.size ≤ 120) (hd : p.dep ≤ 16) (hi : (p.ix []).size ≤ 1500) : M (k + 6) 9 [p.w] S = .ok (.bl (p.ix []).ne) S := by
  rw [u_is_end G]
  unfold b_is_end
  rw [← rxs_nil hi]
  have e : ∀ n : Nat, decide (((n : Nat) : Int) = 0) = decide (n = 0) := fun n => by
    simp only [decide_eq_decide]
    omega
  simp_arith [check_term_ok G h hs hd, raw_indexed_ok G (by omega) h, raw_steps_ok G hi, len_isort, e]
end
end PM
namespace PM
/-! ### the numbers of terms and of ends, the lists of terms: plain -/
def rowEH (en : Bool) (ok : Nat → Bool) (T : List (Nat → Int × Int)) (s b : Nat) : Int × Int :=
  let g := fun o b => (T.getD o fun _ => (0, 0)) b
  let h := (if s = 1 then (b : Int) else 0) + sm (fun o => (if en then (g o b).2 else (g o b).1) * (g (s - 1 - o) b).1) 1 (s - 2)
  (h + (if 1 < s ∧ ok b = true then (g (s - 1) (b + 1)).1 else 0), h)
def rowsEH (en : Bool) (ok : Nat → Bool) : Nat → List (Nat → Int × Int)
  | 0 => [fun _ => (0, 0)]
  | n + 1 => rowsEH en ok n ++ [fun b => rowEH en ok (rowsEH en ok n) (n + 1) b]
def EH (en : Bool) (ok : Nat → Bool) (s b : Nat) : Int × Int := ((rowsEH en ok s).getD s fun _ => (0, 0)) b
section
variable {en : Bool} {ok : Nat → Bool}
theorem rows_len : ∀ n, (rowsEH en ok n).length = n + 1
  | 0 => rfl
  | n + 1 => by rw [rowsEH, List.length_append, rows_len n]; rfl
theorem rows_get : ∀ n s, s ≤ n → (rowsEH en ok n).getD s (fun _ => (0, 0)) = (rowsEH en ok s).getD s (fun _ => (0, 0))
  | 0, s, h => by rw [Nat.le_zero.mp h]
  | n + 1, s, h => by
    by_cases e : s = n + 1
    · rw [e]
    · rw [← rows_get n s (by omega), rowsEH, List.getD_eq_getElem?_getD, List.getD_eq_getElem?_getD, List.getElem?_append_left (by rw [rows_len]; omega)]
theorem sm_congr {f g : Nat → Int} : ∀ (c o : Nat), (∀ i, o ≤ i → i < o + c → f i = g i) → sm f o c = sm g o c
  | 0, _, _ => rfl
  | c + 1, o, h => by
    show f o + sm f (o + 1) c = g o + sm g (o + 1) c
    rw [h o (Nat.le_refl _) (by omega), sm_congr c (o + 1) fun i h1 h2 => h i (by omega) (by omega)]
theorem eh_0 (b : Nat) : EH en ok 0 b = (0, 0) := rfl
theorem eh_h (s b : Nat) (hs : 1 ≤ s) : (EH en ok s b).2 = (if s = 1 then (b : Int) else 0) + sm (fun o => (if en then (EH en ok o b).2 else (EH en ok o b).1) * (EH en ok (s - 1 - o) b).1) 1 (s - 2) := by
  obtain ⟨n, rfl⟩ : ∃ n, s = n + 1 := ⟨s - 1, by omega⟩
  have e : EH en ok (n + 1) b = rowEH en ok (rowsEH en ok n) (n + 1) b := by
    unfold EH
    rw [rowsEH, List.getD_eq_getElem?_getD, List.getElem?_append_right (by rw [rows_len]; omega), rows_len, Nat.sub_self]
    rfl
  rw [e]
  unfold rowEH
  dsimp only
  congr 1
  apply sm_congr
  intro i h1 h2
  rw [rows_get n i (by omega), rows_get n (n + 1 - 1 - i) (by omega)]
  rfl
theorem eh_e (s b : Nat) (hs : 1 ≤ s) : (EH en ok s b).1 = (EH en ok s b).2 + (if 1 < s ∧ ok b = true then (EH en ok (s - 1) (b + 1)).1 else 0) := by
  obtain ⟨n, rfl⟩ : ∃ n, s = n + 1 := ⟨s - 1, by omega⟩
  have e : EH en ok (n + 1) b = rowEH en ok (rowsEH en ok n) (n + 1) b := by
    unfold EH
    rw [rowsEH, List.getD_eq_getElem?_getD, List.getElem?_append_right (by rw [rows_len]; omega), rows_len, Nat.sub_self]
    rfl
  rw [e]
  unfold rowEH
  dsimp only
  congr 2
/-- where nothing is cut off -/
theorem eh_cut {wide : Nat} : ∀ (n s b : Nat), s ≤ n → b + s ≤ wide → EH en (fun b => decide (b + 1 < wide)) s b = EH en (fun _ => true) s b
  | 0, s, b, h, _ => by rw [Nat.le_zero.mp h]; rfl
  | n + 1, s, b, h, hb => by
    by_cases hs : 1 ≤ s
    · have e2 : (EH en (fun b => decide (b + 1 < wide)) s b).2 = (EH en (fun _ => true) s b).2 := by
        rw [eh_h s b hs, eh_h s b hs]
        congr 1
        apply sm_congr
        intro i h1 h2
        rw [eh_cut n i b (by omega) (by omega), eh_cut n (s - 1 - i) b (by omega) (by omega)]
      have e1 : (EH en (fun b => decide (b + 1 < wide)) s b).1 = (EH en (fun _ => true) s b).1 := by
        rw [eh_e s b hs, eh_e s b hs, e2]
        congr 1
        by_cases h1 : 1 < s
        · rw [if_pos ⟨h1, decide_eq_true (by omega)⟩, if_pos ⟨h1, rfl⟩, eh_cut n (s - 1) (b + 1) (by omega) (by omega)]
        · rw [if_neg fun z => h1 z.1, if_neg fun z => h1 z.1]
      exact Prod.ext e1 e2
    · have e : s = 0 := by omega
      rw [e]
      rfl
theorem sm_bound {f : Nat → Int} {B : Int} : ∀ (c o : Nat), (∀ i, o ≤ i → i < o + c → 0 ≤ f i ∧ f i ≤ B) → 0 ≤ sm f o c ∧ sm f o c ≤ c * B
  | 0, _, _ => by
    refine ⟨Int.le_refl _, ?_⟩
    show (0 : Int) ≤ ((0 : Nat) : Int) * B
    simp
  | c + 1, o, h => by
    obtain ⟨h1, h2⟩ := h o (Nat.le_refl _) (by omega)
    obtain ⟨h3, h4⟩ := sm_bound c (o + 1) fun i a b => h i (by omega) (by omega)
    show 0 ≤ f o + sm f (o + 1) c ∧ f o + sm f (o + 1) c ≤ ((c + 1 : Nat) : Int) * B
    have e : ((c + 1 : Nat) : Int) * B = c * B + B := by
      rw [Int.natCast_add, Int.add_mul]
      simp
    omega
/-- none is great -/
theorem eh_boundK {B : Nat} : ∀ (n s b : Nat), s ≤ n → b + s ≤ B → 0 ≤ (EH en ok s b).2 ∧ (EH en ok s b).2 ≤ (EH en ok s b).1 ∧ (EH en ok s b).1 ≤ (B : Int) ^ s
  | 0, s, b, h, _ => by
    rw [Nat.le_zero.mp h]
    exact ⟨Int.le_refl 0, Int.le_refl 0, by show (0 : Int) ≤ (B : Int) ^ 0; rw [Int.pow_zero]; decide⟩
  | n + 1, s, b, h, hb => by
    by_cases hs : 1 ≤ s
    · by_cases h1 : 1 < s
      · have hz : ∀ i, 1 ≤ i → i < 1 + (s - 2) → 0 ≤ (if en then (EH en ok i b).2 else (EH en ok i b).1) * (EH en ok (s - 1 - i) b).1 ∧ (if en then (EH en ok i b).2 else (EH en ok i b).1) * (EH en ok (s - 1 - i) b).1 ≤ (B : Int) ^ (s - 1) := fun i a1 a2 => by
          obtain ⟨p1, p2, p3⟩ := eh_boundK (B := B) n i b (by omega) (by omega)
          obtain ⟨q1, q2, q3⟩ := eh_boundK (B := B) n (s - 1 - i) b (by omega) (by omega)
          have e : (B : Int) ^ (s - 1) = (B : Int) ^ i * (B : Int) ^ (s - 1 - i) := by
            rw [← Int.pow_add]
            congr 1
            omega
          have hA : 0 ≤ (if en then (EH en ok i b).2 else (EH en ok i b).1) ∧ (if en then (EH en ok i b).2 else (EH en ok i b).1) ≤ (B : Int) ^ i := by
            cases en
            · exact ⟨Int.le_trans p1 p2, p3⟩
            · exact ⟨p1, Int.le_trans p2 p3⟩
          rw [e]
          exact ⟨Int.mul_nonneg hA.1 (Int.le_trans q1 q2), Int.mul_le_mul hA.2 q3 (Int.le_trans q1 q2) (Int.le_trans hA.1 hA.2)⟩
        obtain ⟨z1, z2⟩ := sm_bound (s - 2) 1 hz
        obtain ⟨r1, r2, r3⟩ := eh_boundK (B := B) n (s - 1) (b + 1) (by omega) (by omega)
        rw [eh_e s b hs, eh_h s b hs, if_neg (by omega)]
        have e : (B : Int) ^ s = (B : Int) ^ (s - 1) * B := by
          rw [← Int.pow_succ]
          congr 1
          omega
        have hp : (0 : Int) ≤ (B : Int) ^ (s - 1) := Int.le_trans (Int.le_trans r1 r2) r3
        have hc : (((s - 2 : Nat) : Int)) * (B : Int) ^ (s - 1) + (B : Int) ^ (s - 1) ≤ (B : Int) ^ (s - 1) * B := by
          have e3 : (((s - 2 : Nat) : Int)) * (B : Int) ^ (s - 1) + (B : Int) ^ (s - 1) = (((s - 2 : Nat) : Int) + 1) * (B : Int) ^ (s - 1) := by
            rw [Int.add_mul, Int.one_mul]
          rw [e3, Int.mul_comm ((B : Int) ^ (s - 1))]
          exact Int.mul_le_mul_of_nonneg_right (by omega) hp
        have hif : 0 ≤ (if 1 < s ∧ ok b = true then (EH en ok (s - 1) (b + 1)).1 else 0) ∧ (if 1 < s ∧ ok b = true then (EH en ok (s - 1) (b + 1)).1 else 0) ≤ (B : Int) ^ (s - 1) := by
          by_cases z : 1 < s ∧ ok b = true
          · rw [if_pos z]; exact ⟨Int.le_trans r1 r2, r3⟩
          · rw [if_neg z]; exact ⟨Int.le_refl _, hp⟩
        rw [e]
        omega
      · have e : s = 1 := by omega
        subst e
        have e1 : (EH en ok 1 b).2 = b := by
          rw [eh_h 1 b hs, if_pos rfl]
          show (b : Int) + 0 = b
          omega
        have e0 : (EH en ok 1 b).1 = b := by
          rw [eh_e 1 b hs, e1, if_neg (by omega)]
          omega
        rw [e0, e1, Int.pow_succ, Int.pow_zero, Int.one_mul]
        omega
    · have e : s = 0 := by omega
      rw [e]
      exact ⟨Int.le_refl 0, Int.le_refl 0, by show (0 : Int) ≤ (B : Int) ^ 0; rw [Int.pow_zero]; decide⟩
theorem eh_bound (n s b : Nat) (h : s ≤ n) (hb : b + s ≤ 64) : 0 ≤ (EH en ok s b).2 ∧ (EH en ok s b).2 ≤ (EH en ok s b).1 ∧ (EH en ok s b).1 ≤ 64 ^ s := eh_boundK (B := 64) n s b h hb
theorem sm_le {f g : Nat → Int} : ∀ (c o : Nat), (∀ i, o ≤ i → i < o + c → f i ≤ g i) → sm f o c ≤ sm g o c
  | 0, _, _ => Int.le_refl _
  | c + 1, o, h => by
    have h1 := h o (Nat.le_refl _) (by omega)
    have h2 := sm_le c (o + 1) fun i a b => h i (by omega) (by omega)
    show f o + sm f (o + 1) c ≤ g o + sm g (o + 1) c
    omega
end
/-- more names, more terms -/
theorem eh_mono {en : Bool} : ∀ (n s b : Nat), s ≤ n → b + 1 + s ≤ 64 → (EH en (fun _ => true) s b).2 ≤ (EH en (fun _ => true) s (b + 1)).2 ∧ (EH en (fun _ => true) s b).1 ≤ (EH en (fun _ => true) s (b + 1)).1
  | 0, s, b, h, _ => by
    rw [Nat.le_zero.mp h]
    exact ⟨Int.le_refl 0, Int.le_refl 0⟩
  | n + 1, s, b, h, hb => by
    by_cases hs : 1 ≤ s
    · have e2 : (EH en (fun _ => true) s b).2 ≤ (EH en (fun _ => true) s (b + 1)).2 := by
        rw [eh_h s b hs, eh_h s (b + 1) hs]
        have h1 : (if s = 1 then (b : Int) else 0) ≤ (if s = 1 then ((b + 1 : Nat) : Int) else 0) := by
          by_cases z : s = 1
          · rw [if_pos z, if_pos z]; omega
          · rw [if_neg z, if_neg z]; omega
        have h2 := sm_le (f := fun o => (if en then (EH en (fun _ => true) o b).2 else (EH en (fun _ => true) o b).1) * (EH en (fun _ => true) (s - 1 - o) b).1) (g := fun o => (if en then (EH en (fun _ => true) o (b + 1)).2 else (EH en (fun _ => true) o (b + 1)).1) * (EH en (fun _ => true) (s - 1 - o) (b + 1)).1) (s - 2) 1 fun i a1 a2 => by
          obtain ⟨p1, p2⟩ := eh_mono (en := en) n i b (by omega) (by omega)
          obtain ⟨q1, q2⟩ := eh_mono (en := en) n (s - 1 - i) b (by omega) (by omega)
          obtain ⟨r1, r2, _⟩ := eh_bound (en := en) (ok := fun _ => true) n i (b + 1) (by omega) (by omega)
          obtain ⟨t1, t2, _⟩ := eh_bound (en := en) (ok := fun _ => true) n (s - 1 - i) b (by omega) (by omega)
          have hA : (if en then (EH en (fun _ => true) i b).2 else (EH en (fun _ => true) i b).1) ≤ (if en then (EH en (fun _ => true) i (b + 1)).2 else (EH en (fun _ => true) i (b + 1)).1) ∧ 0 ≤ (if en then (EH en (fun _ => true) i (b + 1)).2 else (EH en (fun _ => true) i (b + 1)).1) := by
            cases en
            · exact ⟨p2, Int.le_trans r1 r2⟩
            · exact ⟨p1, r1⟩
          exact Int.mul_le_mul hA.1 q2 (Int.le_trans t1 t2) hA.2
        omega
      refine ⟨e2, ?_⟩
      rw [eh_e s b hs, eh_e s (b + 1) hs]
      by_cases h1 : 1 < s
      · rw [if_pos ⟨h1, rfl⟩, if_pos ⟨h1, rfl⟩]
        have := (eh_mono (en := en) n (s - 1) (b + 1) (by omega) (by omega)).2
        omega
      · rw [if_neg fun z => h1 z.1, if_neg fun z => h1 z.1]
        omega
    · have e : s = 0 := by omega
      rw [e]
      exact ⟨Int.le_refl 0, Int.le_refl 0⟩
/-- no more ends than terms -/
theorem eh_le : ∀ (n s b : Nat), s ≤ n → b + s ≤ 64 → (EH true (fun _ => true) s b).2 ≤ (EH false (fun _ => true) s b).2 ∧ (EH true (fun _ => true) s b).1 ≤ (EH false (fun _ => true) s b).1
  | 0, s, b, h, _ => by
    rw [Nat.le_zero.mp h]
    exact ⟨Int.le_refl 0, Int.le_refl 0⟩
  | n + 1, s, b, h, hb => by
    by_cases hs : 1 ≤ s
    · have e2 : (EH true (fun _ => true) s b).2 ≤ (EH false (fun _ => true) s b).2 := by
        rw [eh_h s b hs, eh_h s b hs]
        have h2 := sm_le (f := fun o => (EH true (fun _ => true) o b).2 * (EH true (fun _ => true) (s - 1 - o) b).1) (g := fun o => (EH false (fun _ => true) o b).1 * (EH false (fun _ => true) (s - 1 - o) b).1) (s - 2) 1 fun i a1 a2 => by
          obtain ⟨p1, p2⟩ := eh_le n i b (by omega) (by omega)
          obtain ⟨q1, q2⟩ := eh_le n (s - 1 - i) b (by omega) (by omega)
          obtain ⟨r1, r2, _⟩ := eh_bound (en := false) (ok := fun _ => true) n i b (by omega) (by omega)
          obtain ⟨t1, t2, _⟩ := eh_bound (en := true) (ok := fun _ => true) n (s - 1 - i) b (by omega) (by omega)
          exact Int.mul_le_mul (Int.le_trans p1 r2) q2 (Int.le_trans t1 t2) (Int.le_trans r1 r2)
        have h3 : sm (fun o => (if true = true then (EH true (fun _ => true) o b).2 else (EH true (fun _ => true) o b).1) * (EH true (fun _ => true) (s - 1 - o) b).1) 1 (s - 2) = sm (fun o => (EH true (fun _ => true) o b).2 * (EH true (fun _ => true) (s - 1 - o) b).1) 1 (s - 2) := rfl
        have h4 : sm (fun o => (if false = true then (EH false (fun _ => true) o b).2 else (EH false (fun _ => true) o b).1) * (EH false (fun _ => true) (s - 1 - o) b).1) 1 (s - 2) = sm (fun o => (EH false (fun _ => true) o b).1 * (EH false (fun _ => true) (s - 1 - o) b).1) 1 (s - 2) := sm_congr _ _ fun _ _ _ => by simp
        omega
      refine ⟨e2, ?_⟩
      rw [eh_e s b hs, eh_e s b hs]
      by_cases h1 : 1 < s
      · rw [if_pos ⟨h1, rfl⟩, if_pos ⟨h1, rfl⟩]
        have := (eh_le n (s - 1) (b + 1) (by omega) (by omega)).2
        omega
      · rw [if_neg fun z => h1 z.1, if_neg fun z => h1 z.1]
        omega
    · have e : s = 0 := by omega
      rw [e]
      exact ⟨Int.le_refl 0, Int.le_refl 0⟩
end PM
namespace PM
/-! ### the lists of terms -/
def rowL (T : List (Nat → List Ix)) (s b : Nat) : List Ix :=
  (if s = 1 then (List.range b).map Ix.n else []) ++ lsm (fun o => ((T.getD o fun _ => []) b).flatMap fun f => ((T.getD (s - 1 - o) fun _ => []) b).map fun x => Ix.a f x) 1 (s - 2) ++ (if 1 < s then ((T.getD (s - 1) fun _ => []) (b + 1)).map Ix.l else [])
def rowsL : Nat → List (Nat → List Ix)
  | 0 => [fun _ => []]
  | n + 1 => rowsL n ++ [fun b => rowL (rowsL n) (n + 1) b]
def LL (s b : Nat) : List Ix := ((rowsL s).getD s fun _ => []) b
theorem rowsL_len : ∀ n, (rowsL n).length = n + 1
  | 0 => rfl
  | n + 1 => by rw [rowsL, List.length_append, rowsL_len n]; rfl
theorem rowsL_get : ∀ n s, s ≤ n → (rowsL n).getD s (fun _ => []) = (rowsL s).getD s (fun _ => [])
  | 0, s, h => by rw [Nat.le_zero.mp h]
  | n + 1, s, h => by
    by_cases e : s = n + 1
    · rw [e]
    · rw [← rowsL_get n s (by omega), rowsL, List.getD_eq_getElem?_getD, List.getD_eq_getElem?_getD, List.getElem?_append_left (by rw [rowsL_len]; omega)]
theorem lsm_congr {α : Type} {f g : Nat → List α} : ∀ (c o : Nat), (∀ i, o ≤ i → i < o + c → f i = g i) → lsm f o c = lsm g o c
  | 0, _, _ => rfl
  | c + 1, o, h => by
    show f o ++ lsm f (o + 1) c = g o ++ lsm g (o + 1) c
    rw [h o (Nat.le_refl _) (by omega), lsm_congr c (o + 1) fun i h1 h2 => h i (by omega) (by omega)]
theorem LL_seq : LSeq LL := ⟨fun s b hs => by
  obtain ⟨n, rfl⟩ : ∃ n, s = n + 1 := ⟨s - 1, by omega⟩
  have e : LL (n + 1) b = rowL (rowsL n) (n + 1) b := by
    unfold LL
    rw [rowsL, List.getD_eq_getElem?_getD, List.getElem?_append_right (by rw [rowsL_len]; omega), rowsL_len, Nat.sub_self]
    rfl
  rw [e]
  unfold rowL
  congr 1
  congr 1
  apply lsm_congr
  intro i h1 h2
  rw [rowsL_get n i (by omega), rowsL_get n (n + 1 - 1 - i) (by omega)]
  rfl⟩
theorem LL_0 (b : Nat) : LL 0 b = [] := rfl
theorem mem_lsm {α : Type} {g : Nat → List α} {x : α} : ∀ {c o : Nat}, x ∈ lsm g o c → ∃ i, o ≤ i ∧ i < o + c ∧ x ∈ g i
  | 0, _, h => by cases h
  | c + 1, o, h => by
    have h : x ∈ g o ++ lsm g (o + 1) c := h
    rcases List.mem_append.mp h with h | h
    · exact ⟨o, Nat.le_refl _, by omega, h⟩
    · obtain ⟨i, h1, h2, h3⟩ := mem_lsm h
      exact ⟨i, by omega, by omega, h3⟩
/-- what is in the lists -/
theorem LL_mem : ∀ (n s b : Nat), s ≤ n → ∀ t ∈ LL s b, t.cl b = true ∧ t.size = s ∧ t.names = []
  | 0, s, b, h, t, ht => by
    rw [Nat.le_zero.mp h, LL_0] at ht
    cases ht
  | n + 1, s, b, h, t, ht => by
    by_cases hs : 1 ≤ s
    · rw [LL_seq.s s b hs] at ht
      rcases List.mem_append.mp ht with ht | ht
      · rcases List.mem_append.mp ht with ht | ht
        · by_cases z : s = 1
          · rw [if_pos z] at ht
            obtain ⟨i, hi, rfl⟩ := List.mem_map.mp ht
            exact ⟨decide_eq_true (List.mem_range.mp hi), z.symm, rfl⟩
          · rw [if_neg z] at ht
            cases ht
        · obtain ⟨i, h1, h2, h3⟩ := mem_lsm ht
          obtain ⟨f, hf, h4⟩ := List.mem_flatMap.mp h3
          obtain ⟨x, hx, rfl⟩ := List.mem_map.mp h4
          obtain ⟨a1, a2, a3⟩ := LL_mem n i b (by omega) f hf
          obtain ⟨b1, b2, b3⟩ := LL_mem n (s - 1 - i) b (by omega) x hx
          refine ⟨?_, ?_, ?_⟩
          · simp only [Ix.cl]
            rw [a1, b1]
            rfl
          · simp only [Ix.size]
            omega
          · simp only [Ix.names]
            rw [a3, b3]
            rfl
      · by_cases z : 1 < s
        · rw [if_pos z] at ht
          obtain ⟨x, hx, rfl⟩ := List.mem_map.mp ht
          obtain ⟨b1, b2, b3⟩ := LL_mem n (s - 1) (b + 1) (by omega) x hx
          refine ⟨b1, ?_, b3⟩
          simp only [Ix.size]
          omega
        · rw [if_neg z] at ht
          cases ht
    · have e : s = 0 := by omega
      rw [e, LL_0] at ht
      cases ht
/-! how many -/
def cnt {α : Type} (P : α → Bool) (l : List α) : Int := ((l.filter P).length : Nat)
theorem cnt_app {α : Type} {P : α → Bool} {l m : List α} : cnt P (l ++ m) = cnt P l + cnt P m := by
  unfold cnt
  rw [List.filter_append, List.length_append]
  omega
theorem cnt_lsm {α : Type} {P : α → Bool} {g : Nat → List α} : ∀ c o : Nat, cnt P (lsm g o c) = sm (fun i => cnt P (g i)) o c
  | 0, _ => rfl
  | c + 1, o => by
    show cnt P (g o ++ lsm g (o + 1) c) = cnt P (g o) + _
    rw [cnt_app, cnt_lsm c (o + 1)]
theorem cnt_map {α β : Type} {P : β → Bool} {f : α → β} {l : List α} : cnt P (l.map f) = cnt (fun x => P (f x)) l := by
  unfold cnt
  rw [List.filter_map, List.length_map]
  rfl
theorem cnt_fm {α β γ : Type} {P : γ → Bool} {Q : α → Bool} {R : β → Bool} {h : α → β → γ} (e : ∀ x y, P (h x y) = (Q x && R y)) : ∀ (xs : List α) (ys : List β), cnt P (xs.flatMap fun x => ys.map (h x)) = cnt Q xs * cnt R ys
  | [], ys => by
    show (0 : Int) = 0 * _
    rw [Int.zero_mul]
  | x :: xs, ys => by
    rw [List.flatMap_cons, cnt_app, cnt_fm e xs ys, cnt_map]
    have e1 : cnt (fun y => P (h x y)) ys = (if Q x then cnt R ys else 0) := by
      cases z : Q x with
      | true =>
        rw [if_pos rfl]
        congr 1
        funext y
        rw [e, z, Bool.true_and]
      | false =>
        rw [if_neg Bool.false_ne_true]
        unfold cnt
        have e2 : ys.filter (fun y => P (h x y)) = [] := List.filter_eq_nil_iff.mpr fun y _ => by rw [e, z, Bool.false_and]; exact Bool.false_ne_true
        rw [e2]
        rfl
    have e2 : cnt Q (x :: xs) = (if Q x then 1 else 0) + cnt Q xs := by
      unfold cnt
      rw [List.filter_cons]
      cases Q x with
      | true =>
        rw [if_pos rfl, if_pos rfl, List.length_cons]
        omega
      | false =>
        rw [if_neg Bool.false_ne_true, if_neg Bool.false_ne_true]
        omega
    rw [e1, e2, Int.add_mul]
    cases Q x <;> simp
def Ix.isL : Ix → Bool
  | .l _ => true
  | _ => false
def Ix.hd (t : Ix) : Bool := t.ne && !t.isL
theorem ne_a (f x : Ix) : (Ix.a f x).ne = (f.hd && x.ne) := by
  unfold Ix.hd
  cases f <;> simp [Ix.ne, Ix.isRx, Ix.isL]
theorem hd_a (f x : Ix) : (Ix.a f x).hd = (f.hd && x.ne) := by
  show ((Ix.a f x).ne && true) = _
  rw [Bool.and_true, ne_a]
theorem cnt_all {α : Type} {P : α → Bool} {l : List α} (h : ∀ x ∈ l, P x = true) : cnt P l = l.length := by
  unfold cnt
  rw [List.filter_eq_self.mpr h]
theorem cnt_none {α : Type} {P : α → Bool} {l : List α} (h : ∀ x ∈ l, P x = false) : cnt P l = 0 := by
  unfold cnt
  rw [List.filter_eq_nil_iff.mpr fun x hx => by rw [h x hx]; exact Bool.false_ne_true]
  rfl
theorem LL_cnt : ∀ (n s b : Nat), s ≤ n → cnt Ix.ne (LL s b) = (EH true (fun _ => true) s b).1 ∧ cnt Ix.hd (LL s b) = (EH true (fun _ => true) s b).2
  | 0, s, b, h => by
    rw [Nat.le_zero.mp h]
    exact ⟨rfl, rfl⟩
  | n + 1, s, b, h => by
    by_cases hs : 1 ≤ s
    · have hv : ∀ P : Ix → Bool, (∀ i, P (.n i) = true) → cnt P (if s = 1 then (List.range b).map Ix.n else []) = (if s = 1 then (b : Int) else 0) := fun P hP => by
        by_cases z : s = 1
        · rw [if_pos z, if_pos z, cnt_all fun x hx => by
            obtain ⟨i, _, rfl⟩ := List.mem_map.mp hx
            exact hP i]
          rw [List.length_map, List.length_range]
        · rw [if_neg z, if_neg z]
          rfl
      have hm : ∀ P : Ix → Bool, (∀ f x, P (.a f x) = (f.hd && x.ne)) → cnt P (lsm (fun o => (LL o b).flatMap fun f => (LL (s - 1 - o) b).map fun x => Ix.a f x) 1 (s - 2)) = sm (fun o => (if true = true then (EH true (fun _ => true) o b).2 else (EH true (fun _ => true) o b).1) * (EH true (fun _ => true) (s - 1 - o) b).1) 1 (s - 2) := fun P hP => by
        rw [cnt_lsm]
        apply sm_congr
        intro i h1 h2
        rw [cnt_fm (Q := Ix.hd) (R := Ix.ne) (fun x y => hP x y), (LL_cnt n i b (by omega)).2, (LL_cnt n (s - 1 - i) b (by omega)).1]
        rfl
      have e2 : cnt Ix.hd (LL s b) = (EH true (fun _ => true) s b).2 := by
        rw [LL_seq.s s b hs, cnt_app, cnt_app, hv Ix.hd (fun i => rfl), hm Ix.hd hd_a, eh_h s b hs]
        have e : cnt Ix.hd (if 1 < s then (LL (s - 1) (b + 1)).map Ix.l else []) = 0 := cnt_none fun x hx => by
          by_cases z : 1 < s
          · rw [if_pos z] at hx
            obtain ⟨y, _, rfl⟩ := List.mem_map.mp hx
            show ((Ix.l y).ne && !true) = false
            rw [Bool.not_true, Bool.and_false]
          · rw [if_neg z] at hx
            cases hx
        rw [e]
        omega
      refine ⟨?_, e2⟩
      rw [LL_seq.s s b hs, cnt_app, cnt_app, hv Ix.ne (fun i => rfl), hm Ix.ne ne_a, eh_e s b hs, eh_h s b hs]
      congr 1
      by_cases z : 1 < s
      · rw [if_pos z, if_pos ⟨z, rfl⟩, cnt_map]
        exact (LL_cnt n (s - 1) (b + 1) (by omega)).1
      · rw [if_neg z, if_neg fun y => z y.1]
        rfl
    · have e : s = 0 := by omega
      rw [e]
      exact ⟨rfl, rfl⟩
/-- the lists are as long as the numbers say -/
theorem LL_len : ∀ (n s b : Nat), s ≤ n → ((LL s b).length : Int) = (EH false (fun _ => true) s b).1
  | 0, s, b, h => by
    rw [Nat.le_zero.mp h]
    rfl
  | n + 1, s, b, h => by
    by_cases hs : 1 ≤ s
    · have hl : ∀ (c o : Nat) (g : Nat → List Ix), ((lsm g o c).length : Int) = sm (fun i => ((g i).length : Int)) o c := fun c => by
        induction c with
        | zero => intro o g; rfl
        | succ c ih =>
          intro o g
          show ((g o ++ lsm g (o + 1) c).length : Int) = ((g o).length : Int) + sm (fun i => ((g i).length : Int)) (o + 1) c
          rw [List.length_append, ← ih]
          omega
      rw [LL_seq.s s b hs, List.length_append, List.length_append, eh_e s b hs, eh_h s b hs]
      have e1 : (((if s = 1 then (List.range b).map Ix.n else []).length : Nat) : Int) = (if s = 1 then (b : Int) else 0) := by
        by_cases z : s = 1
        · rw [if_pos z, if_pos z, List.length_map, List.length_range]
        · rw [if_neg z, if_neg z]; rfl
      have e2 : (((lsm (fun o => (LL o b).flatMap fun f => (LL (s - 1 - o) b).map fun x => Ix.a f x) 1 (s - 2)).length : Nat) : Int) = sm (fun o => (if false = true then (EH false (fun _ => true) o b).2 else (EH false (fun _ => true) o b).1) * (EH false (fun _ => true) (s - 1 - o) b).1) 1 (s - 2) := by
        rw [hl]
        apply sm_congr
        intro i h1 h2
        rw [len_fm, Int.natCast_mul, LL_len n i b (by omega), LL_len n (s - 1 - i) b (by omega)]
        rfl
      have e3 : (((if 1 < s then (LL (s - 1) (b + 1)).map Ix.l else []).length : Nat) : Int) = (if 1 < s ∧ (fun _ : Nat => true) b = true then (EH false (fun _ => true) (s - 1) (b + 1)).1 else 0) := by
        by_cases z : 1 < s
        · rw [if_pos z, if_pos ⟨z, rfl⟩, List.length_map]
          exact LL_len n (s - 1) (b + 1) (by omega)
        · rw [if_neg z, if_neg fun y => z y.1]
          rfl
      rw [Int.natCast_add, Int.natCast_add, e1, e2, e3]
    · have e : s = 0 := by omega
      rw [e]
      rfl
theorem LL_lenB {B s b : Nat} (h : b + s ≤ B) : (LL s b).length ≤ B ^ s := by
  have h1 := LL_len s s b (Nat.le_refl _)
  have h2 := (eh_boundK (en := false) (ok := fun _ => true) (B := B) s s b (Nat.le_refl _) h).2.2
  rw [← h1] at h2
  have e : ((B ^ s : Nat) : Int) = (B : Int) ^ s := Int.natCast_pow B s
  omega
end PM
namespace PM
open PySem PySem.Spec L2 PB
/-! ### the hand -/
def hc (cs : List Int) (p r s n : Int) : Cell := .lst [.arr (cs.map .int), .int p, .int r, .int s, .int n]
def HC (c : Cell) : Prop := ∃ cs p r s n, c = hc cs p r s n ∧ 0 ≤ p
theorem at_3 {α : Type} {a b c e : α} {xs : List α} : atI (b :: c :: e :: a :: xs) 3 = some a := by
  unfold atI ixN
  have e : (3 : Int) < ((b :: c :: e :: a :: xs).length : Nat) := by simp only [List.length_cons]; omega
  rw [if_pos (by decide), if_pos e]
  rfl
theorem at_4 {α : Type} {a b c e f : α} {xs : List α} : atI (b :: c :: e :: f :: a :: xs) 4 = some a := by
  unfold atI ixN
  have e : (4 : Int) < ((b :: c :: e :: f :: a :: xs).length : Nat) := by simp only [List.length_cons]; omega
  rw [if_pos (by decide), if_pos e]
  rfl
def cs5 (j : Option Nat) (n : Nat) (xs : List W) (v : W) (S : Store) : Option Store := match j with
  | some j => some (S.set n (.lst (xs.set j v)))
  | none => none
theorem cs_lst {n : Nat} {xs : List W} {i : Int} {v : W} {S : Store} : cellSet (some (.lst xs)) n (.int i) v S = cs5 (ixN xs.length i) n xs v S := rfl
theorem cs5_some {j n : Nat} {xs : List W} {v : W} {S : Store} : cs5 (some j) n xs v S = some (S.set n (.lst (xs.set j v))) := rfl
theorem ix51 : ixN 5 1 = some 1 := by decide
theorem ix52 : ixN 5 2 = some 2 := by decide
theorem ix53 : ixN 5 3 = some 3 := by decide
theorem ix54 : ixN 5 4 = some 4 := by decide
theorem pow18 {S : Store} : opPow (.int 10) (.int 18) S = .ok (.int 1000000000000000000) S := by rfl
theorem cm_r {i j : Int} (h1 : (-18446744073709551616 < j) = True) (h2 : (j < 18446744073709551616) = True) : cMul i j = true := cmul_r (by have := of_eq_true h1; omega) (by have := of_eq_true h2; omega)
theorem cm_l {i j : Int} (h1 : (-18446744073709551616 < i) = True) (h2 : (i < 18446744073709551616) = True) : cMul i j = true := cmul_l (by have := of_eq_true h1; omega) (by have := of_eq_true h2; omega)
theorem cm_mod {i j : Int} : cMul (i % 2147483647) j = true := cmul_l (by omega) (by omega)
def mx1 (s n : Int) : Int := ((s + 7919 * n) * 48271) % 2147483647
def mx2 (a : Int) : Int := (a * (a / 1009 + 69621)) % 2147483647
def mx3 (a : Int) : Int := (a * (a / 2003 + 40014)) % 2147483563
def mix (s n many : Int) : Int := mx3 (mx2 (mx1 s n)) / 16 % many
theorem draw_ok {k : Nat} {c : Cell} {rest : Store} {many : Int} (h : HC c) (h0 : 0 < many) (h1 : many < 1073741824) :
    ∃ x c', HC c' ∧ 0 ≤ x ∧ x < many ∧ M (k + 1) 7 [.loc 0, .int many] (c :: rest) = .ok (.int x) (c' :: rest) := by
  obtain ⟨cs, p, r, s, n, rfl, hp⟩ := h
  have b1 : ∀ z : Int, 0 ≤ z % many := fun z => Int.emod_nonneg _ (by omega)
  have b2 : ∀ z : Int, z % many < many := fun z => Int.emod_lt_of_pos _ h0
  have l0 : ∀ z : Int, (0 < 0 + z) = (0 < z) := fun z => by rw [Int.zero_add]
  rw [u_law_draw good]
  unfold b_law_draw
  by_cases hr : r = 0
  · subst hr
    by_cases hl : p < (cs.length : Nat)
    · obtain ⟨q, rfl⟩ : ∃ q : Nat, p = q := ⟨p.toNat, by omega⟩
      have hq : q < cs.length := by omega
      have hc0 : (cs.map W.int)[q]? = some (.int cs[q]) := by rw [List.getElem?_map, List.getElem?_eq_getElem hq]; rfl
      by_cases hg : 1000000000000000000 ≤ cs[q]
      · have hg2 : 0 < cs[q] := by omega
        refine ⟨cs[q] % many, hc cs (q + 1) (cs[q] / many) ((s * 69621 + cs[q] * 40692 + 17) % 2147483629) n, ⟨_, _, _, _, _, rfl, by omega⟩, b1 _, b2 _, ?_⟩
        unfold hc
        simp_arith [hl, at_nat hc0, at_3, at_4, cs_lst, cs5_some, ix51, ix52, ix53, ix54, pow18, hg, hg2, ev_mul, cm_r, cm_l, h0, h1]
      · refine ⟨mix ((s * 69621 + cs[q] * 40692 + 17) % 2147483629) (n + 1) many, hc cs (q + 1) 0 ((s * 69621 + cs[q] * 40692 + 17) % 2147483629) (n + 1), ⟨_, _, _, _, _, rfl, by omega⟩, b1 _, b2 _, ?_⟩
        unfold hc
        simp_arith [hl, at_nat hc0, at_3, at_4, cs_lst, cs5_some, ix51, ix52, ix53, ix54, pow18, hg, ev_mul, cm_r, cm_l, cm_mod, h0, h1]
        rfl
    · refine ⟨mix s (n + 1) many, hc cs p 0 s (n + 1), ⟨_, _, _, _, _, rfl, hp⟩, b1 _, b2 _, ?_⟩
      unfold hc
      simp_arith [hl, at_3, at_4, cs_lst, cs5_some, ix51, ix52, ix53, ix54, pow18, ev_mul, cm_r, cm_l, cm_mod, h0, h1]
      rfl
  · by_cases hr2 : 0 < r
    · refine ⟨r % many, hc cs p (r / many) s n, ⟨_, _, _, _, _, rfl, hp⟩, b1 _, b2 _, ?_⟩
      unfold hc
      simp_arith [hr, hr2, at_3, at_4, cs_lst, cs5_some, ix51, ix52, ix53, ix54, h0, h1]
    · refine ⟨mix s (n + 1) many, hc cs p r s (n + 1), ⟨_, _, _, _, _, rfl, hp⟩, b1 _, b2 _, ?_⟩
      unfold hc
      simp_arith [hr, hr2, at_3, at_4, cs_lst, cs5_some, ix51, ix52, ix53, ix54, pow18, ev_mul, cm_r, cm_l, cm_mod, h0, h1]
      rfl
theorem any_ok {k m : Nat} {c : Cell} {rest : Store} {ws : List W} (h : HC c) (hr : rest[m]? = some (.lst ws)) (h0 : 0 < ws.length) (h1 : ws.length < 1073741824) (hi : W.immL ws = true) :
    ∃ (i : Nat) (w : W) (c' : Cell), ws[i]? = some w ∧ HC c' ∧ M (k + 2) 1 [.loc 0, .loc (m + 1)] (c :: rest) = .ok w (c' :: rest) := by
  obtain ⟨x, c', hc', x0, x1, e⟩ := draw_ok (k := k) (rest := rest) (many := (ws.length : Nat)) h (by omega) (by omega)
  obtain ⟨i, rfl⟩ : ∃ i : Nat, x = i := ⟨x.toNat, by omega⟩
  have hl : i < ws.length := by omega
  have hw : ws[i]? = some ws[i] := List.getElem?_eq_getElem hl
  have hwi : ws[i].imm = true := mem_immL hi _ (List.getElem_mem hl)
  refine ⟨i, ws[i], c', hw, hc', ?_⟩
  rw [u_law_any good]
  unfold b_law_any
  simp_arith [hr, e, at_nat hw, hwi]
/-! the hand is made -/
theorem cutW_map {α β : Type} {f : α → β} {xs : List α} {lo hi : Option Int} : cutW (xs.map f) lo hi = (cutW xs lo hi).map f := by
  unfold cutW
  rw [List.length_map, List.map_take, List.map_drop]
theorem cutW_len {α : Type} {xs : List α} {lo hi : Option Int} : (cutW xs lo hi).length ≤ xs.length := by
  unfold cutW
  rw [List.length_take, List.length_drop]
  omega
theorem sl_scr {ns : List Int} {lo hi : Option Int} {S : Store} : slW (.scr ns) lo hi S = .ok (.loc S.length) (S ++ [.lst ((cutW ns lo hi).map .int)]) := by
  rw [← cutW_map]
  rfl
theorem abs_int {i : Int} {S : Store} : absW (.int i) S = .ok (.int (if i < 0 then -i else i)) S := rfl
def newG (c : Option Cell) (m : Nat) (ws : List W) (S : Store) : Res W := match c with
  | some (.lst xs) => .ok (.loc S.length) (S.set m (.ice xs) ++ [.lst (.arr xs :: ws)])
  | some (.ice xs) => .ok (.loc S.length) (S ++ [.lst (.arr xs :: ws)])
  | _ => .bad
theorem lst_fr5 {m : Nat} {ws : List W} {S : Store} (h : W.immL ws = true) (hl : ws.length < LN) : newLst (.loc m :: ws) S = newG S[m]? m ws S := by
  unfold newLst
  rw [storeL, storeW]
  unfold newG
  cases S[m]? with
  | none => rfl
  | some c => cases c with
    | lst xs =>
      dsimp only
      rw [storeL_imm ws _ h]
      dsimp only
      rw [if_pos (by rw [List.length_cons]; omega), List.length_set]
    | ice xs =>
      dsimp only
      rw [storeL_imm ws _ h]
      dsimp only
      rw [if_pos (by rw [List.length_cons]; omega)]
    | dT kvs => rfl
    | dK kvs => rfl
theorem newG_lst {m : Nat} {xs ws : List W} {S : Store} : newG (some (.lst xs)) m ws S = .ok (.loc S.length) (S.set m (.ice xs) ++ [.lst (.arr xs :: ws)]) := rfl
theorem hand_ok {k : Nat} {ns : List Int} {S : Store} (h : ns.length ≤ 1000) : ∃ c, HC c ∧ M (k + 1) 4 [.scr ns] S = .ok (.loc S.length) (S ++ [c]) := by
  have hln : LN = 16777216 := rfl
  have hl := cutW_len (xs := ns) (lo := none) (hi := some 63)
  refine ⟨hc ((cutW ns none (some 63)).map fun i => if i < 0 then -i else i) 0 0 (83 + 5 * ((((cutW ns none (some 63)).map fun i => if i < 0 then -i else i).map W.int).length : Nat)) 0, ⟨_, _, _, _, _, rfl, Int.le_refl _⟩, ?_⟩
  rw [u_law_hand good]
  unfold b_law_hand
  simp_arith [sl_scr]
  rw [lc_mapA (S := S) (xs := cutW ns none (some 63)) (e := W.int) (h := fun i => W.int (if i < 0 then -i else i)) rfl rfl ?_ (by omega)]
  · simp_arith [ev_mul, cm_l, lst_fr5, newG_lst, show 4 < LN by omega]
    unfold hc
    simp_arith [List.map_map]
    rfl
  · intro i _ acc
    refine ⟨_, rfl, [], ?_, rfl⟩
    simp_arith [abs_int]
/-! ### the law's own terms by numbers, remembered -/
def allK : List (List Key) := (List.range 16).flatMap fun p => (List.range 16).map fun n => pk [((p : Nat) : Int), (n : Nat)]
structure KI (K : List (List Key × W)) : Prop where
  v : ∀ (p n : Nat) (w : W), getW K (pk [((p : Nat) : Int), (n : Nat)]) = some w → w = .arr ((LL p n).map Ix.w)
  n : (K.map (·.1)).Nodup
  s : ∀ x ∈ K.map (·.1), x ∈ allK
theorem ki_nil : KI [] := ⟨fun p n w h => (by cases h), List.nodup_nil, fun x h => (by cases h)⟩
theorem ki_len {K : List (List Key × W)} (h : KI K) : K.length ≤ 256 := by
  have e := List.Nodup.length_le_of_subset h.n (fun x hx => h.s x hx)
  have e2 : allK.length = 256 := by decide +kernel
  rw [List.length_map] at e
  omega
theorem keys_put {κ : Type} [DecidableEq κ] {kvs : List (κ × W)} {k : κ} {w : W} : (putW kvs k w).map (·.1) = if k ∈ kvs.map (·.1) then kvs.map (·.1) else kvs.map (·.1) ++ [k] := by
  unfold putW
  have e : (kvs.any fun p => decide (p.1 = k)) = decide (k ∈ kvs.map (·.1)) := by
    induction kvs with
    | nil => rfl
    | cons a l ih =>
      rw [List.any_cons, ih, List.map_cons]
      by_cases z : a.1 = k
      · subst z; simp
      · have z2 : ¬ k = a.1 := fun y => z y.symm
        simp [z, z2]
  rw [e]
  by_cases z : k ∈ kvs.map (·.1)
  · rw [if_pos (decide_eq_true z), if_pos z, List.map_map]
    apply List.map_congr_left
    intro a _
    show (if a.1 = k then (a.1, w) else a).1 = a.1
    by_cases y : a.1 = k
    · rw [if_pos y]
    · rw [if_neg y]
  · rw [if_neg (by rw [decide_eq_true_eq]; exact z), if_neg z, List.map_append]
    rfl
theorem ki_put {K : List (List Key × W)} (h : KI K) {p n : Nat} (hp : p < 16) (hn : n < 16) : KI (putW K (pk [((p : Nat) : Int), (n : Nat)]) (.arr ((LL p n).map Ix.w))) := by
  refine ⟨fun p' n' w hw => ?_, ?_, fun x hx => ?_⟩
  · rw [get_put] at hw
    by_cases z : pk [((p' : Nat) : Int), (n' : Nat)] = pk [((p : Nat) : Int), (n : Nat)]
    · rw [if_pos z] at hw
      have z2 := pk_inj z
      simp only [List.cons.injEq, and_true] at z2
      have z3 : p' = p := by omega
      have z4 : n' = n := by omega
      rw [z3, z4]
      exact (Option.some.inj hw).symm
    · rw [if_neg z] at hw
      exact h.v p' n' w hw
  · rw [keys_put]
    by_cases z : pk [((p : Nat) : Int), (n : Nat)] ∈ K.map (·.1)
    · rw [if_pos z]; exact h.n
    · rw [if_neg z, List.nodup_iff_pairwise_ne, List.pairwise_append]
      refine ⟨List.nodup_iff_pairwise_ne.mp h.n, List.pairwise_singleton _ _, fun a ha b hb => ?_⟩
      rw [List.mem_singleton.mp hb]
      exact fun y => z (y ▸ ha)
  · rw [keys_put] at hx
    by_cases z : pk [((p : Nat) : Int), (n : Nat)] ∈ K.map (·.1)
    · rw [if_pos z] at hx; exact h.s x hx
    · rw [if_neg z] at hx
      rcases List.mem_append.mp hx with hx | hx
      · exact h.s x hx
      · rw [List.mem_singleton.mp hx]
        exact List.mem_flatMap.mpr ⟨p, List.mem_range.mpr hp, List.mem_map.mpr ⟨n, List.mem_range.mpr hn, rfl⟩⟩
/-- what _law_terms does -/
def TOk (p n k : Nat) : Prop := ∀ (S : Store) (m : Nat) (K : List (List Key × W)), m < S.length → KI K → ∃ K', KI K' ∧ M k 10 [.int (p : Nat), .int (n : Nat), .loc m] (S.set m (.dT K)) = .ok (.arr ((LL p n).map Ix.w)) (S.set m (.dT K'))
section
variable {k : Nat} {S : Store} {m p n : Nat}
theorem tk_app (h : TOk p n k) {L : Store} {K : List (List Key × W)} (hm : m < S.length) (hK : KI K) : ∃ K', KI K' ∧ M k 10 [.int (p : Nat), .int (n : Nat), .loc m] (S.set m (.dT K) ++ L) = .ok (.arr ((LL p n).map Ix.w)) (S.set m (.dT K') ++ L) := by
  obtain ⟨K', h1, e⟩ := h (S ++ L) m K (by rw [List.length_append]; omega) hK
  rw [List.set_append_left _ _ hm, List.set_append_left _ _ hm] at e
  exact ⟨K', h1, e⟩
/-- .. with the terms of one size given those of another -/
theorem lt2 {o q : Nat} (hq : o + q + 1 = p) (h2 : TOk q n k) (hm : m < S.length) (hy : (LL q n).length ≤ LN) : ∀ (xs A : List Ix) (K : List (List Key × W)) (a5 : Option W), A.length + xs.length * (LL q n).length ≤ LN → KI K → (∀ K, keepO K a5 = a5) →
    ∃ K' b5, KI K' ∧ (∀ K, keepO K b5 = b5) ∧ forW true (S.length + 1) (bName 5) (b_law_terms_2 (M k)) [] (xs.map Ix.w) [some (.int (p : Nat)), some (.int (n : Nat)), some (.loc m), some (.loc S.length), some (.int (o : Nat)), a5, none, none] (S.set m (.dT K) ++ [.lst (A.map Ix.w)]) =
      .next [some (.int (p : Nat)), some (.int (n : Nat)), some (.loc m), some (.loc S.length), some (.int (o : Nat)), b5, none, none] (S.set m (.dT K') ++ [.lst ((A ++ xs.flatMap fun f => (LL q n).map fun x => Ix.a f x).map Ix.w)])
  | [], A, K, a5, _, hK, h5 => by
    refine ⟨K, a5, hK, h5, ?_⟩
    simp_arith [List.flatMap_nil]
  | x :: xs, A, K, a5, hl, hK, h5 => by
    have hl : A.length + (xs.length + 1) * (LL q n).length ≤ LN := hl
    rw [Nat.add_mul, Nat.one_mul] at hl
    obtain ⟨K1, hK1, e2⟩ := tk_app h2 (L := [.lst (A.map Ix.w)]) hm hK
    obtain ⟨K', b5, hK', q5, ih⟩ := lt2 hq h2 hm hy xs (A ++ (LL q n).map fun y => Ix.a x y) K1 (some x.w) (by rw [List.length_append, List.length_map]; omega) hK1 (fun K => keepO_imm x.imm)
    refine ⟨K', b5, hK', q5, ?_⟩
    have e3 : ((p : Nat) : Int) - 1 - (o : Nat) = ((q : Nat) : Int) := by omega
    have l1 : A.length + (LL q n).length ≤ LN := by omega
    have l2 : m < S.length + 1 := by omega
    simp_arith [x_law_terms_2, e3, e2]
    rw [lc_mapA (S := S.set m (.dT K1) ++ [.lst (A.map Ix.w)]) (xs := LL q n) (e := Ix.w) (h := fun y => (Ix.a x y).w) ?_ ?_ ?_ hy]
    · simp only [List.map_append, List.map_map, List.append_assoc] at ih
      simp_arith [l1, l2, List.flatMap_cons, List.map_append, List.map_map, Ix.imm]
      rw [← ih]
      rfl
    · simp_arith
    · simp_arith
    · intro y _ acc
      refine ⟨_, rfl, [], ?_, Ix.imm _⟩
      simp_arith [Ix.w]
/-- over the sizes of what is given something -/
theorem lt1 {tot : Nat} (hI : ∀ q, 1 ≤ q → q < p → TOk q n k) (hm : m < S.length) (hB : ∀ q, q < p → (LL q n).length ≤ LN) : ∀ (c o : Nat) (A : List Ix) (K : List (List Key × W)) (a4 a5 : Option W), o + c + 1 = p → 1 ≤ o → A.length + (lsm (lg LL p n) o c).length ≤ LN → KI K → (∀ K, keepO K a4 = a4) → (∀ K, keepO K a5 = a5) →
    ∃ K' b4 b5, KI K' ∧ (∀ K, keepO K b4 = b4) ∧ (∀ K, keepO K b5 = b5) ∧ forW true (S.length + 1) (bName 4) (b_law_terms_1 (M k)) [] (rngL (o : Nat) ((p : Nat) - 1)) [some (.int (p : Nat)), some (.int (n : Nat)), some (.loc m), some (.loc S.length), a4, a5, none, none] (S.set m (.dT K) ++ [.lst (A.map Ix.w)]) =
      .next [some (.int (p : Nat)), some (.int (n : Nat)), some (.loc m), some (.loc S.length), b4, b5, none, none] (S.set m (.dT K') ++ [.lst ((A ++ lsm (lg LL p n) o c).map Ix.w)])
  | 0, o, A, K, a4, a5, e, ho, _, hK, h4, h5 => by
    refine ⟨K, a4, a5, hK, h4, h5, ?_⟩
    rw [rng_nil (by omega)]
    simp_arith [lsm]
  | c + 1, o, A, K, a4, a5, e, ho, hl, hK, h4, h5 => by
    have hl : A.length + (lg LL p n o ++ lsm (lg LL p n) (o + 1) c).length ≤ LN := hl
    rw [List.length_append] at hl
    have hfl : (lg LL p n o).length = (LL o n).length * (LL (p - 1 - o) n).length := len_fm _ _
    obtain ⟨K1, hK1, e1⟩ := tk_app (hI o ho (by omega)) (L := [.lst (A.map Ix.w)]) hm hK
    obtain ⟨K2, b5, hK2, q5, e2⟩ := lt2 (p := p) (o := o) (by omega) (hI (p - 1 - o) (by omega) (by omega)) hm (hB _ (by omega)) (LL o n) A K1 a5 (by omega) hK1 h5
    obtain ⟨K', b4, b5', hK', q4, q5', ih⟩ := lt1 (tot := tot) hI hm hB c (o + 1) (A ++ lg LL p n o) K2 (some (.int (o : Nat))) b5 (by omega) (by omega) (by rw [List.length_append]; omega) hK2 (fun _ => rfl) q5
    refine ⟨K', b4, b5', hK', q4, q5', ?_⟩
    have e3 : ((o : Nat) : Int) + 1 = ((o + 1 : Nat) : Int) := by omega
    have l2 : m < S.length + 1 := by omega
    have e5 : (LL o n).flatMap (fun f => (LL (p - 1 - o) n).map fun x => Ix.a f x) = lg LL p n o := rfl
    rw [e5] at e2
    rw [rng_cons (by omega), e3]
    rw [List.append_assoc] at ih
    simp_arith [x_law_terms_1, e1, e2, l2, q5, ih]
    rfl
theorem lt1w {tot : Nat} (hI : ∀ q, 1 ≤ q → q < p → TOk q n k) (hm : m < S.length) (hp : 1 ≤ p) (hB : ∀ q, q < p → (LL q n).length ≤ LN) (A : List Ix) (K : List (List Key × W)) (hl : A.length + (lsm (lg LL p n) 1 (p - 2)).length ≤ LN) (hK : KI K) :
    ∃ K' b4 b5, KI K' ∧ (∀ K, keepO K b4 = b4) ∧ (∀ K, keepO K b5 = b5) ∧ forW true (S.length + 1) (bName 4) (b_law_terms_1 (M k)) [] (rngL 1 ((p : Nat) - 1)) [some (.int (p : Nat)), some (.int (n : Nat)), some (.loc m), some (.loc S.length), none, none, none, none] (S.set m (.dT K) ++ [.lst (A.map Ix.w)]) =
      .next [some (.int (p : Nat)), some (.int (n : Nat)), some (.loc m), some (.loc S.length), b4, b5, none, none] (S.set m (.dT K') ++ [.lst ((A ++ lsm (lg LL p n) 1 (p - 2)).map Ix.w)]) := by
  by_cases h2 : p = 1
  · subst h2
    refine ⟨K, none, none, hK, fun _ => rfl, fun _ => rfl, ?_⟩
    rw [rng_nil (by omega)]
    simp_arith [lsm]
  · exact lt1 (tot := tot) hI hm hB (p - 2) 1 A K none none (by omega) (Nat.le_refl _) hl hK (fun _ => rfl) (fun _ => rfl)
theorem ln_of {B q r : Nat} (hB : B ^ q ≤ LN) (hB1 : 1 ≤ B) (hr : r ≤ q) {b : Nat} (h : b + r ≤ B) : (LL r b).length ≤ LN :=
  Nat.le_trans (LL_lenB h) (Nat.le_trans (Nat.pow_le_pow_right hB1 hr) hB)
theorem terms_ok {B : Nat} (hB1 : 1 ≤ B) (hB15 : B ≤ 15) : ∀ (P p n k : Nat), p ≤ P → 1 ≤ p → p ≤ k → n + p ≤ B → B ^ p ≤ LN → TOk p n k
  | 0, p, n, k, hP, h1, _, _, _ => absurd h1 (by omega)
  | P + 1, p, n, 0, hP, h1, hk, _, _ => absurd h1 (by omega)
  | P + 1, p, n, k + 1, hP, h1, hk, ht, hB => by
    intro S m K hm hK
    have hpw : ∀ q, q ≤ p → B ^ q ≤ LN := fun q hq => Nat.le_trans (Nat.pow_le_pow_right hB1 hq) hB
    have hln : LN = 16777216 := rfl
    rw [u_law_terms good]
    unfold b_law_terms
    cases hg : getW K (pk [((p : Nat) : Int), (n : Nat)]) with
    | some w =>
      have e := hK.v p n w hg
      subst e
      refine ⟨K, hK, ?_⟩
      simp_arith [hm, hg]
    | none =>
      have hI : ∀ q, 1 ≤ q → q < p → TOk q n k := fun q a b => terms_ok hB1 hB15 P q n k (by omega) a (by omega) (by omega) (hpw q (by omega))
      have hLs := LL_seq.s p n h1
      have hlen := ln_of hB hB1 (Nat.le_refl p) ht
      rw [hLs, List.length_append, List.length_append] at hlen
      have hLr : lsm (lg LL p n) 1 (p - 2) = lsm (fun o => (LL o n).flatMap fun f => (LL (p - 1 - o) n).map fun x => Ix.a f x) 1 (p - 2) := rfl
      rw [← hLr] at hlen hLs
      obtain ⟨K1, b4, b5, hK1, q4, q5, e3⟩ := lt1w (tot := 0) hI hm h1 (fun q a => ln_of hB hB1 (by omega) (by omega)) (if p = 1 then (List.range n).map Ix.n else []) K (by omega) hK
      have l2 : m < S.length + 1 := by omega
      have i1 : inR (((p : Nat) : Int) - 1) = true := by
        unfold inR
        simp only [Bool.and_eq_true, decide_eq_true_eq]
        omega
      by_cases z1 : p = 1
      · have z2 : ¬ (1 : Int) < (p : Nat) := by omega
        have z3 : ((p : Nat) : Int) = 1 := by omega
        have z4 : ¬ 1 < p := by omega
        rw [if_pos z1, if_neg z4, List.append_nil] at hLs
        refine ⟨putW K (pk [((p : Nat) : Int), (n : Nat)]) (.arr ((LL p n).map Ix.w)), ki_put hK (by omega) (by omega), ?_⟩
        have l1 : K.length < LN := by
          have := ki_len hK
          omega
        have e0 : lsm (lg LL p n) 1 (p - 2) = [] := by rw [z1]; rfl
        rw [e0, List.append_nil] at hLs
        simp_arith [z3] at hg
        have e6 : (LL p n).map Ix.w = (List.range n).map fun i : Nat => W.int (i : Nat) := by
          rw [hLs, List.map_map]
          rfl
        have er : rngL 1 0 = [] := rng_nil (by omega)
        have l3 : n ≤ 1000000 := by omega
        have l4 : m < S.length + 2 := by omega
        rw [e6]
        simp_arith [hm, hg, z3, l2, l3, l4, l1, er]
      · have z2 : (1 : Int) < (p : Nat) := by omega
        have z3 : ¬ ((p : Nat) : Int) = 1 := by omega
        have z4 : 1 < p := by omega
        have e4 : ((p : Nat) : Int) - 1 = ((p - 1 : Nat) : Int) := by omega
        have e5 : ((n : Nat) : Int) + 1 = ((n + 1 : Nat) : Int) := by omega
        rw [if_neg z1, if_pos z4, List.nil_append] at hLs
        rw [if_neg z1, if_pos z4, List.length_nil, Nat.zero_add, List.length_map] at hlen
        rw [if_neg z1, List.nil_append, List.map_nil] at e3
        rw [e4] at e3 i1
        obtain ⟨K2, hK2, e7⟩ := tk_app (terms_ok hB1 hB15 P (p - 1) (n + 1) k (by omega) (by omega) (by omega) (by omega) (hpw _ (by omega))) (L := [.lst ((lsm (lg LL p n) 1 (p - 2)).map Ix.w)]) hm hK1
        refine ⟨putW K2 (pk [((p : Nat) : Int), (n : Nat)]) (.arr ((LL p n).map Ix.w)), ki_put hK2 (by omega) (by omega), ?_⟩
        have l1 : K2.length < LN := by
          have := ki_len hK2
          omega
        simp_arith [hm, hg, z2, z3, l2, i1, e4, e5, e3, e7]
        rw [lc_mapA (S := S.set m (.dT K2) ++ [.lst ((lsm (lg LL p n) 1 (p - 2)).map Ix.w)]) (xs := LL (p - 1) (n + 1)) (e := Ix.w) (h := fun y => (Ix.l y).w) ?_ ?_ ?_ (ln_of (hpw (p - 1) (by omega)) hB1 (Nat.le_refl _) (by omega))]
        · have e8 : (LL p n).map Ix.w = (lsm (lg LL p n) 1 (p - 2)).map Ix.w ++ (LL (p - 1) (n + 1)).map (fun y => (Ix.l y).w) := by
            rw [hLs, List.map_append, List.map_map]
            rfl
          rw [e8]
          simp_arith [hm, hlen, l1, l2]
        · simp_arith
        · simp_arith
        · intro y _ acc
          refine ⟨_, rfl, [], ?_, Ix.imm _⟩
          simp_arith [Ix.w]
end
theorem terms_new {B : Nat} (hB1 : 1 ≤ B) (hB15 : B ≤ 15) {p n k : Nat} (h1 : 1 ≤ p) (hk : p ≤ k) (ht : n + p ≤ B) (hB : B ^ p ≤ LN) (S : Store) : ∃ K', M k 10 [.int (p : Nat), .int (n : Nat), .loc S.length] (S ++ [.dT []]) = .ok (.arr ((LL p n).map Ix.w)) (S ++ [.dT K']) := by
  obtain ⟨K', _, e⟩ := terms_ok hB1 hB15 p p n k (Nat.le_refl _) h1 hk ht hB (S ++ [.dT []]) S.length [] (by rw [List.length_append]; show S.length < S.length + 1; omega) ki_nil
  rw [st_set0, st_set0, List.set_cons_zero, List.set_cons_zero] at e
  exact ⟨K', e⟩
end PM
namespace PM
open PySem PySem.Spec L2 PB
/-! ### there and back: names for numbers -/
theorem posOf_at {x : Str} : ∀ {L : List Str} {i : Nat}, L.Nodup → L[i]? = some x → posOf x L = some i
  | [], i, _, h => by cases h
  | y :: L, 0, _, h => by
    have h : y = x := Option.some.inj h
    rw [posOf, if_pos h]
  | y :: L, i + 1, hn, h => by
    have h : L[i]? = some x := h
    rw [List.nodup_cons] at hn
    have hx : x ∈ L := List.mem_of_getElem? h
    have hne : ¬ y = x := fun e => hn.1 (e ▸ hx)
    rw [posOf, if_neg hne, posOf_at hn.2 h]
    rfl
theorem posOf_none {x : Str} : ∀ {L : List Str}, x ∉ L → posOf x L = none
  | [], _ => rfl
  | y :: L, h => by
    have hne : ¬ y = x := fun e => h (e ▸ List.mem_cons_self ..)
    rw [posOf, if_neg hne, posOf_none fun z => h (List.mem_cons_of_mem _ z)]
    rfl
theorem take_succ_rev {ns : List Str} {d : Nat} (h : d < ns.length) : (ns.take (d + 1)).reverse = ns.getD d ⟨#[]⟩ :: (ns.take d).reverse := by
  rw [List.take_succ, List.reverse_append, List.getD_eq_getElem?_getD, List.getElem?_eq_getElem h]
  rfl
theorem ix_nm {ns : List Str} (hn : ns.Nodup) : ∀ (t : Ix) (d : Nat), (∀ x ∈ t.names, x ∉ ns) → t.cl d = true → d + t.size ≤ ns.length + 1 → (t.nm ns d).ix ((ns.take d).reverse) = t
  | .n i, d, _, hc, hl => by
    simp only [Ix.cl, decide_eq_true_eq] at hc
    simp only [Ix.size] at hl
    have hi : d - 1 - i < ns.length := by omega
    have e : ((ns.take d).reverse)[i]? = some (ns.getD (d - 1 - i) ⟨#[]⟩) := by
      rw [List.getElem?_reverse (by rw [List.length_take]; omega), List.length_take, Nat.min_eq_left (by omega), List.getElem?_take, if_pos (by omega), List.getD_eq_getElem?_getD, List.getElem?_eq_getElem hi]
      rfl
    have hnd : ((ns.take d).reverse).Nodup := by
      rw [List.nodup_iff_pairwise_ne, List.pairwise_reverse]
      exact (List.nodup_iff_pairwise_ne.mp (hn.sublist (List.take_sublist d ns))).imp fun h e => h e.symm
    simp only [Ix.nm, Pl.ix]
    rw [posOf_at hnd e]
  | .s x, d, hx, _, _ => by
    simp only [Ix.nm, Pl.ix]
    rw [posOf_none]
    intro h
    exact hx x (List.mem_singleton_self x) (List.mem_of_mem_take (List.mem_reverse.mp h))
  | .a f x, d, hx, hc, hl => by
    have := f.size_pos
    have := x.size_pos
    simp only [Ix.cl, Bool.and_eq_true] at hc
    simp only [Ix.size] at hl
    simp only [Ix.nm, Pl.ix]
    rw [ix_nm hn f d (fun y hy => hx y (List.mem_append.mpr (.inl hy))) hc.1 (by omega), ix_nm hn x d (fun y hy => hx y (List.mem_append.mpr (.inr hy))) hc.2 (by omega)]
  | .l b, d, hx, hc, hl => by
    have := b.size_pos
    simp only [Ix.size] at hl
    simp only [Ix.nm, Pl.ix]
    rw [← take_succ_rev (by omega), ix_nm hn b (d + 1) hx hc (by omega)]
theorem nm_size {ns : List Str} : ∀ (t : Ix) (d : Nat), (t.nm ns d).size = t.size
  | .n i, d => rfl
  | .s x, d => rfl
  | .a f x, d => by simp only [Ix.nm, Pl.size, Ix.size]; rw [nm_size f, nm_size x]
  | .l b, d => by simp only [Ix.nm, Pl.size, Ix.size]; rw [nm_size b]
theorem nm_dep {ns : List Str} : ∀ (t : Ix) (d : Nat), (t.nm ns d).dep = t.dep
  | .n i, d => rfl
  | .s x, d => rfl
  | .a f x, d => by simp only [Ix.nm, Pl.dep, Ix.dep]; rw [nm_dep f, nm_dep x]
  | .l b, d => by simp only [Ix.nm, Pl.dep, Ix.dep]; rw [nm_dep b]
theorem nm_ok {ns : List Str} (h : ∀ x ∈ ns, nameOk x = true) : ∀ (t : Ix) (d : Nat), t.ok = true → t.cl d = true → d + t.size ≤ ns.length + 1 → (t.nm ns d).ok = true
  | .n i, d, _, hc, hl => by
    simp only [Ix.cl, decide_eq_true_eq] at hc
    simp only [Ix.size] at hl
    have hi : d - 1 - i < ns.length := by omega
    simp only [Ix.nm, Pl.ok]
    rw [List.getD_eq_getElem?_getD, List.getElem?_eq_getElem hi]
    exact h _ (List.getElem_mem hi)
  | .s x, d, ho, _, _ => ho
  | .a f x, d, ho, hc, hl => by
    have := f.size_pos
    have := x.size_pos
    simp only [Ix.cl, Ix.ok, Bool.and_eq_true] at hc ho
    simp only [Ix.size] at hl
    simp only [Ix.nm, Pl.ok]
    rw [nm_ok h f d ho.1 hc.1 (by omega), nm_ok h x d ho.2 hc.2 (by omega)]
    rfl
  | .l b, d, ho, hc, hl => by
    have := b.size_pos
    simp only [Ix.size] at hl
    have hi : d < ns.length := by omega
    simp only [Ix.nm, Pl.ok]
    rw [nm_ok h b (d + 1) ho hc (by omega), List.getD_eq_getElem?_getD, List.getElem?_eq_getElem hi]
    show (nameOk ns[d] && true) = true
    rw [h _ (List.getElem_mem hi)]
    rfl
theorem dep_le : ∀ t : Ix, t.dep ≤ t.size
  | .n _ => Nat.le_refl _
  | .s _ => Nat.le_refl _
  | .a f x => by
    have := dep_le f
    have := dep_le x
    simp only [Ix.dep, Ix.size]
    omega
  | .l b => by
    have := dep_le b
    simp only [Ix.dep, Ix.size]
    omega
section
variable {t : Ix}
theorem pl_len (t : Ix) : t.size ≤ (frs t.names (t.size + t.names.length)).length := by
  have := frs_len t.names (t.size + t.names.length)
  omega
theorem pl_ix (hc : t.cl 0 = true) : t.pl.ix [] = t := by
  have := pl_len t
  exact ix_nm (frs_nodup _ _) t 0 (fun x hx h => (frs_mem h).1 hx) hc (by omega)
theorem pl_size : t.pl.size = t.size := nm_size t 0
theorem pl_dep : t.pl.dep = t.dep := nm_dep t 0
theorem pl_ok (ho : t.ok = true) (hc : t.cl 0 = true) (hs : t.size + t.names.length ≤ 18000) : t.pl.ok = true := by
  have := pl_len t
  refine nm_ok (fun x hx => ?_) t 0 ho hc (by omega)
  obtain ⟨_, i, hi, rfl⟩ := frs_mem hx
  exact nameOk_at (by omega)
theorem ok_names : ∀ t : Ix, t.names = [] → t.ok = true
  | .n _, _ => rfl
  | .s x, h => by cases h
  | .a f x, h => by
    have hf := ok_names f (List.append_eq_nil_iff.mp h).1
    have hx := ok_names x (List.append_eq_nil_iff.mp h).2
    simp only [Ix.ok]
    rw [hf, hx]
    rfl
  | .l b, h => ok_names b h
end
end PM
namespace PM
namespace N75
open PySem PySem.Spec L2 PB
abbrev E (s b : Nat) : Int := (EH true (fun _ => true) s b).1
abbrev H (s b : Nat) : Int := (EH true (fun _ => true) s b).2
def CF (tot : Nat) (F : List (List Key × W)) (s b : Nat) : Prop := ∀ s' b', 1 ≤ s' → (s' < s ∧ s' + b' ≤ tot ∨ s' = s ∧ b' < b) → getW F (pk [((s' : Nat) : Int), (b' : Nat)]) = some (.tup [.int (E s' b'), .int (H s' b')])
theorem cm_eh {o p n : Nat} (ho : o + n ≤ 60) (hp : p + n ≤ 60) (h : o ≤ 9 ∨ p ≤ 9) : cMul (H o n) (E p n) = true := by
  obtain ⟨a1, a2, a3⟩ := eh_bound (en := true) (ok := fun _ => true) o o n (Nat.le_refl _) (by omega)
  obtain ⟨b1, b2, b3⟩ := eh_bound (en := true) (ok := fun _ => true) p p n (Nat.le_refl _) (by omega)
  have hz : ∀ i : Nat, i ≤ 9 → (64 : Int) ^ i < 2 ^ 64 := by decide
  show cMul (EH true (fun _ => true) o n).2 (EH true (fun _ => true) p n).1 = true
  rcases h with h | h
  · have := hz o h
    exact cmul_l (by omega) (by omega)
  · have := hz p h
    exact cmul_r (by omega) (by omega)
section
variable {k : Nat} {S : Store} {most bound : Nat} {F : List (List Key × W)}
theorem ch3 {s b tot : Nat} (hF : CF tot F s b) (hb : s + b ≤ tot) (ht : tot ≤ 40) (hs : s ≤ 18) : ∀ (c o : Nat) (acc wh : Int) (a8 a9 : Option W), o + c + 1 = s → 1 ≤ o → (∀ K, keepO K a8 = a8) → (∀ K, keepO K a9 = a9) →
    ∃ b8 b9, (∀ K, keepO K b8 = b8) ∧ (∀ K, keepO K b9 = b9) ∧ forW true (S.length + 1) (bName 8) (b_law_choices_3 (M k)) [] (rngL (o : Nat) ((s : Nat) - 1)) [some (.int (most : Nat)), some (.int (bound : Nat)), some (.bl true), some (.loc S.length), some (.int (s : Nat)), some (.int (b : Nat)), some (.int acc), some (.int wh), a8, a9] (S ++ [.dT F]) =
      .next [some (.int (most : Nat)), some (.int (bound : Nat)), some (.bl true), some (.loc S.length), some (.int (s : Nat)), some (.int (b : Nat)), some (.int (acc + sm (fun o => H o b * E (s - 1 - o) b) o c)), some (.int wh), b8, b9] (S ++ [.dT F])
  | 0, o, acc, wh, a8, a9, e, ho, h8, h9 => by
    refine ⟨a8, a9, h8, h9, ?_⟩
    rw [rng_nil (by omega)]
    simp_arith [sm, Int.add_zero]
  | c + 1, o, acc, wh, a8, a9, e, ho, h8, h9 => by
    obtain ⟨b8, b9, q8, q9, ih⟩ := ch3 hF hb ht hs c (o + 1) (acc + H o b * E (s - 1 - o) b) wh (some (.int (o : Nat))) (some (.int (H o b))) (by omega) (by omega) (fun _ => rfl) (fun _ => rfl)
    refine ⟨b8, b9, q8, q9, ?_⟩
    rw [rng_cons (by omega)]
    have e1 : ((o : Nat) : Int) + 1 = ((o + 1 : Nat) : Int) := by omega
    have e2 : ((s : Nat) : Int) - 1 - (o : Nat) = ((s - 1 - o : Nat) : Int) := by omega
    rw [e1]
    have g1 := hF o b ho (.inl ⟨by omega, by omega⟩)
    have g2 := hF (s - 1 - o) b (by omega) (.inl ⟨by omega, by omega⟩)
    simp_arith [x_law_choices_3,  g1, g2, int_bl, e2, ev_mul (cm_eh (o := o) (p := s - 1 - o) (n := b) (by omega) (by omega) (by omega)), ih]
    show _ = SR.next [_, _, _, _, _, _, some (W.int (acc + (H o b * E (s - 1 - o) b + sm (fun o => H o b * E (s - 1 - o) b) (o + 1) c))), _, _, _] _
    rw [Int.add_assoc]
theorem ch3w {s b tot : Nat} (hF : CF tot F s b) (hb : s + b ≤ tot) (ht : tot ≤ 40) (hs : s ≤ 18) (hs1 : 1 ≤ s) (acc wh : Int) (a8 a9 : Option W) (h8 : ∀ K, keepO K a8 = a8) (h9 : ∀ K, keepO K a9 = a9) :
    ∃ b8 b9, (∀ K, keepO K b8 = b8) ∧ (∀ K, keepO K b9 = b9) ∧ forW true (S.length + 1) (bName 8) (b_law_choices_3 (M k)) [] (rngL 1 ((s : Nat) - 1)) [some (.int (most : Nat)), some (.int (bound : Nat)), some (.bl true), some (.loc S.length), some (.int (s : Nat)), some (.int (b : Nat)), some (.int acc), some (.int wh), a8, a9] (S ++ [.dT F]) =
      .next [some (.int (most : Nat)), some (.int (bound : Nat)), some (.bl true), some (.loc S.length), some (.int (s : Nat)), some (.int (b : Nat)), some (.int (acc + sm (fun o => H o b * E (s - 1 - o) b) 1 (s - 2))), some (.int wh), b8, b9] (S ++ [.dT F]) := by
  by_cases h2 : s = 1
  · subst h2
    refine ⟨a8, a9, h8, h9, ?_⟩
    rw [rng_nil (by omega)]
    simp_arith [sm, Int.add_zero]
  · exact ch3 hF hb ht hs (s - 2) 1 acc wh a8 a9 (by omega) (Nat.le_refl _) h8 h9
theorem ch2 {s tot : Nat} (hs : 1 ≤ s) (hs2 : s ≤ 18) (ht : tot ≤ 40) (hst : s ≤ tot) : ∀ (c b : Nat) (F : List (List Key × W)) (a5 a6 a7 a8 a9 : Option W), s + b + c = tot + 1 → CF tot F s b → F.length + c ≤ 1000000 → (∀ K, keepO K a5 = a5) → (∀ K, keepO K a6 = a6) → (∀ K, keepO K a7 = a7) → (∀ K, keepO K a8 = a8) → (∀ K, keepO K a9 = a9) →
    ∃ F' b5 b6 b7 b8 b9, CF tot F' s (tot - s + 1) ∧ F'.length ≤ F.length + c ∧ (∀ K, keepO K b5 = b5) ∧ (∀ K, keepO K b6 = b6) ∧ (∀ K, keepO K b7 = b7) ∧ (∀ K, keepO K b8 = b8) ∧ (∀ K, keepO K b9 = b9) ∧ forW true (S.length + 1) (bName 5) (b_law_choices_2 (M k)) [] (rngL (b : Nat) ((tot - s + 1 : Nat) : Int)) [some (.int (most : Nat)), some (.int (bound : Nat)), some (.bl true), some (.loc S.length), some (.int (s : Nat)), a5, a6, a7, a8, a9] (S ++ [.dT F]) =
      .next [some (.int (most : Nat)), some (.int (bound : Nat)), some (.bl true), some (.loc S.length), some (.int (s : Nat)), b5, b6, b7, b8, b9] (S ++ [.dT F'])
  | 0, b, F, a5, a6, a7, a8, a9, e, hF, hFl, h5, h6, h7, h8, h9 => by
    refine ⟨F, a5, a6, a7, a8, a9, ?_, Nat.le_refl _, h5, h6, h7, h8, h9, ?_⟩
    · have e : tot - s + 1 = b := by omega
      rw [e]
      exact hF
    · rw [rng_nil (by omega)]
      simp_arith
  | c + 1, b, F, a5, a6, a7, a8, a9, e, hF, hFl, h5, h6, h7, h8, h9 => by
    have hH := eh_h (en := true) (ok := fun _ => true) s b hs
    have hE := eh_e (en := true) (ok := fun _ => true) s b hs
    have hsm : sm (fun o => (if true = true then (EH true (fun _ => true) o b).2 else (EH true (fun _ => true) o b).1) * (EH true (fun _ => true) (s - 1 - o) b).1) 1 (s - 2) = sm (fun o => H o b * E (s - 1 - o) b) 1 (s - 2) := rfl
    rw [hsm] at hH
    obtain ⟨a8', a9', q8, q9, e3⟩ := ch3w (k := k) (S := S) (most := most) (bound := bound) hF (by omega) ht hs2 hs (if s = 1 then (b : Int) else 0) (if s = 1 then (b : Int) else 0) a8 a9 h8 h9
    have hlp := len_put (kvs := F) (k := pk [((s : Nat) : Int), (b : Nat)]) (w := .tup [.int (E s b), .int (H s b)])
    obtain ⟨F', b5, b6, b7, b8, b9, p1, p2, p5, p6, p7, p8, p9, ih⟩ := ch2 hs hs2 ht hst c (b + 1) (putW F (pk [((s : Nat) : Int), (b : Nat)]) (.tup [.int (E s b), .int (H s b)])) (some (.int (b : Nat))) (some (.int (H s b))) (some (.int (E s b))) a8' a9' (by omega) (fun s' b' h1 h2 => by
      rw [get_put]
      by_cases z : pk [((s' : Nat) : Int), (b' : Nat)] = pk [((s : Nat) : Int), (b : Nat)]
      · rw [if_pos z]
        have z2 := pk_inj z
        simp only [List.cons.injEq, and_true] at z2
        have z3 : s' = s := by omega
        have z4 : b' = b := by omega
        subst z3 z4
        rfl
      · rw [if_neg z]
        refine hF s' b' h1 ?_
        rcases h2 with h2 | h2
        · exact .inl h2
        · refine .inr ⟨h2.1, ?_⟩
          have : b' ≠ b := fun y => z (by rw [h2.1, y])
          omega) (by omega) (fun _ => rfl) (fun _ => rfl) (fun _ => rfl) q8 q9
    refine ⟨F', b5, b6, b7, b8, b9, p1, by omega, p5, p6, p7, p8, p9, ?_⟩
    have hln : LN = 16777216 := rfl
    have e1 : ((b : Nat) : Int) + 1 = ((b + 1 : Nat) : Int) := by omega
    have i1 : inR (((s : Nat) : Int) - 1) = true := by
      unfold inR
      simp only [Bool.and_eq_true, decide_eq_true_eq]
      omega
    have l1 : F.length < LN := by omega
    rw [rng_cons (by omega), e1]
    rw [← hH] at e3
    by_cases z1 : s = 1
    · have z2 : ¬ (1 : Int) < (s : Nat) := by omega
      have z3 : ((s : Nat) : Int) = 1 := by omega
      have z4 : ¬ 1 < s := by omega
      have z5 : E s b = b := by
        show (EH true (fun _ => true) s b).1 = b
        rw [hE, hH, if_pos z1, if_neg (fun z => z4 z.1), z1]
        show (b : Int) + 0 + 0 = b
        omega
      rw [if_pos z1] at e3
      rw [z5] at ih
      simp_arith [z3] at e3
      rw [z3] at ih
      simp_arith [x_law_choices_2, z3, e3, q8, q9, l1, ih]
    · have z2 : (1 : Int) < (s : Nat) := by omega
      have z3 : ¬ ((s : Nat) : Int) = 1 := by omega
      have z4 : 1 < s := by omega
      have e4 : ((s : Nat) : Int) - 1 = ((s - 1 : Nat) : Int) := by omega
      have z5 : E s b = H s b + E (s - 1) (b + 1) := by
        show (EH true (fun _ => true) s b).1 = _
        rw [hE, if_pos ⟨z4, rfl⟩]
      have hy := hF (s - 1) (b + 1) (by omega) (.inl ⟨by omega, by omega⟩)
      rw [if_neg z1] at e3
      rw [e4] at e3 i1
      rw [z5] at ih
      simp_arith [x_law_choices_2, z2, z3, e1, e4, i1, e3, q8, q9,  hy, l1, ih]
theorem ch1 {tot : Nat} (ht : tot ≤ 40) (htt : tot = most + bound) (hm : most ≤ 18) : ∀ (c s : Nat) (F : List (List Key × W)) (a4 a5 a6 a7 a8 a9 : Option W), s + c = most + 1 → 1 ≤ s → CF tot F s 0 → F.length + c * 1000 ≤ 910000 → (∀ K, keepO K a5 = a5) → (∀ K, keepO K a6 = a6) → (∀ K, keepO K a7 = a7) → (∀ K, keepO K a8 = a8) → (∀ K, keepO K a9 = a9) →
    ∃ F' b4 b5 b6 b7 b8 b9, CF tot F' (most + 1) 0 ∧ forW true (S.length + 1) (bName 4) (b_law_choices_1 (M k)) [] (rngL (s : Nat) ((most : Nat) + 1)) [some (.int (most : Nat)), some (.int (bound : Nat)), some (.bl true), some (.loc S.length), a4, a5, a6, a7, a8, a9] (S ++ [.dT F]) =
      .next [some (.int (most : Nat)), some (.int (bound : Nat)), some (.bl true), some (.loc S.length), b4, b5, b6, b7, b8, b9] (S ++ [.dT F'])
  | 0, s, F, a4, a5, a6, a7, a8, a9, e, hs, hF, hl, h5, h6, h7, h8, h9 => by
    refine ⟨F, a4, a5, a6, a7, a8, a9, ?_, ?_⟩
    · have e : most + 1 = s := by omega
      rw [e]
      exact hF
    · rw [rng_nil (by omega)]
      simp_arith
  | c + 1, s, F, a4, a5, a6, a7, a8, a9, e, hs, hF, hl, h5, h6, h7, h8, h9 => by
    obtain ⟨F1, b5, b6, b7, b8, b9, p1, p2, p5, p6, p7, p8, p9, e2⟩ := ch2 (k := k) (S := S) (most := most) (bound := bound) hs (by omega) ht (by omega) (tot - s + 1) 0 F a5 a6 a7 a8 a9 (by omega) hF (by omega) h5 h6 h7 h8 h9
    obtain ⟨F', c4, c5, c6, c7, c8, c9, q1, ih⟩ := ch1 ht htt hm c (s + 1) F1 (some (.int (s : Nat))) b5 b6 b7 b8 b9 (by omega) (by omega) (fun s' b' h1 h2 => by
      rcases h2 with h2 | h2
      · by_cases z : s' < s
        · exact p1 s' b' h1 (.inl ⟨z, h2.2⟩)
        · exact p1 s' b' h1 (.inr ⟨by omega, by omega⟩)
      · exact absurd h2.2 (Nat.not_lt_zero _)) (by omega) p5 p6 p7 p8 p9
    refine ⟨F', c4, c5, c6, c7, c8, c9, q1, ?_⟩
    have e1 : ((s : Nat) : Int) + 1 = ((s + 1 : Nat) : Int) := by omega
    have e3 : ((bound : Nat) : Int) + (most : Nat) - (s : Nat) + 1 = ((tot - s + 1 : Nat) : Int) := by omega
    rw [rng_cons (by omega), e1]
    simp_arith at e2
    simp_arith [x_law_choices_1, e3, inR_nat (n := tot - s + 1) (by omega), e2, p5, p6, p7, p8, p9, ih]
theorem choices_ok (hm : most ≤ 18) (hb : bound ≤ 10) : ∃ F, CF (most + bound) F (most + 1) 0 ∧ M (k + 1) 13 [.int (most : Nat), .int (bound : Nat), .bl true] S = .ok (.loc S.length) (S ++ [.dT F]) := by
  obtain ⟨F, b4, b5, b6, b7, b8, b9, q, e⟩ := ch1 (k := k) (S := S) (tot := most + bound) (by omega) rfl hm most 1 [] none none none none none none (by omega) (Nat.le_refl _) (fun s' b' h1 h2 => by omega) (by show 0 + most * 1000 ≤ 910000; omega) (fun _ => rfl) (fun _ => rfl) (fun _ => rfl) (fun _ => rfl) (fun _ => rfl)
  refine ⟨F, q, ?_⟩
  have e3 : ((most : Nat) : Int) + 1 = ((most + 1 : Nat) : Int) := by omega
  rw [u_law_choices good]
  unfold b_law_choices
  simp_arith [e3] at e
  simp_arith [e3, inR_nat (n := most + 1) (by omega), e]
end
/-! ### the law's own look at ends -/
theorem lend_ok : ∀ (t : Ix) (k : Nat) (S : Store), t.names = [] → t.dep ≤ k → M (k + 1) 11 [t.w] S = .ok (.bl t.ne) S
  | .n i, k, S, _, _ => by
    rw [u_law_is_end good]
    unfold b_law_is_end
    simp_arith [Ix.w, Ix.ne]
  | .s x, k, S, h, _ => by cases h
  | .l b, k, S, h, hd => by
    simp only [Ix.names, Ix.dep] at h hd
    obtain ⟨k, rfl⟩ : ∃ j, k = j + 1 := ⟨k - 1, by have := b.dep_pos; omega⟩
    have ih := lend_ok b k S h (by omega)
    rw [u_law_is_end good]
    unfold b_law_is_end
    simp_arith [Ix.w, Ix.ne, ih]
  | .a f x, k, S, h, hd => by
    simp only [Ix.names, Ix.dep] at h hd
    have hf : f.names = [] := (List.append_eq_nil_iff.mp h).1
    have hx : x.names = [] := (List.append_eq_nil_iff.mp h).2
    obtain ⟨k, rfl⟩ : ∃ j, k = j + 1 := ⟨k - 1, by have := f.dep_pos; omega⟩
    have i1 := fun S => lend_ok f k S hf (by omega)
    have i2 := fun S => lend_ok x k S hx (by omega)
    rw [u_law_is_end good, ne_a]
    unfold b_law_is_end Ix.hd
    cases f with
    | n i =>
      simp_arith [Ix.w] at i1
      simp_arith [Ix.w, Ix.isL, i1, i2]
      cases (Ix.n i).ne <;> simp_arith [i2]
    | s y => cases hf
    | l b => simp_arith [Ix.w, Ix.isL]
    | a g y =>
      have i1 := i1 S
      simp_arith [Ix.w] at i1
      simp_arith [Ix.w, Ix.isL, i1]
      cases (Ix.a g y).ne <;> simp_arith [i2]
/-! ### many_ends, many_terms at small numbers -/
abbrev nT (s b : Nat) : Int := (EH false (fun _ => true) s b).1
theorem pow9 : ∀ i : Nat, i ≤ 9 → (64 : Int) ^ i < 2 ^ 64 := by decide
theorem cm_gen {en : Bool} {ok : Nat → Bool} {o p n : Nat} (ho : o + n ≤ 60) (hp : p + n ≤ 60) (h : o ≤ 9 ∨ p ≤ 9) : cMul (EH en ok o n).2 (EH en ok p n).1 = true ∧ cMul (EH en ok o n).1 (EH en ok p n).1 = true := by
  obtain ⟨a1, a2, a3⟩ := eh_bound (en := en) (ok := ok) o o n (Nat.le_refl _) (by omega)
  obtain ⟨b1, b2, b3⟩ := eh_bound (en := en) (ok := ok) p p n (Nat.le_refl _) (by omega)
  rcases h with h | h
  · have := pow9 o h
    exact ⟨cmul_l (by omega) (by omega), cmul_l (by omega) (by omega)⟩
  · have := pow9 p h
    exact ⟨cmul_r (by omega) (by omega), cmul_r (by omega) (by omega)⟩
theorem me_ok {k p b : Nat} {S : Store} (h1 : 1 ≤ p) (h2 : p ≤ 18) (hb : b ≤ 6) : M (k + 4) 2 [.int (p : Nat), .int (b : Nat)] S = .ok (.int (E p b)) S := by
  have hs : ESeq (p + b + 2) p (fun s b' => (EH true (fun x => decide (x + 1 < p + b + 2)) s b').1) (fun s b' => (EH true (fun x => decide (x + 1 < p + b + 2)) s b').2) := by
    refine ⟨fun _ => rfl, fun _ => rfl, fun s b' hs hb' => eh_h s b' hs, fun s b' hs hb' => ?_, fun s b' o hs hb' ho ho2 => (cm_gen (by omega) (by omega) (by omega)).1⟩
    rw [eh_e s b' hs]
    simp only [decide_eq_true_eq]
  rw [many_ends_ok good hs (by omega) h1 hb rfl]
  show Res.ok (W.int (EH true (fun x => decide (x + 1 < p + b + 2)) p b).1) S = _
  rw [eh_cut (wide := p + b + 2) p p b (Nat.le_refl _) (by omega)]
theorem mt_ok {k p b : Nat} {S : Store} (h1 : 1 ≤ p) (h2 : p ≤ 18) (hb : b ≤ 6) : M (k + 4) 12 [.int (p : Nat), .int (b : Nat)] S = .ok (.int (nT p b)) S := by
  have hs : MSeq (p + b + 2) p (fun s b' => (EH false (fun x => decide (x + 1 < p + b + 2)) s b').1) := by
    refine ⟨fun _ => rfl, fun s b' hs hb' => ?_, fun s b' o hs hb' ho ho2 => (cm_gen (by omega) (by omega) (by omega)).2⟩
    rw [eh_e s b' hs, eh_h s b' hs]
    simp only [decide_eq_true_eq]
    have e : sm (fun o => (if false = true then (EH false (fun x => decide (x + 1 < p + b + 2)) o b').2 else (EH false (fun x => decide (x + 1 < p + b + 2)) o b').1) * (EH false (fun x => decide (x + 1 < p + b + 2)) (s - 1 - o) b').1) 1 (s - 2) = sm (fun o => (EH false (fun x => decide (x + 1 < p + b + 2)) o b').1 * (EH false (fun x => decide (x + 1 < p + b + 2)) (s - 1 - o) b').1) 1 (s - 2) := rfl
    rw [e]
    omega
  rw [many_terms_ok good hs (by omega) h1 hb rfl]
  show Res.ok (W.int (EH false (fun x => decide (x + 1 < p + b + 2)) p b).1) S = _
  rw [eh_cut (wide := p + b + 2) p p b (Nat.le_refl _) (by omega)]
/-! ### one turn of the law -/
theorem right_loop {k b top : Nat} {F : List (List Key × W)} {rest : Store} (hb : b ≤ 6) (ht : top = 6 ∨ top = 14) (hF : CF (top + b) F (top + 1) 0) : ∀ (c o : Nat) (h : Cell) (a4 a5 a6 : Option W), o + c = 6 → HC h → (∀ K, keepO K a4 = a4) → (∀ K, keepO K a5 = a5) → (∀ K, keepO K a6 = a6) →
    ∃ h' b4 b5 b6, HC h' ∧ (∀ K, keepO K b4 = b4) ∧ (∀ K, keepO K b5 = b5) ∧ (∀ K, keepO K b6 = b6) ∧ forW true (rest.length + 2) (bName 4) (b_law_is_right_1 (M (k + 4))) [] (rngL (o : Nat) 6) [some (.loc 0), some (.int (b : Nat)), some (.int (top : Nat)), some (.loc (rest.length + 1)), a4, a5, a6, none] (h :: (rest ++ [.dT F])) =
      .next [some (.loc 0), some (.int (b : Nat)), some (.int (top : Nat)), some (.loc (rest.length + 1)), b4, b5, b6, none] (h' :: (rest ++ [.dT F]))
  | 0, o, h, a4, a5, a6, e, hh, k4, k5, k6 => by
    refine ⟨h, a4, a5, a6, hh, k4, k5, k6, ?_⟩
    rw [rng_nil (by omega)]
    simp_arith
  | c + 1, o, h, a4, a5, a6, e, hh, k4, k5, k6 => by
    obtain ⟨x, h1, hh1, x0, x1, e1⟩ := draw_ok (k := k + 3) (rest := rest ++ [.dT F]) (many := (top : Nat)) hh (by omega) (by omega)
    obtain ⟨q, rfl⟩ : ∃ q : Nat, x = q := ⟨x.toNat, by omega⟩
    have e2 : (1 : Int) + ((q : Nat) : Int) = ((q + 1 : Nat) : Int) := by omega
    have hg := hF (q + 1) b (by omega) (.inl ⟨by omega, by omega⟩)
    obtain ⟨h', b4, b5, b6, hh', r4, r5, r6, ih⟩ := right_loop (k := k) (rest := rest) hb ht hF c (o + 1) h1 (some (.int (o : Nat))) (some (.int ((q + 1 : Nat) : Int))) (some (.int (E (q + 1) b))) (by omega) hh1 (fun _ => rfl) (fun _ => rfl) (fun _ => rfl)
    refine ⟨h', b4, b5, b6, hh', r4, r5, r6, ?_⟩
    have e3 : ((o : Nat) : Int) + 1 = ((o + 1 : Nat) : Int) := by omega
    have e4 : ((b : Nat) : Int) + 1 = ((b + 1 : Nat) : Int) := by omega
    have l1 : ¬ nT (q + 1) b < E (q + 1) b := by
      have := (eh_le (q + 1) (q + 1) b (Nat.le_refl _) (by omega)).2
      show ¬ (EH false (fun _ => true) (q + 1) b).1 < (EH true (fun _ => true) (q + 1) b).1
      omega
    rw [rng_cons (by omega), e3]
    by_cases z : b < 6
    · have z2 : ((b : Nat) : Int) < 6 := by omega
      have l2 : ¬ E (q + 1) (b + 1) < E (q + 1) b := by
        have := (eh_mono (en := true) (q + 1) (q + 1) b (Nat.le_refl _) (by omega)).2
        show ¬ (EH true (fun _ => true) (q + 1) (b + 1)).1 < (EH true (fun _ => true) (q + 1) b).1
        omega
      simp_arith [x_law_is_right_1, e1, e2, hg, me_ok (p := q + 1) (b := b) (by omega) (by omega) hb, mt_ok (p := q + 1) (b := b) (by omega) (by omega) hb, l1, z2, e4, me_ok (p := q + 1) (b := b + 1) (by omega) (by omega) (by omega), l2, ih]
    · have z2 : ¬ ((b : Nat) : Int) < 6 := by omega
      simp_arith [x_law_is_right_1, e1, e2, hg, me_ok (p := q + 1) (b := b) (by omega) (by omega) hb, mt_ok (p := q + 1) (b := b) (by omega) (by omega) hb, l1, z2, ih]
theorem cnt_filter {t : Ix → Bool} {l : List Ix} {f : Ix → W} : ((((l.filter t).map f).length : Nat) : Int) = cnt t l := by
  rw [List.length_map]
  rfl
theorem right_ok {k : Nat} {h : Cell} {rest : Store} (hh : HC h) : ∃ h', HC h' ∧ M (k + 8) 3 [.loc 0] (h :: rest) = .ok (.bl true) (h' :: rest) := by
  have hln : LN = 16777216 := rfl
  obtain ⟨x, h1, hh1, x0, x1, e1⟩ := draw_ok (k := k + 6) (rest := rest) (many := 7) hh (by omega) (by omega)
  obtain ⟨b, rfl⟩ : ∃ q : Nat, x = q := ⟨x.toNat, by omega⟩
  obtain ⟨i, w, h2, hw, hh2, e2⟩ := any_ok (k := k + 5) (m := rest.length) (c := h1) (rest := rest ++ [.lst [.int 6, .int 14]]) (ws := [.int 6, .int 14]) hh1 (by rw [st_get0]; rfl) (by decide) (by decide) (by decide)
  obtain ⟨top, ht, rfl⟩ : ∃ top : Nat, (top = 6 ∨ top = 14) ∧ w = .int (top : Nat) := by
    match i, hw with
    | 0, hw => exact ⟨6, .inl rfl, (Option.some.inj hw).symm⟩
    | 1, hw => exact ⟨14, .inr rfl, (Option.some.inj hw).symm⟩
  obtain ⟨F, hF, e3⟩ := choices_ok (k := k + 6) (S := h2 :: rest) (most := top) (bound := b) (by omega) (by omega)
  obtain ⟨h3, b4, b5, b6, hh3, k4, k5, k6, e4⟩ := right_loop (k := k + 3) (b := b) (top := top) (F := F) (rest := rest) (by omega) ht hF 6 0 h2 none none none (by omega) hh2 (fun _ => rfl) (fun _ => rfl) (fun _ => rfl)
  obtain ⟨x, h5, hh5, y0, y1, e5⟩ := draw_ok (k := k + 6) (rest := rest ++ [.dT F]) (many := 6) hh3 (by omega) (by omega)
  obtain ⟨q, rfl⟩ : ∃ q : Nat, x = q := ⟨x.toNat, by omega⟩
  have e6 : (1 : Int) + ((q : Nat) : Int) = ((q + 1 : Nat) : Int) := by omega
  refine ⟨h5, hh5, ?_⟩
  have mem0 : ∀ t ∈ LL (q + 1) 0, t.cl 0 = true ∧ t.size = q + 1 ∧ t.names = [] := LL_mem (q + 1) (q + 1) 0 (Nat.le_refl _)
  have lenS : ∀ s' b', s' + b' ≤ q + 1 → (LL s' b').length ≤ LN := fun s' b' hs => by
    have := LL_lenB (B := 6) (s := s') (b := b') (by omega)
    have h6 : 6 ^ s' ≤ 6 ^ 6 := Nat.pow_le_pow_right (by omega) (by omega)
    have h7 : 6 ^ 6 = 46656 := by decide
    omega
  have e7 := all_closed_ok good (k := k + 3) (S := h5 :: (rest ++ [.dT F])) (L := LL) (size := q + 1) LL_seq lenS (by omega) (by omega) (fun t ht => by
    obtain ⟨c1, c2, c3⟩ := mem0 t ht
    refine ⟨c1, by omega, ?_⟩
    rw [c3]
    decide)
  have fin : ((((LL (q + 1) 0).filter Ix.ne).map fun t => t.pl.w).length : Nat) = E (q + 1) 0 := by
    rw [cnt_filter]
    exact (LL_cnt (q + 1) (q + 1) 0 (Nat.le_refl _)).1
  simp_arith at e3
  simp_arith at e4
  simp_arith at e7
  have me0 := me_ok (k := k + 3) (p := q + 1) (b := 0) (S := h5 :: (rest ++ [.dT F])) (by omega) (by omega) (by omega)
  simp_arith at me0
  -- the last row
  have last : (b_law_is_right (M (k + 7))) = b_law_is_right (M (k + 7)) := rfl
  have tail : ∀ d, d = ([some (.loc 0), some (.int (b : Nat)), some (.int (top : Nat)), some (.loc (rest.length + 1)), b4, some (.int ((q + 1 : Nat) : Int)), b6, none] : Env1) →
      (sRet (eBin cmpEq (eFn 2 (M (k + 7) 2) (aCons (eVar 5) (aCons (eC (.int 0)) aNil))) (eCall (on1 lenW) (aCons (eLc (iAny (eFn 1 (M (k + 7) 8) (aCons (eVar 5) aNil))) (bName 7) (tst (eFn 1 (M (k + 7) 9) (aCons (eVar 7) aNil))) (eVar 7) [7]) aNil)))) d (h5 :: (rest ++ [.dT F])) = .ret (.bl true) (h5 :: (rest ++ [.dT F, .lst (((LL (q + 1) 0).filter Ix.ne).map fun t => t.pl.w)])) := by
    rintro d rfl
    simp_arith [me0, e7]
    rw [lc_filterA (S := h5 :: (rest ++ [.dT F])) (xs := LL (q + 1) 0) (e := fun t => t.pl.w) (p := Ix.ne) (h := fun t => t.pl.w) ?_ ?_ ?_ (lenS _ _ (Nat.le_refl _))]
    · have fin2 := fin
      rw [List.length_map] at fin2
      simp_arith [fin2]
    · simp_arith
    · simp_arith
    · intro t ht
      obtain ⟨c1, c2, c3⟩ := mem0 t ht
      refine ⟨Pl.imm _, fun acc => ⟨_, rfl, [], [], ?_, ?_⟩⟩
      · have hd := dep_le t
        have ei := is_end_ok good (k := k + 1) (p := t.pl) (S := h5 :: (rest ++ [.dT F]) ++ [.lst acc]) (pl_ok (ok_names t c3) c1 (by rw [c3]; show t.size + 0 ≤ 18000; omega)) (by rw [pl_size]; omega) (by rw [pl_dep]; omega) (by rw [pl_ix c1]; omega)
        rw [pl_ix c1] at ei
        simp_arith at ei
        simp_arith [ei]
      · simp_arith
  rw [u_law_is_right good]
  unfold b_law_is_right
  have finish : retR (rest.length + 1) (((sRet (eBin cmpEq (eFn 2 (M (k + 7) 2) (aCons (eVar 5) (aCons (eC (.int 0)) aNil))) (eCall (on1 lenW) (aCons (eLc (iAny (eFn 1 (M (k + 7) 8) (aCons (eVar 5) aNil))) (bName 7) (tst (eFn 1 (M (k + 7) 9) (aCons (eVar 7) aNil))) (eVar 7) [7]) aNil)))) [some (.loc 0), some (.int (b : Nat)), some (.int (top : Nat)), some (.loc (rest.length + 1)), b4, some (.int ((q + 1 : Nat) : Int)), b6, none] (h5 :: (rest ++ [.dT F])))) = .ok (.bl true) (h5 :: rest) := by
    rw [tail _ rfl]
    simp_arith
  simp_arith at finish
  by_cases z1 : ((q + 1 : Nat) : Int) < 6
  · obtain ⟨B, B1, B2, B3, B4⟩ : ∃ B, 1 ≤ B ∧ B ≤ 15 ∧ b + (q + 1) ≤ B ∧ B ^ (q + 1) ≤ LN := by
      refine ⟨11, by omega, by omega, by omega, ?_⟩
      have h6 : 11 ^ (q + 1) ≤ 11 ^ 5 := Nat.pow_le_pow_right (by omega) (by omega)
      have h7 : 11 ^ 5 = 161051 := by decide
      omega
    obtain ⟨K', e8⟩ := terms_new B1 B2 (p := q + 1) (n := b) (k := k + 7) (by omega) (by omega) B3 B4 (h5 :: (rest ++ [.dT F]))
    have memb : ∀ t ∈ LL (q + 1) b, t.cl b = true ∧ t.size = q + 1 ∧ t.names = [] := LL_mem (q + 1) (q + 1) b (Nat.le_refl _)
    have fin1 : ((((LL (q + 1) b).filter Ix.ne).length : Nat) : Int) = E (q + 1) b := (LL_cnt (q + 1) (q + 1) b (Nat.le_refl _)).1
    simp_arith at e8
    have lnb := Nat.le_trans (LL_lenB (s := q + 1) (b := b) B3) B4
    simp_arith [e1, e2, e3, e4, k4, k5, k6, e5, e6, z1, me_ok (k := k + 3) (p := q + 1) (b := b) (by omega) (by omega) (by omega), e8]
    rw [lc_filterA (S := h5 :: (rest ++ [.dT F])) (xs := LL (q + 1) b) (e := Ix.w) (p := Ix.ne) (h := Ix.w) ?_ ?_ ?_ lnb]
    · simp_arith [fin1]
      exact finish
    · simp_arith
    · simp_arith
    · intro t ht
      obtain ⟨c1, c2, c3⟩ := memb t ht
      have hd := dep_le t
      refine ⟨Ix.imm _, fun acc => ⟨_, rfl, [], [], ?_, ?_⟩⟩
      · simp_arith [lend_ok t (k + 6) _ c3 (by omega)]
      · simp_arith
  · by_cases z2 : ((b : Nat) : Int) < 3
    · obtain ⟨B, B1, B2, B3, B4⟩ : ∃ B, 1 ≤ B ∧ B ≤ 15 ∧ b + (q + 1) ≤ B ∧ B ^ (q + 1) ≤ LN := by
        refine ⟨8, by omega, by omega, by omega, ?_⟩
        have h6 : 8 ^ (q + 1) ≤ 8 ^ 6 := Nat.pow_le_pow_right (by omega) (by omega)
        have h7 : 8 ^ 6 = 262144 := by decide
        omega
      obtain ⟨K', e8⟩ := terms_new B1 B2 (p := q + 1) (n := b) (k := k + 7) (by omega) (by omega) B3 B4 (h5 :: (rest ++ [.dT F]))
      have memb : ∀ t ∈ LL (q + 1) b, t.cl b = true ∧ t.size = q + 1 ∧ t.names = [] := LL_mem (q + 1) (q + 1) b (Nat.le_refl _)
      have fin1 : ((((LL (q + 1) b).filter Ix.ne).length : Nat) : Int) = E (q + 1) b := (LL_cnt (q + 1) (q + 1) b (Nat.le_refl _)).1
      simp_arith at e8
      have lnb := Nat.le_trans (LL_lenB (s := q + 1) (b := b) B3) B4
      simp_arith [e1, e2, e3, e4, k4, k5, k6, e5, e6, z1, z2, me_ok (k := k + 3) (p := q + 1) (b := b) (by omega) (by omega) (by omega), e8]
      rw [lc_filterA (S := h5 :: (rest ++ [.dT F])) (xs := LL (q + 1) b) (e := Ix.w) (p := Ix.ne) (h := Ix.w) ?_ ?_ ?_ lnb]
      · simp_arith [fin1]
        exact finish
      · simp_arith
      · simp_arith
      · intro t ht
        obtain ⟨c1, c2, c3⟩ := memb t ht
        have hd := dep_le t
        refine ⟨Ix.imm _, fun acc => ⟨_, rfl, [], [], ?_, ?_⟩⟩
        · simp_arith [lend_ok t (k + 6) _ c3 (by omega)]
        · simp_arith
    · simp_arith [e1, e2, e3, e4, k4, k5, k6, e5, e6, z1, z2]
      exact finish
end N75
end PM
namespace K75
open PySem PySem.Spec L2 RZ PM
open PyProof.Rows (envOfC AllBare)
def topS (i : Nat) : Stmt := PySem.Challenge.pw_withterms_k75_whole_numbers_of_terms_wit.main.body.getD i (.Pass ⟨0, 0, 0, 0⟩)
theorem sc8 : FnScope ["thing"] ["thing"] (defScope (topS 8)) := ⟨rfl, rfl, rfl, by decide +kernel, rfl, by decide +kernel, by decide +kernel⟩
theorem sc9 : FnScope ["thing", "least", "most"] ["thing", "least", "most"] (defScope (topS 9)) := ⟨rfl, rfl, rfl, by decide +kernel, rfl, by decide +kernel, by decide +kernel⟩
theorem sc10 : FnScope ["thing", "sign"] ["thing"] (defScope (topS 10)) := ⟨rfl, rfl, rfl, by decide +kernel, rfl, by decide +kernel, by decide +kernel⟩
theorem sc11 : FnScope ["thing", "size"] ["thing", "size"] (defScope (topS 11)) := ⟨rfl, rfl, rfl, by decide +kernel, rfl, by decide +kernel, by decide +kernel⟩
theorem sc12 : FnScope ["thing", "word", "size"] ["thing", "word", "size"] (defScope (topS 12)) := ⟨rfl, rfl, rfl, by decide +kernel, rfl, by decide +kernel, by decide +kernel⟩
theorem sc13 : FnScope ["thing", "least", "most"] ["thing", "least", "most"] (defScope (topS 13)) := ⟨rfl, rfl, rfl, by decide +kernel, rfl, by decide +kernel, by decide +kernel⟩
theorem sc14 : FnScope ["number", "found", "left"] ["number"] (defScope (topS 14)) := ⟨rfl, rfl, rfl, by decide +kernel, rfl, by decide +kernel, by decide +kernel⟩
theorem sc20 : FnScope ["thing"] ["thing"] (defScope (topS 20)) := ⟨rfl, rfl, rfl, by decide +kernel, rfl, by decide +kernel, by decide +kernel⟩
theorem sc21 : FnScope ["thing", "waiting", "many", "part", "deep", "inner", "is_right", "one"] ["thing"] (defScope (topS 21)) := ⟨rfl, rfl, rfl, by decide +kernel, rfl, by decide +kernel, by decide +kernel⟩
theorem sc22 : FnScope ["thing"] ["thing"] (defScope (topS 22)) := ⟨rfl, rfl, rfl, by decide +kernel, rfl, by decide +kernel, by decide +kernel⟩
theorem sc23 : FnScope ["term", "found", "waiting", "done", "path", "part", "bound"] ["term"] (defScope (topS 23)) := ⟨rfl, rfl, rfl, by decide +kernel, rfl, by decide +kernel, by decide +kernel⟩
theorem sc24 : FnScope ["thing", "found", "waiting", "part"] ["thing"] (defScope (topS 24)) := ⟨rfl, rfl, rfl, by decide +kernel, rfl, by decide +kernel, by decide +kernel⟩
theorem sc25 : FnScope ["thing", "taken", "names", "number", "waiting", "done", "most", "path", "part", "deep", "found"] ["thing"] (defScope (topS 25)) := ⟨rfl, rfl, rfl, by decide +kernel, rfl, by decide +kernel, by decide +kernel⟩
theorem sc26 : FnScope ["thing", "found", "spot", "path", "part", "deep", "more", "place", "one"] ["thing"] (defScope (topS 26)) := ⟨rfl, rfl, rfl, by decide +kernel, rfl, by decide +kernel, by decide +kernel⟩
theorem sc31 : FnScope ["most", "bound", "found", "size", "row", "binding", "many", "one"] ["most", "bound"] (defScope (topS 31)) := ⟨rfl, rfl, rfl, by decide +kernel, rfl, by decide +kernel, by decide +kernel⟩
theorem sc32 : FnScope ["size", "bound"] ["size", "bound"] (defScope (topS 32)) := ⟨rfl, rfl, rfl, by decide +kernel, rfl, by decide +kernel, by decide +kernel⟩
theorem sc33 : FnScope ["most", "bound", "wide", "ends", "heads", "size", "end", "head", "binding", "plain", "one"] ["most", "bound"] (defScope (topS 33)) := ⟨rfl, rfl, rfl, by decide +kernel, rfl, by decide +kernel, by decide +kernel⟩
theorem sc34 : FnScope ["size", "bound"] ["size", "bound"] (defScope (topS 34)) := ⟨rfl, rfl, rfl, by decide +kernel, rfl, by decide +kernel, by decide +kernel⟩
theorem sc35 : FnScope ["size", "binding", "known", "here", "bound", "found", "one", "first", "last", "body"] ["size", "binding"] (defScope (topS 35)) := ⟨rfl, rfl, rfl, by decide +kernel, rfl, by decide +kernel, by decide +kernel⟩
theorem sc36 : FnScope ["size", "thing"] ["size"] (defScope (topS 36)) := ⟨rfl, rfl, rfl, by decide +kernel, rfl, by decide +kernel, by decide +kernel⟩
theorem sc38 : FnScope ["part"] ["part"] (defScope (topS 38)) := ⟨rfl, rfl, rfl, by decide +kernel, rfl, by decide +kernel, by decide +kernel⟩
theorem sc39 : FnScope ["thing", "path", "part", "deep"] ["thing"] (defScope (topS 39)) := ⟨rfl, rfl, rfl, by decide +kernel, rfl, by decide +kernel, by decide +kernel⟩
theorem sc40 : FnScope ["term"] ["term"] (defScope (topS 40)) := ⟨rfl, rfl, rfl, by decide +kernel, rfl, by decide +kernel, by decide +kernel⟩
theorem sc42 : FnScope ["script", "cells", "cell"] ["script"] (defScope (topS 42)) := ⟨rfl, rfl, rfl, by decide +kernel, rfl, by decide +kernel, by decide +kernel⟩
theorem sc43 : FnScope ["hand", "many", "cell", "digit", "number"] ["hand", "many"] (defScope (topS 43)) := ⟨rfl, rfl, rfl, by decide +kernel, rfl, by decide +kernel, by decide +kernel⟩
theorem sc44 : FnScope ["hand", "some"] ["hand", "some"] (defScope (topS 44)) := ⟨rfl, rfl, rfl, by decide +kernel, rfl, by decide +kernel, by decide +kernel⟩
theorem sc45 : FnScope ["most", "bound", "ending", "found", "parts", "names", "stays", "whole", "part", "one"] ["most", "bound", "ending"] (defScope (topS 45)) := ⟨rfl, rfl, rfl, by decide +kernel, rfl, by decide +kernel, by decide +kernel⟩
theorem sc46 : FnScope ["parts", "names", "known", "found", "some", "one", "other", "body"] ["parts", "names", "known"] (defScope (topS 46)) := ⟨rfl, rfl, rfl, by decide +kernel, rfl, by decide +kernel, by decide +kernel⟩
theorem sc47 : FnScope ["call", "e", "flags"] ["call"] (defScope (topS 47)) := ⟨rfl, rfl, rfl, by decide +kernel, rfl, by decide +kernel, by decide +kernel⟩
theorem sc48 : FnScope ["term"] ["term"] (defScope (topS 48)) := ⟨rfl, rfl, rfl, by decide +kernel, rfl, by decide +kernel, by decide +kernel⟩
theorem sc49 : FnScope ["hand", "bound", "top", "rows", "lap", "parts", "due", "term"] ["hand"] (defScope (topS 49)) := ⟨rfl, rfl, rfl, by decide +kernel, rfl, by decide +kernel, by decide +kernel⟩
theorem sc50 : FnScope ["script", "hand", "lap", "words", "parts"] ["script"] (defScope (topS 50)) := ⟨rfl, rfl, rfl, by decide +kernel, rfl, by decide +kernel, by decide +kernel⟩
/-! ### mirrors -/
structure Top (K : PySem.W.Frag) (mg : Str → Option Value) (fa : Nat → Addr) (fd : Nat → FuncData) : Prop where
  F8 : Fun K "is_integer" "is_integer" (topS 8) (fa 8) (fd 8)
  m8 : mg "is_integer" = some (.ref (fa 8))
  b8 : Binds K (fd 8) ["thing"] []
  F9 : Fun K "is_within" "is_within" (topS 9) (fa 9) (fd 9)
  m9 : mg "is_within" = some (.ref (fa 9))
  b9 : Binds K (fd 9) ["thing", "least", "most"] []
  F10 : Fun K "is_name" "is_name" (topS 10) (fa 10) (fd 10)
  m10 : mg "is_name" = some (.ref (fa 10))
  b10 : Binds K (fd 10) ["thing"] []
  F11 : Fun K "is_tuple" "is_tuple" (topS 11) (fa 11) (fd 11)
  m11 : mg "is_tuple" = some (.ref (fa 11))
  b11 : Binds K (fd 11) ["thing", "size"] []
  F12 : Fun K "is_headed" "is_headed" (topS 12) (fa 12) (fd 12)
  m12 : mg "is_headed" = some (.ref (fa 12))
  b12 : Binds K (fd 12) ["thing", "word", "size"] []
  F13 : Fun K "check_number" "check_number" (topS 13) (fa 13) (fd 13)
  m13 : mg "check_number" = some (.ref (fa 13))
  b13 : Binds K (fd 13) ["thing", "least", "most"] []
  F14 : Fun K "name_at" "name_at" (topS 14) (fa 14) (fd 14)
  m14 : mg "name_at" = some (.ref (fa 14))
  b14 : Binds K (fd 14) ["number"] []
  F20 : Fun K "forms_of" "forms_of" (topS 20) (fa 20) (fd 20)
  m20 : mg "forms_of" = some (.ref (fa 20))
  b20 : Binds K (fd 20) ["thing"] []
  F21 : Fun K "is_term" "is_term" (topS 21) (fa 21) (fd 21)
  m21 : mg "is_term" = some (.ref (fa 21))
  b21 : Binds K (fd 21) ["thing"] []
  F22 : Fun K "check_term" "check_term" (topS 22) (fa 22) (fd 22)
  m22 : mg "check_term" = some (.ref (fa 22))
  b22 : Binds K (fd 22) ["thing"] []
  F23 : Fun K "raw_indexed" "raw_indexed" (topS 23) (fa 23) (fd 23)
  m23 : mg "raw_indexed" = some (.ref (fa 23))
  b23 : Binds K (fd 23) ["term"] []
  F24 : Fun K "free_of_indexed" "free_of_indexed" (topS 24) (fa 24) (fd 24)
  m24 : mg "free_of_indexed" = some (.ref (fa 24))
  b24 : Binds K (fd 24) ["thing"] []
  F25 : Fun K "raw_named" "raw_named" (topS 25) (fa 25) (fd 25)
  m25 : mg "raw_named" = some (.ref (fa 25))
  b25 : Binds K (fd 25) ["thing"] []
  F26 : Fun K "parts_of" "parts_of" (topS 26) (fa 26) (fd 26)
  m26 : mg "parts_of" = some (.ref (fa 26))
  b26 : Binds K (fd 26) ["thing"] []
  F31 : Fun K "many_sized" "many_sized" (topS 31) (fa 31) (fd 31)
  m31 : mg "many_sized" = some (.ref (fa 31))
  b31 : Binds K (fd 31) ["most", "bound"] []
  F32 : Fun K "many_terms" "many_terms" (topS 32) (fa 32) (fd 32)
  m32 : mg "many_terms" = some (.ref (fa 32))
  b32 : Binds K (fd 32) ["size", "bound"] []
  F33 : Fun K "ends_sized" "ends_sized" (topS 33) (fa 33) (fd 33)
  m33 : mg "ends_sized" = some (.ref (fa 33))
  b33 : Binds K (fd 33) ["most", "bound"] []
  F34 : Fun K "many_ends" "many_ends" (topS 34) (fa 34) (fd 34)
  m34 : mg "many_ends" = some (.ref (fa 34))
  b34 : Binds K (fd 34) ["size", "bound"] []
  F35 : Fun K "raw_listed" "raw_listed" (topS 35) (fa 35) (fd 35)
  m35 : mg "raw_listed" = some (.ref (fa 35))
  b35 : Binds K (fd 35) ["size", "binding"] []
  F36 : Fun K "all_closed" "all_closed" (topS 36) (fa 36) (fd 36)
  m36 : mg "all_closed" = some (.ref (fa 36))
  b36 : Binds K (fd 36) ["size"] []
  F38 : Fun K "is_redex" "is_redex" (topS 38) (fa 38) (fd 38)
  m38 : mg "is_redex" = some (.ref (fa 38))
  b38 : Binds K (fd 38) ["part"] []
  F39 : Fun K "raw_steps" "raw_steps" (topS 39) (fa 39) (fd 39)
  m39 : mg "raw_steps" = some (.ref (fa 39))
  b39 : Binds K (fd 39) ["thing"] []
  F40 : Fun K "is_end" "is_end" (topS 40) (fa 40) (fd 40)
  m40 : mg "is_end" = some (.ref (fa 40))
  b40 : Binds K (fd 40) ["term"] []
  F42 : Fun K "_law_hand" "_law_hand" (topS 42) (fa 42) (fd 42)
  m42 : mg "_law_hand" = some (.ref (fa 42))
  b42 : Binds K (fd 42) ["script"] []
  F43 : Fun K "_law_draw" "_law_draw" (topS 43) (fa 43) (fd 43)
  m43 : mg "_law_draw" = some (.ref (fa 43))
  b43 : Binds K (fd 43) ["hand", "many"] []
  F44 : Fun K "_law_any" "_law_any" (topS 44) (fa 44) (fd 44)
  m44 : mg "_law_any" = some (.ref (fa 44))
  b44 : Binds K (fd 44) ["hand", "some"] []
  F45 : Fun K "_law_choices" "_law_choices" (topS 45) (fa 45) (fd 45)
  m45 : mg "_law_choices" = some (.ref (fa 45))
  b45 : Binds K (fd 45) ["most", "bound", "ending"] []
  F46 : Fun K "_law_terms" "_law_terms" (topS 46) (fa 46) (fd 46)
  m46 : mg "_law_terms" = some (.ref (fa 46))
  b46 : Binds K (fd 46) ["parts", "names", "known"] []
  F47 : Fun K "_law_said" "_law_said" (topS 47) (fa 47) (fd 47)
  m47 : mg "_law_said" = some (.ref (fa 47))
  b47 : Binds K (fd 47) ["call"] []
  F48 : Fun K "_law_is_end" "_law_is_end" (topS 48) (fa 48) (fd 48)
  m48 : mg "_law_is_end" = some (.ref (fa 48))
  b48 : Binds K (fd 48) ["term"] []
  F49 : Fun K "_law_is_right" "_law_is_right" (topS 49) (fa 49) (fd 49)
  m49 : mg "_law_is_right" = some (.ref (fa 49))
  b49 : Binds K (fd 49) ["hand"] []
  z_abs : mg "abs" = none
  z_all : mg "all" = none
  z_bool : mg "bool" = none
  z_enumerate : mg "enumerate" = none
  z_int : mg "int" = none
  z_isinstance : mg "isinstance" = none
  z_len : mg "len" = none
  z_list : mg "list" = none
  z_max : mg "max" = none
  z_range : mg "range" = none
  z_sorted : mg "sorted" = none
  z_str : mg "str" = none
  z_tuple : mg "tuple" = none
  g_LONGEST : ∃ t, mg "LONGEST" = some (.int 8 t)
  g_MOST_BOUND : ∃ t, mg "MOST_BOUND" = some (.int 6 t)
  g_MOST_DEEP : ∃ t, mg "MOST_DEEP" = some (.int 16 t)
  g_MOST_LISTED : ∃ t, mg "MOST_LISTED" = some (.int 9 t)
  g_MOST_SIZE_counting : ∃ t, mg "MOST_SIZE_counting" = some (.int 40 t)
  g_MOST_SIZE_terms : ∃ t, mg "MOST_SIZE_terms" = some (.int 120 t)
  g_OF : ∃ t, mg "OF" = some (.str "of" t)
  g_SMALL : ∃ t, mg "SMALL" = some (.str "abcdefghijklmnopqrstuvwxyz" t)
  g_WITH : ∃ t, mg "WITH" = some (.str "with" t)
  o_NoNumber : OexC K (fa 3)
  i_NoNumber : PySem.W.findIn K (.ref (fa 3)) "__init__" = some (some (.ref (fa 0)))
  m_NoNumber : mg "NoNumber" = some (.ref (fa 3))
  o_NoTerm : OexC K (fa 2)
  i_NoTerm : PySem.W.findIn K (.ref (fa 2)) "__init__" = some (some (.ref (fa 0)))
  m_NoTerm : mg "NoTerm" = some (.ref (fa 2))
  t_init : PySem.W.typeIn K (.ref (fa 0)) = some (.type "function")
  b_init : Binds K (fd 0) ["self"] []
structure All (P : Program) (w : World) (K : PySem.W.Frag) (mg : Str → Option Value) (base : Heap) (T : List (Addr × Str)) (fa : Nat → Addr) (fd : Nat → FuncData) (k : Nat) (c : Nat → MF) : Prop where
  f8 : FkW P w K mg base T (k + 2) (fa 8) (fd 8) ["thing"] (c 21)
  f9 : FkW P w K mg base T (k + 2) (fa 9) (fd 9) ["thing", "least", "most"] (c 14)
  f10 : FkW P w K mg base T (k + 2) (fa 10) (fd 10) ["thing"] (c 29)
  f11 : FkW P w K mg base T (k + 2) (fa 11) (fd 11) ["thing", "size"] (c 30)
  f12 : FkW P w K mg base T (k + 2) (fa 12) (fd 12) ["thing", "word", "size"] (c 28)
  f13 : FkW P w K mg base T (k + 2) (fa 13) (fd 13) ["thing", "least", "most"] (c 6)
  f14 : FkW P w K mg base T (k + 2) (fa 14) (fd 14) ["number"] (c 22)
  f20 : FkW P w K mg base T (k + 2) (fa 20) (fd 20) ["thing"] (c 27)
  f21 : FkW P w K mg base T (k + 2) (fa 21) (fd 21) ["thing"] (c 26)
  f22 : FkW P w K mg base T (k + 2) (fa 22) (fd 22) ["thing"] (c 19)
  f23 : FkW P w K mg base T (k + 2) (fa 23) (fd 23) ["term"] (c 17)
  f24 : FkW P w K mg base T (k + 2) (fa 24) (fd 24) ["thing"] (c 23)
  f25 : FkW P w K mg base T (k + 2) (fa 25) (fd 25) ["thing"] (c 16)
  f26 : FkW P w K mg base T (k + 2) (fa 26) (fd 26) ["thing"] (c 24)
  f31 : FkW P w K mg base T (k + 2) (fa 31) (fd 31) ["most", "bound"] (c 20)
  f32 : FkW P w K mg base T (k + 2) (fa 32) (fd 32) ["size", "bound"] (c 12)
  f33 : FkW P w K mg base T (k + 2) (fa 33) (fd 33) ["most", "bound"] (c 5)
  f34 : FkW P w K mg base T (k + 2) (fa 34) (fd 34) ["size", "bound"] (c 2)
  f35 : FkW P w K mg base T (k + 2) (fa 35) (fd 35) ["size", "binding"] (c 15)
  f36 : FkW P w K mg base T (k + 2) (fa 36) (fd 36) ["size"] (c 8)
  f38 : FkW P w K mg base T (k + 2) (fa 38) (fd 38) ["part"] (c 25)
  f39 : FkW P w K mg base T (k + 2) (fa 39) (fd 39) ["thing"] (c 18)
  f40 : FkW P w K mg base T (k + 2) (fa 40) (fd 40) ["term"] (c 9)
  f42 : FkW P w K mg base T (k + 2) (fa 42) (fd 42) ["script"] (c 4)
  f43 : FkW P w K mg base T (k + 2) (fa 43) (fd 43) ["hand", "many"] (c 7)
  f44 : FkW P w K mg base T (k + 2) (fa 44) (fd 44) ["hand", "some"] (c 1)
  f45 : FkW P w K mg base T (k + 2) (fa 45) (fd 45) ["most", "bound", "ending"] (c 13)
  f46 : FkW P w K mg base T (k + 2) (fa 46) (fd 46) ["parts", "names", "known"] (c 10)
  f48 : FkW P w K mg base T (k + 2) (fa 48) (fd 48) ["term"] (c 11)
  f49 : FkW P w K mg base T (k + 2) (fa 49) (fd 49) ["hand"] (c 3)
  init : FnOk P w K mg base (L2.CX P w) 1 (fa 0) (fd 0) ["self"] (spI K)
end K75
namespace K75
open PySem PySem.Spec L2 RZ PM
open PyProof.Rows (envOfC AllBare)
/-- what the heap says of the exception's classes -/
structure SaidF (K : PySem.W.Frag) (mg : Str → Option Value) (aT aM aN : Addr) : Prop where
  mT : mg "TermError" = some (.ref aT)
  mM : mg "TooMany" = some (.ref aM)
  mN : mg "NoNumber" = some (.ref aN)
  zI : mg "isinstance" = none
  zV : mg "ValueError" = none
  ec : ExcC K aN
  ex : PySem.W.exmOne K (.ref aN) (.ref aT) = some true
  k1 : PySem.W.kitOne K (.ref aN) (.type "ValueError") = some true
  k2 : PySem.W.kitOne K (.ref aN) (.ref aM) = some false
  k3 : PySem.W.kitOne K (.ref aN) (.ref aN) = some true
def onN : Str → Option Str := fun y => if y = "NoNumber" then some "number" else none
theorem onN_some {x w : Str} (h : onN x = some w) : x = "NoNumber" ∧ w = "number" := by
  unfold onN at h
  by_cases z : x = "NoNumber"
  · rw [if_pos z] at h; cases h; exact ⟨z, rfl⟩
  · rw [if_neg z] at h; cases h
theorem pss_inv {X : Cx} {ss : List Stmt} {t t' : TS} (h : PSs X ss t) (w : ∀ pins s σ H D, L2.Inv X pins σ H s → t' D σ H → t D σ H) : PSs X ss t' := ⟨fun pins s σ H D I q => h.run pins s σ H D I (w pins s σ H D I q)⟩
theorem isE_at {K : PySem.W.Frag} {D a : Addr} {c : V} {cv : Value} {b : Bool} {H : Hp} {Q : VK} (h : ∀ u, RelV c u → u = cv) (k : PySem.W.kitOne K (.ref D) cv = some b) (q : Q (.bl b) H) : rIsE K D a [.ref a, c] H Q := ⟨c, cv, b, rfl, h, k, q⟩
theorem said_gives {X : Cx} {T : List (Addr × Str)} {aT aM aN g : Addr} {cdg : Value} {q : Str} (F : SaidF X.K X.mg aT aM aN) : LamX.GivesTo X ["call", "e", "flags"] "_law_said" (defScope (topS 47)) g cdg (defBody (topS 47)) "call" q (TTs (ct X T) onN) := by
  intro f c' s H Q tl act hc h
  have nd : (["call", "e", "flags"] : List Str).Nodup := by decide
  let X0 : Cx := (cxOf C8.CX0 X.prog X.w X.K X.mg X.base ["call", "e", "flags"] "_law_said" (defScope (topS 47)) g cdg X.A X.stack s H C8.E0).nox
  -- isinstance(e, C) in the suite
  have hI : ∀ (a : Addr) (oe : Obj) (pn : List (Addr × Obj)), Zc (.ref aN) none oe → (∃ vs, oe.data = .fields vs) → CallR (X0.suite a ((a, oe) :: pn)) (.builtin "isinstance") (rIsE X.K aN a) := fun a oe pn hz hf => call_isE (X := X0) F.ec hz hf
  refine ⟨_, pss_cons (L2.ps_try_as (X := X0) (c := .ref aT) (i := 1) (Wout := fun _ _ _ _ => False)
      (tb := fun W D σ H => ∃ Ech : XK, (∀ cls d σ' H', Ech cls d H' → W cls d σ' H') ∧ σ[0]? = some (some (.ref f)) ∧ H c' = some (LamX.CodeO c' q) ∧ tl Ech H (fun _ H' => D.nx σ H'))
      (ts := fun a cls d D σ H => cls = .ref aN ∧ d = none ∧ (∃ σ0 : L2.St, σ = σ0.set 1 (some (.ref a))) ∧ ∀ p r ys zs, H p = none → upd H p (.lst ys) r = none → D.rt (.str "number") (upd (upd H p (.lst ys)) r (.lst zs)))
      rfl rfl nd rfl rfl ⟨rfl, by decide, .inl F.mT⟩ takes0 (fun W pn xe tk _ => ?_) (fun a oe cls d pn hz hf => ?_)) (pss_one (ps_ret pe_str)), ?_⟩
  · refine ⟨fun pins s' σ H' D I h' => ?_⟩
    obtain ⟨Ech, hW, h1, h2, h3⟩ := h'
    exact (pss_one (ps_expr (act W pn xe Ech _ _ tk hW) (by rfl))).run pins s' σ H' D I ⟨h1, h2, h3⟩
  · by_cases z : cls = .ref aN ∧ d = none
    · obtain ⟨rfl, rfl⟩ := z
      have hi := hI a oe pn hz hf
      have isi : ∀ {e : Expr} {p1 p2 p3 : Pos} {te : TE}, PE (X0.suite a ((a, oe) :: pn)) e te → (starEach [.Name "e" p2, e] (X0.suite a ((a, oe) :: pn)).env = (false, eval (.Name "e" p2) (X0.suite a ((a, oe) :: pn)).env) :: starEach [e] (X0.suite a ((a, oe) :: pn)).env) → starEach [e] (X0.suite a ((a, oe) :: pn)).env = (false, eval e (X0.suite a ((a, oe) :: pn)).env) :: starEach [] (X0.suite a ((a, oe) :: pn)).env → (backTo p3 (starEach [e] (X0.suite a ((a, oe) :: pn)).env)).any (·.1) = false →
          PE (X0.suite a ((a, oe) :: pn)) (.Call (.Name "isinstance" p1) [.Name "e" p2, e] [] p3) (tCB (rIsE X.K aN a) (tCons (tVar 1) (tCons te tNil))) := fun he s1 s2 s3 =>
        pe_callB hi (by rfl) F.zI (by rfl) (pa_cons (pe_var (i := 1) rfl (.inl rfl)) (pa_cons he pa_nil s2) s1) (by decide) (by decide) s1 s3
      refine pss_inv (pss_cons (ps_if (pt_not (pt_val (isi (pe_bltn (v := .ty "ValueError") (by rfl) F.zV (by rfl) rfl) rfl rfl rfl))) pss_never pss_nil)
        (pss_cons (ps_if (pt_val (isi (pe_glob (v := .ref aM) (by rfl) F.mM rfl) rfl rfl rfl)) pss_never pss_nil)
        (pss_cons (ps_set (i := 2) nd rfl (.inl rfl) (pe_lst (pa_cons (isi (pe_glob (v := .ref aN) (by rfl) F.mN rfl) rfl rfl rfl) pa_nil)) (by rfl))
        (pss_one (ps_ret (pe_ifExp (pt_cmpR op_eq (pe_bm PySem.F.plainAttrs_list PySem.F.slot_list_count PySem.F.type_list_count mt_cnt (pv 2) (pa_cons pe_bl pa_nil)) pe_int rfl)
          (pe_ix ix_list (pe_lst (pa_cons pe_str pa_nil)) (pe_bm PySem.F.plainAttrs_list PySem.F.slot_list_index PySem.F.type_list_index mt_index (pv 2) (pa_cons pe_bl pa_nil)) (fun _ _ => rfl)) pe_str)))))) fun pins s' σ H D I hh => ?_
      obtain ⟨_, _, ⟨σ0, e0⟩, h2⟩ := hh
      have hl : σ.length = 3 := I.len
      have h1 : σ[1]? = some (some (V.ref a)) := by
        rw [e0]
        rw [e0, List.length_set] at hl
        exact List.getElem?_set_self (by omega)
      refine ⟨.ref a, h1, .ty "ValueError", .type "ValueError", true, rfl, (fun u z => z), F.k1, true, rfl, ?_⟩
      refine ⟨.ref a, h1, .ref aM, .ref aM, false, rfl, (fun u z => z), F.k2, false, rfl, ?_⟩
      refine ⟨.ref a, h1, .ref aN, .ref aN, true, rfl, (fun u z => z), F.k3, by decide, fun p hp => ?_⟩
      have g2 : (σ.set 2 (some (V.ref p)))[2]? = some (some (V.ref p)) := List.getElem?_set_self (by omega)
      have at1 : upd H p (.lst [.bl true]) p = some (.lst [.bl true]) := upd_same
      have sq1 : SqL X.K (upd H p (.lst [.bl true])) p [.bl true] := .inl (.inl at1)
      refine ⟨.ref p, g2, .inl ⟨rfl, _, sq1⟩, p, [.bl true], .bl true, rfl, rfl, sq1, rfl, rfl, rfl, true, by rfl, ?_⟩
      refine ⟨by decide, fun r hr => ?_⟩
      have ne : p ≠ r := ne_of_none at1 hr
      have at2 : upd (upd H p (.lst [.bl true])) r (.lst [.str "number"]) p = some (.lst [.bl true]) := by rw [upd_ne ne]; exact at1
      have sq2 : SqL X.K (upd (upd H p (.lst [.bl true])) r (.lst [.str "number"])) p [.bl true] := .inl (.inl at2)
      have sq3 : SqL X.K (upd (upd H p (.lst [.bl true])) r (.lst [.str "number"])) r [.str "number"] := .inl (.inl upd_same)
      refine ⟨.ref p, g2, .inl ⟨rfl, _, sq2⟩, p, [.bl true], .bl true, 0, .bl true, rfl, rfl, sq2, rfl, rfl, rfl, by rfl, fun m z h => absurd h (Nat.not_lt_zero m), ?_⟩
      exact ⟨r, [.str "number"], 0, .str "number", rfl, rfl, sq3, rfl, h2 p r _ _ hp hr⟩
    · exact ⟨fun pins s' σ H' D I h' => absurd ⟨h'.1, h'.2.1⟩ z⟩
  · refine ⟨_, ?_, rfl, hc, h⟩
    rintro cls d σ' H' ⟨x, A, w, rfl, rfl, hm, ho, hq⟩
    obtain ⟨rfl, rfl⟩ := onN_some ho
    have eA : A = aN := by
      have z : X.mg "NoNumber" = some (.ref A) := hm
      rw [F.mN] at z
      cases z
      rfl
    subst eA
    exact ⟨true, F.ex, fun _ a ha => ⟨rfl, rfl, ⟨σ', rfl⟩, hq⟩, fun z => by cases z⟩
end K75
namespace K75
open PySem PySem.Spec L2 RZ PM
open PyProof.Rows (envOfC AllBare)
section
variable {P : Program} {w : World} {K : PySem.W.Frag} {mg : Str → Option Value} {base : Heap} {T : List (Addr × Str)} {fa : Nat → Addr} {fd : Nat → FuncData} {k : Nat} {c : Nat → MF}
theorem d34 (h : Top K mg fa fd) (C : All P w K mg base T fa fd k c) (cdv : Value) (A : Around) (outer : List Env) (s : Shared) (H : Hp) (E : XK) (hr : Room (k + 2) (A.deeper (envOfC "many_ends" (defScope (topS 34)) s.heap.objs.size (fa 34) cdv))) :
    JSs (cxOf (L2.CX P w) P w K mg base ["size", "bound"] "many_ends" (defScope (topS 34)) (fa 34) cdv A outer s H E) T E (defBody (topS 34)) (PB.b_many_ends c) := by
  obtain ⟨t_MOST_BOUND, g_MOST_BOUND⟩ := h.g_MOST_BOUND
  obtain ⟨t_MOST_SIZE_counting, g_MOST_SIZE_counting⟩ := h.g_MOST_SIZE_counting
  have hN : (["size", "bound"] : List Str).Nodup := sc34.nd
  have tk := takes_of (X := cxOf (L2.CX P w) P w K mg base ["size", "bound"] "many_ends" (defScope (topS 34)) (fa 34) cdv A outer s H E) (E := E) rfl rfl rfl rfl
  have hx : Passes (L2.CX P w) (cxOf (L2.CX P w) P w K mg base ["size", "bound"] "many_ends" (defScope (topS 34)) (fa 34) cdv A outer s H E) E := passes_call tk fun _ _ _ _ z => z
  have hp := passes_of (X := cxOf (L2.CX P w) P w K mg base ["size", "bound"] "many_ends" (defScope (topS 34)) (fa 34) cdv A outer s H E) rfl
  unfold PB.b_many_ends
  exact (jss_cons (js_expr (je_call C.f13 hr hx h.m13 h.F13.kp h.b13 (ja_cons (je_var 0) (ja_cons je_int (ja_cons (je_gint (by rfl) g_MOST_SIZE_counting ⟨_, rfl⟩) ja_nil))) (by rfl)))
    (jss_cons (js_expr (je_call C.f13 hr hx h.m13 h.F13.kp h.b13 (ja_cons (je_var 1) (ja_cons je_int (ja_cons (je_gint (by rfl) g_MOST_BOUND ⟨_, rfl⟩) ja_nil))) (by rfl)))
    (jss_one (js_ret (je_sub (hu_of hr) (je_sub (hu_of hr) (je_sub (hu_of hr) (je_call C.f33 hr hx h.m33 h.F33.kp h.b33 (ja_cons (je_var 0) (ja_cons (je_var 1) ja_nil)) (by rfl)) je_int) (je_var 0)) (je_var 1))))))
theorem d44 (h : Top K mg fa fd) (C : All P w K mg base T fa fd k c) (cdv : Value) (A : Around) (outer : List Env) (s : Shared) (H : Hp) (E : XK) (hr : Room (k + 2) (A.deeper (envOfC "_law_any" (defScope (topS 44)) s.heap.objs.size (fa 44) cdv))) :
    JSs (cxOf (L2.CX P w) P w K mg base ["hand", "some"] "_law_any" (defScope (topS 44)) (fa 44) cdv A outer s H E) T E (defBody (topS 44)) (PB.b_law_any c) := by
  have hN : (["hand", "some"] : List Str).Nodup := sc44.nd
  have tk := takes_of (X := cxOf (L2.CX P w) P w K mg base ["hand", "some"] "_law_any" (defScope (topS 44)) (fa 44) cdv A outer s H E) (E := E) rfl rfl rfl rfl
  have hx : Passes (L2.CX P w) (cxOf (L2.CX P w) P w K mg base ["hand", "some"] "_law_any" (defScope (topS 44)) (fa 44) cdv A outer s H E) E := passes_call tk fun _ _ _ _ z => z
  have hp := passes_of (X := cxOf (L2.CX P w) P w K mg base ["hand", "some"] "_law_any" (defScope (topS 44)) (fa 44) cdv A outer s H E) rfl
  unfold PB.b_law_any
  exact (jss_one (js_ret (je_sub (hu_of hr) (je_var 1) (je_call C.f43 hr hx h.m43 h.F43.kp h.b43 (ja_cons (je_var 0) (ja_cons (je_callB call_len4 (w_len rfl) (by rfl) h.z_len (by rfl) (ja_cons (je_var 1) ja_nil)) ja_nil)) (by rfl)))))
theorem d49 (h : Top K mg fa fd) (C : All P w K mg base T fa fd k c) (cdv : Value) (A : Around) (outer : List Env) (s : Shared) (H : Hp) (E : XK) (hr : Room (k + 2) (A.deeper (envOfC "_law_is_right" (defScope (topS 49)) s.heap.objs.size (fa 49) cdv))) :
    JSs (cxOf (L2.CX P w) P w K mg base ["hand", "bound", "top", "rows", "lap", "parts", "due", "term"] "_law_is_right" (defScope (topS 49)) (fa 49) cdv A outer s H E) T E (defBody (topS 49)) (PB.b_law_is_right c) := by
  have hN : (["hand", "bound", "top", "rows", "lap", "parts", "due", "term"] : List Str).Nodup := sc49.nd
  have tk := takes_of (X := cxOf (L2.CX P w) P w K mg base ["hand", "bound", "top", "rows", "lap", "parts", "due", "term"] "_law_is_right" (defScope (topS 49)) (fa 49) cdv A outer s H E) (E := E) rfl rfl rfl rfl
  have hx : Passes (L2.CX P w) (cxOf (L2.CX P w) P w K mg base ["hand", "bound", "top", "rows", "lap", "parts", "due", "term"] "_law_is_right" (defScope (topS 49)) (fa 49) cdv A outer s H E) E := passes_call tk fun _ _ _ _ z => z
  have hp := passes_of (X := cxOf (L2.CX P w) P w K mg base ["hand", "bound", "top", "rows", "lap", "parts", "due", "term"] "_law_is_right" (defScope (topS 49)) (fa 49) cdv A outer s H E) rfl
  unfold PB.b_law_is_right
  exact (jss_cons (js_par (ja_cons (je_call C.f43 hr hx h.m43 h.F43.kp h.b43 (ja_cons (je_var 0) (ja_cons je_int ja_nil)) (by rfl)) (ja_cons (je_call C.f44 hr hx h.m44 h.F44.kp h.b44 (ja_cons (je_var 0) (ja_cons (je_lst (ja_cons je_int (ja_cons je_int ja_nil))) ja_nil)) (by rfl)) ja_nil)) rfl hN (by decide))
    (jss_cons (js_asg (je_call C.f45 hr hx h.m45 h.F45.kp h.b45 (ja_cons (je_var 2) (ja_cons (je_var 1) (ja_cons je_bl ja_nil))) (by rfl)) hN)
    (jss_cons (js_for true hp rfl (ji_rng1 (ja_cons je_int ja_nil) (by rfl) h.z_range) (jg_name hN) (jss_cons (js_asg (je_op op_add4 w_add je_int (je_call C.f43 hr hx h.m43 h.F43.kp h.b43 (ja_cons (je_var 0) (ja_cons (je_var 2) ja_nil)) (by rfl))) hN)
    (jss_cons (js_asg (je_sub (hu_of hr) (je_sub (hu_of hr) (je_var 3) (je_tup (ja_cons (je_var 5) (ja_cons (je_var 1) ja_nil)))) je_int) hN)
    (jss_cons (js_if (jt_w (jw_or (jt_cmp (op_neD hr.units) w_ne (je_lst (ja_cons (je_call C.f34 hr hx h.m34 h.F34.kp h.b34 (ja_cons (je_var 5) (ja_cons (je_var 1) ja_nil)) (by rfl)) (ja_cons (je_call C.f34 hr hx h.m34 h.F34.kp h.b34 (ja_cons (je_var 5) (ja_cons (je_var 1) ja_nil)) (by rfl)) ja_nil))) (je_lst (ja_cons (je_var 6) (ja_cons (je_var 6) ja_nil))) (by rfl)) (jw_or1 (jt_cmp op_gt w_cmpI (je_var 6) (je_call C.f32 hr hx h.m32 h.F32.kp h.b32 (ja_cons (je_var 5) (ja_cons (je_var 1) ja_nil)) (by rfl)) (by rfl))))) (jss_one (js_ret je_bl)) jss_nil)
    (jss_one (js_if (jt_w (jw_and (jt_cmp op_lt w_cmpI (je_var 1) je_int (by rfl)) (jw_and1 (jt_cmp op_lt w_cmpI (je_call C.f34 hr hx h.m34 h.F34.kp h.b34 (ja_cons (je_var 5) (ja_cons (je_op op_add4 w_add (je_var 1) je_int) ja_nil)) (by rfl)) (je_var 6) (by rfl))))) (jss_one (js_ret je_bl)) jss_nil))))))
    (jss_cons (js_asg (je_op op_add4 w_add je_int (je_call C.f43 hr hx h.m43 h.F43.kp h.b43 (ja_cons (je_var 0) (ja_cons je_int ja_nil)) (by rfl))) hN)
    (jss_cons (js_if (jt_w (jw_or (jt_cmp op_lt w_cmpI (je_var 5) je_int (by rfl)) (jw_or1 (jt_cmp op_lt w_cmpI (je_var 1) je_int (by rfl))))) (jss_one (js_if (jt_cmp (op_neD hr.units) w_ne (je_call C.f34 hr hx h.m34 h.F34.kp h.b34 (ja_cons (je_var 5) (ja_cons (je_var 1) ja_nil)) (by rfl)) (je_callB call_len4 (w_len rfl) (by rfl) h.z_len (by rfl) (ja_cons (je_lc rfl hN (ji_any (je_call C.f46 hr hx h.m46 h.F46.kp h.b46 (ja_cons (je_var 5) (ja_cons (je_var 1) (ja_cons je_dT ja_nil))) (by rfl))) (@blkOk_by ["hand", "bound", "top", "rows", "lap", "parts", "due", "term"] (defScope (topS 49)) _ [("term", 7)] (by decide +kernel)) rfl (fun _ _ _ _ _ => by exact (jgc_name hN)) (fun _ _ _ _ _ => by exact (jts_one (jt_val (je_call C.f48 hr passL h.m48 h.F48.kp h.b48 (ja_cons (je_var 7) ja_nil) (by rfl))))) (fun _ _ _ _ _ => by exact (je_var 7))) ja_nil)) (by rfl)) (jss_one (js_ret je_bl)) jss_nil)) jss_nil)
    (jss_one (js_ret (je_cmp (op_eqD hr.units) w_eq (je_call C.f34 hr hx h.m34 h.F34.kp h.b34 (ja_cons (je_var 5) (ja_cons je_int ja_nil)) (by rfl)) (je_callB call_len4 (w_len rfl) (by rfl) h.z_len (by rfl) (ja_cons (je_lc rfl hN (ji_any (je_call C.f36 hr hx h.m36 h.F36.kp h.b36 (ja_cons (je_var 5) ja_nil) (by rfl))) (@blkOk_by ["hand", "bound", "top", "rows", "lap", "parts", "due", "term"] (defScope (topS 49)) _ [("term", 7)] (by decide +kernel)) rfl (fun _ _ _ _ _ => by exact (jgc_name hN)) (fun _ _ _ _ _ => by exact (jts_one (jt_val (je_call C.f40 hr passL h.m40 h.F40.kp h.b40 (ja_cons (je_var 7) ja_nil) (by rfl))))) (fun _ _ _ _ _ => by exact (je_var 7))) ja_nil)) (by rfl)))))))))
theorem d42 (h : Top K mg fa fd) (C : All P w K mg base T fa fd k c) (cdv : Value) (A : Around) (outer : List Env) (s : Shared) (H : Hp) (E : XK) (hr : Room (k + 2) (A.deeper (envOfC "_law_hand" (defScope (topS 42)) s.heap.objs.size (fa 42) cdv))) :
    JSs (cxOf (L2.CX P w) P w K mg base ["script", "cells", "cell"] "_law_hand" (defScope (topS 42)) (fa 42) cdv A outer s H E) T E (defBody (topS 42)) (PB.b_law_hand c) := by
  have hN : (["script", "cells", "cell"] : List Str).Nodup := sc42.nd
  have tk := takes_of (X := cxOf (L2.CX P w) P w K mg base ["script", "cells", "cell"] "_law_hand" (defScope (topS 42)) (fa 42) cdv A outer s H E) (E := E) rfl rfl rfl rfl
  have hx : Passes (L2.CX P w) (cxOf (L2.CX P w) P w K mg base ["script", "cells", "cell"] "_law_hand" (defScope (topS 42)) (fa 42) cdv A outer s H E) E := passes_call tk fun _ _ _ _ z => z
  have hp := passes_of (X := cxOf (L2.CX P w) P w K mg base ["script", "cells", "cell"] "_law_hand" (defScope (topS 42)) (fa 42) cdv A outer s H E) rfl
  unfold PB.b_law_hand
  exact (jss_cons (js_setLc rfl hN (ji_any (je_sl (je_var 0) jo_none (jo_some je_int))) (@blkOk_by ["script", "cells", "cell"] (defScope (topS 42)) _ [("cell", 2)] (by decide +kernel)) rfl (fun _ _ _ _ _ => by exact (jgc_name hN)) (fun _ _ _ _ _ => by exact jts_nil) (fun _ _ _ _ _ => by exact (je_callB call_abs w_abs (by rfl) h.z_abs (by rfl) (ja_cons (je_callTy call_int1 w_int (by rfl) h.z_int (by rfl) (ja_cons (je_var 2) ja_nil)) ja_nil))) (sw_true rfl rfl rfl rfl))
    (jss_one (js_ret (je_lst (ja_cons (je_var 1) (ja_cons je_int (ja_cons je_int (ja_cons (je_op op_add4 w_add je_int (je_op op_mul2 w_mul je_int (je_callB call_len4 (w_len rfl) (by rfl) h.z_len (by rfl) (ja_cons (je_var 1) ja_nil)))) (ja_cons je_int ja_nil)))))))))
theorem d33 (h : Top K mg fa fd) (C : All P w K mg base T fa fd k c) (cdv : Value) (A : Around) (outer : List Env) (s : Shared) (H : Hp) (E : XK) (hr : Room (k + 2) (A.deeper (envOfC "ends_sized" (defScope (topS 33)) s.heap.objs.size (fa 33) cdv))) :
    JSs (cxOf (L2.CX P w) P w K mg base ["most", "bound", "wide", "ends", "heads", "size", "end", "head", "binding", "plain", "one"] "ends_sized" (defScope (topS 33)) (fa 33) cdv A outer s H E) T E (defBody (topS 33)) (PB.b_ends_sized c) := by
  have hN : (["most", "bound", "wide", "ends", "heads", "size", "end", "head", "binding", "plain", "one"] : List Str).Nodup := sc33.nd
  have tk := takes_of (X := cxOf (L2.CX P w) P w K mg base ["most", "bound", "wide", "ends", "heads", "size", "end", "head", "binding", "plain", "one"] "ends_sized" (defScope (topS 33)) (fa 33) cdv A outer s H E) (E := E) rfl rfl rfl rfl
  have hx : Passes (L2.CX P w) (cxOf (L2.CX P w) P w K mg base ["most", "bound", "wide", "ends", "heads", "size", "end", "head", "binding", "plain", "one"] "ends_sized" (defScope (topS 33)) (fa 33) cdv A outer s H E) E := passes_call tk fun _ _ _ _ z => z
  have hp := passes_of (X := cxOf (L2.CX P w) P w K mg base ["most", "bound", "wide", "ends", "heads", "size", "end", "head", "binding", "plain", "one"] "ends_sized" (defScope (topS 33)) (fa 33) cdv A outer s H E) rfl
  unfold PB.b_ends_sized
  exact (jss_cons (js_asg (je_op op_add4 w_add (je_op op_add4 w_add (je_var 0) (je_var 1)) je_int) hN)
    (jss_cons (js_par (ja_cons (je_lst (ja_cons (je_op op_mul2 w_mul (je_lst (ja_cons je_int ja_nil)) (je_var 2)) ja_nil)) (ja_cons (je_lst (ja_cons (je_op op_mul2 w_mul (je_lst (ja_cons je_int ja_nil)) (je_var 2)) ja_nil)) ja_nil)) rfl hN (by decide))
    (jss_cons (js_for true hp rfl (ji_rng2 (ja_cons je_int (ja_cons (je_op op_add4 w_add (je_var 0) je_int) ja_nil)) (by rfl) h.z_range) (jg_name hN) (jss_cons (js_par (ja_cons (je_lst ja_nil) (ja_cons (je_lst ja_nil) ja_nil)) rfl hN (by decide))
    (jss_cons (js_for true hp rfl (ji_rng1 (ja_cons (je_var 2) ja_nil) (by rfl) h.z_range) (jg_name hN) (jss_cons (js_asg (je_if (jt_cmp (op_eqD hr.units) w_eq (je_var 5) je_int (by rfl)) (je_var 8) je_int) hN)
    (jss_cons (js_for true hp rfl (ji_rng2 (ja_cons je_int (ja_cons (je_op op_sub w_sub (je_var 5) je_int) ja_nil)) (by rfl) h.z_range) (jg_name hN) (jss_one (js_aug ip_add (je_op op_mul2 w_mul (je_sub (hu_of hr) (je_sub (hu_of hr) (je_var 4) (je_var 10)) (je_var 8)) (je_sub (hu_of hr) (je_sub (hu_of hr) (je_var 3) (je_op op_sub w_sub (je_op op_sub w_sub (je_var 5) je_int) (je_var 10))) (je_var 8))) hN)))
    (jss_cons (js_expr (je_app (je_var 7) (ja_cons (je_var 9) ja_nil)))
    (jss_one (js_expr (je_app (je_var 6) (ja_cons (je_op op_add4 w_add (je_var 9) (je_if (jt_w (jw_and (jt_cmp op_gt w_cmpI (je_var 5) je_int (by rfl)) (jw_and1 (jt_cmp op_lt w_cmpI (je_op op_add4 w_add (je_var 8) je_int) (je_var 2) (by rfl))))) (je_sub (hu_of hr) (je_sub (hu_of hr) (je_var 3) (je_op op_sub w_sub (je_var 5) je_int)) (je_op op_add4 w_add (je_var 8) je_int)) je_int)) ja_nil))))))))
    (jss_cons (js_expr (je_app (je_var 3) (ja_cons (je_var 6) ja_nil)))
    (jss_one (js_expr (je_app (je_var 4) (ja_cons (je_var 7) ja_nil))))))))
    (jss_one (js_ret (je_tup (ja_cons (je_var 3) (ja_cons (je_var 4) ja_nil))))))))
theorem d13 (h : Top K mg fa fd) (C : All P w K mg base T fa fd k c) (cdv : Value) (A : Around) (outer : List Env) (s : Shared) (H : Hp) (E : XK) (hr : Room (k + 2) (A.deeper (envOfC "check_number" (defScope (topS 13)) s.heap.objs.size (fa 13) cdv))) :
    JSs (cxOf (L2.CX P w) P w K mg base ["thing", "least", "most"] "check_number" (defScope (topS 13)) (fa 13) cdv A outer s H E) T E (defBody (topS 13)) (PB.b_check_number c) := by
  have hN : (["thing", "least", "most"] : List Str).Nodup := sc13.nd
  have tk := takes_of (X := cxOf (L2.CX P w) P w K mg base ["thing", "least", "most"] "check_number" (defScope (topS 13)) (fa 13) cdv A outer s H E) (E := E) rfl rfl rfl rfl
  have hx : Passes (L2.CX P w) (cxOf (L2.CX P w) P w K mg base ["thing", "least", "most"] "check_number" (defScope (topS 13)) (fa 13) cdv A outer s H E) E := passes_call tk fun _ _ _ _ z => z
  have hp := passes_of (X := cxOf (L2.CX P w) P w K mg base ["thing", "least", "most"] "check_number" (defScope (topS 13)) (fa 13) cdv A outer s H E) rfl
  unfold PB.b_check_number
  exact (jss_one (js_if (jt_not (jt_val (je_call C.f9 hr hx h.m9 h.F9.kp h.b9 (ja_cons (je_var 0) (ja_cons (je_var 1) (ja_cons (je_var 2) ja_nil))) (by rfl)))) (jss_one (js_raise rfl tk h.o_NoNumber h.i_NoNumber h.t_init C.init (hr.mono (Nat.le_add_left 2 k)) h.b_init passL (by rfl) h.m_NoNumber)) jss_nil))
theorem d43 (h : Top K mg fa fd) (C : All P w K mg base T fa fd k c) (cdv : Value) (A : Around) (outer : List Env) (s : Shared) (H : Hp) (E : XK) (hr : Room (k + 2) (A.deeper (envOfC "_law_draw" (defScope (topS 43)) s.heap.objs.size (fa 43) cdv))) :
    JSs (cxOf (L2.CX P w) P w K mg base ["hand", "many", "cell", "digit", "number"] "_law_draw" (defScope (topS 43)) (fa 43) cdv A outer s H E) T E (defBody (topS 43)) (PB.b_law_draw c) := by
  have hN : (["hand", "many", "cell", "digit", "number"] : List Str).Nodup := sc43.nd
  have tk := takes_of (X := cxOf (L2.CX P w) P w K mg base ["hand", "many", "cell", "digit", "number"] "_law_draw" (defScope (topS 43)) (fa 43) cdv A outer s H E) (E := E) rfl rfl rfl rfl
  have hx : Passes (L2.CX P w) (cxOf (L2.CX P w) P w K mg base ["hand", "many", "cell", "digit", "number"] "_law_draw" (defScope (topS 43)) (fa 43) cdv A outer s H E) E := passes_call tk fun _ _ _ _ z => z
  have hp := passes_of (X := cxOf (L2.CX P w) P w K mg base ["hand", "many", "cell", "digit", "number"] "_law_draw" (defScope (topS 43)) (fa 43) cdv A outer s H E) rfl
  unfold PB.b_law_draw
  exact (jss_cons (js_if (jt_w (jw_and (jt_cmp (op_eqD hr.units) w_eq (je_sub (hu_of hr) (je_var 0) je_int) je_int (by rfl)) (jw_and1 (jt_cmp op_lt w_cmpI (je_sub (hu_of hr) (je_var 0) je_int) (je_callB call_len4 (w_len rfl) (by rfl) h.z_len (by rfl) (ja_cons (je_sub (hu_of hr) (je_var 0) je_int) ja_nil)) (by rfl))))) (jss_cons (js_asg (je_sub (hu_of hr) (je_sub (hu_of hr) (je_var 0) je_int) (je_sub (hu_of hr) (je_var 0) je_int)) hN)
    (jss_cons (js_setix (hu_of hr) (je_op op_add4 w_add (je_sub (hu_of hr) (je_var 0) je_int) je_int) (je_var 0) je_int)
    (jss_cons (js_setix (hu_of hr) (je_op op_mod w_mod (je_callTy call_int1 w_int (by rfl) h.z_int (by rfl) (ja_cons (je_op op_add4 w_add (je_op op_add4 w_add (je_op op_mul2 w_mul (je_sub (hu_of hr) (je_var 0) je_int) je_int) (je_op op_mul2 w_mul (je_var 2) je_int)) je_int) ja_nil)) je_int) (je_var 0) je_int)
    (jss_one (js_if (jt_cmp op_ge w_cmpI (je_var 2) (je_op op_pow w_pow je_int je_int) (by rfl)) (jss_one (js_setix (hu_of hr) (je_var 2) (je_var 0) je_int)) jss_nil))))) jss_nil)
    (jss_cons (js_if (jt_cmp op_gt w_cmpI (je_sub (hu_of hr) (je_var 0) je_int) je_int (by rfl)) (jss_cons (js_asg (je_op op_mod w_mod (je_callTy call_int1 w_int (by rfl) h.z_int (by rfl) (ja_cons (je_sub (hu_of hr) (je_var 0) je_int) ja_nil)) (je_var 1)) hN)
    (jss_cons (js_setix (hu_of hr) (je_op op_fdiv w_div (je_sub (hu_of hr) (je_var 0) je_int) (je_var 1)) (je_var 0) je_int)
    (jss_one (js_ret (je_var 3))))) jss_nil)
    (jss_cons (js_setix (hu_of hr) (je_op op_add4 w_add (je_sub (hu_of hr) (je_var 0) je_int) je_int) (je_var 0) je_int)
    (jss_cons (js_asg (je_op op_mod w_mod (je_callTy call_int1 w_int (by rfl) h.z_int (by rfl) (ja_cons (je_op op_mul2 w_mul (je_callTy call_int1 w_int (by rfl) h.z_int (by rfl) (ja_cons (je_op op_add4 w_add (je_sub (hu_of hr) (je_var 0) je_int) (je_op op_mul2 w_mul je_int (je_sub (hu_of hr) (je_var 0) je_int))) ja_nil)) je_int) ja_nil)) je_int) hN)
    (jss_cons (js_asg (je_op op_mod w_mod (je_callTy call_int1 w_int (by rfl) h.z_int (by rfl) (ja_cons (je_op op_mul2 w_mul (je_var 4) (je_op op_add4 w_add (je_op op_fdiv w_div (je_var 4) je_int) je_int)) ja_nil)) je_int) hN)
    (jss_cons (js_asg (je_op op_mod w_mod (je_callTy call_int1 w_int (by rfl) h.z_int (by rfl) (ja_cons (je_op op_mul2 w_mul (je_var 4) (je_op op_add4 w_add (je_op op_fdiv w_div (je_var 4) je_int) je_int)) ja_nil)) je_int) hN)
    (jss_one (js_ret (je_op op_mod w_mod (je_callTy call_int1 w_int (by rfl) h.z_int (by rfl) (ja_cons (je_op op_fdiv w_div (je_var 4) je_int) ja_nil)) (je_var 1))))))))))
theorem d36 (h : Top K mg fa fd) (C : All P w K mg base T fa fd k c) (cdv : Value) (A : Around) (outer : List Env) (s : Shared) (H : Hp) (E : XK) (hr : Room (k + 2) (A.deeper (envOfC "all_closed" (defScope (topS 36)) s.heap.objs.size (fa 36) cdv))) :
    JSs (cxOf (L2.CX P w) P w K mg base ["size", "thing"] "all_closed" (defScope (topS 36)) (fa 36) cdv A outer s H E) T E (defBody (topS 36)) (PB.b_all_closed c) := by
  obtain ⟨t_MOST_LISTED, g_MOST_LISTED⟩ := h.g_MOST_LISTED
  have hN : (["size", "thing"] : List Str).Nodup := sc36.nd
  have tk := takes_of (X := cxOf (L2.CX P w) P w K mg base ["size", "thing"] "all_closed" (defScope (topS 36)) (fa 36) cdv A outer s H E) (E := E) rfl rfl rfl rfl
  have hx : Passes (L2.CX P w) (cxOf (L2.CX P w) P w K mg base ["size", "thing"] "all_closed" (defScope (topS 36)) (fa 36) cdv A outer s H E) E := passes_call tk fun _ _ _ _ z => z
  have hp := passes_of (X := cxOf (L2.CX P w) P w K mg base ["size", "thing"] "all_closed" (defScope (topS 36)) (fa 36) cdv A outer s H E) rfl
  unfold PB.b_all_closed
  exact (jss_cons (js_expr (je_call C.f13 hr hx h.m13 h.F13.kp h.b13 (ja_cons (je_var 0) (ja_cons je_int (ja_cons (je_gint (by rfl) g_MOST_LISTED ⟨_, rfl⟩) ja_nil))) (by rfl)))
    (jss_one (js_ret (je_lc rfl hN (ji_any (je_call C.f35 hr hx h.m35 h.F35.kp h.b35 (ja_cons (je_var 0) (ja_cons je_int ja_nil)) (by rfl))) (@blkOk_by ["size", "thing"] (defScope (topS 36)) _ [("thing", 1)] (by decide +kernel)) rfl (fun _ _ _ _ _ => by exact (jgc_name hN)) (fun _ _ _ _ _ => by exact jts_nil) (fun _ _ _ _ _ => by exact (je_call C.f25 hr passL h.m25 h.F25.kp h.b25 (ja_cons (je_var 1) ja_nil) (by rfl)))))))
theorem d40 (h : Top K mg fa fd) (C : All P w K mg base T fa fd k c) (cdv : Value) (A : Around) (outer : List Env) (s : Shared) (H : Hp) (E : XK) (hr : Room (k + 2) (A.deeper (envOfC "is_end" (defScope (topS 40)) s.heap.objs.size (fa 40) cdv))) :
    JSs (cxOf (L2.CX P w) P w K mg base ["term"] "is_end" (defScope (topS 40)) (fa 40) cdv A outer s H E) T E (defBody (topS 40)) (PB.b_is_end c) := by
  have hN : (["term"] : List Str).Nodup := sc40.nd
  have tk := takes_of (X := cxOf (L2.CX P w) P w K mg base ["term"] "is_end" (defScope (topS 40)) (fa 40) cdv A outer s H E) (E := E) rfl rfl rfl rfl
  have hx : Passes (L2.CX P w) (cxOf (L2.CX P w) P w K mg base ["term"] "is_end" (defScope (topS 40)) (fa 40) cdv A outer s H E) E := passes_call tk fun _ _ _ _ z => z
  have hp := passes_of (X := cxOf (L2.CX P w) P w K mg base ["term"] "is_end" (defScope (topS 40)) (fa 40) cdv A outer s H E) rfl
  unfold PB.b_is_end
  exact (jss_cons (js_expr (je_call C.f22 hr hx h.m22 h.F22.kp h.b22 (ja_cons (je_var 0) ja_nil) (by rfl)))
    (jss_one (js_ret (je_cmp (op_eqD hr.units) w_eq (je_callB call_len4 (w_len rfl) (by rfl) h.z_len (by rfl) (ja_cons (je_call C.f39 hr hx h.m39 h.F39.kp h.b39 (ja_cons (je_call C.f23 hr hx h.m23 h.F23.kp h.b23 (ja_cons (je_var 0) ja_nil) (by rfl)) ja_nil) (by rfl)) ja_nil)) je_int (by rfl)))))
theorem d46 (h : Top K mg fa fd) (C : All P w K mg base T fa fd k c) (cdv : Value) (A : Around) (outer : List Env) (s : Shared) (H : Hp) (E : XK) (hr : Room (k + 2) (A.deeper (envOfC "_law_terms" (defScope (topS 46)) s.heap.objs.size (fa 46) cdv))) :
    JSs (cxOf (L2.CX P w) P w K mg base ["parts", "names", "known", "found", "some", "one", "other", "body"] "_law_terms" (defScope (topS 46)) (fa 46) cdv A outer s H E) T E (defBody (topS 46)) (PB.b_law_terms c) := by
  have hN : (["parts", "names", "known", "found", "some", "one", "other", "body"] : List Str).Nodup := sc46.nd
  have tk := takes_of (X := cxOf (L2.CX P w) P w K mg base ["parts", "names", "known", "found", "some", "one", "other", "body"] "_law_terms" (defScope (topS 46)) (fa 46) cdv A outer s H E) (E := E) rfl rfl rfl rfl
  have hx : Passes (L2.CX P w) (cxOf (L2.CX P w) P w K mg base ["parts", "names", "known", "found", "some", "one", "other", "body"] "_law_terms" (defScope (topS 46)) (fa 46) cdv A outer s H E) E := passes_call tk fun _ _ _ _ z => z
  have hp := passes_of (X := cxOf (L2.CX P w) P w K mg base ["parts", "names", "known", "found", "some", "one", "other", "body"] "_law_terms" (defScope (topS 46)) (fa 46) cdv A outer s H E) rfl
  unfold PB.b_law_terms
  exact (jss_cons (js_if (jt_in (hu_of hr) (je_tup (ja_cons (je_var 0) (ja_cons (je_var 1) ja_nil))) (je_var 2)) (jss_one (js_ret (je_sub (hu_of hr) (je_var 2) (je_tup (ja_cons (je_var 0) (ja_cons (je_var 1) ja_nil)))))) jss_nil)
    (jss_cons (js_asg (je_lst ja_nil) hN)
    (jss_cons (js_if (jt_cmp (op_eqD hr.units) w_eq (je_var 0) je_int (by rfl)) (jss_one (js_asg (je_lrg1 rfl (by rfl) h.z_list (by rfl) h.z_range (je_var 1)) hN)) jss_nil)
    (jss_cons (js_for true hp rfl (ji_rng2 (ja_cons je_int (ja_cons (je_op op_sub w_sub (je_var 0) je_int) ja_nil)) (by rfl) h.z_range) (jg_name hN) (jss_one (js_for true hp rfl (ji_any (je_call C.f46 hr hx h.m46 h.F46.kp h.b46 (ja_cons (je_var 4) (ja_cons (je_var 1) (ja_cons (je_var 2) ja_nil))) (by rfl))) (jg_name hN) (jss_one (js_expr (je_ext (je_var 3) (ja_cons (je_lc rfl hN (ji_any (je_call C.f46 hr hx h.m46 h.F46.kp h.b46 (ja_cons (je_op op_sub w_sub (je_op op_sub w_sub (je_var 0) je_int) (je_var 4)) (ja_cons (je_var 1) (ja_cons (je_var 2) ja_nil))) (by rfl))) (@blkOk_by ["parts", "names", "known", "found", "some", "one", "other", "body"] (defScope (topS 46)) _ [("other", 6)] (by decide +kernel)) rfl (fun _ _ _ _ _ => by exact (jgc_name hN)) (fun _ _ _ _ _ => by exact jts_nil) (fun _ _ _ _ _ => by exact (je_tup (ja_cons je_str (ja_cons (je_var 5) (ja_cons (je_var 6) ja_nil)))))) ja_nil)))))))
    (jss_cons (js_if (jt_cmp op_gt w_cmpI (je_var 0) je_int (by rfl)) (jss_one (js_expr (je_ext (je_var 3) (ja_cons (je_lc rfl hN (ji_any (je_call C.f46 hr hx h.m46 h.F46.kp h.b46 (ja_cons (je_op op_sub w_sub (je_var 0) je_int) (ja_cons (je_op op_add4 w_add (je_var 1) je_int) (ja_cons (je_var 2) ja_nil))) (by rfl))) (@blkOk_by ["parts", "names", "known", "found", "some", "one", "other", "body"] (defScope (topS 46)) _ [("body", 7)] (by decide +kernel)) rfl (fun _ _ _ _ _ => by exact (jgc_name hN)) (fun _ _ _ _ _ => by exact jts_nil) (fun _ _ _ _ _ => by exact (je_tup (ja_cons je_str (ja_cons (je_var 7) ja_nil))))) ja_nil)))) jss_nil)
    (jss_cons (js_setix (hu_of hr) (je_var 3) (je_var 2) (je_tup (ja_cons (je_var 0) (ja_cons (je_var 1) ja_nil))))
    (jss_one (js_ret (je_var 3)))))))))
theorem d48 (h : Top K mg fa fd) (C : All P w K mg base T fa fd k c) (cdv : Value) (A : Around) (outer : List Env) (s : Shared) (H : Hp) (E : XK) (hr : Room (k + 2) (A.deeper (envOfC "_law_is_end" (defScope (topS 48)) s.heap.objs.size (fa 48) cdv))) :
    JSs (cxOf (L2.CX P w) P w K mg base ["term"] "_law_is_end" (defScope (topS 48)) (fa 48) cdv A outer s H E) T E (defBody (topS 48)) (PB.b_law_is_end c) := by
  have hN : (["term"] : List Str).Nodup := sc48.nd
  have tk := takes_of (X := cxOf (L2.CX P w) P w K mg base ["term"] "_law_is_end" (defScope (topS 48)) (fa 48) cdv A outer s H E) (E := E) rfl rfl rfl rfl
  have hx : Passes (L2.CX P w) (cxOf (L2.CX P w) P w K mg base ["term"] "_law_is_end" (defScope (topS 48)) (fa 48) cdv A outer s H E) E := passes_call tk fun _ _ _ _ z => z
  have hp := passes_of (X := cxOf (L2.CX P w) P w K mg base ["term"] "_law_is_end" (defScope (topS 48)) (fa 48) cdv A outer s H E) rfl
  unfold PB.b_law_is_end
  exact (jss_cons (js_if (jt_val (je_isi kit_int (by rfl) h.z_isinstance (by rfl) (by rfl) h.z_int (by rfl) (je_var 0))) (jss_one (js_ret je_bl)) jss_nil)
    (jss_cons (js_if (jt_cmp (op_eqD hr.units) w_eq (je_sub (hu_of hr) (je_var 0) je_int) je_str (by rfl)) (jss_one (js_ret (je_call C.f48 hr hx h.m48 h.F48.kp h.b48 (ja_cons (je_sub (hu_of hr) (je_var 0) je_int) ja_nil) (by rfl)))) jss_nil)
    (jss_cons (js_if (jt_w (jw_and (jt_not (jt_val (je_isi kit_int (by rfl) h.z_isinstance (by rfl) (by rfl) h.z_int (by rfl) (je_sub (hu_of hr) (je_var 0) je_int)))) (jw_and1 (jt_cmp (op_eqD hr.units) w_eq (je_sub (hu_of hr) (je_sub (hu_of hr) (je_var 0) je_int) je_int) je_str (by rfl))))) (jss_one (js_ret je_bl)) jss_nil)
    (jss_one (js_ret (je_and (je_call C.f48 hr hx h.m48 h.F48.kp h.b48 (ja_cons (je_sub (hu_of hr) (je_var 0) je_int) ja_nil) (by rfl)) (je_one (je_call C.f48 hr hx h.m48 h.F48.kp h.b48 (ja_cons (je_sub (hu_of hr) (je_var 0) je_int) ja_nil) (by rfl)))))))))
theorem d32 (h : Top K mg fa fd) (C : All P w K mg base T fa fd k c) (cdv : Value) (A : Around) (outer : List Env) (s : Shared) (H : Hp) (E : XK) (hr : Room (k + 2) (A.deeper (envOfC "many_terms" (defScope (topS 32)) s.heap.objs.size (fa 32) cdv))) :
    JSs (cxOf (L2.CX P w) P w K mg base ["size", "bound"] "many_terms" (defScope (topS 32)) (fa 32) cdv A outer s H E) T E (defBody (topS 32)) (PB.b_many_terms c) := by
  obtain ⟨t_MOST_BOUND, g_MOST_BOUND⟩ := h.g_MOST_BOUND
  obtain ⟨t_MOST_SIZE_counting, g_MOST_SIZE_counting⟩ := h.g_MOST_SIZE_counting
  have hN : (["size", "bound"] : List Str).Nodup := sc32.nd
  have tk := takes_of (X := cxOf (L2.CX P w) P w K mg base ["size", "bound"] "many_terms" (defScope (topS 32)) (fa 32) cdv A outer s H E) (E := E) rfl rfl rfl rfl
  have hx : Passes (L2.CX P w) (cxOf (L2.CX P w) P w K mg base ["size", "bound"] "many_terms" (defScope (topS 32)) (fa 32) cdv A outer s H E) E := passes_call tk fun _ _ _ _ z => z
  have hp := passes_of (X := cxOf (L2.CX P w) P w K mg base ["size", "bound"] "many_terms" (defScope (topS 32)) (fa 32) cdv A outer s H E) rfl
  unfold PB.b_many_terms
  exact (jss_cons (js_expr (je_call C.f13 hr hx h.m13 h.F13.kp h.b13 (ja_cons (je_var 0) (ja_cons je_int (ja_cons (je_gint (by rfl) g_MOST_SIZE_counting ⟨_, rfl⟩) ja_nil))) (by rfl)))
    (jss_cons (js_expr (je_call C.f13 hr hx h.m13 h.F13.kp h.b13 (ja_cons (je_var 1) (ja_cons je_int (ja_cons (je_gint (by rfl) g_MOST_BOUND ⟨_, rfl⟩) ja_nil))) (by rfl)))
    (jss_one (js_ret (je_sub (hu_of hr) (je_sub (hu_of hr) (je_call C.f31 hr hx h.m31 h.F31.kp h.b31 (ja_cons (je_var 0) (ja_cons (je_var 1) ja_nil)) (by rfl)) (je_var 0)) (je_var 1))))))
theorem d45 (h : Top K mg fa fd) (C : All P w K mg base T fa fd k c) (cdv : Value) (A : Around) (outer : List Env) (s : Shared) (H : Hp) (E : XK) (hr : Room (k + 2) (A.deeper (envOfC "_law_choices" (defScope (topS 45)) s.heap.objs.size (fa 45) cdv))) :
    JSs (cxOf (L2.CX P w) P w K mg base ["most", "bound", "ending", "found", "parts", "names", "stays", "whole", "part", "one"] "_law_choices" (defScope (topS 45)) (fa 45) cdv A outer s H E) T E (defBody (topS 45)) (PB.b_law_choices c) := by
  have hN : (["most", "bound", "ending", "found", "parts", "names", "stays", "whole", "part", "one"] : List Str).Nodup := sc45.nd
  have tk := takes_of (X := cxOf (L2.CX P w) P w K mg base ["most", "bound", "ending", "found", "parts", "names", "stays", "whole", "part", "one"] "_law_choices" (defScope (topS 45)) (fa 45) cdv A outer s H E) (E := E) rfl rfl rfl rfl
  have hx : Passes (L2.CX P w) (cxOf (L2.CX P w) P w K mg base ["most", "bound", "ending", "found", "parts", "names", "stays", "whole", "part", "one"] "_law_choices" (defScope (topS 45)) (fa 45) cdv A outer s H E) E := passes_call tk fun _ _ _ _ z => z
  have hp := passes_of (X := cxOf (L2.CX P w) P w K mg base ["most", "bound", "ending", "found", "parts", "names", "stays", "whole", "part", "one"] "_law_choices" (defScope (topS 45)) (fa 45) cdv A outer s H E) rfl
  unfold PB.b_law_choices
  exact (jss_cons (js_asg je_dT hN)
    (jss_cons (js_for true hp rfl (ji_rng2 (ja_cons je_int (ja_cons (je_op op_add4 w_add (je_var 0) je_int) ja_nil)) (by rfl) h.z_range) (jg_name hN) (jss_one (js_for true hp rfl (ji_rng1 (ja_cons (je_op op_add4 w_add (je_op op_sub w_sub (je_op op_add4 w_add (je_var 1) (je_var 0)) (je_var 4)) je_int) ja_nil) (by rfl) h.z_range) (jg_name hN) (jss_cons (js_asgT (je_tup (ja_cons je_int (ja_cons je_int ja_nil))) (jg_tup rfl (jgs_cons (jg_name hN) (jgs_cons (jg_name hN) jgs_nil))))
    (jss_cons (js_if (jt_cmp (op_eqD hr.units) w_eq (je_var 4) je_int (by rfl)) (jss_one (js_par (ja_cons (je_var 5) (ja_cons (je_var 5) ja_nil)) rfl hN (by decide))) jss_nil)
    (jss_cons (js_for true hp rfl (ji_rng2 (ja_cons je_int (ja_cons (je_op op_sub w_sub (je_var 4) je_int) ja_nil)) (by rfl) h.z_range) (jg_name hN) (jss_cons (js_asg (je_sub (hu_of hr) (je_sub (hu_of hr) (je_var 3) (je_tup (ja_cons (je_var 8) (ja_cons (je_var 5) ja_nil)))) (je_callTy call_int1 w_int (by rfl) h.z_int (by rfl) (ja_cons (je_var 2) ja_nil))) hN)
    (jss_one (js_asg (je_op op_add4 w_add (je_var 6) (je_op op_mul2 w_mul (je_var 9) (je_sub (hu_of hr) (je_sub (hu_of hr) (je_var 3) (je_tup (ja_cons (je_op op_sub w_sub (je_op op_sub w_sub (je_var 4) je_int) (je_var 8)) (ja_cons (je_var 5) ja_nil)))) je_int))) hN))))
    (jss_cons (js_if (jt_cmp op_gt w_cmpI (je_var 4) je_int (by rfl)) (jss_one (js_asg (je_op op_add4 w_add (je_var 6) (je_sub (hu_of hr) (je_sub (hu_of hr) (je_var 3) (je_tup (ja_cons (je_op op_sub w_sub (je_var 4) je_int) (ja_cons (je_op op_add4 w_add (je_var 5) je_int) ja_nil)))) je_int)) hN)) jss_nil)
    (jss_one (js_setix (hu_of hr) (je_tup (ja_cons (je_var 7) (ja_cons (je_var 6) ja_nil))) (je_var 3) (je_tup (ja_cons (je_var 4) (ja_cons (je_var 5) ja_nil))))))))))))
    (jss_one (js_ret (je_var 3)))))
theorem d9 (h : Top K mg fa fd) (C : All P w K mg base T fa fd k c) (cdv : Value) (A : Around) (outer : List Env) (s : Shared) (H : Hp) (E : XK) (hr : Room (k + 2) (A.deeper (envOfC "is_within" (defScope (topS 9)) s.heap.objs.size (fa 9) cdv))) :
    JSs (cxOf (L2.CX P w) P w K mg base ["thing", "least", "most"] "is_within" (defScope (topS 9)) (fa 9) cdv A outer s H E) T E (defBody (topS 9)) (PB.b_is_within c) := by
  have hN : (["thing", "least", "most"] : List Str).Nodup := sc9.nd
  have tk := takes_of (X := cxOf (L2.CX P w) P w K mg base ["thing", "least", "most"] "is_within" (defScope (topS 9)) (fa 9) cdv A outer s H E) (E := E) rfl rfl rfl rfl
  have hx : Passes (L2.CX P w) (cxOf (L2.CX P w) P w K mg base ["thing", "least", "most"] "is_within" (defScope (topS 9)) (fa 9) cdv A outer s H E) E := passes_call tk fun _ _ _ _ z => z
  have hp := passes_of (X := cxOf (L2.CX P w) P w K mg base ["thing", "least", "most"] "is_within" (defScope (topS 9)) (fa 9) cdv A outer s H E) rfl
  unfold PB.b_is_within
  exact (jss_one (js_ret (je_and (je_call C.f8 hr hx h.m8 h.F8.kp h.b8 (ja_cons (je_var 0) ja_nil) (by rfl)) (je_one (je_chain op_le w_cmpI op_le w_cmpI (je_var 1) (je_var 0) (je_var 2))))))
theorem d35 (h : Top K mg fa fd) (C : All P w K mg base T fa fd k c) (cdv : Value) (A : Around) (outer : List Env) (s : Shared) (H : Hp) (E : XK) (hr : Room (k + 2) (A.deeper (envOfC "raw_listed" (defScope (topS 35)) s.heap.objs.size (fa 35) cdv))) :
    JSs (cxOf (L2.CX P w) P w K mg base ["size", "binding", "known", "here", "bound", "found", "one", "first", "last", "body"] "raw_listed" (defScope (topS 35)) (fa 35) cdv A outer s H E) T E (defBody (topS 35)) (PB.b_raw_listed c) := by
  obtain ⟨t_OF, g_OF⟩ := h.g_OF
  obtain ⟨t_WITH, g_WITH⟩ := h.g_WITH
  have hN : (["size", "binding", "known", "here", "bound", "found", "one", "first", "last", "body"] : List Str).Nodup := sc35.nd
  have tk := takes_of (X := cxOf (L2.CX P w) P w K mg base ["size", "binding", "known", "here", "bound", "found", "one", "first", "last", "body"] "raw_listed" (defScope (topS 35)) (fa 35) cdv A outer s H E) (E := E) rfl rfl rfl rfl
  have hx : Passes (L2.CX P w) (cxOf (L2.CX P w) P w K mg base ["size", "binding", "known", "here", "bound", "found", "one", "first", "last", "body"] "raw_listed" (defScope (topS 35)) (fa 35) cdv A outer s H E) E := passes_call tk fun _ _ _ _ z => z
  have hp := passes_of (X := cxOf (L2.CX P w) P w K mg base ["size", "binding", "known", "here", "bound", "found", "one", "first", "last", "body"] "raw_listed" (defScope (topS 35)) (fa 35) cdv A outer s H E) rfl
  unfold PB.b_raw_listed
  exact (jss_cons (js_asg je_dT hN)
    (jss_cons (js_for true hp rfl (ji_rng2 (ja_cons je_int (ja_cons (je_op op_add4 w_add (je_var 0) je_int) ja_nil)) (by rfl) h.z_range) (jg_name hN) (jss_one (js_for true hp rfl (ji_rng1 (ja_cons (je_op op_add4 w_add (je_op op_sub w_sub (je_op op_add4 w_add (je_var 1) (je_var 0)) (je_var 3)) je_int) ja_nil) (by rfl) h.z_range) (jg_name hN) (jss_cons (js_asg (je_if (jt_cmp (op_eqD hr.units) w_eq (je_var 3) je_int (by rfl)) (je_lrg1 rfl (by rfl) h.z_list (by rfl) h.z_range (je_var 4)) (je_lst ja_nil)) hN)
    (jss_cons (js_for true hp rfl (ji_rng2 (ja_cons je_int (ja_cons (je_op op_sub w_sub (je_var 3) je_int) ja_nil)) (by rfl) h.z_range) (jg_name hN) (jss_one (js_for true hp rfl (ji_any (je_sub (hu_of hr) (je_var 2) (je_tup (ja_cons (je_var 6) (ja_cons (je_var 4) ja_nil))))) (jg_name hN) (jss_one (js_expr (je_ext (je_var 5) (ja_cons (je_lc rfl hN (ji_any (je_sub (hu_of hr) (je_var 2) (je_tup (ja_cons (je_op op_sub w_sub (je_op op_sub w_sub (je_var 3) je_int) (je_var 6)) (ja_cons (je_var 4) ja_nil))))) (@blkOk_by ["size", "binding", "known", "here", "bound", "found", "one", "first", "last", "body"] (defScope (topS 35)) _ [("last", 8)] (by decide +kernel)) rfl (fun _ _ _ _ _ => by exact (jgc_name hN)) (fun _ _ _ _ _ => by exact jts_nil) (fun _ _ _ _ _ => by exact (je_tup (ja_cons (je_gstr (by rfl) g_OF ⟨_, rfl⟩) (ja_cons (je_var 7) (ja_cons (je_var 8) ja_nil)))))) ja_nil)))))))
    (jss_cons (js_if (jt_cmp op_gt w_cmpI (je_var 3) je_int (by rfl)) (jss_one (js_expr (je_ext (je_var 5) (ja_cons (je_lc rfl hN (ji_any (je_sub (hu_of hr) (je_var 2) (je_tup (ja_cons (je_op op_sub w_sub (je_var 3) je_int) (ja_cons (je_op op_add4 w_add (je_var 4) je_int) ja_nil))))) (@blkOk_by ["size", "binding", "known", "here", "bound", "found", "one", "first", "last", "body"] (defScope (topS 35)) _ [("body", 9)] (by decide +kernel)) rfl (fun _ _ _ _ _ => by exact (jgc_name hN)) (fun _ _ _ _ _ => by exact jts_nil) (fun _ _ _ _ _ => by exact (je_tup (ja_cons (je_gstr (by rfl) g_WITH ⟨_, rfl⟩) (ja_cons (je_var 9) ja_nil))))) ja_nil)))) jss_nil)
    (jss_one (js_setix (hu_of hr) (je_var 5) (je_var 2) (je_tup (ja_cons (je_var 3) (ja_cons (je_var 4) ja_nil)))))))))))
    (jss_one (js_ret (je_sub (hu_of hr) (je_var 2) (je_tup (ja_cons (je_var 0) (ja_cons (je_var 1) ja_nil))))))))
theorem d25 (h : Top K mg fa fd) (C : All P w K mg base T fa fd k c) (cdv : Value) (A : Around) (outer : List Env) (s : Shared) (H : Hp) (E : XK) (hr : Room (k + 2) (A.deeper (envOfC "raw_named" (defScope (topS 25)) s.heap.objs.size (fa 25) cdv))) :
    JSs (cxOf (L2.CX P w) P w K mg base ["thing", "taken", "names", "number", "waiting", "done", "most", "path", "part", "deep", "found"] "raw_named" (defScope (topS 25)) (fa 25) cdv A outer s H E) T E (defBody (topS 25)) (PB.b_raw_named c) := by
  obtain ⟨t_OF, g_OF⟩ := h.g_OF
  obtain ⟨t_WITH, g_WITH⟩ := h.g_WITH
  have hN : (["thing", "taken", "names", "number", "waiting", "done", "most", "path", "part", "deep", "found"] : List Str).Nodup := sc25.nd
  have tk := takes_of (X := cxOf (L2.CX P w) P w K mg base ["thing", "taken", "names", "number", "waiting", "done", "most", "path", "part", "deep", "found"] "raw_named" (defScope (topS 25)) (fa 25) cdv A outer s H E) (E := E) rfl rfl rfl rfl
  have hx : Passes (L2.CX P w) (cxOf (L2.CX P w) P w K mg base ["thing", "taken", "names", "number", "waiting", "done", "most", "path", "part", "deep", "found"] "raw_named" (defScope (topS 25)) (fa 25) cdv A outer s H E) E := passes_call tk fun _ _ _ _ z => z
  have hp := passes_of (X := cxOf (L2.CX P w) P w K mg base ["thing", "taken", "names", "number", "waiting", "done", "most", "path", "part", "deep", "found"] "raw_named" (defScope (topS 25)) (fa 25) cdv A outer s H E) rfl
  unfold PB.b_raw_named
  exact (jss_cons (js_asg (je_call C.f24 hr hx h.m24 h.F24.kp h.b24 (ja_cons (je_var 0) ja_nil) (by rfl)) hN)
    (jss_cons (js_par (ja_cons (je_lst ja_nil) (ja_cons je_int ja_nil)) rfl hN (by decide))
    (jss_cons (js_par (ja_cons (je_lst (ja_cons (je_tup (ja_cons (je_tup ja_nil) (ja_cons (je_var 0) (ja_cons je_int ja_nil)))) ja_nil)) (ja_cons (je_lst ja_nil) ja_nil)) rfl hN (by decide))
    (jss_cons (js_asg je_int hN)
    (jss_cons (js_while true hp (jt_cmp op_gt w_cmpI (je_callB call_len4 (w_len rfl) (by rfl) h.z_len (by rfl) (ja_cons (je_var 4) ja_nil)) je_int (by rfl)) (jss_cons (js_asgT (je_pop (je_var 4)) (jg_tup rfl (jgs_cons (jg_name hN) (jgs_cons (jg_name hN) (jgs_cons (jg_name hN) jgs_nil)))))
    (jss_cons (js_expr (je_app (je_var 5) (ja_cons (je_tup (ja_cons (je_var 7) (ja_cons (je_var 8) (ja_cons (je_var 9) ja_nil)))) ja_nil)))
    (jss_cons (js_asg (je_callB (call_max2 rfl) w_max2 (by rfl) h.z_max (by rfl) (ja_cons (je_var 6) (ja_cons (je_var 9) ja_nil))) hN)
    (jss_one (js_if (jt_w (jw_and (jt_not (jt_val (je_isi kit_str (by rfl) h.z_isinstance (by rfl) (by rfl) h.z_str (by rfl) (je_var 8)))) (jw_and1 (jt_not (jt_val (je_call C.f8 hr hx h.m8 h.F8.kp h.b8 (ja_cons (je_var 8) ja_nil) (by rfl))))))) (jss_one (js_if (jt_cmp (op_eqD hr.units) w_eq (je_sub (hu_of hr) (je_var 8) je_int) (je_gstr (by rfl) g_OF ⟨_, rfl⟩) (by rfl)) (jss_one (js_expr (je_ext (je_var 4) (ja_cons (je_lst (ja_cons (je_tup (ja_cons (je_op op_add4 w_add (je_var 7) (je_tup (ja_cons je_int ja_nil))) (ja_cons (je_sub (hu_of hr) (je_var 8) je_int) (ja_cons (je_var 9) ja_nil)))) (ja_cons (je_tup (ja_cons (je_op op_add4 w_add (je_var 7) (je_tup (ja_cons je_int ja_nil))) (ja_cons (je_sub (hu_of hr) (je_var 8) je_int) (ja_cons (je_var 9) ja_nil)))) ja_nil))) ja_nil)))) (jss_one (js_expr (je_app (je_var 4) (ja_cons (je_tup (ja_cons (je_op op_add4 w_add (je_var 7) (je_tup (ja_cons je_int ja_nil))) (ja_cons (je_sub (hu_of hr) (je_var 8) je_int) (ja_cons (je_op op_add4 w_add (je_var 9) je_int) ja_nil)))) ja_nil)))))) jss_nil))))))
    (jss_cons (js_while true hp (jt_cmp op_lt w_cmpI (je_callB call_len4 (w_len rfl) (by rfl) h.z_len (by rfl) (ja_cons (je_var 2) ja_nil)) (je_var 6) (by rfl)) (jss_cons (js_if (jt_notin (hu_of hr) (je_call C.f14 hr hx h.m14 h.F14.kp h.b14 (ja_cons (je_var 3) ja_nil) (by rfl)) (je_var 1)) (jss_one (js_expr (je_app (je_var 2) (ja_cons (je_call C.f14 hr hx h.m14 h.F14.kp h.b14 (ja_cons (je_var 3) ja_nil) (by rfl)) ja_nil)))) jss_nil)
    (jss_one (js_aug ip_add je_int hN))))
    (jss_cons (js_asg je_dT hN)
    (jss_cons (js_for true hp rfl (ji_any (je_rev (je_var 5))) (jg_tup rfl (jgs_cons (jg_name hN) (jgs_cons (jg_name hN) (jgs_cons (jg_name hN) jgs_nil)))) (jss_one (js_if (jt_val (je_isi kit_str (by rfl) h.z_isinstance (by rfl) (by rfl) h.z_str (by rfl) (je_var 8))) (jss_one (js_setix (hu_of hr) (je_var 8) (je_var 10) (je_var 7))) (jss_one (js_if (jt_val (je_call C.f8 hr hx h.m8 h.F8.kp h.b8 (ja_cons (je_var 8) ja_nil) (by rfl))) (jss_one (js_setix (hu_of hr) (je_sub (hu_of hr) (je_var 2) (je_op op_sub w_sub (je_op op_sub w_sub (je_var 9) je_int) (je_var 8))) (je_var 10) (je_var 7))) (jss_one (js_if (jt_cmp (op_eqD hr.units) w_eq (je_sub (hu_of hr) (je_var 8) je_int) (je_gstr (by rfl) g_OF ⟨_, rfl⟩) (by rfl)) (jss_one (js_setix (hu_of hr) (je_tup (ja_cons (je_gstr (by rfl) g_OF ⟨_, rfl⟩) (ja_cons (je_sub (hu_of hr) (je_var 10) (je_op op_add4 w_add (je_var 7) (je_tup (ja_cons je_int ja_nil)))) (ja_cons (je_sub (hu_of hr) (je_var 10) (je_op op_add4 w_add (je_var 7) (je_tup (ja_cons je_int ja_nil)))) ja_nil)))) (je_var 10) (je_var 7))) (jss_one (js_setix (hu_of hr) (je_tup (ja_cons (je_gstr (by rfl) g_WITH ⟨_, rfl⟩) (ja_cons (je_sub (hu_of hr) (je_var 2) (je_var 9)) (ja_cons (je_sub (hu_of hr) (je_var 10) (je_op op_add4 w_add (je_var 7) (je_tup (ja_cons je_int ja_nil)))) ja_nil)))) (je_var 10) (je_var 7))))))))))
    (jss_one (js_ret (je_sub (hu_of hr) (je_var 10) (je_tup ja_nil))))))))))))
theorem d39 (h : Top K mg fa fd) (C : All P w K mg base T fa fd k c) (cdv : Value) (A : Around) (outer : List Env) (s : Shared) (H : Hp) (E : XK) (hr : Room (k + 2) (A.deeper (envOfC "raw_steps" (defScope (topS 39)) s.heap.objs.size (fa 39) cdv))) :
    JSs (cxOf (L2.CX P w) P w K mg base ["thing", "path", "part", "deep"] "raw_steps" (defScope (topS 39)) (fa 39) cdv A outer s H E) T E (defBody (topS 39)) (PB.b_raw_steps c) := by
  have hN : (["thing", "path", "part", "deep"] : List Str).Nodup := sc39.nd
  have tk := takes_of (X := cxOf (L2.CX P w) P w K mg base ["thing", "path", "part", "deep"] "raw_steps" (defScope (topS 39)) (fa 39) cdv A outer s H E) (E := E) rfl rfl rfl rfl
  have hx : Passes (L2.CX P w) (cxOf (L2.CX P w) P w K mg base ["thing", "path", "part", "deep"] "raw_steps" (defScope (topS 39)) (fa 39) cdv A outer s H E) E := passes_call tk fun _ _ _ _ z => z
  have hp := passes_of (X := cxOf (L2.CX P w) P w K mg base ["thing", "path", "part", "deep"] "raw_steps" (defScope (topS 39)) (fa 39) cdv A outer s H E) rfl
  unfold PB.b_raw_steps
  exact (jss_one (js_ret (je_callB (cr_srt hr.units) w_srt (by rfl) h.z_sorted (by rfl) (ja_cons (je_lc rfl hN (ji_any (je_call C.f26 hr hx h.m26 h.F26.kp h.b26 (ja_cons (je_var 0) ja_nil) (by rfl))) (@blkOk_by ["thing", "path", "part", "deep"] (defScope (topS 39)) _ [("path", 1), ("part", 2), ("deep", 3)] (by decide +kernel)) rfl (fun _ _ _ _ _ => by exact (jgc_tup rfl (jgcs_cons (jgc_name hN) (jgcs_cons (jgc_name hN) (jgcs_cons (jgc_name hN) jgcs_nil))))) (fun _ _ _ _ _ => by exact (jts_one (jt_val (je_call C.f38 hr passL h.m38 h.F38.kp h.b38 (ja_cons (je_var 2) ja_nil) (by rfl))))) (fun _ _ _ _ _ => by exact (je_var 1))) ja_nil))))
theorem d23 (h : Top K mg fa fd) (C : All P w K mg base T fa fd k c) (cdv : Value) (A : Around) (outer : List Env) (s : Shared) (H : Hp) (E : XK) (hr : Room (k + 2) (A.deeper (envOfC "raw_indexed" (defScope (topS 23)) s.heap.objs.size (fa 23) cdv))) :
    JSs (cxOf (L2.CX P w) P w K mg base ["term", "found", "waiting", "done", "path", "part", "bound"] "raw_indexed" (defScope (topS 23)) (fa 23) cdv A outer s H E) T E (defBody (topS 23)) (PB.b_raw_indexed c) := by
  obtain ⟨t_OF, g_OF⟩ := h.g_OF
  obtain ⟨t_WITH, g_WITH⟩ := h.g_WITH
  have hN : (["term", "found", "waiting", "done", "path", "part", "bound"] : List Str).Nodup := sc23.nd
  have tk := takes_of (X := cxOf (L2.CX P w) P w K mg base ["term", "found", "waiting", "done", "path", "part", "bound"] "raw_indexed" (defScope (topS 23)) (fa 23) cdv A outer s H E) (E := E) rfl rfl rfl rfl
  have hx : Passes (L2.CX P w) (cxOf (L2.CX P w) P w K mg base ["term", "found", "waiting", "done", "path", "part", "bound"] "raw_indexed" (defScope (topS 23)) (fa 23) cdv A outer s H E) E := passes_call tk fun _ _ _ _ z => z
  have hp := passes_of (X := cxOf (L2.CX P w) P w K mg base ["term", "found", "waiting", "done", "path", "part", "bound"] "raw_indexed" (defScope (topS 23)) (fa 23) cdv A outer s H E) rfl
  unfold PB.b_raw_indexed
  exact (jss_cons (js_par3 (ja_cons je_dT (ja_cons (je_lst (ja_cons (je_tup (ja_cons (je_tup ja_nil) (ja_cons (je_var 0) (ja_cons (je_tupZ ja_nil) ja_nil)))) ja_nil)) (ja_cons (je_lst ja_nil) ja_nil))) rfl hN (by decide) (by decide) (by decide))
    (jss_cons (js_while true hp (jt_cmp op_gt w_cmpI (je_callB call_len4 (w_len rfl) (by rfl) h.z_len (by rfl) (ja_cons (je_var 2) ja_nil)) je_int (by rfl)) (jss_cons (js_asgT (je_pop (je_var 2)) (jg_tup rfl (jgs_cons (jg_name hN) (jgs_cons (jg_name hN) (jgs_cons (jg_name hN) jgs_nil)))))
    (jss_cons (js_expr (je_app (je_var 3) (ja_cons (je_tup (ja_cons (je_var 4) (ja_cons (je_var 5) ja_nil))) ja_nil)))
    (jss_one (js_if (jt_val (je_isi kit_str (by rfl) h.z_isinstance (by rfl) (by rfl) h.z_str (by rfl) (je_var 5))) (jss_one (js_setix (hu_of hr) (je_if (jt_in (hu_of hr) (je_var 5) (je_var 6)) (je_tix (je_var 6) (ja_cons (je_var 5) ja_nil)) (je_var 5)) (je_var 1) (je_var 4))) (jss_one (js_if (jt_cmp (op_eqD hr.units) w_eq (je_sub (hu_of hr) (je_var 5) je_int) (je_gstr (by rfl) g_OF ⟨_, rfl⟩) (by rfl)) (jss_one (js_expr (je_ext (je_var 2) (ja_cons (je_lst (ja_cons (je_tup (ja_cons (je_op op_add4 w_add (je_var 4) (je_tup (ja_cons je_int ja_nil))) (ja_cons (je_sub (hu_of hr) (je_var 5) je_int) (ja_cons (je_var 6) ja_nil)))) (ja_cons (je_tup (ja_cons (je_op op_add4 w_add (je_var 4) (je_tup (ja_cons je_int ja_nil))) (ja_cons (je_sub (hu_of hr) (je_var 5) je_int) (ja_cons (je_var 6) ja_nil)))) ja_nil))) ja_nil)))) (jss_one (js_expr (je_app (je_var 2) (ja_cons (je_tup (ja_cons (je_op op_add4 w_add (je_var 4) (je_tup (ja_cons je_int ja_nil))) (ja_cons (je_sub (hu_of hr) (je_var 5) je_int) (ja_cons (je_op op_add4 w_add (je_tupZ (ja_cons (je_sub (hu_of hr) (je_var 5) je_int) ja_nil)) (je_var 6)) ja_nil)))) ja_nil)))))))))))
    (jss_cons (js_for true hp rfl (ji_any (je_rev (je_var 3))) (jg_tup rfl (jgs_cons (jg_name hN) (jgs_cons (jg_name hN) jgs_nil))) (jss_one (js_if (jt_not (jt_val (je_isi kit_str (by rfl) h.z_isinstance (by rfl) (by rfl) h.z_str (by rfl) (je_var 5)))) (jss_one (js_if (jt_cmp (op_eqD hr.units) w_eq (je_sub (hu_of hr) (je_var 5) je_int) (je_gstr (by rfl) g_OF ⟨_, rfl⟩) (by rfl)) (jss_one (js_setix (hu_of hr) (je_tup (ja_cons (je_gstr (by rfl) g_OF ⟨_, rfl⟩) (ja_cons (je_sub (hu_of hr) (je_var 1) (je_op op_add4 w_add (je_var 4) (je_tup (ja_cons je_int ja_nil)))) (ja_cons (je_sub (hu_of hr) (je_var 1) (je_op op_add4 w_add (je_var 4) (je_tup (ja_cons je_int ja_nil)))) ja_nil)))) (je_var 1) (je_var 4))) (jss_one (js_setix (hu_of hr) (je_tup (ja_cons (je_gstr (by rfl) g_WITH ⟨_, rfl⟩) (ja_cons (je_sub (hu_of hr) (je_var 1) (je_op op_add4 w_add (je_var 4) (je_tup (ja_cons je_int ja_nil)))) ja_nil))) (je_var 1) (je_var 4))))) jss_nil)))
    (jss_one (js_ret (je_sub (hu_of hr) (je_var 1) (je_tup ja_nil)))))))
theorem d22 (h : Top K mg fa fd) (C : All P w K mg base T fa fd k c) (cdv : Value) (A : Around) (outer : List Env) (s : Shared) (H : Hp) (E : XK) (hr : Room (k + 2) (A.deeper (envOfC "check_term" (defScope (topS 22)) s.heap.objs.size (fa 22) cdv))) :
    JSs (cxOf (L2.CX P w) P w K mg base ["thing"] "check_term" (defScope (topS 22)) (fa 22) cdv A outer s H E) T E (defBody (topS 22)) (PB.b_check_term c) := by
  have hN : (["thing"] : List Str).Nodup := sc22.nd
  have tk := takes_of (X := cxOf (L2.CX P w) P w K mg base ["thing"] "check_term" (defScope (topS 22)) (fa 22) cdv A outer s H E) (E := E) rfl rfl rfl rfl
  have hx : Passes (L2.CX P w) (cxOf (L2.CX P w) P w K mg base ["thing"] "check_term" (defScope (topS 22)) (fa 22) cdv A outer s H E) E := passes_call tk fun _ _ _ _ z => z
  have hp := passes_of (X := cxOf (L2.CX P w) P w K mg base ["thing"] "check_term" (defScope (topS 22)) (fa 22) cdv A outer s H E) rfl
  unfold PB.b_check_term
  exact (jss_one (js_if (jt_not (jt_val (je_call C.f21 hr hx h.m21 h.F21.kp h.b21 (ja_cons (je_var 0) ja_nil) (by rfl)))) (jss_one (js_raise rfl tk h.o_NoTerm h.i_NoTerm h.t_init C.init (hr.mono (Nat.le_add_left 2 k)) h.b_init passL (by rfl) h.m_NoTerm)) jss_nil))
theorem d31 (h : Top K mg fa fd) (C : All P w K mg base T fa fd k c) (cdv : Value) (A : Around) (outer : List Env) (s : Shared) (H : Hp) (E : XK) (hr : Room (k + 2) (A.deeper (envOfC "many_sized" (defScope (topS 31)) s.heap.objs.size (fa 31) cdv))) :
    JSs (cxOf (L2.CX P w) P w K mg base ["most", "bound", "found", "size", "row", "binding", "many", "one"] "many_sized" (defScope (topS 31)) (fa 31) cdv A outer s H E) T E (defBody (topS 31)) (PB.b_many_sized c) := by
  have hN : (["most", "bound", "found", "size", "row", "binding", "many", "one"] : List Str).Nodup := sc31.nd
  have tk := takes_of (X := cxOf (L2.CX P w) P w K mg base ["most", "bound", "found", "size", "row", "binding", "many", "one"] "many_sized" (defScope (topS 31)) (fa 31) cdv A outer s H E) (E := E) rfl rfl rfl rfl
  have hx : Passes (L2.CX P w) (cxOf (L2.CX P w) P w K mg base ["most", "bound", "found", "size", "row", "binding", "many", "one"] "many_sized" (defScope (topS 31)) (fa 31) cdv A outer s H E) E := passes_call tk fun _ _ _ _ z => z
  have hp := passes_of (X := cxOf (L2.CX P w) P w K mg base ["most", "bound", "found", "size", "row", "binding", "many", "one"] "many_sized" (defScope (topS 31)) (fa 31) cdv A outer s H E) rfl
  unfold PB.b_many_sized
  exact (jss_cons (js_asg (je_lst (ja_cons (je_op op_mul2 w_mul (je_lst (ja_cons je_int ja_nil)) (je_op op_add4 w_add (je_op op_add4 w_add (je_var 0) (je_var 1)) je_int)) ja_nil)) hN)
    (jss_cons (js_for true hp rfl (ji_rng2 (ja_cons je_int (ja_cons (je_op op_add4 w_add (je_var 0) je_int) ja_nil)) (by rfl) h.z_range) (jg_name hN) (jss_cons (js_asg (je_lst ja_nil) hN)
    (jss_cons (js_for true hp rfl (ji_rng1 (ja_cons (je_op op_add4 w_add (je_op op_add4 w_add (je_var 0) (je_var 1)) je_int) ja_nil) (by rfl) h.z_range) (jg_name hN) (jss_cons (js_asg (je_if (jt_cmp (op_eqD hr.units) w_eq (je_var 3) je_int (by rfl)) (je_var 5) je_int) hN)
    (jss_cons (js_if (jt_w (jw_and (jt_cmp op_gt w_cmpI (je_var 3) je_int (by rfl)) (jw_and1 (jt_cmp op_lt w_cmpI (je_op op_add4 w_add (je_var 5) je_int) (je_op op_add4 w_add (je_op op_add4 w_add (je_var 0) (je_var 1)) je_int) (by rfl))))) (jss_one (js_aug ip_add (je_sub (hu_of hr) (je_sub (hu_of hr) (je_var 2) (je_op op_sub w_sub (je_var 3) je_int)) (je_op op_add4 w_add (je_var 5) je_int)) hN)) jss_nil)
    (jss_cons (js_for true hp rfl (ji_rng2 (ja_cons je_int (ja_cons (je_op op_sub w_sub (je_var 3) je_int) ja_nil)) (by rfl) h.z_range) (jg_name hN) (jss_one (js_aug ip_add (je_op op_mul2 w_mul (je_sub (hu_of hr) (je_sub (hu_of hr) (je_var 2) (je_var 7)) (je_var 5)) (je_sub (hu_of hr) (je_sub (hu_of hr) (je_var 2) (je_op op_sub w_sub (je_op op_sub w_sub (je_var 3) je_int) (je_var 7))) (je_var 5))) hN)))
    (jss_one (js_expr (je_app (je_var 4) (ja_cons (je_var 6) ja_nil))))))))
    (jss_one (js_expr (je_app (je_var 2) (ja_cons (je_var 4) ja_nil)))))))
    (jss_one (js_ret (je_var 2)))))
theorem d8 (h : Top K mg fa fd) (C : All P w K mg base T fa fd k c) (cdv : Value) (A : Around) (outer : List Env) (s : Shared) (H : Hp) (E : XK) (hr : Room (k + 2) (A.deeper (envOfC "is_integer" (defScope (topS 8)) s.heap.objs.size (fa 8) cdv))) :
    JSs (cxOf (L2.CX P w) P w K mg base ["thing"] "is_integer" (defScope (topS 8)) (fa 8) cdv A outer s H E) T E (defBody (topS 8)) (PB.b_is_integer c) := by
  have hN : (["thing"] : List Str).Nodup := sc8.nd
  have tk := takes_of (X := cxOf (L2.CX P w) P w K mg base ["thing"] "is_integer" (defScope (topS 8)) (fa 8) cdv A outer s H E) (E := E) rfl rfl rfl rfl
  have hx : Passes (L2.CX P w) (cxOf (L2.CX P w) P w K mg base ["thing"] "is_integer" (defScope (topS 8)) (fa 8) cdv A outer s H E) E := passes_call tk fun _ _ _ _ z => z
  have hp := passes_of (X := cxOf (L2.CX P w) P w K mg base ["thing"] "is_integer" (defScope (topS 8)) (fa 8) cdv A outer s H E) rfl
  unfold PB.b_is_integer
  exact (jss_one (js_ret (je_and (je_isi kit_int (by rfl) h.z_isinstance (by rfl) (by rfl) h.z_int (by rfl) (je_var 0)) (je_one (je_not (je_isi kit_bool (by rfl) h.z_isinstance (by rfl) (by rfl) h.z_bool (by rfl) (je_var 0)))))))
theorem d14 (h : Top K mg fa fd) (C : All P w K mg base T fa fd k c) (cdv : Value) (A : Around) (outer : List Env) (s : Shared) (H : Hp) (E : XK) (hr : Room (k + 2) (A.deeper (envOfC "name_at" (defScope (topS 14)) s.heap.objs.size (fa 14) cdv))) :
    JSs (cxOf (L2.CX P w) P w K mg base ["number", "found", "left"] "name_at" (defScope (topS 14)) (fa 14) cdv A outer s H E) T E (defBody (topS 14)) (PB.b_name_at c) := by
  obtain ⟨t_SMALL, g_SMALL⟩ := h.g_SMALL
  have hN : (["number", "found", "left"] : List Str).Nodup := sc14.nd
  have tk := takes_of (X := cxOf (L2.CX P w) P w K mg base ["number", "found", "left"] "name_at" (defScope (topS 14)) (fa 14) cdv A outer s H E) (E := E) rfl rfl rfl rfl
  have hx : Passes (L2.CX P w) (cxOf (L2.CX P w) P w K mg base ["number", "found", "left"] "name_at" (defScope (topS 14)) (fa 14) cdv A outer s H E) E := passes_call tk fun _ _ _ _ z => z
  have hp := passes_of (X := cxOf (L2.CX P w) P w K mg base ["number", "found", "left"] "name_at" (defScope (topS 14)) (fa 14) cdv A outer s H E) rfl
  unfold PB.b_name_at
  exact (jss_cons (js_par (ja_cons je_str (ja_cons (je_op op_add4 w_add (je_var 0) je_int) ja_nil)) rfl hN (by decide))
    (jss_cons (js_while true hp (jt_cmp op_gt w_cmpI (je_var 2) je_int (by rfl)) (jss_cons (js_aug ip_sub je_int hN)
    (jss_one (js_par (ja_cons (je_op op_add4 w_add (je_sub (hu_of hr) (je_gstr (by rfl) g_SMALL ⟨_, rfl⟩) (je_op op_mod w_mod (je_var 2) je_int)) (je_var 1)) (ja_cons (je_op op_fdiv w_div (je_var 2) je_int) ja_nil)) rfl hN (by decide)))))
    (jss_one (js_ret (je_var 1)))))
theorem d24 (h : Top K mg fa fd) (C : All P w K mg base T fa fd k c) (cdv : Value) (A : Around) (outer : List Env) (s : Shared) (H : Hp) (E : XK) (hr : Room (k + 2) (A.deeper (envOfC "free_of_indexed" (defScope (topS 24)) s.heap.objs.size (fa 24) cdv))) :
    JSs (cxOf (L2.CX P w) P w K mg base ["thing", "found", "waiting", "part"] "free_of_indexed" (defScope (topS 24)) (fa 24) cdv A outer s H E) T E (defBody (topS 24)) (PB.b_free_of_indexed c) := by
  have hN : (["thing", "found", "waiting", "part"] : List Str).Nodup := sc24.nd
  have tk := takes_of (X := cxOf (L2.CX P w) P w K mg base ["thing", "found", "waiting", "part"] "free_of_indexed" (defScope (topS 24)) (fa 24) cdv A outer s H E) (E := E) rfl rfl rfl rfl
  have hx : Passes (L2.CX P w) (cxOf (L2.CX P w) P w K mg base ["thing", "found", "waiting", "part"] "free_of_indexed" (defScope (topS 24)) (fa 24) cdv A outer s H E) E := passes_call tk fun _ _ _ _ z => z
  have hp := passes_of (X := cxOf (L2.CX P w) P w K mg base ["thing", "found", "waiting", "part"] "free_of_indexed" (defScope (topS 24)) (fa 24) cdv A outer s H E) rfl
  unfold PB.b_free_of_indexed
  exact (jss_cons (js_par (ja_cons je_dK (ja_cons (je_lst (ja_cons (je_var 0) ja_nil)) ja_nil)) rfl hN (by decide))
    (jss_cons (js_while true hp (jt_cmp op_gt w_cmpI (je_callB call_len4 (w_len rfl) (by rfl) h.z_len (by rfl) (ja_cons (je_var 2) ja_nil)) je_int (by rfl)) (jss_cons (js_asg (je_pop (je_var 2)) hN)
    (jss_one (js_if (jt_val (je_isi kit_str (by rfl) h.z_isinstance (by rfl) (by rfl) h.z_str (by rfl) (je_var 3))) (jss_one (js_setix (hu_of hr) je_bl (je_var 1) (je_var 3))) (jss_one (js_if (jt_not (jt_val (je_call C.f8 hr hx h.m8 h.F8.kp h.b8 (ja_cons (je_var 3) ja_nil) (by rfl)))) (jss_one (js_expr (je_ext (je_var 2) (ja_cons (je_sl (je_var 3) (jo_some je_int) jo_none) ja_nil)))) jss_nil))))))
    (jss_one (js_ret (je_callB (call_sortedD rfl) w_sortK (by rfl) h.z_sorted (by rfl) (ja_cons (je_var 1) ja_nil))))))
theorem d26 (h : Top K mg fa fd) (C : All P w K mg base T fa fd k c) (cdv : Value) (A : Around) (outer : List Env) (s : Shared) (H : Hp) (E : XK) (hr : Room (k + 2) (A.deeper (envOfC "parts_of" (defScope (topS 26)) s.heap.objs.size (fa 26) cdv))) :
    JSs (cxOf (L2.CX P w) P w K mg base ["thing", "found", "spot", "path", "part", "deep", "more", "place", "one"] "parts_of" (defScope (topS 26)) (fa 26) cdv A outer s H E) T E (defBody (topS 26)) (PB.b_parts_of c) := by
  obtain ⟨t_WITH, g_WITH⟩ := h.g_WITH
  have hN : (["thing", "found", "spot", "path", "part", "deep", "more", "place", "one"] : List Str).Nodup := sc26.nd
  have tk := takes_of (X := cxOf (L2.CX P w) P w K mg base ["thing", "found", "spot", "path", "part", "deep", "more", "place", "one"] "parts_of" (defScope (topS 26)) (fa 26) cdv A outer s H E) (E := E) rfl rfl rfl rfl
  have hx : Passes (L2.CX P w) (cxOf (L2.CX P w) P w K mg base ["thing", "found", "spot", "path", "part", "deep", "more", "place", "one"] "parts_of" (defScope (topS 26)) (fa 26) cdv A outer s H E) E := passes_call tk fun _ _ _ _ z => z
  have hp := passes_of (X := cxOf (L2.CX P w) P w K mg base ["thing", "found", "spot", "path", "part", "deep", "more", "place", "one"] "parts_of" (defScope (topS 26)) (fa 26) cdv A outer s H E) rfl
  unfold PB.b_parts_of
  exact (jss_cons (js_par (ja_cons (je_lst (ja_cons (je_tup (ja_cons (je_tup ja_nil) (ja_cons (je_var 0) (ja_cons je_int ja_nil)))) ja_nil)) (ja_cons je_int ja_nil)) rfl hN (by decide))
    (jss_cons (js_while true hp (jt_cmp op_lt w_cmpI (je_var 2) (je_callB call_len4 (w_len rfl) (by rfl) h.z_len (by rfl) (ja_cons (je_var 1) ja_nil)) (by rfl)) (jss_cons (js_asgT (je_sub (hu_of hr) (je_var 1) (je_var 2)) (jg_tup rfl (jgs_cons (jg_name hN) (jgs_cons (jg_name hN) (jgs_cons (jg_name hN) jgs_nil)))))
    (jss_cons (js_aug ip_add je_int hN)
    (jss_one (js_if (jt_w (jw_and (jt_not (jt_val (je_isi kit_str (by rfl) h.z_isinstance (by rfl) (by rfl) h.z_str (by rfl) (je_var 4)))) (jw_and1 (jt_not (jt_val (je_call C.f8 hr hx h.m8 h.F8.kp h.b8 (ja_cons (je_var 4) ja_nil) (by rfl))))))) (jss_cons (js_asg (je_callTy call_int1 w_int (by rfl) h.z_int (by rfl) (ja_cons (je_cmp (op_eqD hr.units) w_eq (je_sub (hu_of hr) (je_var 4) je_int) (je_gstr (by rfl) g_WITH ⟨_, rfl⟩) (by rfl)) ja_nil)) hN)
    (jss_one (js_for true hp rfl (ji_en2 (ja_cons (je_sl (je_var 4) (jo_some je_int) jo_none) ja_nil) (by rfl) h.z_enumerate) (jg_tup rfl (jgs_cons (jg_name hN) (jgs_cons (jg_name hN) jgs_nil))) (jss_one (js_expr (je_app (je_var 1) (ja_cons (je_tup (ja_cons (je_op op_add4 w_add (je_var 3) (je_tup (ja_cons (je_var 7) ja_nil))) (ja_cons (je_var 8) (ja_cons (je_op op_add4 w_add (je_var 5) (je_var 6)) ja_nil)))) ja_nil))))))) jss_nil)))))
    (jss_one (js_ret (je_var 1)))))
theorem d38 (h : Top K mg fa fd) (C : All P w K mg base T fa fd k c) (cdv : Value) (A : Around) (outer : List Env) (s : Shared) (H : Hp) (E : XK) (hr : Room (k + 2) (A.deeper (envOfC "is_redex" (defScope (topS 38)) s.heap.objs.size (fa 38) cdv))) :
    JSs (cxOf (L2.CX P w) P w K mg base ["part"] "is_redex" (defScope (topS 38)) (fa 38) cdv A outer s H E) T E (defBody (topS 38)) (PB.b_is_redex c) := by
  obtain ⟨t_OF, g_OF⟩ := h.g_OF
  obtain ⟨t_WITH, g_WITH⟩ := h.g_WITH
  have hN : (["part"] : List Str).Nodup := sc38.nd
  have tk := takes_of (X := cxOf (L2.CX P w) P w K mg base ["part"] "is_redex" (defScope (topS 38)) (fa 38) cdv A outer s H E) (E := E) rfl rfl rfl rfl
  have hx : Passes (L2.CX P w) (cxOf (L2.CX P w) P w K mg base ["part"] "is_redex" (defScope (topS 38)) (fa 38) cdv A outer s H E) E := passes_call tk fun _ _ _ _ z => z
  have hp := passes_of (X := cxOf (L2.CX P w) P w K mg base ["part"] "is_redex" (defScope (topS 38)) (fa 38) cdv A outer s H E) rfl
  unfold PB.b_is_redex
  exact (jss_cons (js_if (jt_w (jw_or (jt_val (je_isi kit_str (by rfl) h.z_isinstance (by rfl) (by rfl) h.z_str (by rfl) (je_var 0))) (jw_or (jt_val (je_call C.f8 hr hx h.m8 h.F8.kp h.b8 (ja_cons (je_var 0) ja_nil) (by rfl))) (jw_or1 (jt_cmp (op_neD hr.units) w_ne (je_sub (hu_of hr) (je_var 0) je_int) (je_gstr (by rfl) g_OF ⟨_, rfl⟩) (by rfl)))))) (jss_one (js_ret je_bl)) jss_nil)
    (jss_one (js_ret (je_and (je_not (je_isi kit_str (by rfl) h.z_isinstance (by rfl) (by rfl) h.z_str (by rfl) (je_sub (hu_of hr) (je_var 0) je_int))) (je_and (je_not (je_call C.f8 hr hx h.m8 h.F8.kp h.b8 (ja_cons (je_sub (hu_of hr) (je_var 0) je_int) ja_nil) (by rfl))) (je_one (je_cmp (op_eqD hr.units) w_eq (je_sub (hu_of hr) (je_sub (hu_of hr) (je_var 0) je_int) je_int) (je_gstr (by rfl) g_WITH ⟨_, rfl⟩) (by rfl))))))))
theorem d21 (h : Top K mg fa fd) (C : All P w K mg base T fa fd k c) (cdv : Value) (A : Around) (outer : List Env) (s : Shared) (H : Hp) (E : XK) (hr : Room (k + 2) (A.deeper (envOfC "is_term" (defScope (topS 21)) s.heap.objs.size (fa 21) cdv))) :
    JSs (cxOf (L2.CX P w) P w K mg base ["thing", "waiting", "many", "part", "deep", "inner", "is_right", "one"] "is_term" (defScope (topS 21)) (fa 21) cdv A outer s H E) T E (defBody (topS 21)) (PB.b_is_term c) := by
  obtain ⟨t_MOST_DEEP, g_MOST_DEEP⟩ := h.g_MOST_DEEP
  obtain ⟨t_MOST_SIZE_terms, g_MOST_SIZE_terms⟩ := h.g_MOST_SIZE_terms
  have hN : (["thing", "waiting", "many", "part", "deep", "inner", "is_right", "one"] : List Str).Nodup := sc21.nd
  have tk := takes_of (X := cxOf (L2.CX P w) P w K mg base ["thing", "waiting", "many", "part", "deep", "inner", "is_right", "one"] "is_term" (defScope (topS 21)) (fa 21) cdv A outer s H E) (E := E) rfl rfl rfl rfl
  have hx : Passes (L2.CX P w) (cxOf (L2.CX P w) P w K mg base ["thing", "waiting", "many", "part", "deep", "inner", "is_right", "one"] "is_term" (defScope (topS 21)) (fa 21) cdv A outer s H E) E := passes_call tk fun _ _ _ _ z => z
  have hp := passes_of (X := cxOf (L2.CX P w) P w K mg base ["thing", "waiting", "many", "part", "deep", "inner", "is_right", "one"] "is_term" (defScope (topS 21)) (fa 21) cdv A outer s H E) rfl
  unfold PB.b_is_term
  exact (jss_cons (js_par (ja_cons (je_lst (ja_cons (je_tup (ja_cons (je_var 0) (ja_cons je_int ja_nil))) ja_nil)) (ja_cons je_int ja_nil)) rfl hN (by decide))
    (jss_cons (js_while true hp (jt_cmp op_gt w_cmpI (je_callB call_len4 (w_len rfl) (by rfl) h.z_len (by rfl) (ja_cons (je_var 1) ja_nil)) je_int (by rfl)) (jss_cons (js_asgT (je_pop (je_var 1)) (jg_tup rfl (jgs_cons (jg_name hN) (jgs_cons (jg_name hN) jgs_nil))))
    (jss_cons (js_aug ip_add je_int hN)
    (jss_cons (js_asgT (je_call C.f20 hr hx h.m20 h.F20.kp h.b20 (ja_cons (je_var 3) ja_nil) (by rfl)) (jg_tup rfl (jgs_cons (jg_name hN) (jgs_cons (jg_name hN) jgs_nil))))
    (jss_cons (js_if (jt_w (jw_or (jt_not (jt_val (je_var 6))) (jw_or (jt_cmp op_gt w_cmpI (je_var 4) (je_gint (by rfl) g_MOST_DEEP ⟨_, rfl⟩) (by rfl)) (jw_or1 (jt_cmp op_gt w_cmpI (je_var 2) (je_gint (by rfl) g_MOST_SIZE_terms ⟨_, rfl⟩) (by rfl)))))) (jss_one (js_ret je_bl)) jss_nil)
    (jss_one (js_expr (je_ext (je_var 1) (ja_cons (je_lc rfl hN (ji_any (je_var 5)) (@blkOk_by ["thing", "waiting", "many", "part", "deep", "inner", "is_right", "one"] (defScope (topS 21)) _ [("one", 7)] (by decide +kernel)) rfl (fun _ _ _ _ _ => by exact (jgc_name hN)) (fun _ _ _ _ _ => by exact jts_nil) (fun _ _ _ _ _ => by exact (je_tup (ja_cons (je_var 7) (ja_cons (je_op op_add4 w_add (je_var 4) je_int) ja_nil))))) ja_nil)))))))))
    (jss_one (js_ret je_bl))))
theorem d20 (h : Top K mg fa fd) (C : All P w K mg base T fa fd k c) (cdv : Value) (A : Around) (outer : List Env) (s : Shared) (H : Hp) (E : XK) (hr : Room (k + 2) (A.deeper (envOfC "forms_of" (defScope (topS 20)) s.heap.objs.size (fa 20) cdv))) :
    JSs (cxOf (L2.CX P w) P w K mg base ["thing"] "forms_of" (defScope (topS 20)) (fa 20) cdv A outer s H E) T E (defBody (topS 20)) (PB.b_forms_of c) := by
  obtain ⟨t_OF, g_OF⟩ := h.g_OF
  obtain ⟨t_WITH, g_WITH⟩ := h.g_WITH
  have hN : (["thing"] : List Str).Nodup := sc20.nd
  have tk := takes_of (X := cxOf (L2.CX P w) P w K mg base ["thing"] "forms_of" (defScope (topS 20)) (fa 20) cdv A outer s H E) (E := E) rfl rfl rfl rfl
  have hx : Passes (L2.CX P w) (cxOf (L2.CX P w) P w K mg base ["thing"] "forms_of" (defScope (topS 20)) (fa 20) cdv A outer s H E) E := passes_call tk fun _ _ _ _ z => z
  have hp := passes_of (X := cxOf (L2.CX P w) P w K mg base ["thing"] "forms_of" (defScope (topS 20)) (fa 20) cdv A outer s H E) rfl
  unfold PB.b_forms_of
  exact (jss_cons (js_if (jt_val (je_call C.f10 hr hx h.m10 h.F10.kp h.b10 (ja_cons (je_var 0) ja_nil) (by rfl))) (jss_one (js_ret (je_tup (ja_cons (je_tup ja_nil) (ja_cons je_bl ja_nil))))) jss_nil)
    (jss_cons (js_if (jt_val (je_call C.f12 hr hx h.m12 h.F12.kp h.b12 (ja_cons (je_var 0) (ja_cons (je_gstr (by rfl) g_OF ⟨_, rfl⟩) (ja_cons je_int ja_nil))) (by rfl))) (jss_one (js_ret (je_tup (ja_cons (je_sl (je_var 0) (jo_some je_int) jo_none) (ja_cons je_bl ja_nil))))) jss_nil)
    (jss_cons (js_if (jt_w (jw_and (jt_val (je_call C.f12 hr hx h.m12 h.F12.kp h.b12 (ja_cons (je_var 0) (ja_cons (je_gstr (by rfl) g_WITH ⟨_, rfl⟩) (ja_cons je_int ja_nil))) (by rfl))) (jw_and1 (jt_val (je_call C.f10 hr hx h.m10 h.F10.kp h.b10 (ja_cons (je_sub (hu_of hr) (je_var 0) je_int) ja_nil) (by rfl)))))) (jss_one (js_ret (je_tup (ja_cons (je_sl (je_var 0) (jo_some je_int) jo_none) (ja_cons je_bl ja_nil))))) jss_nil)
    (jss_one (js_ret (je_tup (ja_cons (je_tup ja_nil) (ja_cons je_bl ja_nil))))))))
theorem d12 (h : Top K mg fa fd) (C : All P w K mg base T fa fd k c) (cdv : Value) (A : Around) (outer : List Env) (s : Shared) (H : Hp) (E : XK) (hr : Room (k + 2) (A.deeper (envOfC "is_headed" (defScope (topS 12)) s.heap.objs.size (fa 12) cdv))) :
    JSs (cxOf (L2.CX P w) P w K mg base ["thing", "word", "size"] "is_headed" (defScope (topS 12)) (fa 12) cdv A outer s H E) T E (defBody (topS 12)) (PB.b_is_headed c) := by
  have hN : (["thing", "word", "size"] : List Str).Nodup := sc12.nd
  have tk := takes_of (X := cxOf (L2.CX P w) P w K mg base ["thing", "word", "size"] "is_headed" (defScope (topS 12)) (fa 12) cdv A outer s H E) (E := E) rfl rfl rfl rfl
  have hx : Passes (L2.CX P w) (cxOf (L2.CX P w) P w K mg base ["thing", "word", "size"] "is_headed" (defScope (topS 12)) (fa 12) cdv A outer s H E) E := passes_call tk fun _ _ _ _ z => z
  have hp := passes_of (X := cxOf (L2.CX P w) P w K mg base ["thing", "word", "size"] "is_headed" (defScope (topS 12)) (fa 12) cdv A outer s H E) rfl
  unfold PB.b_is_headed
  exact (jss_one (js_ret (je_and (je_call C.f11 hr hx h.m11 h.F11.kp h.b11 (ja_cons (je_var 0) (ja_cons (je_var 2) ja_nil)) (by rfl)) (je_and (je_isi kit_str (by rfl) h.z_isinstance (by rfl) (by rfl) h.z_str (by rfl) (je_sub (hu_of hr) (je_var 0) je_int)) (je_one (je_cmp (op_eqD hr.units) w_eq (je_sub (hu_of hr) (je_var 0) je_int) (je_var 1) (by rfl)))))))
theorem d10 (h : Top K mg fa fd) (C : All P w K mg base T fa fd k c) (cdv : Value) (A : Around) (outer : List Env) (s : Shared) (H : Hp) (E : XK) (hr : Room (k + 2) (A.deeper (envOfC "is_name" (defScope (topS 10)) s.heap.objs.size (fa 10) cdv))) :
    JSs (cxOf (L2.CX P w) P w K mg base ["thing", "sign"] "is_name" (defScope (topS 10)) (fa 10) cdv A outer s H E) T E (defBody (topS 10)) (PB.b_is_name c) := by
  obtain ⟨t_LONGEST, g_LONGEST⟩ := h.g_LONGEST
  obtain ⟨t_SMALL, g_SMALL⟩ := h.g_SMALL
  have hN : (["thing", "sign"] : List Str).Nodup := sc10.nd
  have tk := takes_of (X := cxOf (L2.CX P w) P w K mg base ["thing", "sign"] "is_name" (defScope (topS 10)) (fa 10) cdv A outer s H E) (E := E) rfl rfl rfl rfl
  have hx : Passes (L2.CX P w) (cxOf (L2.CX P w) P w K mg base ["thing", "sign"] "is_name" (defScope (topS 10)) (fa 10) cdv A outer s H E) E := passes_call tk fun _ _ _ _ z => z
  have hp := passes_of (X := cxOf (L2.CX P w) P w K mg base ["thing", "sign"] "is_name" (defScope (topS 10)) (fa 10) cdv A outer s H E) rfl
  unfold PB.b_is_name
  exact (jss_one (js_ret (je_and (je_isi kit_str (by rfl) h.z_isinstance (by rfl) (by rfl) h.z_str (by rfl) (je_var 0)) (je_and (je_chain op_le w_cmpI op_le w_cmpI je_int (je_callB call_len4 (w_len rfl) (by rfl) h.z_len (by rfl) (ja_cons (je_var 0) ja_nil)) (je_gint (by rfl) g_LONGEST ⟨_, rfl⟩)) (je_one (je_callB (cr_all rfl) w_all (by rfl) h.z_all (by rfl) (ja_cons (je_lc rfl hN (ji_any (je_var 0)) (@blkOk_by ["thing", "sign"] (defScope (topS 10)) _ [("sign", 1)] (by decide +kernel)) rfl (fun _ _ _ _ _ => by exact (jgc_name hN)) (fun _ _ _ _ _ => by exact jts_nil) (fun _ _ _ _ _ => by exact (je_in (hu_of hr) (je_var 1) (je_gstr (by rfl) g_SMALL ⟨_, rfl⟩)))) ja_nil)))))))
theorem d11 (h : Top K mg fa fd) (C : All P w K mg base T fa fd k c) (cdv : Value) (A : Around) (outer : List Env) (s : Shared) (H : Hp) (E : XK) (hr : Room (k + 2) (A.deeper (envOfC "is_tuple" (defScope (topS 11)) s.heap.objs.size (fa 11) cdv))) :
    JSs (cxOf (L2.CX P w) P w K mg base ["thing", "size"] "is_tuple" (defScope (topS 11)) (fa 11) cdv A outer s H E) T E (defBody (topS 11)) (PB.b_is_tuple c) := by
  have hN : (["thing", "size"] : List Str).Nodup := sc11.nd
  have tk := takes_of (X := cxOf (L2.CX P w) P w K mg base ["thing", "size"] "is_tuple" (defScope (topS 11)) (fa 11) cdv A outer s H E) (E := E) rfl rfl rfl rfl
  have hx : Passes (L2.CX P w) (cxOf (L2.CX P w) P w K mg base ["thing", "size"] "is_tuple" (defScope (topS 11)) (fa 11) cdv A outer s H E) E := passes_call tk fun _ _ _ _ z => z
  have hp := passes_of (X := cxOf (L2.CX P w) P w K mg base ["thing", "size"] "is_tuple" (defScope (topS 11)) (fa 11) cdv A outer s H E) rfl
  unfold PB.b_is_tuple
  exact (jss_one (js_ret (je_and (je_isi kit_tuple (by rfl) h.z_isinstance (by rfl) (by rfl) h.z_tuple (by rfl) (je_var 0)) (je_one (je_cmp (op_eqD hr.units) w_eq (je_callB call_len4 (w_len rfl) (by rfl) h.z_len (by rfl) (ja_cons (je_var 0) ja_nil)) (je_var 1) (by rfl))))))
theorem all_step (h : Top K mg fa fd) (C : All P w K mg base T fa fd k c) : All P w K mg base T fa fd (k + 1) (PB.bod c) where
  f8 := fn_ok h.F8 sc8 (d8 h C)
  f9 := fn_ok h.F9 sc9 (d9 h C)
  f10 := fn_ok h.F10 sc10 (d10 h C)
  f11 := fn_ok h.F11 sc11 (d11 h C)
  f12 := fn_ok h.F12 sc12 (d12 h C)
  f13 := fn_ok h.F13 sc13 (d13 h C)
  f14 := fn_ok h.F14 sc14 (d14 h C)
  f20 := fn_ok h.F20 sc20 (d20 h C)
  f21 := fn_ok h.F21 sc21 (d21 h C)
  f22 := fn_ok h.F22 sc22 (d22 h C)
  f23 := fn_ok h.F23 sc23 (d23 h C)
  f24 := fn_ok h.F24 sc24 (d24 h C)
  f25 := fn_ok h.F25 sc25 (d25 h C)
  f26 := fn_ok h.F26 sc26 (d26 h C)
  f31 := fn_ok h.F31 sc31 (d31 h C)
  f32 := fn_ok h.F32 sc32 (d32 h C)
  f33 := fn_ok h.F33 sc33 (d33 h C)
  f34 := fn_ok h.F34 sc34 (d34 h C)
  f35 := fn_ok h.F35 sc35 (d35 h C)
  f36 := fn_ok h.F36 sc36 (d36 h C)
  f38 := fn_ok h.F38 sc38 (d38 h C)
  f39 := fn_ok h.F39 sc39 (d39 h C)
  f40 := fn_ok h.F40 sc40 (d40 h C)
  f42 := fn_ok h.F42 sc42 (d42 h C)
  f43 := fn_ok h.F43 sc43 (d43 h C)
  f44 := fn_ok h.F44 sc44 (d44 h C)
  f45 := fn_ok h.F45 sc45 (d45 h C)
  f46 := fn_ok h.F46 sc46 (d46 h C)
  f48 := fn_ok h.F48 sc48 (d48 h C)
  f49 := fn_ok h.F49 sc49 (d49 h C)
  init := C.init
theorem all_zero (hi : FnOk P w K mg base (L2.CX P w) 1 (fa 0) (fd 0) ["self"] (spI K)) : All P w K mg base T fa fd 0 (PB.M 0) where
  f8 := fn_none rfl
  f9 := fn_none rfl
  f10 := fn_none rfl
  f11 := fn_none rfl
  f12 := fn_none rfl
  f13 := fn_none rfl
  f14 := fn_none rfl
  f20 := fn_none rfl
  f21 := fn_none rfl
  f22 := fn_none rfl
  f23 := fn_none rfl
  f24 := fn_none rfl
  f25 := fn_none rfl
  f26 := fn_none rfl
  f31 := fn_none rfl
  f32 := fn_none rfl
  f33 := fn_none rfl
  f34 := fn_none rfl
  f35 := fn_none rfl
  f36 := fn_none rfl
  f38 := fn_none rfl
  f39 := fn_none rfl
  f40 := fn_none rfl
  f42 := fn_none rfl
  f43 := fn_none rfl
  f44 := fn_none rfl
  f45 := fn_none rfl
  f46 := fn_none rfl
  f48 := fn_none rfl
  f49 := fn_none rfl
  init := hi
theorem all_M (h : Top K mg fa fd) (hi : FnOk P w K mg base (L2.CX P w) 1 (fa 0) (fd 0) ["self"] (spI K)) : ∀ k, All P w K mg base T fa fd k (PB.M k)
  | 0 => all_zero hi
  | k + 1 => all_step h (all_M h hi k)
end
end K75
namespace K75
open PySem PySem.Spec L2 RZ PM
open PyProof.Rows (envOfC AllBare)
/- law -/
def b_law_1 (c : Nat → MF) : MS :=
  (sSeq (sIf (tNotM (tst (eFn 1 (c 3) (aCons (eVar 1) aNil)))) (sRet (eC (.bl false))) sNil)
    (sSeq (sAsg 3 (eLst (aCons (eSaid onN (eFn 2 (c 2) (aCons (eFn 2 (c 1) (aCons (eVar 1) (aCons (eLst (aCons (eC (.int 41)) (aCons (eUn opNeg (eC (.int 1))) (aCons (eC .non) (aCons (eC (.bl true)) (aCons (eC (.str "2")) aNil)))))) aNil))) (aCons (eC (.int 0)) aNil)))) aNil)))
    (sSeq (sExpr (eMeth isL appW (eVar 3) (aCons (eSaid onN (eFn 2 (c 2) (aCons (eC (.int 3)) (aCons (eFn 2 (c 1) (aCons (eVar 1) (aCons (eLst (aCons (eC (.int 7)) (aCons (eUn opNeg (eC (.int 1))) (aCons (eC .non) (aCons (eC (.bl true)) (aCons (eC (.str "0")) aNil)))))) aNil))) aNil)))) aNil)))
    (sIf (tst (eBin cmpNe (eVar 3) (eLst (aCons (eC (.str "number")) (aCons (eC (.str "number")) aNil))))) (sRet (eC (.bl false))) sNil))))
def b_law (c : Nat → MF) : MS :=
  (sSeq (sAsg 1 (eFn 1 (c 4) (aCons (eVar 0) aNil)))
    (sSeq (sIf (tOrM (tst (eBin cmpNe (eLc (iRg2 (aCons (eC (.int 1)) (aCons (eC (.int 6)) aNil))) (bName 4) tTru (eFn 2 (c 2) (aCons (eVar 4) (aCons (eC (.int 0)) aNil))) [4]) (eLst (aCons (eC (.int 0)) (aCons (eC (.int 1)) (aCons (eC (.int 2)) (aCons (eC (.int 4)) (aCons (eC (.int 10)) aNil)))))))) (tst (eBin cmpNe (eFn 2 (c 2) (aCons (eC (.int 1)) (aCons (eC (.int 3)) aNil))) (eC (.int 3))))) (sRet (eC (.bl false))) sNil)
    (sSeq (sFor true (iRg1 (aCons (eC (.int 3)) aNil)) (bName 2) (b_law_1 c))
    (sRet (eC (.bl true))))))
theorem x_law_1 {c : Nat → MF} {d : Env1} {S : Store} : b_law_1 c d S = (sSeq (sIf (tNotM (tst (eFn 1 (c 3) (aCons (eVar 1) aNil)))) (sRet (eC (.bl false))) sNil)
    (sSeq (sAsg 3 (eLst (aCons (eSaid onN (eFn 2 (c 2) (aCons (eFn 2 (c 1) (aCons (eVar 1) (aCons (eLst (aCons (eC (.int 41)) (aCons (eUn opNeg (eC (.int 1))) (aCons (eC .non) (aCons (eC (.bl true)) (aCons (eC (.str "2")) aNil)))))) aNil))) (aCons (eC (.int 0)) aNil)))) aNil)))
    (sSeq (sExpr (eMeth isL appW (eVar 3) (aCons (eSaid onN (eFn 2 (c 2) (aCons (eC (.int 3)) (aCons (eFn 2 (c 1) (aCons (eVar 1) (aCons (eLst (aCons (eC (.int 7)) (aCons (eUn opNeg (eC (.int 1))) (aCons (eC .non) (aCons (eC (.bl true)) (aCons (eC (.str "0")) aNil)))))) aNil))) aNil)))) aNil)))
    (sIf (tst (eBin cmpNe (eVar 3) (eLst (aCons (eC (.str "number")) (aCons (eC (.str "number")) aNil))))) (sRet (eC (.bl false))) sNil)))) d S := rfl
section
variable {P : Program} {w : World} {K : PySem.W.Frag} {mg : Str → Option Value} {base : Heap} {T : List (Addr × Str)} {fa : Nat → Addr} {fd : Nat → FuncData} {k : Nat} {c : Nat → MF}
def qL : Str := (envOfC "law" (defScope (topS 50)) 0 0 .none).qual ++ "<lambda>"
theorem d50 {fL cL PL aT aM aN : Addr} (h : Top K mg fa fd) (C : All P w K mg base [(PL, qL)] fa fd k c) (hF : SaidF K mg aT aM aN) (TB : LamX.TabB base mg cL PL) (A : Around) (outer : List Env) (s : Shared) (H : Hp) (E : XK) (hr4 : Room (k + 4) (A.deeper (envOfC "law" (defScope (topS 50)) s.heap.objs.size fL (.ref cL)))) :
    JSs (cxOf (L2.CX P w) P w K mg base ["script", "hand", "lap", "words", "parts"] "law" (defScope (topS 50)) fL (.ref cL) A outer s H E) [(PL, qL)] E (defBody (topS 50)) (b_law c) := by
  have hN : (["script", "hand", "lap", "words", "parts"] : List Str).Nodup := sc50.nd
  have tk := takes_of (X := cxOf (L2.CX P w) P w K mg base ["script", "hand", "lap", "words", "parts"] "law" (defScope (topS 50)) fL (.ref cL) A outer s H E) (E := E) rfl rfl rfl rfl
  have hx : Passes (L2.CX P w) (cxOf (L2.CX P w) P w K mg base ["script", "hand", "lap", "words", "parts"] "law" (defScope (topS 50)) fL (.ref cL) A outer s H E) E := passes_call tk fun _ _ _ _ z => z
  have hp := passes_of (X := cxOf (L2.CX P w) P w K mg base ["script", "hand", "lap", "words", "parts"] "law" (defScope (topS 50)) fL (.ref cL) A outer s H E) rfl
  have hr := hr4.mono (show k + 2 ≤ k + 4 by omega)
  obtain ⟨oc47, od47, kV47, doc47, pm47, an47, cd47, ct47, osl47, e47, lk47, hc47⟩ := h.F47.ex
  have b47 := h.b47
  rw [e47] at lk47 b47
  unfold b_law
  exact (jss_cons (js_asg (je_call C.f42 hr hx h.m42 h.F42.kp h.b42 (ja_cons (je_var 0) ja_nil) (by rfl)) hN)
    (jss_cons (js_if (jt_w (jw_or (jt_cmp (op_neD hr.units) w_ne (je_lc rfl hN (ji_rng2 (ja_cons je_int (ja_cons je_int ja_nil)) (by rfl) h.z_range) (@blkOk_by ["script", "hand", "lap", "words", "parts"] (defScope (topS 50)) _ [("parts", 4)] (by decide +kernel)) rfl (fun _ _ _ _ _ => by exact (jgc_name hN)) (fun _ _ _ _ _ => by exact jts_nil) (fun _ _ _ _ _ => by exact (je_call C.f34 hr passL h.m34 h.F34.kp h.b34 (ja_cons (je_var 4) (ja_cons je_int ja_nil)) (by rfl)))) (je_lst (ja_cons je_int (ja_cons je_int (ja_cons je_int (ja_cons je_int (ja_cons je_int ja_nil)))))) (by rfl)) (jw_or1 (jt_cmp (op_neD hr.units) w_ne (je_call C.f34 hr hx h.m34 h.F34.kp h.b34 (ja_cons je_int (ja_cons je_int ja_nil)) (by rfl)) je_int (by rfl))))) (jss_one (js_ret je_bl)) jss_nil)
    (jss_cons (js_for true hp rfl (ji_rng1 (ja_cons je_int ja_nil) (by rfl) h.z_range) (jg_name hN) (jss_cons (js_if (jt_not (jt_val (je_call C.f49 hr hx h.m49 h.F49.kp h.b49 (ja_cons (je_var 1) ja_nil) (by rfl)))) (jss_one (js_ret je_bl)) jss_nil)
    (jss_cons (js_asg (je_lst (ja_cons (je_said (said_gives hF) lk47 hc47 b47 sc47 TB rfl (List.mem_singleton.mpr rfl) (fun p hp _ => by rw [List.mem_singleton.mp hp]; rfl) hr4 (@LamX.lamS_by (defScope (topS 50)) _ (by decide +kernel)) h.m47 h.F47.kp rfl (fun _ _ _ _ _ => rfl) (fun _ _ _ _ _ _ _ hr => by exact (je_call C.f34 hr (passes_call (takes_of rfl rfl rfl rfl) fun _ _ _ _ z => z) h.m34 h.F34.kp h.b34 (ja_cons (je_call C.f44 hr (passes_call (takes_of rfl rfl rfl rfl) fun _ _ _ _ z => z) h.m44 h.F44.kp h.b44 (ja_cons (je_var 1) (ja_cons (je_lst (ja_cons je_int (ja_cons (je_neg je_int) (ja_cons je_non (ja_cons je_bl (ja_cons je_str ja_nil)))))) ja_nil)) (by rfl)) (ja_cons je_int ja_nil)) (by rfl))) (by rfl) rfl (.inl rfl) (by decide) (by decide) (by decide)) ja_nil)) hN)
    (jss_cons (js_expr (je_app (je_var 3) (ja_cons (je_said (said_gives hF) lk47 hc47 b47 sc47 TB rfl (List.mem_singleton.mpr rfl) (fun p hp _ => by rw [List.mem_singleton.mp hp]; rfl) hr4 (@LamX.lamS_by (defScope (topS 50)) _ (by decide +kernel)) h.m47 h.F47.kp rfl (fun _ _ _ _ _ => rfl) (fun _ _ _ _ _ _ _ hr => by exact (je_call C.f34 hr (passes_call (takes_of rfl rfl rfl rfl) fun _ _ _ _ z => z) h.m34 h.F34.kp h.b34 (ja_cons je_int (ja_cons (je_call C.f44 hr (passes_call (takes_of rfl rfl rfl rfl) fun _ _ _ _ z => z) h.m44 h.F44.kp h.b44 (ja_cons (je_var 1) (ja_cons (je_lst (ja_cons je_int (ja_cons (je_neg je_int) (ja_cons je_non (ja_cons je_bl (ja_cons je_str ja_nil)))))) ja_nil)) (by rfl)) ja_nil)) (by rfl))) (by rfl) rfl (.inl rfl) (by decide) (by decide) (by decide)) ja_nil)))
    (jss_one (js_if (jt_cmp (op_neD hr.units) w_ne (je_var 3) (je_lst (ja_cons je_str (ja_cons je_str ja_nil))) (by rfl)) (jss_one (js_ret je_bl)) jss_nil))))))
    (jss_one (js_ret je_bl)))))
end
end K75
namespace K75
open PySem PySem.Spec L2 PM PB
def saidC (on : Str → Option Str) (m : Nat) (r : Res W) : Res W := match r with
  | .ok _ S' => .ok (.str "let") (S'.take m)
  | .exc x S' => match x.fs with
    | [] => match on x.name with
      | some w => .ok (.str w) (S'.take m)
      | none => .bad
    | _ => .bad
  | .bad => .bad
theorem e_said {on : Str → Option Str} {f : ME} {d : Env1} {S : Store} : eSaid on f d S = saidC on S.length (f d S) := by
  unfold eSaid saidC
  cases f d S <;> rfl
theorem said_no {m : Nat} {S : Store} : saidC onN m (.exc ⟨"NoNumber", []⟩ S) = .ok (.str "number") (S.take m) := by
  show (match onN "NoNumber" with | some w => Res.ok (W.str w) (S.take m) | none => .bad) = _
  have e : onN "NoNumber" = some ("number" : Str) := by decide
  rw [e]
theorem e_un {ρ : W → Store → Res W} {f : ME} {d : Env1} {S : Store} : eUn ρ f d S = (f d S).bind ρ := rfl
theorem neg_int {i : Int} {S : Store} : opNeg (.int i) S = .ok (.int (-i)) S := rfl
theorem so_number : sOk "number" = true := by decide +kernel
/-- what is no number -/
def badN (lo hi : Int) : W → Bool
  | .int i => decide (i < lo) || decide (hi < i)
  | .non => true
  | .bl _ => true
  | .str _ => true
  | _ => false
theorem check_bad {k : Nat} {S : Store} {lo hi : Int} {w : W} (h : badN lo hi w = true) : M (k + 3) 6 [w, .int lo, .int hi] S = .exc ⟨"NoNumber", []⟩ S := by
  rw [PB.u_check_number PB.good]
  unfold PB.b_check_number
  have e : M (k + 2) 14 [w, .int lo, .int hi] S = .ok (.bl false) S := by
    rw [PB.u_is_within PB.good]
    unfold PB.b_is_within
    cases w with
    | int i =>
      have h : (decide (i < lo) || decide (hi < i)) = true := h
      simp_arith [is_integer_int PB.good]
      by_cases z : lo ≤ i
      · have z2 : ¬ i ≤ hi := by
          simp only [Bool.or_eq_true, decide_eq_true_eq] at h
          omega
        simp_arith [z, z2]
      · simp_arith [z]
    | non =>
      simp_arith [PB.u_is_integer PB.good]
      unfold PB.b_is_integer
      simp_arith
    | bl b =>
      simp_arith [PB.u_is_integer PB.good]
      unfold PB.b_is_integer
      simp_arith
    | str x => simp_arith [is_integer_str PB.good]
    | _ => cases h
  simp_arith [e]
theorem me_bad1 {k : Nat} {S : Store} {w u : W} (h : badN 1 40 w = true) : M (k + 4) 2 [w, u] S = .exc ⟨"NoNumber", []⟩ S := by
  rw [PB.u_many_ends PB.good]
  unfold PB.b_many_ends
  simp_arith [check_bad h]
theorem me_bad2 {k : Nat} {S : Store} {w : W} (h : badN 0 6 w = true) : M (k + 4) 2 [.int 3, w] S = .exc ⟨"NoNumber", []⟩ S := by
  rw [PB.u_many_ends PB.good]
  unfold PB.b_many_ends
  simp_arith [check_bad h, check_number_ok PB.good (i := 1) (j := 3) (n := 40) (by omega) (by omega)]
theorem law_loop {k : Nat} {ns : List Int} : ∀ (c o : Nat) (h : Cell) (a2 : Option W), o + c = 3 → HC h → (∀ K, keepO K a2 = a2) →
    ∃ h' b2, forW true 1 (bName 2) (b_law_1 (M (k + 8))) [] (rngL (o : Nat) 3) [some (.scr ns), some (.loc 0), a2, none, none] [h] = .next [some (.scr ns), some (.loc 0), b2, none, none] [h']
  | 0, o, h, a2, e, hh, k2 => by
    refine ⟨h, a2, ?_⟩
    rw [rng_nil (by omega)]
    simp_arith
  | c + 1, o, h, a2, e, hh, k2 => by
    obtain ⟨h1, hh1, e1⟩ := N75.right_ok (k := k) (rest := []) hh
    obtain ⟨i, w, h2, hw, hh2, e2⟩ := any_ok (k := k + 6) (m := 0) (c := h1) (rest := [.lst [.int 41, .int (-1), .non, .bl true, .str "2"]]) (ws := [.int 41, .int (-1), .non, .bl true, .str "2"]) hh1 rfl (by decide) (by decide) (by decide)
    obtain ⟨j, u, h3, hu, hh3, e3⟩ := any_ok (k := k + 6) (m := 1) (c := h2) (rest := [.lst [.str "number"], .lst [.int 7, .int (-1), .non, .bl true, .str "0"]]) (ws := [.int 7, .int (-1), .non, .bl true, .str "0"]) hh2 rfl (by decide) (by decide) (by decide)
    have b1 : badN 1 40 w = true := by
      match i, hw with
      | 0, hw => rw [← Option.some.inj hw]; decide
      | 1, hw => rw [← Option.some.inj hw]; decide
      | 2, hw => rw [← Option.some.inj hw]; decide
      | 3, hw => rw [← Option.some.inj hw]; decide
      | 4, hw => rw [← Option.some.inj hw]; decide
    have b2 : badN 0 6 u = true := by
      match j, hu with
      | 0, hw => rw [← Option.some.inj hw]; decide
      | 1, hw => rw [← Option.some.inj hw]; decide
      | 2, hw => rw [← Option.some.inj hw]; decide
      | 3, hw => rw [← Option.some.inj hw]; decide
      | 4, hw => rw [← Option.some.inj hw]; decide
    obtain ⟨h', c2, ih⟩ := law_loop (k := k) (ns := ns) c (o + 1) h3 (some (.int (o : Nat))) (by omega) hh3 (fun _ => rfl)
    refine ⟨h', c2, ?_⟩
    have e4 : ((o : Nat) : Int) + 1 = ((o + 1 : Nat) : Int) := by omega
    rw [rng_cons (by omega), e4]
    have im : W.immL [.int 41, .int (-1), .non, .bl true, .str "2"] = true := by decide
    have im2 : W.immL [.int 7, .int (-1), .non, .bl true, .str "0"] = true := by decide
    have ln : [W.int 41, .int (-1), .non, .bl true, .str "2"].length ≤ LN := by decide
    have ln2 : [W.int 7, .int (-1), .non, .bl true, .str "0"].length ≤ LN := by decide
    simp_arith [x_law_1, e1, e_said, e_un, neg_int, lst_imm im ln, lst_imm im2 ln2, e2, e3, me_bad1 b1, me_bad2 b2, said_no, so_number, ih]
theorem plain_law : ∀ ns : List Int, ns.length ≤ 63 → (∀ z ∈ ns, Builtin.Int.intBits z ≤ 1048576) → ∃ S', b_law (M 12) ([some (.scr ns)] ++ List.replicate 4 none) [] = .ret (.bl true) S' := by
  intro ns h _
  obtain ⟨c, hc, e0⟩ := hand_ok (k := 11) (ns := ns) (S := []) (by omega)
  obtain ⟨c', b2, e1⟩ := law_loop (k := 4) (ns := ns) 3 0 c none (by omega) hc (fun _ => rfl)
  refine ⟨[c'], ?_⟩
  have v10 : N75.E 1 0 = 0 := by decide +kernel
  have v20 : N75.E 2 0 = 1 := by decide +kernel
  have v30 : N75.E 3 0 = 2 := by decide +kernel
  have v40 : N75.E 4 0 = 4 := by decide +kernel
  have v50 : N75.E 5 0 = 10 := by decide +kernel
  have v13 : N75.E 1 3 = 3 := by decide +kernel
  have m1 : ∀ S, M 12 2 [.int 1, .int 0] S = .ok (.int 0) S := fun S => by rw [← v10]; exact N75.me_ok (k := 8) (p := 1) (b := 0) (by omega) (by omega) (by omega)
  have m2 : ∀ S, M 12 2 [.int 2, .int 0] S = .ok (.int 1) S := fun S => by rw [← v20]; exact N75.me_ok (k := 8) (p := 2) (b := 0) (by omega) (by omega) (by omega)
  have m3 : ∀ S, M 12 2 [.int 3, .int 0] S = .ok (.int 2) S := fun S => by rw [← v30]; exact N75.me_ok (k := 8) (p := 3) (b := 0) (by omega) (by omega) (by omega)
  have m4 : ∀ S, M 12 2 [.int 4, .int 0] S = .ok (.int 4) S := fun S => by rw [← v40]; exact N75.me_ok (k := 8) (p := 4) (b := 0) (by omega) (by omega) (by omega)
  have m5 : ∀ S, M 12 2 [.int 5, .int 0] S = .ok (.int 10) S := fun S => by rw [← v50]; exact N75.me_ok (k := 8) (p := 5) (b := 0) (by omega) (by omega) (by omega)
  have m6 : ∀ S, M 12 2 [.int 1, .int 3] S = .ok (.int 3) S := fun S => by rw [← v13]; exact N75.me_ok (k := 8) (p := 1) (b := 3) (by omega) (by omega) (by omega)
  simp_arith at e0
  simp_arith at e1
  have im : W.immL [.int 0, .int 1, .int 2, .int 4, .int 10] = true := by decide
  have ln : [W.int 0, .int 1, .int 2, .int 4, .int 10].length ≤ LN := by decide
  have r : rngL 1 6 = [.int 1, .int 2, .int 3, .int 4, .int 5] := rfl
  have l3 : 3 < LN := by decide
  have l4 : 4 < LN := by decide
  have eg : gcC (some c) 0 0 [c] = (.loc 0, [c]) := by
    obtain ⟨cs, p, r, s, n, rfl, hp⟩ := hc
    rfl
  unfold b_law
  simp_arith [e0, eg, r, m1, m2, m3, m4, m5, m6, l3, l4, lst_imm im ln, e1]
end K75
namespace K75
open PySem PySem.Spec L2 RZ PM
open PyProof.Rows (envOfC AllBare)
/-- the first method of a class's text -/
def methS (st : Stmt) (i : Nat) : Stmt := match st with
  | .ClassDef _ _ _ body _ _ _ _ _ _ _ => body.getD i (.Pass ⟨0, 0, 0, 0⟩)
  | _ => .Pass ⟨0, 0, 0, 0⟩
abbrev sInit : Stmt := methS (topS 1) 0
theorem scInit : FnScope ["self"] ["self"] (defScope sInit) := ⟨rfl, rfl, rfl, by decide +kernel, rfl, by decide +kernel, by decide +kernel⟩
section
variable {P : Program} {w : World} {K : PySem.W.Frag} {mg : Str → Option Value} {base : Heap} {f : Addr} {fd : FuncData}
theorem ok_init (F : Fun K "__init__" "TermError.__init__" sInit f fd) (mV : mg "ValueError" = none) (vV : PySem.W.findCls K (.type "ValueError") (.type "type") "__init__" = some (.val (.builtin "ValueError.__init__"))) :
    FnOk P w K mg base (L2.CX P w) 1 f fd ["self"] (spI K) := by
  refine F.okX scInit (fun vs H Q E h => ?_) fun cdv A outer s H vs Q E hr h => ?_
  · obtain ⟨a, A, rfl, _⟩ := h
    rfl
  · obtain ⟨a, A', rfl, T, e, q⟩ := h
    refine ⟨_, pss_one (ps_expr (pe_veinit (by rfl) mV vV (pa_cons (pv 0) pa_nil)) (by rfl)), ?_⟩
    exact ⟨.ref a, rfl, a, A', [], rfl, by decide, T, e, q⟩
end
/-- what is left to plain Lean -/
def Plain (k : Nat) : Prop := ∀ ns : List Int, ns.length ≤ 63 → (∀ z ∈ ns, Builtin.Int.intBits z ≤ 1048576) → ∃ S', b_law (PB.M k) ([some (.scr ns)] ++ List.replicate 4 none) [] = .ret (.bl true) S'
def spLaw (K : PySem.W.Frag) (PL : Addr) : Sp := fun vs H Q _ => ∃ (a : Addr) (ns : List Int), vs = [.ref a] ∧ ns.length ≤ 63 ∧ (∀ z ∈ ns, Builtin.Int.intBits z ≤ 1048576) ∧ H PL = some (.tbl #[]) ∧ SqL K H a (ns.map V.int) ∧ ∀ H', Q (.bl true) H'
section
variable {P : Program} {w : World} {K : PySem.W.Frag} {mg : Str → Option Value} {base : Heap} {fa : Nat → Addr} {fd : Nat → FuncData} {k : Nat}
theorem start_ok {a : Addr} {ns : List Int} {H : Hp} {PL : Addr} (hP : H PL = some (.tbl #[])) (hs : SqL K H a (ns.map V.int)) : ∃ G : Gh, G.H = H ∧ Sim ⟨K, mg, [(PL, qL)]⟩ G [] ∧ Rep ⟨K, mg, [(PL, qL)]⟩ G 0 (.ref a) (.scr ns) := by
  refine ⟨⟨fun _ => 0, fun b => b = a ∧ Rd H a (.lst (ns.map V.int)), H⟩, rfl, ⟨fun n c h => by simp at h, fun i j hi => absurd hi (Nat.not_lt_zero i), fun b hb => ?_, fun p hp => ?_⟩, ?_⟩
  · obtain ⟨rfl, hr⟩ := hb
    rcases hr with hr | ⟨o, hr⟩
    · exact ⟨_, hr, fun _ z => by cases z⟩
    · exact ⟨_, hr, fun _ z => by cases z⟩
  · rw [List.mem_singleton.mp hp]
    exact LamX.TabS.nil hP
  · rw [Rep]
    refine ⟨a, rfl, ?_⟩
    rcases hs with hs | hs
    · exact .inl ⟨⟨rfl, hs⟩, hs⟩
    · exact .inr hs
theorem ok_law {fL cL PL aT aM aN : Addr} {oc kV doc pm ctv : Value} {od an : Option Addr} {osl : Array (Option Value)} (pl : Plain k) (h : Top K mg fa fd) (C : All P w K mg base [(PL, qL)] fa fd k (PB.M k)) (hF : SaidF K mg aT aM aN) (TB : LamX.TabB base mg cL PL)
    (lk : K.lookup fL = some ⟨oc, od, .func (PySem.W.fnOf "law" "law" (defArgs (topS 50)) (defBody (topS 50)) (defScope (topS 50)) .none kV doc pm an (.ref cL) ctv), osl⟩) (hcd : PySem.W.codeIn K (.ref cL) "law" = true) :
    FnOk P w K mg base (L2.CX P w) (k + 5) fL (PySem.W.fnOf "law" "law" (defArgs (topS 50)) (defBody (topS 50)) (defScope (topS 50)) .none kV doc pm an (.ref cL) ctv) ["script"] (spLaw K PL) := by
  refine fn_of lk hcd sc50 (fun vs H Q E hh => ?_) fun A outer s H vs Q E hr hh => ?_
  · obtain ⟨a, ns, rfl, _⟩ := hh
    rfl
  · obtain ⟨a, ns, rfl, hn, hb, hP, hS, q⟩ := hh
    refine ⟨_, d50 h C hF TB A outer s H E hr, ?_⟩
    obtain ⟨G, rfl, sim, rep⟩ := start_ok (mg := mg) hP hS
    obtain ⟨S', e⟩ := pl ns hn hb
    refine ⟨G, [], [some (.scr ns)] ++ List.replicate 4 none, rfl, sim, ?_, ?_⟩
    · exact env_start (vs := [.ref a]) (ws := [.scr ns]) (by rw [RepL]; exact ⟨rep, by simp [RepL]⟩) 4
    · rw [e]
      intro G' v _ _ r
      cases rep_bl r
      exact q _
end
theorem plainK : Plain 12 := plain_law
theorem facts {l : PySem.W.OpenLaw} {w : World} {K : PySem.W.Frag} {h : Heap} {mg : Str → Option Value} {fa0 : Addr} (X : K.In h) (G : h.Ns mainGlobals mg) (hfa : mg "law" = some (.ref fa0)) (own : LamX.OwnTab K fa0 h)
    {f8 f9 f10 f11 f12 f13 f14 f20 f21 f22 f23 f24 f25 f26 f31 f32 f33 f34 f35 f36 f38 f39 f40 f42 f43 f44 f45 f46 f47 f48 f49 f0 fL cL PL C1 C2 C3 C4 : Addr} {od8 an8 od9 an9 od10 an10 od11 an11 od12 an12 od13 an13 od14 an14 od20 an20 od21 an21 od22 an22 od23 an23 od24 an24 od25 an25 od26 an26 od31 an31 od32 an32 od33 an33 od34 an34 od35 an35 od36 an36 od38 an38 od39 an39 od40 an40 od42 an42 od43 an43 od44 an44 od45 an45 od46 an46 od47 an47 od48 an48 od49 an49 od0 an0 odL anL ddL : Option Addr} {sl8 sl9 sl10 sl11 sl12 sl13 sl14 sl20 sl21 sl22 sl23 sl24 sl25 sl26 sl31 sl32 sl33 sl34 sl35 sl36 sl38 sl39 sl40 sl42 sl43 sl44 sl45 sl46 sl47 sl48 sl49 sl0 slL scL : Array (Option Value)} {oc8 kV8 dc8 pm8 cd8 ct8 oc9 kV9 dc9 pm9 cd9 ct9 oc10 kV10 dc10 pm10 cd10 ct10 oc11 kV11 dc11 pm11 cd11 ct11 oc12 kV12 dc12 pm12 cd12 ct12 oc13 kV13 dc13 pm13 cd13 ct13 oc14 kV14 dc14 pm14 cd14 ct14 oc20 kV20 dc20 pm20 cd20 ct20 oc21 kV21 dc21 pm21 cd21 ct21 oc22 kV22 dc22 pm22 cd22 ct22 oc23 kV23 dc23 pm23 cd23 ct23 oc24 kV24 dc24 pm24 cd24 ct24 oc25 kV25 dc25 pm25 cd25 ct25 oc26 kV26 dc26 pm26 cd26 ct26 oc31 kV31 dc31 pm31 cd31 ct31 oc32 kV32 dc32 pm32 cd32 ct32 oc33 kV33 dc33 pm33 cd33 ct33 oc34 kV34 dc34 pm34 cd34 ct34 oc35 kV35 dc35 pm35 cd35 ct35 oc36 kV36 dc36 pm36 cd36 ct36 oc38 kV38 dc38 pm38 cd38 ct38 oc39 kV39 dc39 pm39 cd39 ct39 oc40 kV40 dc40 pm40 cd40 ct40 oc42 kV42 dc42 pm42 cd42 ct42 oc43 kV43 dc43 pm43 cd43 ct43 oc44 kV44 dc44 pm44 cd44 ct44 oc45 kV45 dc45 pm45 cd45 ct45 oc46 kV46 dc46 pm46 cd46 ct46 oc47 kV47 dc47 pm47 cd47 ct47 oc48 kV48 dc48 pm48 cd48 ct48 oc49 kV49 dc49 pm49 cd49 ct49 oc0 kV0 dc0 pm0 cd0 ct0 ocL kVL dcL pmL ctL eL : Value} {vsL : Array Value} {t_LONGEST t_MOST_BOUND t_MOST_DEEP t_MOST_LISTED t_MOST_SIZE_counting t_MOST_SIZE_terms t_OF t_SMALL t_WITH : Tok}
    {nm3 qn3 N3 bs3 bm3 sn3 sub3 ab3 col3 dd3 u3 v3 w3 y3 z3} {nm2 qn2 N2 bs2 bm2 sn2 sub2 ab2 col2 dd2 u2 v2 w2 y2 z2}
    (a8 : PySem.W.nsIn K mainGlobals "is_integer" = some (some (.ref f8)))
    (l8 : K.lookup f8 = some ⟨oc8, od8, .func (PySem.W.fnOf "is_integer" "is_integer" (defArgs (topS 8)) (defBody (topS 8)) (defScope (topS 8)) .none kV8 dc8 pm8 an8 cd8 ct8), sl8⟩)
    (c8 : PySem.W.codeIn K cd8 "is_integer" = true)
    (k8 : PySem.W.keepIn K (.ref f8) = true)
    (a9 : PySem.W.nsIn K mainGlobals "is_within" = some (some (.ref f9)))
    (l9 : K.lookup f9 = some ⟨oc9, od9, .func (PySem.W.fnOf "is_within" "is_within" (defArgs (topS 9)) (defBody (topS 9)) (defScope (topS 9)) .none kV9 dc9 pm9 an9 cd9 ct9), sl9⟩)
    (c9 : PySem.W.codeIn K cd9 "is_within" = true)
    (k9 : PySem.W.keepIn K (.ref f9) = true)
    (a10 : PySem.W.nsIn K mainGlobals "is_name" = some (some (.ref f10)))
    (l10 : K.lookup f10 = some ⟨oc10, od10, .func (PySem.W.fnOf "is_name" "is_name" (defArgs (topS 10)) (defBody (topS 10)) (defScope (topS 10)) .none kV10 dc10 pm10 an10 cd10 ct10), sl10⟩)
    (c10 : PySem.W.codeIn K cd10 "is_name" = true)
    (k10 : PySem.W.keepIn K (.ref f10) = true)
    (a11 : PySem.W.nsIn K mainGlobals "is_tuple" = some (some (.ref f11)))
    (l11 : K.lookup f11 = some ⟨oc11, od11, .func (PySem.W.fnOf "is_tuple" "is_tuple" (defArgs (topS 11)) (defBody (topS 11)) (defScope (topS 11)) .none kV11 dc11 pm11 an11 cd11 ct11), sl11⟩)
    (c11 : PySem.W.codeIn K cd11 "is_tuple" = true)
    (k11 : PySem.W.keepIn K (.ref f11) = true)
    (a12 : PySem.W.nsIn K mainGlobals "is_headed" = some (some (.ref f12)))
    (l12 : K.lookup f12 = some ⟨oc12, od12, .func (PySem.W.fnOf "is_headed" "is_headed" (defArgs (topS 12)) (defBody (topS 12)) (defScope (topS 12)) .none kV12 dc12 pm12 an12 cd12 ct12), sl12⟩)
    (c12 : PySem.W.codeIn K cd12 "is_headed" = true)
    (k12 : PySem.W.keepIn K (.ref f12) = true)
    (a13 : PySem.W.nsIn K mainGlobals "check_number" = some (some (.ref f13)))
    (l13 : K.lookup f13 = some ⟨oc13, od13, .func (PySem.W.fnOf "check_number" "check_number" (defArgs (topS 13)) (defBody (topS 13)) (defScope (topS 13)) .none kV13 dc13 pm13 an13 cd13 ct13), sl13⟩)
    (c13 : PySem.W.codeIn K cd13 "check_number" = true)
    (k13 : PySem.W.keepIn K (.ref f13) = true)
    (a14 : PySem.W.nsIn K mainGlobals "name_at" = some (some (.ref f14)))
    (l14 : K.lookup f14 = some ⟨oc14, od14, .func (PySem.W.fnOf "name_at" "name_at" (defArgs (topS 14)) (defBody (topS 14)) (defScope (topS 14)) .none kV14 dc14 pm14 an14 cd14 ct14), sl14⟩)
    (c14 : PySem.W.codeIn K cd14 "name_at" = true)
    (k14 : PySem.W.keepIn K (.ref f14) = true)
    (a20 : PySem.W.nsIn K mainGlobals "forms_of" = some (some (.ref f20)))
    (l20 : K.lookup f20 = some ⟨oc20, od20, .func (PySem.W.fnOf "forms_of" "forms_of" (defArgs (topS 20)) (defBody (topS 20)) (defScope (topS 20)) .none kV20 dc20 pm20 an20 cd20 ct20), sl20⟩)
    (c20 : PySem.W.codeIn K cd20 "forms_of" = true)
    (k20 : PySem.W.keepIn K (.ref f20) = true)
    (a21 : PySem.W.nsIn K mainGlobals "is_term" = some (some (.ref f21)))
    (l21 : K.lookup f21 = some ⟨oc21, od21, .func (PySem.W.fnOf "is_term" "is_term" (defArgs (topS 21)) (defBody (topS 21)) (defScope (topS 21)) .none kV21 dc21 pm21 an21 cd21 ct21), sl21⟩)
    (c21 : PySem.W.codeIn K cd21 "is_term" = true)
    (k21 : PySem.W.keepIn K (.ref f21) = true)
    (a22 : PySem.W.nsIn K mainGlobals "check_term" = some (some (.ref f22)))
    (l22 : K.lookup f22 = some ⟨oc22, od22, .func (PySem.W.fnOf "check_term" "check_term" (defArgs (topS 22)) (defBody (topS 22)) (defScope (topS 22)) .none kV22 dc22 pm22 an22 cd22 ct22), sl22⟩)
    (c22 : PySem.W.codeIn K cd22 "check_term" = true)
    (k22 : PySem.W.keepIn K (.ref f22) = true)
    (a23 : PySem.W.nsIn K mainGlobals "raw_indexed" = some (some (.ref f23)))
    (l23 : K.lookup f23 = some ⟨oc23, od23, .func (PySem.W.fnOf "raw_indexed" "raw_indexed" (defArgs (topS 23)) (defBody (topS 23)) (defScope (topS 23)) .none kV23 dc23 pm23 an23 cd23 ct23), sl23⟩)
    (c23 : PySem.W.codeIn K cd23 "raw_indexed" = true)
    (k23 : PySem.W.keepIn K (.ref f23) = true)
    (a24 : PySem.W.nsIn K mainGlobals "free_of_indexed" = some (some (.ref f24)))
    (l24 : K.lookup f24 = some ⟨oc24, od24, .func (PySem.W.fnOf "free_of_indexed" "free_of_indexed" (defArgs (topS 24)) (defBody (topS 24)) (defScope (topS 24)) .none kV24 dc24 pm24 an24 cd24 ct24), sl24⟩)
    (c24 : PySem.W.codeIn K cd24 "free_of_indexed" = true)
    (k24 : PySem.W.keepIn K (.ref f24) = true)
    (a25 : PySem.W.nsIn K mainGlobals "raw_named" = some (some (.ref f25)))
    (l25 : K.lookup f25 = some ⟨oc25, od25, .func (PySem.W.fnOf "raw_named" "raw_named" (defArgs (topS 25)) (defBody (topS 25)) (defScope (topS 25)) .none kV25 dc25 pm25 an25 cd25 ct25), sl25⟩)
    (c25 : PySem.W.codeIn K cd25 "raw_named" = true)
    (k25 : PySem.W.keepIn K (.ref f25) = true)
    (a26 : PySem.W.nsIn K mainGlobals "parts_of" = some (some (.ref f26)))
    (l26 : K.lookup f26 = some ⟨oc26, od26, .func (PySem.W.fnOf "parts_of" "parts_of" (defArgs (topS 26)) (defBody (topS 26)) (defScope (topS 26)) .none kV26 dc26 pm26 an26 cd26 ct26), sl26⟩)
    (c26 : PySem.W.codeIn K cd26 "parts_of" = true)
    (k26 : PySem.W.keepIn K (.ref f26) = true)
    (a31 : PySem.W.nsIn K mainGlobals "many_sized" = some (some (.ref f31)))
    (l31 : K.lookup f31 = some ⟨oc31, od31, .func (PySem.W.fnOf "many_sized" "many_sized" (defArgs (topS 31)) (defBody (topS 31)) (defScope (topS 31)) .none kV31 dc31 pm31 an31 cd31 ct31), sl31⟩)
    (c31 : PySem.W.codeIn K cd31 "many_sized" = true)
    (k31 : PySem.W.keepIn K (.ref f31) = true)
    (a32 : PySem.W.nsIn K mainGlobals "many_terms" = some (some (.ref f32)))
    (l32 : K.lookup f32 = some ⟨oc32, od32, .func (PySem.W.fnOf "many_terms" "many_terms" (defArgs (topS 32)) (defBody (topS 32)) (defScope (topS 32)) .none kV32 dc32 pm32 an32 cd32 ct32), sl32⟩)
    (c32 : PySem.W.codeIn K cd32 "many_terms" = true)
    (k32 : PySem.W.keepIn K (.ref f32) = true)
    (a33 : PySem.W.nsIn K mainGlobals "ends_sized" = some (some (.ref f33)))
    (l33 : K.lookup f33 = some ⟨oc33, od33, .func (PySem.W.fnOf "ends_sized" "ends_sized" (defArgs (topS 33)) (defBody (topS 33)) (defScope (topS 33)) .none kV33 dc33 pm33 an33 cd33 ct33), sl33⟩)
    (c33 : PySem.W.codeIn K cd33 "ends_sized" = true)
    (k33 : PySem.W.keepIn K (.ref f33) = true)
    (a34 : PySem.W.nsIn K mainGlobals "many_ends" = some (some (.ref f34)))
    (l34 : K.lookup f34 = some ⟨oc34, od34, .func (PySem.W.fnOf "many_ends" "many_ends" (defArgs (topS 34)) (defBody (topS 34)) (defScope (topS 34)) .none kV34 dc34 pm34 an34 cd34 ct34), sl34⟩)
    (c34 : PySem.W.codeIn K cd34 "many_ends" = true)
    (k34 : PySem.W.keepIn K (.ref f34) = true)
    (a35 : PySem.W.nsIn K mainGlobals "raw_listed" = some (some (.ref f35)))
    (l35 : K.lookup f35 = some ⟨oc35, od35, .func (PySem.W.fnOf "raw_listed" "raw_listed" (defArgs (topS 35)) (defBody (topS 35)) (defScope (topS 35)) .none kV35 dc35 pm35 an35 cd35 ct35), sl35⟩)
    (c35 : PySem.W.codeIn K cd35 "raw_listed" = true)
    (k35 : PySem.W.keepIn K (.ref f35) = true)
    (a36 : PySem.W.nsIn K mainGlobals "all_closed" = some (some (.ref f36)))
    (l36 : K.lookup f36 = some ⟨oc36, od36, .func (PySem.W.fnOf "all_closed" "all_closed" (defArgs (topS 36)) (defBody (topS 36)) (defScope (topS 36)) .none kV36 dc36 pm36 an36 cd36 ct36), sl36⟩)
    (c36 : PySem.W.codeIn K cd36 "all_closed" = true)
    (k36 : PySem.W.keepIn K (.ref f36) = true)
    (a38 : PySem.W.nsIn K mainGlobals "is_redex" = some (some (.ref f38)))
    (l38 : K.lookup f38 = some ⟨oc38, od38, .func (PySem.W.fnOf "is_redex" "is_redex" (defArgs (topS 38)) (defBody (topS 38)) (defScope (topS 38)) .none kV38 dc38 pm38 an38 cd38 ct38), sl38⟩)
    (c38 : PySem.W.codeIn K cd38 "is_redex" = true)
    (k38 : PySem.W.keepIn K (.ref f38) = true)
    (a39 : PySem.W.nsIn K mainGlobals "raw_steps" = some (some (.ref f39)))
    (l39 : K.lookup f39 = some ⟨oc39, od39, .func (PySem.W.fnOf "raw_steps" "raw_steps" (defArgs (topS 39)) (defBody (topS 39)) (defScope (topS 39)) .none kV39 dc39 pm39 an39 cd39 ct39), sl39⟩)
    (c39 : PySem.W.codeIn K cd39 "raw_steps" = true)
    (k39 : PySem.W.keepIn K (.ref f39) = true)
    (a40 : PySem.W.nsIn K mainGlobals "is_end" = some (some (.ref f40)))
    (l40 : K.lookup f40 = some ⟨oc40, od40, .func (PySem.W.fnOf "is_end" "is_end" (defArgs (topS 40)) (defBody (topS 40)) (defScope (topS 40)) .none kV40 dc40 pm40 an40 cd40 ct40), sl40⟩)
    (c40 : PySem.W.codeIn K cd40 "is_end" = true)
    (k40 : PySem.W.keepIn K (.ref f40) = true)
    (a42 : PySem.W.nsIn K mainGlobals "_law_hand" = some (some (.ref f42)))
    (l42 : K.lookup f42 = some ⟨oc42, od42, .func (PySem.W.fnOf "_law_hand" "_law_hand" (defArgs (topS 42)) (defBody (topS 42)) (defScope (topS 42)) .none kV42 dc42 pm42 an42 cd42 ct42), sl42⟩)
    (c42 : PySem.W.codeIn K cd42 "_law_hand" = true)
    (k42 : PySem.W.keepIn K (.ref f42) = true)
    (a43 : PySem.W.nsIn K mainGlobals "_law_draw" = some (some (.ref f43)))
    (l43 : K.lookup f43 = some ⟨oc43, od43, .func (PySem.W.fnOf "_law_draw" "_law_draw" (defArgs (topS 43)) (defBody (topS 43)) (defScope (topS 43)) .none kV43 dc43 pm43 an43 cd43 ct43), sl43⟩)
    (c43 : PySem.W.codeIn K cd43 "_law_draw" = true)
    (k43 : PySem.W.keepIn K (.ref f43) = true)
    (a44 : PySem.W.nsIn K mainGlobals "_law_any" = some (some (.ref f44)))
    (l44 : K.lookup f44 = some ⟨oc44, od44, .func (PySem.W.fnOf "_law_any" "_law_any" (defArgs (topS 44)) (defBody (topS 44)) (defScope (topS 44)) .none kV44 dc44 pm44 an44 cd44 ct44), sl44⟩)
    (c44 : PySem.W.codeIn K cd44 "_law_any" = true)
    (k44 : PySem.W.keepIn K (.ref f44) = true)
    (a45 : PySem.W.nsIn K mainGlobals "_law_choices" = some (some (.ref f45)))
    (l45 : K.lookup f45 = some ⟨oc45, od45, .func (PySem.W.fnOf "_law_choices" "_law_choices" (defArgs (topS 45)) (defBody (topS 45)) (defScope (topS 45)) .none kV45 dc45 pm45 an45 cd45 ct45), sl45⟩)
    (c45 : PySem.W.codeIn K cd45 "_law_choices" = true)
    (k45 : PySem.W.keepIn K (.ref f45) = true)
    (a46 : PySem.W.nsIn K mainGlobals "_law_terms" = some (some (.ref f46)))
    (l46 : K.lookup f46 = some ⟨oc46, od46, .func (PySem.W.fnOf "_law_terms" "_law_terms" (defArgs (topS 46)) (defBody (topS 46)) (defScope (topS 46)) .none kV46 dc46 pm46 an46 cd46 ct46), sl46⟩)
    (c46 : PySem.W.codeIn K cd46 "_law_terms" = true)
    (k46 : PySem.W.keepIn K (.ref f46) = true)
    (a47 : PySem.W.nsIn K mainGlobals "_law_said" = some (some (.ref f47)))
    (l47 : K.lookup f47 = some ⟨oc47, od47, .func (PySem.W.fnOf "_law_said" "_law_said" (defArgs (topS 47)) (defBody (topS 47)) (defScope (topS 47)) .none kV47 dc47 pm47 an47 cd47 ct47), sl47⟩)
    (c47 : PySem.W.codeIn K cd47 "_law_said" = true)
    (k47 : PySem.W.keepIn K (.ref f47) = true)
    (a48 : PySem.W.nsIn K mainGlobals "_law_is_end" = some (some (.ref f48)))
    (l48 : K.lookup f48 = some ⟨oc48, od48, .func (PySem.W.fnOf "_law_is_end" "_law_is_end" (defArgs (topS 48)) (defBody (topS 48)) (defScope (topS 48)) .none kV48 dc48 pm48 an48 cd48 ct48), sl48⟩)
    (c48 : PySem.W.codeIn K cd48 "_law_is_end" = true)
    (k48 : PySem.W.keepIn K (.ref f48) = true)
    (a49 : PySem.W.nsIn K mainGlobals "_law_is_right" = some (some (.ref f49)))
    (l49 : K.lookup f49 = some ⟨oc49, od49, .func (PySem.W.fnOf "_law_is_right" "_law_is_right" (defArgs (topS 49)) (defBody (topS 49)) (defScope (topS 49)) .none kV49 dc49 pm49 an49 cd49 ct49), sl49⟩)
    (c49 : PySem.W.codeIn K cd49 "_law_is_right" = true)
    (k49 : PySem.W.keepIn K (.ref f49) = true)
    (aL : PySem.W.nsIn K mainGlobals "law" = some (some (.ref fL)))
    (lL : K.lookup fL = some ⟨ocL, odL, .func (PySem.W.fnOf "law" "law" (defArgs (topS 50)) (defBody (topS 50)) (defScope (topS 50)) .none kVL dcL pmL anL (.ref cL) ctL), slL⟩)
    (cL1 : PySem.W.codeIn K (.ref cL) "law" = true)
    (oL : K.lookup cL = some ⟨eL, ddL, .fields vsL, scL⟩)
    (vL : vsL[11]? = some (.ref PL))
    (hL : PySem.W.codeHdIn K cL PL = true)
    (nL : K.lookup PL = none)
    (vV : PySem.W.findCls K (.type "ValueError") (.type "type") "__init__" = some (.val (.builtin "ValueError.__init__")))
    (zV : PySem.W.nsIn K mainGlobals "ValueError" = some none)
    (z_abs : PySem.W.nsIn K mainGlobals "abs" = some none)
    (z_all : PySem.W.nsIn K mainGlobals "all" = some none)
    (z_bool : PySem.W.nsIn K mainGlobals "bool" = some none)
    (z_enumerate : PySem.W.nsIn K mainGlobals "enumerate" = some none)
    (z_int : PySem.W.nsIn K mainGlobals "int" = some none)
    (z_isinstance : PySem.W.nsIn K mainGlobals "isinstance" = some none)
    (z_len : PySem.W.nsIn K mainGlobals "len" = some none)
    (z_list : PySem.W.nsIn K mainGlobals "list" = some none)
    (z_max : PySem.W.nsIn K mainGlobals "max" = some none)
    (z_range : PySem.W.nsIn K mainGlobals "range" = some none)
    (z_sorted : PySem.W.nsIn K mainGlobals "sorted" = some none)
    (z_str : PySem.W.nsIn K mainGlobals "str" = some none)
    (z_tuple : PySem.W.nsIn K mainGlobals "tuple" = some none)
    (g_LONGEST : PySem.W.nsIn K mainGlobals "LONGEST" = some (some (.int 8 t_LONGEST)))
    (g_MOST_BOUND : PySem.W.nsIn K mainGlobals "MOST_BOUND" = some (some (.int 6 t_MOST_BOUND)))
    (g_MOST_DEEP : PySem.W.nsIn K mainGlobals "MOST_DEEP" = some (some (.int 16 t_MOST_DEEP)))
    (g_MOST_LISTED : PySem.W.nsIn K mainGlobals "MOST_LISTED" = some (some (.int 9 t_MOST_LISTED)))
    (g_MOST_SIZE_counting : PySem.W.nsIn K mainGlobals "MOST_SIZE_counting" = some (some (.int 40 t_MOST_SIZE_counting)))
    (g_MOST_SIZE_terms : PySem.W.nsIn K mainGlobals "MOST_SIZE_terms" = some (some (.int 120 t_MOST_SIZE_terms)))
    (g_OF : PySem.W.nsIn K mainGlobals "OF" = some (some (.str "of" t_OF)))
    (g_SMALL : PySem.W.nsIn K mainGlobals "SMALL" = some (some (.str "abcdefghijklmnopqrstuvwxyz" t_SMALL)))
    (g_WITH : PySem.W.nsIn K mainGlobals "WITH" = some (some (.str "with" t_WITH)))
    (x1 : PySem.W.nsIn K mainGlobals "TermError" = some (some (.ref C1)))
    (x2 : PySem.W.nsIn K mainGlobals "NoTerm" = some (some (.ref C2)))
    (x3 : PySem.W.nsIn K mainGlobals "NoNumber" = some (some (.ref C3)))
    (x4 : PySem.W.nsIn K mainGlobals "TooMany" = some (some (.ref C4)))
    (xl3 : K.lookup C3 = some (excClassObj nm3 qn3 C3 N3 bs3 bm3 true sn3 sub3 ab3 col3 dd3 u3 v3 w3 y3 z3 "ValueError.__new__"))
    (xb3 : PySem.HandSPX.refsVE bm3 = true)
    (xs3 : PySem.W.findIn K (.ref C3) "__setattr__" = some (some (.builtin "object.__setattr__")))
    (xe3 : PySem.W.subIn K (.ref C3) (.type "BaseException") = some true)
    (xt3 : PySem.W.typeIn K (.ref C3) = some (.type "type"))
    (xk3 : PySem.W.keepIn K (.ref C3) = true)
    (xi3 : PySem.W.findIn K (.ref C3) "__init__" = some (some (.ref f0)))
    (xl2 : K.lookup C2 = some (excClassObj nm2 qn2 C2 N2 bs2 bm2 true sn2 sub2 ab2 col2 dd2 u2 v2 w2 y2 z2 "ValueError.__new__"))
    (xb2 : PySem.HandSPX.refsVE bm2 = true)
    (xs2 : PySem.W.findIn K (.ref C2) "__setattr__" = some (some (.builtin "object.__setattr__")))
    (xe2 : PySem.W.subIn K (.ref C2) (.type "BaseException") = some true)
    (xt2 : PySem.W.typeIn K (.ref C2) = some (.type "type"))
    (xk2 : PySem.W.keepIn K (.ref C2) = true)
    (xi2 : PySem.W.findIn K (.ref C2) "__init__" = some (some (.ref f0)))
    (s1 : PySem.W.findIn K (.ref C3) "__getattribute__" = some (some (.builtin "BaseException.__getattribute__")))
    (s2 : PySem.W.findIn K (.ref C3) "__getattr__" = some none)
    (s3 : PySem.W.subIn K (.ref C3) (.type "BaseException") = some true)
    (s4 : PySem.W.hasDictIn K C3 = true)
    (s5 : PySem.W.findIn K (.ref C3) "__class__" = some (some (.builtin "object.__class__")))
    (s6 : PySem.W.specialIn K (.builtin "object.__class__") "__get__" = some (some (.builtin "getset_descriptor.__get__")))
    (s7 : PySem.W.takesIn K (.builtin "object.__class__") = some true)
    (s8 : PySem.W.mroIn K C3 (.type "object") = some true)
    (r1 : PySem.W.subIn K (.ref C1) (.type "BaseException") = some true)
    (r2 : PySem.W.hasDictIn K C1 = true)
    (r3 : PySem.W.typeIn K (.ref C1) = some (.type "type"))
    (r4 : PySem.W.subIn K (.ref C3) (.ref C1) = some true)
    (q1 : PySem.W.kitOne K (.ref C3) (.type "ValueError") = some true)
    (q2 : PySem.W.kitOne K (.ref C3) (.ref C4) = some false)
    (q3 : PySem.W.kitOne K (.ref C3) (.ref C3) = some true)
    (lI : K.lookup f0 = some ⟨oc0, od0, .func (PySem.W.fnOf "__init__" "TermError.__init__" (defArgs sInit) (defBody sInit) (defScope sInit) .none kV0 dc0 pm0 an0 cd0 ct0), sl0⟩)
    (cI : PySem.W.codeIn K cd0 "TermError.__init__" = true)
    (kI : PySem.W.keepIn K (.ref f0) = true)
    (tI : PySem.W.typeIn K (.ref f0) = some (.type "function"))
    : LamX.LawAtS l w K (L2.CX l.prog w) (12 + 5) 63 "script" mg fa0 h := by
  have e0 := hfa.symm.trans (PySem.W.mg_of X G aL)
  cases e0
  let fa : Nat → Addr := fun i => match i with
    | 8 => f8
    | 9 => f9
    | 10 => f10
    | 11 => f11
    | 12 => f12
    | 13 => f13
    | 14 => f14
    | 20 => f20
    | 21 => f21
    | 22 => f22
    | 23 => f23
    | 24 => f24
    | 25 => f25
    | 26 => f26
    | 31 => f31
    | 32 => f32
    | 33 => f33
    | 34 => f34
    | 35 => f35
    | 36 => f36
    | 38 => f38
    | 39 => f39
    | 40 => f40
    | 42 => f42
    | 43 => f43
    | 44 => f44
    | 45 => f45
    | 46 => f46
    | 47 => f47
    | 48 => f48
    | 49 => f49
    | 0 => f0
    | 3 => C3
    | 2 => C2
    | _ => 0
  let fd : Nat → FuncData := fun i => match i with
    | 8 => PySem.W.fnOf "is_integer" "is_integer" (defArgs (topS 8)) (defBody (topS 8)) (defScope (topS 8)) .none kV8 dc8 pm8 an8 cd8 ct8
    | 9 => PySem.W.fnOf "is_within" "is_within" (defArgs (topS 9)) (defBody (topS 9)) (defScope (topS 9)) .none kV9 dc9 pm9 an9 cd9 ct9
    | 10 => PySem.W.fnOf "is_name" "is_name" (defArgs (topS 10)) (defBody (topS 10)) (defScope (topS 10)) .none kV10 dc10 pm10 an10 cd10 ct10
    | 11 => PySem.W.fnOf "is_tuple" "is_tuple" (defArgs (topS 11)) (defBody (topS 11)) (defScope (topS 11)) .none kV11 dc11 pm11 an11 cd11 ct11
    | 12 => PySem.W.fnOf "is_headed" "is_headed" (defArgs (topS 12)) (defBody (topS 12)) (defScope (topS 12)) .none kV12 dc12 pm12 an12 cd12 ct12
    | 13 => PySem.W.fnOf "check_number" "check_number" (defArgs (topS 13)) (defBody (topS 13)) (defScope (topS 13)) .none kV13 dc13 pm13 an13 cd13 ct13
    | 14 => PySem.W.fnOf "name_at" "name_at" (defArgs (topS 14)) (defBody (topS 14)) (defScope (topS 14)) .none kV14 dc14 pm14 an14 cd14 ct14
    | 20 => PySem.W.fnOf "forms_of" "forms_of" (defArgs (topS 20)) (defBody (topS 20)) (defScope (topS 20)) .none kV20 dc20 pm20 an20 cd20 ct20
    | 21 => PySem.W.fnOf "is_term" "is_term" (defArgs (topS 21)) (defBody (topS 21)) (defScope (topS 21)) .none kV21 dc21 pm21 an21 cd21 ct21
    | 22 => PySem.W.fnOf "check_term" "check_term" (defArgs (topS 22)) (defBody (topS 22)) (defScope (topS 22)) .none kV22 dc22 pm22 an22 cd22 ct22
    | 23 => PySem.W.fnOf "raw_indexed" "raw_indexed" (defArgs (topS 23)) (defBody (topS 23)) (defScope (topS 23)) .none kV23 dc23 pm23 an23 cd23 ct23
    | 24 => PySem.W.fnOf "free_of_indexed" "free_of_indexed" (defArgs (topS 24)) (defBody (topS 24)) (defScope (topS 24)) .none kV24 dc24 pm24 an24 cd24 ct24
    | 25 => PySem.W.fnOf "raw_named" "raw_named" (defArgs (topS 25)) (defBody (topS 25)) (defScope (topS 25)) .none kV25 dc25 pm25 an25 cd25 ct25
    | 26 => PySem.W.fnOf "parts_of" "parts_of" (defArgs (topS 26)) (defBody (topS 26)) (defScope (topS 26)) .none kV26 dc26 pm26 an26 cd26 ct26
    | 31 => PySem.W.fnOf "many_sized" "many_sized" (defArgs (topS 31)) (defBody (topS 31)) (defScope (topS 31)) .none kV31 dc31 pm31 an31 cd31 ct31
    | 32 => PySem.W.fnOf "many_terms" "many_terms" (defArgs (topS 32)) (defBody (topS 32)) (defScope (topS 32)) .none kV32 dc32 pm32 an32 cd32 ct32
    | 33 => PySem.W.fnOf "ends_sized" "ends_sized" (defArgs (topS 33)) (defBody (topS 33)) (defScope (topS 33)) .none kV33 dc33 pm33 an33 cd33 ct33
    | 34 => PySem.W.fnOf "many_ends" "many_ends" (defArgs (topS 34)) (defBody (topS 34)) (defScope (topS 34)) .none kV34 dc34 pm34 an34 cd34 ct34
    | 35 => PySem.W.fnOf "raw_listed" "raw_listed" (defArgs (topS 35)) (defBody (topS 35)) (defScope (topS 35)) .none kV35 dc35 pm35 an35 cd35 ct35
    | 36 => PySem.W.fnOf "all_closed" "all_closed" (defArgs (topS 36)) (defBody (topS 36)) (defScope (topS 36)) .none kV36 dc36 pm36 an36 cd36 ct36
    | 38 => PySem.W.fnOf "is_redex" "is_redex" (defArgs (topS 38)) (defBody (topS 38)) (defScope (topS 38)) .none kV38 dc38 pm38 an38 cd38 ct38
    | 39 => PySem.W.fnOf "raw_steps" "raw_steps" (defArgs (topS 39)) (defBody (topS 39)) (defScope (topS 39)) .none kV39 dc39 pm39 an39 cd39 ct39
    | 40 => PySem.W.fnOf "is_end" "is_end" (defArgs (topS 40)) (defBody (topS 40)) (defScope (topS 40)) .none kV40 dc40 pm40 an40 cd40 ct40
    | 42 => PySem.W.fnOf "_law_hand" "_law_hand" (defArgs (topS 42)) (defBody (topS 42)) (defScope (topS 42)) .none kV42 dc42 pm42 an42 cd42 ct42
    | 43 => PySem.W.fnOf "_law_draw" "_law_draw" (defArgs (topS 43)) (defBody (topS 43)) (defScope (topS 43)) .none kV43 dc43 pm43 an43 cd43 ct43
    | 44 => PySem.W.fnOf "_law_any" "_law_any" (defArgs (topS 44)) (defBody (topS 44)) (defScope (topS 44)) .none kV44 dc44 pm44 an44 cd44 ct44
    | 45 => PySem.W.fnOf "_law_choices" "_law_choices" (defArgs (topS 45)) (defBody (topS 45)) (defScope (topS 45)) .none kV45 dc45 pm45 an45 cd45 ct45
    | 46 => PySem.W.fnOf "_law_terms" "_law_terms" (defArgs (topS 46)) (defBody (topS 46)) (defScope (topS 46)) .none kV46 dc46 pm46 an46 cd46 ct46
    | 47 => PySem.W.fnOf "_law_said" "_law_said" (defArgs (topS 47)) (defBody (topS 47)) (defScope (topS 47)) .none kV47 dc47 pm47 an47 cd47 ct47
    | 48 => PySem.W.fnOf "_law_is_end" "_law_is_end" (defArgs (topS 48)) (defBody (topS 48)) (defScope (topS 48)) .none kV48 dc48 pm48 an48 cd48 ct48
    | 49 => PySem.W.fnOf "_law_is_right" "_law_is_right" (defArgs (topS 49)) (defBody (topS 49)) (defScope (topS 49)) .none kV49 dc49 pm49 an49 cd49 ct49
    | _ => PySem.W.fnOf "__init__" "TermError.__init__" (defArgs sInit) (defBody sInit) (defScope sInit) .none kV0 dc0 pm0 an0 cd0 ct0
  have F8 : Fun K "is_integer" "is_integer" (topS 8) (fa 8) (fd 8) := fun_mk (st := topS 8) l8 c8 k8
  have b8 : Binds K (fd 8) ["thing"] [] := F8.binds fun _ _ _ _ _ _ us hl => match us, hl with | [_], _ => rfl
  have F9 : Fun K "is_within" "is_within" (topS 9) (fa 9) (fd 9) := fun_mk (st := topS 9) l9 c9 k9
  have b9 : Binds K (fd 9) ["thing", "least", "most"] [] := F9.binds fun _ _ _ _ _ _ us hl => match us, hl with | [_, _, _], _ => rfl
  have F10 : Fun K "is_name" "is_name" (topS 10) (fa 10) (fd 10) := fun_mk (st := topS 10) l10 c10 k10
  have b10 : Binds K (fd 10) ["thing"] [] := F10.binds fun _ _ _ _ _ _ us hl => match us, hl with | [_], _ => rfl
  have F11 : Fun K "is_tuple" "is_tuple" (topS 11) (fa 11) (fd 11) := fun_mk (st := topS 11) l11 c11 k11
  have b11 : Binds K (fd 11) ["thing", "size"] [] := F11.binds fun _ _ _ _ _ _ us hl => match us, hl with | [_, _], _ => rfl
  have F12 : Fun K "is_headed" "is_headed" (topS 12) (fa 12) (fd 12) := fun_mk (st := topS 12) l12 c12 k12
  have b12 : Binds K (fd 12) ["thing", "word", "size"] [] := F12.binds fun _ _ _ _ _ _ us hl => match us, hl with | [_, _, _], _ => rfl
  have F13 : Fun K "check_number" "check_number" (topS 13) (fa 13) (fd 13) := fun_mk (st := topS 13) l13 c13 k13
  have b13 : Binds K (fd 13) ["thing", "least", "most"] [] := F13.binds fun _ _ _ _ _ _ us hl => match us, hl with | [_, _, _], _ => rfl
  have F14 : Fun K "name_at" "name_at" (topS 14) (fa 14) (fd 14) := fun_mk (st := topS 14) l14 c14 k14
  have b14 : Binds K (fd 14) ["number"] [] := F14.binds fun _ _ _ _ _ _ us hl => match us, hl with | [_], _ => rfl
  have F20 : Fun K "forms_of" "forms_of" (topS 20) (fa 20) (fd 20) := fun_mk (st := topS 20) l20 c20 k20
  have b20 : Binds K (fd 20) ["thing"] [] := F20.binds fun _ _ _ _ _ _ us hl => match us, hl with | [_], _ => rfl
  have F21 : Fun K "is_term" "is_term" (topS 21) (fa 21) (fd 21) := fun_mk (st := topS 21) l21 c21 k21
  have b21 : Binds K (fd 21) ["thing"] [] := F21.binds fun _ _ _ _ _ _ us hl => match us, hl with | [_], _ => rfl
  have F22 : Fun K "check_term" "check_term" (topS 22) (fa 22) (fd 22) := fun_mk (st := topS 22) l22 c22 k22
  have b22 : Binds K (fd 22) ["thing"] [] := F22.binds fun _ _ _ _ _ _ us hl => match us, hl with | [_], _ => rfl
  have F23 : Fun K "raw_indexed" "raw_indexed" (topS 23) (fa 23) (fd 23) := fun_mk (st := topS 23) l23 c23 k23
  have b23 : Binds K (fd 23) ["term"] [] := F23.binds fun _ _ _ _ _ _ us hl => match us, hl with | [_], _ => rfl
  have F24 : Fun K "free_of_indexed" "free_of_indexed" (topS 24) (fa 24) (fd 24) := fun_mk (st := topS 24) l24 c24 k24
  have b24 : Binds K (fd 24) ["thing"] [] := F24.binds fun _ _ _ _ _ _ us hl => match us, hl with | [_], _ => rfl
  have F25 : Fun K "raw_named" "raw_named" (topS 25) (fa 25) (fd 25) := fun_mk (st := topS 25) l25 c25 k25
  have b25 : Binds K (fd 25) ["thing"] [] := F25.binds fun _ _ _ _ _ _ us hl => match us, hl with | [_], _ => rfl
  have F26 : Fun K "parts_of" "parts_of" (topS 26) (fa 26) (fd 26) := fun_mk (st := topS 26) l26 c26 k26
  have b26 : Binds K (fd 26) ["thing"] [] := F26.binds fun _ _ _ _ _ _ us hl => match us, hl with | [_], _ => rfl
  have F31 : Fun K "many_sized" "many_sized" (topS 31) (fa 31) (fd 31) := fun_mk (st := topS 31) l31 c31 k31
  have b31 : Binds K (fd 31) ["most", "bound"] [] := F31.binds fun _ _ _ _ _ _ us hl => match us, hl with | [_, _], _ => rfl
  have F32 : Fun K "many_terms" "many_terms" (topS 32) (fa 32) (fd 32) := fun_mk (st := topS 32) l32 c32 k32
  have b32 : Binds K (fd 32) ["size", "bound"] [] := F32.binds fun _ _ _ _ _ _ us hl => match us, hl with | [_, _], _ => rfl
  have F33 : Fun K "ends_sized" "ends_sized" (topS 33) (fa 33) (fd 33) := fun_mk (st := topS 33) l33 c33 k33
  have b33 : Binds K (fd 33) ["most", "bound"] [] := F33.binds fun _ _ _ _ _ _ us hl => match us, hl with | [_, _], _ => rfl
  have F34 : Fun K "many_ends" "many_ends" (topS 34) (fa 34) (fd 34) := fun_mk (st := topS 34) l34 c34 k34
  have b34 : Binds K (fd 34) ["size", "bound"] [] := F34.binds fun _ _ _ _ _ _ us hl => match us, hl with | [_, _], _ => rfl
  have F35 : Fun K "raw_listed" "raw_listed" (topS 35) (fa 35) (fd 35) := fun_mk (st := topS 35) l35 c35 k35
  have b35 : Binds K (fd 35) ["size", "binding"] [] := F35.binds fun _ _ _ _ _ _ us hl => match us, hl with | [_, _], _ => rfl
  have F36 : Fun K "all_closed" "all_closed" (topS 36) (fa 36) (fd 36) := fun_mk (st := topS 36) l36 c36 k36
  have b36 : Binds K (fd 36) ["size"] [] := F36.binds fun _ _ _ _ _ _ us hl => match us, hl with | [_], _ => rfl
  have F38 : Fun K "is_redex" "is_redex" (topS 38) (fa 38) (fd 38) := fun_mk (st := topS 38) l38 c38 k38
  have b38 : Binds K (fd 38) ["part"] [] := F38.binds fun _ _ _ _ _ _ us hl => match us, hl with | [_], _ => rfl
  have F39 : Fun K "raw_steps" "raw_steps" (topS 39) (fa 39) (fd 39) := fun_mk (st := topS 39) l39 c39 k39
  have b39 : Binds K (fd 39) ["thing"] [] := F39.binds fun _ _ _ _ _ _ us hl => match us, hl with | [_], _ => rfl
  have F40 : Fun K "is_end" "is_end" (topS 40) (fa 40) (fd 40) := fun_mk (st := topS 40) l40 c40 k40
  have b40 : Binds K (fd 40) ["term"] [] := F40.binds fun _ _ _ _ _ _ us hl => match us, hl with | [_], _ => rfl
  have F42 : Fun K "_law_hand" "_law_hand" (topS 42) (fa 42) (fd 42) := fun_mk (st := topS 42) l42 c42 k42
  have b42 : Binds K (fd 42) ["script"] [] := F42.binds fun _ _ _ _ _ _ us hl => match us, hl with | [_], _ => rfl
  have F43 : Fun K "_law_draw" "_law_draw" (topS 43) (fa 43) (fd 43) := fun_mk (st := topS 43) l43 c43 k43
  have b43 : Binds K (fd 43) ["hand", "many"] [] := F43.binds fun _ _ _ _ _ _ us hl => match us, hl with | [_, _], _ => rfl
  have F44 : Fun K "_law_any" "_law_any" (topS 44) (fa 44) (fd 44) := fun_mk (st := topS 44) l44 c44 k44
  have b44 : Binds K (fd 44) ["hand", "some"] [] := F44.binds fun _ _ _ _ _ _ us hl => match us, hl with | [_, _], _ => rfl
  have F45 : Fun K "_law_choices" "_law_choices" (topS 45) (fa 45) (fd 45) := fun_mk (st := topS 45) l45 c45 k45
  have b45 : Binds K (fd 45) ["most", "bound", "ending"] [] := F45.binds fun _ _ _ _ _ _ us hl => match us, hl with | [_, _, _], _ => rfl
  have F46 : Fun K "_law_terms" "_law_terms" (topS 46) (fa 46) (fd 46) := fun_mk (st := topS 46) l46 c46 k46
  have b46 : Binds K (fd 46) ["parts", "names", "known"] [] := F46.binds fun _ _ _ _ _ _ us hl => match us, hl with | [_, _, _], _ => rfl
  have F47 : Fun K "_law_said" "_law_said" (topS 47) (fa 47) (fd 47) := fun_mk (st := topS 47) l47 c47 k47
  have b47 : Binds K (fd 47) ["call"] [] := F47.binds fun _ _ _ _ _ _ us hl => match us, hl with | [_], _ => rfl
  have F48 : Fun K "_law_is_end" "_law_is_end" (topS 48) (fa 48) (fd 48) := fun_mk (st := topS 48) l48 c48 k48
  have b48 : Binds K (fd 48) ["term"] [] := F48.binds fun _ _ _ _ _ _ us hl => match us, hl with | [_], _ => rfl
  have F49 : Fun K "_law_is_right" "_law_is_right" (topS 49) (fa 49) (fd 49) := fun_mk (st := topS 49) l49 c49 k49
  have b49 : Binds K (fd 49) ["hand"] [] := F49.binds fun _ _ _ _ _ _ us hl => match us, hl with | [_], _ => rfl
  have F0 : Fun K "__init__" "TermError.__init__" sInit f0 (fd 0) := fun_mk (st := sInit) lI cI kI
  have bI : Binds K (fd 0) ["self"] [] := F0.binds fun _ _ _ _ _ _ us hl => match us, hl with | [_], _ => rfl
  have top : Top K mg fa fd := {
    F8 := F8
    m8 := PySem.W.mg_of X G a8
    b8 := b8
    F9 := F9
    m9 := PySem.W.mg_of X G a9
    b9 := b9
    F10 := F10
    m10 := PySem.W.mg_of X G a10
    b10 := b10
    F11 := F11
    m11 := PySem.W.mg_of X G a11
    b11 := b11
    F12 := F12
    m12 := PySem.W.mg_of X G a12
    b12 := b12
    F13 := F13
    m13 := PySem.W.mg_of X G a13
    b13 := b13
    F14 := F14
    m14 := PySem.W.mg_of X G a14
    b14 := b14
    F20 := F20
    m20 := PySem.W.mg_of X G a20
    b20 := b20
    F21 := F21
    m21 := PySem.W.mg_of X G a21
    b21 := b21
    F22 := F22
    m22 := PySem.W.mg_of X G a22
    b22 := b22
    F23 := F23
    m23 := PySem.W.mg_of X G a23
    b23 := b23
    F24 := F24
    m24 := PySem.W.mg_of X G a24
    b24 := b24
    F25 := F25
    m25 := PySem.W.mg_of X G a25
    b25 := b25
    F26 := F26
    m26 := PySem.W.mg_of X G a26
    b26 := b26
    F31 := F31
    m31 := PySem.W.mg_of X G a31
    b31 := b31
    F32 := F32
    m32 := PySem.W.mg_of X G a32
    b32 := b32
    F33 := F33
    m33 := PySem.W.mg_of X G a33
    b33 := b33
    F34 := F34
    m34 := PySem.W.mg_of X G a34
    b34 := b34
    F35 := F35
    m35 := PySem.W.mg_of X G a35
    b35 := b35
    F36 := F36
    m36 := PySem.W.mg_of X G a36
    b36 := b36
    F38 := F38
    m38 := PySem.W.mg_of X G a38
    b38 := b38
    F39 := F39
    m39 := PySem.W.mg_of X G a39
    b39 := b39
    F40 := F40
    m40 := PySem.W.mg_of X G a40
    b40 := b40
    F42 := F42
    m42 := PySem.W.mg_of X G a42
    b42 := b42
    F43 := F43
    m43 := PySem.W.mg_of X G a43
    b43 := b43
    F44 := F44
    m44 := PySem.W.mg_of X G a44
    b44 := b44
    F45 := F45
    m45 := PySem.W.mg_of X G a45
    b45 := b45
    F46 := F46
    m46 := PySem.W.mg_of X G a46
    b46 := b46
    F47 := F47
    m47 := PySem.W.mg_of X G a47
    b47 := b47
    F48 := F48
    m48 := PySem.W.mg_of X G a48
    b48 := b48
    F49 := F49
    m49 := PySem.W.mg_of X G a49
    b49 := b49
    z_abs := PySem.W.mg_none_of X G z_abs
    z_all := PySem.W.mg_none_of X G z_all
    z_bool := PySem.W.mg_none_of X G z_bool
    z_enumerate := PySem.W.mg_none_of X G z_enumerate
    z_int := PySem.W.mg_none_of X G z_int
    z_isinstance := PySem.W.mg_none_of X G z_isinstance
    z_len := PySem.W.mg_none_of X G z_len
    z_list := PySem.W.mg_none_of X G z_list
    z_max := PySem.W.mg_none_of X G z_max
    z_range := PySem.W.mg_none_of X G z_range
    z_sorted := PySem.W.mg_none_of X G z_sorted
    z_str := PySem.W.mg_none_of X G z_str
    z_tuple := PySem.W.mg_none_of X G z_tuple
    g_LONGEST := ⟨_, PySem.W.mg_of X G g_LONGEST⟩
    g_MOST_BOUND := ⟨_, PySem.W.mg_of X G g_MOST_BOUND⟩
    g_MOST_DEEP := ⟨_, PySem.W.mg_of X G g_MOST_DEEP⟩
    g_MOST_LISTED := ⟨_, PySem.W.mg_of X G g_MOST_LISTED⟩
    g_MOST_SIZE_counting := ⟨_, PySem.W.mg_of X G g_MOST_SIZE_counting⟩
    g_MOST_SIZE_terms := ⟨_, PySem.W.mg_of X G g_MOST_SIZE_terms⟩
    g_OF := ⟨_, PySem.W.mg_of X G g_OF⟩
    g_SMALL := ⟨_, PySem.W.mg_of X G g_SMALL⟩
    g_WITH := ⟨_, PySem.W.mg_of X G g_WITH⟩
    o_NoNumber := ⟨⟨_, _, _, _, _, _, _, _, _, _, _, _, _, _, _, xl3, xb3⟩, xs3, xe3, xt3, xk3⟩
    i_NoNumber := xi3
    m_NoNumber := PySem.W.mg_of X G x3
    o_NoTerm := ⟨⟨_, _, _, _, _, _, _, _, _, _, _, _, _, _, _, xl2, xb2⟩, xs2, xe2, xt2, xk2⟩
    i_NoTerm := xi2
    m_NoTerm := PySem.W.mg_of X G x2
    t_init := tI
    b_init := bI }
  have hF : SaidF K mg C1 C4 C3 := ⟨PySem.W.mg_of X G x1, PySem.W.mg_of X G x4, PySem.W.mg_of X G x3, PySem.W.mg_none_of X G z_isinstance, PySem.W.mg_none_of X G zV, ⟨s1, s2, s3, s4, s5, s6, s7, s8⟩, PySem.W.exm_ref r1 r2 r3 r4, q1, q2, q3⟩
  refine ⟨PySem.W.fnOf "law" "law" (defArgs (topS 50)) (defBody (topS 50)) (defScope (topS 50)) .none kVL dcL pmL anL (.ref cL) ctL, [(cL, PL)], spLaw K PL, fun p hp => ?_, fun p hp => ?_, fun p hp => ?_, fun s v => .of_eq rfl, fun H a ns hl hb hT hS => ⟨a, ns, rfl, hl, hb, hT _ (List.mem_singleton.mpr rfl), hS, fun _ => rfl⟩, fun base kb gb TB => ?_⟩
  · rw [List.mem_singleton.mp hp]
    exact own cL PL _ _ _ _ _ _ lL rfl rfl oL vL
  · rw [List.mem_singleton.mp hp]
    exact nL
  · rw [List.mem_singleton.mp hp]
    exact PySem.W.codeHd_of_K X hL
  · exact ok_law plainK top (all_M top (ok_init F0 (PySem.W.mg_none_of X G zV) vV) 12) hF (TB _ (List.mem_singleton.mpr rfl)) lL cL1
end K75
open PySem PySem.W PyProof.Rows
set_option maxHeartbeats 0 in
theorem PySem.Challenge.cw_withterms_k75_whole_numbers_of_terms_wit_holds : PySem.Challenge.rw_withterms_k75_whole_numbers_of_terms_wit.Holds := by
  w_on; o_law; k_head; (case hw => w_witness2)
  k_fill
  refine LamX.walk_ofOwn (l := PySem.Challenge.rw_withterms_k75_whole_numbers_of_terms_wit) (n := 63) (k := 12 + 5) (x := "script") (CX := fun w => L2.CX (PySem.Challenge.rw_withterms_k75_whole_numbers_of_terms_wit).prog w) rfl (by decide) rfl ⟨rfl, by decide, by decide⟩ (by first | rfl | kernel_rfl | decide +kernel) (fun w h Y => PySem.W.km_in_of Y) ?F ?hCX
  case hCX =>
    intro w H s e s' h
    obtain ⟨_, _, _, _, _, _, _, _, _, _, _, _, z⟩ := h
    exact z
  case F =>
    intro w mg fa h Y KX G hmg own
    refine' K75.facts KX G hmg own ?a8 ?l8 ?c8 ?k8 ?a9 ?l9 ?c9 ?k9 ?a10 ?l10 ?c10 ?k10 ?a11 ?l11 ?c11 ?k11 ?a12 ?l12 ?c12 ?k12 ?a13 ?l13 ?c13 ?k13 ?a14 ?l14 ?c14 ?k14 ?a20 ?l20 ?c20 ?k20 ?a21 ?l21 ?c21 ?k21 ?a22 ?l22 ?c22 ?k22 ?a23 ?l23 ?c23 ?k23 ?a24 ?l24 ?c24 ?k24 ?a25 ?l25 ?c25 ?k25 ?a26 ?l26 ?c26 ?k26 ?a31 ?l31 ?c31 ?k31 ?a32 ?l32 ?c32 ?k32 ?a33 ?l33 ?c33 ?k33 ?a34 ?l34 ?c34 ?k34 ?a35 ?l35 ?c35 ?k35 ?a36 ?l36 ?c36 ?k36 ?a38 ?l38 ?c38 ?k38 ?a39 ?l39 ?c39 ?k39 ?a40 ?l40 ?c40 ?k40 ?a42 ?l42 ?c42 ?k42 ?a43 ?l43 ?c43 ?k43 ?a44 ?l44 ?c44 ?k44 ?a45 ?l45 ?c45 ?k45 ?a46 ?l46 ?c46 ?k46 ?a47 ?l47 ?c47 ?k47 ?a48 ?l48 ?c48 ?k48 ?a49 ?l49 ?c49 ?k49 ?aL ?lL ?cL1 ?oL ?vL ?hL ?nL ?vV ?zV ?z_abs ?z_all ?z_bool ?z_enumerate ?z_int ?z_isinstance ?z_len ?z_list ?z_max ?z_range ?z_sorted ?z_str ?z_tuple ?g_LONGEST ?g_MOST_BOUND ?g_MOST_DEEP ?g_MOST_LISTED ?g_MOST_SIZE_counting ?g_MOST_SIZE_terms ?g_OF ?g_SMALL ?g_WITH ?x1 ?x2 ?x3 ?x4 ?xl3 ?xb3 ?xs3 ?xe3 ?xt3 ?xk3 ?xi3 ?xl2 ?xb2 ?xs2 ?xe2 ?xt2 ?xk2 ?xi2 ?s1 ?s2 ?s3 ?s4 ?s5 ?s6 ?s7 ?s8 ?r1 ?r2 ?r3 ?r4 ?q1 ?q2 ?q3 ?lI ?cI ?kI ?tI
    (case a8 => k_is); (case l8 => k_is); (case c8 => k_is); (case k8 => k_is); (case a9 => k_is); (case l9 => k_is); (case c9 => k_is); (case k9 => k_is); (case a10 => k_is); (case l10 => k_is); (case c10 => k_is); (case k10 => k_is); (case a11 => k_is); (case l11 => k_is); (case c11 => k_is); (case k11 => k_is); (case a12 => k_is); (case l12 => k_is); (case c12 => k_is); (case k12 => k_is); (case a13 => k_is); (case l13 => k_is); (case c13 => k_is); (case k13 => k_is); (case a14 => k_is); (case l14 => k_is); (case c14 => k_is); (case k14 => k_is); (case a20 => k_is); (case l20 => k_is); (case c20 => k_is); (case k20 => k_is); (case a21 => k_is); (case l21 => k_is); (case c21 => k_is); (case k21 => k_is); (case a22 => k_is); (case l22 => k_is); (case c22 => k_is); (case k22 => k_is); (case a23 => k_is); (case l23 => k_is); (case c23 => k_is); (case k23 => k_is); (case a24 => k_is); (case l24 => k_is); (case c24 => k_is); (case k24 => k_is); (case a25 => k_is); (case l25 => k_is); (case c25 => k_is); (case k25 => k_is); (case a26 => k_is); (case l26 => k_is); (case c26 => k_is); (case k26 => k_is); (case a31 => k_is); (case l31 => k_is); (case c31 => k_is); (case k31 => k_is); (case a32 => k_is); (case l32 => k_is); (case c32 => k_is); (case k32 => k_is); (case a33 => k_is); (case l33 => k_is); (case c33 => k_is); (case k33 => k_is); (case a34 => k_is); (case l34 => k_is); (case c34 => k_is); (case k34 => k_is); (case a35 => k_is); (case l35 => k_is); (case c35 => k_is); (case k35 => k_is); (case a36 => k_is); (case l36 => k_is); (case c36 => k_is); (case k36 => k_is); (case a38 => k_is); (case l38 => k_is); (case c38 => k_is); (case k38 => k_is); (case a39 => k_is); (case l39 => k_is); (case c39 => k_is); (case k39 => k_is); (case a40 => k_is); (case l40 => k_is); (case c40 => k_is); (case k40 => k_is); (case a42 => k_is); (case l42 => k_is); (case c42 => k_is); (case k42 => k_is); (case a43 => k_is); (case l43 => k_is); (case c43 => k_is); (case k43 => k_is); (case a44 => k_is); (case l44 => k_is); (case c44 => k_is); (case k44 => k_is); (case a45 => k_is); (case l45 => k_is); (case c45 => k_is); (case k45 => k_is); (case a46 => k_is); (case l46 => k_is); (case c46 => k_is); (case k46 => k_is); (case a47 => k_is); (case l47 => k_is); (case c47 => k_is); (case k47 => k_is); (case a48 => k_is); (case l48 => k_is); (case c48 => k_is); (case k48 => k_is); (case a49 => k_is); (case l49 => k_is); (case c49 => k_is); (case k49 => k_is); (case aL => k_is); (case lL => k_is); (case cL1 => k_is); (case oL => first | k_is | kernel_rfl | rfl); (case vL => first | rfl | kernel_rfl | decide +kernel | k_is); (case hL => first | kernel_rfl | rfl | decide +kernel | k_is); (case nL => first | rfl | kernel_rfl | decide +kernel | k_is); (case vV => k_is); (case zV => k_is); (case z_abs => k_is); (case z_all => k_is); (case z_bool => k_is); (case z_enumerate => k_is); (case z_int => k_is); (case z_isinstance => k_is); (case z_len => k_is); (case z_list => k_is); (case z_max => k_is); (case z_range => k_is); (case z_sorted => k_is); (case z_str => k_is); (case z_tuple => k_is); (case g_LONGEST => k_is); (case g_MOST_BOUND => k_is); (case g_MOST_DEEP => k_is); (case g_MOST_LISTED => k_is); (case g_MOST_SIZE_counting => k_is); (case g_MOST_SIZE_terms => k_is); (case g_OF => k_is); (case g_SMALL => k_is); (case g_WITH => k_is); (case x1 => k_is); (case x2 => k_is); (case x3 => k_is); (case x4 => k_is); (case xl3 => k_is); (case xb3 => first | rfl | kernel_rfl | decide +kernel | k_is); (case xs3 => k_is); (case xe3 => k_is); (case xt3 => k_is); (case xk3 => k_is); (case xi3 => k_is); (case xl2 => k_is); (case xb2 => first | rfl | kernel_rfl | decide +kernel | k_is); (case xs2 => k_is); (case xe2 => k_is); (case xt2 => k_is); (case xk2 => k_is); (case xi2 => k_is); (case s1 => k_is); (case s2 => k_is); (case s3 => k_is); (case s4 => k_is); (case s5 => k_is); (case s6 => k_is); (case s7 => k_is); (case s8 => k_is); (case r1 => k_is); (case r2 => k_is); (case r3 => k_is); (case r4 => k_is); (case q1 => first | kernel_rfl | rfl | decide +kernel | k_is); (case q2 => first | kernel_rfl | rfl | decide +kernel | k_is); (case q3 => first | kernel_rfl | rfl | decide +kernel | k_is); (case lI => k_is); (case cI => k_is); (case kI => k_is); (case tI => k_is)
