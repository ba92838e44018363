import PyProof.Rows.All
import Wide.All
import OpenK.AllK
import Wide.FinOn
import HandS.ForMost
import HandS.ForExc
import HandS.SortInts
import HandS.TupAny
import HandS.TupLen
import HandS.Wide
import HandS.Deep
import HandS.Conv
import HandS.Codes
import HandS.Words
import HandS.WordsExc
import HandS.IsInst
import HandS.Style
import HandS.SetFor
import HandS.ExcIs
import HandS.Walk
import HandS.TryOnly
import HandS.Lambda
import PySem.Challenge.RW_sureplans_k38_whole_well_off_together
set_option Elab.async false
set_option linter.all false
set_option maxRecDepth 100000
set_option maxHeartbeats 1000000
/-! PVa: data trees, how they lie in the heap, what is owned. -/
namespace PV
open PySem L2

/-- a value without the heap; o: this list or dict is owned (may be changed), k: a dict's keys are tuples -/
inductive D where
  | non
  | bl (b : Bool)
  | int (i : Int)
  | str (s : Str)
  | fn (f : Nat)
  | tup (xs : List D)
  | lst (o : Bool) (xs : List D)
  | dct (o : Bool) (k : Bool) (ks vs : List D)
  | ins (c : Nat) (ns : List Str) (vs : List D)
  | scr (ns : List Int)

/-- what the module holds: its written part, where each def and class stands -/
structure Gm where
  K : PySem.W.Frag
  fa : Nat → Option Addr
  ca : Nat → Option Addr
  /-- tuples of the written part may be met -/
  kt : Bool
/-- a tuple stands at a -/
def TupAt (g : Gm) (F : Hp) (a : Addr) (vs : List V) : Prop := F a = some (.tup vs) ∨ (g.kt = true ∧ SqT g.K F a vs)
theorem TupAt.sq {g : Gm} {F : Hp} {a : Addr} {vs : List V} (h : TupAt g F a vs) : SqT g.K F a vs := by
  rcases h with h | ⟨_, h⟩
  · exact SqT.of h
  · exact h

abbrev Ow := Addr → Nat
def at1 (a : Addr) : Ow := fun x => if x = a then 1 else 0
theorem at1_self {a : Addr} : at1 a a = 1 := by simp [at1]
theorem at1_ne {a x : Addr} (h : x ≠ a) : at1 a x = 0 := by simp [at1, h]

def keyOf : D → Option Key
  | .int i => some (.inl i)
  | .str s => some (.inr s)
  | _ => none
def keysOf : List D → Option (List Key)
  | [] => some []
  | d :: ds => match keyOf d, keysOf ds with
    | some k, some ks => some (k :: ks)
    | _, _ => none
def keyTOf : D → Option (List Key)
  | .tup xs => keysOf xs
  | _ => none

/-- the object o stands at a: owned, or frozen -/
def Lies (F H : Hp) (own : Bool) (a : Addr) (o : HO) : Prop :=
  match own with
  | true => F a = none ∧ H a = some o
  | false => F a = some o
def ownAt (own : Bool) (a : Addr) : Ow := match own with
  | true => at1 a
  | false => fun _ => 0

mutual
def Rep (g : Gm) (F H : Hp) : D → V → Ow → Prop
  | .non, v, A => v = .non ∧ ∀ x, A x = 0
  | .bl b, v, A => v = .bl b ∧ ∀ x, A x = 0
  | .int i, v, A => v = .int i ∧ ∀ x, A x = 0
  | .str s, v, A => v = .str s ∧ ∀ x, A x = 0
  | .fn f, v, A => (∃ a, g.fa f = some a ∧ v = .ref a) ∧ ∀ x, A x = 0
  | .tup xs, v, A => ∃ a vs, v = .ref a ∧ TupAt g F a vs ∧ RepL g F H xs vs A
  | .lst false xs, v, A => (∀ x, A x = 0) ∧ ∃ a vs, v = .ref a ∧ Rd F a (.lst vs) ∧ RepL g F H xs vs A
  | .lst true xs, v, A => ∃ a vs B, v = .ref a ∧ F a = none ∧ H a = some (.lst vs) ∧ RepL g F H xs vs B ∧ ∀ x, A x = at1 a x + B x
  | .dct o false ks vs, v, A => ∃ a kvs, v = .ref a ∧ Lies F H o a (.dK kvs) ∧ ks.map keyOf = kvs.map (fun p => some p.1) ∧ RepL g F H vs (kvs.map (·.2)) (fun _ => 0) ∧ ∀ x, A x = ownAt o a x
  | .dct o true ks vs, v, A => ∃ a kvs, v = .ref a ∧ Lies F H o a (.dT kvs) ∧ ks.map keyTOf = kvs.map (fun p => some p.1) ∧ RepL g F H vs (kvs.map (·.2)) (fun _ => 0) ∧ ∀ x, A x = ownAt o a x
  | .ins c ns ds, v, A => ∃ a dx C fs B, v = .ref a ∧ g.ca c = some C ∧ a ≠ dx ∧ F a = none ∧ F dx = none ∧ H a = some (.ins C dx fs) ∧ H dx = some (.own a) ∧ fs.map (·.1) = ns ∧ RepL g F H ds (fs.map (·.2)) B ∧
      ∀ x, A x = at1 a x + at1 dx x + B x
  | .scr ns, v, A => (∃ a, v = .ref a ∧ SqL g.K F a (ns.map V.int)) ∧ ∀ x, A x = 0
def RepL (g : Gm) (F H : Hp) : List D → List V → Ow → Prop
  | [], vs, A => vs = [] ∧ ∀ x, A x = 0
  | d :: ds, vs, A => ∃ v vs' B C, vs = v :: vs' ∧ Rep g F H d v B ∧ RepL g F H ds vs' C ∧ ∀ x, A x = B x + C x
end

theorem sqT_same {K : PySem.W.Frag} {H H' : Hp} {a : Addr} {xs : List V} (e : Same H H') (h : SqT K H a xs) : SqT K H' a xs := by
  rcases h with (h | ⟨o, h⟩) | h
  · exact .inl (.inl (e _ _ h))
  · exact .inl (.inr ⟨o, e _ _ h⟩)
  · exact .inr h

theorem sqL_same {K : PySem.W.Frag} {H H' : Hp} {a : Addr} {xs : List V} (e : Same H H') (h : SqL K H a xs) : SqL K H' a xs := by
  rcases h with (h | ⟨o, h⟩) | h
  · exact .inl (.inl (e _ _ h))
  · exact .inl (.inr ⟨o, e _ _ h⟩)
  · exact .inr h
theorem tupAt_same {g : Gm} {H H' : Hp} {a : Addr} {xs : List V} (e : Same H H') (h : TupAt g H a xs) : TupAt g H' a xs := by
  rcases h with h | ⟨k, h⟩
  · exact .inl (e _ _ h)
  · exact .inr ⟨k, sqT_same e h⟩
theorem rd_same {H H' : Hp} {a : Addr} {u : HO} (e : Same H H') (h : Rd H a u) : Rd H' a u := by
  rcases h with h | ⟨o, h⟩
  · exact .inl (e _ _ h)
  · exact .inr ⟨o, e _ _ h⟩

/-- A lies as before: owned addresses unchanged -/
def Keeps (F' H H' : Hp) (A : Ow) : Prop := ∀ a, 0 < A a → F' a = none ∧ H' a = H a

section
variable {g : Gm} {F H F' H' : Hp}

theorem lies_fr {o : Bool} {a : Addr} {u : HO} (sf : Same F F') (h : Lies F H o a u) (k : 0 < ownAt o a a → F' a = none ∧ H' a = H a) : Lies F' H' o a u := by
  cases o with
  | false => exact sf _ _ h
  | true =>
    have q := k (by simp [ownAt, at1])
    exact ⟨q.1, q.2.trans h.2⟩

mutual
/-- the frame: frozen things grow, owned ones are untouched -/
theorem Rep.fr (sf : Same F F') : ∀ {d : D} {v : V} {A : Ow}, Rep g F H d v A → Keeps F' H H' A → Rep g F' H' d v A
  | .non, _, _, h, _ => h
  | .bl _, _, _, h, _ => h
  | .int _, _, _, h, _ => h
  | .str _, _, _, h, _ => h
  | .fn _, _, _, h, _ => h
  | .tup xs, v, A, h, k => by
    obtain ⟨a, vs, e, s, r⟩ := h
    exact ⟨a, vs, e, tupAt_same sf s, RepL.fr sf r k⟩
  | .lst false xs, v, A, h, k => by
    obtain ⟨z, a, vs, e, s, r⟩ := h
    exact ⟨z, a, vs, e, rd_same sf s, RepL.fr sf r k⟩
  | .lst true xs, v, A, h, k => by
    obtain ⟨a, vs, B, e, f, s, r, q⟩ := h
    have ka := k a (by rw [q a, at1_self]; omega)
    exact ⟨a, vs, B, e, ka.1, ka.2.trans s, RepL.fr sf r (fun x hx => k x (by rw [q x]; omega)), q⟩
  | .dct o false ks ds, v, A, h, k => by
    obtain ⟨a, kvs, e, l, kk, r, q⟩ := h
    exact ⟨a, kvs, e, lies_fr sf l (fun hx => k a (by rw [q a]; exact hx)), kk, RepL.fr sf r (fun x hx => absurd hx (by simp)), q⟩
  | .dct o true ks ds, v, A, h, k => by
    obtain ⟨a, kvs, e, l, kk, r, q⟩ := h
    exact ⟨a, kvs, e, lies_fr sf l (fun hx => k a (by rw [q a]; exact hx)), kk, RepL.fr sf r (fun x hx => absurd hx (by simp)), q⟩
  | .ins c ns ds, v, A, h, k => by
    obtain ⟨a, dx, C, fs, B, e, hc, ne, f1, f2, h1, h2, hn, r, q⟩ := h
    have ka := k a (by rw [q a, at1_self]; omega)
    have kd := k dx (by rw [q dx, at1_self]; omega)
    exact ⟨a, dx, C, fs, B, e, hc, ne, ka.1, kd.1, ka.2.trans h1, kd.2.trans h2, hn, RepL.fr sf r (fun x hx => k x (by rw [q x]; omega)), q⟩
  | .scr ns, v, A, h, _ => ⟨let ⟨a, e, q⟩ := h.1; ⟨a, e, sqL_same sf q⟩, h.2⟩
theorem RepL.fr (sf : Same F F') : ∀ {ds : List D} {vs : List V} {A : Ow}, RepL g F H ds vs A → Keeps F' H H' A → RepL g F' H' ds vs A
  | [], _, _, h, _ => h
  | d :: ds, vs, A, h, k => by
    obtain ⟨v, vs', B, C, e, r, rs, q⟩ := h
    exact ⟨v, vs', B, C, e, Rep.fr sf r (fun x hx => k x (by rw [q x]; omega)), RepL.fr sf rs (fun x hx => k x (by rw [q x]; omega)), q⟩
end

theorem lies_own {o : Bool} {a x : Addr} {u : HO} (h : Lies F H o a u) (hx : 0 < ownAt o a x) : F x = none ∧ ∃ u, H x = some u := by
  cases o with
  | false => simp [ownAt] at hx
  | true =>
    have e : x = a := by
      by_cases e : x = a
      · exact e
      · simp [ownAt, at1, e] at hx
    subst e
    exact ⟨h.1, _, h.2⟩
mutual
/-- what is owned isn't frozen, and stands -/
theorem Rep.own : ∀ {d : D} {v : V} {A : Ow}, Rep g F H d v A → ∀ x, 0 < A x → F x = none ∧ ∃ u, H x = some u
  | .non, _, _, h, x, hx => absurd hx (by rw [h.2 x]; simp)
  | .bl _, _, _, h, x, hx => absurd hx (by rw [h.2 x]; simp)
  | .int _, _, _, h, x, hx => absurd hx (by rw [h.2 x]; simp)
  | .str _, _, _, h, x, hx => absurd hx (by rw [h.2 x]; simp)
  | .fn _, _, _, h, x, hx => absurd hx (by rw [h.2 x]; simp)
  | .tup xs, v, A, h, x, hx => by
    obtain ⟨a, vs, e, s, r⟩ := h
    exact RepL.own r x hx
  | .lst false xs, v, A, h, x, hx => absurd hx (by rw [h.1 x]; simp)
  | .lst true xs, v, A, h, x, hx => by
    obtain ⟨a, vs, B, e, f, s, r, q⟩ := h
    by_cases ea : x = a
    · subst ea; exact ⟨f, _, s⟩
    · rw [q x, at1_ne ea] at hx
      exact RepL.own r x (by omega)
  | .dct o false ks ds, v, A, h, x, hx => by
    obtain ⟨a, kvs, e, l, kk, r, q⟩ := h
    exact lies_own l (by rw [← q x]; exact hx)
  | .dct o true ks ds, v, A, h, x, hx => by
    obtain ⟨a, kvs, e, l, kk, r, q⟩ := h
    exact lies_own l (by rw [← q x]; exact hx)
  | .ins c ns ds, v, A, h, x, hx => by
    obtain ⟨a, dx, C, fs, B, e, hc, ne, f1, f2, h1, h2, hn, r, q⟩ := h
    by_cases ea : x = a
    · subst ea; exact ⟨f1, _, h1⟩
    · by_cases ed : x = dx
      · subst ed; exact ⟨f2, _, h2⟩
      · rw [q x, at1_ne ea, at1_ne ed] at hx
        exact RepL.own r x (by omega)
  | .scr _, _, _, h, x, hx => absurd hx (by rw [h.2 x]; simp)
theorem RepL.own : ∀ {ds : List D} {vs : List V} {A : Ow}, RepL g F H ds vs A → ∀ x, 0 < A x → F x = none ∧ ∃ u, H x = some u
  | [], _, _, h, x, hx => absurd hx (by rw [h.2 x]; simp)
  | d :: ds, vs, A, h, x, hx => by
    obtain ⟨v, vs', B, C, e, r, rs, q⟩ := h
    by_cases hb : 0 < B x
    · exact Rep.own r x hb
    · exact RepL.own rs x (by rw [q x] at hx; omega)
end

/-! ### nothing owned -/
mutual
def noOwn : D → Bool
  | .tup xs => noOwnL xs
  | .lst o xs => !o && noOwnL xs
  | .dct o _ _ vs => !o
  | .ins _ _ _ => false
  | _ => true
def noOwnL : List D → Bool
  | [] => true
  | d :: ds => noOwn d && noOwnL ds
end
mutual
theorem Rep.zero : ∀ {d : D} {v : V} {A : Ow}, noOwn d = true → Rep g F H d v A → ∀ x, A x = 0
  | .non, _, _, _, h => h.2
  | .bl _, _, _, _, h => h.2
  | .int _, _, _, _, h => h.2
  | .str _, _, _, _, h => h.2
  | .fn _, _, _, _, h => h.2
  | .tup xs, v, A, n, h => by
    obtain ⟨a, vs, e, s, r⟩ := h
    exact RepL.zero (by simpa [noOwn] using n) r
  | .lst false xs, v, A, n, h => h.1
  | .lst true xs, v, A, n, h => by simp [noOwn] at n
  | .dct false false ks ds, v, A, n, h => by
    obtain ⟨a, kvs, e, l, kk, r, q⟩ := h
    intro x; rw [q x]; rfl
  | .dct false true ks ds, v, A, n, h => by
    obtain ⟨a, kvs, e, l, kk, r, q⟩ := h
    intro x; rw [q x]; rfl
  | .dct true _ ks ds, v, A, n, h => by simp [noOwn] at n
  | .ins c ns ds, v, A, n, h => by simp [noOwn] at n
  | .scr _, _, _, _, h => h.2
theorem RepL.zero : ∀ {ds : List D} {vs : List V} {A : Ow}, noOwnL ds = true → RepL g F H ds vs A → ∀ x, A x = 0
  | [], _, _, _, h => h.2
  | d :: ds, vs, A, n, h => by
    obtain ⟨v, vs', B, C, e, r, rs, q⟩ := h
    simp only [noOwnL, Bool.and_eq_true] at n
    intro x
    rw [q x, Rep.zero n.1 r x, RepL.zero n.2 rs x]
end
theorem RepL.length : ∀ {ds : List D} {vs : List V} {A : Ow}, RepL g F H ds vs A → ds.length = vs.length
  | [], _, _, h => by rw [h.1]; rfl
  | d :: ds, vs, A, h => by
    obtain ⟨v, vs', B, C, e, r, rs, q⟩ := h
    rw [e, List.length_cons, List.length_cons, RepL.length rs]

/-- an equal count will do -/
theorem Rep.eqA : ∀ {d : D} {v : V} {A B : Ow}, Rep g F H d v A → (∀ x, A x = B x) → Rep g F H d v B := fun {d v A B} h e => by
  have : A = B := funext e
  exact this ▸ h
theorem RepL.eqA {ds : List D} {vs : List V} {A B : Ow} (h : RepL g F H ds vs A) (e : ∀ x, A x = B x) : RepL g F H ds vs B := by
  have : A = B := funext e
  exact this ▸ h

/-- the frame for what owns nothing -/
theorem Rep.fr0 {d : D} {v : V} {A : Ow} (sf : Same F F') (n : noOwn d = true) (h : Rep g F H d v A) : Rep g F' H' d v A :=
  Rep.fr sf h fun x hx => absurd hx (by rw [Rep.zero n h x]; simp)
theorem RepL.fr0 {ds : List D} {vs : List V} {A : Ow} (sf : Same F F') (n : noOwnL ds = true) (h : RepL g F H ds vs A) : RepL g F' H' ds vs A :=
  RepL.fr sf h fun x hx => absurd hx (by rw [RepL.zero n h x]; simp)

mutual
/-- no exception within -/
def noX : D → Bool
  | .fn n => decide (n < 1000)
  | .tup xs => noXL xs
  | .lst _ xs => noXL xs
  | .dct _ _ _ vs => noXL vs
  | .ins _ _ vs => noXL vs
  | _ => true
def noXL : List D → Bool
  | [] => true
  | d :: ds => noX d && noXL ds
end
section
variable {g g' : Gm}
mutual
/-- other defs stand where they stood -/
theorem Rep.grow (q : Bool) (eK : g'.K = g.K) (ec : g'.ca = g.ca) (ek : g'.kt = g.kt) (ef : ∀ n a, g.fa n = some a → (q = true → n < 1000) → g'.fa n = some a) : ∀ {d : D} {v : V} {A : Ow}, (q = true → noX d = true) → Rep g F H d v A → Rep g' F H d v A
  | .non, _, _, _, h => h
  | .bl _, _, _, _, h => h
  | .int _, _, _, _, h => h
  | .str _, _, _, _, h => h
  | .fn n, _, _, k, h => by
    obtain ⟨⟨a, e, ev⟩, z⟩ := h
    exact ⟨⟨a, ef n a e fun hq => by have := k hq; simpa [noX] using this, ev⟩, z⟩
  | .tup xs, v, A, k, h => by
    obtain ⟨a, vs, e, s, r⟩ := h
    refine ⟨a, vs, e, ?_, RepL.grow q eK ec ek ef (fun hq => by have := k hq; simpa [noX] using this) r⟩
    rcases s with s | ⟨s1, s2⟩
    · exact .inl s
    · exact .inr ⟨ek.trans s1, by rw [eK]; exact s2⟩
  | .lst false xs, v, A, k, h => by
    obtain ⟨z, a, vs, e, s, r⟩ := h
    exact ⟨z, a, vs, e, s, RepL.grow q eK ec ek ef (fun hq => by have := k hq; simpa [noX] using this) r⟩
  | .lst true xs, v, A, k, h => by
    obtain ⟨a, vs, B, e, f, s, r, z⟩ := h
    exact ⟨a, vs, B, e, f, s, RepL.grow q eK ec ek ef (fun hq => by have := k hq; simpa [noX] using this) r, z⟩
  | .dct o false ks ds, v, A, k, h => by
    obtain ⟨a, kvs, e, l, kk, r, z⟩ := h
    exact ⟨a, kvs, e, l, kk, RepL.grow q eK ec ek ef (fun hq => by have := k hq; simpa [noX] using this) r, z⟩
  | .dct o true ks ds, v, A, k, h => by
    obtain ⟨a, kvs, e, l, kk, r, z⟩ := h
    exact ⟨a, kvs, e, l, kk, RepL.grow q eK ec ek ef (fun hq => by have := k hq; simpa [noX] using this) r, z⟩
  | .ins c ns ds, v, A, k, h => by
    obtain ⟨a, dx, C, fs, B, e, hc, ne, f1, f2, h1, h2, hn, r, z⟩ := h
    exact ⟨a, dx, C, fs, B, e, by rw [ec]; exact hc, ne, f1, f2, h1, h2, hn, RepL.grow q eK ec ek ef (fun hq => by have := k hq; simpa [noX] using this) r, z⟩
  | .scr ns, v, A, _, h => ⟨let ⟨a, e, z⟩ := h.1; ⟨a, e, by rw [eK]; exact z⟩, h.2⟩
theorem RepL.grow (q : Bool) (eK : g'.K = g.K) (ec : g'.ca = g.ca) (ek : g'.kt = g.kt) (ef : ∀ n a, g.fa n = some a → (q = true → n < 1000) → g'.fa n = some a) : ∀ {ds : List D} {vs : List V} {A : Ow}, (q = true → noXL ds = true) → RepL g F H ds vs A → RepL g' F H ds vs A
  | [], _, _, _, h => h
  | d :: ds, vs, A, k, h => by
    obtain ⟨v, vs', B, C, e, r, rs, z⟩ := h
    exact ⟨v, vs', B, C, e, Rep.grow q eK ec ek ef (fun hq => by have := k hq; simp only [noXL, Bool.and_eq_true] at this; exact this.1) r, RepL.grow q eK ec ek ef (fun hq => by have := k hq; simp only [noXL, Bool.and_eq_true] at this; exact this.2) rs, z⟩
end
end
/-! ### freezing -/
mutual
def fz : D → D
  | .tup xs => .tup (fzL xs)
  | .lst _ xs => .lst false (fzL xs)
  | .dct _ k ks vs => .dct false k ks vs
  | d => d
def fzL : List D → List D
  | [] => []
  | d :: ds => fz d :: fzL ds
end
mutual
def canFz : D → Bool
  | .tup xs => canFzL xs
  | .lst _ xs => canFzL xs
  | .ins _ _ _ => false
  | _ => true
def canFzL : List D → Bool
  | [] => true
  | d :: ds => canFz d && canFzL ds
end
mutual
theorem fz_noOwn : ∀ {d : D}, canFz d = true → noOwn (fz d) = true
  | .non, _ => rfl
  | .bl _, _ => rfl
  | .int _, _ => rfl
  | .str _, _ => rfl
  | .fn _, _ => rfl
  | .tup xs, h => by simp only [fz, noOwn]; exact fzL_noOwn (by simpa [canFz] using h)
  | .lst o xs, h => by simp only [fz, noOwn, Bool.not_false, Bool.true_and]; exact fzL_noOwn (by simpa [canFz] using h)
  | .dct _ _ _ _, h => rfl
  | .ins _ _ _, h => by simp [canFz] at h
  | .scr _, _ => rfl
theorem fzL_noOwn : ∀ {ds : List D}, canFzL ds = true → noOwnL (fzL ds) = true
  | [], _ => rfl
  | d :: ds, h => by
    simp only [canFzL, Bool.and_eq_true] at h
    simp only [fzL, noOwnL, Bool.and_eq_true]
    exact ⟨fz_noOwn h.1, fzL_noOwn h.2⟩
end
mutual
theorem fz_id : ∀ {d : D}, noOwn d = true → fz d = d
  | .non, _ => rfl
  | .bl _, _ => rfl
  | .int _, _ => rfl
  | .str _, _ => rfl
  | .fn _, _ => rfl
  | .tup xs, h => by simp only [fz, fzL_id (ds := xs) (by simpa [noOwn] using h)]
  | .lst false xs, h => by simp only [fz, fzL_id (ds := xs) (by simpa [noOwn] using h)]
  | .lst true xs, h => by simp [noOwn] at h
  | .dct false _ _ _, h => rfl
  | .dct true _ _ _, h => by simp [noOwn] at h
  | .ins _ _ _, h => rfl
  | .scr _, _ => rfl
theorem fzL_id : ∀ {ds : List D}, noOwnL ds = true → fzL ds = ds
  | [], _ => rfl
  | d :: ds, h => by
    simp only [noOwnL, Bool.and_eq_true] at h
    simp only [fzL, fz_id h.1, fzL_id h.2]
end
mutual
theorem noOwn_canFz : ∀ {d : D}, noOwn d = true → canFz d = true
  | .non, _ => rfl
  | .bl _, _ => rfl
  | .int _, _ => rfl
  | .str _, _ => rfl
  | .fn _, _ => rfl
  | .tup xs, h => by simp only [canFz]; exact noOwnL_canFz (by simpa [noOwn] using h)
  | .lst o xs, h => by
    simp only [noOwn, Bool.and_eq_true] at h
    simp only [canFz]; exact noOwnL_canFz h.2
  | .dct _ _ _ _, h => rfl
  | .ins _ _ _, h => by simp [noOwn] at h
  | .scr _, _ => rfl
theorem noOwnL_canFz : ∀ {ds : List D}, noOwnL ds = true → canFzL ds = true
  | [], _ => rfl
  | d :: ds, h => by
    simp only [noOwnL, Bool.and_eq_true] at h
    simp only [canFzL, Bool.and_eq_true]
    exact ⟨noOwn_canFz h.1, noOwnL_canFz h.2⟩
end

/-- the frozen heap with what is owned under A -/
def frz (F H : Hp) (A : Ow) : Hp := fun x => if 0 < A x then H x else F x
theorem frz_same {A : Ow} (h : ∀ x, 0 < A x → F x = none) : Same F (frz F H A) := fun a o e => by
  unfold frz
  by_cases q : 0 < A a
  · rw [h a q] at e; cases e
  · rw [if_neg q]; exact e
theorem frz_sub {A : Ow} (s : Same F H) : Same (frz F H A) H := fun a o e => by
  unfold frz at e
  split at e
  · exact e
  · exact s a o e
theorem frz_at {A : Ow} {a : Addr} (h : 0 < A a) : frz F H A a = H a := by unfold frz; rw [if_pos h]
mutual
/-- a thing is frozen: every heap that has its owned objects frozen will do -/
theorem Rep.freeze (sf : Same F F') : ∀ {d : D} {v : V} {A : Ow}, canFz d = true → Rep g F H d v A → (∀ x, 0 < A x → F' x = H x) → Rep g F' H' (fz d) v (fun _ => 0)
  | .non, _, _, _, h, _ => ⟨h.1, fun _ => rfl⟩
  | .bl _, _, _, _, h, _ => ⟨h.1, fun _ => rfl⟩
  | .int _, _, _, _, h, _ => ⟨h.1, fun _ => rfl⟩
  | .str _, _, _, _, h, _ => ⟨h.1, fun _ => rfl⟩
  | .fn _, _, _, _, h, _ => ⟨h.1, fun _ => rfl⟩
  | .tup xs, v, A, n, h, k => by
    obtain ⟨a, vs, e, s, r⟩ := h
    simp only [fz]
    exact ⟨a, vs, e, tupAt_same sf s, RepL.freeze sf (by simpa [canFz] using n) r k⟩
  | .lst false xs, v, A, n, h, k => by
    obtain ⟨z, a, vs, e, s, r⟩ := h
    simp only [fz]
    exact ⟨fun _ => rfl, a, vs, e, rd_same sf s, RepL.freeze sf (by simpa [canFz] using n) r k⟩
  | .lst true xs, v, A, n, h, k => by
    obtain ⟨a, vs, B, e, f, s, r, q⟩ := h
    simp only [fz]
    refine ⟨fun _ => rfl, a, vs, e, ?_, RepL.freeze sf (by simpa [canFz] using n) r (fun x hx => k x (by rw [q x]; omega))⟩
    exact Rd.of ((k a (by rw [q a, at1_self]; omega)).trans s)
  | .dct false false ks ds, v, A, n, h, k => by
    obtain ⟨a, kvs, e, l, kk, r, q⟩ := h
    simp only [fz]
    exact ⟨a, kvs, e, sf _ _ l, kk, RepL.fr sf r (fun x hx => absurd hx (by simp)), fun _ => rfl⟩
  | .dct true false ks ds, v, A, n, h, k => by
    obtain ⟨a, kvs, e, l, kk, r, q⟩ := h
    simp only [fz]
    refine ⟨a, kvs, e, ?_, kk, RepL.fr sf r (fun x hx => absurd hx (by simp)), fun _ => rfl⟩
    exact (k a (by rw [q a]; simp [ownAt, at1])).trans l.2
  | .dct false true ks ds, v, A, n, h, k => by
    obtain ⟨a, kvs, e, l, kk, r, q⟩ := h
    simp only [fz]
    exact ⟨a, kvs, e, sf _ _ l, kk, RepL.fr sf r (fun x hx => absurd hx (by simp)), fun _ => rfl⟩
  | .dct true true ks ds, v, A, n, h, k => by
    obtain ⟨a, kvs, e, l, kk, r, q⟩ := h
    simp only [fz]
    refine ⟨a, kvs, e, ?_, kk, RepL.fr sf r (fun x hx => absurd hx (by simp)), fun _ => rfl⟩
    exact (k a (by rw [q a]; simp [ownAt, at1])).trans l.2
  | .ins _ _ _, _, _, n, _, _ => by simp [canFz] at n
  | .scr _, _, _, _, h, _ => ⟨let ⟨a, e, q⟩ := h.1; ⟨a, e, sqL_same sf q⟩, fun _ => rfl⟩
theorem RepL.freeze (sf : Same F F') : ∀ {ds : List D} {vs : List V} {A : Ow}, canFzL ds = true → RepL g F H ds vs A → (∀ x, 0 < A x → F' x = H x) → RepL g F' H' (fzL ds) vs (fun _ => 0)
  | [], _, _, _, h, _ => ⟨h.1, fun _ => rfl⟩
  | d :: ds, vs, A, n, h, k => by
    obtain ⟨v, vs', B, C, e, r, rs, q⟩ := h
    simp only [canFzL, Bool.and_eq_true] at n
    simp only [fzL]
    exact ⟨v, vs', _, _, e, Rep.freeze sf n.1 r (fun x hx => k x (by rw [q x]; omega)), RepL.freeze sf n.2 rs (fun x hx => k x (by rw [q x]; omega)), fun _ => rfl⟩
end

/-! ### the slots -/
abbrev Env := List (Option D)
def noXS : Env → Bool
  | [] => true
  | some d :: ρ => noX d && noXS ρ
  | none :: ρ => noXS ρ
def RepS (g : Gm) (F H : Hp) : Env → St → Ow → Prop
  | [], σ, O => σ = [] ∧ ∀ x, O x = 0
  | none :: ρ, σ, O => ∃ s σ', σ = s :: σ' ∧ RepS g F H ρ σ' O
  | some d :: ρ, σ, O => ∃ v σ' B C, σ = some v :: σ' ∧ Rep g F H d v B ∧ RepS g F H ρ σ' C ∧ ∀ x, O x = B x + C x

theorem RepS.grow {g g' : Gm} (q : Bool) (eK : g'.K = g.K) (ec : g'.ca = g.ca) (ek : g'.kt = g.kt) (ef : ∀ n a, g.fa n = some a → (q = true → n < 1000) → g'.fa n = some a) : ∀ {ρ : Env} {σ : St} {O : Ow}, (q = true → noXS ρ = true) → RepS g F H ρ σ O → RepS g' F H ρ σ O
  | [], _, _, _, h => h
  | none :: ρ, σ, O, k, h => by
    obtain ⟨s, σ', e, r⟩ := h
    exact ⟨s, σ', e, RepS.grow q eK ec ek ef (fun hq => by simpa [noXS] using k hq) r⟩
  | some d :: ρ, σ, O, k, h => by
    obtain ⟨v, σ', B, C, e, r, rs, z⟩ := h
    exact ⟨v, σ', B, C, e, Rep.grow q eK ec ek ef (fun hq => by have := k hq; simp only [noXS, Bool.and_eq_true] at this; exact this.1) r, RepS.grow q eK ec ek ef (fun hq => by have := k hq; simp only [noXS, Bool.and_eq_true] at this; exact this.2) rs, z⟩
theorem RepS.length : ∀ {ρ : Env} {σ : St} {O : Ow}, RepS g F H ρ σ O → ρ.length = σ.length
  | [], _, _, h => by rw [h.1]; rfl
  | none :: ρ, _, _, h => by
    obtain ⟨s, σ', e, r⟩ := h
    rw [e, List.length_cons, List.length_cons, RepS.length r]
  | some d :: ρ, _, _, h => by
    obtain ⟨v, σ', B, C, e, _, r, _⟩ := h
    rw [e, List.length_cons, List.length_cons, RepS.length r]
theorem RepS.fr (sf : Same F F') : ∀ {ρ : Env} {σ : St} {O : Ow}, RepS g F H ρ σ O → Keeps F' H H' O → RepS g F' H' ρ σ O
  | [], _, _, h, _ => h
  | none :: ρ, _, _, h, k => by
    obtain ⟨s, σ', e, r⟩ := h
    exact ⟨s, σ', e, RepS.fr sf r k⟩
  | some d :: ρ, _, _, h, k => by
    obtain ⟨v, σ', B, C, e, rd, r, q⟩ := h
    exact ⟨v, σ', B, C, e, rd.fr sf (fun x hx => k x (by rw [q x]; omega)), RepS.fr sf r (fun x hx => k x (by rw [q x]; omega)), q⟩
theorem RepS.own : ∀ {ρ : Env} {σ : St} {O : Ow}, RepS g F H ρ σ O → ∀ x, 0 < O x → F x = none ∧ ∃ u, H x = some u
  | [], _, _, h, x, hx => absurd hx (by rw [h.2 x]; simp)
  | none :: ρ, _, _, h, x, hx => by
    obtain ⟨s, σ', e, r⟩ := h
    exact RepS.own r x hx
  | some d :: ρ, _, _, h, x, hx => by
    obtain ⟨v, σ', B, C, e, rd, r, q⟩ := h
    by_cases hb : 0 < B x
    · exact rd.own x hb
    · exact RepS.own r x (by rw [q x] at hx; omega)
theorem RepS.eqO {ρ : Env} {σ : St} {A B : Ow} (h : RepS g F H ρ σ A) (e : ∀ x, A x = B x) : RepS g F H ρ σ B := by
  have : A = B := funext e
  exact this ▸ h

def slot (ρ : Env) (i : Nat) : Option D := match ρ, i with
  | [], _ => none
  | d :: _, 0 => d
  | _ :: ρ, i + 1 => slot ρ i
def put (ρ : Env) (i : Nat) (d : Option D) : Env := match ρ, i with
  | [], _ => []
  | _ :: ρ, 0 => d :: ρ
  | e :: ρ, i + 1 => e :: put ρ i d

/-- a slot is taken out -/
theorem RepS.take : ∀ {ρ : Env} {σ : St} {O : Ow} {i : Nat} {d : D}, RepS g F H ρ σ O → slot ρ i = some d → ∃ v B C, σ[i]? = some (some v) ∧ Rep g F H d v B ∧ RepS g F H (put ρ i none) σ C ∧ ∀ x, O x = B x + C x
  | [], _, _, i, d, h, e => by simp [slot] at e
  | none :: ρ, σ, O, 0, d, h, e => by simp [slot] at e
  | none :: ρ, σ, O, i + 1, d, h, e => by
    obtain ⟨s, σ', e1, r⟩ := h
    obtain ⟨v, B, C, e2, rd, rs, q⟩ := RepS.take (i := i) r (by simpa [slot] using e)
    subst e1
    exact ⟨v, B, C, by simpa using e2, rd, ⟨s, σ', rfl, rs⟩, q⟩
  | some d' :: ρ, σ, O, 0, d, h, e => by
    obtain ⟨v, σ', B, C, e1, rd, r, q⟩ := h
    simp only [slot, Option.some.injEq] at e
    subst e e1
    exact ⟨v, B, C, rfl, rd, ⟨some v, σ', rfl, r⟩, q⟩
  | some d' :: ρ, σ, O, i + 1, d, h, e => by
    obtain ⟨v, σ', B, C, e1, rd, r, q⟩ := h
    obtain ⟨v', B', C', e2, rd', rs, q'⟩ := RepS.take (i := i) r (by simpa [slot] using e)
    subst e1
    exact ⟨v', B', fun x => B x + C' x, by simpa using e2, rd', ⟨v, σ', B, C', rfl, rd, rs, fun _ => rfl⟩, fun x => by
      have h1 := q x
      have h2 := q' x
      show O x = B' x + (B x + C' x)
      omega⟩
/-- a slot that tells nothing is filled; the value is stored there -/
theorem RepS.fill : ∀ {ρ : Env} {σ : St} {C : Ow} {i : Nat} {d : D} {v : V} {B : Ow}, RepS g F H (put ρ i none) σ C → i < ρ.length → Rep g F H d v B → RepS g F H (put ρ i (some d)) (σ.set i (some v)) (fun x => B x + C x)
  | [], _, _, i, _, _, _, h, hi, _ => by simp at hi
  | e :: ρ, σ, C, 0, d, v, B, h, hi, rd => by
    obtain ⟨s, σ', e1, r⟩ := h
    subst e1
    exact ⟨v, σ', B, C, rfl, rd, r, fun _ => rfl⟩
  | none :: ρ, σ, C, i + 1, d, v, B, h, hi, rd => by
    obtain ⟨s, σ', e1, r⟩ := h
    subst e1
    exact ⟨s, σ'.set i (some v), rfl, RepS.fill (i := i) r (by simpa using hi) rd⟩
  | some d' :: ρ, σ, C, i + 1, d, v, B, h, hi, rd => by
    obtain ⟨v', σ', B', C', e1, rd', r, q⟩ := h
    subst e1
    exact ⟨v', σ'.set i (some v), B', _, rfl, rd', RepS.fill (i := i) r (by simpa using hi) rd, fun x => by
      have h1 := q x
      show B x + C x = B' x + (B x + C' x)
      omega⟩
theorem put_length : ∀ {ρ : Env} {i : Nat} {d : Option D}, (put ρ i d).length = ρ.length
  | [], _, _ => rfl
  | _ :: ρ, 0, _ => rfl
  | _ :: ρ, i + 1, _ => by simp only [put, List.length_cons, put_length]
theorem put_put : ∀ {ρ : Env} {i : Nat} {d e : Option D}, put (put ρ i d) i e = put ρ i e
  | [], _, _, _ => rfl
  | _ :: ρ, 0, _, _ => rfl
  | _ :: ρ, i + 1, _, _ => by simp only [put, put_put]
theorem slot_lt : ∀ {ρ : Env} {i : Nat} {d : D}, slot ρ i = some d → i < ρ.length
  | [], _, _, h => by simp [slot] at h
  | _ :: ρ, 0, _, _ => by simp
  | _ :: ρ, i + 1, _, h => by
    have := slot_lt (ρ := ρ) (i := i) (by simpa [slot] using h)
    simpa using this
theorem slot_put_same : ∀ {ρ : Env} {i : Nat} {d : Option D}, i < ρ.length → slot (put ρ i d) i = d
  | [], _, _, h => by simp at h
  | _ :: ρ, 0, _, _ => rfl
  | _ :: ρ, i + 1, _, h => by
    simp only [put, slot]
    exact slot_put_same (by simpa using h)
/-- forgetting what a slot holds -/
theorem RepS.forget : ∀ {ρ : Env} {σ : St} {O : Ow} {i : Nat}, RepS g F H ρ σ O → ∃ C, RepS g F H (put ρ i none) σ C ∧ ∀ x, C x ≤ O x
  | ρ, σ, O, i, h => by
    cases e : slot ρ i with
    | none => 
      refine ⟨O, ?_, fun _ => Nat.le_refl _⟩
      have : put ρ i none = ρ := by
        clear h
        induction ρ generalizing i with
        | nil => rfl
        | cons a ρ ih =>
          cases i with
          | zero => simp only [slot] at e; subst e; rfl
          | succ i => simp only [put]; rw [ih i (by simpa [slot] using e)]
      rw [this]; exact h
    | some d =>
      obtain ⟨v, B, C, _, _, r, q⟩ := h.take e
      exact ⟨C, r, fun x => by rw [q x]; omega⟩
/-- a slot is stored where nothing is told of it -/
theorem RepS.setNone : ∀ {ρ : Env} {σ : St} {C : Ow} {i : Nat} {s : Option V}, RepS g F H (put ρ i none) σ C → RepS g F H (put ρ i none) (σ.set i s) C
  | [], σ, C, i, s, h => by
    obtain ⟨e, q⟩ := h
    subst e
    exact ⟨rfl, q⟩
  | e :: ρ, σ, C, 0, s, h => by
    obtain ⟨s', σ', e1, r⟩ := h
    subst e1
    exact ⟨s, σ', rfl, r⟩
  | none :: ρ, σ, C, i + 1, s, h => by
    obtain ⟨s', σ', e1, r⟩ := h
    subst e1
    exact ⟨s', σ'.set i s, rfl, RepS.setNone r⟩
  | some d :: ρ, σ, C, i + 1, s, h => by
    obtain ⟨v', σ', B', C', e1, rd', r, q⟩ := h
    subst e1
    exact ⟨v', σ'.set i s, B', C', rfl, rd', RepS.setNone r, q⟩
end

/-! ### states and steps -/
structure Sta (g : Gm) (F H : Hp) (ρ : Env) (σ : St) (O : Ow) : Prop where
  same : Same F H
  slots : RepS g F H ρ σ O
  one : ∀ x, O x ≤ 1
/-- from owned O to owned O' (slots and results): frozen stays, what isn't owned stays, new frozen and owned things are new or were owned -/
structure Stp (F H : Hp) (O : Ow) (F' H' : Hp) (O' : Ow) : Prop where
  ff : Same F F'
  fh : Same F' H'
  keep : ∀ a o, O a = 0 → H a = some o → H' a = some o
  newF : ∀ a, F a = none → H a ≠ none → O a = 0 → F' a = none
  newO : ∀ a, 0 < O' a → 0 < O a ∨ H a = none

theorem Stp.refl {F H : Hp} {O : Ow} (s : Same F H) : Stp F H O F H O := ⟨Same.refl F, s, fun _ _ _ h => h, fun _ h _ _ => h, fun _ h => .inl h⟩
theorem Stp.trans {F H F1 H1 F2 H2 : Hp} {O O1 O2 : Ow} (p : Stp F H O F1 H1 O1) (q : Stp F1 H1 O1 F2 H2 O2) : Stp F H O F2 H2 O2 := by
  have o1 : ∀ a, O a = 0 → H a ≠ none → O1 a = 0 := fun a h1 h2 => by
    by_cases z : O1 a = 0
    · exact z
    · rcases p.newO a (by omega) with w | w
      · omega
      · exact absurd w h2
  refine ⟨p.ff.trans q.ff, q.fh, fun a o h1 h2 => ?_, fun a h1 h2 h3 => ?_, fun a h => ?_⟩
  · exact q.keep a o (o1 a h1 (by rw [h2]; simp)) (p.keep a o h1 h2)
  · have f1 := p.newF a h1 h2 h3
    refine q.newF a f1 ?_ (o1 a h3 h2)
    cases e : H a with
    | none => exact absurd e h2
    | some o => rw [p.keep a o h3 e]; simp
  · rcases q.newO a h with w | w
    · exact p.newO a w
    · by_cases z : O a = 0
      · refine .inr ?_
        cases e : H a with
        | none => rfl
        | some o => rw [p.keep a o z e] at w; cases w
      · exact .inl (by omega)
/-- less is owned in the end -/
theorem Stp.less {F H F1 H1 : Hp} {O O1 O2 : Ow} (p : Stp F H O F1 H1 O1) (h : ∀ x, 0 < O2 x → 0 < O1 x) : Stp F H O F1 H1 O2 := ⟨p.ff, p.fh, p.keep, p.newF, fun a q => p.newO a (h a q)⟩
/-- a framed thing: owned by nobody within the step -/
theorem Stp.frame {g : Gm} {F H F1 H1 : Hp} {O O1 T : Ow} {d : D} {v : V} (p : Stp F H O F1 H1 O1) (r : Rep g F H d v T) (dis : ∀ x, 0 < T x → O x = 0) : Rep g F1 H1 d v T ∧ ∀ x, 0 < T x → O1 x = 0 := by
  refine ⟨r.fr p.ff fun x hx => ?_, fun x hx => ?_⟩
  · obtain ⟨f, u, e⟩ := r.own x hx
    exact ⟨p.newF x f (by rw [e]; simp) (dis x hx), by rw [p.keep x u (dis x hx) e, e]⟩
  · obtain ⟨f, u, e⟩ := r.own x hx
    by_cases z : O1 x = 0
    · exact z
    · rcases p.newO x (by omega) with w | w
      · have := dis x hx; omega
      · rw [e] at w; cases w
theorem Stp.frameL {g : Gm} {F H F1 H1 : Hp} {O O1 T : Ow} {d : List D} {v : List V} (p : Stp F H O F1 H1 O1) (r : RepL g F H d v T) (dis : ∀ x, 0 < T x → O x = 0) : RepL g F1 H1 d v T ∧ ∀ x, 0 < T x → O1 x = 0 := by
  refine ⟨r.fr p.ff fun x hx => ?_, fun x hx => ?_⟩
  · obtain ⟨f, u, e⟩ := r.own x hx
    exact ⟨p.newF x f (by rw [e]; simp) (dis x hx), by rw [p.keep x u (dis x hx) e, e]⟩
  · obtain ⟨f, u, e⟩ := r.own x hx
    by_cases z : O1 x = 0
    · exact z
    · rcases p.newO x (by omega) with w | w
      · have := dis x hx; omega
      · rw [e] at w; cases w
/-- .. with the frame told as owned ahead and behind -/
theorem Stp.more {F H F1 H1 : Hp} {O O1 T : Ow} (p : Stp F H O F1 H1 O1) : Stp F H (fun x => O x + T x) F1 H1 (fun x => O1 x + T x) :=
  ⟨p.ff, p.fh, fun a o h e => p.keep a o (by have h : O a + T a = 0 := h; omega) e, fun a f h z => p.newF a f h (by have z : O a + T a = 0 := z; omega), fun a h => by
    by_cases z : 0 < T a
    · exact .inl (show 0 < O a + T a by omega)
    · have h : 0 < O1 a + T a := h
      rcases p.newO a (by omega) with w | w
      · exact .inl (show 0 < O a + T a by omega)
      · exact .inr w⟩
end PV

/-! PVb: the small language (E, S), what its programs compute. -/
namespace PV
open PySem L2

inductive B2 | add | addi | sub | mul | muli | fdiv | mod | pow | shl | shr | band | bor | bxor
  deriving DecidableEq
inductive C2 | eq | ne | lt | le | gt | ge | isin | notin
  deriving DecidableEq
inductive F1 | len | list | tuple | sorted | sum | all | any | int | str | abs | max | min | dict
  deriving DecidableEq
inductive F2 | max | min
  deriving DecidableEq
inductive M1 | index | lcount | scount | join | split | partition | find
  deriving DecidableEq
inductive Ty | bool | int | str | list | tuple
  deriving DecidableEq
inductive MM | append | extend | insert | clear | pop
  deriving DecidableEq
/-- what a for walks: a value; a list held meanwhile; ranges; enumerate; zip -/
inductive ItK | e | hold | rng1 | rng2 | enum | zip
  deriving DecidableEq
inductive Tg | nm (i : Nat) | tup (is : List Nat)
  deriving DecidableEq
inductive Sp1 | f (n : Str) | i (k : Int)
  deriving DecidableEq

mutual
inductive E
  | int (i : Int) | str (s : Str) | bl (b : Bool) | non | fn (f : Nat) | glob (k : Nat) | no
  | var (i : Nat) | mv (i : Nat) | vf (i : Nat)
  | bin (o : B2) (a b : E)
  | cmp (o : C2) (a b : E)
  | chain (o p : C2) (a b c : E)
  | isn (neg : Bool) (a : E)
  | neg (a : E) | not (a : E)
  | and (a b : E) | or (a b : E)
  | ife (c a b : E)
  | tup (es : Es) | lst (es : Es)
  | ix (a b : E)
  | sl (a lo hi : E)
  | rev (a : E)
  | f1 (f : F1) (a : E)
  | trg (l : Bool) (a : E)
  | sset (a : E)
  | dnw
  | xis (i : Nat) (js : List Nat)
  | fr (e : E)
  | f2 (f : F2) (a b : E)
  | isin (a : E) (ts : List Ty)
  | m1 (m : M1) (a b : E)
  | call (f : Nat) (es : Es)
  | mm (m : MM) (i : Nat) (st : List Sp1) (es : Es)
  | lc (g : Tg) (k : ItK) (a b : E) (c e : E) (own : List Nat)
  | fld (a : E) (f : Str)
inductive Es
  | nil
  | cons (e : E) (es : Es)
end
mutual
inductive S
  | asg (i : Nat) (e : E)
  | asgT (is : List Nat) (e : E)
  | aug (i : Nat) (o : B2) (e : E)
  | setix (i : Nat) (st : List Sp1) (k e : E)
  | dput (i : Nat) (k e : E)
  | try1 (b : Ss) (c : Nat) (i : Option Nat) (h : Ss)
  | expr (e : E)
  | ret (e : E) | retn
  | ife (c : E) (a b : Ss)
  | wh (c : E) (b : Ss)
  | for (g : Tg) (k : ItK) (a b : E) (body : Ss)
  | raise (c : Nat)
  | pass | cont | brk
inductive Ss
  | nil
  | cons (s : S) (ss : Ss)
end

/-! ### values -/
def isScal : D → Bool
  | .non => true | .bl _ => true | .int _ => true | .str _ => true | .fn _ => true
  | _ => false

def isNonD : D → Bool
  | .non => true
  | _ => false
mutual
def py : D → Option PyData
  | .non => some .none
  | .bl b => some (.bool b)
  | .int i => some (.int i)
  | .str s => some (.str s)
  | .tup xs => (pyL xs).map .tuple
  | .lst _ xs => (pyL xs).map .list
  | _ => none
def pyL : List D → Option (List PyData)
  | [] => some []
  | d :: ds => match py d, pyL ds with
    | some x, some xs => some (x :: xs)
    | _, _ => none
end
def eqD (a b : D) : Option Bool := match py a, py b with
  | some x, some y => if SeqAt.shaped x && SeqAt.shaped y then some (PyData.eqv x y) else none
  | _, _ => none
def szOk (n : Nat) : Bool := decide (n ≤ sizeLine)

def fdivOk (j : Int) : Bool := decide (0 < j) && (decide (j < 1073741824) || decide (j.natAbs.log2 < 9000))
def mulOk (i j : Int) : Bool := decide (-(2 ^ 64) < i) && decide (i < 2 ^ 64) || decide (-(2 ^ 64) < j) && decide (j < 2 ^ 64) || decide (i.natAbs.log2 + j.natAbs.log2 < 1000000)
def powOk (i j : Int) : Bool := decide (0 ≤ j) && decide (j ≤ 1000000) && decide (i.natAbs < 2 ^ 64)
def ix63 (k : Int) : Bool := decide (-(2 ^ 63) ≤ k) && decide (k < 2 ^ 63)

def b2 : B2 → D → D → Option D
  | .add, .int i, .int j => some (.int (i + j))
  | .add, .str a, .str b => if szOk (a.length + b.length) then some (.str (a ++ b)) else none
  | .add, .lst _ xs, .lst _ ys => if noOwnL xs && noOwnL ys && szOk (xs.length + ys.length) then some (.lst true (xs ++ ys)) else none
  | .add, .tup xs, .tup ys => if noOwnL xs && noOwnL ys && szOk (xs.length + ys.length) then some (.tup (xs ++ ys)) else none
  | .addi, .int i, .int j => some (.int (i + j))
  | .sub, .int i, .int j => some (.int (i - j))
  | .mul, .int i, .int j => if mulOk i j then some (.int (i * j)) else none
  | .mul, .lst true xs, .int k => if noOwnL xs && ix63 k && szOk (xs.length * k.toNat) then some (.lst true (List.replicate k.toNat xs).flatten) else none
  | .muli, .int i, .int j => if mulOk i j then some (.int (i * j)) else none
  | .fdiv, .int i, .int j => if fdivOk j then some (.int (i / j)) else none
  | .mod, .int i, .int j => if 0 < j then some (.int (i % j)) else none
  | .pow, .int i, .int j => if powOk i j then some (.int (i ^ j.toNat)) else none
  | .shl, .int i, .int j => if powOk i j then some (.int (i * 2 ^ j.toNat)) else none
  | .shr, .int i, .int j => if 0 ≤ j then some (.int (i / 2 ^ j.toNat)) else none
  | .band, .int i, .int j => some (.int (Builtin.bitAnd i j))
  | .bor, .int i, .int j => some (.int (Builtin.bitOr i j))
  | .bxor, .int i, .int j => some (.int (Builtin.bitXor i j))
  | _, _, _ => none

/-- x in c -/
def inD (kt : Bool) (x : D) : D → Option Bool
  | .lst _ ys => match py x, pyL ys with
    | some d, some ds => if SeqAt.shaped d && SeqAt.shaped (.list ds) then some (ds.any fun z => PyData.eqv z d) else none
    | _, _ => none
  | .tup ys => match py x, pyL ys with
    | some d, some ds => if isScal x && ys.all isScal then some (ds.any fun z => PyData.eqv z d) else none
    | _, _ => none
  | .str b => match x with
    | .str a => some (!(Builtin.Str.occurrences b a 0 b.length 1).isEmpty)
    | _ => none
  | .dct _ false ks _ => match keyOf x with
    | some k => some (ks.any fun z => decide (keyOf z = some k))
    | none => none
  | .dct _ true ks _ => match keyTOf x with
    | some k => if kt then none else some (ks.any fun z => decide (keyTOf z = some k))
    | none => none
  | _ => none

def c2 (kt : Bool) : C2 → D → D → Option Bool
  | .eq, a, b => eqD a b
  | .ne, a, b => (eqD a b).map (!·)
  | .lt, .int i, .int j => some (decide (i < j))
  | .le, .int i, .int j => some (decide (i ≤ j))
  | .gt, .int i, .int j => some (decide (j < i))
  | .ge, .int i, .int j => some (decide (j ≤ i))
  | .isin, a, b => inD kt a b
  | .notin, a, b => (inD kt a b).map (!·)
  | _, _, _ => none

def ixS (kt : Bool) : D → D → Option D
  | .lst _ xs, .int i => atI xs i
  | .tup xs, .int i => atI xs i
  | .scr ns, .int i => (atI ns i).map .int
  | .str z, .int i => if szOk z.length then (atI z.cps.toList i).map fun c => .str ⟨#[c]⟩ else none
  | .dct _ false ks vs, k => match keyOf k with
    | some q => ((ks.zip vs).find? fun p => decide (keyOf p.1 = some q)).map (·.2)
    | none => none
  | .dct _ true ks vs, k => match keyTOf k with
    | some q => if kt then none else ((ks.zip vs).find? fun p => decide (keyTOf p.1 = some q)).map (·.2)
    | none => none
  | _, _ => none
def cutD (xs : List D) (lo hi : Option Int) : List D := (xs.drop (HT.sIx xs.length 0 lo)).take (HT.sIx xs.length xs.length hi - HT.sIx xs.length 0 lo)
def slS : D → Option Int → Option Int → Option D
  | .lst _ xs, lo, hi => if noOwnL xs then some (.lst true (cutD xs lo hi)) else none
  | .tup xs, lo, hi => if noOwnL xs then some (.tup (cutD xs lo hi)) else none
  | .scr ns, lo, hi => some (.lst true (cutD (ns.map .int) lo hi))
  | .str z, lo, hi => if szOk z.length then some (.str (Txt.slice z lo hi)) else none
  | _, _, _ => none

def intsOf : List D → Option (List Int)
  | [] => some []
  | .int i :: ds => (intsOf ds).map (i :: ·)
  | _ => none
def boolsOf : List D → Option (List Bool)
  | [] => some []
  | .bl b :: ds => (boolsOf ds).map (b :: ·)
  | _ => none
def strsOf : List D → Option (List Str)
  | [] => some []
  | .str s :: ds => (strsOf ds).map (s :: ·)
  | _ => none
def sortI (ns : List Int) : List Int := ns.mergeSort (fun a b => decide (a ≤ b))
/-- the ints of a list, each once, rising -/
def insU (x : Int) : List Int → List Int
  | [] => [x]
  | y :: ys => if x < y then x :: y :: ys else if x = y then y :: ys else y :: insU x ys
def usI : List Int → List Int
  | [] => []
  | x :: xs => insU x (usI xs)
theorem insU_le {x : Int} : ∀ {ys : List Int}, (insU x ys).length ≤ ys.length + 1
  | [] => by simp [insU]
  | y :: ys => by
    have h := insU_le (x := x) (ys := ys)
    unfold insU
    split
    · simp
    · split
      · simp
      · simp only [List.length_cons]; omega
theorem usI_le : ∀ ns : List Int, (usI ns).length ≤ ns.length
  | [] => by simp [usI]
  | x :: xs => by
    have h := usI_le xs
    have h2 := insU_le (x := x) (ys := usI xs)
    simp only [usI, List.length_cons]
    omega
theorem mem_insU {k x : Int} : ∀ {ys : List Int}, k ∈ insU x ys ↔ k = x ∨ k ∈ ys
  | [] => by simp [insU]
  | y :: ys => by
    unfold insU
    by_cases h : x < y
    · simp [h]
    · by_cases h2 : x = y
      · subst h2; simp
      · simp only [h, h2, if_false, List.mem_cons, mem_insU (ys := ys)]
        constructor
        · rintro (a | a | a)
          · exact .inr (.inl a)
          · exact .inl a
          · exact .inr (.inr a)
        · rintro (a | a | a)
          · exact .inr (.inl a)
          · exact .inl a
          · exact .inr (.inr a)
theorem up_insU {x : Int} : ∀ {ys : List Int}, ys.Pairwise (· < ·) → (insU x ys).Pairwise (· < ·)
  | [], _ => by simp [insU]
  | y :: ys, h => by
    obtain ⟨h1, h2⟩ := List.pairwise_cons.mp h
    unfold insU
    by_cases a : x < y
    · rw [if_pos a]
      refine List.pairwise_cons.mpr ⟨fun z hz => ?_, h⟩
      rcases List.mem_cons.mp hz with rfl | hz
      · exact a
      · have := h1 z hz; omega
    · rw [if_neg a]
      by_cases b : x = y
      · rw [if_pos b]; exact h
      · rw [if_neg b]
        refine List.pairwise_cons.mpr ⟨fun z hz => ?_, up_insU h2⟩
        rcases mem_insU.mp hz with rfl | hz
        · omega
        · exact h1 z hz
theorem mem_usI {k : Int} : ∀ {xs : List Int}, k ∈ usI xs ↔ k ∈ xs
  | [] => by simp [usI]
  | x :: xs => by simp only [usI, mem_insU, mem_usI (xs := xs), List.mem_cons]
theorem up_usI : ∀ xs : List Int, (usI xs).Pairwise (· < ·)
  | [] => List.Pairwise.nil
  | x :: xs => up_insU (up_usI xs)
theorem up_uniq : ∀ {xs ys : List Int}, xs.Pairwise (· < ·) → ys.Pairwise (· < ·) → (∀ k, k ∈ xs ↔ k ∈ ys) → xs = ys
  | [], [], _, _, _ => rfl
  | [], y :: ys, _, _, h => absurd ((h y).mpr (by simp)) (by simp)
  | x :: xs, [], _, _, h => absurd ((h x).mp (by simp)) (by simp)
  | x :: xs, y :: ys, hx, hy, h => by
    obtain ⟨x1, x2⟩ := List.pairwise_cons.mp hx
    obtain ⟨y1, y2⟩ := List.pairwise_cons.mp hy
    have e : x = y := by
      have a := (h x).mp (by simp)
      have b := (h y).mpr (by simp)
      rcases List.mem_cons.mp a with a | a
      · exact a
      · rcases List.mem_cons.mp b with b | b
        · exact b.symm
        · have := x1 y b; have := y1 x a; omega
    subst e
    rw [up_uniq x2 y2 fun k => ?_]
    constructor
    · intro hk
      rcases List.mem_cons.mp ((h k).mp (by simp [hk])) with rfl | h2
      · exact absurd (x1 k hk) (by omega)
      · exact h2
    · intro hk
      rcases List.mem_cons.mp ((h k).mpr (by simp [hk])) with rfl | h2
      · exact absurd (y1 k hk) (by omega)
      · exact h2
def maxI : List Int → Int
  | [] => 0
  | [x] => x
  | x :: xs => max x (maxI xs)
def minI : List Int → Int
  | [] => 0
  | [x] => x
  | x :: xs => min x (minI xs)

/-- d[k] = v -/
def putD (ks vs : List D) (k v : D) : List D × List D := if (ks.any fun z => decide (keyOf z = keyOf k)) = true then (ks, (ks.zip vs).map fun p => if keyOf p.1 = keyOf k then v else p.2) else (ks ++ [k], vs ++ [v])
/-- dict(l) of pairs -/
def dmk : List D × List D → List D → Option (List D × List D)
  | a, [] => some a
  | a, .tup [k, v] :: r => if (keyOf k).isSome then dmk (putD a.1 a.2 k v) r else none
  | _, _ => none
def f1S : F1 → D → Option D
  | .len, .lst _ xs => some (.int xs.length)
  | .len, .tup xs => some (.int xs.length)
  | .len, .scr xs => some (.int xs.length)
  | .len, .str z => if szOk z.length then some (.int z.length) else none
  | .len, .dct _ _ ks _ => some (.int ks.length)
  | .list, .lst _ xs => if noOwnL xs then some (.lst true xs) else none
  | .list, .tup xs => if noOwnL xs then some (.lst true xs) else none
  | .tuple, .lst _ xs => if noOwnL xs then some (.tup xs) else none
  | .tuple, .tup xs => if noOwnL xs then some (.tup xs) else none
  | .sorted, .lst _ xs => (intsOf xs).map fun ns => .lst true ((sortI ns).map .int)
  | .sum, .lst _ xs => (intsOf xs).map fun ns => .int ns.sum
  | .all, .lst _ xs => (boolsOf xs).map fun bs => .bl (bs.all id)
  | .any, .lst _ xs => (boolsOf xs).map fun bs => .bl (bs.any id)
  | .max, .lst _ xs => match intsOf xs with
    | some (n :: ns) => some (.int (maxI (n :: ns)))
    | _ => none
  | .min, .lst _ xs => match intsOf xs with
    | some (n :: ns) => some (.int (minI (n :: ns)))
    | _ => none
  | .int, .int i => some (.int i)
  | .int, .bl b => some (.int (if b then 1 else 0))
  | .abs, .int i => some (.int (if i < 0 then -i else i))
  | .str, .int i => if i.natAbs.log2 < 1920 then some (.str (toString i)) else none
  | .sorted, .dct _ false ks _ => (intsOf ks).map fun ns => .lst true ((sortI ns).map .int)
  | .dict, .lst _ xs => if noOwnL xs then (dmk ([], []) xs).map fun p => .dct true false p.1 p.2 else none
  | _, _ => none
def f2S : F2 → D → D → Option D
  | .max, .int i, .int j => some (.int (if j > i then j else i))
  | .min, .int i, .int j => some (.int (if j < i then j else i))
  | _, _, _ => none
inductive TC | non | bool | int | str | list | tuple | dict
def tcOf : D → Option TC
  | .non => some .non | .bl _ => some .bool | .int _ => some .int | .str _ => some .str | .lst _ _ => some .list | .tup _ => some .tuple | .dct _ _ _ _ => some .dict
  | _ => none
def isTC : Ty → TC → Bool
  | .bool, .bool => true
  | .int, .bool => true | .int, .int => true
  | .str, .str => true
  | .list, .list => true
  | .tuple, .tuple => true
  | _, _ => false
def isTys (d : D) (ts : List Ty) : Option Bool := (tcOf d).map fun c => ts.any fun t => isTC t c
/-- the first place of an equal one -/
def idxD (x : PyData) : List PyData → Option Nat
  | [] => none
  | y :: ys => if PyData.eqv y x then some 0 else (idxD x ys).map (· + 1)
def m1S : M1 → D → D → Option D
  | .index, .lst _ ys, x => match py x, pyL ys with
    | some d, some ds => if SeqAt.shaped d && SeqAt.shaped (.list ds) then (idxD d ds).map fun j => .int (j : Nat) else none
    | _, _ => none
  | .lcount, .lst _ ys, .int k => match intsOf ys with
    | some ns => some (.int ((ns.count k : Nat) : Int))
    | none => none
  | .lcount, .lst _ ys, .bl b => match boolsOf ys with
    | some bs => if decide (bs.length ≤ 1000) then some (.int ((bs.count b : Nat) : Int)) else none
    | none => none
  | .find, .str a, .str b => some (.int (Txt.find a b))
  | .scount, .str a, .str b => some (.int (Txt.count a b))
  | .split, .str a, .str b => if (b.length == 0) = false ∧ a.length + 2 ≤ sizeLine then some (.lst true ((Txt.split a b).map .str)) else none
  | .partition, .str a, .str b => if (b.length == 0) = false ∧ a.length ≤ sizeLine then some (.tup [.str (Txt.partition a b).1, .str (Txt.partition a b).2.1, .str (Txt.partition a b).2.2]) else none
  | .join, .str a, .lst _ ys => match strsOf ys with
    | some zs => if (zs.map (·.length)).sum + zs.length * a.length ≤ 16777216 then some (.str (Txt.join a zs)) else none
    | none => none
  | _, _, _ => none

def recvOk : M1 → D → Bool
  | .index, .lst _ _ => true
  | .lcount, .lst _ _ => true
  | .scount, .str _ => true
  | .find, .str _ => true
  | .join, .str _ => true
  | .split, .str _ => true
  | .partition, .str _ => true
  | _, _ => false
def isOwnL : Option D → Bool
  | some (.lst true _) => true
  | _ => false
/-- what a method of a list of mine does: on the items, on arguments -/
def mmS : MM → List D → List D → Option (D × List D)
  | .append, xs, [d] => if szOk (xs.length + 1) then some (.non, xs ++ [d]) else none
  | .extend, xs, [.lst _ ys] => if noOwnL ys && szOk (xs.length + ys.length) then some (.non, xs ++ ys) else none
  | .clear, xs, [] => some (.non, [])
  | .pop, xs, [] => match xs[xs.length - 1]? with
    | some d => some (d, xs.dropLast)
    | none => none
  | .pop, xs, [.int k] => if ix63 k then (match seqIndex? k xs.length with
    | some j => match xs[j]? with
      | some d => some (d, xs.eraseIdx j)
      | none => none
    | none => none) else none
  | .insert, xs, [.int k, d] => if szOk (xs.length + 1) && decide (0 ≤ k) && decide (k < 2 ^ 63) then some (.non, xs.take k.toNat ++ d :: xs.drop k.toNat) else none
  | _, _, _ => none
/-! ### outcomes -/
inductive R (α : Type)
  | ok (a : α) | ex (c : Nat) (ρ : Env) | bad
def R.bind {α β : Type} (x : R α) (f : α → R β) : R β := match x with
  | .ok a => f a
  | .ex c ρ => .ex c ρ
  | .bad => .bad
def ofO {α : Type} : Option α → R α
  | some a => .ok a
  | none => .bad
def noEx {α : Type} : R α → R α
  | .ok a => .ok a
  | _ => .bad
inductive RF
  | ok (r : D) (out : Option D) | ex (c : Nat) | bad
inductive Fl
  | nx (ρ : Env) | rt (d : D) (ρ : Env) | bk (ρ : Env) | ct (ρ : Env) | ex (c : Nat) (ρ : Env) | bad
structure Fd where
  np : Nat
  ns : Nat
  /-- the first argument is handed to be changed -/
  io : Bool
  body : Ss
/-- what runs around: the defs, what calls give, the module's constants, turns of a while, slots that are not stored to -/
structure Wd where
  fd : Nat → Option Fd
  call : Nat → List D → RF
  gl : Nat → Option D
  L : Nat
  pin : List Nat
  kt : Bool
  /-- which class of exceptions is beneath which -/
  sub : Nat → Nat → Bool

/-! ### expressions -/
def B2.scal : B2 → Bool
  | .add => false | .mul => false | _ => true
def F1.scal : F1 → Bool
  | .list => false | .tuple => false | .sorted => false | .dict => false | _ => true
def M1.scal : M1 → Bool
  | .split => false | .partition => false | _ => true
/-- changes nothing, makes nothing -/
def pure : E → Bool
  | .int _ => true | .str _ => true | .bl _ => true | .non => true | .fn _ => true | .glob _ => true | .no => true
  | .var _ => true | .mv _ => false
  | .bin o a b => o.scal && pure a && pure b
  | .cmp _ a b => pure a && pure b
  | .chain _ _ a b c => pure a && pure b && pure c
  | .isn _ a => pure a
  | .neg a => pure a
  | .not a => pure a
  | .and a b => pure a && pure b
  | .or a b => pure a && pure b
  | .ife c a b => pure c && pure a && pure b
  | .ix a b => pure a && pure b
  | .f1 f a => f.scal && pure a
  | .f2 _ a b => pure a && pure b
  | .isin a ts => pure a && decide (ts.length = 1)
  | .m1 m a b => m.scal && pure a && pure b
  | .fld a _ => pure a
  | _ => false
/-- may stand as a test -/
def tOk : E → Bool
  | .ife _ _ _ => false
  | .and a b => tOk a && tOk b
  | .or a b => tOk a && tOk b
  | .not a => tOk a
  | _ => true
def mmAr : MM → Nat → Bool
  | .append, 1 => true | .extend, 1 => true | .insert, 2 => true | .clear, 0 => true | .pop, 0 => true | .pop, 1 => true
  | _, _ => false
def isNo : E → Bool
  | .no => true
  | _ => false
def pureEs : Es → Bool
  | .nil => true
  | .cons e es => pure e && pureEs es
/-- the slot that a place stands in -/
def root : E → Option Nat
  | .var i => some i
  | .ix a b => if pure b then root a else none
  | .fld a _ => root a
  | _ => none
/-- an operand ahead of another one, told when both are evaluated -/
def redo (a b : E) (d : D) (ρ : Env) : Option D :=
  if pure b || !pure a || noOwn d then some d else match a with
    | .var i => slot ρ i
    | _ => none
def frSlot (ρ : Env) (i : Nat) : Option Env := match slot ρ i with
  | some d => if canFz d then some (put ρ i (some (fz d))) else none
  | none => none
/-- a value that is to be kept: a slot is moved, or frozen -/
def toV (e : E) (f : Env → R (D × Env)) (ρ : Env) : R (D × Env) := match e with
  | .mv i => match slot ρ i with
    | some d => .ok (d, put ρ i none)
    | none => .bad
  | _ => if pure e then (f ρ).bind fun p => if noOwn p.1 then .ok p else match root e with
      | some i => match frSlot ρ i with
        | some ρ' => (f ρ').bind fun p => if noOwn p.1 then .ok p else .bad
        | none => .bad
      | none => .bad
    else f ρ
/-- a value to be frozen -/
def toF (e : E) (f : Env → R (D × Env)) (ρ : Env) : R (D × Env) := (toV e f ρ).bind fun p => if canFz p.1 then .ok (fz p.1, p.2) else .bad

def getP (d : D) : List Sp1 → Option D
  | [] => some d
  | .f n :: st => match d with
    | .ins _ ns vs => match (ns.zip vs).lookup n with
      | some x => getP x st
      | none => none
    | _ => none
  | .i k :: st => match d with
    | .lst _ xs => match atI xs k with
      | some x => getP x st
      | none => none
    | .tup xs => match atI xs k with
      | some x => getP x st
      | none => none
    | _ => none

/-- items that a for walks -/
def strItems (s : Str) : List D := s.cps.toList.map fun c => .str ⟨#[c]⟩
def itemsOf : D → Option (List D)
  | .lst _ xs => some xs
  | .tup xs => some xs
  | .str s => some (strItems s)
  | _ => none
def enumI : Nat → List D → List D
  | _, [] => []
  | n, d :: ds => .tup [.int (n : Nat), d] :: enumI (n + 1) ds
def rngI (lo : Int) (n : Nat) : List D := (List.range n).map fun i => .int (lo + (i : Nat))
def rngOk (i : Int) : Bool := decide (-(2 ^ 62) ≤ i) && decide (i < 2 ^ 62)
def bindTs : List Nat → List D → Env → Option Env
  | [], [], ρ => some ρ
  | i :: is, d :: ds, ρ => if i < ρ.length then bindTs is ds (put ρ i (some d)) else none
  | _, _, _ => none
def seqOf : D → Option (List D)
  | .tup xs => some xs
  | .lst _ xs => some xs
  | _ => none
def bindT : Tg → D → Env → Option Env
  | .nm i, d, ρ => if i < ρ.length then some (put ρ i (some d)) else none
  | .tup is, d, ρ => match seqOf d with
    | some xs => if noOwnL xs then bindTs is xs ρ else none
    | none => none
def Tg.slots : Tg → List Nat
  | .nm i => [i]
  | .tup is => is

/-- the slots of own emptied -/
def wipeE (ρ : Env) : List Nat → Env
  | [] => ρ
  | i :: is => put (wipeE ρ is) i none
def ownOk (own : List Nat) (ρ : Env) : Bool := own.all fun i => match slot ρ i with
  | some d => noOwn d
  | none => true
/-- turns of a comprehension -/
def lcLoop (g : Tg) (tst : Env → R (Bool × Env)) (el : Env → R (D × Env)) (own : List Nat) : List D → Env → List D → R (List D × Env)
  | [], ρ, acc => .ok (acc, ρ)
  | d :: ds, ρ, acc => (ofO (bindT g d ρ)).bind fun ρ1 => (noEx (tst ρ1)).bind fun p => match p.1 with
    | false => if ownOk own p.2 then lcLoop g tst el own ds (wipeE p.2 own) acc else .bad
    | true => (noEx (el p.2)).bind fun q => if szOk (acc.length + 1) && ownOk own q.2 then lcLoop g tst el own ds (wipeE q.2 own) (acc ++ [q.1]) else .bad
/-- the slots of own put back -/
def backS (own : List Nat) (old ρ : Env) : Env := own.foldl (fun ρ i => put ρ i (slot old i)) ρ
/-- a held list put back -/
def unh (k : ItK) (a : E) (ρ ρ' : Env) : Env := match k, a with
  | .hold, .var i => put ρ' i (slot ρ i)
  | _, _ => ρ'

/-- the class of a caught exception (it stands as fn, from a thousand on) -/
def xOf : Option D → Option Nat
  | some (.fn n) => if 1000 ≤ n then some (n - 1000) else none
  | _ => none
/-- the slot that an exception is caught in -/
def xSlot (i : Option Nat) (ρ : Env) (o : Option D) : Env := match i with
  | some i => put ρ i o
  | none => ρ
def fits' (pin : List Nat) (i : Nat) : Bool := !pin.contains i
def xFits (W : Wd) (i : Option Nat) (ρ : Env) : Bool := match i with
  | some i => fits' W.pin i && decide (i < ρ.length)
  | none => true
/-- behind an except suite -/
def unX (i : Option Nat) : Fl → Fl
  | .nx ρ => if noXS (xSlot i ρ none) then .nx (xSlot i ρ none) else .bad
  | .rt d ρ => if noX d && noXS (xSlot i ρ none) then .rt d (xSlot i ρ none) else .bad
  | _ => .bad
/-- an owned dict of ints and texts -/
def isOwnD : Option D → Bool
  | some (.dct true false _ _) => true
  | _ => false
def putS (q v : D) : Option D → Option D
  | some (.dct true false ks vs) => if (keyOf q).isSome && szOk (ks.length + 1) then some (.dct true false (putD ks vs q v).1 (putD ks vs q v).2) else none
  | _ => none
/-- sorted(set(l)) of ints -/
def ssetS : D → Option D
  | .lst _ xs => match intsOf xs with
    | some ns => if (usI ns).length ≤ 4000 ∧ ns.length ≤ 100000 then some (.lst true ((usI ns).map .int)) else none
    | none => none
  | .tup xs => match intsOf xs with
    | some ns => if ns.length ≤ 4000 then some (.lst true ((usI ns).map .int)) else none
    | none => none
  | _ => none
/-- list(range(j)), tuple(range(j)) -/
def trgD (l : Bool) (j : Int) : D := match l with
  | true => .lst true (rngI 0 j.toNat)
  | false => .tup (rngI 0 j.toNat)
def asBl : D × Env → R (Bool × Env)
  | (.bl b, ρ) => .ok (b, ρ)
  | _ => .bad
/-- arguments that are looked at may be frozen for the call alone -/
def callP (call : Nat → List D → RF) (f : Nat) : R (List D) → Bool
  | .ok ds => noOwnL ds || (canFzL ds && match call f (fzL ds) with
    | .ok r _ => isScal r
    | .ex _ => true
    | .bad => false)
  | _ => true
/-- a part of a slice -/
def evB (f : Env → R (D × Env)) (e : E) (ρ : Env) : R (Option Int × Env) := match e with
  | .no => .ok (none, ρ)
  | _ => (f ρ).bind fun q => match q.1 with
    | .int i => .ok (some i, q.2)
    | _ => .bad
/-- the test of a comprehension, if there is one -/
def tstE (no : Bool) (f : Env → R (D × Env)) (ρ : Env) : R (Bool × Env) := match no with
  | true => .ok (true, ρ)
  | false => (f ρ).bind asBl
mutual
def ev (W : Wd) : E → Env → R (D × Env)
  | .int i, ρ => .ok (.int i, ρ)
  | .str s, ρ => .ok (.str s, ρ)
  | .bl b, ρ => .ok (.bl b, ρ)
  | .non, ρ => .ok (.non, ρ)
  | .fn f, ρ => .ok (.fn f, ρ)
  | .glob k, ρ => (ofO (W.gl k)).bind fun d => .ok (d, ρ)
  | .no, _ => .bad
  | .var i, ρ => (ofO (slot ρ i)).bind fun d => .ok (d, ρ)
  | .mv _, _ => .bad
  | .vf i, ρ => match frSlot ρ i with
    | some ρ' => (ofO (slot ρ' i)).bind fun d => .ok (d, ρ')
    | none => .bad
  | .bin o a b, ρ => (ev W a ρ).bind fun p => (ev W b p.2).bind fun q => (ofO (redo a b p.1 q.2)).bind fun d => (ofO (b2 o d q.1)).bind fun r => .ok (r, q.2)
  | .cmp o a b, ρ => (ev W a ρ).bind fun p => (ev W b p.2).bind fun q => (ofO (redo a b p.1 q.2)).bind fun d => (ofO (c2 W.kt o d q.1)).bind fun r => .ok (.bl r, q.2)
  | .chain o o2 a b c, ρ => (ev W a ρ).bind fun p => (ev W b p.2).bind fun q => if isScal p.1 && isScal q.1 then (ofO (c2 W.kt o p.1 q.1)).bind fun r => (match r with
      | false => .ok (.bl false, q.2)
      | true => (ev W c q.2).bind fun s => (ofO (c2 W.kt o2 q.1 s.1)).bind fun r => .ok (.bl r, s.2)) else .bad
  | .isn n a, ρ => (ev W a ρ).bind fun p => .ok (.bl (n != isNonD p.1), p.2)
  | .neg a, ρ => (ev W a ρ).bind fun p => match p.1 with
    | .int i => .ok (.int (-i), p.2)
    | _ => .bad
  | .not a, ρ => (ev W a ρ).bind fun p => (asBl p).bind fun q => .ok (.bl (!q.1), q.2)
  | .and a b, ρ => (ev W a ρ).bind fun p => (asBl p).bind fun q => match q.1 with
    | true => (ev W b q.2).bind fun p => (asBl p).bind fun q => .ok (.bl q.1, q.2)
    | false => .ok (.bl false, q.2)
  | .or a b, ρ => (ev W a ρ).bind fun p => (asBl p).bind fun q => match q.1 with
    | true => .ok (.bl true, q.2)
    | false => (ev W b q.2).bind fun p => (asBl p).bind fun q => .ok (.bl q.1, q.2)
  | .ife c a b, ρ => (ev W c ρ).bind fun p => (asBl p).bind fun q => match q.1 with
    | true => (ev W a q.2).bind fun p => if noOwn p.1 then .ok p else .bad
    | false => (ev W b q.2).bind fun p => if noOwn p.1 then .ok p else .bad
  | .tup es, ρ => (evs W es ρ).bind fun p => if szOk p.1.length then .ok (.tup p.1, p.2) else .bad
  | .lst es, ρ => (evs W es ρ).bind fun p => if szOk p.1.length then .ok (.lst true p.1, p.2) else .bad
  | .ix a b, ρ => (ev W a ρ).bind fun p => (ev W b p.2).bind fun q => (ofO (redo a b p.1 q.2)).bind fun d => (ofO (ixS W.kt d q.1)).bind fun r => if (pure a && pure b) || noOwn r then .ok (r, q.2) else .bad
  | .sl a lo hi, ρ => (ev W a ρ).bind fun p => if (pure lo && pure hi) || noOwn p.1 then (evB (ev W lo) lo p.2).bind fun l => (evB (ev W hi) hi l.2).bind fun h => (ofO (slS p.1 l.1 h.1)).bind fun r => .ok (r, h.2) else .bad
  | .rev a, ρ => (ev W a ρ).bind fun p => match p.1 with
    | .lst _ xs => if noOwnL xs then .ok (.lst true xs.reverse, p.2) else .bad
    | _ => .bad
  | .f1 f a, ρ => (ev W a ρ).bind fun p => (ofO (f1S f p.1)).bind fun r => .ok (r, p.2)
  | .trg l a, ρ => (ev W a ρ).bind fun p => match p.1 with
    | .int j => if decide (0 ≤ j) && decide (j ≤ 1000000) then .ok (trgD l j, p.2) else .bad
    | _ => .bad
  | .sset a, ρ => (ev W a ρ).bind fun p => (ofO (ssetS p.1)).bind fun r => .ok (r, p.2)
  | .dnw, ρ => .ok (.dct true false [] [], ρ)
  | .fr e, ρ => toF e (ev W e) ρ
  | .xis i js, ρ => match xOf (slot ρ i) with
    | some n => .ok (.bl (js.any (W.sub n)), ρ)
    | none => .bad
  | .f2 f a b, ρ => (ev W a ρ).bind fun p => (ev W b p.2).bind fun q => (ofO (f2S f p.1 q.1)).bind fun r => .ok (r, q.2)
  | .isin a ts, ρ => (ev W a ρ).bind fun p => (ofO (isTys p.1 ts)).bind fun r => .ok (.bl r, p.2)
  | .m1 m a b, ρ => (ev W a ρ).bind fun p => if recvOk m p.1 then (ev W b p.2).bind fun q => if pure b || !pure a || noOwn p.1 then (ofO (m1S m p.1 q.1)).bind fun r => .ok (r, q.2) else .bad else .bad
  | .call f es, ρ => (ofO (W.fd f)).bind fun fd => if !fd.io && pureEs es && callP W.call f (evp W es ρ) then
      (evp W es ρ).bind fun ds => if canFzL ds then (match W.call f (fzL ds) with
        | .ok r _ => if isScal r || noOwnL ds then .ok (r, ρ) else .bad
        | .ex c => .ex c ρ
        | .bad => .bad) else .bad
    else if fd.io then (match es with
      | .cons (.var i) es' => (ofO (slot ρ i)).bind fun _ => (eva W es' ρ).bind fun p => (ofO (slot p.2 i)).bind fun d => (match W.call f (d :: p.1) with
        | .ok r (some o) => .ok (r, put p.2 i (some o))
        | .ex c => .ex c (put p.2 i none)
        | _ => .bad)
      | .cons e es' => (toV e (ev W e) ρ).bind fun p0 => (eva W es' p0.2).bind fun p => (match W.call f (p0.1 :: p.1) with
        | .ok r (some _) => .ok (r, p.2)
        | .ex c => .ex c p.2
        | _ => .bad)
      | _ => .bad)
    else (eva W es ρ).bind fun p => (match W.call f p.1 with
      | .ok r _ => .ok (r, p.2)
      | .ex c => .ex c p.2
      | .bad => .bad)
  | .mm m i st es, ρ => if isOwnL (slot ρ i) then (evs W es ρ).bind fun p => match st, slot p.2 i with
    | [], some (.lst true xs) => (match mmS m xs p.1 with
      | some z => .ok (z.1, put p.2 i (some (.lst true z.2)))
      | none => .bad)
    | _, _ => .bad
    else .bad
  | .lc g k a b c e own, ρ => (evi W k a b ρ (ev W a) (ev W b)).bind fun p => if ownOk own p.2 then
      (lcLoop g (tstE (isNo c) (ev W c)) (toV e (ev W e)) own p.1 (wipeE p.2 own) []).bind fun q => .ok (.lst true q.1, unh k a ρ (backS own p.2 q.2)) else .bad
  | .fld a f, ρ => (ev W a ρ).bind fun p => match p.1 with
    | .ins _ ns vs => (ofO ((ns.zip vs).lookup f)).bind fun r => if pure a || noOwn r then .ok (r, p.2) else .bad
    | _ => .bad
/-- values that are kept -/
def evs (W : Wd) : Es → Env → R (List D × Env)
  | .nil, ρ => .ok ([], ρ)
  | .cons e es, ρ => (toV e (ev W e) ρ).bind fun p => (evs W es p.2).bind fun q => .ok (p.1 :: q.1, q.2)
/-- pure ones, looked at -/
def evp (W : Wd) : Es → Env → R (List D)
  | .nil, ρ => .ok []
  | .cons e es, ρ => (ev W e ρ).bind fun p => (evp W es ρ).bind fun q => .ok (p.1 :: q)
/-- arguments, frozen -/
def eva (W : Wd) : Es → Env → R (List D × Env)
  | .nil, ρ => .ok ([], ρ)
  | .cons e es, ρ => (toF e (ev W e) ρ).bind fun p => (eva W es p.2).bind fun q => .ok (p.1 :: q.1, q.2)
/-- what is walked, the items -/
def evi (W : Wd) (k : ItK) (a b : E) (ρ : Env) (fa fb : Env → R (D × Env)) : R (List D × Env) := match k with
  | .e => (toF a fa ρ).bind fun p => (ofO (itemsOf p.1)).bind fun xs => .ok (xs, p.2)
  | .hold => match a with
    | .var i => match slot ρ i with
      | some (.lst true xs) => if noOwnL xs then .ok (xs, put ρ i none) else .bad
      | _ => .bad
    | _ => .bad
  | .rng1 => (fa ρ).bind fun p => match p.1 with
    | .int j => if rngOk j then .ok (rngI 0 j.toNat, p.2) else .bad
    | _ => .bad
  | .rng2 => (fa ρ).bind fun p => (fb p.2).bind fun q => match p.1, q.1 with
    | .int i, .int j => if rngOk i && rngOk j then .ok (rngI i (j - i).toNat, q.2) else .bad
    | _, _ => .bad
  | .enum => (toF a fa ρ).bind fun p => match p.1 with
    | .lst _ xs => .ok (enumI 0 xs, p.2)
    | _ => .bad
  | .zip => (toF a fa ρ).bind fun p => (toF b fb p.2).bind fun q => match p.1, q.1 with
    | .lst _ xs, .lst _ ys => .ok ((xs.zip ys).map fun z => .tup [z.1, z.2], q.2)
    | _, _ => .bad
end

/-! ### statements -/
def evV (W : Wd) (e : E) (ρ : Env) : R (D × Env) := toV e (ev W e) ρ
def Fl.of {α : Type} (x : R α) (f : α → Fl) : Fl := match x with
  | .ok a => f a
  | .ex c ρ => .ex c ρ
  | .bad => .bad
def whLoop (c : Env → R (Bool × Env)) (b : Env → Fl) : Nat → Env → Fl
  | 0, _ => .bad
  | n + 1, ρ => .of (c ρ) fun p => match p.1 with
    | false => .nx p.2
    | true => match b p.2 with
      | .nx ρ => whLoop c b n ρ
      | .ct ρ => whLoop c b n ρ
      | .bk ρ => .nx ρ
      | x => x
def forLoop (g : Tg) (b : Env → Fl) : List D → Env → Fl
  | [], ρ => .nx ρ
  | d :: ds, ρ => match bindT g d ρ with
    | none => .bad
    | some ρ1 => match b ρ1 with
      | .nx ρ => forLoop g b ds ρ
      | .ct ρ => forLoop g b ds ρ
      | .bk ρ => .nx ρ
      | x => x
def fits (pin : List Nat) (is : List Nat) : Bool := is.all fun i => !pin.contains i
/-- a held list's slot is not stored to -/
def Wd.hold (W : Wd) (k : ItK) (a : E) : Wd := match k, a with
  | .hold, .var i => { W with pin := i :: W.pin }
  | _, _ => W
/-- a held list put back -/
def unhold (k : ItK) (a : E) (ρ : Env) : Fl → Fl
  | .nx ρ' => .nx (unh k a ρ ρ')
  | .rt d ρ' => .rt d (unh k a ρ ρ')
  | .ex c ρ' => .ex c (unh k a ρ ρ')
  | _ => .bad
mutual
def st (W : Wd) : S → Env → Fl
  | .asg i e, ρ => .of (evV W e ρ) fun p => if decide (i < p.2.length) && fits W.pin [i] then .nx (put p.2 i (some p.1)) else .bad
  | .asgT is e, ρ => .of (toF e (ev W e) ρ) fun p => if fits W.pin is then (match bindT (.tup is) p.1 p.2 with
    | some ρ => .nx ρ
    | none => .bad) else .bad
  | .aug i o e, ρ => match slot ρ i with
    | some (.int x) => .of (ev W e ρ) fun p => match p.1 with
      | .int y => if fits W.pin [i] && decide (o = .addi) then .nx (put p.2 i (some (.int (x + y)))) else .bad
      | _ => .bad
    | _ => .bad
  | .setix i sp k e, ρ => .of (toF e (ev W e) ρ) fun p => if isOwnL (slot p.2 i) then .of (ev W k p.2) fun q => match sp, slot q.2 i, q.1 with
    | [], some (.lst true xs), .int j => if pure k then (match ixN xs.length j with
      | some n => .nx (put q.2 i (some (.lst true (xs.set n p.1))))
      | none => .bad) else .bad
    | _, _, _ => .bad
    else .bad
  | .dput i k e, ρ => .of (toF e (ev W e) ρ) fun p => if isOwnD (slot p.2 i) then .of (ev W k p.2) fun q => (match putS q.1 p.1 (slot q.2 i) with
    | some d => .nx (put q.2 i (some d))
    | none => .bad) else .bad
  | .try1 b c i h, ρ => match sts W b ρ with
    | .ex n ρ1 => match W.sub n c with
      | true => if xFits W i ρ1 then unX i (sts W h (xSlot i ρ1 (some (.fn (1000 + n))))) else .bad
      | false => .ex n ρ1
    | x => x
  | .expr e, ρ => .of (ev W e ρ) fun p => .nx p.2
  | .ret e, ρ => .of (evV W e ρ) fun p => .rt p.1 p.2
  | .retn, ρ => .rt .non ρ
  | .ife c a b, ρ => .of (ev W c ρ) fun p => .of (asBl p) fun q => match q.1 with
    | true => sts W a q.2
    | false => sts W b q.2
  | .wh c b, ρ => whLoop (fun ρ => (ev W c ρ).bind asBl) (sts W b) W.L ρ
  | .for g k a b body, ρ => if fits (W.hold k a).pin g.slots then .of (evi W k a b ρ (ev W a) (ev W b)) fun p => unhold k a ρ (forLoop g (sts (W.hold k a) body) p.1 p.2) else .bad
  | .raise c, ρ => .ex c ρ
  | .pass, ρ => .nx ρ
  | .cont, ρ => .ct ρ
  | .brk, ρ => .bk ρ
def sts (W : Wd) : Ss → Env → Fl
  | .nil, ρ => .nx ρ
  | .cons s ss, ρ => match st W s ρ with
    | .nx ρ => sts W ss ρ
    | x => x
end

/-! ### defs -/
structure Tb where
  fd : Nat → Option Fd
  gl : Nat → Option D
  kt : Bool
  sub : Nat → Nat → Bool
def outOf (io : Bool) (ρ : Env) : Option (Option D) := match io with
  | false => some none
  | true => match slot ρ 0 with
    | some d => some (some d)
    | none => none
def finish (io : Bool) : Fl → RF
  | .nx ρ => match outOf io ρ with
    | some o => .ok .non o
    | none => .bad
  | .rt d ρ => match outOf io ρ with
    | some o => .ok d o
    | none => .bad
  | .ex c _ => .ex c
  | _ => .bad
def entry (fd : Fd) (ds : List D) : Env := ds.map some ++ List.replicate (fd.ns - fd.np) none
def run (T : Tb) (L : Nat) : Nat → Nat → List D → RF
  | 0, _, _ => .bad
  | k + 1, f, ds => match T.fd f with
    | none => .bad
    | some fd => if ds.length = fd.np then finish fd.io (sts ⟨T.fd, run T L k, T.gl, L, if fd.io then [0] else [], T.kt, T.sub⟩ fd.body (entry fd ds)) else .bad
end PV

/-! PVc: the operations are right. -/
namespace PV
open PySem L2

/-- only new things were made -/
structure Nw (F H F' H' : Hp) (A : Ow) : Prop where
  ff : Same F F'
  fh : Same F' H'
  hh : Same H H'
  newF : ∀ a, F a = none → H a ≠ none → F' a = none
  newA : ∀ a, 0 < A a → H a = none
  one : ∀ a, A a ≤ 1
theorem Nw.refl {F H : Hp} (s : Same F H) : Nw F H F H (fun _ => 0) := ⟨Same.refl F, s, Same.refl H, fun _ h _ => h, fun _ h => absurd h (by simp), fun _ => by simp⟩
theorem same_upd {H : Hp} {p : Addr} {o : HO} (h : H p = none) : Same H (upd H p o) := fun a u e => by
  rw [upd_ne (ne_of_none e h)]; exact e
/-- a new owned list -/
theorem Nw.lst {F H : Hp} {p : Addr} {o : HO} (s : Same F H) (h : H p = none) : Nw F H F (upd H p o) (at1 p) := by
  refine ⟨Same.refl F, s.trans (same_upd h), same_upd h, fun _ h _ => h, fun a ha => ?_, fun a => ?_⟩
  · by_cases e : a = p
    · subst e; exact h
    · rw [at1_ne e] at ha; cases ha
  · unfold at1; split <;> omega
/-- a new tuple -/
theorem Nw.tup {F H : Hp} {p : Addr} {o : HO} (s : Same F H) (h : H p = none) : Nw F H (upd F p o) (upd H p o) (fun _ => 0) := by
  have hf : F p = none := by
    cases e : F p with
    | none => rfl
    | some u => rw [s p u e] at h; cases h
  refine ⟨same_upd hf, fun a u e => ?_, same_upd h, fun a h1 h2 => ?_, fun _ h => absurd h (by simp), fun _ => by simp⟩
  · by_cases q : a = p
    · subst q; rw [upd_same] at e ⊢; exact e
    · rw [upd_ne q] at e ⊢; exact s a u e
  · have q : a ≠ p := fun z => h2 (by rw [z]; exact h)
    rw [upd_ne q]; exact h1
theorem Nw.stp {F H F' H' : Hp} {A O : Ow} (n : Nw F H F' H' A) : Stp F H O F' H' (fun x => O x + A x) :=
  ⟨n.ff, n.fh, fun a o _ e => n.hh a o e, fun a h1 h2 _ => n.newF a h1 h2, fun a h => by
    by_cases z : 0 < A a
    · exact .inr (n.newA a z)
    · have h : 0 < O a + A a := h
      exact .inl (by omega)⟩

section
variable {g : Gm} {F H : Hp}
theorem rep_int {i : Int} : Rep g F H (.int i) (.int i) (fun _ => 0) := ⟨rfl, fun _ => rfl⟩
theorem rep_str {s : Str} : Rep g F H (.str s) (.str s) (fun _ => 0) := ⟨rfl, fun _ => rfl⟩
theorem rep_bl {b : Bool} : Rep g F H (.bl b) (.bl b) (fun _ => 0) := ⟨rfl, fun _ => rfl⟩
theorem rep_non : Rep g F H .non .non (fun _ => 0) := ⟨rfl, fun _ => rfl⟩
/-- a new list of things that own nothing -/
theorem rep_newL {xs : List D} {vs : List V} {B : Ow} {p : Addr} (s : Same F H) (h : H p = none) (n : noOwnL xs = true) (r : RepL g F H xs vs B) : Rep g F (upd H p (.lst vs)) (.lst true xs) (.ref p) (at1 p) := by
  have hf : F p = none := by
    cases e : F p with
    | none => rfl
    | some u => rw [s p u e] at h; cases h
  exact ⟨p, vs, _, rfl, hf, upd_same, r.fr0 (Same.refl F) n, fun x => by rw [r.zero n x]; simp⟩
theorem rep_newT {xs : List D} {vs : List V} {B : Ow} {p : Addr} (s : Same F H) (h : H p = none) (n : noOwnL xs = true) (r : RepL g F H xs vs B) : Rep g (upd F p (.tup vs)) (upd H p (.tup vs)) (.tup xs) (.ref p) (fun _ => 0) := by
  have hf : F p = none := by
    cases e : F p with
    | none => rfl
    | some u => rw [s p u e] at h; cases h
  exact ⟨p, vs, rfl, .inl upd_same, (r.fr0 (same_upd hf) n).eqA (r.zero n)⟩

theorem repL_append : ∀ {xs ys : List D} {vs ws : List V} {A B : Ow}, RepL g F H xs vs A → RepL g F H ys ws B → RepL g F H (xs ++ ys) (vs ++ ws) (fun x => A x + B x)
  | [], ys, vs, ws, A, B, h, r => by
    obtain ⟨e, z⟩ := h
    subst e
    exact r.eqA fun x => by rw [z x]; omega
  | d :: ds, ys, vs, ws, A, B, h, r => by
    obtain ⟨v, vs', C, E, e, rd, rs, q⟩ := h
    subst e
    exact ⟨v, vs' ++ ws, C, _, rfl, rd, repL_append rs r, fun x => by
      have h1 := q x
      show A x + B x = C x + (E x + B x)
      omega⟩
theorem noOwnL_append {xs ys : List D} : noOwnL (xs ++ ys) = (noOwnL xs && noOwnL ys) := by
  induction xs with
  | nil => rfl
  | cons x xs ih => simp only [List.cons_append, noOwnL, ih, Bool.and_assoc]
theorem noOwnL_mem {xs : List D} (h : noOwnL xs = true) {x : D} (hx : x ∈ xs) : noOwn x = true := by
  induction xs with
  | nil => cases hx
  | cons y xs ih =>
    simp only [noOwnL, Bool.and_eq_true] at h
    rcases List.mem_cons.mp hx with e | e
    · rw [e]; exact h.1
    · exact ih h.2 e
theorem noOwnL_of {xs : List D} (h : ∀ x ∈ xs, noOwn x = true) : noOwnL xs = true := by
  induction xs with
  | nil => rfl
  | cons y xs ih =>
    simp only [noOwnL, Bool.and_eq_true]
    exact ⟨h y (by simp), ih fun x hx => h x (by simp [hx])⟩
/-- the i-th -/
theorem noOwnL_ints (ns : List Int) : noOwnL (ns.map D.int) = true := noOwnL_of fun x hx => by
  obtain ⟨n, _, e⟩ := List.mem_map.mp hx
  rw [← e]; rfl
theorem repL_ints {F H : Hp} : ∀ (ns : List Int), RepL g F H (ns.map D.int) (ns.map V.int) (fun _ => 0)
  | [] => ⟨rfl, fun _ => rfl⟩
  | n :: ns => ⟨.int n, ns.map V.int, _, _, rfl, rep_int, repL_ints ns, fun _ => rfl⟩
theorem repL_get : ∀ {xs : List D} {vs : List V} {A : Ow} {i : Nat} {x : D}, RepL g F H xs vs A → xs[i]? = some x → ∃ v B, vs[i]? = some v ∧ Rep g F H x v B ∧ ∀ a, B a ≤ A a
  | [], _, _, _, _, _, e => by simp at e
  | d :: ds, vs, A, 0, x, h, e => by
    obtain ⟨v, vs', B, C, e1, rd, rs, q⟩ := h
    simp only [List.getElem?_cons_zero, Option.some.injEq] at e
    subst e e1
    exact ⟨v, B, rfl, rd, fun a => by rw [q a]; omega⟩
  | d :: ds, vs, A, i + 1, x, h, e => by
    obtain ⟨v, vs', B, C, e1, rd, rs, q⟩ := h
    subst e1
    obtain ⟨v2, B2, e2, r2, q2⟩ := repL_get (i := i) rs (by simpa using e)
    exact ⟨v2, B2, by simpa using e2, r2, fun a => by have := q2 a; rw [q a]; omega⟩
theorem repL_take {xs : List D} {vs : List V} {A : Ow} (n : Nat) (no : noOwnL xs = true) (h : RepL g F H xs vs A) : RepL g F H (xs.take n) (vs.take n) (fun _ => 0) ∧ noOwnL (xs.take n) = true := by
  induction xs generalizing vs A n with
  | nil =>
    obtain ⟨e, z⟩ := h
    subst e
    simp only [List.take_nil]
    exact ⟨⟨rfl, fun _ => rfl⟩, rfl⟩
  | cons d ds ih =>
    have hz := h.zero no
    obtain ⟨v, vs', B, C, e1, rd, rs, q⟩ := h
    subst e1
    simp only [noOwnL, Bool.and_eq_true] at no
    cases n with
    | zero => simp only [List.take_zero]; exact ⟨⟨rfl, fun _ => rfl⟩, rfl⟩
    | succ n =>
      have k := ih n no.2 rs
      simp only [List.take_succ_cons]
      refine ⟨⟨v, _, _, _, rfl, rd, k.1, fun x => ?_⟩, by simp only [noOwnL, no.1, k.2, Bool.and_self]⟩
      rw [rd.zero no.1 x]
theorem repL_drop {xs : List D} {vs : List V} {A : Ow} (n : Nat) (no : noOwnL xs = true) (h : RepL g F H xs vs A) : RepL g F H (xs.drop n) (vs.drop n) (fun _ => 0) ∧ noOwnL (xs.drop n) = true := by
  induction xs generalizing vs A n with
  | nil =>
    obtain ⟨e, z⟩ := h
    subst e
    simp only [List.drop_nil]
    exact ⟨⟨rfl, fun _ => rfl⟩, rfl⟩
  | cons d ds ih =>
    cases n with
    | zero => simp only [List.drop_zero]; exact ⟨h.eqA (h.zero no), no⟩
    | succ n =>
      obtain ⟨v, vs', B, C, e1, rd, rs, q⟩ := h
      subst e1
      simp only [noOwnL, Bool.and_eq_true] at no
      simp only [List.drop_succ_cons]
      exact ih n no.2 rs
theorem repL_reverse {xs : List D} {vs : List V} {A : Ow} (no : noOwnL xs = true) (h : RepL g F H xs vs A) : RepL g F H xs.reverse vs.reverse (fun _ => 0) ∧ noOwnL xs.reverse = true := by
  induction xs generalizing vs A with
  | nil =>
    obtain ⟨e, z⟩ := h
    subst e
    exact ⟨⟨rfl, fun _ => rfl⟩, rfl⟩
  | cons d ds ih =>
    obtain ⟨v, vs', B, C, e1, rd, rs, q⟩ := h
    subst e1
    simp only [noOwnL, Bool.and_eq_true] at no
    have k := ih no.2 rs
    simp only [List.reverse_cons]
    refine ⟨(repL_append k.1 (ys := [d]) (ws := [v]) (B := B) ⟨v, [], B, fun _ => 0, rfl, rd, ⟨rfl, fun _ => rfl⟩, fun x => (Nat.add_zero _).symm⟩).eqA fun x => by
      show 0 + B x = 0
      rw [rd.zero no.1 x], ?_⟩
    rw [noOwnL_append, k.2]
    simp only [noOwnL, no.1, Bool.and_self]
theorem repL_rep {xs : List D} {vs : List V} {A : Ow} (n : Nat) (no : noOwnL xs = true) (h : RepL g F H xs vs A) : RepL g F H (List.replicate n xs).flatten (List.replicate n vs).flatten (fun _ => 0) ∧ noOwnL (List.replicate n xs).flatten = true := by
  induction n with
  | zero => exact ⟨⟨rfl, fun _ => rfl⟩, rfl⟩
  | succ n ih =>
    simp only [List.replicate_succ, List.flatten_cons]
    refine ⟨(repL_append h ih.1).eqA fun x => by rw [h.zero no x], ?_⟩
    rw [noOwnL_append, no, ih.2]; rfl

mutual
/-- a thing as data -/
theorem rep_py : ∀ {d : D} {v : V} {A : Ow} {z : PyData}, Same F H → Rep g F H d v A → py d = some z → Dp g.K H v z
  | .non, v, A, z, s, r, e => by simp only [py, Option.some.injEq] at e; rw [← e, r.1]; exact .non
  | .bl b, v, A, z, s, r, e => by simp only [py, Option.some.injEq] at e; rw [← e, r.1]; exact .bl b
  | .int i, v, A, z, s, r, e => by simp only [py, Option.some.injEq] at e; rw [← e, r.1]; exact .int i
  | .str x, v, A, z, s, r, e => by simp only [py, Option.some.injEq] at e; rw [← e, r.1]; exact .str x
  | .fn f, v, A, z, s, r, e => by simp [py] at e
  | .tup xs, v, A, z, s, r, e => by
    obtain ⟨a, vs, ev, sq, rl⟩ := r
    simp only [py, Option.map_eq_some_iff] at e
    obtain ⟨zs, e1, e2⟩ := e
    rw [← e2, ev]
    exact .tup (sqT_same s sq.sq) (repL_py s rl e1)
  | .lst false xs, v, A, z, s, r, e => by
    obtain ⟨_, a, vs, ev, sq, rl⟩ := r
    simp only [py, Option.map_eq_some_iff] at e
    obtain ⟨zs, e1, e2⟩ := e
    rw [← e2, ev]
    exact .lst (.inl (rd_same s sq)) (repL_py s rl e1)
  | .lst true xs, v, A, z, s, r, e => by
    obtain ⟨a, vs, B, ev, _, sq, rl, _⟩ := r
    simp only [py, Option.map_eq_some_iff] at e
    obtain ⟨zs, e1, e2⟩ := e
    rw [← e2, ev]
    exact .lst (SqL.of sq) (repL_py s rl e1)
  | .dct _ _ _ _, v, A, z, s, r, e => by simp [py] at e
  | .ins _ _ _, v, A, z, s, r, e => by simp [py] at e
  | .scr _, v, A, z, s, r, e => by simp [py] at e
theorem repL_py : ∀ {ds : List D} {vs : List V} {A : Ow} {zs : List PyData}, Same F H → RepL g F H ds vs A → pyL ds = some zs → DpAll g.K H vs zs
  | [], vs, A, zs, s, r, e => by
    simp only [pyL, Option.some.injEq] at e
    rw [← e, r.1]; exact .nil
  | d :: ds, vs, A, zs, s, r, e => by
    obtain ⟨v, vs', B, C, e1, rd, rs, q⟩ := r
    simp only [pyL] at e
    split at e
    · rename_i x xs h1 h2
      simp only [Option.some.injEq] at e
      rw [← e, e1]
      exact .cons (rep_py s rd h1) (repL_py s rs h2)
    · cases e
end
/-- a list, read -/
theorem rep_lst {o : Bool} {xs : List D} {v : V} {A : Ow} (s : Same F H) (r : Rep g F H (.lst o xs) v A) : ∃ a vs B, v = .ref a ∧ Rd H a (.lst vs) ∧ RepL g F H xs vs B ∧ ∀ x, B x ≤ A x := by
  cases o with
  | false =>
    obtain ⟨z, a, vs, e, sq, rl⟩ := r
    exact ⟨a, vs, A, e, rd_same s sq, rl, fun _ => Nat.le_refl _⟩
  | true =>
    obtain ⟨a, vs, B, e, _, sq, rl, q⟩ := r
    exact ⟨a, vs, B, e, Rd.of sq, rl, fun x => by rw [q x]; omega⟩
theorem rep_ints : ∀ {xs : List D} {vs : List V} {A : Ow} {ns : List Int}, RepL g F H xs vs A → intsOf xs = some ns → vs = ns.map V.int
  | [], vs, A, ns, r, e => by
    simp only [intsOf, Option.some.injEq] at e
    rw [← e, r.1]; rfl
  | d :: ds, vs, A, ns, r, e => by
    obtain ⟨v, vs', B, C, e1, rd, rs, q⟩ := r
    cases d with
    | int z =>
      simp only [intsOf, Option.map_eq_some_iff] at e
      obtain ⟨ms, h1, h2⟩ := e
      subst h2 e1
      rw [rep_ints rs h1, rd.1]
      rfl
    | _ => simp [intsOf] at e
theorem rep_bools : ∀ {xs : List D} {vs : List V} {A : Ow} {ns : List Bool}, RepL g F H xs vs A → boolsOf xs = some ns → vs = ns.map V.bl
  | [], vs, A, ns, r, e => by
    simp only [boolsOf, Option.some.injEq] at e
    rw [← e, r.1]; rfl
  | d :: ds, vs, A, ns, r, e => by
    obtain ⟨v, vs', B, C, e1, rd, rs, q⟩ := r
    cases d with
    | bl z =>
      simp only [boolsOf, Option.map_eq_some_iff] at e
      obtain ⟨ms, h1, h2⟩ := e
      subst h2 e1
      rw [rep_bools rs h1, rd.1]
      rfl
    | _ => simp [boolsOf] at e
theorem rep_strs : ∀ {xs : List D} {vs : List V} {A : Ow} {ns : List Str}, RepL g F H xs vs A → strsOf xs = some ns → vs = ns.map V.str
  | [], vs, A, ns, r, e => by
    simp only [strsOf, Option.some.injEq] at e
    rw [← e, r.1]; rfl
  | d :: ds, vs, A, ns, r, e => by
    obtain ⟨v, vs', B, C, e1, rd, rs, q⟩ := r
    cases d with
    | str z =>
      simp only [strsOf, Option.map_eq_some_iff] at e
      obtain ⟨ms, h1, h2⟩ := e
      subst h2 e1
      rw [rep_strs rs h1, rd.1]
      rfl
    | _ => simp [strsOf] at e
end

/-! ### the relations that HandS's rules get -/
/-- two operands, a result: made new, or (sc) nothing made -/
def rD2 (g : Gm) (sem : D → D → Option D) (sc : Bool) : R2 := fun x y H Q => ∃ F d1 d2 A1 A2 d, Same F H ∧ Rep g F H d1 x A1 ∧ Rep g F H d2 y A2 ∧ sem d1 d2 = some d ∧
  ∀ v F' H' A, Nw F H F' H' A → Rep g F' H' d v A → (sc = true → F' = F ∧ H' = H) → Q v H'
/-- an answer, a truth value -/
def rDB (g : Gm) (sem : D → D → Option Bool) : R2 := fun x y H Q => ∃ F d1 d2 A1 A2 b, Same F H ∧ Rep g F H d1 x A1 ∧ Rep g F H d2 y A2 ∧ sem d1 d2 = some b ∧ Q (.bl b) H

section
variable {X : Cx} {g : Gm}

theorem op_catR : OpR X (binaryOp .Add) (fun x y H Q => ∃ l b xs zs, x = .ref l ∧ y = .ref b ∧ Rd H l (.lst xs) ∧ Rd H b (.lst zs) ∧ xs.length + zs.length ≤ sizeLine ∧ ∀ p, H p = none → Q (.ref p) (upd H p (.lst (xs ++ zs)))) := by
  intro pins s σ H x y v u Q I rx ry h
  obtain ⟨l, b, xs, zs, rfl, rfl, hH, hB, hz, q⟩ := h
  cases rx
  cases ry
  obtain ⟨z, its, n, r, e⟩ := hH.ok I.hok
  obtain ⟨z2, its2, n2, r2, e2⟩ := hB.ok I.hok
  have hl := r.length
  have hl2 := r2.length
  refine PySem.P.add_list e e2 ?_ (by rw [List.size_toArray, List.size_toArray]; omega)
  have ea : its.toArray ++ its2.toArray = (its ++ its2).toArray := by simp
  rw [ea]
  exact ⟨.ref _, _, I.lnew (t' := s.toks) (r.append r2) (by rw [List.length_append]; omega), rfl, q _ I.fresh⟩

theorem b2_scal {o : B2} (h : o.scal = true) {a b d : D} (e : b2 o a b = some d) : isScal d = true ∧ noOwn d = true := by
  unfold b2 at e
  split at e <;> (try split at e) <;> (try cases h) <;> (try cases e) <;> exact ⟨rfl, rfl⟩
def b2op : B2 → Operator
  | .add => .Add | .addi => .Add | .sub => .Sub | .mul => .Mult | .muli => .Mult | .fdiv => .FloorDiv | .mod => .Mod | .pow => .Pow
  | .shl => .LShift | .shr => .RShift | .band => .BitAnd | .bor => .BitOr | .bxor => .BitXor
theorem catT_ok {F H : Hp} {xs ys : List D} {v w : V} {A B : Ow} {Q : VK} (s : Same F H) (r1 : Rep g F H (.tup xs) v A) (r2 : Rep g F H (.tup ys) w B) (n1 : noOwnL xs = true) (n2 : noOwnL ys = true) (z : xs.length + ys.length ≤ sizeLine)
    (q : ∀ v F' H' A, Nw F H F' H' A → Rep g F' H' (.tup (xs ++ ys)) v A → Q v H') : rCatA g.K v w H Q := by
  obtain ⟨a, vs, e1, s1, l1⟩ := r1
  obtain ⟨b, ws, e2, s2, l2⟩ := r2
  have h1 := l1.length
  have h2 := l2.length
  refine ⟨a, b, vs, ws, e1, e2, sqT_same s s1.sq, sqT_same s s2.sq, by omega, fun h => ?_, fun h h' => ?_, fun _ _ p hp => ?_⟩
  · subst h
    have : xs = [] := List.eq_nil_of_length_eq_zero (by simpa using h1)
    subst this
    exact q _ F H _ (Nw.refl s) ⟨b, ws, rfl, s2, l2.eqA (l2.zero n2)⟩
  · subst h'
    have : ys = [] := List.eq_nil_of_length_eq_zero (by simpa using h2)
    subst this
    rw [List.append_nil] at q
    exact q _ F H _ (Nw.refl s) ⟨a, vs, rfl, s1, l1.eqA (l1.zero n1)⟩
  · exact q _ _ _ _ (Nw.tup s hp) (rep_newT s hp (by rw [noOwnL_append, n1, n2]; rfl) (repL_append l1 l2))
theorem mul_ok {i j : Int} (h : mulOk i j = true) : OpR X (binaryOp .Mult) (fun x y H Q => x = .int i ∧ y = .int j ∧ Q (.int (i * j)) H) := by
  intro pins s σ H x y v u Q I rx ry q
  obtain ⟨e1, e2, q⟩ := q
  unfold mulOk at h
  by_cases c : CMul i j
  · exact op_mul pins s σ H x y v u Q I rx ry ⟨i, j, e1, e2, c, q⟩
  · refine op_mulW pins s σ H x y v u Q I rx ry ⟨i, j, e1, e2, ?_, q⟩
    simp only [Bool.or_eq_true, Bool.and_eq_true, decide_eq_true_eq] at h
    unfold CMulW
    unfold CMul at c
    rcases h with (h | h) | h
    · exact absurd (.inl h) c
    · exact absurd (.inr h) c
    · exact h
theorem fdiv_ok {i j : Int} (h : fdivOk j = true) : OpR X (binaryOp .FloorDiv) (fun x y H Q => x = .int i ∧ y = .int j ∧ Q (.int (i / j)) H) := by
  intro pins s σ H x y v u Q I rx ry q
  obtain ⟨e1, e2, q⟩ := q
  unfold fdivOk at h
  simp only [Bool.or_eq_true, Bool.and_eq_true, decide_eq_true_eq] at h
  rcases h.2 with k | k
  · exact op_fdiv pins s σ H x y v u Q I rx ry ⟨i, j, e1, e2, ⟨h.1, k⟩, q⟩
  · exact op_fdivW pins s σ H x y v u Q I rx ry ⟨i, j, e1, e2, ⟨h.1, k⟩, q⟩

/-- the two-place operators -/
theorem b2_ok (hK : X.K = g.K) (o : B2) : OpR X (binaryOp (b2op o)) (rD2 g (b2 o) o.scal) := by
  intro pins s σ H x y v u Q I rx ry h
  obtain ⟨F, d1, d2, A1, A2, d, sf, r1, r2, e, q⟩ := h
  have qi : ∀ i : Int, d = .int i → Q (.int i) H := fun i z => q _ F H _ (Nw.refl sf) (by rw [z]; exact rep_int) fun _ => ⟨rfl, rfl⟩
  unfold b2 at e
  split at e
  · cases e
    exact op_add pins s σ H x y v u Q I rx ry ⟨_, _, r1.1, r2.1, qi _ rfl⟩
  · split at e
    · rename_i hz
      cases e
      exact op_add_str pins s σ H x y v u Q I rx ry ⟨_, _, r1.1, r2.1, by simpa [szOk] using hz, q _ F H _ (Nw.refl sf) rep_str fun _ => ⟨rfl, rfl⟩⟩
    · cases e
  · split at e
    · rename_i hz
      cases e
      simp only [Bool.and_eq_true, szOk, decide_eq_true_eq] at hz
      obtain ⟨a, vs, B1, e1, rd1, l1, _⟩ := rep_lst sf r1
      obtain ⟨b, ws, B2, e2, rd2, l2, _⟩ := rep_lst sf r2
      have k1 := l1.length
      have k2 := l2.length
      refine op_catR pins s σ H x y v u Q I rx ry ⟨a, b, vs, ws, e1, e2, rd1, rd2, by omega, fun p hp => ?_⟩
      exact q _ _ _ _ (Nw.lst sf hp) (rep_newL sf hp (by rw [noOwnL_append, hz.1.1, hz.1.2]; rfl) (repL_append l1 l2)) (fun z => by cases z)
    · cases e
  · split at e
    · rename_i hz
      cases e
      simp only [Bool.and_eq_true, szOk, decide_eq_true_eq] at hz
      have := catT_ok (Q := Q) sf r1 r2 hz.1.1 hz.1.2 hz.2 (fun v F' H' A n r => q v F' H' A n r (fun z => by cases z))
      rw [← hK] at this
      exact op_catA pins s σ H x y v u Q I rx ry this
    · cases e
  · cases e
    exact op_add pins s σ H x y v u Q I rx ry ⟨_, _, r1.1, r2.1, qi _ rfl⟩
  · cases e
    exact op_sub pins s σ H x y v u Q I rx ry ⟨_, _, r1.1, r2.1, qi _ rfl⟩
  · split at e
    · rename_i hz
      cases e
      exact mul_ok hz pins s σ H x y v u Q I rx ry ⟨r1.1, r2.1, qi _ rfl⟩
    · cases e
  · split at e
    · rename_i hz
      cases e
      simp only [Bool.and_eq_true, szOk, ix63, decide_eq_true_eq] at hz
      obtain ⟨a, vs, B1, e1, _, h1, l1, _⟩ := r1
      have k1 := l1.length
      refine op_rep pins s σ H x y v u Q I rx ry ⟨a, _, vs, e1, r2.1, h1, hz.1.2.1, hz.1.2.2, by rw [← k1]; exact hz.2, fun p hp => ?_⟩
      exact q _ _ _ _ (Nw.lst sf hp) (rep_newL sf hp (repL_rep _ hz.1.1 l1).2 (repL_rep _ hz.1.1 l1).1) (fun z => by cases z)
    · cases e
  · split at e
    · rename_i hz
      cases e
      exact mul_ok hz pins s σ H x y v u Q I rx ry ⟨r1.1, r2.1, qi _ rfl⟩
    · cases e
  · split at e
    · rename_i hz
      cases e
      exact fdiv_ok hz pins s σ H x y v u Q I rx ry ⟨r1.1, r2.1, qi _ rfl⟩
    · cases e
  · split at e
    · rename_i hz
      cases e
      exact op_mod pins s σ H x y v u Q I rx ry ⟨_, _, r1.1, r2.1, hz, qi _ rfl⟩
    · cases e
  · split at e
    · rename_i hz
      cases e
      simp only [powOk, Bool.and_eq_true, decide_eq_true_eq] at hz
      exact op_pow pins s σ H x y v u Q I rx ry ⟨_, _, r1.1, r2.1, ⟨hz.1.1, hz.1.2, hz.2⟩, qi _ rfl⟩
    · cases e
  · split at e
    · rename_i hz
      cases e
      simp only [powOk, Bool.and_eq_true, decide_eq_true_eq] at hz
      exact op_shl pins s σ H x y v u Q I rx ry ⟨_, _, r1.1, r2.1, ⟨hz.1.1, hz.1.2, hz.2⟩, qi _ rfl⟩
    · cases e
  · split at e
    · rename_i hz
      cases e
      exact op_shr pins s σ H x y v u Q I rx ry ⟨_, _, r1.1, r2.1, hz, qi _ rfl⟩
    · cases e
  · cases e
    exact op_and pins s σ H x y v u Q I rx ry ⟨_, _, r1.1, r2.1, qi _ rfl⟩
  · cases e
    exact op_or pins s σ H x y v u Q I rx ry ⟨_, _, r1.1, r2.1, qi _ rfl⟩
  · cases e
    exact op_xor pins s σ H x y v u Q I rx ry ⟨_, _, r1.1, r2.1, qi _ rfl⟩
  · cases e

/-! ### comparisons -/
def c2op : C2 → CmpOp
  | .eq => .Eq | .ne => .NotEq | .lt => .Lt | .le => .LtE | .gt => .Gt | .ge => .GtE | .isin => .In | .notin => .NotIn
theorem eqD_some {a b : D} {r : Bool} (e : eqD a b = some r) : ∃ x y, py a = some x ∧ py b = some y ∧ SeqAt.shaped x = true ∧ SeqAt.shaped y = true ∧ r = PyData.eqv x y := by
  unfold eqD at e
  split at e
  · rename_i x y h1 h2
    split at e
    · rename_i hs
      simp only [Bool.and_eq_true] at hs
      cases e
      exact ⟨x, y, h1, h2, hs.1, hs.2, rfl⟩
    · cases e
  · cases e
theorem flat_rep {F H : Hp} {d : D} {v : V} {A : Ow} {z : PyData} (h : isScal d = true) (r : Rep g F H d v A) (e : py d = some z) : flatV v = true ∧ ∀ (d2 : D) (v2 : V) (A2 : Ow) (z2 : PyData), isScal d2 = true → Rep g F H d2 v2 A2 → py d2 = some z2 → eqV v v2 = PyData.eqv z z2 := by
  cases d <;> simp only [isScal, Bool.false_eq_true] at h <;> simp only [py, Option.some.injEq] at e <;> (try cases e) <;> obtain ⟨rv, _⟩ := r <;> subst rv <;> refine ⟨rfl, ?_⟩ <;> intro d2 v2 A2 z2 h2 r2 e2 <;>
    cases d2 <;> simp only [isScal, Bool.false_eq_true] at h2 <;> simp only [py, Option.some.injEq] at e2 <;> (try cases e2) <;> obtain ⟨rv2, _⟩ := r2 <;> subst rv2 <;> simp [eqV, PyData.eqv]
theorem flat_any {F H : Hp} {x : D} {v : V} {A : Ow} {z : PyData} (h : isScal x = true) (r : Rep g F H x v A) (e : py x = some z) : ∀ {ys : List D} {vs : List V} {B : Ow} {zs : List PyData}, ys.all isScal = true → RepL g F H ys vs B → pyL ys = some zs →
    vs.all flatV = true ∧ inV v vs = zs.any fun w => PyData.eqv w z
  | [], vs, B, zs, _, rl, e2 => by
    simp only [pyL, Option.some.injEq] at e2
    rw [← e2, rl.1]
    exact ⟨rfl, rfl⟩
  | d :: ds, vs, B, zs, ha, rl, e2 => by
    obtain ⟨w, ws, C, E, e3, rd, rs, _⟩ := rl
    rw [List.all_cons, Bool.and_eq_true] at ha
    simp only [pyL] at e2
    split at e2
    · rename_i y ys' h1 h2
      cases e2
      have k := flat_any h r e ha.2 rs h2
      have k2 := flat_rep ha.1 rd h1
      rw [e3]
      refine ⟨by rw [List.all_cons, k2.1, k.1]; rfl, ?_⟩
      show (w :: ws).any (fun y => eqV y v) = _
      rw [List.any_cons, List.any_cons, k2.2 x v A z h r e]
      congr 1
      exact k.2
    · cases e2

/-! ### dicts, looked at -/
theorem map_keys {α β γ : Type} {f : α → Option β} : ∀ {ks : List α} {kvs : List (β × γ)}, ks.map f = kvs.map (fun p => some p.1) → ks.length = kvs.length := fun {ks kvs} h => by
  have := congrArg List.length h
  simpa using this
theorem dval_any {β : Type} [DecidableEq β] {f : D → Option β} {k : β} : ∀ {ks : List D} {kvs : List (β × V)}, ks.map f = kvs.map (fun p => some p.1) → (ks.any fun z => decide (f z = some k)) = (valV kvs k).isSome
  | [], [], _ => rfl
  | [], _ :: _, h => by simp at h
  | _ :: _, [], h => by simp at h
  | d :: ks, (q, v) :: kvs, h => by
    simp only [List.map_cons, List.cons.injEq] at h
    rw [List.any_cons, h.1, dval_any h.2]
    by_cases e : q = k
    · subst e; simp [valV]
    · simp [valV, e]
end
end PV

/-! PVd: comparisons, subscripts, slices, built-ins are right. -/
namespace PV
open PySem L2
section
variable {X : Cx} {g : Gm}

theorem keysOf_kV {F H : Hp} : ∀ {xs : List D} {vs : List V} {A : Ow} {ks : List Key}, RepL g F H xs vs A → keysOf xs = some ks → vs = ks.map kV
  | [], vs, A, ks, r, e => by
    simp only [keysOf, Option.some.injEq] at e
    rw [← e, r.1]; rfl
  | d :: ds, vs, A, ks, r, e => by
    obtain ⟨v, vs', B, C, e1, rd, rs, q⟩ := r
    simp only [keysOf] at e
    split at e
    · rename_i k ks' h1 h2
      cases e
      rw [e1, keysOf_kV rs h2]
      cases d <;> simp only [keyOf, Option.some.injEq] at h1 <;> (try cases h1)
      · rw [rd.1]; rfl
      · rw [rd.1]; rfl
    · cases e
theorem keyOf_kV {F H : Hp} {d : D} {v : V} {A : Ow} {k : Key} (r : Rep g F H d v A) (e : keyOf d = some k) : v = kV k := by
  cases d <;> simp only [keyOf, Option.some.injEq] at e <;> (try cases e)
  · exact r.1
  · exact r.1
theorem lies_rd {F H : Hp} {o : Bool} {a : Addr} {u : HO} (s : Same F H) (h : Lies F H o a u) : H a = some u := by
  cases o with
  | true => exact h.2
  | false => exact s _ _ h
/-- a look-up -/
theorem dct_get {F H : Hp} {o k : Bool} {ks vs : List D} {x y : V} {A1 A2 : Ow} {d : D} (s : Same F H) (kt : g.kt = false) (r : Rep g F H (.dct o k ks vs) x A1) (ry : Rep g F H d y A2) {ov : Bool}
    (e : inD g.kt d (.dct o k ks vs) = some ov) : ∃ a, x = .ref a ∧ ∃ z, DGet H a y z ∧ z.isSome = ov := by
  cases k with
  | false =>
    obtain ⟨a, kvs, e1, l, kk, rl, q⟩ := r
    simp only [inD] at e
    split at e
    · rename_i key hk
      cases e
      have := keyOf_kV ry hk
      subst this
      refine ⟨a, e1, _, DGet.k (lies_rd s l), ?_⟩
      rw [dval_any kk]
    · cases e
  | true =>
    obtain ⟨a, kvs, e1, l, kk, rl, q⟩ := r
    simp only [inD, kt] at e
    split at e
    · rename_i key hk
      cases e
      cases d <;> simp only [keyTOf] at hk <;> (try cases hk)
      obtain ⟨b, ws, e2, sq, rl2⟩ := ry
      have := keysOf_kV rl2 hk
      subst this
      rcases sq with sq | ⟨z, _⟩
      · refine ⟨a, e1, valV kvs key, ?_, by rw [dval_any kk]⟩
        rw [e2]
        exact DGet.t (lies_rd s l) (s _ _ sq)
      · rw [kt] at z; cases z
    · cases e

theorem in_ok (hK : X.K = g.K) (hu : X.A.units + 65 < cLine) : OpR X (compareOp .In) (rDB g (inD g.kt)) := by
  intro pins s σ H x y v u Q I rx ry h
  obtain ⟨F, d1, d2, A1, A2, b, sf, r1, r2, e, q⟩ := h
  unfold inD at e
  split at e
  · split at e
    · rename_i o ys d ds h1 h2
      split at e
      · rename_i hs
        cases e
        simp only [Bool.and_eq_true] at hs
        have p2 : Dp g.K H y (.list ds) := rep_py sf r2 (by simp only [py, h2, Option.map_some])
        exact op_inD hu pins s σ H x y v u Q I rx ry ⟨d, ds, by rw [hK]; exact rep_py sf r1 h1, by rw [hK]; exact p2, hs.1, hs.2, q⟩
      · cases e
    · cases e
  · split at e
    · rename_i ys d ds h1 h2
      split at e
      · rename_i hs
        cases e
        simp only [Bool.and_eq_true] at hs
        obtain ⟨a, vs, e2, sq, rl⟩ := r2
        have k := flat_any hs.1 r1 h1 hs.2 rl h2
        refine op_in_seq pins s σ H x y v u Q I rx ry ⟨a, vs, e2, .inr (by rw [hK]; exact sqT_same sf sq.sq), (flat_rep hs.1 r1 h1).1, k.1, ?_⟩
        rw [k.2]
        exact q
      · cases e
    · cases e
  · split at e
    · cases e
      exact op_in_str pins s σ H x y v u Q I rx ry ⟨_, _, r1.1, r2.1, q⟩
    · cases e
  · rename_i o ks vs
    split at e
    · rename_i key hk
      cases e
      obtain ⟨a, kvs, e1, l, kk, rl, q2⟩ := r2
      subst e1
      cases ry
      have := keyOf_kV r1 hk
      subst this
      refine d_in (by omega) I (DGet.k (lies_rd sf l)) rx fun s' I' => ⟨.bl _, H, I', rfl, ?_⟩
      rw [← dval_any (f := keyOf) kk]
      exact q
    · cases e
  · rename_i o ks vs
    split at e
    · rename_i key hk
      split at e
      · cases e
      rename_i hk0
      cases e
      obtain ⟨a, kvs, e1, l, kk, rl, q2⟩ := r2
      subst e1
      cases ry
      cases d1 <;> simp only [keyTOf] at hk <;> (try cases hk)
      obtain ⟨b, ws, e2, sq, rl2⟩ := r1
      have := keysOf_kV rl2 hk
      subst this
      rcases sq with sq | ⟨z, _⟩
      · subst e2
        refine d_in (by omega) I (DGet.t (lies_rd sf l) (sf _ _ sq)) rx fun s' I' => ⟨.bl _, H, I', rfl, ?_⟩
        rw [← dval_any (f := keyTOf) kk]
        exact q
      · exact absurd z hk0
    · cases e
  · cases e

theorem notin_ok (hK : X.K = g.K) (hu : X.A.units + 65 < cLine) : OpR X (compareOp .NotIn) (rDB g (fun a b => (inD g.kt a b).map (!·))) := by
  intro pins s σ H x y v u Q I rx ry h
  obtain ⟨F, d1, d2, A1, A2, b, sf, r1, r2, e, q⟩ := h
  simp only [Option.map_eq_some_iff] at e
  obtain ⟨b', e, eb⟩ := e
  subst eb
  unfold inD at e
  split at e
  · split at e
    · rename_i o ys d ds h1 h2
      split at e
      · rename_i hs
        cases e
        simp only [Bool.and_eq_true] at hs
        have p2 : Dp g.K H y (.list ds) := rep_py sf r2 (by simp only [py, h2, Option.map_some])
        exact op_notInD hu pins s σ H x y v u Q I rx ry ⟨d, ds, by rw [hK]; exact rep_py sf r1 h1, by rw [hK]; exact p2, hs.1, hs.2, q⟩
      · cases e
    · cases e
  · split at e
    · rename_i ys d ds h1 h2
      split at e
      · rename_i hs
        cases e
        simp only [Bool.and_eq_true] at hs
        obtain ⟨a, vs, e2, sq, rl⟩ := r2
        have k := flat_any hs.1 r1 h1 hs.2 rl h2
        refine op_notIn_seq pins s σ H x y v u Q I rx ry ⟨a, vs, e2, .inr (by rw [hK]; exact sqT_same sf sq.sq), (flat_rep hs.1 r1 h1).1, k.1, ?_⟩
        rw [k.2]
        exact q
      · cases e
    · cases e
  · split at e
    · cases e
      exact L2.op_notin_str pins s σ H x y v u Q I rx ry ⟨_, _, r1.1, r2.1, q⟩
    · cases e
  · rename_i o ks vs
    split at e
    · rename_i key hk
      cases e
      obtain ⟨a, kvs, e1, l, kk, rl, q2⟩ := r2
      subst e1
      cases ry
      have := keyOf_kV r1 hk
      subst this
      refine d_notIn (by omega) I (DGet.k (lies_rd sf l)) rx fun s' I' => ⟨.bl _, H, I', rfl, ?_⟩
      rw [← dval_any (f := keyOf) kk]
      exact q
    · cases e
  · rename_i o ks vs
    split at e
    · rename_i key hk
      split at e
      · cases e
      rename_i hk0
      cases e
      obtain ⟨a, kvs, e1, l, kk, rl, q2⟩ := r2
      subst e1
      cases ry
      cases d1 <;> simp only [keyTOf] at hk <;> (try cases hk)
      obtain ⟨b, ws, e2, sq, rl2⟩ := r1
      have := keysOf_kV rl2 hk
      subst this
      rcases sq with sq | ⟨z, _⟩
      · subst e2
        refine d_notIn (by omega) I (DGet.t (lies_rd sf l) (sf _ _ sq)) rx fun s' I' => ⟨.bl _, H, I', rfl, ?_⟩
        rw [← dval_any (f := keyTOf) kk]
        exact q
      · exact absurd z hk0
    · cases e
  · cases e
theorem c2_ok (hK : X.K = g.K) (hu : X.A.units + 65 < cLine) (o : C2) : OpR X (compareOp (c2op o)) (rDB g (c2 g.kt o)) := by
  cases o with
  | isin => exact in_ok hK hu
  | notin => exact notin_ok hK hu
  | eq =>
    intro pins s σ H x y v u Q I rx ry h
    obtain ⟨F, d1, d2, A1, A2, b, sf, r1, r2, e, q⟩ := h
    obtain ⟨z1, z2, p1, p2, s1, s2, eb⟩ := eqD_some (by simpa [c2] using e)
    subst eb
    exact op_eqD (by omega) pins s σ H x y v u Q I rx ry ⟨z1, z2, by rw [hK]; exact rep_py sf r1 p1, by rw [hK]; exact rep_py sf r2 p2, s1, s2, q⟩
  | ne =>
    intro pins s σ H x y v u Q I rx ry h
    obtain ⟨F, d1, d2, A1, A2, b, sf, r1, r2, e, q⟩ := h
    simp only [c2, Option.map_eq_some_iff] at e
    obtain ⟨b', e, eb⟩ := e
    subst eb
    obtain ⟨z1, z2, p1, p2, s1, s2, eb⟩ := eqD_some e
    subst eb
    exact op_neD (by omega) pins s σ H x y v u Q I rx ry ⟨z1, z2, by rw [hK]; exact rep_py sf r1 p1, by rw [hK]; exact rep_py sf r2 p2, s1, s2, q⟩
  | lt =>
    intro pins s σ H x y v u Q I rx ry h
    obtain ⟨F, d1, d2, A1, A2, b, sf, r1, r2, e, q⟩ := h
    cases d1 <;> cases d2 <;> simp only [c2] at e <;> (try cases e)
    exact op_lt pins s σ H x y v u Q I rx ry ⟨_, _, r1.1, r2.1, q⟩
  | le =>
    intro pins s σ H x y v u Q I rx ry h
    obtain ⟨F, d1, d2, A1, A2, b, sf, r1, r2, e, q⟩ := h
    cases d1 <;> cases d2 <;> simp only [c2] at e <;> (try cases e)
    exact op_le pins s σ H x y v u Q I rx ry ⟨_, _, r1.1, r2.1, q⟩
  | gt =>
    intro pins s σ H x y v u Q I rx ry h
    obtain ⟨F, d1, d2, A1, A2, b, sf, r1, r2, e, q⟩ := h
    cases d1 <;> cases d2 <;> simp only [c2] at e <;> (try cases e)
    exact op_gt pins s σ H x y v u Q I rx ry ⟨_, _, r1.1, r2.1, q⟩
  | ge =>
    intro pins s σ H x y v u Q I rx ry h
    obtain ⟨F, d1, d2, A1, A2, b, sf, r1, r2, e, q⟩ := h
    cases d1 <;> cases d2 <;> simp only [c2] at e <;> (try cases e)
    exact op_ge pins s σ H x y v u Q I rx ry ⟨_, _, r1.1, r2.1, q⟩

/-! ### subscripts -/
/-- a child: nothing made -/
def rDC (g : Gm) (sem : D → D → Option D) : R2 := fun x y H Q => ∃ F d1 d2 A1 A2 d, Same F H ∧ Rep g F H d1 x A1 ∧ Rep g F H d2 y A2 ∧ sem d1 d2 = some d ∧
  ∀ v A, Rep g F H d v A → (∀ a, A a ≤ A1 a) → Q v H
theorem atI_ix {α : Type} {xs : List α} {i : Int} {x : α} (h : atI xs i = some x) : ∃ j, ixN xs.length i = some j ∧ xs[j]? = some x := by
  unfold atI at h
  cases e : ixN xs.length i with
  | none => rw [e] at h; cases h
  | some j => rw [e] at h; exact ⟨j, rfl, h⟩
theorem atI_of {α : Type} {xs : List α} {i : Int} {x : α} {j n : Nat} (hn : n = xs.length) (h : ixN n i = some j) (hx : xs[j]? = some x) : atI xs i = some x := by
  subst hn
  unfold atI
  rw [h]; exact hx
theorem dval_find {F H : Hp} {β : Type} [DecidableEq β] {f : D → Option β} {k : β} {d : D} : ∀ {ks vs : List D} {kvs : List (β × V)} {A : Ow}, ks.map f = kvs.map (fun p => some p.1) → RepL g F H vs (kvs.map (·.2)) A →
    ((ks.zip vs).find? fun p => decide (f p.1 = some k)).map (·.2) = some d → ∃ v B, valV kvs k = some v ∧ Rep g F H d v B ∧ ∀ a, B a ≤ A a
  | [], vs, kvs, A, _, _, e => by simp at e
  | q :: ks, [], kvs, A, _, _, e => by simp at e
  | q :: ks, w :: vs, [], A, h, _, e => by simp at h
  | q :: ks, w :: vs, (kq, z) :: kvs, A, h, r, e => by
    simp only [List.map_cons, List.cons.injEq] at h
    obtain ⟨v', vs', B, C, e1, rd, rs, qq⟩ := r
    simp only [List.map_cons, List.cons.injEq] at e1
    rw [List.zip_cons_cons, List.find?_cons, h.1] at e
    by_cases c : kq = k
    · subst c
      simp only [decide_true, Option.map_some, Option.some.injEq] at e
      subst e
      refine ⟨z, B, by simp [valV], ?_, fun a => by rw [qq a]; omega⟩
      rw [e1.1]; exact rd
    · have c2 : ¬ (some kq = some k) := fun z => c (Option.some.inj z)
      simp only [decide_eq_false c2] at e
      rw [← e1.2] at rs
      obtain ⟨v, B2, h1, h2, h3⟩ := dval_find h.2 rs e
      exact ⟨v, B2, by simp only [valV, List.find?_cons, decide_eq_false c]; exact h1, h2, fun a => by have := h3 a; rw [qq a]; omega⟩
theorem ix_ok (hK : X.K = g.K) (hu : X.A.units + 65 < cLine) : IxR X (rDC g (ixS g.kt)) := by
  intro value slice pins s σ H x y v u Q I rx ry h hs
  obtain ⟨F, d1, d2, A1, A2, d, sf, r1, r2, e, q⟩ := h
  unfold ixS at e
  split at e
  · rename_i o xs i
    obtain ⟨j, ej, ex⟩ := atI_ix e
    cases o with
    | false =>
      obtain ⟨z, a, vs, e1, rd, rl⟩ := r1
      obtain ⟨w, B, ew, rw_, hb⟩ := repL_get rl ex
      exact ix_list value slice pins s σ H x y v u Q I rx ry ⟨a, vs, i, w, e1, r2.1, .inl (rd_same sf rd), atI_of rl.length ej ew, q w B rw_ hb⟩ hs
    | true =>
      obtain ⟨a, vs, C, e1, f1, rd, rl, qq⟩ := r1
      obtain ⟨w, B, ew, rw_, hb⟩ := repL_get rl ex
      exact ix_list value slice pins s σ H x y v u Q I rx ry ⟨a, vs, i, w, e1, r2.1, SqL.of rd, atI_of rl.length ej ew, q w B rw_ fun b => by have := hb b; rw [qq b]; omega⟩ hs
  · rename_i xs i
    obtain ⟨j, ej, ex⟩ := atI_ix e
    obtain ⟨a, vs, e1, sq, rl⟩ := r1
    obtain ⟨w, B, ew, rw_, hb⟩ := repL_get rl ex
    exact ix_tup value slice pins s σ H x y v u Q I rx ry ⟨a, vs, i, w, e1, r2.1, by rw [hK]; exact sqT_same sf sq.sq, atI_of rl.length ej ew, q w B rw_ hb⟩ hs
  · rename_i ns i
    simp only [Option.map_eq_some_iff] at e
    obtain ⟨n, e, en⟩ := e
    subst en
    obtain ⟨⟨a, e1, sq⟩, _⟩ := r1
    obtain ⟨j, ej, ex⟩ := atI_ix e
    exact ix_list value slice pins s σ H x y v u Q I rx ry ⟨a, ns.map V.int, i, .int n, e1, r2.1, by rw [hK]; exact sqL_same sf sq, atI_of (by rw [List.length_map]) ej (by rw [List.getElem?_map, ex]; rfl), q _ _ rep_int fun _ => Nat.zero_le _⟩ hs
  · split at e
    · rename_i z i hz
      simp only [Option.map_eq_some_iff] at e
      obtain ⟨c, e, ec⟩ := e
      subst ec
      exact ix_str value slice pins s σ H x y v u Q I rx ry ⟨z, i, c, r1.1, r2.1, by simpa [szOk] using hz, e, q _ _ rep_str fun _ => Nat.zero_le _⟩ hs
    · cases e
  · rename_i o ks vs k
    split at e
    · rename_i key hk
      obtain ⟨a, kvs, e1, l, kk, rl, q2⟩ := r1
      subst e1
      cases rx
      have := keyOf_kV r2 hk
      subst this
      obtain ⟨w, B, ew, rw_, hb⟩ := dval_find kk rl e
      have gd : DGet H a (kV key) (some w) := by rw [← ew]; exact DGet.k (lies_rd sf l)
      exact PyProof.Rows.tail_any (dict_typeIs I gd) PySem.F.slot_dict_getitem.lookup (d_getItem (by omega) I gd ry fun w' s' I' rw' => ⟨w, H, I', rw', q w B rw_ fun b => by have := hb b; omega⟩) hs
    · cases e
  · rename_i o ks vs k
    split at e
    · rename_i key hk
      split at e
      · cases e
      rename_i hk0
      obtain ⟨a, kvs, e1, l, kk, rl, q2⟩ := r1
      subst e1
      cases rx
      cases d2 <;> simp only [keyTOf] at hk <;> (try cases hk)
      obtain ⟨b, ws, e2, sq, rl2⟩ := r2
      have := keysOf_kV rl2 hk
      subst this
      obtain ⟨w, B, ew, rw_, hb⟩ := dval_find kk rl e
      rcases sq with sq | ⟨z, _⟩
      · subst e2
        have gd : DGet H a (.ref b) (some w) := by rw [← ew]; exact DGet.t (lies_rd sf l) (sf _ _ sq)
        exact PyProof.Rows.tail_any (dict_typeIs I gd) PySem.F.slot_dict_getitem.lookup (d_getItem (by omega) I gd ry fun w' s' I' rw' => ⟨w, H, I', rw', q w B rw_ fun b => by have := hb b; omega⟩) hs
      · exact absurd z hk0
    · cases e
  · cases e

/-! ### slices -/
def rDS (g : Gm) : V → Option Int → Option Int → Hp → VK → Prop := fun x lo hi H Q => ∃ F d1 A1 d, Same F H ∧ Rep g F H d1 x A1 ∧ slS d1 lo hi = some d ∧
  ∀ v F' H' A, Nw F H F' H' A → Rep g F' H' d v A → Q v H'
theorem repL_cut {F H : Hp} {xs : List D} {vs : List V} {A : Ow} {lo hi : Option Int} (n : noOwnL xs = true) (r : RepL g F H xs vs A) : RepL g F H (cutD xs lo hi) (cutV vs lo hi) (fun _ => 0) ∧ noOwnL (cutD xs lo hi) = true := by
  have h := r.length
  unfold cutD cutV
  rw [h]
  have k := repL_drop (HT.sIx vs.length 0 lo) n r
  exact repL_take _ k.2 k.1
theorem sl_ok (hK : X.K = g.K) : SlR X (rDS g) := by
  intro pins s σ H x v vl vu lo hi sl Q I rx hs pl pu h
  obtain ⟨F, d1, A1, d, sf, r1, e, q⟩ := h
  unfold slS at e
  split at e
  · split at e
    · rename_i o xs n
      cases e
      obtain ⟨a, vs, B, e1, rd, rl, _⟩ := rep_lst sf r1
      have k := repL_cut (lo := lo) (hi := hi) n rl
      exact sl_list pins s σ H x v vl vu lo hi sl Q I rx hs pl pu ⟨a, vs, e1, .inl rd, fun p hp => q _ _ _ _ (Nw.lst sf hp) (rep_newL sf hp k.2 k.1)⟩
    · cases e
  · split at e
    · rename_i xs n
      cases e
      obtain ⟨a, vs, e1, sq, rl⟩ := r1
      have k := repL_cut (lo := lo) (hi := hi) n rl
      have hl := rl.length
      refine sl_tupA pins s σ H x v vl vu lo hi sl Q I rx hs pl pu ⟨a, vs, e1, by rw [hK]; exact sqT_same sf sq.sq, fun hw => ?_, fun _ p hp => q _ _ _ _ (Nw.tup sf hp) (rep_newT sf hp k.2 k.1)⟩
      have ed : cutD xs lo hi = xs := by
        unfold cutD
        rw [hl, hw.1, hw.2, List.drop_zero, Nat.sub_zero, ← hl, List.take_length]
      rw [ed] at q
      exact q _ F H _ (Nw.refl sf) ⟨a, vs, rfl, sq, rl.eqA (rl.zero n)⟩
    · cases e
  · rename_i ns
    cases e
    obtain ⟨⟨a, e1, sq⟩, _⟩ := r1
    have k := repL_cut (lo := lo) (hi := hi) (noOwnL_ints ns) (repL_ints (g := g) (F := F) (H := H) ns)
    exact sl_list pins s σ H x v vl vu lo hi sl Q I rx hs pl pu ⟨a, _, e1, by rw [hK]; exact sqL_same sf sq, fun p hp => q _ _ _ _ (Nw.lst sf hp) (rep_newL sf hp k.2 k.1)⟩
  · split at e
    · rename_i z hz
      cases e
      exact C8.sl_txt pins s σ H x v vl vu lo hi sl Q I rx hs pl pu ⟨z, r1.1, by simpa [szOk] using hz, q _ F H _ (Nw.refl sf) rep_str⟩
    · cases e
  · cases e
end
theorem putD_any {ks : List D} {kvs : List (Key × V)} (h : ks.map keyOf = kvs.map (fun p => some p.1)) {q : D} {k : Key} (hq : keyOf q = some k) : (ks.any fun z => decide (keyOf z = keyOf q)) = kvs.any fun kv => decide (kv.1 = k) := by
  induction ks generalizing kvs with
  | nil => cases kvs with
    | nil => rfl
    | cons p r => simp at h
  | cons d ds ih => cases kvs with
    | nil => simp at h
    | cons p r =>
      simp only [List.map_cons, List.cons.injEq] at h
      simp only [List.any_cons, ih h.2, h.1]
      rw [hq]
      simp only [Option.some.injEq]
theorem putD_repl {g : Gm} {F H : Hp} {q d : D} {w : V} {k : Key} (hq : keyOf q = some k) (rd : Rep g F H d w (fun _ => 0)) : ∀ {ks vs : List D} {kvs : List (Key × V)}, ks.map keyOf = kvs.map (fun p => some p.1) → RepL g F H vs (kvs.map (·.2)) (fun _ => 0) →
    RepL g F H ((ks.zip vs).map fun p => if keyOf p.1 = keyOf q then d else p.2) ((kvs.map fun kv => if kv.1 = k then (kv.1, w) else kv).map (·.2)) (fun _ => 0)
  | [], vs, [], _, h => ⟨rfl, fun _ => rfl⟩
  | [], vs, _ :: _, h, _ => by simp at h
  | _ :: _, vs, [], h, _ => by simp at h
  | c :: cs, [], p :: r, h, rl => by
    have := rl.1
    simp at this
  | c :: cs, y :: ys, p :: r, h, rl => by
    simp only [List.map_cons, List.cons.injEq] at h
    obtain ⟨v, vs', B, C, e, r1, rs, z⟩ := rl
    simp only [List.map_cons, List.cons.injEq] at e
    obtain ⟨e1, e2⟩ := e
    subst e1 e2
    have hB : ∀ x, B x = 0 := fun x => by have : 0 = B x + C x := z x; omega
    have hC : ∀ x, C x = 0 := fun x => by have : 0 = B x + C x := z x; omega
    have ih := putD_repl hq rd h.2 (rs.eqA hC)
    rw [hq] at ih ⊢
    simp only [List.zip_cons_cons, List.map_cons, h.1, Option.some.injEq]
    refine ⟨_, _, (fun _ => 0), (fun _ => 0), rfl, ?_, ih, fun _ => rfl⟩
    by_cases hk : p.1 = k
    · rw [if_pos hk, if_pos hk]; exact rd
    · rw [if_neg hk, if_neg hk]; exact r1.eqA hB
theorem repL_snoc0 {g : Gm} {F H : Hp} {d : D} {w : V} (rd : Rep g F H d w (fun _ => 0)) : ∀ {vs : List D} {ws : List V}, RepL g F H vs ws (fun _ => 0) → RepL g F H (vs ++ [d]) (ws ++ [w]) (fun _ => 0)
  | [], ws, h => by
    have := h.1
    subst this
    exact ⟨w, [], (fun _ => 0), (fun _ => 0), rfl, rd, ⟨rfl, fun _ => rfl⟩, fun _ => rfl⟩
  | y :: ys, ws, h => by
    obtain ⟨v, vs', B, C, e, r1, rs, z⟩ := h
    subst e
    have hB : ∀ x, B x = 0 := fun x => by have : 0 = B x + C x := z x; omega
    have hC : ∀ x, C x = 0 := fun x => by have : 0 = B x + C x := z x; omega
    exact ⟨v, _, (fun _ => 0), (fun _ => 0), rfl, r1.eqA hB, repL_snoc0 rd (rs.eqA hC), fun _ => rfl⟩
theorem putD_ok {g : Gm} {F H : Hp} {q d : D} {w : V} {k : Key} (hq : keyOf q = some k) (rd : Rep g F H d w (fun _ => 0)) {ks vs : List D} {kvs : List (Key × V)} (h : ks.map keyOf = kvs.map (fun p => some p.1)) (rl : RepL g F H vs (kvs.map (·.2)) (fun _ => 0)) :
    (putD ks vs q d).1.map keyOf = (putK kvs k w).map (fun p => some p.1) ∧ RepL g F H (putD ks vs q d).2 ((putK kvs k w).map (·.2)) (fun _ => 0) := by
  unfold putD putK
  rw [putD_any h hq]
  split
  · refine ⟨?_, putD_repl hq rd h rl⟩
    rw [h, List.map_map]
    apply List.map_congr_left
    intro p _
    show some p.1 = some (if p.1 = k then (p.1, w) else p).1
    split <;> rfl
  · refine ⟨?_, ?_⟩
    · simp only [List.map_append, h, List.map_cons, List.map_nil, hq]
    · rw [List.map_append]
      exact repL_snoc0 rd rl
end PV

/-! PVe: built-in calls are right. -/
namespace PV
open PySem L2
section
variable {X : Cx} {g : Gm}

def f1nm : F1 → Str
  | .len => "len" | .list => "list" | .tuple => "tuple" | .sorted => "sorted" | .sum => "sum" | .all => "all" | .any => "any"
  | .int => "int" | .str => "str" | .abs => "abs" | .max => "max" | .min => "min" | .dict => "dict"
def f1val : F1 → Value
  | .len => .builtin "len" | .list => .type "list" | .tuple => .type "tuple" | .sorted => .builtin "sorted" | .sum => .builtin "sum"
  | .all => .builtin "all" | .any => .builtin "any" | .int => .type "int" | .str => .type "str" | .abs => .builtin "abs" | .max => .builtin "max" | .min => .builtin "min" | .dict => .type "dict"
theorem f1_boot (f : F1) : bootBuiltins (f1nm f) = some (f1val f) := by cases f <;> decide +kernel

def rD1 (g : Gm) (sem : D → Option D) (sc : Bool) : List V → Hp → VK → Prop := fun vs H Q => ∃ F x d1 A1 d, vs = [x] ∧ Same F H ∧ Rep g F H d1 x A1 ∧ sem d1 = some d ∧
  ∀ v F' H' A, Nw F H F' H' A → Rep g F' H' d v A → (sc = true → F' = F ∧ H' = H) → Q v H'
theorem sortI_same {ns ns' : List Int} (h1 : ns'.Perm ns) (h2 : ns'.Pairwise (· ≤ ·)) : ns' = sortI ns := by
  have q1 : (sortI ns).Perm ns := List.mergeSort_perm _ _
  have q2 : (sortI ns).Pairwise (fun a b => decide (a ≤ b) = true) := List.pairwise_mergeSort (fun a b c h1 h2 => by
    simp only [decide_eq_true_eq] at *; omega) (fun a b => by simp only [Bool.or_eq_true, decide_eq_true_eq]; omega) ns
  exact List.Perm.eq_of_pairwise (fun a b _ _ h1 h2 => Int.le_antisymm h1 h2) h2 (q2.imp fun h => by simpa using h) (h1.trans q1.symm)
theorem maxI_spec : ∀ (ns : List Int) (m : Int), m ∈ ns → (∀ y, y ∈ ns → y ≤ m) → m = maxI ns
  | [], m, h, _ => by cases h
  | [x], m, h, _ => by simp at h; simp [maxI, h]
  | x :: y :: r, m, h, k => by
    have hx := k x (by simp)
    simp only [maxI]
    by_cases c : ∃ m', m' ∈ (y :: r) ∧ (∀ z, z ∈ (y :: r) → z ≤ m')
    · obtain ⟨m', h1, h2⟩ := c
      have e := maxI_spec (y :: r) m' h1 h2
      have h3 : m' ≤ m := k m' (by simp [List.mem_cons] at h1 ⊢; exact .inr h1)
      rw [← e]
      rcases List.mem_cons.mp h with h | h
      · subst h; omega
      · have := h2 m h; omega
    · exfalso
      clear h k hx
      have : ∀ (l : List Int), l ≠ [] → ∃ m', m' ∈ l ∧ ∀ z, z ∈ l → z ≤ m' := by
        intro l
        induction l with
        | nil => intro h; exact absurd rfl h
        | cons a l ih =>
          intro _
          by_cases hl : l = []
          · subst hl; exact ⟨a, by simp, fun z hz => by simp at hz; omega⟩
          · obtain ⟨m, h1, h2⟩ := ih hl
            by_cases ha : a ≤ m
            · exact ⟨m, by simp [h1], fun z hz => by rcases List.mem_cons.mp hz with e | e; (subst e; exact ha); exact h2 z e⟩
            · exact ⟨a, by simp, fun z hz => by rcases List.mem_cons.mp hz with e | e; (subst e; omega); (have := h2 z e; omega)⟩
      exact c (this _ (by simp))
theorem minI_spec : ∀ (ns : List Int) (m : Int), m ∈ ns → (∀ y, y ∈ ns → m ≤ y) → m = minI ns
  | [], m, h, _ => by cases h
  | [x], m, h, _ => by simp at h; simp [minI, h]
  | x :: y :: r, m, h, k => by
    have hx := k x (by simp)
    simp only [minI]
    by_cases c : ∃ m', m' ∈ (y :: r) ∧ (∀ z, z ∈ (y :: r) → m' ≤ z)
    · obtain ⟨m', h1, h2⟩ := c
      have e := minI_spec (y :: r) m' h1 h2
      have h3 : m ≤ m' := k m' (by simp [List.mem_cons] at h1 ⊢; exact .inr h1)
      rw [← e]
      rcases List.mem_cons.mp h with h | h
      · subst h; omega
      · have := h2 m h; omega
    · exfalso
      clear h k hx
      have : ∀ (l : List Int), l ≠ [] → ∃ m', m' ∈ l ∧ ∀ z, z ∈ l → m' ≤ z := by
        intro l
        induction l with
        | nil => intro h; exact absurd rfl h
        | cons a l ih =>
          intro _
          by_cases hl : l = []
          · subst hl; exact ⟨a, by simp, fun z hz => by simp at hz; omega⟩
          · obtain ⟨m, h1, h2⟩ := ih hl
            by_cases ha : m ≤ a
            · exact ⟨m, by simp [h1], fun z hz => by rcases List.mem_cons.mp hz with e | e; (subst e; exact ha); exact h2 z e⟩
            · exact ⟨a, by simp, fun z hz => by rcases List.mem_cons.mp hz with e | e; (subst e; omega); (have := h2 z e; omega)⟩
      exact c (this _ (by simp))
theorem f1_list (hK : X.K = g.K) : CallR X (.type "list") (rD1 g (f1S .list) false) := by
  intro pins s σ H vs us Q I rv h
  obtain ⟨F, x, d1, A1, d, ev, sf, r1, e, q⟩ := h
  subst ev
  cases d1 with
  | lst o xs =>
    simp only [f1S] at e
    split at e
    · rename_i n
      cases e
      obtain ⟨a, ws, B, e1, rd, rl, _⟩ := rep_lst sf r1
      exact call_list_of pins s σ H _ us Q I rv ⟨a, ws, by rw [e1], .inl (.inl rd), fun l hl => q _ _ _ _ (Nw.lst sf hl) (rep_newL sf hl n rl) fun z => by cases z⟩
    · cases e
  | tup xs =>
    simp only [f1S] at e
    split at e
    · rename_i n
      cases e
      obtain ⟨a, ws, e1, sq, rl⟩ := r1
      exact call_list_of pins s σ H _ us Q I rv ⟨a, ws, by rw [e1], .inr (by rw [hK]; exact sqT_same sf sq.sq), fun l hl => q _ _ _ _ (Nw.lst sf hl) (rep_newL sf hl n rl) fun z => by cases z⟩
    · cases e
  | _ => simp [f1S] at e
theorem f1_tuple (hK : X.K = g.K) : CallR X (.type "tuple") (rD1 g (f1S .tuple) false) := by
  intro pins s σ H vs us Q I rv h
  obtain ⟨F, x, d1, A1, d, ev, sf, r1, e, q⟩ := h
  subst ev
  cases d1 with
  | lst o xs =>
    simp only [f1S] at e
    split at e
    · rename_i n
      cases e
      obtain ⟨a, ws, B, e1, rd, rl, _⟩ := rep_lst sf r1
      exact call_tuple_of pins s σ H _ us Q I rv ⟨a, ws, by rw [e1], .inl ⟨.inl rd, fun l hl => q _ _ _ _ (Nw.tup sf hl) (rep_newT sf hl n rl) fun z => by cases z⟩⟩
    · cases e
  | tup xs =>
    simp only [f1S] at e
    split at e
    · rename_i n
      cases e
      obtain ⟨a, ws, e1, sq, rl⟩ := r1
      exact call_tuple_of pins s σ H _ us Q I rv ⟨a, ws, by rw [e1], .inr ⟨by rw [hK]; exact sqT_same sf sq.sq, q _ F H _ (Nw.refl sf) ⟨a, ws, rfl, sq, rl.eqA (rl.zero n)⟩ fun z => by cases z⟩⟩
    · cases e
  | _ => simp [f1S] at e
theorem f1_len (hK : X.K = g.K) : CallR X (.builtin "len") (rD1 g (f1S .len) true) := by
  intro pins s σ H vs us Q I rv h
  obtain ⟨F, x, d1, A1, d, ev, sf, r1, e, q⟩ := h
  subst ev
  have qi : ∀ i : Int, d = .int i → Q (.int i) H := fun i z => q _ F H _ (Nw.refl sf) (by rw [z]; exact rep_int) fun _ => ⟨rfl, rfl⟩
  cases d1 with
  | lst o xs =>
    simp only [f1S, Option.some.injEq] at e
    obtain ⟨a, ws, B, e1, rd, rl, _⟩ := rep_lst sf r1
    exact call_len_seq pins s σ H _ us Q I rv ⟨a, ws, by rw [e1], .inl (.inl rd), by rw [← rl.length]; exact qi _ e.symm⟩
  | tup xs =>
    simp only [f1S, Option.some.injEq] at e
    obtain ⟨a, ws, e1, sq, rl⟩ := r1
    exact call_len_seq pins s σ H _ us Q I rv ⟨a, ws, by rw [e1], .inr (by rw [hK]; exact sqT_same sf sq.sq), by rw [← rl.length]; exact qi _ e.symm⟩
  | scr ns =>
    simp only [f1S, Option.some.injEq] at e
    obtain ⟨⟨a, e1, sq⟩, _⟩ := r1
    exact call_len_seq pins s σ H _ us Q I rv ⟨a, ns.map V.int, by rw [e1], .inl (by rw [hK]; exact sqL_same sf sq), by rw [List.length_map]; exact qi _ e.symm⟩
  | str z =>
    simp only [f1S] at e
    split at e
    · rename_i hz
      cases e
      exact call_len_str pins s σ H _ us Q I rv ⟨z, by rw [r1.1], by simpa [szOk] using hz, qi _ rfl⟩
    · cases e
  | dct o k ks ws =>
    simp only [f1S, Option.some.injEq] at e
    cases k with
    | false =>
      obtain ⟨a, kvs, e1, l, kk, rl, _⟩ := r1
      exact call_lenD pins s σ H _ us Q I rv ⟨a, kvs, by rw [e1], lies_rd sf l, by rw [← map_keys kk]; exact qi _ e.symm⟩
    | true =>
      obtain ⟨a, kvs, e1, l, kk, rl, _⟩ := r1
      exact call_len_dT pins s σ H _ us Q I rv ⟨a, kvs, by rw [e1], lies_rd sf l, by rw [← map_keys kk]; exact qi _ e.symm⟩
  | _ => simp [f1S] at e
theorem keyInts : ∀ {ks : List D} {ns : List Int}, intsOf ks = some ns → ks.map keyOf = ns.map fun i => some (Sum.inl i)
  | [], ns, e => by
    simp only [intsOf, Option.some.injEq] at e
    subst e; rfl
  | .int i :: ks, ns, e => by
    simp only [intsOf, Option.map_eq_some_iff] at e
    obtain ⟨ms, h1, h2⟩ := e
    subst h2
    simp only [List.map_cons, keyInts h1]
    rfl
  | .non :: _, _, e => by simp [intsOf] at e
  | .bl _ :: _, _, e => by simp [intsOf] at e
  | .str _ :: _, _, e => by simp [intsOf] at e
  | .fn _ :: _, _, e => by simp [intsOf] at e
  | .tup _ :: _, _, e => by simp [intsOf] at e
  | .lst _ _ :: _, _, e => by simp [intsOf] at e
  | .dct _ _ _ _ :: _, _, e => by simp [intsOf] at e
  | .ins _ _ _ :: _, _, e => by simp [intsOf] at e
  | .scr _ :: _, _, e => by simp [intsOf] at e
section
open PySem.Spec PyProof.Rows
/-- sorted(d) of a dict, all keys ints -/
theorem cr_sortedDI (hcalm : X.calm = true) : CallR X (.builtin "sorted") (fun xs H Q => ∃ (a : Addr) (kvs : List (Key × V)) (ks : List Int), xs = [.ref a] ∧ Rd H a (.dK kvs) ∧ kvs.map (·.1) = ks.map Sum.inl ∧
    ∀ (ys : List Int) (p : Addr), ys.Perm ks → ys.Pairwise (· ≤ ·) → H p = none → Q (.ref p) (upd H p (.lst (ys.map V.int)))) := by
  intro pins s σ H xs us Q I r q
  obtain ⟨a, kvs, ks, ex, hd, hks, q⟩ := q
  subst ex
  obtain ⟨u, eu, rx⟩ := vals1 r
  subst eu
  cases rx
  obtain ⟨z, lo, vs, rel, dd⟩ := dk_rd I.hok hd
  obtain ⟨ep, hat⟩ := dd.dictAt
  have hkeys : vs.map (·.1) = ks.map Sum.inl := rel.keys.symm.trans hks
  have hl : vs.length = ks.length := by
    have e := congrArg List.length hkeys
    rw [List.length_map, List.length_map] at e
    exact e
  have h16 : vs.length ≤ sizeLine := by rw [← rel.length]; exact z
  refine Calls.call_function_entry PyProof.Rows.kind_sorted PyProof.Rows.plain_sorted PyProof.Rows.entry_sorted (PyProof.Rows.args_sorted1 _) ?_
  unfold Builtin.«sorted»
  refine wpAny_bind (m := checkCount "sorted" 1 1 _) (wpAny_pure ?_)
  refine wpAny_bind (PySem.W.kdu_collect (A := X.A.in1) (PySem.W.kdl_dict (knd := mixKind X.prog X.w) (kvs := vs) (ep := ep) lo) (I.ok.hd hcalm) hat h16 fun h' tk acc hk hacc => ?_)
  have hal : acc.toList.length = ks.length := by rw [Array.length_toList, hacc.1, hl]
  have hS : IntsAre acc.toList ks := ints_each hal fun j v e => by
    obtain ⟨k, x, e1, e2⟩ := hacc.2 j v (by rw [← Array.getElem?_toList]; exact e)
    have e3 : (vs.map (·.1))[j]? = some k := by rw [List.getElem?_map, e1]; rfl
    rw [hkeys, List.getElem?_map] at e3
    cases e4 : ks[j]? with
    | none => rw [e4] at e3; cases e3
    | some y =>
      rw [e4] at e3
      have e5 : Sum.inl y = k := Option.some.inj e3
      subst e5
      rcases keyIs_shape (show keyIs (Sum.inl y) v = true from e2) with ⟨i, t, ek, ev⟩ | ⟨z, t, ek, ev⟩
      · cases ek
        exact ⟨y, t, rfl, ev⟩
      · cases ek
  have I1 : Inv X pins σ H { s with heap := h', toks := tk } := I.kept hk
  have hlz : acc.toList.length ≤ sizeLine := by rw [hal, ← hl]; exact h16
  refine wpAny_bind (wpAny_newList ?_ hlz)
  have hoL : (h'.push (seqObj "list" acc.toList.toArray 0)).get? h'.objs.size = some (seqObj "list" acc.toList.toArray 0) := Heap.get?_push_size _ rfl
  show wpAny _ _ _ _ _ { s with heap := h'.push (seqObj "list" acc.toList.toArray 0), toks := tk }
  refine wpAny_bind (wpAny_holding (wpAny_call_entry PyProof.Rows.slot_list_sort ⟨_, hoL, rfl⟩ PyProof.Rows.entry_list_sort
    (SrtO.list_sort_ord (s := { s with heap := h'.push (seqObj "list" acc.toList.toArray 0), toks := tk }) SrtO.swo_int hoL hlz (fun h2 => SrtO.ints_sortable hS h2) fun out g1 g2 => ⟨_, rfl, ?_⟩) (PyProof.Rows.args_list_sort _)))
  obtain ⟨r1, r2, r3⟩ := SrtO.ints_out hS g1 g2
  obtain ⟨e', he'⟩ := PyProof.Rows.sortedHeap_at (vs := acc.toList) (out := out.toArray) hoL
  have hlen : ((out.map SrtO.iv).map V.int).length ≤ sizeLine := by
    rw [List.length_map, r2.length_eq, ← hal]
    exact hlz
  refine wpAny_pure ⟨_, rfl, .ref h'.objs.size, upd H h'.objs.size (.lst ((out.map SrtO.iv).map V.int)), I1.laid (t' := tk) (fun b u e => ?_) (Nat.le_refl _)
    (show ObjOk X.prog X.w _ _ _ (.lst ((out.map SrtO.iv).map V.int)) from ⟨hlen, out.toArray.toList, e', vals_of_ints (by simpa using r1), by rw [Array.toArray_toList]; exact he'⟩), rfl, q _ _ r2 r3 (I1.hok.fresh (Nat.le_refl _))⟩
  have hb : b < h'.objs.size := Heap.lt_size e
  rw [PyProof.Rows.sortedHeap_old (Nat.ne_of_lt hb) (by rw [size_push']; exact Nat.lt_succ_of_lt hb)]
  exact Heap.get?_push_of_some _ e
end
theorem f1_sorted (hK : X.K = g.K) (hc : X.calm = true) : CallR X (.builtin "sorted") (rD1 g (f1S .sorted) false) := by
  intro pins s σ H vs us Q I rv h
  obtain ⟨F, x, d1, A1, d, ev, sf, r1, e, q⟩ := h
  subst ev
  by_cases hD : ∃ o ks ws, d1 = .dct o false ks ws
  · obtain ⟨o, ks, ws, rfl⟩ := hD
    simp only [f1S, Option.map_eq_some_iff] at e
    obtain ⟨ns, hi, ed⟩ := e
    subst ed
    obtain ⟨a, kvs, e1, l, kk, rl, _⟩ := r1
    have ek : kvs.map (·.1) = ns.map Sum.inl := by
      have e2 := keyInts hi
      rw [e2] at kk
      have : (kvs.map (·.1)).map some = (ns.map (Sum.inl : Int → Key)).map some := by
        rw [List.map_map, List.map_map]; exact kk.symm
      exact (List.map_inj_right (fun a b h => Option.some.inj h)).mp this
    refine cr_sortedDI hc pins s σ H _ us Q I rv ⟨a, kvs, ns, by rw [e1], .inl (lies_rd sf l), ek, fun ns' p hp hs hn => ?_⟩
    rw [sortI_same hp hs]
    exact q _ _ _ _ (Nw.lst sf hn) (rep_newL sf hn (noOwnL_ints _) (repL_ints _)) fun z => by cases z
  have e' : ∃ o xs, d1 = .lst o xs ∧ ((intsOf xs).map fun ns => D.lst true ((sortI ns).map .int)) = some d := by
    cases d1 <;> simp only [f1S] at e <;> (try cases e)
    · exact ⟨_, _, rfl, e⟩
    · rename_i o k ks ws
      cases k
      · exact absurd ⟨o, ks, ws, rfl⟩ hD
      · cases e
  obtain ⟨o, xs, rfl, e⟩ := e'
  obtain ⟨ns, hi, ed⟩ := Option.map_eq_some_iff.mp e
  subst ed
  obtain ⟨a, ws, B, e1, rd, rl, _⟩ := rep_lst sf r1
  have := rep_ints rl hi
  subst this
  refine cr_sortedI pins s σ H _ us Q I rv ⟨a, ns, by rw [e1], .inl rd, fun ns' p hp hs hn => ?_⟩
  rw [sortI_same hp hs]
  exact q _ _ _ _ (Nw.lst sf hn) (rep_newL sf hn (noOwnL_ints _) (repL_ints _)) fun z => by cases z
theorem f1_sum (hc : X.calm = true) : CallR X (.builtin "sum") (rD1 g (f1S .sum) true) := by
  intro pins s σ H vs us Q I rv h
  obtain ⟨F, x, d1, A1, d, ev, sf, r1, e, q⟩ := h
  subst ev
  cases d1 <;> simp only [f1S, Option.map_eq_some_iff] at e <;> (try cases e)
  rename_i o xs ns h
  obtain ⟨hi, ed⟩ := h
  subst ed
  obtain ⟨a, ws, B, e1, rd, rl, _⟩ := rep_lst sf r1
  have := rep_ints rl hi
  subst this
  exact cr_sum hc pins s σ H _ us Q I rv ⟨a, ns, by rw [e1], .inl rd, q _ F H _ (Nw.refl sf) rep_int fun _ => ⟨rfl, rfl⟩⟩
theorem f1_all (hc : X.calm = true) : CallR X (.builtin "all") (rD1 g (f1S .all) true) := by
  intro pins s σ H vs us Q I rv h
  obtain ⟨F, x, d1, A1, d, ev, sf, r1, e, q⟩ := h
  subst ev
  cases d1 <;> simp only [f1S, Option.map_eq_some_iff] at e <;> (try cases e)
  rename_i o xs ns h
  obtain ⟨hi, ed⟩ := h
  subst ed
  obtain ⟨a, ws, B, e1, rd, rl, _⟩ := rep_lst sf r1
  have := rep_bools rl hi
  subst this
  exact cr_all hc pins s σ H _ us Q I rv ⟨a, ns, by rw [e1], .inl rd, q _ F H _ (Nw.refl sf) rep_bl fun _ => ⟨rfl, rfl⟩⟩
theorem f1_any (hc : X.calm = true) : CallR X (.builtin "any") (rD1 g (f1S .any) true) := by
  intro pins s σ H vs us Q I rv h
  obtain ⟨F, x, d1, A1, d, ev, sf, r1, e, q⟩ := h
  subst ev
  cases d1 <;> simp only [f1S, Option.map_eq_some_iff] at e <;> (try cases e)
  rename_i o xs ns h
  obtain ⟨hi, ed⟩ := h
  subst ed
  obtain ⟨a, ws, B, e1, rd, rl, _⟩ := rep_lst sf r1
  have := rep_bools rl hi
  subst this
  exact cr_any hc pins s σ H _ us Q I rv ⟨a, ns, by rw [e1], .inl rd, q _ F H _ (Nw.refl sf) rep_bl fun _ => ⟨rfl, rfl⟩⟩
theorem f1_max (hc : X.calm = true) : CallR X (.builtin "max") (rD1 g (f1S .max) true) := by
  intro pins s σ H vs us Q I rv h
  obtain ⟨F, x, d1, A1, d, ev, sf, r1, e, q⟩ := h
  subst ev
  cases d1 <;> simp only [f1S] at e <;> (try cases e)
  rename_i o xs
  split at e
  · rename_i n ns hi
    cases e
    obtain ⟨a, ws, B, e1, rd, rl, _⟩ := rep_lst sf r1
    have := rep_ints rl hi
    subst this
    refine cr_max hc pins s σ H _ us Q I rv ⟨a, n :: ns, by rw [e1], .inl rd, by simp, fun m h1 h2 => ?_⟩
    rw [maxI_spec _ m h1 h2]
    exact q _ F H _ (Nw.refl sf) rep_int fun _ => ⟨rfl, rfl⟩
  · cases e
theorem f1_min (hc : X.calm = true) : CallR X (.builtin "min") (rD1 g (f1S .min) true) := by
  intro pins s σ H vs us Q I rv h
  obtain ⟨F, x, d1, A1, d, ev, sf, r1, e, q⟩ := h
  subst ev
  cases d1 <;> simp only [f1S] at e <;> (try cases e)
  rename_i o xs
  split at e
  · rename_i n ns hi
    cases e
    obtain ⟨a, ws, B, e1, rd, rl, _⟩ := rep_lst sf r1
    have := rep_ints rl hi
    subst this
    refine cr_min hc pins s σ H _ us Q I rv ⟨a, n :: ns, by rw [e1], .inl rd, by simp, fun m h1 h2 => ?_⟩
    rw [minI_spec _ m h1 h2]
    exact q _ F H _ (Nw.refl sf) rep_int fun _ => ⟨rfl, rfl⟩
  · cases e
theorem f1_int : CallR X (.type "int") (rD1 g (f1S .int) true) := by
  intro pins s σ H vs us Q I rv h
  obtain ⟨F, x, d1, A1, d, ev, sf, r1, e, q⟩ := h
  subst ev
  cases d1 <;> simp only [f1S, Option.some.injEq] at e <;> (try cases e)
  · exact call_int1 pins s σ H _ us Q I rv (.inr ⟨_, by rw [r1.1], q _ F H _ (Nw.refl sf) rep_int fun _ => ⟨rfl, rfl⟩⟩)
  · exact call_int1 pins s σ H _ us Q I rv (.inl ⟨_, by rw [r1.1], q _ F H _ (Nw.refl sf) rep_int fun _ => ⟨rfl, rfl⟩⟩)
theorem f1_str : CallR X (.type "str") (rD1 g (f1S .str) true) := by
  intro pins s σ H vs us Q I rv h
  obtain ⟨F, x, d1, A1, d, ev, sf, r1, e, q⟩ := h
  subst ev
  cases d1 <;> simp only [f1S] at e <;> (try cases e)
  split at e
  · rename_i i hz
    cases e
    exact call_str_int pins s σ H _ us Q I rv ⟨_, by rw [r1.1], hz, q _ F H _ (Nw.refl sf) rep_str fun _ => ⟨rfl, rfl⟩⟩
  · cases e
theorem f1_abs : CallR X (.builtin "abs") (rD1 g (f1S .abs) true) := by
  intro pins s σ H vs us Q I rv h
  obtain ⟨F, x, d1, A1, d, ev, sf, r1, e, q⟩ := h
  subst ev
  cases d1 <;> simp only [f1S, Option.some.injEq] at e <;> (try cases e)
  exact call_abs pins s σ H _ us Q I rv ⟨_, by rw [r1.1], q _ F H _ (Nw.refl sf) rep_int fun _ => ⟨rfl, rfl⟩⟩
theorem dmk_form {a r : List D × List D} {x : D} {xs : List D} (h : dmk a (x :: xs) = some r) : ∃ k v, x = .tup [k, v] := by
  cases x <;> (try (simp [dmk] at h; done))
  rename_i ys
  match ys, h with
  | [], h => simp [dmk] at h
  | [_], h => simp [dmk] at h
  | [k, v], _ => exact ⟨k, v, rfl⟩
  | _ :: _ :: _ :: _, h => simp [dmk] at h
theorem dmk_ok (hK : X.K = g.K) {F H : Hp} (sf : Same F H) : ∀ {xs : List D} {ws : List V} {B : Ow} {a r : List D × List D} {kvs : List (Key × V)}, RepL g F H xs ws B → noOwnL xs = true → a.1.map keyOf = kvs.map (fun p => some p.1) → RepL g F H a.2 (kvs.map (·.2)) (fun _ => 0) → noOwnL a.2 = true → dmk a xs = some r →
    ∃ (ps : List Addr) (more : List (Key × V)), ws = ps.map V.ref ∧ Paired (fun p kv => SqT X.K H p [kV kv.1, kv.2]) ps more ∧ r.1.map keyOf = (mergeK kvs more).map (fun p => some p.1) ∧ RepL g F H r.2 ((mergeK kvs more).map (·.2)) (fun _ => 0) ∧ noOwnL r.2 = true
  | [], ws, B, a, r, kvs, rl, hn, h1, h2, h3, e => by
    simp only [dmk, Option.some.injEq] at e
    subst e
    exact ⟨[], [], by rw [rl.1]; rfl, .nil, h1, h2, h3⟩
  | x :: xs, ws, B, a, r, kvs, rl, hn, h1, h2, h3, e => by
    obtain ⟨k, v, rfl⟩ := dmk_form e
    have e : (if (keyOf k).isSome then dmk (putD a.1 a.2 k v) xs else none) = some r := e
    split at e
    · rename_i hs
      obtain ⟨key, hkey⟩ := Option.isSome_iff_exists.mp hs
      obtain ⟨w, ws', B1, C, ew, rx, rs, q⟩ := rl
      obtain ⟨p, us, ep, ta, ru⟩ := rx
      obtain ⟨u1, us1, B2, C2, eu, r1, ru1, q1⟩ := ru
      obtain ⟨u2, us2, B3, C3, eu2, r2, ru2, q2⟩ := ru1
      have eu3 := ru2.1
      subst eu3 eu2 eu
      have hk := keyOf_kV r1 hkey
      subst hk
      simp only [noOwnL, noOwn, Bool.and_true, Bool.and_eq_true] at hn
      have r2' := r2.eqA (r2.zero hn.1.2)
      obtain ⟨m1, m2⟩ := putD_ok hkey r2' h1 h2
      have h3' : noOwnL (putD a.1 a.2 k v).2 = true := by
        unfold putD
        split
        · refine noOwnL_of fun z hz => ?_
          obtain ⟨y, hy, rfl⟩ := List.mem_map.mp hz
          split
          · exact hn.1.2
          · exact noOwnL_mem h3 (List.of_mem_zip hy).2
        · show noOwnL (a.2 ++ [v]) = true
          rw [noOwnL_append, h3]; simp only [noOwnL, hn.1.2, Bool.and_true, Bool.and_self]
      obtain ⟨ps, more, e1, e2, e3, e4, e5⟩ := dmk_ok hK sf (a := putD a.1 a.2 k v) rs hn.2 m1 m2 h3' e
      refine ⟨p :: ps, (key, u2) :: more, by rw [ew, ep, e1]; rfl, .cons ?_ e2, e3, e4, e5⟩
      rw [hK]
      exact sqT_same sf ta.sq
    · cases e
theorem f1_dict (hK : X.K = g.K) (hc : X.calm = true) : CallR X (.type "dict") (rD1 g (f1S .dict) false) := by
  intro pins s σ H vs us Q I rv h
  obtain ⟨F, x, d1, A1, d, ev, sf, r1, e, q⟩ := h
  subst ev
  have e' : ∃ o xs, d1 = .lst o xs ∧ (if noOwnL xs = true then (dmk ([], []) xs).map fun p => D.dct true false p.1 p.2 else none) = some d := by
    cases d1 <;> simp only [f1S] at e <;> (try cases e)
    exact ⟨_, _, rfl, e⟩
  obtain ⟨o, xs, rfl, e2⟩ := e'
  split at e2
  · rename_i n
    obtain ⟨r, hr, ed⟩ := Option.map_eq_some_iff.mp e2
    subst ed
    obtain ⟨a, ws, B, e1, rd, rl, _⟩ := rep_lst sf r1
    obtain ⟨ps, kvs, ew, pp, m1, m2, m3⟩ := dmk_ok hK sf (a := ([], [])) (kvs := []) rl n rfl ⟨rfl, fun _ => rfl⟩ rfl hr
    refine call_dictP hc pins s σ H _ us Q I rv ⟨a, ps, kvs, by rw [e1], .inl (by rw [← ew]; exact rd), pp, fun p hp => ?_⟩
    have hf : F p = none := by
      cases z : F p with
      | none => rfl
      | some u => rw [sf _ _ z] at hp; cases hp
    exact q _ _ _ _ (Nw.lst sf hp) (show Rep g F (upd H p (.dK (mergeK [] kvs))) (.dct true false r.1 r.2) (.ref p) (at1 p) from ⟨p, _, rfl, ⟨hf, upd_same⟩, m1, m2.fr0 (Same.refl F) m3, fun _ => rfl⟩) fun z => by cases z
  · cases e2
/-- built-ins that may be called in an except suite -/
def f1cool : F1 → Bool
  | .len => true | .list => true | .tuple => true | .int => true | .str => true | .abs => true | _ => false
theorem f1_ok (hK : X.K = g.K) (f : F1) (hcc : f1cool f = false → X.calm = true) : CallR X (f1val f) (rD1 g (f1S f) f.scal) := by
  cases f with
  | len => exact f1_len hK
  | list => exact f1_list hK
  | tuple => exact f1_tuple hK
  | sorted => exact f1_sorted hK (hcc rfl)
  | sum => exact f1_sum (hcc rfl)
  | all => exact f1_all (hcc rfl)
  | any => exact f1_any (hcc rfl)
  | int => exact f1_int
  | str => exact f1_str
  | abs => exact f1_abs
  | max => exact f1_max (hcc rfl)
  | min => exact f1_min (hcc rfl)
  | dict => exact f1_dict hK (hcc rfl)

/-! ### max, min of two -/
def f2nm : F2 → Str
  | .max => "max" | .min => "min"
def f2val : F2 → Value
  | .max => .builtin "max" | .min => .builtin "min"
theorem f2_boot (f : F2) : bootBuiltins (f2nm f) = some (f2val f) := by cases f <;> decide +kernel
def rDF2 (g : Gm) (sem : D → D → Option D) : List V → Hp → VK → Prop := fun vs H Q => ∃ F x y d1 d2 A1 A2 d, vs = [x, y] ∧ Same F H ∧ Rep g F H d1 x A1 ∧ Rep g F H d2 y A2 ∧ sem d1 d2 = some d ∧ ∀ v, Rep g F H d v (fun _ => 0) → Q v H
theorem f2_ok (hc : X.calm = true) (f : F2) : CallR X (f2val f) (rDF2 g (f2S f)) := by
  intro pins s σ H vs us Q I rv h
  obtain ⟨F, x, y, d1, d2, A1, A2, d, ev, sf, r1, r2, e, q⟩ := h
  subst ev
  cases f <;> cases d1 <;> simp only [f2S] at e <;> (try cases e) <;> cases d2 <;> simp only [Option.some.injEq] at e <;> (try cases e)
  · exact call_max2 hc pins s σ H _ us Q I rv ⟨_, _, by rw [r1.1, r2.1], q _ rep_int⟩
  · exact call_min2 hc pins s σ H _ us Q I rv ⟨_, _, by rw [r1.1, r2.1], q _ rep_int⟩

/-! ### isinstance -/
def tyNm : Ty → String
  | .bool => "bool" | .int => "int" | .str => "str" | .list => "list" | .tuple => "tuple"
def tyStr : Ty → Str
  | .bool => "bool" | .int => "int" | .str => "str" | .list => "list" | .tuple => "tuple"
theorem ty_boot (t : Ty) : bootBuiltins (tyStr t) = some (.type (tyNm t)) := by cases t <;> decide +kernel
def tcNm : TC → String
  | .non => "NoneType" | .bool => "bool" | .int => "int" | .str => "str" | .list => "list" | .tuple => "tuple" | .dict => "dict"
theorem kit_tc (K : PySem.W.Frag) (c : TC) (t : Ty) : PySem.W.kitOne K (.type (tcNm c)) (.type (tyNm t)) = some (isTC t c) := by
  cases c <;> cases t <;> exact kit_ty (by decide +kernel)
/-- the type of a thing -/
theorem rep_ty {F H : Hp} {d : D} {v : V} {A : Ow} {c : TC} (hK : X.K = g.K) (sf : Same F H) (r : Rep g F H d v A) (e : tcOf d = some c) : TyX X.K H v (.type (tcNm c)) := by
  cases d <;> simp only [tcOf, Option.some.injEq] at e <;> (try cases e)
  · rw [r.1]; exact .base .non
  · rw [r.1]; exact .base (.bl _)
  · rw [r.1]; exact .base (.int _)
  · rw [r.1]; exact .base (.str _)
  · obtain ⟨a, ws, e1, sq, rl⟩ := r
    rw [e1]
    have sq := sqT_same sf sq.sq
    rw [← hK] at sq
    rcases sq with (sq | ⟨_, sq⟩) | ⟨ob, its, n, hk, hc, _⟩
    · exact .base (.tup sq)
    · exact .fTuple sq
    · exact .kTuple hk hc
  · obtain ⟨a, ws, B, e1, rd, rl, _⟩ := rep_lst sf r
    rw [e1]
    rcases rd with rd | ⟨_, rd⟩
    · exact .base (.lst rd)
    · exact .base (.frz rd)
  · rename_i o k ks ws
    cases k with
    | false =>
      obtain ⟨a, kvs, e1, l, kk, rl, _⟩ := r
      rw [e1]
      exact .base (.dK (lies_rd sf l))
    | true =>
      obtain ⟨a, kvs, e1, l, kk, rl, _⟩ := r
      rw [e1]
      exact .base (.dT (lies_rd sf l))
theorem kitAny_tc (K : PySem.W.Frag) (c : TC) : ∀ ts : List Ty, PySem.W.kitAny K (.type (tcNm c)) (ts.map fun t => .type (tyNm t)) = some (ts.any fun t => isTC t c)
  | [] => rfl
  | t :: ts => by
    rw [List.map_cons, List.any_cons]
    exact kitAny_cons (kit_tc K c t) (fun e => by rw [kitAny_tc K c ts, e, Bool.false_or]) (fun e => by rw [e, Bool.true_or])
end
end PV

/-! PVf: the text against the small language; contexts; what an expression's reading is. -/
namespace PV
open PySem L2

/-! ### the check -/
structure Ck where
  N : List Str
  nf : Nat → Option Str
  ng : Nat → Option Str
  nc : Nat → Option Str
  /-- classes in an except clause, and those asked for by isinstance -/
  nx : Nat → Option Str
  /-- within an except suite -/
  hot : Bool
def vis (sc : Scope) (x : Str) : Bool := decide (sc.names.lookup x = some .local) || decide (sc.names.lookup x = some .cell) || decide (sc.names.lookup x = some .free)
def loc (sc : Scope) (x : Str) : Bool := decide (sc.names.lookup x = some .local) || decide (sc.names.lookup x = some .cell)
def isGl (sc : Scope) (x : Str) : Bool := decide (sc.names.lookup x = some .globalImplicit)
def nmOk (x : Str) : Bool := decide ((x == ("__debug__" : Str)) = false) && decide ((x == ("__classdict__" : Str)) = false)
def ok1 : Expr → Bool
  | .Name _ _ => true | .Constant _ _ _ => true | .BinOp _ _ _ _ => true | .BoolOp _ _ _ => true | .UnaryOp _ _ _ => true | .IfExp _ _ _ _ => true
  | .ListComp _ _ _ _ => true | .Compare _ _ _ _ => true | .Call _ _ _ _ => true | .Attribute _ _ _ => true | .Subscript _ _ _ => true | .List _ _ => true | .Tuple _ _ _ => true | .Dict _ _ _ => true
  | _ => false
def notLc : Expr → Bool
  | .ListComp _ _ _ _ => false | _ => true
/-- receivers of methods -/
def okBase : Expr → Bool
  | .Call (.Name _ _) [] [] _ => false | _ => true
def slotOk (N : List Str) (i : Nat) (x : Str) : Bool := decide (N[i]? = some x)
def m1nm : M1 → Str
  | .index => "index" | .lcount => "count" | .scount => "count" | .join => "join" | .split => "split" | .partition => "partition" | .find => "find"
def mmnm : MM → Str
  | .append => "append" | .extend => "extend" | .insert => "insert" | .clear => "clear" | .pop => "pop"
def chkTys (sc : Scope) : List Ty → List Expr → Bool
  | [], [] => true
  | t :: ts, .Name x _ :: es => decide (tyStr t = x) && isGl sc x && chkTys sc ts es
  | _, _ => false
def chkTy (sc : Scope) : List Ty → Expr → Bool
  | [t], .Name x _ => decide (tyStr t = x) && isGl sc x
  | t :: u :: ts, .Tuple es _ _ => decide ((t :: u :: ts).length ≤ 1000) && chkTys sc (t :: u :: ts) es
  | _, _ => false
def chkTgs (N : List Str) (sc : Scope) : List Nat → List Expr → Bool
  | [], [] => true
  | i :: is, .Name x _ :: es => slotOk N i x && loc sc x && chkTgs N sc is es
  | _, _ => false
def chkTg (N : List Str) (sc : Scope) : Tg → Expr → Bool
  | .nm i, .Name x _ => slotOk N i x && loc sc x
  | .tup is, .Tuple es _ _ => chkTgs N sc is es
  | _, _ => false
def isTupE : Expr → Bool
  | .Tuple _ _ _ => true | _ => false
def ownNames (N : List Str) : List Nat → List (Str × Nat)
  | [] => []
  | i :: is => ((N[i]?).getD "", i) :: ownNames N is
def isVar : E → Bool
  | .var _ => true | _ => false

/-- what a for walks -/
def chkI (k : ItK) (va : Bool) (fa fb : Expr → Bool) (sc : Scope) (tg it : Expr) : Bool := match k, it with
  | .e, it => fa it
  | .hold, it => va && fa it
  | .rng1, .Call (.Name x _) [y] [] _ => decide (x = ("range" : Str)) && isGl sc x && fa y
  | .rng2, .Call (.Name x _) [y, z] [] _ => decide (x = ("range" : Str)) && isGl sc x && fa y && fb z
  | .enum, .Call (.Name x _) [y] [] _ => decide (x = ("enumerate" : Str)) && isGl sc x && fa y && isTupE tg
  | .zip, .Call (.Name x _) [y, z] [] _ => decide (x = ("zip" : Str)) && isGl sc x && fa y && fb z && isTupE tg
  | _, _ => false
/-- what may be frozen as an operand -/
def frOk : Expr → Bool
  | .BinOp _ _ _ _ => true | .List _ _ => true | .Call _ _ _ _ => true | _ => false
def chkXs (nx : Nat → Option Str) (sc : Scope) : List Nat → List Expr → Bool
  | [], [] => true
  | j :: js, .Name x _ :: es => decide (nx j = some x) && isGl sc x && nmOk x && chkXs nx sc js es
  | _, _ => false
def chkX (nx : Nat → Option Str) (sc : Scope) : List Nat → Expr → Bool
  | [j], .Name x _ => decide (nx j = some x) && isGl sc x && nmOk x
  | j :: k :: js, .Tuple es _ _ => decide ((j :: k :: js).length ≤ 1000) && chkXs nx sc (j :: k :: js) es
  | _, _ => false
mutual
def chkE (c : Ck) : E → Scope → Expr → Bool
  | .int i, _, .Constant (.int j) _ _ => decide (i = j)
  | .str s, _, .Constant (.str t) _ _ => decide (s = t)
  | .bl b, _, .Constant (.bool d) _ _ => decide (b = d)
  | .non, _, .Constant .none _ _ => true
  | .glob k, sc, .Name x _ => decide (c.ng k = some x) && isGl sc x && nmOk x
  | .fn f, sc, .Name x _ => decide (c.nf f = some x) && isGl sc x && nmOk x
  | .var i, sc, .Name x _ => slotOk c.N i x && vis sc x && nmOk x
  | .mv i, sc, .Name x _ => slotOk c.N i x && vis sc x && nmOk x
  | .vf i, sc, .Name x _ => slotOk c.N i x && vis sc x && nmOk x
  | .bin o a b, sc, .BinOp x op y _ => decide (b2op o = op) && chkE c a sc x && chkE c b sc y
  | .cmp o a b, sc, .Compare x [op] [y] _ => decide (c2op o = op) && chkE c a sc x && chkE c b sc y
  | .chain o p a b d, sc, .Compare x [op, oq] [y, z] _ => decide (c2op o = op) && decide (c2op p = oq) && chkE c a sc x && chkE c b sc y && chkE c d sc z
  | .isn n a, sc, .Compare x [op] [.Constant .none _ _] _ => decide (op = if n then .IsNot else .Is) && chkE c a sc x
  | .neg a, sc, .UnaryOp .USub x _ => chkE c a sc x
  | .not a, sc, .UnaryOp .Not x _ => chkE c a sc x
  | .and a b, sc, .BoolOp .And (x :: y :: r) p => chkE c a sc x && (match r with | [] => chkE c b sc y | _ => chkE c b sc (.BoolOp .And (y :: r) p))
  | .or a b, sc, .BoolOp .Or (x :: y :: r) p => chkE c a sc x && (match r with | [] => chkE c b sc y | _ => chkE c b sc (.BoolOp .Or (y :: r) p))
  | .ife d a b, sc, .IfExp t x y _ => tOk d && chkE c d sc t && chkE c a sc x && chkE c b sc y
  | .tup es, sc, .Tuple xs _ _ => chkEs c es sc xs
  | .lst es, sc, .List xs _ => chkEs c es sc xs
  | .ix a b, sc, .Subscript x y _ => chkE c a sc x && chkE c b sc y
  | .sl a lo hi, sc, .Subscript x (.Slice l h none _) _ => chkE c a sc x && (match l with | none => isNo lo | some y => chkE c lo sc y) && (match h with | none => isNo hi | some y => chkE c hi sc y)
  | .rev a, sc, .Subscript x (.Slice none none (some (.UnaryOp .USub (.Constant (.int 1) _ _) _)) _) _ => chkE c a sc x
  | .f1 f a, sc, .Call (.Name x _) [y] [] _ => (!c.hot || f1cool f) && decide (f1nm f = x) && isGl sc x && chkE c a sc y
  | .trg l a, sc, .Call (.Name x _) [.Call (.Name r _) [y] [] _] [] _ => !c.hot && decide ((if l then ("list" : Str) else ("tuple" : Str)) = x) && decide (("range" : Str) = r) && isGl sc x && isGl sc r && chkE c a sc y
  | .sset a, sc, .Call (.Name x _) [.Call (.Name r _) [y] [] _] [] _ => !c.hot && decide (("sorted" : Str) = x) && decide (("set" : Str) = r) && isGl sc x && isGl sc r && chkE c a sc y
  | .dnw, _, .Dict [] [] _ => true
  | .fr e, sc, x => frOk x && chkE c e sc x
  | .xis i js, sc, .Call (.Name x _) [.Name y _, t] [] _ => c.hot && decide (x = ("isinstance" : Str)) && isGl sc x && slotOk c.N i y && vis sc y && nmOk y && chkX c.nx sc js t
  | .f2 f a b, sc, .Call (.Name x _) [y, z] [] _ => !c.hot && decide (f2nm f = x) && isGl sc x && chkE c a sc y && chkE c b sc z
  | .isin a ts, sc, .Call (.Name x _) [y, t] [] _ => decide (x = ("isinstance" : Str)) && isGl sc x && chkE c a sc y && chkTy sc ts t
  | .m1 m a b, sc, .Call (.Attribute x n ap) [y] [] cp => decide (m1nm m = n) && decide (ap.endLine = cp.line) && okBase x && chkE c a sc x && chkE c b sc y
  | .call f es, sc, .Call (.Name x _) (y :: ys) [] _ => !c.hot && decide (c.nf f = some x) && isGl sc x && nmOk x && chkEs c es sc (y :: ys)
  | .mm m i st es, sc, .Call (.Attribute (.Name x _) n ap) ys [] cp => decide (mmnm m = n) && decide (ap.endLine = cp.line) && slotOk c.N i x && vis sc x && nmOk x && decide (st = []) && mmAr m ys.length && chkEs c es sc ys
  | .lc g k a b d e own, sc, .ListComp elt [⟨tg, it, ifs, az⟩] scope _ => !c.hot && decide (az = 0) && blkC c.N sc scope (ownNames c.N own) && decide (own.Nodup) && own.all (fun i => decide (i < c.N.length)) && chkTg c.N scope g tg && g.slots.all (fun i => own.contains i) &&
      ok1 it && chkI k (isVar a) (chkE c a sc) (chkE c b sc) sc tg it &&
      (match ifs with
        | [] => isNo d
        | [t] => !isNo d && tOk d && chkE c d (relS scope sc) t
        | _ => false) &&
      chkE c e (relS scope sc) elt
  | _, _, _ => false
def chkEs (c : Ck) : Es → Scope → List Expr → Bool
  | .nil, _, [] => true
  | .cons e es, sc, x :: xs => chkE c e sc x && chkEs c es sc xs
  | _, _, _ => false
end
end PV

/-! PVg: readings, contexts, the glue. -/
namespace PV
open PySem L2

theorem chk_ok1 {c : Ck} {e : E} {sc : Scope} {ast : Expr} (h : chkE c e sc ast = true) : ok1 ast = true := by
  cases ast <;> first
    | rfl
    | (exfalso; cases e <;> simp [chkE, frOk] at h)
theorem star_ok {e : Expr} {es : List Expr} {env : PySem.Env} (h : ok1 e = true) : starEach (e :: es) env = (false, eval e env) :: starEach es env := by
  cases e <;> first
    | rfl
    | (simp [ok1] at h)
theorem plainIx_ok {e : Expr} (h : ok1 e = true) : PlainIx e := by
  intro o i
  cases e <;> first
    | rfl
    | (simp [ok1] at h)
theorem mark_ok {e : Expr} {op : CmpOp} (h : ok1 e = true) : behindInMarks op e = false := by
  cases e <;> first
    | rfl
    | (simp [ok1] at h)
theorem fold_ok {e : Expr} {env : PySem.Env} (h : ok1 e = true) : ∀ x, foldedSetIterable e env x = Pure.pure x := by
  intro x
  cases e <;> first
    | rfl
    | (simp [ok1] at h)
theorem swaps_ok {e : Expr} {t : Option Expr} {l : Nat} {env : PySem.Env} (h : ok1 e = true) (hl : notLc e = true) : swapsWith e t l env = Pure.pure false := by
  cases e <;> first
    | rfl
    | (simp [notLc] at hl; done)
    | (simp [ok1] at h; done)
theorem base_ok {e : Expr} {n : Str} {env : PySem.Env} (h : okBase e = true) (w : Sem Value) : attributeBase e n env w = w := by
  unfold attributeBase
  split
  · simp [okBase] at h
  · rfl

/-! ### what is wanted behind -/
def PostR {β : Type} (g : Gm) (Wx : WX) (okp : β → Prop) (x : R β) (F H : Hp) (O : Ow) (σ : St) : Prop := match x with
  | .ok b => okp b
  | .ex c ρ' => ∃ C, g.ca c = some C ∧ ∀ F' H' O', Sta g F' H' ρ' σ O' → Stp F H O F' H' O' → Wx (.ref C) none σ H'
  | .bad => False
/-- a pure one changes nothing; else the result's own is apart from the slots' -/
def Pu (pu : Bool) (F H : Hp) (O : Ow) (F' H' : Hp) (O' A : Ow) : Prop := match pu with
  | true => F' = F ∧ H' = H ∧ O' = O ∧ ∀ x, A x ≤ O x
  | false => ∀ x, O' x + A x ≤ 1
/-- the value of a slot is that slot's -/
def VS (vr : Option Nat) (σ : St) (v : V) : Prop := match vr with
  | some i => σ[i]? = some (some v)
  | none => True
def varOf : E → Option Nat
  | .var i => some i
  | _ => none
def okE (g : Gm) (pu : Bool) (vr : Option Nat) (F H : Hp) (O : Ow) (σ : St) (Q : VK) : D × Env → Prop := fun p =>
  ∀ v F' H' O' A, Sta g F' H' p.2 σ O' → Rep g F' H' p.1 v A → Stp F H O F' H' (fun x => O' x + A x) → Pu pu F H O F' H' O' A → VS vr σ v → Q v H'
def okT (g : Gm) (pu : Bool) (F H : Hp) (O : Ow) (σ : St) (Q : Bool → Hp → Prop) : Bool × Env → Prop := fun p =>
  ∀ F' H' O', Sta g F' H' p.2 σ O' → Stp F H O F' H' O' → (pu = true → F' = F ∧ H' = H ∧ O' = O) → Q p.1 H'
def tE (g : Gm) (W : Wd) (Wx : WX) (e : E) : TE := fun σ H Q => ∃ F ρ O, Sta g F H ρ σ O ∧ PostR g Wx (okE g (pure e) (varOf e) F H O σ Q) (ev W e ρ) F H O σ
def tT (g : Gm) (W : Wd) (Wx : WX) (e : E) : TT := fun σ H Q => ∃ F ρ O, Sta g F H ρ σ O ∧ PostR g Wx (okT g (pure e) F H O σ Q) ((ev W e ρ).bind asBl) F H O σ
/-- kept values -/
def tV (g : Gm) (W : Wd) (Wx : WX) (e : E) : TE := fun σ H Q => ∃ F ρ O, Sta g F H ρ σ O ∧ PostR g Wx (okE g false none F H O σ Q) (toV e (ev W e) ρ) F H O σ

section
variable {g : Gm} {Wx : WX} {F H F1 H1 F2 H2 : Hp} {O O1 O2 T : Ow} {σ : St}
theorem seqR {α β : Type} {x : R α} {f : α → R β} {okp : β → Prop} {okq : α → Prop} (h : PostR g Wx okp (x.bind f) F H O σ) (s0 : Stp F H O F1 H1 (fun x => O1 x + T x))
    (k : ∀ a, x = .ok a → PostR g Wx okp (f a) F H O σ → okq a) : PostR g Wx okq x F1 H1 O1 σ := by
  cases x with
  | ok a => exact k a rfl h
  | ex c ρ' =>
    obtain ⟨C, hc, h⟩ := h
    exact ⟨C, hc, fun F' H' O' hs st => h F' H' O' hs ((s0.trans st.more).less fun x hx => by show 0 < O' x + T x; omega)⟩
  | bad => exact h
theorem seqO {α β : Type} {x : Option α} {f : α → R β} {okp : β → Prop} (h : PostR g Wx okp ((ofO x).bind f) F H O σ) : ∃ a, x = some a ∧ PostR g Wx okp (f a) F H O σ := by
  cases x with
  | some a => exact ⟨a, rfl, h⟩
  | none => exact h.elim
theorem postIf {β : Type} {b : Bool} {x : R β} {okp : β → Prop} (h : PostR g Wx okp (if b = true then x else .bad) F H O σ) : b = true ∧ PostR g Wx okp x F H O σ := by
  cases b with
  | true => exact ⟨rfl, h⟩
  | false => exact h.elim
theorem Sta.own {ρ : Env} (s : Sta g F H ρ σ O) : ∀ x, 0 < O x → F x = none ∧ ∃ u, H x = some u := s.slots.own
theorem Sta.stp {ρ : Env} (s : Sta g F H ρ σ O) : Stp F H O F H (fun x => O x + 0) := ⟨Same.refl F, s.same, fun _ _ _ h => h, fun _ h _ _ => h, fun _ h => .inl h⟩
/-- the slots behind new things -/
theorem Sta.nw {ρ : Env} {A : Ow} (s : Sta g F H ρ σ O) (n : Nw F H F1 H1 A) : Sta g F1 H1 ρ σ O ∧ ∀ x, O x + A x ≤ 1 := by
  refine ⟨⟨n.fh, s.slots.fr n.ff fun x hx => ?_, s.one⟩, fun x => ?_⟩
  · obtain ⟨f, u, e⟩ := s.own x hx
    exact ⟨n.newF x f (by rw [e]; simp), by rw [n.hh x u e, e]⟩
  · have h1 := s.one x
    have h2 := n.one x
    by_cases c : 0 < O x
    · obtain ⟨_, u, e⟩ := s.own x c
      have : A x = 0 := by
        by_cases d : 0 < A x
        · rw [n.newA x d] at e; cases e
        · omega
      omega
    · omega
theorem stp_addL {F H F1 H1 : Hp} {O O1 A : Ow} (s : Stp F H O F1 H1 O1) (h : ∀ x, 0 < A x → 0 < O1 x ∨ H x = none) : Stp F H O F1 H1 (fun x => O1 x + A x) :=
  ⟨s.ff, s.fh, s.keep, s.newF, fun a q => by
    have q : 0 < O1 a + A a := q
    by_cases c : 0 < O1 a
    · exact s.newO a c
    · rcases h a (by omega) with z | z
      · omega
      · exact .inr z⟩
/-- the end: the result is made of new things, or of nothing new -/
theorem finishN {pu : Bool} {Q : VK} {r : D} {ρ2 : Env} {v : V} {F' H' : Hp} {A : Ow} (h : okE g pu none F H O σ Q (r, ρ2)) (s0 : Stp F H O F2 H2 (fun x => O2 x + T x)) (st : Sta g F2 H2 ρ2 σ O2) (n : Nw F2 H2 F' H' A) (rr : Rep g F' H' r v A)
    (hp : pu = true → F' = F ∧ H' = H ∧ O2 = O ∧ ∀ x, A x ≤ O x) : Q v H' := by
  have k := st.nw n
  refine h v F' H' O2 A k.1 rr (((s0.less (O2 := O2) fun x hx => by show 0 < O2 x + T x; omega).trans n.stp).less fun x hx => hx) ?_ trivial
  cases pu with
  | true => exact hp rfl
  | false => exact k.2
/-- .. of a child, or a scalar: nothing new -/
theorem finish0 {pu : Bool} {Q : VK} {r : D} {ρ2 : Env} {v : V} {A : Ow} (h : okE g pu none F H O σ Q (r, ρ2)) (s0 : Stp F H O F2 H2 (fun x => O2 x + T x)) (st : Sta g F2 H2 ρ2 σ O2) (rr : Rep g F2 H2 r v A) (hA : ∀ x, A x ≤ O2 x + T x)
    (hp : pu = true → F2 = F ∧ H2 = H ∧ O2 = O ∧ ∀ x, A x ≤ O x) (hn : pu = false → ∀ x, O2 x + A x ≤ 1) : Q v H2 := by
  refine h v F2 H2 O2 A st rr (s0.less fun x hx => ?_) ?_ trivial
  · have := hA x
    have hx : 0 < O2 x + A x := hx
    show 0 < O2 x + T x
    omega
  · cases pu with
    | true => exact hp rfl
    | false => exact hn rfl
theorem finishS {pu : Bool} {Q : VK} {r : D} {ρ2 : Env} {v : V} (h : okE g pu none F H O σ Q (r, ρ2)) (s0 : Stp F H O F2 H2 (fun x => O2 x + T x)) (st : Sta g F2 H2 ρ2 σ O2) (rr : Rep g F2 H2 r v (fun _ => 0)) (hp : pu = true → F2 = F ∧ H2 = H ∧ O2 = O) : Q v H2 :=
  finish0 h s0 st rr (fun _ => Nat.zero_le _) (fun z => let ⟨a, b, c⟩ := hp z; ⟨a, b, c, fun _ => Nat.zero_le _⟩) (fun _ x => st.one x)
end

/-! ### the context -/
def bNames : List Str := ["len", "list", "tuple", "sorted", "sum", "all", "any", "int", "str", "abs", "max", "min", "isinstance", "range", "enumerate", "zip", "bool", "set", "dict"]
def spOf (g : Gm) (io : Bool) (call : List D → RF) : Sp := fun vs H Q E => ∃ F ds A, Same F H ∧ RepL g F H ds vs A ∧ (∀ x, A x ≤ 1) ∧ (io = false → ∀ x, A x = 0) ∧ (match call ds with
  | .ok r out => ∀ v F' H' B C, Rep g F' H' r v B → (match io, out with | true, some o => ∃ v0 r, vs = v0 :: r ∧ Rep g F' H' o v0 C | true, none => False | false, _ => ∀ x, C x = 0) → (∀ x, B x + C x ≤ 1) → Stp F H A F' H' (fun x => B x + C x) → Q v H'
  | .ex c => ∃ C, g.ca c = some C ∧ ∀ F' H', Stp F H A F' H' (fun _ => 0) → E (.ref C) none H'
  | .bad => False)
/-- isinstance(e, (c, ..)), e the exception that the suite holds -/
def rIsEt (K : PySem.W.Frag) (D a : Addr) : List V → Hp → VK → Prop := fun xs H Q => ∃ (tp : Addr) (cs : List V) (cvs : List Value) (b : Bool), xs = [.ref a, .ref tp] ∧ H tp = some (.tup cs) ∧ Paired (fun c cv => ∀ u, RelV c u → u = cv) cs cvs ∧ PySem.W.kitAny K (.ref D) cvs = some b ∧ Q (.bl b) H
theorem cvs_all {cs : List V} {cvs its : List Value} (k : Paired (fun c cv => ∀ u, RelV c u → u = cv) cs cvs) (rv : Vals cs its) : its = cvs := by
  induction k generalizing its with
  | nil => cases rv; rfl
  | cons h t ih =>
    cases rv with
    | cons r rs => rw [h _ r, ih rs]
theorem call_isEt {X : Cx} {a D : Addr} {oe : Obj} {pn : List (Addr × Obj)} (C : ExcC X.K D) (hz : Zc (.ref D) none oe) (hf : ∃ vs, oe.data = .fields vs) : CallR (X.suite a ((a, oe) :: pn)) (.builtin "isinstance") (rIsEt X.K D a) := by
  intro pins s σ H xs us Q I r h
  obtain ⟨tp, cs, cvs, b, rfl, hT, hcv, e, q⟩ := h
  cases r with
  | cons rx rr =>
    cases rr with
    | cons rt rr =>
      cases rr
      cases rx
      cases rt
      obtain ⟨_, its, rv, o, h1, h2, n, h3⟩ := (show ObjOk X.prog X.w H s.heap tp (.tup cs) from I.hok tp _ hT)
      have e3 := cvs_all hcv rv
      subst e3
      obtain ⟨oc1, od1, dt1, sl1⟩ := o
      simp only at h2 h3
      subst h2 h3
      obtain ⟨hget, _⟩ := I.pin (a, oe) (List.mem_append.mpr (.inl List.mem_cons_self))
      obtain ⟨vs, hv⟩ := hf
      have J : PySem.W.InstAt s.heap a oe D none := by
        obtain ⟨oc, od, oda, osl⟩ := oe
        obtain ⟨h1, h2⟩ := hz
        dsimp only at h1 h2 hv
        subst h1 h2 hv
        exact ⟨hget, rfl, rfl, trivial⟩
      exact PySem.W.kia_tup (PySem.W.handS_kitx_exc C.hg C.hk C.hs C.hd C.ha C.hn C.ht C.hm) I.kIn J h1 e (fun z => nomatch z) fun tk => ⟨.bl b, H, I.kept (t' := tk) fun _ _ z => z, rfl, q⟩
structure CE (X : Cx) (c : Ck) (g : Gm) (W : Wd) (kk : Nat) (sc : Scope) : Prop where
  N : X.N = c.N
  nd : c.N.Nodup
  K : X.K = g.K
  sc : X.env.scope = sc
  calm : c.hot = false → X.calm = true
  room : c.hot = false → Room kk X.A
  un : X.A.units + 16 * kk + 200 < cLine
  kt : W.kt = g.kt
  blt : ∀ x ∈ bNames, X.mg x = none
  fns : c.hot = false → ∀ f fd, W.fd f = some fd → ∃ x a fdt ps, c.nf f = some x ∧ X.mg x = some (.ref a) ∧ PySem.W.keepIn X.K (.ref a) = true ∧ Binds X.K fdt ps [] ∧
    FnOk X.prog X.w X.K X.mg X.base (L2.CX X.prog X.w) kk a fdt ps (spOf g fd.io (W.call f))
  fns2 : ∀ f x, c.nf f = some x → ∃ a, g.fa f = some a ∧ X.mg x = some (.ref a)
  xis : c.hot = true → ∀ n a, g.fa (1000 + n) = some a → ∃ D, g.ca n = some D ∧ CallR X (.builtin "isinstance") (rIsE X.K D a) ∧ CallR X (.builtin "isinstance") (rIsEt X.K D a)
  xcl : ∀ j x, c.nx j = some x → ∃ (v : V) (cv : Value), ((∃ C, v = .ref C ∧ cv = .ref C ∧ X.mg x = some (.ref C)) ∨ (v = .ty "ValueError" ∧ cv = .type "ValueError" ∧ x = "ValueError" ∧ X.mg x = none)) ∧ ∀ n D, g.ca n = some D → PySem.W.kitOne X.K (.ref D) cv = some (W.sub n j)
  gls : ∀ k d, W.gl k = some d → noOwn d = true ∧ ∃ x u v, c.ng k = some x ∧ X.mg x = some u ∧ RelV v u ∧ ∀ F H, Rep g F H d v (fun _ => 0)
theorem CE.units {X : Cx} {c : Ck} {g : Gm} {W : Wd} {kk : Nat} {sc : Scope} (h : CE X c g W kk sc) : X.A.units + 65 < cLine := by have := h.un; omega
theorem PE.weak {X : Cx} {e : Expr} {t t' : TE} (h : PE X e t) (k : ∀ σ H Q, t' σ H Q → t σ H Q) : PE X e t' := ⟨fun pins s σ H Q I q => h.run pins s σ H Q I (k σ H Q q)⟩
theorem PT.weak {X : Cx} {e : Expr} {t t' : TT} (h : PT X e t) (k : ∀ σ H Q, t' σ H Q → t σ H Q) : PT X e t' := ⟨fun pins s σ H Q I q => h.run pins s σ H Q I (k σ H Q q)⟩
theorem PW.weak {X : Cx} {e : Expr} {t t' : TT} (h : PW X e t) (k : ∀ σ H Q, t' σ H Q → t σ H Q) : PW X e t' := ⟨fun w pins s σ H Q I q => h.run w pins s σ H Q I (k σ H Q q)⟩
theorem PA.weak {X : Cx} {e : List Expr} {t t' : TA} (h : PA X e t) (k : ∀ σ H Q, t' σ H Q → t σ H Q) : PA X e t' := ⟨fun p pins s σ H Q I q => h.run p pins s σ H Q I (k σ H Q q)⟩

theorem vis_ok {sc : Scope} {x : Str} (h : vis sc x = true) : Vis sc x := by
  unfold vis at h
  simp only [Bool.or_eq_true, decide_eq_true_eq] at h
  rcases h with (h | h) | h
  · exact .inl h
  · exact .inr (.inl h)
  · exact .inr (.inr h)
theorem gl_ok {X : Cx} {c : Ck} {g : Gm} {W : Wd} {kk : Nat} {sc : Scope} (h : CE X c g W kk sc) {x : Str} (k : isGl sc x = true) : Gl X x := by
  unfold isGl at k
  have := of_decide_eq_true k
  rw [← h.sc] at this
  exact this
theorem pe_slot {X : Cx} {c : Ck} {g : Gm} {W : Wd} {kk : Nat} {sc : Scope} (h : CE X c g W kk sc) {i : Nat} {x : Str} {pos : Pos} (k : (slotOk c.N i x && vis sc x && nmOk x) = true) : PE X (.Name x pos) (tVar i) := by
  simp only [Bool.and_eq_true, slotOk, nmOk, decide_eq_true_eq] at k
  exact pe_var (by rw [h.N]; exact k.1.1) (by rw [h.sc]; exact vis_ok k.1.2) k.2.1 k.2.2
end PV

/-! PVh: expressions are right. -/
namespace PV
open PySem L2

def SPe (e : E) : Prop := ∀ (X : Cx) (c : Ck) (g : Gm) (W : Wd) (kk : Nat) (sc : Scope) (Wx : WX) (ast : Expr), CE X c g W kk sc → Takes X Wx → chkE c e sc ast = true → PE X ast (tE g W Wx e)

/-- a value that is there already -/
theorem okE_known {g : Gm} {F H : Hp} {O : Ow} {σ : St} {Q : VK} {d : D} {ρ : Env} {v : V} {A : Ow} {vr : Option Nat} (h : okE g true vr F H O σ Q (d, ρ)) (st : Sta g F H ρ σ O) (r : Rep g F H d v A) (hA : ∀ x, A x ≤ O x)
    (hv : VS vr σ v := by trivial) : Q v H :=
  h v F H O A st r (st.stp.less fun x hx => by have := hA x; have hx : 0 < O x + A x := hx; show 0 < O x + 0; omega) ⟨rfl, rfl, rfl, hA⟩ hv

theorem spe_int {i : Int} : SPe (.int i) := by
  intro X c g W kk sc Wx ast hc tk h
  unfold chkE at h
  split at h <;> rename_i heq <;> first | (cases heq; done) | (cases h; done) | skip
  cases heq
  obtain rfl := of_decide_eq_true h
  exact PE.weak pe_int fun σ H Q ⟨F, ρ, O, st, q⟩ => okE_known q st rep_int fun _ => Nat.zero_le _
theorem spe_str {s : Str} : SPe (.str s) := by
  intro X c g W kk sc Wx ast hc tk h
  unfold chkE at h
  split at h <;> rename_i heq <;> first | (cases heq; done) | (cases h; done) | skip
  cases heq
  obtain rfl := of_decide_eq_true h
  exact PE.weak pe_str fun σ H Q ⟨F, ρ, O, st, q⟩ => okE_known q st rep_str fun _ => Nat.zero_le _
theorem spe_bl {b : Bool} : SPe (.bl b) := by
  intro X c g W kk sc Wx ast hc tk h
  unfold chkE at h
  split at h <;> rename_i heq <;> first | (cases heq; done) | (cases h; done) | skip
  cases heq
  obtain rfl := of_decide_eq_true h
  exact PE.weak pe_bl fun σ H Q ⟨F, ρ, O, st, q⟩ => okE_known q st rep_bl fun _ => Nat.zero_le _
theorem spe_non : SPe .non := by
  intro X c g W kk sc Wx ast hc tk h
  unfold chkE at h
  split at h <;> rename_i heq <;> first | (cases heq; done) | (cases h; done) | skip
  exact PE.weak pe_non fun σ H Q ⟨F, ρ, O, st, q⟩ => okE_known q st rep_non fun _ => Nat.zero_le _
theorem spe_no : SPe .no := by
  intro X c g W kk sc Wx ast hc tk h
  unfold chkE at h
  cases h
theorem spe_mv {i : Nat} : SPe (.mv i) := by
  intro X c g W kk sc Wx ast hc tk h
  unfold chkE at h
  split at h <;> rename_i heq <;> first | (cases heq; done) | (cases h; done) | skip
  cases heq
  exact PE.weak (pe_slot hc h) fun σ H Q ⟨F, ρ, O, st, q⟩ => q.elim
theorem spe_var {i : Nat} : SPe (.var i) := by
  intro X c g W kk sc Wx ast hc tk h
  unfold chkE at h
  split at h <;> rename_i heq <;> first | (cases heq; done) | (cases h; done) | skip
  cases heq
  refine PE.weak (pe_slot hc h) fun σ H Q ⟨F, ρ, O, st, q⟩ => ?_
  obtain ⟨d, e, q⟩ := seqO q
  obtain ⟨v, B, C, e1, r, _, qq⟩ := st.slots.take e
  exact ⟨v, e1, okE_known q st r (fun x => by rw [qq x]; omega) e1⟩
theorem spe_glob {k : Nat} : SPe (.glob k) := by
  intro X c g W kk sc Wx ast hc tk h
  unfold chkE at h
  split at h <;> rename_i heq <;> first | (cases heq; done) | (cases h; done) | skip
  cases heq
  rename_i x pos
  simp only [Bool.and_eq_true, decide_eq_true_eq, nmOk] at h
  by_cases hg : ∃ d, W.gl k = some d
  · obtain ⟨d, hd⟩ := hg
    obtain ⟨_, x', u, v, e1, e2, rv, rr⟩ := hc.gls k d hd
    rw [h.1.1] at e1
    cases e1
    refine PE.weak (pe_glob (gl_ok hc h.1.2) e2 rv h.2.1) fun σ H Q ⟨F, ρ, O, st, q⟩ => ?_
    obtain ⟨d', e, q⟩ := seqO q
    rw [hd] at e
    cases e
    exact okE_known q st (rr F H) fun _ => Nat.zero_le _
  · refine ⟨fun pins s σ H Q I q => ?_⟩
    obtain ⟨F, ρ, O, st, q⟩ := q
    obtain ⟨d', e, q⟩ := seqO q
    exact absurd ⟨_, e⟩ hg
theorem spe_fn {f : Nat} : SPe (.fn f) := by
  intro X c g W kk sc Wx ast hc tk h
  unfold chkE at h
  split at h <;> rename_i heq <;> first | (cases heq; done) | (cases h; done) | skip
  cases heq
  rename_i x pos
  simp only [Bool.and_eq_true, decide_eq_true_eq, nmOk] at h
  obtain ⟨a, e1, e2⟩ := hc.fns2 f _ h.1.1
  exact PE.weak (pe_glob (v := .ref a) (gl_ok hc h.1.2) e2 rfl h.2.1) fun σ H Q ⟨F, ρ, O, st, q⟩ => okE_known (A := fun _ => 0) q st ⟨⟨a, e1, rfl⟩, fun _ => rfl⟩ fun _ => Nat.zero_le _

/-! ### two operands -/
theorem redo_some {a b : E} {d d' : D} {ρ : Env} (h : redo a b d ρ = some d') : ((pure b = true ∨ pure a = false ∨ noOwn d = true) ∧ d' = d) ∨ (∃ i, a = .var i ∧ slot ρ i = some d') := by
  unfold redo at h
  split at h
  · rename_i hh
    cases h
    simp only [Bool.or_eq_true, Bool.not_eq_true'] at hh
    rcases hh with (hh | hh) | hh
    · exact .inl ⟨.inl hh, rfl⟩
    · exact .inl ⟨.inr (.inl hh), rfl⟩
    · exact .inl ⟨.inr (.inr hh), rfl⟩
  · cases a <;> simp only at h <;> (try cases h)
    exact .inr ⟨_, rfl, h⟩
/-- what both operands come to: the reading of the second one within the first's -/
theorem two {β : Type} {g : Gm} {W : Wd} {Wx : WX} {a b : E} {σ : St} {F H : Hp} {O : Ow} {ρ : Env} {okp : β → Prop} {f : D → D → Env → R β} (st : Sta g F H ρ σ O)
    (h : PostR g Wx okp ((ev W a ρ).bind fun p => (ev W b p.2).bind fun q => (ofO (redo a b p.1 q.2)).bind fun d => f d q.1 q.2) F H O σ) {R2 : V → V → Hp → Prop}
    (k : ∀ (d1 d2 : D) (ρ2 : Env) (v w : V) (F2 H2 : Hp) (O2 A1 A2 T : Ow), PostR g Wx okp (f d1 d2 ρ2) F H O σ → Sta g F2 H2 ρ2 σ O2 → Rep g F2 H2 d1 v A1 → Rep g F2 H2 d2 w A2 → Stp F H O F2 H2 (fun x => O2 x + T x) →
      (pure a = true → pure b = true → F2 = F ∧ H2 = H ∧ O2 = O ∧ (∀ x, A1 x ≤ O x) ∧ ∀ x, A2 x ≤ O x) → (∀ x, A1 x ≤ O2 x + T x) → R2 v w H2) :
    tE g W Wx a σ H fun v H1 => tE g W Wx b σ H1 fun w H2 => R2 v w H2 := by
  refine ⟨F, ρ, O, st, seqR (T := fun _ => 0) h st.stp fun p ep h1 => ?_⟩
  intro v F1 H1 O1 A1 st1 r1 s1 pu1 vs1
  refine ⟨F1, p.2, O1, st1, seqR h1 s1 fun q eq h2 => ?_⟩
  intro w F2 H2 O2 A2 st2 r2 s2 pu2 _
  obtain ⟨d1, e1, h3⟩ := seqO h2
  rcases redo_some e1 with ⟨hc, ed⟩ | ⟨i, ea, es⟩
  · subst ed
    cases pa : pure a with
    | true =>
      rw [pa] at pu1
      obtain ⟨eF, eH, eO, hA⟩ := pu1
      subst eF eH eO
      cases pb : pure b with
      | true =>
        rw [pb] at pu2
        obtain ⟨eF, eH, eO, hB⟩ := pu2
        subst eF eH eO
        exact k p.1 q.1 q.2 v w F2 H2 O2 A1 A2 (fun _ => 0) h3 st2 r1 r2 st2.stp (fun _ _ => ⟨rfl, rfl, rfl, hA, hB⟩) (fun x => by have := hA x; omega)
      | false =>
        have hn : noOwn p.1 = true := by
          rcases hc with hc | hc | hc
          · rw [pb] at hc; cases hc
          · rw [pa] at hc; cases hc
          · exact hc
        exact k p.1 q.1 q.2 v w F2 H2 O2 _ A2 A2 h3 st2 ((r1.fr0 s2.ff hn).eqA (r1.zero hn)) r2 s2 (fun _ z => by rw [pb] at z; cases z) (fun x => Nat.zero_le _)
    | false =>
      rw [pa] at pu1
      have fr := s2.frame r1 fun x hx => by have := pu1 x; omega
      exact k p.1 q.1 q.2 v w F2 H2 O2 A1 A2 (fun x => A2 x + A1 x) h3 st2 fr.1 r2 ((s1.trans s2.more).less fun x hx => by show 0 < O2 x + A2 x + A1 x; omega) (fun z => by rw [pa] at z; cases z) (fun x => by omega)
  · -- a slot, told behind the second operand
    subst ea
    rw [show pure (E.var i) = true from rfl] at pu1
    obtain ⟨eF, eH, eO, hA⟩ := pu1
    subst eF eH eO
    obtain ⟨v', B, C, ev', r', _, qq⟩ := st2.slots.take es
    have vs1 : σ[i]? = some (some v) := vs1
    have hvv : v' = v := by
      rw [ev'] at vs1
      exact Option.some.inj (Option.some.inj vs1)
    subst hvv
    exact k d1 q.1 q.2 v' w F2 H2 O2 B A2 A2 h3 st2 r' r2 s2 (fun _ pb => by
      rw [pb] at pu2
      obtain ⟨eF, eH, eO, hB⟩ := pu2
      subst eF eH eO
      exact ⟨rfl, rfl, rfl, fun x => by rw [qq x]; omega, hB⟩) (fun x => by rw [qq x]; omega)

theorem spe_bin {o : B2} {a b : E} (ha : SPe a) (hb : SPe b) : SPe (.bin o a b) := by
  intro X c g W kk sc Wx ast hc tk h
  unfold chkE at h
  split at h <;> rename_i heq <;> first | (cases heq; done) | (cases h; done) | skip
  cases heq
  rename_i x op y pos
  simp only [Bool.and_eq_true, decide_eq_true_eq] at h
  obtain ⟨⟨ho, h1⟩, h2⟩ := h
  subst ho
  refine PE.weak (pe_op (b2_ok hc.K o) (ha X c g W kk _ Wx x hc tk h1) (hb X c g W kk _ Wx y hc tk h2)) fun σ H Q ⟨F, ρ, O, st, q⟩ => ?_
  unfold ev at q
  refine two (f := fun d e ρ2 => (ofO (b2 o d e)).bind fun r => .ok (r, ρ2)) st q fun d1 d2 ρ2 v w F2 H2 O2 A1 A2 T h3 st2 r1 r2 s2 pp hA => ?_
  obtain ⟨r, er, h4⟩ := seqO h3
  refine ⟨F2, d1, d2, A1, A2, r, st2.same, r1, r2, er, fun v' F' H' A n rr hs => finishN h4 s2 st2 n rr fun pu => ?_⟩
  simp only [pure, Bool.and_eq_true] at pu
  obtain ⟨e1, e2, e3, _, _⟩ := pp pu.1.2 pu.2
  obtain ⟨e4, e5⟩ := hs pu.1.1
  exact ⟨e4.trans e1, e5.trans e2, e3, fun x => by rw [rr.zero (b2_scal pu.1.1 er).2 x]; exact Nat.zero_le _⟩
theorem rd_cmp {X : Cx} {c : Ck} {g : Gm} {W : Wd} {kk : Nat} {sc : Scope} {Wx : WX} {o : C2} {a b : E} (hc : CE X c g W kk sc) {σ : St} {H : Hp} {Q : VK} (q : tE g W Wx (.cmp o a b) σ H Q) : tOp (rDB g (c2 g.kt o)) (tE g W Wx a) (tE g W Wx b) σ H Q := by
  obtain ⟨F, ρ, O, st, q⟩ := q
  unfold ev at q
  rw [hc.kt] at q
  refine two (f := fun d e ρ2 => (ofO (c2 g.kt o d e)).bind fun r => .ok (D.bl r, ρ2)) st q fun d1 d2 ρ2 v w F2 H2 O2 A1 A2 T h3 st2 r1 r2 s2 pp hA => ?_
  obtain ⟨r, er, h4⟩ := seqO h3
  refine ⟨F2, d1, d2, A1, A2, r, st2.same, r1, r2, er, finishS h4 s2 st2 rep_bl fun pu => ?_⟩
  simp only [pure, Bool.and_eq_true] at pu
  obtain ⟨e1, e2, e3, _, _⟩ := pp pu.1 pu.2
  exact ⟨e1, e2, e3⟩
theorem spe_cmp {o : C2} {a b : E} (ha : SPe a) (hb : SPe b) : SPe (.cmp o a b) := by
  intro X c g W kk sc Wx ast hc tk h
  unfold chkE at h
  split at h <;> rename_i heq <;> first | (cases heq; done) | (cases h; done) | skip
  cases heq
  rename_i x op y pos
  simp only [Bool.and_eq_true, decide_eq_true_eq] at h
  obtain ⟨⟨ho, h1⟩, h2⟩ := h
  subst ho
  exact PE.weak (pe_cmpR (c2_ok hc.K hc.units o) (ha X c g W kk _ Wx x hc tk h1) (hb X c g W kk _ Wx y hc tk h2) (mark_ok (chk_ok1 h2))) fun σ H Q q => rd_cmp hc q
theorem spe_ix {a b : E} (ha : SPe a) (hb : SPe b) : SPe (.ix a b) := by
  intro X c g W kk sc Wx ast hc tk h
  unfold chkE at h
  split at h <;> rename_i heq <;> first | (cases heq; done) | (cases h; done) | skip
  cases heq
  rename_i x y pos
  simp only [Bool.and_eq_true] at h
  obtain ⟨h1, h2⟩ := h
  refine PE.weak (pe_ix (ix_ok hc.K hc.units) (ha X c g W kk _ Wx x hc tk h1) (hb X c g W kk _ Wx y hc tk h2) (plainIx_ok (chk_ok1 h2))) fun σ H Q ⟨F, ρ, O, st, q⟩ => ?_
  unfold ev at q
  rw [hc.kt] at q
  refine two (f := fun d e ρ2 => (ofO (ixS g.kt d e)).bind fun r => if ((pure a && pure b) || noOwn r) = true then .ok (r, ρ2) else .bad) st q fun d1 d2 ρ2 v w F2 H2 O2 A1 A2 T h3 st2 r1 r2 s2 pp hA => ?_
  obtain ⟨r, er, h4⟩ := seqO h3
  obtain ⟨hn, h5⟩ := postIf h4
  refine ⟨F2, d1, d2, A1, A2, r, st2.same, r1, r2, er, fun v' A rr hAA => finish0 h5 s2 st2 rr (fun x => Nat.le_trans (hAA x) (hA x)) (fun pu => ?_) (fun pu x => ?_)⟩
  · simp only [pure, Bool.and_eq_true] at pu
    obtain ⟨e1, e2, e3, e4, _⟩ := pp pu.1 pu.2
    exact ⟨e1, e2, e3, fun x => Nat.le_trans (hAA x) (e4 x)⟩
  · have pu : (pure a && pure b) = false := pu
    rw [pu, Bool.false_or] at hn
    rw [rr.zero hn x]
    exact st2.one x
theorem pu_mono {a b c : E} {F H F1 H1 F2 H2 : Hp} {O O1 O2 A1 A2 : Ow} (p1 : Pu (pure a) F H O F1 H1 O1 A1) (p2 : Pu (pure b) F1 H1 O1 F2 H2 O2 A2) : pure a = true → pure b = true → F2 = F ∧ H2 = H ∧ O2 = O := fun h1 h2 => by
  rw [h1] at p1
  rw [h2] at p2
  exact ⟨p2.1.trans p1.1, p2.2.1.trans p1.2.1, p2.2.2.1.trans p1.2.2.1⟩
theorem rd_chain {X : Cx} {c : Ck} {g : Gm} {W : Wd} {kk : Nat} {sc : Scope} {Wx : WX} {o o2 : C2} {a b d : E} (hc : CE X c g W kk sc) {σ : St} {H : Hp} {Q : VK} (q : tE g W Wx (.chain o o2 a b d) σ H Q) :
    tChain (rDB g (c2 g.kt o)) (rDB g (c2 g.kt o2)) (tE g W Wx a) (tE g W Wx b) (tE g W Wx d) σ H Q := by
  obtain ⟨F, ρ, O, st, q⟩ := q
  unfold ev at q
  rw [hc.kt] at q
  refine ⟨F, ρ, O, st, seqR (T := fun _ => 0) q st.stp fun p ep q1 => ?_⟩
  intro v F1 H1 O1 A1 st1 r1 s1 pu1 _
  refine ⟨F1, p.2, O1, st1, seqR q1 s1 fun p2 ep2 q2 => ?_⟩
  intro w F2 H2 O2 A2 st2 r2 s2 pu2 _
  obtain ⟨hs, q3⟩ := postIf q2
  simp only [Bool.and_eq_true] at hs
  have z1 : noOwn p.1 = true := by cases e : p.1 <;> rw [e] at hs <;> simp_all [isScal, noOwn]
  have z2 : noOwn p2.1 = true := by cases e : p2.1 <;> rw [e] at hs <;> simp_all [isScal, noOwn]
  have r1 := r1.fr0 (H' := H2) s2.ff z1
  obtain ⟨r, er, q4⟩ := seqO q3
  have s3 := ((s1.trans s2.more).less (O2 := fun x => O2 x + 0) fun x hx => by have hx : 0 < O2 x + 0 := hx; show 0 < O2 x + A2 x + A1 x; omega)
  refine ⟨F2, p.1, p2.1, A1, A2, r, st2.same, r1, r2, er, r, rfl, ?_⟩
  cases r with
  | false =>
    rw [if_neg Bool.false_ne_true]
    exact finishS q4 s3 st2 rep_bl fun pu => by
      simp only [pure, Bool.and_eq_true] at pu
      exact pu_mono (c := a) pu1 pu2 pu.1.1 pu.1.2
  | true =>
    rw [if_pos rfl]
    refine ⟨F2, p2.2, O2, st2, seqR q4 s3 fun p3 ep3 q5 => ?_⟩
    intro w3 F3 H3 O3 A3 st3 r3 s4 pu3 _
    obtain ⟨r', er', q6⟩ := seqO q5
    have r2 := r2.fr0 (H' := H3) s4.ff z2
    have s5 := ((s3.trans s4.more).less (O2 := fun x => O3 x + 0) fun x hx => by have hx : 0 < O3 x + 0 := hx; show 0 < O3 x + A3 x + 0; omega)
    refine ⟨F3, p2.1, p3.1, A2, A3, r', st3.same, r2, r3, er', finishS q6 s5 st3 rep_bl fun pu => ?_⟩
    simp only [pure, Bool.and_eq_true] at pu
    obtain ⟨e1, e2, e3⟩ := pu_mono (c := a) pu1 pu2 pu.1.1 pu.1.2
    rw [pu.2] at pu3
    exact ⟨pu3.1.trans e1, pu3.2.1.trans e2, pu3.2.2.1.trans e3⟩
theorem spe_chain {o o2 : C2} {a b d : E} (ha : SPe a) (hb : SPe b) (hd : SPe d) : SPe (.chain o o2 a b d) := by
  intro X c g W kk sc Wx ast hc tk h
  unfold chkE at h
  split at h <;> rename_i heq <;> first | (cases heq; done) | (cases h; done) | skip
  cases heq
  rename_i x op oq y z pos
  simp only [Bool.and_eq_true, decide_eq_true_eq] at h
  obtain ⟨⟨⟨⟨ho, ho2⟩, h1⟩, h2⟩, h3⟩ := h
  subst ho ho2
  exact PE.weak (pe_chain (c2_ok hc.K hc.units o) (c2_ok hc.K hc.units o2) (ha X c g W kk _ Wx x hc tk h1) (hb X c g W kk _ Wx y hc tk h2) (hd X c g W kk _ Wx z hc tk h3) (by
    show behindInMarks _ z = false
    exact mark_ok (chk_ok1 h3))) fun σ H Q q => rd_chain hc q
end PV

/-! PVi: tests, and, or, not, built-in calls, slices. -/
namespace PV
open PySem L2

def SPt (e : E) : Prop := ∀ (X : Cx) (c : Ck) (g : Gm) (W : Wd) (kk : Nat) (sc : Scope) (Wx : WX) (ast : Expr), CE X c g W kk sc → Takes X Wx → chkE c e sc ast = true → tOk e = true → PT X ast (tT g W Wx e)
def isBo : Expr → Bool
  | .BoolOp _ _ _ => true | _ => false
def SPw (e : E) : Prop := ∀ (X : Cx) (c : Ck) (g : Gm) (W : Wd) (kk : Nat) (sc : Scope) (Wx : WX) (ast : Expr), CE X c g W kk sc → Takes X Wx → chkE c e sc ast = true → tOk e = true → isBo ast = true → PW X ast (tT g W Wx e)
def plainT : Expr → Bool
  | .UnaryOp .Not _ _ => false | .BoolOp _ _ _ => false | .IfExp _ _ _ _ => false | .Compare _ _ _ _ => false | _ => true

section
variable {g : Gm} {W : Wd} {Wx : WX} {F H : Hp} {O : Ow} {σ : St}
theorem asBl_some {p : D × Env} {β : Type} {f : Bool × Env → R β} {okp : β → Prop} (h : PostR g Wx okp ((asBl p).bind f) F H O σ) : ∃ b, p.1 = .bl b ∧ PostR g Wx okp (f (b, p.2)) F H O σ := by
  obtain ⟨d, ρ⟩ := p
  cases d <;> first
    | exact h.elim
    | exact ⟨_, rfl, h⟩
theorem asBl_some0 {p : D × Env} {okp : Bool × Env → Prop} (h : PostR g Wx okp (asBl p) F H O σ) : ∃ b, p.1 = .bl b ∧ okp (b, p.2) := by
  obtain ⟨d, ρ⟩ := p
  cases d <;> first
    | exact h.elim
    | exact ⟨_, rfl, h⟩
theorem Stp.drop {F H F' H' : Hp} {O O' A : Ow} (s : Stp F H O F' H' (fun x => O' x + A x)) : Stp F H O F' H' O' := s.less fun x hx => by show 0 < O' x + A x; omega
theorem tT_tE {e : E} {Q : Bool → Hp → Prop} (q : tT g W Wx e σ H Q) : tE g W Wx e σ H fun x H' => ∃ k, x = .bl k ∧ Q k H' := by
  obtain ⟨F, ρ, O, st, q⟩ := q
  refine ⟨F, ρ, O, st, seqR (T := fun _ => 0) q st.stp fun p ep q1 => ?_⟩
  intro v F1 H1 O1 A1 st1 r1 s1 pu1 _
  obtain ⟨b, eb, q2⟩ := asBl_some0 q1
  rw [eb] at r1
  refine ⟨b, r1.1, q2 F1 H1 O1 st1 s1.drop fun pu => ?_⟩
  rw [pu] at pu1
  exact ⟨pu1.1, pu1.2.1, pu1.2.2.1⟩
end
theorem isTrue_plainT {e : Expr} (h : plainT e = true) (env : PySem.Env) (w : Sem Value) : isTrue e env w = (do let v ← w; standAt e.pos; holding [v] (truthy v)) := by
  cases e <;> first
    | rfl
    | (simp [plainT] at h; done)
    | (rename_i op _ _; cases op <;> first | rfl | (simp [plainT] at h; done))
theorem spt_gen {e : E} (he : SPe e) (hp : ∀ c sc ast, chkE c e sc ast = true → plainT ast = true) : SPt e := by
  intro X c g W kk sc Wx ast hc tk h _
  exact PT.weak (pt_val (he X c g W kk sc Wx ast hc tk h) fun w => isTrue_plainT (hp c sc ast h) X.env w) fun σ H Q q => tT_tE q
theorem spw_none {e : E} (hp : ∀ c sc ast, chkE c e sc ast = true → isBo ast = false) : SPw e := by
  intro X c g W kk sc Wx ast hc tk h _ hb
  rw [hp c sc ast h] at hb
  cases hb

theorem spt_cmp {o : C2} {a b : E} (ha : SPe a) (hb : SPe b) : SPt (.cmp o a b) := by
  intro X c g W kk sc Wx ast hc tk h _
  unfold chkE at h
  split at h <;> rename_i heq <;> first | (cases heq; done) | (cases h; done) | skip
  cases heq
  rename_i x op y pos
  simp only [Bool.and_eq_true, decide_eq_true_eq] at h
  obtain ⟨⟨ho, h1⟩, h2⟩ := h
  subst ho
  exact PT.weak (pt_cmpR (c2_ok hc.K hc.units o) (ha X c g W kk _ Wx x hc tk h1) (hb X c g W kk _ Wx y hc tk h2) (mark_ok (chk_ok1 h2))) fun σ H Q q => rd_cmp hc (tT_tE q)
theorem spt_chain {o o2 : C2} {a b d : E} (ha : SPe a) (hb : SPe b) (hd : SPe d) : SPt (.chain o o2 a b d) := by
  intro X c g W kk sc Wx ast hc tk h _
  unfold chkE at h
  split at h <;> rename_i heq <;> first | (cases heq; done) | (cases h; done) | skip
  cases heq
  rename_i x op oq y z pos
  simp only [Bool.and_eq_true, decide_eq_true_eq] at h
  obtain ⟨⟨⟨⟨ho, ho2⟩, h1⟩, h2⟩, h3⟩ := h
  subst ho ho2
  exact PT.weak (pt_chain (c2_ok hc.K hc.units o) (c2_ok hc.K hc.units o2) (ha X c g W kk _ Wx x hc tk h1) (hb X c g W kk _ Wx y hc tk h2) (hd X c g W kk _ Wx z hc tk h3) (by
    show behindInMarks _ z = false
    exact mark_ok (chk_ok1 h3))) fun σ H Q q => rd_chain hc (tT_tE q)

/-! ### is None -/
theorem rep_isNon {g : Gm} {F H : Hp} {d : D} {v : V} {A : Ow} (r : Rep g F H d v A) : decide (v = .non) = isNonD d := by
  cases d with
  | non => rw [r.1]; rfl
  | bl _ => rw [r.1]; rfl
  | int _ => rw [r.1]; rfl
  | str _ => rw [r.1]; rfl
  | fn _ => obtain ⟨⟨a, _, e⟩, _⟩ := r; rw [e]; rfl
  | tup _ => obtain ⟨a, vs, e, _⟩ := r; rw [e]; rfl
  | lst o _ => cases o with
    | true => obtain ⟨a, vs, B, e, _⟩ := r; rw [e]; rfl
    | false => obtain ⟨_, a, vs, e, _⟩ := r; rw [e]; rfl
  | dct o k _ _ => cases k with
    | true => obtain ⟨a, vs, e, _⟩ := r; rw [e]; rfl
    | false => obtain ⟨a, vs, e, _⟩ := r; rw [e]; rfl
  | ins _ _ _ => obtain ⟨a, _, _, _, _, e, _⟩ := r; rw [e]; rfl
  | scr _ => obtain ⟨⟨a, e, _⟩, _⟩ := r; rw [e]; rfl
theorem rd_isn {g : Gm} {W : Wd} {Wx : WX} {n : Bool} {a : E} {σ : St} {H : Hp} {Q : VK} (q : tE g W Wx (.isn n a) σ H Q) : tE g W Wx a σ H fun x H1 => Q (.bl (n != decide (x = .non))) H1 := by
  obtain ⟨F, ρ, O, st, q⟩ := q
  unfold ev at q
  refine ⟨F, ρ, O, st, seqR (T := fun _ => 0) q st.stp fun p ep q1 => ?_⟩
  intro v F1 H1 O1 A1 st1 r1 s1 pu1 _
  rw [rep_isNon r1]
  refine finishS q1 s1 st1 rep_bl fun pu => ?_
  have pu : pure a = true := pu
  rw [pu] at pu1
  exact ⟨pu1.1, pu1.2.1, pu1.2.2.1⟩
theorem pc_isn {X : Cx} {n : Bool} {a : Expr} {j : Nat} {p' : Pos} {ta : TE} (ha : PE X a ta) : PC X (if n then .IsNot else .Is) a (.Constant .none j p') (fun σ H Q => ta σ H fun x H1 => Q (.bl (n != decide (x = .non))) H1) := by
  cases n with
  | true =>
    have k := pc_notN (j := j) (pos' := p') ha
    exact ⟨fun pins s σ H Q I h => k.run pins s σ H Q I (by
      show ta σ H fun x H1 => Q (.bl (!decide (x = .non))) H1
      simpa using h)⟩
  | false =>
    have k := pc_isN (j := j) (pos' := p') ha
    exact ⟨fun pins s σ H Q I h => k.run pins s σ H Q I (by
      show ta σ H fun x H1 => Q (.bl (decide (x = .non))) H1
      simpa using h)⟩
theorem mark_const {op : CmpOp} {c : Const} {j : Nat} {p : Pos} : behindInMarks op (.Constant c j p) = false := rfl
theorem spe_isn {n : Bool} {a : E} (ha : SPe a) : SPe (.isn n a) := by
  intro X c g W kk sc Wx ast hc tk h
  unfold chkE at h
  split at h <;> rename_i heq <;> first | (cases heq; done) | (cases h; done) | skip
  cases heq
  simp only [Bool.and_eq_true, decide_eq_true_eq] at h
  obtain ⟨ho, h1⟩ := h
  subst ho
  exact PE.weak (pe_cmp (pc_isn (ha X c g W kk _ Wx _ hc tk h1)) mark_const) fun σ H Q q => rd_isn q
theorem spt_isn {n : Bool} {a : E} (ha : SPe a) : SPt (.isn n a) := by
  intro X c g W kk sc Wx ast hc tk h _
  unfold chkE at h
  split at h <;> rename_i heq <;> first | (cases heq; done) | (cases h; done) | skip
  cases heq
  simp only [Bool.and_eq_true, decide_eq_true_eq] at h
  obtain ⟨ho, h1⟩ := h
  subst ho
  exact PT.weak (pt_cmp (pc_isn (ha X c g W kk _ Wx _ hc tk h1)) mark_const) fun σ H Q q => rd_isn (tT_tE q)

/-! ### -x, not, and, or -/
theorem spe_neg {a : E} (ha : SPe a) : SPe (.neg a) := by
  intro X c g W kk sc Wx ast hc tk h
  unfold chkE at h
  split at h <;> rename_i heq <;> first | (cases heq; done) | (cases h; done) | skip
  cases heq
  refine PE.weak (pe_un un_neg (ha X c g W kk _ Wx _ hc tk h)) fun σ H Q ⟨F, ρ, O, st, q⟩ => ?_
  unfold ev at q
  refine ⟨F, ρ, O, st, seqR (T := fun _ => 0) q st.stp fun p ep q1 => ?_⟩
  intro v F1 H1 O1 A1 st1 r1 s1 pu1 _
  cases e : p.1 <;> rw [e] at q1 r1 <;> (try exact q1.elim)
  refine ⟨_, r1.1, finishS q1 s1 st1 rep_int fun pu => ?_⟩
  have pu : pure a = true := pu
  rw [pu] at pu1
  exact ⟨pu1.1, pu1.2.1, pu1.2.2.1⟩
theorem spe_not {a : E} (ha : SPe a) : SPe (.not a) := by
  intro X c g W kk sc Wx ast hc tk h
  unfold chkE at h
  split at h <;> rename_i heq <;> first | (cases heq; done) | (cases h; done) | skip
  cases heq
  refine PE.weak (pe_not (ha X c g W kk _ Wx _ hc tk h)) fun σ H Q ⟨F, ρ, O, st, q⟩ => ?_
  unfold ev at q
  refine ⟨F, ρ, O, st, seqR (T := fun _ => 0) q st.stp fun p ep q1 => ?_⟩
  intro v F1 H1 O1 A1 st1 r1 s1 pu1 _
  obtain ⟨b, eb, q2⟩ := asBl_some q1
  rw [eb] at r1
  refine ⟨b, r1.1, finishS q2 s1 st1 rep_bl fun pu => ?_⟩
  have pu : pure a = true := pu
  rw [pu] at pu1
  exact ⟨pu1.1, pu1.2.1, pu1.2.2.1⟩
/-- a test's reading out of a longer one's -/
theorem rd_test {g : Gm} {W : Wd} {Wx : WX} {a : E} {σ : St} {F H : Hp} {O : Ow} {ρ : Env} {β : Type} {okp : β → Prop} {f : Bool × Env → R β} (st : Sta g F H ρ σ O) (q : PostR g Wx okp ((ev W a ρ).bind fun p => (asBl p).bind f) F H O σ) {Q : Bool → Hp → Prop}
    (k : ∀ b ρ1 F1 H1 O1, PostR g Wx okp (f (b, ρ1)) F H O σ → Sta g F1 H1 ρ1 σ O1 → Stp F H O F1 H1 O1 → (pure a = true → F1 = F ∧ H1 = H ∧ O1 = O) → Q b H1) : tT g W Wx a σ H Q := by
  have q' : PostR g Wx okp (((ev W a ρ).bind asBl).bind f) F H O σ := by
    cases e : ev W a ρ <;> rw [e] at q <;> exact q
  exact ⟨F, ρ, O, st, seqR (T := fun _ => 0) q' st.stp fun p ep q1 F1 H1 O1 st1 s1 pu1 => k p.1 p.2 F1 H1 O1 q1 st1 s1 pu1⟩
theorem rd_val {g : Gm} {W : Wd} {Wx : WX} {a : E} {σ : St} {F H F1 H1 : Hp} {O O1 : Ow} {ρ1 : Env} {β : Type} {okp : β → Prop} {f : Bool × Env → R β} (st : Sta g F1 H1 ρ1 σ O1) (s0 : Stp F H O F1 H1 O1) (q : PostR g Wx okp ((ev W a ρ1).bind fun p => (asBl p).bind f) F H O σ) {Q : Bool → Hp → Prop}
    (k : ∀ b ρ2 F2 H2 O2, PostR g Wx okp (f (b, ρ2)) F H O σ → Sta g F2 H2 ρ2 σ O2 → Stp F H O F2 H2 O2 → (pure a = true → F2 = F1 ∧ H2 = H1 ∧ O2 = O1) → Q b H2) : tT g W Wx a σ H1 Q := by
  have q' : PostR g Wx okp (((ev W a ρ1).bind asBl).bind f) F H O σ := by
    cases e : ev W a ρ1 <;> rw [e] at q <;> exact q
  exact ⟨F1, ρ1, O1, st, seqR (T := fun _ => 0) q' (s0.less fun x hx => by have hx : 0 < O1 x + 0 := hx; omega) fun p ep q1 F2 H2 O2 st2 s2 pu2 => k p.1 p.2 F2 H2 O2 q1 st2 (s0.trans s2) pu2⟩
theorem stp0 {F H F' H' : Hp} {O O' : Ow} (s : Stp F H O F' H' O') : Stp F H O F' H' (fun x => O' x + 0) := s.less fun x hx => by have hx : 0 < O' x + 0 := hx; omega
theorem rd_andV {g : Gm} {W : Wd} {Wx : WX} {a b : E} {σ : St} {H : Hp} {Q : VK} (q : tE g W Wx (.and a b) σ H Q) : tAndV (tE g W Wx a) (tE g W Wx b) σ H Q := by
  obtain ⟨F, ρ, O, st, q⟩ := q
  unfold ev at q
  refine tT_tE (rd_test st q fun b1 ρ1 F1 H1 O1 q1 st1 s1 pu1 => ?_)
  cases b1 with
  | true =>
    rw [if_pos rfl]
    have := tT_tE (rd_val (a := b) (Q := fun k H2 => Q (.bl k) H2) st1 s1 q1 fun b2 ρ2 F2 H2 O2 q2 st2 s2 pu2 => finishS q2 (stp0 s2) st2 rep_bl fun pu => by
      simp only [pure, Bool.and_eq_true] at pu
      obtain ⟨e1, e2, e3⟩ := pu1 pu.1
      obtain ⟨e4, e5, e6⟩ := pu2 pu.2
      exact ⟨e4.trans e1, e5.trans e2, e6.trans e3⟩)
    obtain ⟨F', ρ', O', st', q'⟩ := this
    refine ⟨F', ρ', O', st', ?_⟩
    cases e : ev W b ρ' with
    | ok p =>
      rw [e] at q'
      intro v F2 H2 O2 A2 h1 h2 h3 h4 h5
      obtain ⟨k, ek, q2⟩ := q' v F2 H2 O2 A2 h1 h2 h3 h4 h5
      rw [ek]; exact q2
    | ex c ρ2 => rw [e] at q'; exact q'
    | bad => rw [e] at q'; exact q'
  | false =>
    rw [if_neg Bool.false_ne_true]
    exact finishS q1 (stp0 s1) st1 rep_bl fun pu => by
      simp only [pure, Bool.and_eq_true] at pu
      exact pu1 pu.1
end PV

/-! PVj: and, or, built-in calls, slices. -/
namespace PV
open PySem L2

theorem rd_valE {g : Gm} {W : Wd} {Wx : WX} {b : E} {σ : St} {F H F1 H1 : Hp} {O O1 : Ow} {ρ1 : Env} {Q : VK} {pu : Bool} (st : Sta g F1 H1 ρ1 σ O1) (s0 : Stp F H O F1 H1 O1)
    (q : PostR g Wx (okE g pu none F H O σ Q) ((ev W b ρ1).bind fun p => (asBl p).bind fun q => .ok (.bl q.1, q.2)) F H O σ) (hp : pu = true → pure b = true ∧ F1 = F ∧ H1 = H ∧ O1 = O) : tE g W Wx b σ H1 Q := by
  have := tT_tE (rd_val (a := b) (Q := fun k H2 => Q (.bl k) H2) st s0 q fun b2 ρ2 F2 H2 O2 q2 st2 s2 pu2 => finishS q2 (stp0 s2) st2 rep_bl fun z => by
      obtain ⟨h1, e1, e2, e3⟩ := hp z
      obtain ⟨e4, e5, e6⟩ := pu2 h1
      exact ⟨e4.trans e1, e5.trans e2, e6.trans e3⟩)
  obtain ⟨F', ρ', O', st', q'⟩ := this
  refine ⟨F', ρ', O', st', ?_⟩
  cases e : ev W b ρ' with
  | ok p =>
    rw [e] at q'
    intro v F2 H2 O2 A2 h1 h2 h3 h4 h5
    obtain ⟨k, ek, q2⟩ := q' v F2 H2 O2 A2 h1 h2 h3 h4 h5
    rw [ek]; exact q2
  | ex c ρ2 => rw [e] at q'; exact q'
  | bad => rw [e] at q'; exact q'
theorem rd_orV {g : Gm} {W : Wd} {Wx : WX} {a b : E} {σ : St} {H : Hp} {Q : VK} (q : tE g W Wx (.or a b) σ H Q) : tOrV (tE g W Wx a) (tE g W Wx b) σ H Q := by
  obtain ⟨F, ρ, O, st, q⟩ := q
  unfold ev at q
  refine tT_tE (rd_test st q fun b1 ρ1 F1 H1 O1 q1 st1 s1 pu1 => ?_)
  cases b1 with
  | false =>
    rw [if_neg Bool.false_ne_true]
    exact rd_valE st1 s1 q1 fun pu => by
      have pu : (pure a && pure b) = true := pu
      simp only [Bool.and_eq_true] at pu
      obtain ⟨e1, e2, e3⟩ := pu1 pu.1
      exact ⟨pu.2, e1, e2, e3⟩
  | true =>
    rw [if_pos rfl]
    exact finishS q1 (stp0 s1) st1 rep_bl fun pu => by
      simp only [pure, Bool.and_eq_true] at pu
      exact pu1 pu.1
theorem rd_andT {g : Gm} {W : Wd} {Wx : WX} {a b : E} {σ : St} {H : Hp} {Q : Bool → Hp → Prop} (q : tT g W Wx (.and a b) σ H Q) : tAnd (tT g W Wx a) (tT g W Wx b) σ H Q := by
  obtain ⟨F, ρ, O, st, q⟩ := q
  have q' : PostR g Wx (okT g (pure a && pure b) F H O σ Q) ((ev W a ρ).bind fun p => (asBl p).bind fun z => match z.1 with
    | true => (ev W b z.2).bind fun p => (asBl p).bind fun q => .ok (q.1, q.2)
    | false => .ok (false, z.2)) F H O σ := by
    unfold ev at q
    cases e : ev W a ρ with
    | ok p =>
      rw [e] at q
      obtain ⟨d, ρ1⟩ := p
      cases d <;> (try exact q)
      rename_i k
      cases k with
      | false => exact q
      | true =>
        show PostR g Wx _ ((ev W b ρ1).bind fun p => (asBl p).bind fun q => .ok (q.1, q.2)) F H O σ
        have q : PostR g Wx (okT g (pure (E.and a b)) F H O σ Q) (((ev W b ρ1).bind fun p => (asBl p).bind fun q => .ok (.bl q.1, q.2)).bind asBl) F H O σ := q
        cases e2 : ev W b ρ1 with
        | ok p2 =>
          rw [e2] at q
          obtain ⟨d2, ρ2⟩ := p2
          cases d2 <;> exact q
        | ex c ρ2 => rw [e2] at q; exact q
        | bad => rw [e2] at q; exact q
    | ex c ρ2 => rw [e] at q; exact q
    | bad => rw [e] at q; exact q
  refine rd_test st q' fun b1 ρ1 F1 H1 O1 q1 st1 s1 pu1 => ?_
  cases b1 with
  | true =>
    rw [if_pos rfl]
    exact rd_val st1 s1 q1 fun b2 ρ2 F2 H2 O2 q2 st2 s2 pu2 => q2 F2 H2 O2 st2 s2 fun pu => by
      simp only [Bool.and_eq_true] at pu
      obtain ⟨e1, e2, e3⟩ := pu1 pu.1
      obtain ⟨e4, e5, e6⟩ := pu2 pu.2
      exact ⟨e4.trans e1, e5.trans e2, e6.trans e3⟩
  | false =>
    rw [if_neg Bool.false_ne_true]
    exact q1 F1 H1 O1 st1 s1 fun pu => by
      simp only [Bool.and_eq_true] at pu
      exact pu1 pu.1
theorem rd_orT {g : Gm} {W : Wd} {Wx : WX} {a b : E} {σ : St} {H : Hp} {Q : Bool → Hp → Prop} (q : tT g W Wx (.or a b) σ H Q) : tOr (tT g W Wx a) (tT g W Wx b) σ H Q := by
  obtain ⟨F, ρ, O, st, q⟩ := q
  have q' : PostR g Wx (okT g (pure a && pure b) F H O σ Q) ((ev W a ρ).bind fun p => (asBl p).bind fun z => match z.1 with
    | true => .ok (true, z.2)
    | false => (ev W b z.2).bind fun p => (asBl p).bind fun q => .ok (q.1, q.2)) F H O σ := by
    unfold ev at q
    cases e : ev W a ρ with
    | ok p =>
      rw [e] at q
      obtain ⟨d, ρ1⟩ := p
      cases d <;> (try exact q)
      rename_i k
      cases k with
      | true => exact q
      | false =>
        show PostR g Wx _ ((ev W b ρ1).bind fun p => (asBl p).bind fun q => .ok (q.1, q.2)) F H O σ
        have q : PostR g Wx (okT g (pure (E.or a b)) F H O σ Q) (((ev W b ρ1).bind fun p => (asBl p).bind fun q => .ok (.bl q.1, q.2)).bind asBl) F H O σ := q
        cases e2 : ev W b ρ1 with
        | ok p2 =>
          rw [e2] at q
          obtain ⟨d2, ρ2⟩ := p2
          cases d2 <;> exact q
        | ex c ρ2 => rw [e2] at q; exact q
        | bad => rw [e2] at q; exact q
    | ex c ρ2 => rw [e] at q; exact q
    | bad => rw [e] at q; exact q
  refine rd_test st q' fun b1 ρ1 F1 H1 O1 q1 st1 s1 pu1 => ?_
  cases b1 with
  | false =>
    rw [if_neg Bool.false_ne_true]
    exact rd_val st1 s1 q1 fun b2 ρ2 F2 H2 O2 q2 st2 s2 pu2 => q2 F2 H2 O2 st2 s2 fun pu => by
      simp only [Bool.and_eq_true] at pu
      obtain ⟨e1, e2, e3⟩ := pu1 pu.1
      obtain ⟨e4, e5, e6⟩ := pu2 pu.2
      exact ⟨e4.trans e1, e5.trans e2, e6.trans e3⟩
  | true =>
    rw [if_pos rfl]
    exact q1 F1 H1 O1 st1 s1 fun pu => by
      simp only [Bool.and_eq_true] at pu
      exact pu1 pu.1
theorem rd_notT {g : Gm} {W : Wd} {Wx : WX} {a : E} {σ : St} {H : Hp} {Q : Bool → Hp → Prop} (q : tT g W Wx (.not a) σ H Q) : tNot (tT g W Wx a) σ H Q := by
  obtain ⟨F, ρ, O, st, q⟩ := q
  have q' : PostR g Wx (okT g (pure a) F H O σ Q) ((ev W a ρ).bind fun p => (asBl p).bind fun z => .ok (!z.1, z.2)) F H O σ := by
    unfold ev at q
    cases e : ev W a ρ with
    | ok p =>
      rw [e] at q
      obtain ⟨d, ρ1⟩ := p
      cases d <;> exact q
    | ex c ρ2 => rw [e] at q; exact q
    | bad => rw [e] at q; exact q
  exact rd_test st q' fun b1 ρ1 F1 H1 O1 q1 st1 s1 pu1 => q1 F1 H1 O1 st1 s1 pu1
theorem spe_and {a b : E} (ha : SPe a) (hb : SPe b) : SPe (.and a b) := by
  intro X c g W kk sc Wx ast hc tk h
  unfold chkE at h
  split at h <;> rename_i heq <;> first | (cases heq; done) | (cases h; done) | skip
  cases heq
  rename_i x y r pos
  simp only [Bool.and_eq_true] at h
  cases r with
  | nil => exact PE.weak (pe_and (ha X c g W kk _ Wx x hc tk h.1) (pe_one (hb X c g W kk _ Wx y hc tk h.2))) fun σ H Q q => rd_andV q
  | cons z r => exact PE.weak (pe_and (ha X c g W kk _ Wx x hc tk h.1) (hb X c g W kk _ Wx _ hc tk h.2)) fun σ H Q q => rd_andV q
theorem spe_or {a b : E} (ha : SPe a) (hb : SPe b) : SPe (.or a b) := by
  intro X c g W kk sc Wx ast hc tk h
  unfold chkE at h
  split at h <;> rename_i heq <;> first | (cases heq; done) | (cases h; done) | skip
  cases heq
  rename_i x y r pos
  simp only [Bool.and_eq_true] at h
  cases r with
  | nil => exact PE.weak (pe_or (ha X c g W kk _ Wx x hc tk h.1) (pe_one (hb X c g W kk _ Wx y hc tk h.2))) fun σ H Q q => rd_orV q
  | cons z r => exact PE.weak (pe_or (ha X c g W kk _ Wx x hc tk h.1) (hb X c g W kk _ Wx _ hc tk h.2)) fun σ H Q q => rd_orV q
theorem pw_andE {a b : E} (ha : SPt a) (hb : SPt b) (hw : SPw b) : SPw (.and a b) := by
  intro X c g W kk sc Wx ast hc tk h ht hb0
  unfold chkE at h
  split at h <;> rename_i heq <;> first | (cases heq; done) | (cases h; done) | skip
  cases heq
  rename_i x y r pos
  simp only [tOk, Bool.and_eq_true] at h ht
  cases r with
  | nil => exact PW.weak (pw_and (ha X c g W kk _ Wx x hc tk h.1 ht.1) (pw_and1 (hb X c g W kk _ Wx y hc tk h.2 ht.2))) fun σ H Q q => rd_andT q
  | cons z r => exact PW.weak (pw_and (ha X c g W kk _ Wx x hc tk h.1 ht.1) (hw X c g W kk _ Wx _ hc tk h.2 ht.2 rfl)) fun σ H Q q => rd_andT q
theorem pw_orE {a b : E} (ha : SPt a) (hb : SPt b) (hw : SPw b) : SPw (.or a b) := by
  intro X c g W kk sc Wx ast hc tk h ht hb0
  unfold chkE at h
  split at h <;> rename_i heq <;> first | (cases heq; done) | (cases h; done) | skip
  cases heq
  rename_i x y r pos
  simp only [tOk, Bool.and_eq_true] at h ht
  cases r with
  | nil => exact PW.weak (pw_or (ha X c g W kk _ Wx x hc tk h.1 ht.1) (pw_or1 (hb X c g W kk _ Wx y hc tk h.2 ht.2))) fun σ H Q q => rd_orT q
  | cons z r => exact PW.weak (pw_or (ha X c g W kk _ Wx x hc tk h.1 ht.1) (hw X c g W kk _ Wx _ hc tk h.2 ht.2 rfl)) fun σ H Q q => rd_orT q
theorem isBo_and {c : Ck} {a b : E} {sc : Scope} {ast : Expr} (h : chkE c (.and a b) sc ast = true) : isBo ast = true := by
  cases ast <;> first | rfl | (simp [chkE] at h; done)
theorem isBo_or {c : Ck} {a b : E} {sc : Scope} {ast : Expr} (h : chkE c (.or a b) sc ast = true) : isBo ast = true := by
  cases ast <;> first | rfl | (simp [chkE] at h; done)
theorem spt_and {a b : E} (ha : SPt a) (hb : SPt b) (hw : SPw b) : SPt (.and a b) := fun X c g W kk sc Wx ast hc tk h ht => PW.pt (pw_andE ha hb hw X c g W kk sc Wx ast hc tk h ht (isBo_and h))
theorem spt_or {a b : E} (ha : SPt a) (hb : SPt b) (hw : SPw b) : SPt (.or a b) := fun X c g W kk sc Wx ast hc tk h ht => PW.pt (pw_orE ha hb hw X c g W kk sc Wx ast hc tk h ht (isBo_or h))
theorem spt_not {a : E} (ha : SPt a) : SPt (.not a) := by
  intro X c g W kk sc Wx ast hc tk h ht
  unfold chkE at h
  split at h <;> rename_i heq <;> first | (cases heq; done) | (cases h; done) | skip
  cases heq
  exact PT.weak (pt_not (ha X c g W kk _ Wx _ hc tk h (by simpa [tOk] using ht))) fun σ H Q q => rd_notT q

/-! ### a if t else b -/
theorem spe_ife {d a b : E} (hd : SPt d) (ha : SPe a) (hb : SPe b) : SPe (.ife d a b) := by
  intro X c g W kk sc Wx ast hc tk h
  unfold chkE at h
  split at h <;> rename_i heq <;> first | (cases heq; done) | (cases h; done) | skip
  cases heq
  simp only [Bool.and_eq_true] at h
  refine PE.weak (pe_ifExp (hd X c g W kk _ Wx _ hc tk h.1.1.2 h.1.1.1) (ha X c g W kk _ Wx _ hc tk h.1.2) (hb X c g W kk _ Wx _ hc tk h.2)) fun σ H Q ⟨F, ρ, O, st, q⟩ => ?_
  unfold ev at q
  refine rd_test st q fun b1 ρ1 F1 H1 O1 q1 st1 s1 pu1 => ?_
  have fin : ∀ (e : E) (ρ1 : Env) (F1 H1 : Hp) (O1 : Ow), (pure (.ife d a b) = true → pure e = true ∧ F1 = F ∧ H1 = H ∧ O1 = O) → Sta g F1 H1 ρ1 σ O1 → Stp F H O F1 H1 O1 →
      PostR g Wx (okE g (pure (.ife d a b)) none F H O σ Q) ((ev W e ρ1).bind fun p => if noOwn p.1 = true then .ok p else .bad) F H O σ → tE g W Wx e σ H1 Q := by
    intro e ρ1 F1 H1 O1 hp st1 s1 q
    refine ⟨F1, ρ1, O1, st1, seqR q (stp0 s1) fun p ep q2 => ?_⟩
    obtain ⟨hn, q3⟩ := postIf q2
    intro v F2 H2 O2 A2 st2 r2 s2 pu2 _
    refine finish0 (T := fun _ => 0) q3 (stp0 (s1.trans s2.drop)) st2 r2 (fun x => by rw [r2.zero hn x]; exact Nat.zero_le _) (fun pu => ?_) (fun _ x => by rw [r2.zero hn x]; exact st2.one x)
    obtain ⟨h1, e1, e2, e3⟩ := hp pu
    rw [h1] at pu2
    exact ⟨pu2.1.trans e1, pu2.2.1.trans e2, pu2.2.2.1.trans e3, fun x => by rw [r2.zero hn x]; exact Nat.zero_le _⟩
  cases b1 with
  | true =>
    rw [if_pos rfl]
    refine fin a ρ1 F1 H1 O1 (fun pu => ?_) st1 s1 q1
    simp only [pure, Bool.and_eq_true] at pu
    obtain ⟨e1, e2, e3⟩ := pu1 pu.1.1
    exact ⟨pu.1.2, e1, e2, e3⟩
  | false =>
    rw [if_neg Bool.false_ne_true]
    refine fin b ρ1 F1 H1 O1 (fun pu => ?_) st1 s1 q1
    simp only [pure, Bool.and_eq_true] at pu
    obtain ⟨e1, e2, e3⟩ := pu1 pu.1.1
    exact ⟨pu.2, e1, e2, e3⟩
end PV

/-! PX1: sorted(set(list of ints)). -/
namespace PV
open PySem L2 PySem.Spec PyProof.Rows
/-- a new set -/
abbrev nSet (w : World) : Obj := { cls := .type "set", dict := none, data := .set #[] 0 (.fresh 0 0 (!w.params.followText "set-order")) }
section
variable {P : Program} {w : World} {A : Around} {E : Value → Shared → Prop} {s : Shared}
/-- a list without twice, within another one -/
theorem nd_sub {α : Type} : ∀ {xs ys : List α}, xs.Nodup → (∀ x ∈ xs, x ∈ ys) → xs.length ≤ ys.length
  | [], ys, _, _ => by simp
  | x :: xs, ys, hd, h => by
    obtain ⟨h1, h2⟩ := List.nodup_cons.mp hd
    obtain ⟨a, b, rfl⟩ := List.append_of_mem (h x (by simp))
    have := nd_sub (xs := xs) (ys := a ++ b) h2 fun y hy => by
      have hm := h y (by simp [hy])
      have hne : y ≠ x := fun e => h1 (e ▸ hy)
      simp only [List.mem_append, List.mem_cons] at hm ⊢
      rcases hm with hm | rfl | hm
      · exact .inl hm
      · exact absurd rfl hne
      · exact .inr hm
    simp only [List.length_append, List.length_cons] at this ⊢
    omega
/-- how many a set has -/
theorem setR_few {w : World} {hp : Heap} {a : Addr} {S : Int → Bool} {c : Nat} {us : List Int} (R : SetR w hp a S c) (h : ∀ j, S j = true → j ∈ us) : c ≤ us.length := by
  obtain ⟨o, es, ep, tb, _, _, _, _, nd, hm, _, _, hn, _⟩ := R
  have := nd_sub nd (ys := us) fun k hk => h k ((hm k).mpr hk)
  rw [List.length_map, Array.length_toList, hn] at this
  exact this
/-- what is put to a set, one by one -/
theorem set_puts {J : Addr} {fp wr : List Addr} {G : Array GenState → Array GenState → Prop} {m : Nat} {Pv : Nat → Value → Prop} {St : Nat → Shared → Prop} {R : Result → Shared → Prop}
    (wk : WalksS P w A.in1 J fp wr G m Pv St) (a : Addr) (ha : a ∉ fp) (ns us : List Int) (hm : m = ns.length) (hu : ∀ j ∈ ns, j ∈ us) (hb : us.length + 1 < scanBound) (vals : ∀ i v, Pv i v → ∃ z t, ns[i]? = some z ∧ v = .int z t)
    (fin : ∀ t c, Moved (a :: wr) G s t → SetR w t.heap a (fun j => decide (j ∈ ns)) c → R (.ok (.ret .none)) t) (d : Nat) :
    ∀ (i : Nat) (u : Shared), m - i = d → i ≤ m → St i u → (∃ c, SetR w u.heap a (fun j => decide (j ∈ ns.take i)) c) → (∀ t, Moved (a :: wr) G u t → Moved (a :: wr) G s t) →
      codeAny (model P w) A (.builtin "set.update.loop" ⟨[.ref a, .ref J], []⟩) R u := by
  have haw : a ∉ wr := fun z => ha (wk.sub _ z)
  have inn : ∀ b ∈ wr, b ∈ a :: wr := fun b z => List.mem_cons_of_mem _ z
  induction d with
  | zero =>
    intro i u hd hi st ⟨c, rs⟩ tr
    obtain rfl : i = m := by omega
    refine codeAny_builtin F.entry_set_update_loop ?_
    rw [Around.under_plainId F.plain_set_update_loop _]
    refine wpAny_bind (m := pyNext (.ref J)) (wk.done u _ _ st fun t mv => wpAny_pure (fin t c (tr t (mv.mono inn)) ?_))
    have rs := rs.at (h' := t.heap) fun o e => mv.heap a o haw e
    rwa [List.take_of_length_le (by omega)] at rs
  | succ d ih =>
    intro i u hd hi st ⟨c, rs⟩ tr
    have lt : i < m := by omega
    refine codeAny_builtin F.entry_set_update_loop ?_
    rw [Around.under_plainId F.plain_set_update_loop _]
    refine wpAny_bind (m := pyNext (.ref J)) (wk.item i u _ _ lt st fun v t pv st2 mv => ?_)
    obtain ⟨z, tk, ez, rfl⟩ := vals i v pv
    have rs := rs.at (h' := t.heap) fun o e => mv.heap a o haw e
    have few := setR_few rs (us := us) fun j hj => hu j (List.mem_of_mem_take (of_decide_eq_true hj))
    show wpAny _ A.in1 (holding [Value.int z tk] (setAdd a (.int z tk)) >>= _) _ _ t
    refine wpAny_bind (wpAny_holding ?_)
    unfold setAdd
    refine wpAny_holding (wpAny_bind ((intKind P w).pyHash (k := z) (intKind_is _ _ _ _) ?_))
    refine setR_add_hashed (s := { t with toks := t.toks + 1 }) rs (by omega) fun hp both rs2 => ?_
    have rs3 : ∃ c2, SetR w hp a (fun j => decide (j ∈ ns.take (i + 1))) c2 := ⟨_, rs2.congr fun j => by
      rw [List.take_add_one, ez]
      simp [List.mem_append]⟩
    refine wpAny_pure ⟨plainId_quiet F.plain_set_update_loop _, ih (i + 1) _ (by omega) lt (wk.frame _ t _ _ st2 (Nat.le_succ _) fun b hbf o e => ?_) rs3 fun y my => ?_⟩
    · rw [both.2 b fun z => ha (z ▸ hbf)]; exact e
    · refine tr y (Moved.trans wk.gtrans ((mv.mono inn).then_heap (Nat.le_succ _) fun b o hbn e => ?_) my)
      rw [both.2 b fun z => hbn (by rw [z]; exact List.mem_cons_self)]; exact e
/-- what set(l) leaves -/
def Made (w : World) (ns : List Int) (s : Shared) (r : Value) (t : Shared) : Prop := r = .none ∧ ∃ hp k c, t = { s with heap := hp, toks := k } ∧ SetR w hp s.heap.objs.size (fun j => decide (j ∈ ns)) c ∧ c ≤ ns.length ∧ ∀ b o, s.heap.get? b = some o → hp.get? b = some o
set_option maxHeartbeats 8000000 in
theorem set_of_list {l : Addr} {vs : Array Value} (ns : List Int) {Q : Value → Shared → Prop} (hh : A.handled = none) (hl : s.heap.IsList l vs) (hv : IntsAre vs.toList ns) (hb : (usI ns).length + 1 < scanBound)
    (q : ∀ (hp : Heap) (k c : Nat), SetR w hp s.heap.objs.size (fun j => decide (j ∈ ns)) c → c ≤ ns.length → (∀ b o, s.heap.get? b = some o → hp.get? b = some o) → Q (.ref s.heap.objs.size) { s with heap := hp, toks := k }) :
    wpAny (model P w) A (call (.type "set") [.ref l]) Q E s := by
  have hsz : vs.size = ns.length := by have := IntsAre.length hv; simpa using this
  have k1 := F.called_set.made
  have k2 := F.called_set.sub
  have k3 := F.called_set.notType
  have k4 := F.called_set.canCreate
  have k5 := F.typeCall_set_1 (.ref l)
  obtain ⟨c0, t0, hmro⟩ := F.called_set.mro
  refine wpAny_call (codeAny_of_tree ?_)
  show wpAny _ _ (callAny (.type "set") _) _ _ _
  refine wpAny_pure ⟨Code.quiet_builtin _ (by decide +kernel), codeAny_builtin F.entry_type_call ?_⟩
  rw [Around.under_plain (weight_type_call_type "set" [.ref l] []) rfl]
  repeat (any_goals (first | assumption | wp_step))
  refine codeAny_mono (code_set_led1 (.ref l) (E := E) (Q₁ := fun x t => x = .ref s.heap.objs.size ∧ t = { s with heap := s.heap.push (nSet w) }) ⟨rfl, rfl⟩) fun r t hr => ?_
  cases r with
  | error e => exact hr
  | ok f =>
    cases f with
    | ret x =>
      obtain ⟨rfl, rfl⟩ := hr
      generalize hS0 : s.heap.push (nSet w) = h0
      have hSet : h0.get? s.heap.objs.size = some (nSet w) := by rw [← hS0]; exact Heap.get?_push_size _ rfl
      have hTy : Shared.TypeIs { s with heap := h0 } (.ref s.heap.objs.size) "set" := ⟨_, hSet, rfl⟩
      have old : ∀ b o, s.heap.get? b = some o → h0.get? b = some o := fun b o e => by rw [← hS0]; exact Heap.get?_push_of_some _ e
      have hz0 : h0.objs.size = s.heap.objs.size + 1 := by rw [← hS0]; exact Heap.size_push ..
      have j1 := F.called_set.init.lookup
      have j2 := F.called_set.init.bind (.ref s.heap.objs.size)
      repeat (any_goals (first | assumption | wp_step))
      refine codeAny_mono (codeAny_call_builtin (R := wants (Made w ns s) E) F.called_set.init.plain F.entry_set_init (check_set_init_1 hTy ?_)) fun r2 t2 hr2 => ?_
      · obtain ⟨lo, elo, clo, ln, dlo⟩ := hl
        obtain ⟨lc, ld, la, lsl⟩ := lo
        simp only at clo dlo
        subst clo dlo
        have hll : l < s.heap.objs.size := Heap.lt_size elo
        have elo0 := old _ _ elo
        have hL0 : h0.IsList l vs := ⟨_, elo0, rfl, ln, rfl⟩
        have n1 := F.sub_list_set
        have n2 := F.sub_list_frozenset
        have n3 : (Value.type "list" == Value.type "dict") = false := by decide
        unfold Builtin.«set.__init__» noKeywords Builtin.Frozenset.updateFrom
        generalize hit : pyIter = ITER
        wp_walk
        subst hit
        refine wpAny_pyIter_list hL0 ?_
        refine wpAny_bind (wpAny_runValue ?_)
        have hd3 : A.in1.in1.in1.handled = none := by simp [hh]
        have hIl : l ≠ h0.objs.size := by rw [hz0]; exact Nat.ne_of_lt (Nat.lt_succ_of_lt hll)
        have hI : s.heap.objs.size ∉ [h0.objs.size, l] := by
          rw [hz0]
          simp only [List.mem_cons, List.not_mem_nil, or_false, not_or]
          exact ⟨Nat.ne_of_lt (Nat.lt_succ_self _), Nat.ne_of_gt hll⟩
        have vals : ∀ (i : Nat) (v : Value), vs[i]? = some v → ∃ z t, ns[i]? = some z ∧ v = .int z t := fun i v e => by
          have hi : i < ns.length := by rw [← hsz]; exact (Array.getElem?_eq_some_iff.mp e).1
          obtain ⟨t, et⟩ := IntsAre.int_at hv i v (by rw [Array.getElem?_toList]; exact e)
          rw [List.getD_eq_getElem?_getD, List.getElem?_eq_getElem hi] at et
          exact ⟨ns[i], t, List.getElem?_eq_getElem hi, et⟩
        refine set_puts (s := { s with heap := h0.push _ }) ((Walks.list hd3 _ l hIl vs).toS) s.heap.objs.size hI ns (usI ns) hsz (fun j hj => mem_usI.mpr hj) hb vals (fun t c hm hS => ?last) (vs.size - 0) 0 _ (by omega) (Nat.zero_le _) ⟨⟨_, Heap.get?_push_size _ rfl, rfl, rfl⟩, hL0.push _⟩ ?first (fun _ z => z)
        case first => exact ⟨0, setR_new_at (Heap.get?_push_of_some _ hSet)⟩
        case last =>
          have hc : c ≤ ns.length := setR_few hS fun j hj => of_decide_eq_true hj
          obtain ⟨hp, gs, dr, tk, os⟩ := t
          obtain rfl : gs = s.gens := hm.gens
          obtain rfl : dr = s.drawn := hm.drawn
          obtain rfl : os = s.os := hm.os
          show wpAny _ _ _ _ _ _
          refine wpAny_pure ?_
          show wpAny _ _ (ret Value.none) _ _ _
          refine wpAny_pure ⟨rfl, hp, tk, c, rfl, hS, hc, fun b o e => ?_⟩
          have hb0 : b < s.heap.objs.size := Heap.lt_size e
          refine hm.heap b o ?_ (Heap.get?_push_of_some _ (old b o e))
          rw [hz0]
          simp only [List.mem_cons, List.not_mem_nil, or_false, not_or]
          exact ⟨Nat.ne_of_lt hb0, Nat.ne_of_lt (Nat.lt_succ_of_lt hb0)⟩
      · cases r2 with
        | error e => exact hr2
        | ok f2 =>
          cases f2 with
          | ret r3 =>
            obtain ⟨rfl, hp, k, c, rfl, m1, m2, m3⟩ := hr2
            repeat (any_goals (first | assumption | wp_step))
            exact q hp k c m1 m2 m3
          | _ => exact hr2.elim
    | _ => exact hr.elim
/-- sorted(a set of ints) -/
theorem sort_set {a : Addr} {S : Int → Bool} {n : Nat} {Q : Value → Shared → Prop} (R : SetR w s.heap a S n) (hh : A.handled = none) (hz : n ≤ sizeLine)
    (q : ∀ (t : Shared) (p : Addr) (out : Array Value) (c : Nat) (ms : List Int), (∀ b o, s.heap.get? b = some o → t.heap.get? b = some o) → t.gens = s.gens → t.os = s.os → s.heap.objs.size ≤ p →
      t.heap.get? p = some (seqObj "list" out c) → IntsAre out.toList ms → ms.Pairwise (· < ·) → (∀ k, k ∈ ms ↔ S k = true) → ms.length = n → Q (.ref p) t) :
    wpAny (model P w) A (call (.builtin "sorted") [.ref a]) Q E s := by
  obtain ⟨so, es, ep, tb, eo, eex, ed, ek, nd, hm, hb, hf, hn, hr, hl⟩ := R
  refine Calls.call_function_entry kind_sorted plain_sorted entry_sorted (args_sorted1 _) ?_
  unfold Builtin.«sorted»
  refine wpAny_bind (m := checkCount "sorted" 1 1 _) (wpAny_pure ?_)
  refine wpAny_bind (collect_set (A := A.in1) hh ⟨so, eo, eex.1, ed⟩ hf hb hr hl fun t vs kp sz eg eos pm => ?_)
  have lv : vs.length = n := by rw [pm.length_eq, List.length_map, Array.length_toList]; exact hn
  have hI : IntsAre vs (vs.map Builtin.Re.reRawOf) := ints_of vs fun v hv => by
    obtain ⟨e, he, rfl⟩ := List.mem_map.mp (pm.mem_iff.mp hv)
    obtain ⟨k, tk, h1, _⟩ := ek e he
    exact ⟨k, tk, h1⟩
  have pk : (vs.map Builtin.Re.reRawOf).Perm (es.toList.map L2.keyOf) := by
    have := pm.map Builtin.Re.reRawOf
    rwa [List.map_map] at this
  refine wpAny_bind (wpAny_newList ?_ (by rw [lv]; exact hz))
  have hob : (t.heap.push (seqObj "list" vs.toArray 0)).get? t.heap.objs.size = some (seqObj "list" vs.toArray 0) := Heap.get?_push_size _ rfl
  refine wpAny_bind (wpAny_holding (wpAny_call_entry slot_list_sort ⟨_, hob, rfl⟩ entry_list_sort
    (SrtO.list_sort_ord SrtO.swo_int hob (by rw [lv]; exact hz) (fun h2 => SrtO.ints_sortable hI h2) fun out h1 h2 => ⟨_, rfl, ?_⟩) (args_list_sort _)))
  obtain ⟨r1, r2, r3⟩ := SrtO.ints_out hI h1 h2
  obtain ⟨c, ec⟩ := sortedHeap_at (vs := vs) (out := out.toArray) hob
  have pe := r2.trans pk
  refine wpAny_pure ⟨_, rfl, q _ t.heap.objs.size out.toArray c (out.map SrtO.iv) (fun b u e => ?_) eg eos sz ec (by simpa using r1) (lt_of_le_nodup _ r3 (pe.nodup_iff.mpr nd)) (fun k => by rw [pe.mem_iff, hm k]) ?_⟩
  · have hlt := Heap.lt_size (kp b u e)
    refine (sortedHeap_old (Nat.ne_of_lt hlt) (by rw [size_push']; exact Nat.lt_succ_of_lt hlt)).trans ?_
    exact Heap.get?_push_of_some _ (kp b u e)
  · rw [pe.length_eq, List.length_map, Array.length_toList]; exact hn
end
def tSset (K : PySem.W.Frag) (ta : TE) : TE := fun σ H Q => ta σ H fun x G => ∃ (l : Addr) (ns : List Int), x = .ref l ∧ (SqL K G l (ns.map V.int) ∨ (SqT K G l (ns.map V.int) ∧ ns.length ≤ 4000)) ∧ ((usI ns).length ≤ 4000 ∧ ns.length ≤ 100000) ∧ ∀ p, G p = none → Q (.ref p) (upd G p (.lst ((usI ns).map V.int)))
/-- sorted(set(e)) -/
theorem pe_sset {X : Cx} {e : Expr} {ta : TE} {p1 p2 p3 p4 : Pos} (hc : X.calm = true) (g1 : Gl X "sorted") (m1 : X.mg "sorted" = none) (g2 : Gl X "set") (m2 : X.mg "set" = none) (ha : PE X e ta)
    (na : starEach [e] X.env = (false, eval e X.env) :: starEach [] X.env := by rfl) : PE X (.Call (.Name "sorted" p1) [.Call (.Name "set" p2) [e] [] p3] [] p4) (tSset X.K ta) := by
  refine ⟨fun pins s σ H Q I h => ?_⟩
  refine Call_ (ld_blt I g1 m1 boot_sorted (callWith_builtin1 (args_cons ?_ rfl) rfl rfl))
  refine Call_ (ld_blt I g2 m2 boot_set (callWith_type1 (args_cons (thn (ha.run pins s σ H _ I h) fun v t ⟨x, G, J, rx, qx⟩ => args_nil ?_) na) na rfl))
  obtain ⟨l, ns, rfl, hs, hn, qx⟩ := qx
  cases rx
  have both : ∀ {R : Value → Shared → Prop}, (∀ (hp : Heap) (k c : Nat), SetR X.w hp t.heap.objs.size (fun j => decide (j ∈ ns)) c → c ≤ ns.length → (∀ b o, t.heap.get? b = some o → hp.get? b = some o) → R (.ref t.heap.objs.size) { t with heap := hp, toks := k }) →
      ∀ {A : Around} {E : Value → Shared → Prop}, A.handled = none → wpAny (model X.prog X.w) A (call (.type "set") [.ref l]) R E t := by
    intro R hR A E hA
    rcases hs with hs | ⟨hs, hn4⟩
    · obtain ⟨vs, rv, pl, _⟩ := J.list hs
      exact set_of_list ns hA pl.isList (by simpa using ints_of_vals rv) (by unfold scanBound; omega) hR
    · obtain ⟨vs, rv, pl, _⟩ := J.tuple hs
      exact call_set_tupI ns hA pl (by simpa using ints_of_vals rv) (by unfold scanBound; omega) hR
  refine both (fun hp k c hS hcn kp => ?_) (J.ok.hd hc)
  refine args_nil ?_
  have J2 : Inv X pins σ G { t with heap := hp, toks := k } := J.kept kp
  refine sort_set hS (J2.ok.hd hc) (by rw [sizeLine_eq]; omega) fun u p out c2 ms kp2 eg eo hpl hob hi up mem len => ?_
  have em : ms = usI ns := up_uniq up (up_usI ns) fun k => by rw [mem, mem_usI]; simp
  have gn : G p = none := J2.hok.fresh hpl
  have zl : (ms.map V.int).length ≤ sizeLine := by rw [List.length_map, len, sizeLine_eq]; omega
  obtain ⟨uh, ug, ud, ut, uo⟩ := u
  simp only at eg eo
  subst eg eo
  generalize hs2 : ({ heap := hp, gens := t.gens, drawn := t.drawn, toks := k, os := t.os } : Shared) = t2 at J2 kp2 hpl gn
  have z1 : t2.gens = t.gens := by rw [← hs2]
  have z2 : t2.os = t.os := by rw [← hs2]
  have J3 : Inv X pins σ (upd G p (.lst (ms.map V.int))) { t2 with heap := uh, gens := t2.gens, drawn := ud, toks := ut } :=
    J2.call (ch := []) (Un.laid kp2 hpl gn) (J2.hok.laid kp2 hpl ⟨zl, out.toList, c2, vals_of_ints hi, hob⟩) J2.bare (fun _ z => nomatch z)
  have J3 : Inv X pins σ (upd G p (.lst (ms.map V.int))) { heap := uh, gens := t2.gens, drawn := ud, toks := ut, os := t2.os } := J3
  rw [z1, z2] at J3
  rw [em] at J3
  exact ⟨.ref p, _, J3, rfl, qx p gn⟩
end PV

/-! PVk: built-in calls, slices. -/
namespace PV
open PySem L2

theorem pe_f1 {X : Cx} {c : Ck} {g : Gm} {W : Wd} {kk : Nat} {sc : Scope} (hc : CE X c g W kk sc) (f : F1) (hcool : f1cool f = false → X.calm = true) {y : Expr} {t : TE} {p pos : Pos} (hg : Gl X (f1nm f)) (hy : ok1 y = true) (h : PE X y t) :
    PE X (.Call (.Name (f1nm f) p) [y] [] pos) (fun σ H Q => t σ H fun x H1 => rD1 g (f1S f) f.scal [x] H1 Q) := by
  have k := f1_ok (X := X) (g := g) hc.K f hcool
  have hb := f1_boot f
  have hm : X.mg (f1nm f) = none := hc.blt _ (by cases f <;> simp [f1nm, bNames])
  have pa := pa_cons h pa_nil (star_ok hy)
  cases f
  case len => exact pe_callB k hg hm hb pa (by decide) (by decide) (star_ok hy) rfl
  case dict => exact pe_callTy k hg hm hb pa (by decide) (by decide) (star_ok hy) rfl
  case list => exact pe_callTy k hg hm hb pa (by decide) (by decide) (star_ok hy) rfl
  case tuple => exact pe_callTy k hg hm hb pa (by decide) (by decide) (star_ok hy) rfl
  case sorted => exact pe_callB k hg hm hb pa (by decide) (by decide) (star_ok hy) rfl
  case sum => exact pe_callB k hg hm hb pa (by decide) (by decide) (star_ok hy) rfl
  case all => exact pe_callB k hg hm hb pa (by decide) (by decide) (star_ok hy) rfl
  case any => exact pe_callB k hg hm hb pa (by decide) (by decide) (star_ok hy) rfl
  case int => exact pe_callTy k hg hm hb pa (by decide) (by decide) (star_ok hy) rfl
  case str => exact pe_callTy k hg hm hb pa (by decide) (by decide) (star_ok hy) rfl
  case abs => exact pe_callB k hg hm hb pa (by decide) (by decide) (star_ok hy) rfl
  case max => exact pe_callB k hg hm hb pa (by decide) (by decide) (star_ok hy) rfl
  case min => exact pe_callB k hg hm hb pa (by decide) (by decide) (star_ok hy) rfl
theorem f1_scal {f : F1} (h : f.scal = true) {a d : D} (e : f1S f a = some d) : noOwn d = true := by
  cases f <;> (try cases h) <;> cases a <;> simp only [f1S, Option.some.injEq, Option.map_eq_some_iff] at e <;> (try split at e) <;> (try cases e) <;> (try rfl) <;> (try (obtain ⟨_, _, e⟩ := e; subst e; rfl)) <;> (try (simp only [Option.some.injEq] at e; subst e; rfl)) <;> (try (rename_i e; obtain ⟨_, e⟩ := e; subst e; rfl))
theorem spe_f1 {f : F1} {a : E} (ha : SPe a) : SPe (.f1 f a) := by
  intro X c g W kk sc Wx ast hc tk h
  unfold chkE at h
  split at h <;> rename_i heq <;> first | (cases heq; done) | (cases h; done) | skip
  cases heq
  simp only [Bool.and_eq_true, decide_eq_true_eq] at h
  obtain ⟨⟨⟨hh, hn⟩, hg⟩, h1⟩ := h
  subst hn
  refine PE.weak (pe_f1 hc f (fun e => hc.calm (by simpa [e] using hh)) (gl_ok hc hg) (chk_ok1 h1) (ha X c g W kk _ Wx _ hc tk h1)) fun σ H Q ⟨F, ρ, O, st, q⟩ => ?_
  unfold ev at q
  refine ⟨F, ρ, O, st, seqR (T := fun _ => 0) q st.stp fun p ep q1 => ?_⟩
  intro v F1 H1 O1 A1 st1 r1 s1 pu1 _
  obtain ⟨r, er, q2⟩ := seqO q1
  refine ⟨F1, v, p.1, A1, r, rfl, st1.same, r1, er, fun v' F' H' A n rr hs => finishN q2 s1 st1 n rr fun pu => ?_⟩
  simp only [pure, Bool.and_eq_true] at pu
  rw [pu.2] at pu1
  obtain ⟨e4, e5⟩ := hs pu.1
  exact ⟨e4.trans pu1.1, e5.trans pu1.2.1, pu1.2.2.1, fun x => by rw [rr.zero (f1_scal pu.1 er) x]; exact Nat.zero_le _⟩
theorem spe_f2 {f : F2} {a b : E} (ha : SPe a) (hb : SPe b) : SPe (.f2 f a b) := by
  intro X c g W kk sc Wx ast hc tk h
  unfold chkE at h
  split at h <;> rename_i heq <;> first | (cases heq; done) | (cases h; done) | skip
  cases heq
  rename_i x p y z pos
  simp only [Bool.and_eq_true, decide_eq_true_eq] at h
  obtain ⟨⟨⟨⟨hh, hn⟩, hg⟩, h1⟩, h2⟩ := h
  have hcalm := hc.calm (by simpa using hh)
  subst hn
  have k := f2_ok (X := X) (g := g) hcalm f
  have pa := pa_cons (ha X c g W kk _ Wx _ hc tk h1) (pa_cons (hb X c g W kk _ Wx _ hc tk h2) pa_nil (star_ok (chk_ok1 h2))) (star_ok (chk_ok1 h1))
  have hg := gl_ok hc hg
  have hbt := f2_boot f
  have hm : X.mg (f2nm f) = none := hc.blt _ (by cases f <;> simp [f2nm, bNames])
  have base : PE X (.Call (.Name (f2nm f) p) [y, z] [] pos) (fun σ H Q => tE g W Wx a σ H fun x H1 => tE g W Wx b σ H1 fun y H2 => rDF2 g (f2S f) [x, y] H2 Q) := by
    cases f
    · exact pe_callB k hg hm hbt pa (by decide) (by decide) (star_ok (chk_ok1 h1)) (by rw [star_ok (chk_ok1 h2)]; rfl)
    · exact pe_callB k hg hm hbt pa (by decide) (by decide) (star_ok (chk_ok1 h1)) (by rw [star_ok (chk_ok1 h2)]; rfl)
  refine PE.weak base fun σ H Q ⟨F, ρ, O, st, q⟩ => ?_
  unfold ev at q
  refine ⟨F, ρ, O, st, seqR (T := fun _ => 0) q st.stp fun p ep q1 => ?_⟩
  intro v F1 H1 O1 A1 st1 r1 s1 pu1 _
  refine ⟨F1, p.2, O1, st1, seqR q1 s1 fun p2 ep2 q2 => ?_⟩
  intro w F2 H2 O2 A2 st2 r2 s2 pu2 _
  obtain ⟨r, er, q3⟩ := seqO q2
  have hi : ∃ i j, p.1 = .int i ∧ p2.1 = .int j := by
    cases f <;> cases e1 : p.1 <;> rw [e1] at er <;> simp only [f2S] at er <;> (try cases er) <;> cases e2 : p2.1 <;> rw [e2] at er <;> simp only at er <;> (try cases er) <;> exact ⟨_, _, rfl, rfl⟩
  obtain ⟨i, j, e1, e2⟩ := hi
  have r1' : Rep g F2 H2 p.1 v A1 := r1.fr0 s2.ff (by rw [e1]; rfl)
  refine ⟨F2, v, w, p.1, p2.1, A1, A2, r, rfl, st2.same, r1', r2, er, fun v' rr => ?_⟩
  have s3 := ((s1.trans s2.more).less (O2 := fun x => O2 x + 0) fun x hx => by have hx : 0 < O2 x + 0 := hx; show 0 < O2 x + A2 x + A1 x; omega)
  exact finishS q3 s3 st2 rr fun pu => by
    simp only [pure, Bool.and_eq_true] at pu
    exact pu_mono (c := a) pu1 pu2 pu.1 pu.2

/-! ### isinstance -/
theorem pe_ty {X : Cx} {c : Ck} {g : Gm} {W : Wd} {kk : Nat} {sc : Scope} (hc : CE X c g W kk sc) {t : Ty} {pos : Pos} (h : isGl sc (tyStr t) = true) : PE X (.Name (tyStr t) pos) (tC (.ty (tyNm t))) :=
  pe_bltn (gl_ok hc h) (hc.blt _ (by cases t <;> simp [tyStr, bNames])) (ty_boot t) rfl (by cases t <;> decide) (by cases t <;> decide)
theorem pa_tys {X : Cx} {c : Ck} {g : Gm} {W : Wd} {kk : Nat} {sc : Scope} (hc : CE X c g W kk sc) : ∀ {ts : List Ty} {es : List Expr}, chkTys sc ts es = true → PA X es (fun _ H Q => Q (ts.map fun t => .ty (tyNm t)) H)
  | [], [], _ => pa_nil
  | t :: ts, .Name x p :: es, h => by
    simp only [chkTys, Bool.and_eq_true, decide_eq_true_eq] at h
    obtain ⟨⟨hn, hg⟩, h1⟩ := h
    subst hn
    exact pa_cons (pe_ty hc hg) (pa_tys hc h1) rfl
  | [], _ :: _, h => by simp [chkTys] at h
  | _ :: _, [], h => by simp [chkTys] at h
  | t :: ts, .BoolOp .. :: es, h => by simp [chkTys] at h
  | t :: ts, .NamedExpr .. :: es, h => by simp [chkTys] at h
  | t :: ts, .BinOp .. :: es, h => by simp [chkTys] at h
  | t :: ts, .UnaryOp .. :: es, h => by simp [chkTys] at h
  | t :: ts, .Lambda .. :: es, h => by simp [chkTys] at h
  | t :: ts, .IfExp .. :: es, h => by simp [chkTys] at h
  | t :: ts, .Dict .. :: es, h => by simp [chkTys] at h
  | t :: ts, .Set .. :: es, h => by simp [chkTys] at h
  | t :: ts, .ListComp .. :: es, h => by simp [chkTys] at h
  | t :: ts, .SetComp .. :: es, h => by simp [chkTys] at h
  | t :: ts, .DictComp .. :: es, h => by simp [chkTys] at h
  | t :: ts, .GeneratorExp .. :: es, h => by simp [chkTys] at h
  | t :: ts, .Await .. :: es, h => by simp [chkTys] at h
  | t :: ts, .Yield .. :: es, h => by simp [chkTys] at h
  | t :: ts, .YieldFrom .. :: es, h => by simp [chkTys] at h
  | t :: ts, .Compare .. :: es, h => by simp [chkTys] at h
  | t :: ts, .Call .. :: es, h => by simp [chkTys] at h
  | t :: ts, .FormattedValue .. :: es, h => by simp [chkTys] at h
  | t :: ts, .JoinedStr .. :: es, h => by simp [chkTys] at h
  | t :: ts, .Constant .. :: es, h => by simp [chkTys] at h
  | t :: ts, .Attribute .. :: es, h => by simp [chkTys] at h
  | t :: ts, .Subscript .. :: es, h => by simp [chkTys] at h
  | t :: ts, .Starred .. :: es, h => by simp [chkTys] at h
  | t :: ts, .List .. :: es, h => by simp [chkTys] at h
  | t :: ts, .Tuple .. :: es, h => by simp [chkTys] at h
  | t :: ts, .Slice .. :: es, h => by simp [chkTys] at h
theorem paired_tys : ∀ ts : List Ty, Paired ClsV (ts.map fun t => .ty (tyNm t)) (ts.map fun t => .type (tyNm t))
  | [] => .nil
  | t :: ts => .cons (.ty _) (paired_tys ts)
theorem spe_isin {a : E} {ts : List Ty} (ha : SPe a) : SPe (.isin a ts) := by
  intro X c g W kk sc Wx ast hc tk h
  unfold chkE at h
  split at h <;> rename_i heq <;> first | (cases heq; done) | (cases h; done) | skip
  cases heq
  rename_i x p y t pos
  simp only [Bool.and_eq_true, decide_eq_true_eq] at h
  obtain ⟨⟨⟨hn, hg⟩, h1⟩, h2⟩ := h
  subst hn
  have hb : bootBuiltins "isinstance" = some (.builtin "isinstance") := by decide +kernel
  have hm : X.mg "isinstance" = none := hc.blt _ (by simp [bNames])
  unfold chkTy at h2
  split at h2
  · rename_i t1 x2 p2
    simp only [Bool.and_eq_true, decide_eq_true_eq] at h2
    obtain ⟨hn, hg2⟩ := h2
    subst hn
    have pa := pa_cons (ha X c g W kk _ Wx _ hc tk h1) (pa_cons (pe_ty hc (pos := p2) hg2) pa_nil rfl) (star_ok (chk_ok1 h1))
    refine PE.weak (pe_callB call_isi (gl_ok hc hg) hm hb pa (by decide) (by decide) (star_ok (chk_ok1 h1)) rfl) fun σ H Q ⟨F, ρ, O, st, q⟩ => ?_
    unfold ev at q
    refine ⟨F, ρ, O, st, seqR (T := fun _ => 0) q st.stp fun p ep q1 => ?_⟩
    intro v F1 H1 O1 A1 st1 r1 s1 pu1 _
    obtain ⟨r, er, q2⟩ := seqO q1
    simp only [isTys, Option.map_eq_some_iff] at er
    obtain ⟨cl, e1, e2⟩ := er
    refine ⟨v, .ty (tyNm t1), .type (tcNm cl), .type (tyNm t1), r, rfl, .ty _, rep_ty hc.K st1.same r1 e1, ?_, finishS q2 s1 st1 rep_bl fun pu => ?_⟩
    · rw [kit_tc, ← e2]; simp
    · simp only [pure, Bool.and_eq_true] at pu
      rw [pu.1] at pu1
      exact ⟨pu1.1, pu1.2.1, pu1.2.2.1⟩
  · rename_i t1 u1 ts1 es k p2
    simp only [Bool.and_eq_true, decide_eq_true_eq] at h2
    have h2' := h2
    replace h2 := h2.2
    have pa := pa_cons (ha X c g W kk _ Wx _ hc tk h1) (pa_cons (pe_tup (x1 := k) (pos := p2) (pa_tys hc h2)) pa_nil rfl) (star_ok (chk_ok1 h1))
    have hsz := h2'.1
    · refine PE.weak (pe_callB call_isiT (gl_ok hc hg) hm hb pa (by decide) (by decide) (star_ok (chk_ok1 h1)) rfl) fun σ H Q ⟨F, ρ, O, st, q⟩ => ?_
      unfold ev at q
      refine ⟨F, ρ, O, st, seqR (T := fun _ => 0) q st.stp fun p ep q1 => ?_⟩
      intro v F1 H1 O1 A1 st1 r1 s1 pu1 _
      obtain ⟨r, er, q2⟩ := seqO q1
      simp only [isTys, Option.map_eq_some_iff] at er
      obtain ⟨cl, e1, e2⟩ := er
      refine ⟨by rw [List.length_map, sizeLine_eq]; omega, fun tp htp => ?_⟩
      have nw : Nw F1 H1 F1 (upd H1 tp (.tup ((t1 :: u1 :: ts1).map fun t => .ty (tyNm t)))) (fun _ => 0) :=
        ⟨Same.refl _, st1.same.trans (same_upd htp), same_upd htp, fun _ h _ => h, fun _ h => absurd h (by simp), fun _ => by simp⟩
      refine ⟨v, tp, _, .type (tcNm cl), _, r, rfl, upd_same, paired_tys _, ?_, ?_, finishN q2 s1 st1 nw rep_bl fun pu => ?_⟩
      · have k1 := rep_ty (X := X) hc.K (Same.trans st1.same (same_upd (o := .tup ((t1 :: u1 :: ts1).map fun t => .ty (tyNm t))) htp)) (r1.fr (H' := upd H1 tp (.tup ((t1 :: u1 :: ts1).map fun t => .ty (tyNm t)))) (Same.refl _) fun a ha => by
          obtain ⟨f, u, e⟩ := r1.own a ha
          exact ⟨f, by rw [upd_ne (ne_of_none e htp)]⟩) e1
        exact k1
      · rw [kitAny_tc, ← e2]
      · simp only [pure, Bool.and_eq_true, decide_eq_true_eq, List.length_cons] at pu
        omega
  · cases h2

/-! ### isinstance of a caught exception -/
section
variable {X : Cx} {c : Ck} {g : Gm} {W : Wd} {kk : Nat} {sc : Scope}
theorem xcl_one (hc : CE X c g W kk sc) {j : Nat} {x : Str} {pos : Pos} (h : (decide (c.nx j = some x) && isGl sc x && nmOk x) = true) : ∃ v cv, PE X (.Name x pos) (tC v) ∧ (∀ u, RelV v u → u = cv) ∧ ∀ n D, g.ca n = some D → PySem.W.kitOne X.K (.ref D) cv = some (W.sub n j) := by
  simp only [Bool.and_eq_true, decide_eq_true_eq, nmOk] at h
  obtain ⟨⟨h1, h2⟩, h3⟩ := h
  obtain ⟨v, cv, hv, hk⟩ := hc.xcl j x h1
  refine ⟨v, cv, ?_, ?_, hk⟩
  · rcases hv with ⟨C, rfl, rfl, hm⟩ | ⟨rfl, rfl, rfl, hm⟩
    · exact pe_glob (v := .ref C) (gl_ok hc h2) hm rfl h3.1
    · exact pe_bltn (gl_ok hc h2) hm (by decide +kernel) rfl (by decide) (by decide)
  · rcases hv with ⟨C, rfl, rfl, _⟩ | ⟨rfl, rfl, _, _⟩
    · exact fun u hu => hu
    · exact fun u hu => hu
theorem xcl_all (hc : CE X c g W kk sc) : ∀ {js : List Nat} {es : List Expr}, chkXs c.nx sc js es = true → ∃ vs cvs, PA X es (fun _ H Q => Q vs H) ∧ Paired (fun c cv => ∀ u, RelV c u → u = cv) vs cvs ∧ vs.length = js.length ∧ ∀ n D, g.ca n = some D → PySem.W.kitAny X.K (.ref D) cvs = some (js.any (W.sub n))
  | [], [], _ => ⟨[], [], pa_nil, .nil, rfl, fun _ _ _ => rfl⟩
  | [], _ :: _, h => by simp [chkXs] at h
  | _ :: _, [], h => by simp [chkXs] at h
  | j :: js, e :: es, h => by
    cases e <;> (try (simp [chkXs] at h; done))
    rename_i x p
    simp only [chkXs, Bool.and_eq_true] at h
    obtain ⟨vs, cvs, pa, pr, hl, hk⟩ := xcl_all hc h.2
    obtain ⟨v, cv, pe, hv, hk1⟩ := xcl_one hc (pos := p) (j := j) (x := x) (by rw [Bool.and_eq_true, Bool.and_eq_true]; exact h.1)
    refine ⟨v :: vs, cv :: cvs, pa_cons pe pa rfl, .cons hv pr, by simp [hl], fun n D hD => ?_⟩
    rw [List.any_cons]
    exact kitAny_cons (hk1 n D hD) (fun e => by rw [hk n D hD, e, Bool.false_or]) (fun e => by rw [e, Bool.true_or])
def rX1 (g : Gm) (K : PySem.W.Frag) : List V → Hp → VK → Prop := fun xs H Q => ∃ n a D, g.fa (1000 + n) = some a ∧ g.ca n = some D ∧ rIsE K D a xs H Q
def rX2 (g : Gm) (K : PySem.W.Frag) : List V → Hp → VK → Prop := fun xs H Q => ∃ n a D, g.fa (1000 + n) = some a ∧ g.ca n = some D ∧ rIsEt K D a xs H Q
theorem call_x1 (hc : CE X c g W kk sc) (hh : c.hot = true) : CallR X (.builtin "isinstance") (rX1 g X.K) := by
  intro pins s σ H xs us Q I r h
  obtain ⟨n, a, D, h1, h2, h3⟩ := h
  obtain ⟨D', e, k1, k2⟩ := hc.xis hh n a h1
  rw [h2] at e; cases e
  exact k1 pins s σ H xs us Q I r h3
theorem call_x2 (hc : CE X c g W kk sc) (hh : c.hot = true) : CallR X (.builtin "isinstance") (rX2 g X.K) := by
  intro pins s σ H xs us Q I r h
  obtain ⟨n, a, D, h1, h2, h3⟩ := h
  obtain ⟨D', e, k1, k2⟩ := hc.xis hh n a h1
  rw [h2] at e; cases e
  exact k2 pins s σ H xs us Q I r h3
theorem xOf_some {o : Option D} {n : Nat} (h : xOf o = some n) : o = some (.fn (1000 + n)) := by
  unfold xOf at h
  split at h
  · split at h
    · cases h
      congr 2
      omega
    · cases h
  · cases h
theorem spe_xis {i : Nat} {js : List Nat} : SPe (.xis i js) := by
  intro X c g W kk sc Wx ast hc tk h
  unfold chkE at h
  split at h <;> rename_i heq <;> first | (cases heq; done) | (cases h; done) | skip
  cases heq
  rename_i x p y p2 t pos
  simp only [Bool.and_eq_true, decide_eq_true_eq] at h
  obtain ⟨⟨⟨⟨⟨⟨hh, hn⟩, hg⟩, s1⟩, s2⟩, s3⟩, h2⟩ := h
  subst hn
  have hb : bootBuiltins "isinstance" = some (.builtin "isinstance") := by decide +kernel
  have hm : X.mg "isinstance" = none := hc.blt _ (by simp [bNames])
  have pv := pe_slot (pos := p2) hc (i := i) (x := y) (by rw [s1, s2, s3]; rfl)
  have rd : ∀ {σ : St} {H : Hp} {Q : VK}, tE g W Wx (.xis i js) σ H Q → ∃ n a D, σ[i]? = some (some (.ref a)) ∧ g.fa (1000 + n) = some a ∧ g.ca n = some D ∧ Q (.bl (js.any (W.sub n))) H ∧ ∀ tp o, H tp = none → Q (.bl (js.any (W.sub n))) (upd H tp (.tup o)) := by
    rintro σ H Q ⟨F, ρ, O, st, q⟩
    unfold ev at q
    cases hx : xOf (slot ρ i) with
    | none => rw [hx] at q; exact q.elim
    | some n =>
      rw [hx] at q
      have hs := xOf_some hx
      obtain ⟨v, B, C, e1, r, rs, qq⟩ := st.slots.take hs
      obtain ⟨⟨a, ea, ev⟩, _⟩ := r
      subst ev
      obtain ⟨D, hD, _, _⟩ := hc.xis hh n a ea
      refine ⟨n, a, D, e1, ea, hD, finishS (T := fun _ => 0) q st.stp st rep_bl (fun pu => by cases pu), fun tp o htp => ?_⟩
      have nw : Nw F H F (upd H tp (.tup o)) (fun _ => 0) :=
        ⟨Same.refl _, st.same.trans (same_upd htp), same_upd htp, fun _ h _ => h, fun _ h => absurd h (by simp), fun _ => by simp⟩
      exact finishN (T := fun _ => 0) q st.stp st nw rep_bl fun pu => by cases pu
  unfold chkX at h2
  split at h2
  · rename_i j z p3
    obtain ⟨v, cv, pe, hv, hk⟩ := xcl_one hc (pos := p3) h2
    have pa := pa_cons pv (pa_cons pe pa_nil rfl) rfl
    refine PE.weak (pe_callB (call_x1 hc hh) (gl_ok hc hg) hm hb pa (by decide) (by decide) rfl rfl) fun σ H Q q => ?_
    obtain ⟨n, a, D, e1, ea, hD, q1, _⟩ := rd q
    refine ⟨.ref a, e1, n, a, D, ea, hD, v, cv, W.sub n j, rfl, hv, hk n D hD, ?_⟩
    simpa using q1
  · rename_i j k js es kd p3
    simp only [Bool.and_eq_true, decide_eq_true_eq] at h2
    obtain ⟨vs, cvs, pa0, pr, hl, hk⟩ := xcl_all hc h2.2
    have pa := pa_cons pv (pa_cons (pe_tup (x1 := kd) (pos := p3) pa0) pa_nil rfl) rfl
    refine PE.weak (pe_callB (call_x2 hc hh) (gl_ok hc hg) hm hb pa (by decide) (by decide) rfl rfl) fun σ H Q q => ?_
    obtain ⟨n, a, D, e1, ea, hD, _, q2⟩ := rd q
    refine ⟨.ref a, e1, by rw [hl, sizeLine_eq]; have := h2.1; omega, fun tp htp => ?_⟩
    exact ⟨n, a, D, ea, hD, tp, vs, cvs, _, rfl, upd_same, pr, hk n D hD, q2 tp vs htp⟩
  · cases h2
end
end PV

/-! PVl: methods that read, slices, displays. -/
namespace PV
open PySem L2

def rDM (g : Gm) (sem : D → D → Option D) (sc : Bool) : V → List V → Hp → VK → Prop := fun x xs H Q => ∃ F y d1 d2 A1 A2 d, xs = [y] ∧ Same F H ∧ Rep g F H d1 x A1 ∧ Rep g F H d2 y A2 ∧ sem d1 d2 = some d ∧
  ∀ v F' H' A, Nw F H F' H' A → Rep g F' H' d v A → (sc = true → F' = F ∧ H' = H) → Q v H'
theorem repL_strs {g : Gm} {F H : Hp} : ∀ (ns : List Str), RepL g F H (ns.map D.str) (ns.map V.str) (fun _ => 0)
  | [] => ⟨rfl, fun _ => rfl⟩
  | n :: ns => ⟨.str n, ns.map V.str, _, _, rfl, rep_str, repL_strs ns, fun _ => rfl⟩
theorem noOwnL_strs (ns : List Str) : noOwnL (ns.map D.str) = true := noOwnL_of fun x hx => by
  obtain ⟨n, _, e⟩ := List.mem_map.mp hx
  rw [← e]; rfl
theorem idxD_spec {x : PyData} : ∀ {ys : List PyData} {j : Nat}, idxD x ys = some j → ∃ z, ys[j]? = some z ∧ PyData.eqv z x = true ∧ ∀ m z', m < j → ys[m]? = some z' → PyData.eqv z' x = false
  | [], j, h => by simp [idxD] at h
  | y :: ys, j, h => by
    unfold idxD at h
    split at h
    · rename_i he
      cases h
      exact ⟨y, rfl, he, fun m _ hm => absurd hm (Nat.not_lt_zero _)⟩
    · rename_i he
      simp only [Option.map_eq_some_iff] at h
      obtain ⟨k, hk, e⟩ := h
      subst e
      obtain ⟨z, h1, h2, h3⟩ := idxD_spec hk
      refine ⟨z, by simpa using h1, h2, fun m z' hm hz => ?_⟩
      cases m with
      | zero =>
        simp only [List.getElem?_cons_zero, Option.some.injEq] at hz
        subst hz
        simpa using he
      | succ m => exact h3 m z' (by omega) (by simpa using hz)
section
variable {X : Cx} {g : Gm}
theorem m_index (hK : X.K = g.K) (hu : X.A.units + 65 < cLine) : MtR X "list.index" (rDM g (m1S .index) true) := by
  intro pins s σ H x xs v us Q I rx rs h
  obtain ⟨F, y, d1, d2, A1, A2, d, ex, sf, r1, r2, e, q⟩ := h
  subst ex
  cases d1 <;> simp only [m1S] at e <;> (try cases e)
  rename_i o ys
  split at e
  · rename_i dx ds h1 h2
    split at e
    · rename_i hs
      simp only [Bool.and_eq_true] at hs
      simp only [Option.map_eq_some_iff] at e
      obtain ⟨j, ej, ed⟩ := e
      subst ed
      have p1 : Dp g.K H x (.list ds) := rep_py sf r1 (by simp only [py, h2, Option.map_some])
      obtain ⟨z, z1, z2, z3⟩ := idxD_spec ej
      obtain ⟨a, ws, B, ea, _, _, _⟩ := rep_lst sf r1
      subst ea
      exact mt_indexD hu pins s σ H _ _ v us Q I rx rs ⟨a, y, dx, ds, j, z, rfl, rfl, by rw [hK]; exact p1, by rw [hK]; exact rep_py sf r2 h1, hs.2, hs.1, z1, z2, z3, q _ F H _ (Nw.refl sf) rep_int fun _ => ⟨rfl, rfl⟩⟩
    · cases e
  · cases e
/-- l.count(x): how many equal ones -/
def rCountD (K : PySem.W.Frag) : V → List V → Hp → VK → Prop := fun x xs H Q => ∃ (a : Addr) (y : V) (d : PyData) (ds : List PyData), x = V.ref a ∧ xs = [y] ∧ Dp K H (V.ref a) (.list ds) ∧ Dp K H y d ∧
  SeqAt.shaped (.list ds) = true ∧ SeqAt.shaped d = true ∧ Q (.int ((ds.countP fun z => PyData.eqv z d : Nat) : Int)) H
theorem mt_lcountD (hu : X.A.units + 65 < cLine) : MtR X "list.count" (rCountD X.K) := by
  intro pins s σ H x xs v us Q I rx rxs h
  obtain ⟨a, y, d, ds, rfl, rfl, hl, hy, sl, sd, q⟩ := h
  cases rx
  cases rxs with
  | cons ry rt =>
    rename_i uy ut
    cases rt
    obtain ⟨bs, r1⟩ := Dp.reads I d y uy hy ry
    have hxs : PyData.canLayAll0 ds = true := SeqAt.canLay_of_shaped sl
    have hroom : X.A.units + 1 + min (PyData.depthAll ds) d.depth < cLine := PyProof.Rows.room_in_shaped sd hu
    cases hl with
    | lst hs ha =>
      obtain ⟨its, rv, ⟨⟨cls, dd, data, sls⟩, n, ho, hc, hdn, hdt⟩, hlen⟩ := I.list hs
      simp only at hc hdt
      subst hc hdt
      obtain ⟨as, h4⟩ := Dp.readsAll I ds _ its ha rv
      have hmap : its.map (SeqAt.readOf s.heap) = ds := SeqAt.readsAll_map ds its as hxs h4
      refine call_meets PySem.F.slot_list_count ⟨_, ho, rfl⟩ PySem.F.entry_list_count (PySem.F.args_list_count_2 _ _)
        (SeqAt.list_countAt a its.toArray n dd sls uy (fun u => PyData.eqv (SeqAt.readOf s.heap u) d)) ⟨ho, SeqAt.items_eqAt (vs := its.toArray) (show ReadsAll s.heap its.toArray.toList ds as from h4) r1 hxs (SeqAt.canLay_of_shaped sd) hroom, ?_⟩
      refine ⟨.int ((ds.countP fun z => PyData.eqv z d : Nat) : Int), H, I.tok _, ⟨s.toks, ?_⟩, q⟩
      show Value.int ((its.toArray.toList.countP (fun u => PyData.eqv (SeqAt.readOf s.heap u) d) : Nat) : Int) s.toks = _
      congr 2
      rw [← hmap, List.countP_map]
      rfl
theorem pyL_bools : ∀ {ys : List D} {bs : List Bool}, boolsOf ys = some bs → pyL ys = some (bs.map PyData.bool)
  | [], bs, e => by simp only [boolsOf, Option.some.injEq] at e; subst e; rfl
  | y :: ys, bs, e => by
    cases y with
    | bl b =>
      simp only [boolsOf, Option.map_eq_some_iff] at e
      obtain ⟨cs, h1, h2⟩ := e
      subst h2
      simp only [pyL, py, pyL_bools h1, List.map_cons]
    | _ => simp [boolsOf] at e
theorem bools_lay : ∀ bs : List Bool, PyData.canLayAll0 (bs.map PyData.bool) = true ∧ PyData.depthAll (bs.map PyData.bool) = 0
  | [] => by simp [PyData.canLayAll0, PyData.depthAll]
  | b :: bs => by
    have := bools_lay bs
    simp [PyData.canLayAll0, PyData.depthAll, PyData.canLay0, PyData.depth, this]
theorem m_lcount (hK : X.K = g.K) (hu : X.A.units + 65 < cLine) : MtR X "list.count" (rDM g (m1S .lcount) true) := by
  intro pins s σ H x xs v us Q I rx rs h
  obtain ⟨F, y, d1, d2, A1, A2, d, ex, sf, r1, r2, e, q⟩ := h
  subst ex
  cases d1 <;> simp only [m1S] at e <;> (try cases e)
  rename_i o ys
  cases d2 <;> simp only at e <;> (try cases e)
  case bl b =>
    split at e
    · rename_i bs hb
      split at e
      · cases e
        have p1 : Dp g.K H x (.list (bs.map PyData.bool)) := rep_py sf r1 (by simp only [py, pyL_bools hb, Option.map_some])
        have p2 : Dp g.K H y (.bool b) := rep_py sf r2 (by simp only [py])
        obtain ⟨a, ws, B, ea, _, _, _⟩ := rep_lst sf r1
        subst ea
        have hc : ((bs.map PyData.bool).countP fun z => PyData.eqv z (.bool b)) = bs.count b := by
          rw [List.countP_map, List.count]
          exact congrArg (fun f => List.countP f bs) (funext fun c => by cases c <;> cases b <;> rfl)
        exact mt_lcountD hu pins s σ H _ _ v us Q I rx rs ⟨a, y, .bool b, bs.map PyData.bool, rfl, rfl, by rw [hK]; exact p1, by rw [hK]; exact p2, by simp [SeqAt.shaped, PyData.canLay0, PyData.depth, bools_lay], by simp [SeqAt.shaped, PyData.canLay0, PyData.depth], by rw [hc]; exact q _ F H _ (Nw.refl sf) rep_int fun _ => ⟨rfl, rfl⟩⟩
      · cases e
    · cases e
  rename_i k
  split at e
  · rename_i ns hi
    cases e
    obtain ⟨a, ws, B, ea, rd, rl, _⟩ := rep_lst sf r1
    have := rep_ints rl hi
    subst this ea
    exact mt_lcount pins s σ H _ _ v us Q I rx rs ⟨a, ns, k, rfl, by rw [r2.1], .inl rd, q _ F H _ (Nw.refl sf) rep_int fun _ => ⟨rfl, rfl⟩⟩
  · cases e
theorem m_str {m : M1} (hm : m = .scount ∨ m = .find ∨ m = .join ∨ m = .split ∨ m = .partition) : ∃ id, PySem.Slot "str" (m1nm m) id ∧ typeOf (.builtin id) = Pure.pure (.type "method_descriptor") ∧ (∀ X : Cx, X.K = g.K → MtR X id (rDM g (m1S m) m.scal)) := by
  rcases hm with rfl | rfl | rfl | rfl | rfl
  · refine ⟨_, PySem.F.slot_str_count, PySem.F.type_str_count, fun X hK => ?_⟩
    intro pins s σ H x xs v us Q I rx rs h
    obtain ⟨F, y, d1, d2, A1, A2, d, ex, sf, r1, r2, e, q⟩ := h
    subst ex
    cases d1 <;> simp only [m1S] at e <;> (try cases e) <;> cases d2 <;> simp only [Option.some.injEq] at e <;> (try cases e)
    exact mt_count pins s σ H _ _ v us Q I rx rs ⟨_, _, r1.1, by rw [r2.1], q _ F H _ (Nw.refl sf) rep_int fun _ => ⟨rfl, rfl⟩⟩
  · refine ⟨_, PySem.F.slot_str_find, PySem.F.type_str_find, fun X hK => ?_⟩
    intro pins s σ H x xs v us Q I rx rs h
    obtain ⟨F, y, d1, d2, A1, A2, d, ex, sf, r1, r2, e, q⟩ := h
    subst ex
    cases d1 <;> simp only [m1S] at e <;> (try cases e) <;> cases d2 <;> simp only [Option.some.injEq] at e <;> (try cases e)
    exact mt_find pins s σ H _ _ v us Q I rx rs ⟨_, _, r1.1, by rw [r2.1], q _ F H _ (Nw.refl sf) rep_int fun _ => ⟨rfl, rfl⟩⟩
  · refine ⟨_, PySem.F.slot_str_join, PySem.F.type_str_join, fun X hK => ?_⟩
    intro pins s σ H x xs v us Q I rx rs h
    obtain ⟨F, y, d1, d2, A1, A2, d, ex, sf, r1, r2, e, q⟩ := h
    subst ex
    cases d1 <;> simp only [m1S] at e <;> (try cases e) <;> cases d2 <;> simp only at e <;> (try cases e)
    split at e
    · rename_i zs hz
      split at e
      · rename_i hn
        cases e
        obtain ⟨a, ws, B, ea, rd, rl, _⟩ := rep_lst sf r2
        have := rep_strs rl hz
        subst this ea
        exact mt_join pins s σ H _ _ v us Q I rx rs ⟨_, a, zs, r1.1, rfl, .inl (.inl rd), hn, q _ F H _ (Nw.refl sf) rep_str fun _ => ⟨rfl, rfl⟩⟩
      · cases e
    · cases e
  · refine ⟨_, PySem.F.slot_str_split, PySem.F.type_str_split, fun X hK => ?_⟩
    intro pins s σ H x xs v us Q I rx rs h
    obtain ⟨F, y, d1, d2, A1, A2, d, ex, sf, r1, r2, e, q⟩ := h
    subst ex
    cases d1 <;> simp only [m1S] at e <;> (try cases e) <;> cases d2 <;> simp only at e <;> (try cases e)
    split at e
    · rename_i hz
      cases e
      exact mt_split pins s σ H _ _ v us Q I rx rs ⟨_, _, r1.1, by rw [r2.1], hz.1, hz.2, fun p hp => q _ _ _ _ (Nw.lst sf hp) (rep_newL sf hp (noOwnL_strs _) (repL_strs _)) fun z => by cases z⟩
    · cases e
  · refine ⟨_, PySem.F.slot_str_partition, PySem.F.type_str_partition, fun X hK => ?_⟩
    intro pins s σ H x xs v us Q I rx rs h
    obtain ⟨F, y, d1, d2, A1, A2, d, ex, sf, r1, r2, e, q⟩ := h
    subst ex
    cases d1 <;> simp only [m1S] at e <;> (try cases e) <;> cases d2 <;> simp only at e <;> (try cases e)
    split at e
    · rename_i hz
      cases e
      exact mt_partition pins s σ H _ _ v us Q I rx rs ⟨_, _, r1.1, by rw [r2.1], hz.1, hz.2, fun p hp => q _ _ _ _ (Nw.tup sf hp) (rep_newT (xs := [_, _, _].map D.str) sf hp rfl (repL_strs [_, _, _])) fun z => by cases z⟩
    · cases e
end
theorem m1_scal {m : M1} (h : m.scal = true) {a b d : D} (e : m1S m a b = some d) : noOwn d = true := by
  unfold m1S at e
  split at e <;> (try cases h) <;> (try (split at e)) <;> (try (split at e)) <;> (try cases e) <;> (try rfl)
  rename_i e
  simp only [Option.map_eq_some_iff] at e
  obtain ⟨_, _, e⟩ := e
  subst e; rfl
/-- the reading of the receiver and the argument -/
theorem rd_m1 {g : Gm} {W : Wd} {Wx : WX} {m : M1} {a b : E} {σ : St} {H : Hp} {Q : VK} (q : tE g W Wx (.m1 m a b) σ H Q) (P : V → Hp → Prop) (hP : ∀ d v F H A, Same F H → Rep g F H d v A → recvOk m d = true → P v H) :
    tE g W Wx a σ H fun x H1 => P x H1 ∧ tE g W Wx b σ H1 fun y H2 => rDM g (m1S m) m.scal x [y] H2 Q := by
  obtain ⟨F, ρ, O, st, q⟩ := q
  unfold ev at q
  refine ⟨F, ρ, O, st, seqR (T := fun _ => 0) q st.stp fun p ep q1 => ?_⟩
  intro v F1 H1 O1 A1 st1 r1 s1 pu1 _
  obtain ⟨hr, q1⟩ := postIf q1
  refine ⟨hP p.1 v F1 H1 A1 st1.same r1 hr, F1, p.2, O1, st1, seqR q1 s1 fun p2 ep2 q2 => ?_⟩
  intro w F2 H2 O2 A2 st2 r2 s2 pu2 _
  obtain ⟨hs, q3⟩ := postIf q2
  obtain ⟨r, er, q4⟩ := seqO q3
  simp only [Bool.or_eq_true, Bool.not_eq_true'] at hs
  have fin : ∀ A1' T : Ow, Rep g F2 H2 p.1 v A1' → Stp F H O F2 H2 (fun x => O2 x + T x) → rDM g (m1S m) m.scal v [w] H2 Q := fun A1' T r1' s3 => by
    refine ⟨F2, w, p.1, p2.1, A1', A2, r, rfl, st2.same, r1', r2, er, fun v' F' H' A n rr hsc => finishN q4 s3 st2 n rr fun pu => ?_⟩
    simp only [pure, Bool.and_eq_true] at pu
    obtain ⟨e1, e2, e3⟩ := pu_mono (c := a) pu1 pu2 pu.1.2 pu.2
    obtain ⟨e4, e5⟩ := hsc pu.1.1
    exact ⟨e4.trans e1, e5.trans e2, e3, fun x => by rw [rr.zero (m1_scal pu.1.1 er) x]; exact Nat.zero_le _⟩
  cases pa : pure a with
  | false =>
    rw [pa] at pu1
    have fr := s2.frame r1 fun x hx => by have := pu1 x; omega
    exact fin _ _ fr.1 ((s1.trans s2.more).less (O2 := fun x => O2 x + 0) fun x hx => by have hx : 0 < O2 x + 0 := hx; show 0 < O2 x + A2 x + A1 x; omega)
  | true =>
    rw [pa] at pu1
    obtain ⟨eF, eH, eO, hA⟩ := pu1
    subst eF eH eO
    cases pb : pure b with
    | true =>
      rw [pb] at pu2
      obtain ⟨eF, eH, eO, hB⟩ := pu2
      subst eF eH eO
      exact fin _ _ r1 st2.stp
    | false =>
      have hn : noOwn p.1 = true := by
        rcases hs with (hs | hs) | hs
        · rw [pb] at hs; cases hs
        · rw [pa] at hs; cases hs
        · exact hs
      exact fin _ _ (r1.fr0 s2.ff hn) s2
theorem spe_m1 {m : M1} {a b : E} (ha : SPe a) (hb : SPe b) : SPe (.m1 m a b) := by
  intro X c g W kk sc Wx ast hc tk h
  unfold chkE at h
  split at h <;> rename_i heq <;> first | (cases heq; done) | (cases h; done) | skip
  cases heq
  rename_i x n ap y cp
  simp only [Bool.and_eq_true, decide_eq_true_eq] at h
  obtain ⟨⟨⟨⟨hn, hl⟩, hbo⟩, h1⟩, h2⟩ := h
  subst hn
  have hline : (ap.endLine == cp.line) = true := by rw [hl]; exact beq_self_eq_true _
  have pa := ha X c g W kk _ Wx _ hc tk h1
  have pb := hb X c g W kk _ Wx _ hc tk h2
  have hs : starEach [y] X.env = [(false, eval y X.env)] := by rw [star_ok (chk_ok1 h2)]; rfl
  have isList : ∀ (id : String), MtR X id (rDM g (m1S m) m.scal) → PySem.Slot "list" (m1nm m) id → typeOf (.builtin id) = Pure.pure (.type "method_descriptor") → (∀ d, recvOk m d = true → ∃ o xs, d = .lst o xs) → PE X (.Call (.Attribute x (m1nm m) ap) [y] [] cp) (tE g W Wx (.m1 m a b)) := by
    intro id hm slot ty hrec
    refine PE.weak (pe_bm PySem.F.plainAttrs_list slot ty hm pa (pa_cons pb pa_nil (star_ok (chk_ok1 h2))) (base_ok hbo _) (by rw [hs]; rfl) hline (star_ok (chk_ok1 h2)) rfl) fun σ H Q q => ?_
    refine rd_m1 q (fun v H => tyV X.K "list" v H) fun d v F H A sf r hr => ?_
    obtain ⟨o, xs, e⟩ := hrec d hr
    subst e
    obtain ⟨a, ws, B, ea, rd, _, _⟩ := rep_lst sf r
    rw [ea]
    exact .inl ⟨rfl, ws, .inl rd⟩
  have isStr : (m = .scount ∨ m = .find ∨ m = .join ∨ m = .split ∨ m = .partition) → PE X (.Call (.Attribute x (m1nm m) ap) [y] [] cp) (tE g W Wx (.m1 m a b)) := by
    intro hm
    obtain ⟨id, slot, ty, mt⟩ := m_str (g := g) hm
    refine PE.weak (pe_m1 slot ty (mt X hc.K) pa pb hs (base_ok hbo _) hline) fun σ H Q q => ?_
    refine rd_m1 q (fun v H => ∃ a, v = .str a) fun d v F H A sf r hr => ?_
    rcases hm with rfl | rfl | rfl | rfl | rfl <;> cases d <;> simp only [recvOk, Bool.false_eq_true] at hr <;> exact ⟨_, r.1⟩
  cases m
  case index => exact isList _ (m_index hc.K hc.units) PySem.F.slot_list_index PySem.F.type_list_index fun d h => by cases d <;> simp [recvOk] at h <;> exact ⟨_, _, rfl⟩
  case lcount => exact isList _ (m_lcount hc.K hc.units) PySem.F.slot_list_count PySem.F.type_list_count fun d h => by cases d <;> simp [recvOk] at h <;> exact ⟨_, _, rfl⟩
  case scount => exact isStr (.inl rfl)
  case find => exact isStr (.inr (.inl rfl))
  case join => exact isStr (.inr (.inr (.inl rfl)))
  case split => exact isStr (.inr (.inr (.inr (.inl rfl))))
  case partition => exact isStr (.inr (.inr (.inr (.inr rfl))))
end PV

/-! PVm: slices, kept values, displays, argument lists. -/
namespace PV
open PySem L2

/-! ### slices -/
def tPartE (g : Gm) (W : Wd) (Wx : WX) : E → TO
  | .no => tNoPart
  | e => tPart (tE g W Wx e)
theorem po_ok {X : Cx} {c : Ck} {g : Gm} {W : Wd} {kk : Nat} {sc : Scope} {Wx : WX} {e : E} {o : Option Expr} (he : SPe e) (hc : CE X c g W kk sc) (tk : Takes X Wx)
    (h : (match o with | none => isNo e | some y => chkE c e sc y) = true) : PO X o (tPartE g W Wx e) := by
  cases o with
  | none =>
    cases e <;> first
      | exact po_none
      | (simp [isNo] at h; done)
  | some y =>
    cases e
    case no => simp [chkE] at h
    all_goals exact po_some (he X c g W kk sc Wx y hc tk h)
theorem rd_part {β : Type} {g : Gm} {W : Wd} {Wx : WX} {e : E} {σ : St} {F H F1 H1 : Hp} {O O1 T : Ow} {ρ1 : Env} {okp : β → Prop} {f : Option Int × Env → R β} (hp : pure e = true) (st : Sta g F1 H1 ρ1 σ O1) (s0 : Stp F H O F1 H1 (fun x => O1 x + T x))
    (q : PostR g Wx okp ((evB (ev W e) e ρ1).bind f) F H O σ) {R2 : Option Int → Hp → Prop} (k : ∀ o ρ2, PostR g Wx okp (f (o, ρ2)) F H O σ → Sta g F1 H1 ρ2 σ O1 → R2 o H1) : tPartE g W Wx e σ H1 R2 := by
  by_cases hn : e = .no
  · subst hn
    exact k none ρ1 q st
  · have e1 : evB (ev W e) e ρ1 = (ev W e ρ1).bind fun q => match q.1 with
        | .int i => .ok (some i, q.2)
        | _ => .bad := by
      cases e <;> first | rfl | exact absurd rfl hn
    have e2 : tPartE g W Wx e = tPart (tE g W Wx e) := by
      cases e <;> first | rfl | exact absurd rfl hn
    rw [e1] at q
    rw [e2]
    have q' : PostR g Wx okp ((ev W e ρ1).bind fun p => (match p.1 with | .int i => R.ok (some i, p.2) | _ => .bad).bind f) F H O σ := by
      cases z : ev W e ρ1 <;> rw [z] at q <;> exact q
    refine ⟨F1, ρ1, O1, st, seqR q' s0 fun p ep q1 => ?_⟩
    intro v F2 H2 O2 A2 st2 r2 s2 pu2 _
    rw [hp] at pu2
    obtain ⟨eF, eH, eO, _⟩ := pu2
    subst eF eH eO
    cases z : p.1 <;> rw [z] at q1 r2 <;> (try exact q1.elim)
    exact ⟨_, r2.1, k _ p.2 q1 st2⟩
theorem rd_part2 {β : Type} {g : Gm} {W : Wd} {Wx : WX} {e : E} {σ : St} {F H F1 H1 : Hp} {O O1 T : Ow} {ρ1 : Env} {okp : β → Prop} {f : Option Int × Env → R β} (st : Sta g F1 H1 ρ1 σ O1) (s0 : Stp F H O F1 H1 (fun x => O1 x + T x))
    (q : PostR g Wx okp ((evB (ev W e) e ρ1).bind f) F H O σ) {R2 : Option Int → Hp → Prop} (k : ∀ o ρ2 F2 H2 O2 (T2 : Ow), PostR g Wx okp (f (o, ρ2)) F H O σ → Sta g F2 H2 ρ2 σ O2 → Stp F H O F2 H2 (fun x => O2 x + T2 x) → Same F1 F2 → R2 o H2) : tPartE g W Wx e σ H1 R2 := by
  by_cases hn : e = .no
  · subst hn
    exact k none ρ1 F1 H1 O1 T q st s0 (Same.refl F1)
  · have e1 : evB (ev W e) e ρ1 = (ev W e ρ1).bind fun q => match q.1 with
        | .int i => .ok (some i, q.2)
        | _ => .bad := by
      cases e <;> first | rfl | exact absurd rfl hn
    have e2 : tPartE g W Wx e = tPart (tE g W Wx e) := by
      cases e <;> first | rfl | exact absurd rfl hn
    rw [e1] at q
    rw [e2]
    have q' : PostR g Wx okp ((ev W e ρ1).bind fun p => (match p.1 with | .int i => R.ok (some i, p.2) | _ => .bad).bind f) F H O σ := by
      cases z : ev W e ρ1 <;> rw [z] at q <;> exact q
    refine ⟨F1, ρ1, O1, st, seqR q' s0 fun p ep q1 => ?_⟩
    intro v F2 H2 O2 A2 st2 r2 s2 pu2 _
    cases z : p.1 <;> rw [z] at q1 r2 <;> (try exact q1.elim)
    refine ⟨_, r2.1, k _ p.2 F2 H2 O2 A2 q1 st2 ?_ s2.ff⟩
    exact (s0.less (O2 := O1) fun x hx => by show 0 < O1 x + T x; omega).trans s2
theorem spe_dnw : SPe .dnw := by
  intro X c g W kk sc Wx ast hc tk h
  unfold chkE at h
  split at h <;> rename_i heq <;> first | (cases heq; done) | (cases h; done) | skip
  refine PE.weak pe_dnewK fun σ H Q ⟨F, ρ, O, st, q⟩ => ?_
  unfold ev at q
  intro p hp
  have hf : F p = none := by
    cases e : F p with
    | none => rfl
    | some u => rw [st.same _ _ e] at hp; cases hp
  exact finishN (T := fun _ => 0) q st.stp st (Nw.lst st.same hp) (show Rep g F (upd H p (.dK [])) (.dct true false [] []) (.ref p) (at1 p) from ⟨p, [], rfl, ⟨hf, upd_same⟩, rfl, ⟨rfl, fun _ => rfl⟩, fun _ => rfl⟩) fun pu => by cases pu
theorem spe_sl {a lo hi : E} (ha : SPe a) (hl : SPe lo) (hh : SPe hi) : SPe (.sl a lo hi) := by
  intro X c g W kk sc Wx ast hc tk h
  unfold chkE at h
  split at h <;> rename_i heq <;> first | (cases heq; done) | (cases h; done) | skip
  cases heq
  rename_i x l u p2 pos
  rw [Bool.and_eq_true, Bool.and_eq_true] at h
  obtain ⟨⟨h1, h2⟩, h3⟩ := h
  refine PE.weak (pe_slice (sl_ok hc.K) (ha X c g W kk _ Wx _ hc tk h1) (po_ok hl hc tk h2) (po_ok hh hc tk h3)) fun σ H Q ⟨F, ρ, O, st, q⟩ => ?_
  unfold ev at q
  refine ⟨F, ρ, O, st, seqR (T := fun _ => 0) q st.stp fun p ep q1 => ?_⟩
  intro v F1 H1 O1 A1 st1 r1 s1 pu1 _
  obtain ⟨hp, q1⟩ := postIf q1
  by_cases hq : (pure lo && pure hi) = true
  · simp only [Bool.and_eq_true] at hq
    refine rd_part hq.1 st1 s1 q1 fun o1 ρ2 q2 st2 => rd_part hq.2 st2 s1 q2 fun o2 ρ3 q3 st3 => ?_
    obtain ⟨r, er, q4⟩ := seqO q3
    exact ⟨F1, p.1, A1, r, st3.same, r1, er, fun v' F' H' A n rr => finishN q4 s1 st3 n rr fun pu => by cases pu⟩
  · rw [Bool.not_eq_true] at hq
    rw [hq, Bool.false_or] at hp
    refine rd_part2 st1 s1 q1 fun o1 ρ2 F2 H2 O2 T2 q2 st2 s2 f2 => rd_part2 st2 s2 q2 fun o2 ρ3 F3 H3 O3 T3 q3 st3 s3 f3 => ?_
    obtain ⟨r, er, q4⟩ := seqO q3
    exact ⟨F3, p.1, A1, r, st3.same, (r1.fr0 (H' := H2) f2 hp).fr0 f3 hp, er, fun v' F' H' A n rr => finishN q4 s3 st3 n rr fun pu => by cases pu⟩
theorem spe_rev {a : E} (ha : SPe a) : SPe (.rev a) := by
  intro X c g W kk sc Wx ast hc tk h
  unfold chkE at h
  split at h <;> rename_i heq <;> first | (cases heq; done) | (cases h; done) | skip
  cases heq
  refine PE.weak (pe_revL (ha X c g W kk _ Wx _ hc tk h)) fun σ H Q ⟨F, ρ, O, st, q⟩ => ?_
  unfold ev at q
  refine ⟨F, ρ, O, st, seqR (T := fun _ => 0) q st.stp fun p ep q1 => ?_⟩
  intro v F1 H1 O1 A1 st1 r1 s1 pu1 _
  cases z : p.1 <;> rw [z] at q1 r1 <;> (try exact q1.elim)
  obtain ⟨hn, q2⟩ := postIf q1
  obtain ⟨b, ws, B, eb, rd, rl, _⟩ := rep_lst st1.same r1
  have k := repL_reverse hn rl
  exact ⟨b, ws, eb, .inl rd, fun p hp => finishN q2 s1 st1 (Nw.lst st1.same hp) (rep_newL st1.same hp k.2 k.1) fun pu => by cases pu⟩

theorem repL_rng {g : Gm} {F H : Hp} (j : Int) : RepL g F H (rngI 0 j.toNat) (rgV 0 j) (fun _ => 0) := by
  have h := repL_ints (g := g) (F := F) (H := H) ((List.range j.toNat).map fun i => (0 : Int) + (i : Nat))
  have e1 : ((List.range j.toNat).map fun i => (0 : Int) + (i : Nat)).map D.int = rngI 0 j.toNat := by rw [List.map_map]; rfl
  have e2 : ((List.range j.toNat).map fun i => (0 : Int) + (i : Nat)).map V.int = rgV 0 j := by
    rw [List.map_map]
    unfold rgV
    rw [Int.sub_zero]
    rfl
  rw [e1, e2] at h
  exact h
theorem noOwnL_rng (lo : Int) (n : Nat) : noOwnL (rngI lo n) = true := noOwnL_of fun x hx => by
  simp only [rngI, List.mem_map] at hx
  obtain ⟨i, _, e⟩ := hx
  rw [← e]; rfl
theorem spe_trg {l : Bool} {a : E} (ha : SPe a) : SPe (.trg l a) := by
  intro X c g W kk sc Wx ast hc tk h
  unfold chkE at h
  split at h <;> rename_i heq <;> first | (cases heq; done) | (cases h; done) | skip
  cases heq
  rename_i x p1 r p2 y pos1 pos2
  simp only [Bool.and_eq_true, decide_eq_true_eq] at h
  obtain ⟨⟨⟨⟨⟨hh, hx⟩, hr⟩, hgx⟩, hgr⟩, h1⟩ := h
  have hcalm := hc.calm (by simpa using hh)
  subst hr
  have hmr : X.mg "range" = none := hc.blt _ (by simp [bNames])
  have prg := prg_1 (p := p2) (pos := pos1) (gl_ok hc hgr) hmr (ha X c g W kk _ Wx _ hc tk h1) (star_ok (chk_ok1 h1))
  have rd : ∀ {σ : St} {H : Hp} {Q : VK}, tE g W Wx (.trg l a) σ H Q → tRg1 (tE g W Wx a) σ H fun i j H1 => RgOk i j ∧ ∀ q, H1 q = none → Q (.ref q) (upd H1 q (match l with | true => .lst (rgV i j) | false => .tup (rgV i j))) := by
    rintro σ H Q ⟨F, ρ, O, st, q⟩
    unfold ev at q
    refine ⟨F, ρ, O, st, seqR (T := fun _ => 0) q st.stp fun p ep q1 => ?_⟩
    intro v F1 H1 O1 A1 st1 r1 s1 pu1 _
    cases z : p.1 <;> rw [z] at q1 r1 <;> (try exact q1.elim)
    rename_i j
    obtain ⟨hn, q2⟩ := postIf q1
    simp only [Bool.and_eq_true, decide_eq_true_eq] at hn
    refine ⟨j, r1.1, RgOk.of_le (by omega) (by omega) (by omega) (by omega), fun pq hp => ?_⟩
    cases l with
    | true => exact finishN q2 s1 st1 (Nw.lst st1.same hp) (rep_newL st1.same hp (noOwnL_rng _ _) (repL_rng j)) fun pu => by cases pu
    | false => exact finishN q2 s1 st1 (Nw.tup st1.same hp) (rep_newT st1.same hp (noOwnL_rng _ _) (repL_rng j)) fun pu => by cases pu
  cases l with
  | true =>
    simp only [if_true] at hx
    subst hx
    exact PE.weak (pe_listRg hcalm (gl_ok hc hgx) (hc.blt _ (by simp [bNames])) prg (star_ok rfl)) fun σ H Q q => rd q
  | false =>
    simp only [Bool.false_eq_true, if_false] at hx
    subst hx
    exact PE.weak (pe_tupRg hcalm (gl_ok hc hgx) (hc.blt _ (by simp [bNames])) prg (star_ok rfl)) fun σ H Q q => rd q

theorem spe_sset {a : E} (ha : SPe a) : SPe (.sset a) := by
  intro X c g W kk sc Wx ast hc tk h
  unfold chkE at h
  split at h <;> rename_i heq <;> first | (cases heq; done) | (cases h; done) | skip
  cases heq
  rename_i x p1 r p2 y pos1 pos2
  simp only [Bool.and_eq_true, decide_eq_true_eq] at h
  obtain ⟨⟨⟨⟨⟨hh, hx⟩, hr⟩, hgx⟩, hgr⟩, h1⟩ := h
  have hcalm := hc.calm (by simpa using hh)
  subst hr hx
  refine PE.weak (pe_sset hcalm (gl_ok hc hgx) (hc.blt _ (by simp [bNames])) (gl_ok hc hgr) (hc.blt _ (by simp [bNames])) (ha X c g W kk _ Wx _ hc tk h1) (star_ok (chk_ok1 h1))) fun σ H Q ⟨F, ρ, O, st, q⟩ => ?_
  unfold ev at q
  refine ⟨F, ρ, O, st, seqR (T := fun _ => 0) q st.stp fun p ep q1 => ?_⟩
  intro v F1 H1 O1 A1 st1 r1 s1 pu1 _
  obtain ⟨d, ed, q2⟩ := seqO q1
  by_cases hT : ∃ xs, p.1 = .tup xs
  · obtain ⟨xs, z⟩ := hT
    rw [z] at ed r1
    simp only [ssetS] at ed
    split at ed
    · rename_i ns hi
      split at ed
      · rename_i hn
        cases ed
        obtain ⟨b, ws, eb, ta, rl⟩ := r1
        have := rep_ints rl hi
        subst this eb
        exact ⟨b, ns, rfl, .inr ⟨by rw [hc.K]; exact sqT_same st1.same ta.sq, hn⟩, ⟨by have := usI_le ns; omega, by omega⟩, fun pq hp => finishN q2 s1 st1 (Nw.lst st1.same hp) (rep_newL st1.same hp (noOwnL_ints _) (repL_ints _)) fun pu => by cases pu⟩
      · cases ed
    · cases ed
  · have hL : ∃ o xs, p.1 = .lst o xs := by
      cases z : p.1 <;> rw [z] at ed <;> simp only [ssetS] at ed <;> (try cases ed)
      · exact absurd ⟨_, z⟩ hT
      · exact ⟨_, _, rfl⟩
    obtain ⟨o, xs, z⟩ := hL
    rw [z] at ed r1
    simp only [ssetS] at ed
    split at ed
    · rename_i ns hi
      split at ed
      · rename_i hn
        cases ed
        obtain ⟨b, ws, B, eb, rd, rl, _⟩ := rep_lst st1.same r1
        have := rep_ints rl hi
        subst this eb
        exact ⟨b, ns, rfl, .inl (.inl rd), hn, fun pq hp => finishN q2 s1 st1 (Nw.lst st1.same hp) (rep_newL st1.same hp (noOwnL_ints _) (repL_ints _)) fun pu => by cases pu⟩
      · cases ed
    · cases ed

/-! ### kept values -/
theorem set_same {σ : St} {i : Nat} {v : V} (h : σ[i]? = some (some v)) : σ.set i (some v) = σ := by
  apply List.ext_getElem?
  intro j
  by_cases e : i = j
  · subst e
    have hl := (List.getElem?_eq_some_iff.mp h).1
    rw [List.getElem?_set_self hl, h]
  · rw [List.getElem?_set_ne e]
theorem frSlot_ok {g : Gm} {F H : Hp} {O : Ow} {σ : St} {ρ ρ' : Env} {i : Nat} (st : Sta g F H ρ σ O) (h : frSlot ρ i = some ρ') : ∃ F' O', Sta g F' H ρ' σ O' ∧ Stp F H O F' H O' := by
  unfold frSlot at h
  split at h
  · rename_i d hd
    split at h
    · rename_i hf
      cases h
      obtain ⟨v, B, C, e1, r, rs, q⟩ := st.slots.take hd
      have ob := st.one
      have fn : ∀ x, 0 < B x → F x = none := fun x hx => (r.own x hx).1
      have sm : Same F (frz F H B) := frz_same fn
      have sb : Same (frz F H B) H := frz_sub st.same
      have r' : Rep g (frz F H B) H (fz d) v (fun _ => 0) := r.freeze sm hf fun x hx => frz_at hx
      have rs' : RepS g (frz F H B) H (put ρ i none) σ C := rs.fr sm fun x hx => by
        have h1 := ob x
        rw [q x] at h1
        refine ⟨?_, rfl⟩
        unfold frz
        rw [if_neg (by omega)]
        exact (rs.own x hx).1
      have fl := rs'.fill (slot_lt hd) r'
      rw [set_same e1] at fl
      refine ⟨frz F H B, C, ⟨sb, fl.eqO fun x => by omega, fun x => by have := ob x; rw [q x] at this; omega⟩, sm, sb, fun _ _ _ h => h, fun a h1 h2 h3 => ?_, fun a ha => .inl (by rw [q a]; omega)⟩
      unfold frz
      rw [if_neg (by rw [q a] at h3; omega)]
      exact h1
    · cases h
  · cases h
theorem frSlot_at {ρ ρ' : Env} {i : Nat} {d : D} (h : frSlot ρ i = some ρ') (e : slot ρ' i = some d) : noOwn d = true := by
  unfold frSlot at h
  split at h
  · rename_i z hz
    split at h
    · rename_i hf
      cases h
      rw [slot_put_same (slot_lt hz)] at e
      cases e
      exact fz_noOwn hf
    · cases h
  · cases h
theorem spe_vf {i : Nat} : SPe (.vf i) := by
  intro X c g W kk sc Wx ast hc tk h
  unfold chkE at h
  split at h <;> rename_i heq <;> first | (cases heq; done) | (cases h; done) | skip
  cases heq
  refine PE.weak (pe_slot hc h) fun σ H Q ⟨F, ρ, O, st, q⟩ => ?_
  unfold ev at q
  cases hf : frSlot ρ i with
  | none => rw [hf] at q; exact q.elim
  | some ρ' =>
    rw [hf] at q
    obtain ⟨F', O', st', sp⟩ := frSlot_ok st hf
    obtain ⟨d, e, q⟩ := seqO q
    obtain ⟨v, B, C, e1, r, _, _⟩ := st'.slots.take e
    have hz := r.zero (frSlot_at hf e)
    have eB : B = fun _ => 0 := funext hz
    subst eB
    exact ⟨v, e1, finishS q (stp0 sp) st' r fun pu => by cases pu⟩
theorem bindOk {α : Type} {x : R α} : x.bind (fun p => .ok p) = x := by cases x <;> rfl
theorem spe_toV {X : Cx} {c : Ck} {g : Gm} {W : Wd} {kk : Nat} {sc : Scope} {Wx : WX} {e : E} {ast : Expr} (he : SPe e) (hc : CE X c g W kk sc) (tk : Takes X Wx) (h : chkE c e sc ast = true) : PE X ast (tV g W Wx e) := by
  by_cases hm : ∃ i, e = .mv i
  · obtain ⟨i, rfl⟩ := hm
    unfold chkE at h
    split at h <;> rename_i heq <;> first | (cases heq; done) | (cases h; done) | skip
    cases heq
    refine PE.weak (pe_slot hc h) fun σ H Q ⟨F, ρ, O, st, q⟩ => ?_
    unfold toV at q
    simp only at q
    cases hd : slot ρ i with
    | none => rw [hd] at q; exact q.elim
    | some d =>
      rw [hd] at q
      obtain ⟨v, B, C, e1, r, rs, qq⟩ := st.slots.take hd
      refine ⟨v, e1, q v F H C B ⟨st.same, rs, fun x => by have := st.one x; rw [qq x] at this; omega⟩ r ?_ (fun x => by have := st.one x; rw [qq x] at this; omega) trivial⟩
      exact (Stp.refl st.same).less fun x hx => by
        have hx : 0 < C x + B x := hx
        rw [qq x]; omega
  · have hv : ∀ ρ, toV e (ev W e) ρ = if pure e = true then (ev W e ρ).bind fun p => if noOwn p.1 = true then .ok p else match root e with
        | some i => match frSlot ρ i with
          | some ρ' => (ev W e ρ').bind fun p => if noOwn p.1 = true then .ok p else .bad
          | none => .bad
        | none => .bad
      else ev W e ρ := by
      intro ρ
      cases e <;> first
        | rfl
        | exact absurd ⟨_, rfl⟩ hm
    refine PE.weak (he X c g W kk sc Wx ast hc tk h) fun σ H Q ⟨F, ρ, O, st, q⟩ => ?_
    rw [hv] at q
    have fin : ∀ (ρ0 : Env) (F0 : Hp) (O0 : Ow), Sta g F0 H ρ0 σ O0 → Stp F H O F0 H O0 → pure e = true → PostR g Wx (okE g false none F H O σ Q) ((ev W e ρ0).bind fun p => if noOwn p.1 = true then .ok p else .bad) F H O σ → tE g W Wx e σ H Q := by
      intro ρ0 F0 O0 st0 s0 hp q
      refine ⟨F0, ρ0, O0, st0, seqR q (stp0 s0) fun p ep q1 => ?_⟩
      obtain ⟨hn, q2⟩ := postIf q1
      intro v F1 H1 O1 A1 st1 r1 s1 pu1 _
      exact finish0 (T := fun _ => 0) q2 (stp0 (s0.trans s1.drop)) st1 r1 (fun x => by rw [r1.zero hn x]; exact Nat.zero_le _) (fun z => by cases z) (fun _ x => by rw [r1.zero hn x]; exact st1.one x)
    split at q
    · rename_i hp
      by_cases ho : ∃ p, ev W e ρ = .ok p ∧ noOwn p.1 = false
      · obtain ⟨p, ep, hn⟩ := ho
        rw [ep] at q
        have q : PostR g Wx (okE g false none F H O σ Q) (if noOwn p.1 = true then .ok p else match root e with
          | some i => match frSlot ρ i with
            | some ρ' => (ev W e ρ').bind fun p => if noOwn p.1 = true then .ok p else .bad
            | none => .bad
          | none => .bad) F H O σ := q
        rw [hn, if_neg Bool.false_ne_true] at q
        cases hr : root e with
        | none => rw [hr] at q; exact q.elim
        | some i =>
          rw [hr] at q
          simp only at q
          cases hf : frSlot ρ i with
          | none => rw [hf] at q; exact q.elim
          | some ρ' =>
            rw [hf] at q
            obtain ⟨F0, O0, st0, s0⟩ := frSlot_ok st hf
            exact fin ρ' F0 O0 st0 s0 hp q
      · refine fin ρ F O st (Stp.refl st.same) hp ?_
        cases z : ev W e ρ with
        | ok p =>
          rw [z] at q
          cases hn : noOwn p.1 with
          | true =>
            have q : PostR g Wx (okE g false none F H O σ Q) (if noOwn p.1 = true then .ok p else match root e with
              | some i => match frSlot ρ i with
                | some ρ' => (ev W e ρ').bind fun p => if noOwn p.1 = true then .ok p else .bad
                | none => .bad
              | none => .bad) F H O σ := q
            rw [hn, if_pos rfl] at q
            show PostR g Wx (okE g false none F H O σ Q) (if noOwn p.1 = true then .ok p else .bad) F H O σ
            rw [hn, if_pos rfl]
            exact q
          | false => exact absurd ⟨p, z, hn⟩ ho
        | ex c ρ2 => rw [z] at q; exact q
        | bad => rw [z] at q; exact q
    · rename_i hp
      refine ⟨F, ρ, O, st, ?_⟩
      rw [← bindOk (x := ev W e ρ)] at q
      refine seqR (T := fun _ => 0) q st.stp fun p ep q1 => ?_
      intro v F1 H1 O1 A1 st1 r1 s1 pu1 _
      have hp : pure e = false := by simpa using hp
      rw [hp] at pu1
      exact q1 v F1 H1 O1 A1 st1 r1 s1 pu1 trivial

/-! ### lists of kept values -/
def okL (g : Gm) (F H : Hp) (O : Ow) (σ : St) (Q : List V → Hp → Prop) : List D × Env → Prop := fun p =>
  ∀ vs F' H' O' A, Sta g F' H' p.2 σ O' → RepL g F' H' p.1 vs A → Stp F H O F' H' (fun x => O' x + A x) → (∀ x, O' x + A x ≤ 1) → Q vs H'
def tVs (g : Gm) (W : Wd) (Wx : WX) (es : Es) : TA := fun σ H Q => ∃ F ρ O, Sta g F H ρ σ O ∧ PostR g Wx (okL g F H O σ Q) (evs W es ρ) F H O σ
def AllE (P : E → Prop) : Es → Prop
  | .nil => True
  | .cons e es => P e ∧ AllE P es
theorem pa_evs {X : Cx} {c : Ck} {g : Gm} {W : Wd} {kk : Nat} {sc : Scope} {Wx : WX} (hc : CE X c g W kk sc) (tk : Takes X Wx) : ∀ {es : Es} {xs : List Expr}, AllE SPe es → chkEs c es sc xs = true → PA X xs (tVs g W Wx es)
  | .nil, [], _, _ => PA.weak pa_nil fun σ H Q ⟨F, ρ, O, st, q⟩ => by
    unfold evs at q
    exact q [] F H O (fun _ => 0) st ⟨rfl, fun _ => rfl⟩ st.stp (fun x => st.one x)
  | .nil, _ :: _, _, h => by simp [chkEs] at h
  | .cons e es, [], _, h => by simp [chkEs] at h
  | .cons e es, x :: xs, ha, h => by
    simp only [chkEs, Bool.and_eq_true] at h
    refine PA.weak (pa_cons (spe_toV ha.1 hc tk h.1) (pa_evs hc tk ha.2 h.2) (star_ok (chk_ok1 h.1))) fun σ H Q ⟨F, ρ, O, st, q⟩ => ?_
    unfold evs at q
    refine ⟨F, ρ, O, st, seqR (T := fun _ => 0) q st.stp fun p ep q1 => ?_⟩
    intro v F1 H1 O1 A1 st1 r1 s1 pu1 _
    refine ⟨F1, p.2, O1, st1, seqR q1 s1 fun p2 ep2 q2 => ?_⟩
    intro vs F2 H2 O2 A2 st2 r2 s2 h2
    have fr := s2.frame r1 fun x hx => by have := pu1 x; omega
    refine q2 (v :: vs) F2 H2 O2 (fun x => A1 x + A2 x) st2 ⟨v, vs, A1, A2, rfl, fr.1, r2, fun _ => rfl⟩ ((s1.trans s2.more).less fun x hx => ?_) fun x => ?_
    · have hx : 0 < O2 x + (A1 x + A2 x) := hx
      show 0 < O2 x + A2 x + A1 x
      omega
    · have h3 := h2 x
      have h4 := fr.2 x
      have h5 := pu1 x
      show O2 x + (A1 x + A2 x) ≤ 1
      by_cases c : 0 < A1 x
      · have : O2 x + A2 x = 0 := h4 c
        omega
      · omega
theorem spe_tup {es : Es} (ha : AllE SPe es) : SPe (.tup es) := by
  intro X c g W kk sc Wx ast hc tk h
  unfold chkE at h
  split at h <;> rename_i heq <;> first | (cases heq; done) | (cases h; done) | skip
  cases heq
  refine PE.weak (pe_tup (pa_evs hc tk ha h)) fun σ H Q ⟨F, ρ, O, st, q⟩ => ?_
  unfold ev at q
  refine ⟨F, ρ, O, st, seqR (T := fun _ => 0) q st.stp fun p ep q1 => ?_⟩
  intro vs F1 H1 O1 A1 st1 r1 s1 h1
  obtain ⟨hz, q2⟩ := postIf q1
  refine ⟨by rw [← r1.length]; simpa [szOk] using hz, fun a ha => ?_⟩
  have nw := Nw.tup (o := .tup vs) st1.same ha
  have k := st1.nw nw
  have nf : F1 a = none := by
    cases e : F1 a with
    | none => rfl
    | some u => rw [st1.same a u e] at ha; cases ha
  have r2 : RepL g (upd F1 a (.tup vs)) (upd H1 a (.tup vs)) p.1 vs A1 := r1.fr nw.ff fun x hx => by
    obtain ⟨f, u, e⟩ := r1.own x hx
    exact ⟨nw.newF x f (by rw [e]; simp), by rw [nw.hh x u e, e]⟩
  refine q2 (.ref a) _ _ O1 A1 k.1 ⟨a, vs, rfl, .inl upd_same, r2⟩ ((s1.trans nw.stp).less fun x hx => by have hx : 0 < O1 x + A1 x := hx; show 0 < O1 x + A1 x + 0; omega) h1 trivial
theorem spe_lst {es : Es} (ha : AllE SPe es) : SPe (.lst es) := by
  intro X c g W kk sc Wx ast hc tk h
  unfold chkE at h
  split at h <;> rename_i heq <;> first | (cases heq; done) | (cases h; done) | skip
  cases heq
  refine PE.weak (pe_lst (pa_evs hc tk ha h)) fun σ H Q ⟨F, ρ, O, st, q⟩ => ?_
  unfold ev at q
  refine ⟨F, ρ, O, st, seqR (T := fun _ => 0) q st.stp fun p ep q1 => ?_⟩
  intro vs F1 H1 O1 A1 st1 r1 s1 h1
  obtain ⟨hz, q2⟩ := postIf q1
  refine ⟨by rw [← r1.length]; simpa [szOk] using hz, fun a ha => ?_⟩
  have nw := Nw.lst (o := .lst vs) st1.same ha
  have k := st1.nw nw
  have nf : F1 a = none := by
    cases e : F1 a with
    | none => rfl
    | some u => rw [st1.same a u e] at ha; cases ha
  have r2 : RepL g F1 (upd H1 a (.lst vs)) p.1 vs A1 := r1.fr nw.ff fun x hx => by
    obtain ⟨f, u, e⟩ := r1.own x hx
    exact ⟨nw.newF x f (by rw [e]; simp), by rw [nw.hh x u e, e]⟩
  have aA : A1 a = 0 := by
    by_cases z : 0 < A1 a
    · obtain ⟨_, u, e⟩ := r1.own a z
      rw [ha] at e; cases e
    · omega
  refine q2 (.ref a) _ _ O1 (fun x => at1 a x + A1 x) k.1 ⟨a, vs, A1, rfl, nf, upd_same, r2, fun _ => rfl⟩ ((s1.trans nw.stp).less fun x hx => by have hx : 0 < O1 x + (at1 a x + A1 x) := hx; show 0 < O1 x + A1 x + at1 a x; omega) (fun x => ?_) trivial
  have h2 := h1 x
  have h3 := k.2 x
  show O1 x + (at1 a x + A1 x) ≤ 1
  by_cases e : x = a
  · subst e; omega
  · rw [at1_ne e]; omega
end PV

/-! PVn: calls of defs. -/
namespace PV
open PySem L2

theorem plain_ok {c : Ck} {sc : Scope} {env : PySem.Env} {pos : Pos} : ∀ {es : Es} {xs : List Expr}, chkEs c es sc xs = true → (backTo pos (starEach xs env)).any (·.1) = false
  | .nil, [], _ => rfl
  | .nil, _ :: _, h => by simp [chkEs] at h
  | .cons e es, [], h => by simp [chkEs] at h
  | .cons e es, x :: xs, h => by
    simp only [chkEs, Bool.and_eq_true] at h
    rw [star_ok (chk_ok1 h.1)]
    show (false || (backTo pos (starEach xs env)).any (·.1)) = false
    rw [plain_ok h.2]; rfl
theorem Stp.frameS {g : Gm} {F H F1 H1 : Hp} {O O1 T : Ow} {ρ : Env} {σ : St} (p : Stp F H O F1 H1 O1) (r : RepS g F H ρ σ T) (dis : ∀ x, 0 < T x → O x = 0) : RepS g F1 H1 ρ σ T ∧ ∀ x, 0 < T x → O1 x = 0 := by
  refine ⟨r.fr p.ff fun x hx => ?_, fun x hx => ?_⟩
  · obtain ⟨f, u, e⟩ := r.own x hx
    exact ⟨p.newF x f (by rw [e]; simp) (dis x hx), by rw [p.keep x u (dis x hx) e, e]⟩
  · obtain ⟨f, u, e⟩ := r.own x hx
    by_cases z : O1 x = 0
    · exact z
    · rcases p.newO x (by omega) with w | w
      · have := dis x hx; omega
      · rw [e] at w; cases w

/-! ### arguments -/
def okP (g : Gm) (F H : Hp) (O : Ow) (Q : List V → Hp → Prop) : List D → Prop := fun ds => ∀ vs A, RepL g F H ds vs A → (∀ x, 0 < A x → 0 < O x) → Q vs H
def tPs (g : Gm) (W : Wd) (Wx : WX) (es : Es) : TA := fun σ H Q => ∃ F ρ O, Sta g F H ρ σ O ∧ PostR g Wx (okP g F H O Q) (evp W es ρ) F H O σ
theorem pa_evp {X : Cx} {c : Ck} {g : Gm} {W : Wd} {kk : Nat} {sc : Scope} {Wx : WX} (hc : CE X c g W kk sc) (tk : Takes X Wx) : ∀ {es : Es} {xs : List Expr}, AllE SPe es → pureEs es = true → chkEs c es sc xs = true → PA X xs (tPs g W Wx es)
  | .nil, [], _, _, _ => PA.weak pa_nil fun σ H Q ⟨F, ρ, O, st, q⟩ => by
    unfold evp at q
    exact q [] (fun _ => 0) ⟨rfl, fun _ => rfl⟩ (fun _ h => absurd h (by simp))
  | .nil, _ :: _, _, _, h => by simp [chkEs] at h
  | .cons e es, [], _, _, h => by simp [chkEs] at h
  | .cons e es, x :: xs, ha, hp, h => by
    simp only [chkEs, Bool.and_eq_true] at h
    simp only [pureEs, Bool.and_eq_true] at hp
    refine PA.weak (pa_cons (ha.1 X c g W kk _ Wx _ hc tk h.1) (pa_evp hc tk ha.2 hp.2 h.2) (star_ok (chk_ok1 h.1))) fun σ H Q ⟨F, ρ, O, st, q⟩ => ?_
    unfold evp at q
    refine ⟨F, ρ, O, st, seqR (T := fun _ => 0) q st.stp fun p ep q1 => ?_⟩
    intro v F1 H1 O1 A1 st1 r1 s1 pu1 _
    rw [hp.1] at pu1
    obtain ⟨eF, eH, eO, hA⟩ := pu1
    subst eF eH eO
    refine ⟨F1, ρ, O1, st, seqR (T := fun _ => 0) q1 st.stp fun ds eds q2 => ?_⟩
    intro vs A r2 hO
    refine q2 (v :: vs) (fun x => A1 x + A x) ⟨v, vs, A1, A, rfl, r1, r2, fun _ => rfl⟩ fun x hx => ?_
    have hx : 0 < A1 x + A x := hx
    by_cases z : 0 < A x
    · exact hO x z
    · have := hA x; omega
def okA (g : Gm) (F H : Hp) (O : Ow) (σ : St) (Q : List V → Hp → Prop) : List D × Env → Prop := fun p =>
  ∀ vs F' H' O', Sta g F' H' p.2 σ O' → RepL g F' H' p.1 vs (fun _ => 0) → Stp F H O F' H' O' → Q vs H'
def tAs (g : Gm) (W : Wd) (Wx : WX) (es : Es) : TA := fun σ H Q => ∃ F ρ O, Sta g F H ρ σ O ∧ PostR g Wx (okA g F H O σ Q) (eva W es ρ) F H O σ
/-- frozen values -/
def okF (g : Gm) (F H : Hp) (O : Ow) (σ : St) (Q : VK) : D × Env → Prop := fun p =>
  ∀ v F' H' O', Sta g F' H' p.2 σ O' → Rep g F' H' p.1 v (fun _ => 0) → Stp F H O F' H' O' → noOwn p.1 = true → Q v H'
def tF (g : Gm) (W : Wd) (Wx : WX) (e : E) : TE := fun σ H Q => ∃ F ρ O, Sta g F H ρ σ O ∧ PostR g Wx (okF g F H O σ Q) (toF e (ev W e) ρ) F H O σ
/-- a temporary is frozen -/
theorem freeze_tmp {g : Gm} {F H : Hp} {O A : Ow} {ρ : Env} {σ : St} {d : D} {v : V} (st : Sta g F H ρ σ O) (r : Rep g F H d v A) (h : ∀ x, O x + A x ≤ 1) (hf : canFz d = true) :
    Sta g (frz F H A) H ρ σ O ∧ Rep g (frz F H A) H (fz d) v (fun _ => 0) ∧ Stp F H (fun x => O x + A x) (frz F H A) H O := by
  have fn : ∀ x, 0 < A x → F x = none := fun x hx => (r.own x hx).1
  have sm : Same F (frz F H A) := frz_same fn
  have sb : Same (frz F H A) H := frz_sub st.same
  refine ⟨⟨sb, st.slots.fr sm fun x hx => ⟨?_, rfl⟩, st.one⟩, r.freeze sm hf fun x hx => frz_at hx, sm, sb, fun _ _ _ h => h, fun a h1 h2 h3 => ?_, fun a ha => .inl (show 0 < O a + A a by omega)⟩
  · unfold frz
    rw [if_neg (by have := h x; omega)]
    exact (st.own x hx).1
  · have h3 : O a + A a = 0 := h3
    unfold frz
    rw [if_neg (by omega)]
    exact h1
theorem spe_toF {X : Cx} {c : Ck} {g : Gm} {W : Wd} {kk : Nat} {sc : Scope} {Wx : WX} {e : E} {ast : Expr} (he : SPe e) (hc : CE X c g W kk sc) (tk : Takes X Wx) (h : chkE c e sc ast = true) : PE X ast (tF g W Wx e) := by
  refine PE.weak (spe_toV he hc tk h) fun σ H Q ⟨F, ρ, O, st, q⟩ => ?_
  unfold toF at q
  refine ⟨F, ρ, O, st, seqR (T := fun _ => 0) q st.stp fun p ep q1 => ?_⟩
  obtain ⟨hf, q2⟩ := postIf q1
  intro v F1 H1 O1 A1 st1 r1 s1 pu1 _
  obtain ⟨k1, k2, k3⟩ := freeze_tmp st1 r1 pu1 hf
  exact q2 v _ H1 O1 k1 k2 (s1.trans k3) (fz_noOwn hf)
theorem seqR' {α : Type} {g : Gm} {Wx : WX} {x : R α} {okp okq : α → Prop} {F H : Hp} {O : Ow} {σ : St} (h : PostR g Wx okp x F H O σ) (k : ∀ a, x = .ok a → okp a → okq a) : PostR g Wx okq x F H O σ := by
  cases x with
  | ok a => exact k a rfl h
  | ex c ρ' => exact h
  | bad => exact h
theorem spe_fr {e : E} (he : SPe e) : SPe (.fr e) := by
  intro X c g W kk sc Wx ast hc tk h
  have h : chkE c e sc ast = true := by
    unfold chkE at h
    simp only [Bool.and_eq_true] at h
    exact h.2
  refine PE.weak (spe_toF he hc tk h) fun σ H Q ⟨F, ρ, O, st, q⟩ => ?_
  unfold ev at q
  refine ⟨F, ρ, O, st, seqR' q fun p ep q1 => ?_⟩
  intro v F1 H1 O1 st1 r1 s1 n1
  exact q1 v F1 H1 O1 (fun _ => 0) st1 r1 (stp0 s1) (fun x => st1.one x) trivial
theorem pa_eva {X : Cx} {c : Ck} {g : Gm} {W : Wd} {kk : Nat} {sc : Scope} {Wx : WX} (hc : CE X c g W kk sc) (tk : Takes X Wx) : ∀ {es : Es} {xs : List Expr}, AllE SPe es → chkEs c es sc xs = true → PA X xs (tAs g W Wx es)
  | .nil, [], _, _ => PA.weak pa_nil fun σ H Q ⟨F, ρ, O, st, q⟩ => by
    unfold eva at q
    exact q [] F H O st ⟨rfl, fun _ => rfl⟩ (Stp.refl st.same)
  | .nil, _ :: _, _, h => by simp [chkEs] at h
  | .cons e es, [], _, h => by simp [chkEs] at h
  | .cons e es, x :: xs, ha, h => by
    simp only [chkEs, Bool.and_eq_true] at h
    refine PA.weak (pa_cons (spe_toF ha.1 hc tk h.1) (pa_eva hc tk ha.2 h.2) (star_ok (chk_ok1 h.1))) fun σ H Q ⟨F, ρ, O, st, q⟩ => ?_
    unfold eva at q
    refine ⟨F, ρ, O, st, seqR (T := fun _ => 0) q st.stp fun p ep q1 => ?_⟩
    intro v F1 H1 O1 st1 r1 s1 n1
    refine ⟨F1, p.2, O1, st1, seqR q1 (stp0 s1) fun p2 ep2 q2 => ?_⟩
    intro vs F2 H2 O2 st2 r2 s2
    exact q2 (v :: vs) F2 H2 O2 st2 ⟨v, vs, _, _, rfl, r1.fr0 s2.ff n1, r2, fun _ => rfl⟩ (s1.trans s2)

theorem PE.or {X : Cx} {e : Expr} {t u : TE} (h : PE X e t) (k : PE X e u) : PE X e (fun σ H Q => t σ H Q ∨ u σ H Q) :=
  ⟨fun pins s σ H Q I q => q.elim (h.run pins s σ H Q I) (k.run pins s σ H Q I)⟩
/-! ### the call -/
/-- what was frozen for a call alone is owned again -/
def uf (F : Hp) (O : Ow) : Hp := fun x => if 0 < O x then none else F x
theorem unfreeze {g : Gm} {F H F' H' : Hp} {O B : Ow} {ρ : Env} {σ : St} (st : Sta g F H ρ σ O) (s : Stp (frz F H O) H (fun _ => 0) F' H' B) : Sta g (uf F' O) H' ρ σ O ∧ Stp F H O (uf F' O) H' O := by
  have sm : Same F (uf F' O) := fun a o e => by
    have z : ¬ 0 < O a := fun h => by rw [(st.own a h).1] at e; cases e
    unfold uf
    rw [if_neg z]
    exact s.ff a o (frz_same (fun x hx => (st.own x hx).1) a o e)
  have sb : Same (uf F' O) H' := fun a o e => by
    unfold uf at e
    split at e
    · cases e
    · exact s.fh a o e
  refine ⟨⟨sb, st.slots.fr sm fun x hx => ⟨by unfold uf; rw [if_pos hx], ?_⟩, st.one⟩, sm, sb, fun a o h e => s.keep a o rfl e, fun a h1 h2 h3 => ?_, fun a h => .inl h⟩
  · obtain ⟨f, u, e⟩ := st.own x hx
    rw [s.keep x u rfl e, e]
  · unfold uf
    rw [if_neg (by omega)]
    refine s.newF a ?_ h2 rfl
    unfold frz
    rw [if_neg (by omega)]
    exact h1
theorem scal_rep {g : Gm} {F H F' H' : Hp} {d : D} {v : V} {A : Ow} (h : isScal d = true) (r : Rep g F H d v A) : Rep g F' H' d v (fun _ => 0) := by
  cases d <;> simp only [isScal, Bool.false_eq_true] at h <;> exact ⟨r.1, fun _ => rfl⟩
/-- a call that owns none of the slots' things -/
theorem outside {g : Gm} {F H F' H' : Hp} {O B C : Ow} {ρ : Env} {σ : St} (st : Sta g F H ρ σ O) (s : Stp F H C F' H' B) (dis : ∀ x, 0 < C x → O x = 0) (dis2 : ∀ x, 0 < O x → C x = 0) : Sta g F' H' ρ σ O ∧ ∀ x, 0 < O x → B x = 0 := by
  have k := s.frameS st.slots dis2
  exact ⟨⟨s.fh, k.1, st.one⟩, k.2⟩
theorem spe_call {f : Nat} {es : Es} (ha : AllE SPe es) : SPe (.call f es) := by
  intro X c g W kk sc Wx ast hc tk h
  unfold chkE at h
  split at h <;> rename_i heq <;> first | (cases heq; done) | (cases h; done) | skip
  cases heq
  rename_i x p y ys pos
  simp only [Bool.and_eq_true, decide_eq_true_eq, nmOk] at h
  obtain ⟨⟨⟨⟨hh, hn⟩, hg⟩, hdb⟩, h1⟩ := h
  have hroom := hc.room (by simpa using hh)
  cases hfd : W.fd f with
  | none =>
    refine ⟨fun pins s σ H Q I q => ?_⟩
    obtain ⟨F, ρ, O, st, q⟩ := q
    unfold ev at q
    rw [hfd] at q
    exact q.elim
  | some fd =>
    obtain ⟨x', a, fdt, ps, e1, e2, hk, hb, Fn⟩ := hc.fns (by simpa using hh) f fd hfd
    rw [hn] at e1
    cases e1
    have base : ∀ {t : TA}, PA X (y :: ys) t → PE X (.Call (.Name x p) (y :: ys) [] pos) (tCallS (spOf g fd.io (W.call f)) (WE Wx) t) := fun {t} pa => by
      have h1' := h1
      cases es with
      | nil => simp [chkEs] at h1'
      | cons e es =>
        simp only [chkEs, Bool.and_eq_true] at h1'
        exact pe_callS Fn hroom (gl_ok hc hg) e2 hk hb (fun σ => passAt tk σ) pa hdb.1 (star_ok (chk_ok1 h1'.1)) (plain_ok h1'.2)
    have rdB : fd.io = false → ∀ σ H Q F ρ O, Sta g F H ρ σ O → PostR g Wx (okE g false none F H O σ Q) ((eva W es ρ).bind fun p => (match W.call f p.1 with
          | .ok r _ => .ok (r, p.2)
          | .ex c => .ex c p.2
          | .bad => .bad)) F H O σ → tCallS (spOf g fd.io (W.call f)) (WE Wx) (tAs g W Wx es) σ H Q := by
      intro hio σ H Q F ρ O st q
      refine ⟨F, ρ, O, st, seqR (T := fun _ => 0) q st.stp fun p ep q1 => ?_⟩
      intro vs F1 H1 O1 st1 r1 s1
      show spOf g fd.io (W.call f) vs H1 Q (WE Wx σ)
      rw [hio]
      refine ⟨F1, p.1, fun _ => 0, st1.same, r1, fun _ => by simp, fun _ _ => rfl, ?_⟩
      cases hcall : W.call f p.1 with
      | bad => rw [hcall] at q1; exact q1
      | ex cc =>
        rw [hcall] at q1
        obtain ⟨C, hC, q3⟩ := q1
        refine ⟨C, hC, fun F' H' s => ?_⟩
        have k := outside st1 s (fun x hx => absurd hx (by simp)) (fun _ _ => rfl)
        exact q3 F' H' O1 k.1 (s1.trans ⟨s.ff, s.fh, fun a o _ e => s.keep a o rfl e, fun a h1 h2 _ => s.newF a h1 h2 rfl, fun a h => .inl h⟩)
      | ok r out =>
        rw [hcall] at q1
        intro v F' H' B C rr hC hBC s
        have hC : ∀ x, C x = 0 := hC
        have k := outside st1 s (fun x hx => absurd hx (by simp)) (fun _ _ => rfl)
        refine q1 v F' H' O1 B k.1 rr (s1.trans ⟨s.ff, s.fh, fun a o _ e => s.keep a o rfl e, fun a h1 h2 _ => s.newF a h1 h2 rfl, fun a h => ?_⟩) (fun x => ?_) trivial
        · have h : 0 < O1 a + B a := h
          by_cases z : 0 < O1 a
          · exact .inl z
          · rcases s.newO a (show 0 < B a + C a by omega) with w | w
            · exact absurd w (by simp)
            · exact .inr w
        · have h2 := k.2 x
          have h3 := hBC x
          have h4 := st1.one x
          have h5 := hC x
          by_cases z : 0 < O1 x
          · have : B x + C x = 0 := h2 z
            omega
          · omega
    by_cases hp : (!fd.io && pureEs es) = true
    · -- all arguments pure
      simp only [Bool.and_eq_true, Bool.not_eq_true'] at hp
      refine PE.weak (PE.or (base (pa_evp hc tk ha hp.2 h1)) (base (pa_eva hc tk ha h1))) fun σ H Q ⟨F, ρ, O, st, q⟩ => ?_
      unfold ev at q
      rw [hfd] at q
      have q : PostR g Wx (okE g false none F H O σ Q) (if (!fd.io && pureEs es && callP W.call f (evp W es ρ)) = true then
        (evp W es ρ).bind fun ds => if canFzL ds = true then (match W.call f (fzL ds) with
          | .ok r _ => if (isScal r || noOwnL ds) = true then .ok (r, ρ) else .bad
          | .ex c => .ex c ρ
          | .bad => .bad) else .bad
        else if fd.io = true then _ else (eva W es ρ).bind fun p => (match W.call f p.1 with
          | .ok r _ => .ok (r, p.2)
          | .ex c => .ex c p.2
          | .bad => .bad)) F H O σ := q
      by_cases hcp : callP W.call f (evp W es ρ) = true
      case neg =>
        rw [if_neg (by simp [hcp]), if_neg (by rw [hp.1]; exact Bool.false_ne_true)] at q
        exact .inr (rdB hp.1 σ H Q F ρ O st q)
      refine .inl ?_
      rw [if_pos (by rw [hp.1, hp.2, hcp]; rfl)] at q
      refine ⟨F, ρ, O, st, seqR (T := fun _ => 0) q st.stp fun ds eds q1 => ?_⟩
      intro vs A r1 hA
      obtain ⟨hf, q2⟩ := postIf q1
      show spOf g fd.io (W.call f) vs H Q (WE Wx σ)
      rw [hp.1]
      cases hno : noOwnL ds with
      | true =>
        rw [fzL_id hno] at q2
        refine ⟨F, ds, fun _ => 0, st.same, r1.eqA (r1.zero hno), fun _ => by simp, fun _ _ => rfl, ?_⟩
        cases hcall : W.call f ds with
        | bad => rw [hcall] at q2; exact q2
        | ex cc =>
          rw [hcall] at q2
          obtain ⟨C, hC, q3⟩ := q2
          refine ⟨C, hC, fun F' H' s => ?_⟩
          have k := outside st s (fun x hx => absurd hx (by simp)) (fun _ _ => rfl)
          refine q3 F' H' O k.1 ⟨s.ff, s.fh, fun a o _ e => s.keep a o rfl e, fun a h1 h2 _ => s.newF a h1 h2 rfl, fun a h => .inl h⟩
        | ok r out =>
          rw [hcall] at q2
          obtain ⟨_, q3⟩ := postIf q2
          intro v F' H' B C rr hC hBC s
          have hC : ∀ x, C x = 0 := hC
          have k := outside st s (fun x hx => absurd hx (by simp)) (fun _ _ => rfl)
          refine q3 v F' H' O B k.1 rr ⟨s.ff, s.fh, fun a o _ e => s.keep a o rfl e, fun a h1 h2 _ => s.newF a h1 h2 rfl, fun a h => ?_⟩ (fun x => ?_) trivial
          · have h : 0 < O a + B a := h
            by_cases z : 0 < O a
            · exact .inl z
            · rcases s.newO a (show 0 < B a + C a by omega) with w | w
              · exact absurd w (by simp)
              · exact .inr w
          · have h2 := k.2 x
            have h3 := hBC x
            have h4 := st.one x
            have h5 := hC x
            by_cases z : 0 < O x
            · have : B x + C x = 0 := h2 z
              omega
            · omega
      | false =>
        have fn : ∀ x, 0 < O x → F x = none := fun x hx => (st.own x hx).1
        refine ⟨frz F H O, fzL ds, fun _ => 0, frz_sub st.same, r1.freeze (frz_same fn) hf fun x hx => frz_at (hA x hx), fun _ => by simp, fun _ _ => rfl, ?_⟩
        cases hcall : W.call f (fzL ds) with
        | bad => rw [hcall] at q2; exact q2
        | ex cc =>
          rw [hcall] at q2
          obtain ⟨C, hC, q3⟩ := q2
          refine ⟨C, hC, fun F' H' s => ?_⟩
          have k := unfreeze st s
          exact q3 _ H' O k.1 k.2
        | ok r out =>
          rw [hcall] at q2
          obtain ⟨hs, q3⟩ := postIf q2
          rw [hno, Bool.or_false] at hs
          intro v F' H' B C rr hC hBC s
          have k := unfreeze st s
          exact q3 v _ H' O (fun _ => 0) k.1 (scal_rep hs rr) (stp0 k.2) (fun x => st.one x) trivial
    · cases hio : fd.io with
      | false =>
        have hpe : pureEs es = false := by
          rw [hio] at hp
          simpa using hp
        refine PE.weak (base (pa_eva hc tk ha h1)) fun σ H Q ⟨F, ρ, O, st, q⟩ => ?_
        unfold ev at q
        rw [hfd] at q
        have q : PostR g Wx (okE g false none F H O σ Q) (if (!fd.io && pureEs es && callP W.call f (evp W es ρ)) = true then _ else if fd.io = true then _ else (eva W es ρ).bind fun p => (match W.call f p.1 with
          | .ok r _ => .ok (r, p.2)
          | .ex c => .ex c p.2
          | .bad => .bad)) F H O σ := q
        rw [if_neg (by intro z; rw [Bool.and_eq_true] at z; exact hp z.1), if_neg (by rw [hio]; exact Bool.false_ne_true)] at q
        exact rdB hio σ H Q F ρ O st q
      | true =>
        by_cases hv : ∃ i es', es = .cons (.var i) es'
        · obtain ⟨i, es', rfl⟩ := hv
          have h1' := h1
          simp only [chkEs, Bool.and_eq_true] at h1'
          have hy := h1'.1
          unfold chkE at hy
          split at hy <;> rename_i heq <;> first | (cases heq; done) | (cases hy; done) | skip
          cases heq
          refine PE.weak (base (pa_cons (pe_slot hc hy) (pa_eva hc tk ha.2 h1'.2) rfl)) fun σ H Q ⟨F, ρ, O, st, q⟩ => ?_
          unfold ev at q
          rw [hfd] at q
          have q : PostR g Wx (okE g false none F H O σ Q) (if (!fd.io && pureEs (.cons (.var i) es') && callP W.call f (evp W (.cons (.var i) es') ρ)) = true then _ else if fd.io = true then (ofO (slot ρ i)).bind fun _ => (eva W es' ρ).bind fun p => (ofO (slot p.2 i)).bind fun d => (match W.call f (d :: p.1) with
            | .ok r (some o) => .ok (r, put p.2 i (some o))
            | .ex c => .ex c (put p.2 i none)
            | _ => .bad) else _) F H O σ := q
          rw [if_neg (by intro z; rw [Bool.and_eq_true] at z; exact hp z.1), if_pos hio] at q
          obtain ⟨d00, ed00, q⟩ := seqO q
          obtain ⟨v, _, _, ev', _, _, _⟩ := st.slots.take ed00
          refine ⟨v, ev', F, ρ, O, st, seqR (T := fun _ => 0) q st.stp fun p ep q1 => ?_⟩
          intro vs F1 H1 O1' st1' r1 s1
          obtain ⟨d, ed, q1⟩ := seqO q1
          obtain ⟨v2, B, O1, ev2, rd1, rs1, qq⟩ := st1'.slots.take ed
          rw [ev'] at ev2
          injection ev2 with ev2
          injection ev2 with ev2
          subst ev2
          have st1 : Sta g F1 H1 (put p.2 i none) σ O1 := ⟨st1'.same, rs1, fun x => by have := st1'.one x; rw [qq x] at this; omega⟩
          have s01 : Stp F H O F1 H1 (fun x => O1 x + B x) := s1.less fun x hx => by have hx : 0 < O1 x + B x := hx; rw [qq x]; omega
          show spOf g fd.io (W.call f) (v :: vs) H1 Q (WE Wx σ)
          rw [hio]
          refine ⟨F1, d :: p.1, B, st1.same, ⟨v, vs, B, _, rfl, rd1, r1, fun x => (Nat.add_zero _).symm⟩, fun x => by have := st1'.one x; rw [qq x] at this; omega, fun z => by (cases z), ?_⟩
          have d1 : ∀ x, 0 < B x → O1 x = 0 := fun x hx => by have := st1'.one x; rw [qq x] at this; omega
          have d2 : ∀ x, 0 < O1 x → B x = 0 := fun x hx => by
            by_cases z : 0 < B x
            · have := d1 x z; omega
            · omega
          cases hcall : W.call f (d :: p.1) with
          | bad => rw [hcall] at q1; exact q1
          | ex cc =>
            rw [hcall] at q1
            obtain ⟨C', hC, q3⟩ := q1
            refine ⟨C', hC, fun F' H' s => ?_⟩
            have k := outside st1 s d1 d2
            have s2 : Stp F1 H1 (fun x => O1 x + B x) F' H' O1 := ((s.more (T := O1)).less (O2 := O1) fun x hx => by show 0 < 0 + O1 x; omega) |> fun z => ⟨z.ff, z.fh, fun a o h e => z.keep a o (by have h : O1 a + B a = 0 := h; show B a + O1 a = 0; omega) e, fun a h1 h2 h3 => z.newF a h1 h2 (by have h3 : O1 a + B a = 0 := h3; show B a + O1 a = 0; omega), fun a h => by
              rcases z.newO a h with w | w
              · exact .inl (by have w : 0 < B a + O1 a := w; show 0 < O1 a + B a; omega)
              · exact .inr w⟩
            exact q3 F' H' O1 k.1 (s01.trans s2)
          | ok r out =>
            rw [hcall] at q1
            cases out with
            | none => exact q1.elim
            | some o =>
              intro v' F' H' B' C' rr hC hBC s
              obtain ⟨v0, r0, e0, ro⟩ := hC
              simp only [List.cons.injEq] at e0
              obtain ⟨e0, _⟩ := e0
              subst e0
              have k := outside st1 s d1 d2
              obtain ⟨C2, rs2, hC2⟩ := k.1.slots.forget (i := i)
              have hlen : i < (put p.2 i none).length := by
                rw [k.1.slots.length]
                exact (List.getElem?_eq_some_iff.mp ev').1
              have fl := rs2.fill hlen ro
              rw [set_same ev', put_put] at fl
              have s2 : Stp F1 H1 (fun x => O1 x + B x) F' H' (fun x => C' x + C2 x + B' x) := ((s.more (T := O1)).less (O2 := fun x => C' x + C2 x + B' x) fun x hx => by
                have hx : 0 < C' x + C2 x + B' x := hx
                have := hC2 x
                show 0 < B' x + C' x + O1 x; omega) |> fun z => ⟨z.ff, z.fh, fun a o h e => z.keep a o (by have h : O1 a + B a = 0 := h; show B a + O1 a = 0; omega) e, fun a h1 h2 h3 => z.newF a h1 h2 (by have h3 : O1 a + B a = 0 := h3; show B a + O1 a = 0; omega), fun a h => by
                rcases z.newO a h with w | w
                · exact .inl (by have w : 0 < B a + O1 a := w; show 0 < O1 a + B a; omega)
                · exact .inr w⟩
              have hone : ∀ x, C' x + C2 x + B' x ≤ 1 := fun x => by
                have h1 := hBC x
                have h2 := k.2 x
                have h3 := hC2 x
                have h4 := st1.one x
                by_cases z : 0 < O1 x
                · have : B' x + C' x = 0 := h2 z
                  omega
                · omega
              refine q1 v' F' H' (fun x => C' x + C2 x) B' ⟨s.fh, fl, fun x => by have := hone x; show C' x + C2 x ≤ 1; omega⟩ rr (s01.trans s2) hone trivial
        · -- no slot in front
          cases es with
          | nil => simp [chkEs] at h1
          | cons e es' =>
            have h1' := h1
            simp only [chkEs, Bool.and_eq_true] at h1'
            refine PE.weak (base (pa_cons (spe_toV ha.1 hc tk h1'.1) (pa_eva hc tk ha.2 h1'.2) (star_ok (chk_ok1 h1'.1)))) fun σ H Q ⟨F, ρ, O, st, q⟩ => ?_
            unfold ev at q
            rw [hfd] at q
            have q : PostR g Wx (okE g false none F H O σ Q) (if (!fd.io && pureEs (.cons e es') && callP W.call f (evp W (.cons e es') ρ)) = true then _ else if fd.io = true then (match Es.cons e es' with
              | .cons (.var i) es' => (ofO (slot ρ i)).bind fun _ => (eva W es' ρ).bind fun p => (ofO (slot p.2 i)).bind fun d => (match W.call f (d :: p.1) with
                | .ok r (some o) => .ok (r, put p.2 i (some o))
                | .ex c => .ex c (put p.2 i none)
                | _ => .bad)
              | .cons e es' => (toV e (ev W e) ρ).bind fun p0 => (eva W es' p0.2).bind fun p => (match W.call f (p0.1 :: p.1) with
                | .ok r (some _) => .ok (r, p.2)
                | .ex c => .ex c p.2
                | _ => .bad)
              | _ => .bad) else _) F H O σ := q
            rw [if_neg (by intro z; rw [Bool.and_eq_true] at z; exact hp z.1), if_pos hio] at q
            have q : PostR g Wx (okE g false none F H O σ Q) ((toV e (ev W e) ρ).bind fun p0 => (eva W es' p0.2).bind fun p => (match W.call f (p0.1 :: p.1) with
                | .ok r (some _) => .ok (r, p.2)
                | .ex c => .ex c p.2
                | _ => .bad)) F H O σ := by
              cases e <;> first | exact q | exact absurd ⟨_, _, rfl⟩ hv
            refine ⟨F, ρ, O, st, seqR (T := fun _ => 0) q st.stp fun p0 ep0 q0 => ?_⟩
            intro v F0 H0 O0 B st0 rd0 s0 pu0 _
            refine ⟨F0, p0.2, O0, st0, seqR q0 s0 fun p ep q1 => ?_⟩
            intro vs F1 H1 O1 st1 r1 s1
            have pu0 : ∀ x, O0 x + B x ≤ 1 := pu0
            have fr := s1.frame rd0 fun x hx => by have := pu0 x; omega
            have rd1 := fr.1
            have d1 : ∀ x, 0 < B x → O1 x = 0 := fr.2
            have d2 : ∀ x, 0 < O1 x → B x = 0 := fun x hx => by
              by_cases z : 0 < B x
              · have := d1 x z; omega
              · omega
            have s01 : Stp F H O F1 H1 (fun x => O1 x + B x) := s0.trans s1.more
            show spOf g fd.io (W.call f) (v :: vs) H1 Q (WE Wx σ)
            rw [hio]
            refine ⟨F1, p0.1 :: p.1, B, st1.same, ⟨v, vs, B, _, rfl, rd1, r1, fun x => (Nat.add_zero _).symm⟩, fun x => by have := pu0 x; omega, fun z => by (cases z), ?_⟩
            cases hcall : W.call f (p0.1 :: p.1) with
            | bad => rw [hcall] at q1; exact q1
            | ex cc =>
              rw [hcall] at q1
              obtain ⟨C', hC, q3⟩ := q1
              refine ⟨C', hC, fun F' H' s => ?_⟩
              have k := outside st1 s d1 d2
              have s2 : Stp F1 H1 (fun x => O1 x + B x) F' H' O1 := ((s.more (T := O1)).less (O2 := O1) fun x hx => by show 0 < 0 + O1 x; omega) |> fun z => ⟨z.ff, z.fh, fun a o h e => z.keep a o (by have h : O1 a + B a = 0 := h; show B a + O1 a = 0; omega) e, fun a h1 h2 h3 => z.newF a h1 h2 (by have h3 : O1 a + B a = 0 := h3; show B a + O1 a = 0; omega), fun a h => by
                rcases z.newO a h with w | w
                · exact .inl (by have w : 0 < B a + O1 a := w; show 0 < O1 a + B a; omega)
                · exact .inr w⟩
              exact q3 F' H' O1 k.1 (s01.trans s2)
            | ok r out =>
              rw [hcall] at q1
              cases out with
              | none => exact q1.elim
              | some o =>
                intro v' F' H' B' C' rr hC hBC s
                have k := outside st1 s d1 d2
                have s2 : Stp F1 H1 (fun x => O1 x + B x) F' H' (fun x => O1 x + B' x) := ((s.more (T := O1)).less (O2 := fun x => O1 x + B' x) fun x hx => by
                  have hx : 0 < O1 x + B' x := hx
                  show 0 < B' x + C' x + O1 x; omega) |> fun z => ⟨z.ff, z.fh, fun a o h e => z.keep a o (by have h : O1 a + B a = 0 := h; show B a + O1 a = 0; omega) e, fun a h1 h2 h3 => z.newF a h1 h2 (by have h3 : O1 a + B a = 0 := h3; show B a + O1 a = 0; omega), fun a h => by
                  rcases z.newO a h with w | w
                  · exact .inl (by have w : 0 < B a + O1 a := w; show 0 < O1 a + B a; omega)
                  · exact .inr w⟩
                refine q1 v' F' H' O1 B' k.1 rr (s01.trans s2) (fun x => ?_) trivial
                have h1 := hBC x
                have h2 := k.2 x
                have h4 := st1.one x
                by_cases z : 0 < O1 x
                · have : B' x + C' x = 0 := h2 z
                  omega
                · omega
end PV

/-! PVo: methods that change a list. -/
namespace PV
open PySem L2

/-- a slot's list gets other items: of those it had, and of what is at hand -/
theorem setL {g : Gm} {F H : Hp} {O A : Ow} {ρ : Env} {σ : St} {i : Nat} {xs : List D} {v : V} (st : Sta g F H ρ σ O) (hOA : ∀ x, O x + A x ≤ 1) (hd : slot ρ i = some (.lst true xs)) (hv : σ[i]? = some (some v)) :
    ∃ l ws B, v = .ref l ∧ H l = some (.lst ws) ∧ RepL g F H xs ws B ∧ (∀ x, B x ≤ O x) ∧ F l = none ∧ ∀ (xs' : List D) (ws' : List V) (B' : Ow), RepL g F H xs' ws' B' → (∀ x, B' x ≤ B x + A x) →
      ∃ O', Sta g F (upd H l (.lst ws')) (put ρ i (some (.lst true xs'))) σ O' ∧ Stp F H (fun x => O x + A x) F (upd H l (.lst ws')) O' ∧
        (∀ x, O' x + (B x + A x) = O x + A x + B' x) ∧
        (∀ {d : D} {w : V} {E : Ow}, Rep g F H d w E → (∀ x, E x ≤ B x + A x) → Rep g F (upd H l (.lst ws')) d w E) := by
  obtain ⟨v', B0, C, e1, r, rs, q⟩ := st.slots.take hd
  rw [hv] at e1
  cases e1
  obtain ⟨l, ws, B, ev', f1, h1, rl, qq⟩ := r
  have ol : O l = 1 ∧ B l = 0 ∧ C l = 0 ∧ A l = 0 := by
    have h2 := hOA l
    have h3 := q l
    have h4 := qq l
    rw [at1_self] at h4
    omega
  refine ⟨l, ws, B, ev', h1, rl, fun x => by rw [q x, qq x]; omega, f1, fun xs' ws' B' rl' hB' => ?_⟩
  have keep : ∀ x, x ≠ l → upd H l (.lst ws') x = H x := fun x hx => upd_ne hx
  have rl2 : RepL g F (upd H l (.lst ws')) xs' ws' B' := rl'.fr (Same.refl F) fun x hx => by
    have hx2 : x ≠ l := fun z => by subst z; have := hB' x; omega
    exact ⟨(rl'.own x hx).1, keep x hx2⟩
  have rs2 : RepS g F (upd H l (.lst ws')) (put ρ i none) σ C := rs.fr (Same.refl F) fun x hx => by
    have hx2 : x ≠ l := fun z => by subst z; omega
    exact ⟨(rs.own x hx).1, keep x hx2⟩
  have rd2 : Rep g F (upd H l (.lst ws')) (.lst true xs') (.ref l) (fun x => at1 l x + B' x) := ⟨l, ws', B', rfl, f1, upd_same, rl2, fun _ => rfl⟩
  have fl := rs2.fill (slot_lt hd) rd2
  rw [← ev', set_same hv] at fl
  refine ⟨fun x => at1 l x + B' x + C x, ⟨fun a o e => ?_, fl, fun x => ?_⟩, ⟨Same.refl F, fun a o e => ?_, fun a o h e => ?_, fun a h _ _ => h, fun a h => ?_⟩, fun x => ?_, fun {d w E} r hE => r.fr (Same.refl F) fun x hx => ?_⟩
  · by_cases z : a = l
    · subst z; rw [f1] at e; cases e
    · rw [keep a z]; exact st.same a o e
  · have h2 := hOA x
    have h3 := q x
    have h4 := qq x
    have h5 := hB' x
    show at1 l x + B' x + C x ≤ 1
    omega
  · by_cases z : a = l
    · subst z; rw [f1] at e; cases e
    · rw [keep a z]; exact st.same a o e
  · have h : O a + A a = 0 := h
    have z : a ≠ l := fun z => by subst z; omega
    rw [keep a z]; exact e
  · have h : 0 < at1 l a + B' a + C a := h
    have h3 := q a
    have h4 := qq a
    have h5 := hB' a
    exact .inl (show 0 < O a + A a by omega)
  · have h3 := q x
    have h4 := qq x
    show at1 l x + B' x + C x + (B x + A x) = O x + A x + B' x
    omega
  · have hx2 : x ≠ l := fun z => by subst z; have := hE x; omega
    exact ⟨(r.own x hx).1, keep x hx2⟩

theorem repL_erase {g : Gm} {F H : Hp} : ∀ {xs : List D} {vs : List V} {B : Ow} {j : Nat} {d : D}, RepL g F H xs vs B → xs[j]? = some d → ∃ w E B', vs[j]? = some w ∧ Rep g F H d w E ∧ RepL g F H (xs.eraseIdx j) (vs.eraseIdx j) B' ∧ ∀ x, B x = E x + B' x
  | [], _, _, _, _, _, e => by simp at e
  | y :: ys, vs, B, 0, d, h, e => by
    obtain ⟨v, vs', B1, C, e1, rd, rs, q⟩ := h
    simp only [List.getElem?_cons_zero, Option.some.injEq] at e
    subst e e1
    exact ⟨v, B1, C, rfl, rd, rs, q⟩
  | y :: ys, vs, B, j + 1, d, h, e => by
    obtain ⟨v, vs', B1, C, e1, rd, rs, q⟩ := h
    subst e1
    obtain ⟨w, E, B', h1, h2, h3, h4⟩ := repL_erase (j := j) rs (by simpa using e)
    exact ⟨w, E, fun x => B1 x + B' x, by simpa using h1, h2, ⟨v, _, B1, B', rfl, rd, h3, fun _ => rfl⟩, fun x => by
      have h5 := q x
      have h6 := h4 x
      show B x = E x + (B1 x + B' x)
      omega⟩
theorem repL_mid {g : Gm} {F H : Hp} {d : D} {w : V} {E : Ow} (r : Rep g F H d w E) : ∀ {xs : List D} {vs : List V} {B : Ow} (j : Nat), RepL g F H xs vs B → RepL g F H (xs.take j ++ d :: xs.drop j) (vs.take j ++ w :: vs.drop j) (fun x => B x + E x)
  | [], vs, B, j, h => by
    obtain ⟨e, z⟩ := h
    subst e
    simp only [List.take_nil, List.drop_nil, List.nil_append]
    exact ⟨w, [], E, fun _ => 0, rfl, r, ⟨rfl, fun _ => rfl⟩, fun x => by
      have := z x
      show B x + E x = E x + 0
      omega⟩
  | y :: ys, vs, B, 0, h => by
    simp only [List.take_zero, List.drop_zero, List.nil_append]
    exact ⟨w, vs, E, B, rfl, r, h, fun x => Nat.add_comm _ _⟩
  | y :: ys, vs, B, j + 1, h => by
    obtain ⟨v, vs', B1, C, e1, rd, rs, q⟩ := h
    subst e1
    simp only [List.take_succ_cons, List.drop_succ_cons, List.cons_append]
    exact ⟨v, _, B1, fun x => C x + E x, rfl, rd, repL_mid r j rs, fun x => by
      have := q x
      show B x + E x = B1 x + (C x + E x)
      omega⟩
theorem repL_one {g : Gm} {F H : Hp} {d : D} {vs : List V} {A : Ow} (h : RepL g F H [d] vs A) : ∃ w, vs = [w] ∧ Rep g F H d w A := by
  obtain ⟨w, vs', B, C, e, r, ⟨e2, z⟩, q⟩ := h
  subst e2
  exact ⟨w, e, r.eqA fun x => by rw [q x, z x]; rfl⟩
theorem repL_two {g : Gm} {F H : Hp} {d e : D} {vs : List V} {A : Ow} (h : RepL g F H [d, e] vs A) : ∃ w z B C, vs = [w, z] ∧ Rep g F H d w B ∧ Rep g F H e z C ∧ ∀ x, A x = B x + C x := by
  obtain ⟨w, vs', B, C, e1, r, r2, q⟩ := h
  obtain ⟨z, e2, r3⟩ := repL_one r2
  subst e2
  exact ⟨w, z, B, C, e1, r, r3, q⟩

section
variable {X : Cx}
theorem mt_extendR : MtR X "list.extend" (fun x vs H Q => ∃ l b xs zs, x = .ref l ∧ vs = [.ref b] ∧ H l = some (.lst xs) ∧ Rd H b (.lst zs) ∧ xs.length + zs.length ≤ sizeLine ∧ Q .non (upd H l (.lst (xs ++ zs)))) := by
  intro pins s σ H x vs v us Q I rx rv h
  obtain ⟨l, b, xs, zs, ex, ev, hH, hB, hz, q⟩ := h
  rcases hB with hB | ⟨o, hB⟩
  · exact mt_extend pins s σ H x vs v us Q I rx rv ⟨l, b, xs, zs, ex, ev, hH, hB, hz, q⟩
  · subst ex ev
    cases rx
    obtain ⟨u, e0, ru⟩ := rv.one
    subst e0
    cases ru
    obtain ⟨z, its, n, r, hl, e⟩ := I.lstM hH
    obtain ⟨z2, its2, n2, r2, e2⟩ := (show Rd H b (.lst zs) from .inr ⟨o, hB⟩).ok I.hok
    have hl2 := r2.length
    have hsz : its.toArray.size + its2.toArray.size ≤ sizeLine := by simp only [List.size_toArray]; omega
    have hlong : (!its.toArray.isEmpty && Builtin.List.listTooLong (its.toArray.size + its2.toArray.size)) ≠ true := by
      rw [notLongL hsz]; simp
    refine call_meets PySem.F.slot_list_extend ⟨_, e, rfl⟩ PySem.F.entry_list_extend (PySem.F.args_list_extend_2 _ _)
      (PySem.AutoSeq1.list_extend_list_list_0 l its.toArray n b its2.toArray n2 hlong (by simp only [List.size_toArray]; omega) (by omega)) ⟨e, e2, ?_⟩
    exact ⟨.non, _, I.lset (its' := its ++ its2) hH e (by simp) (r.append r2) (by simp only [List.length_append]; omega), rfl, q⟩
end

/-- the rule for the method: a list at l, arguments; behind it the list holds others, the answer's own is of both -/
def rDL (g : Gm) (m : MM) : V → List V → Hp → VK → Prop := fun x vs H Q => ∃ F l xs ws ds A B r xs', x = .ref l ∧ Same F H ∧ F l = none ∧ H l = some (.lst ws) ∧ RepL g F H xs ws B ∧ RepL g F H ds vs A ∧ mmS m xs ds = some (r, xs') ∧
  ∀ w ws' E B', Rep g F H r w E → RepL g F H xs' ws' B' → (∀ x, E x + B' x ≤ B x + A x) → Q w (upd H l (.lst ws'))
theorem dropLast_erase {α : Type} : ∀ (xs : List α), xs.dropLast = xs.eraseIdx (xs.length - 1)
  | [] => rfl
  | [_] => rfl
  | x :: y :: r => by
    have h := dropLast_erase (y :: r)
    have e : (x :: y :: r).length - 1 = ((y :: r).length - 1) + 1 := by simp
    rw [e, List.eraseIdx_cons_succ, ← h]
    rfl
theorem mm_ok {X : Cx} {g : Gm} (m : MM) : ∃ id, PySem.Slot "list" (mmnm m) id ∧ typeOf (.builtin id) = Pure.pure (.type "method_descriptor") ∧ MtR X id (rDL g m) := by
  cases m
  case append =>
    refine ⟨_, PySem.F.slot_list_append, PySem.F.type_list_append, ?_⟩
    intro pins s σ H x vs v us Q I rx rv h
    obtain ⟨F, l, xs, ws, ds, A, B, r, xs', ex, sf, fl, hl, rl, ra, e, q⟩ := h
    unfold mmS at e
    split at e <;> rename_i heq <;> first | (cases heq; done) | skip
    · split at e
      · rename_i hz
        cases e
        obtain ⟨w, ev, rd⟩ := repL_one ra
        have hlen := rl.length
        simp only [szOk, decide_eq_true_eq] at hz
        exact mt_append pins s σ H x vs v us Q I rx rv ⟨l, ws, w, ex, ev, hl, by omega, q _ _ (fun _ => 0) (fun x => B x + A x) rep_non (repL_append rl (ys := [_]) (ws := [w]) ⟨w, [], A, fun _ => 0, rfl, rd, ⟨rfl, fun _ => rfl⟩, fun _ => (Nat.add_zero _).symm⟩) (fun x => by show 0 + (B x + A x) ≤ B x + A x; omega)⟩
      · cases e
    · cases e
  case extend =>
    refine ⟨_, PySem.F.slot_list_extend, PySem.F.type_list_extend, ?_⟩
    intro pins s σ H x vs v us Q I rx rv h
    obtain ⟨F, l, xs, ws, ds, A, B, r, xs', ex, sf, fl, hl, rl, ra, e, q⟩ := h
    unfold mmS at e
    split at e <;> rename_i heq <;> first | (cases heq; done) | skip
    · split at e
      · rename_i hz
        cases e
        obtain ⟨w, ev, rd⟩ := repL_one ra
        have hlen := rl.length
        simp only [Bool.and_eq_true, szOk, decide_eq_true_eq] at hz
        obtain ⟨b, zs, B2, eb, rdb, rl2, hB2⟩ := rep_lst sf rd
        subst eb
        have hlen2 := rl2.length
        exact mt_extendR pins s σ H x vs v us Q I rx rv ⟨l, b, ws, zs, ex, ev, hl, rdb, by omega, q _ _ (fun _ => 0) (fun x => B x + B2 x) rep_non (repL_append rl rl2) (fun x => by have := hB2 x; show 0 + (B x + B2 x) ≤ B x + A x; omega)⟩
      · cases e
    · cases e
  case clear =>
    refine ⟨_, PySem.F.slot_list_clear, PySem.F.type_list_clear, ?_⟩
    intro pins s σ H x vs v us Q I rx rv h
    obtain ⟨F, l, xs, ws, ds, A, B, r, xs', ex, sf, fl, hl, rl, ra, e, q⟩ := h
    unfold mmS at e
    split at e <;> rename_i heq <;> first | (cases heq; done) | skip
    · cases e
      exact mt_clear pins s σ H x vs v us Q I rx rv ⟨l, ws, ex, ra.1, hl, q _ _ (fun _ => 0) (fun _ => 0) rep_non ⟨rfl, fun _ => rfl⟩ (fun x => by show 0 + 0 ≤ B x + A x; omega)⟩
    · cases e
  case pop =>
    refine ⟨_, PySem.F.slot_list_pop, PySem.F.type_list_pop, ?_⟩
    intro pins s σ H x vs v us Q I rx rv h
    obtain ⟨F, l, xs, ws, ds, A, B, r, xs', ex, sf, fl, hl, rl, ra, e, q⟩ := h
    have hlen := rl.length
    unfold mmS at e
    split at e <;> rename_i heq <;> first | (cases heq; done) | skip
    · split at e
      · rename_i d hd
        cases e
        obtain ⟨w, E, B', h1, h2, h3, h4⟩ := repL_erase rl hd
        rw [← dropLast_erase] at h3
        rw [hlen, ← dropLast_erase] at h3
        refine mt_pop pins s σ H x vs v us Q I rx rv ⟨l, ws, w, ex, ra.1, hl, by rw [← hlen]; exact h1, q _ _ E B' h2 h3 (fun x => by have := h4 x; omega)⟩
      · cases e
    · split at e
      · rename_i hz
        split at e
        · rename_i j hj
          split at e
          · rename_i d hd
            cases e
            obtain ⟨w, ev, rd⟩ := repL_one ra
            simp only [ix63, Bool.and_eq_true, decide_eq_true_eq] at hz
            obtain ⟨w2, E, B', h1, h2, h3, h4⟩ := repL_erase rl hd
            exact mt_popAt pins s σ H x vs v us Q I rx rv ⟨l, ws, _, j, w2, ex, by rw [ev, rd.1], hl, hz.1, hz.2, by rw [← hlen]; exact hj, h1, q _ _ E B' h2 h3 (fun x => by have := h4 x; omega)⟩
          · cases e
        · cases e
      · cases e
    · cases e
  case insert =>
    refine ⟨_, PySem.F.slot_list_insert, PySem.F.type_list_insert, ?_⟩
    intro pins s σ H x vs v us Q I rx rv h
    obtain ⟨F, l, xs, ws, ds, A, B, r, xs', ex, sf, fl, hl, rl, ra, e, q⟩ := h
    have hlen := rl.length
    unfold mmS at e
    split at e <;> rename_i heq <;> first | (cases heq; done) | skip
    · split at e
      · rename_i hz
        cases e
        obtain ⟨w, z, B1, C1, ev, rk, rd, hA⟩ := repL_two ra
        simp only [Bool.and_eq_true, szOk, decide_eq_true_eq] at hz
        refine mt_insert pins s σ H x vs v us Q I rx rv ⟨l, ws, _, z, ex, by rw [ev, rk.1], hl, by omega, hz.1.2, hz.2, ?_⟩
        rw [show ∀ (a b : List V), a ++ [z] ++ b = a ++ z :: b from fun a b => by simp]
        exact q _ _ (fun _ => 0) _ rep_non (repL_mid rd (Int.toNat _) rl) (fun x => by have := hA x; show 0 + (B x + C1 x) ≤ B x + A x; omega)
      · cases e
    · cases e

theorem length_chkEs {c : Ck} {sc : Scope} : ∀ {es : Es} {xs : List Expr}, chkEs c es sc xs = true → True := fun _ => trivial
theorem spe_mm {m : MM} {i : Nat} {sp : List Sp1} {es : Es} (ha : AllE SPe es) : SPe (.mm m i sp es) := by
  intro X c g W kk sc Wx ast hc tk h
  unfold chkE at h
  split at h <;> rename_i heq <;> first | (cases heq; done) | (cases h; done) | skip
  cases heq
  rename_i x p n ap ys cp
  simp only [Bool.and_eq_true, decide_eq_true_eq] at h
  obtain ⟨⟨⟨⟨⟨⟨⟨hn, hl⟩, hs1⟩, hs2⟩, hs3⟩, hsp⟩, har⟩, h1⟩ := h
  subst hn hsp
  have hline : (ap.endLine == cp.line) = true := by rw [hl]; exact beq_self_eq_true _
  obtain ⟨id, slot_, ty, mt⟩ := mm_ok (X := X) (g := g) m
  have pv := pe_slot (pos := p) hc (i := i) (x := x) (by rw [hs1, hs2, hs3]; rfl)
  have pa := pa_evs hc tk ha h1
  -- the reading, whatever the arguments' form
  have rd : ∀ σ H Q, tE g W Wx (.mm m i [] es) σ H Q → ∃ v, σ[i]? = some (some v) ∧ tyV X.K "list" v H ∧ tVs g W Wx es σ H fun vs H2 => rDL g m v vs H2 Q := fun σ H Q ⟨F, ρ, O, st, q⟩ => by
    unfold ev at q
    obtain ⟨ho, q⟩ := postIf q
    cases hd : slot ρ i with
    | none => rw [hd] at ho; cases ho
    | some d0 =>
      rw [hd] at ho
      cases d0 <;> simp only [isOwnL, Bool.false_eq_true] at ho
      rename_i o xs0
      cases o <;> simp only [Bool.false_eq_true] at ho
      obtain ⟨v, B0, C0, e1, r0, _, _⟩ := st.slots.take hd
      refine ⟨v, e1, ?_, F, ρ, O, st, seqR (T := fun _ => 0) q st.stp fun p ep q1 => ?_⟩
      · obtain ⟨a, ws, B, e2, _, h2, _⟩ := r0
        rw [e2]
        exact .inl ⟨rfl, ws, SqL.of h2⟩
      · intro vs F1 H1 O1 A1 st1 ra s1 h1
        cases hd1 : slot p.2 i with
        | none => rw [hd1] at q1; exact q1.elim
        | some d1 =>
          rw [hd1] at q1
          cases d1 <;> (try exact q1.elim)
          rename_i o xs
          cases o <;> (try exact q1.elim)
          have q1 : PostR g Wx (okE g false none F H O σ Q) (match mmS m xs p.1 with
            | some z => .ok (z.1, put p.2 i (some (.lst true z.2)))
            | none => .bad) F H O σ := q1
          cases hm : mmS m xs p.1 with
          | none => rw [hm] at q1; exact q1.elim
          | some z =>
            rw [hm] at q1
            obtain ⟨r, xs'⟩ := z
            obtain ⟨l, ws, B, ev', hl, rl, hBO, fl, k⟩ := setL st1 h1 hd1 e1
            refine ⟨F1, l, xs, ws, p.1, A1, B, r, xs', ev', st1.same, fl, hl, rl, ra, hm, fun w ws' E B' rr rl' hEB => ?_⟩
            obtain ⟨O', st2, s2, hO, hr⟩ := k xs' ws' B' rl' fun x => by have := hEB x; omega
            refine q1 w F1 _ O' E st2 (hr rr fun x => by have := hEB x; omega) (s1.trans ⟨s2.ff, s2.fh, s2.keep, s2.newF, fun a ha => ?_⟩) (fun x => ?_) trivial
            · have ha : 0 < O' a + E a := ha
              have h2 := hO a
              have h3 := hEB a
              have h5 := hBO a
              exact .inl (show 0 < O1 a + A1 a by omega)
            · have h2 := hO x
              have h3 := hEB x
              have h5 := h1 x
              have h6 := hBO x
              omega
  cases es with
  | nil =>
    cases ys with
    | cons y ys => simp [chkEs] at h1
    | nil =>
      refine PE.weak (pe_bm0 PySem.F.plainAttrs_list slot_ ty mt pv rfl hline) fun σ H Q q => ?_
      obtain ⟨v, e1, e2, F, ρ, O, st, q⟩ := rd σ H Q q
      unfold evs at q
      exact ⟨v, e1, e2, q [] F H O (fun _ => 0) st ⟨rfl, fun _ => rfl⟩ st.stp (fun x => st.one x)⟩
  | cons e es =>
    cases ys with
    | nil => simp [chkEs] at h1
    | cons y ys =>
      have h1' := h1
      simp only [chkEs, Bool.and_eq_true] at h1'
      have hs := star_ok (es := ys) (env := X.env) (chk_ok1 h1'.1)
      refine PE.weak (pe_bm PySem.F.plainAttrs_list slot_ ty mt pv pa rfl ?_ hline hs (plain_ok h1'.2)) fun σ H Q q => rd σ H Q q
      cases ys with
      | nil => rw [hs]; rfl
      | cons z ys =>
        cases es with
        | nil => simp [chkEs] at h1'
        | cons e2 es =>
          simp only [chkEs, Bool.and_eq_true] at h1'
          rw [hs, star_ok (chk_ok1 h1'.2.1)]
          cases ys with
          | nil => rfl
          | cons z2 ys => cases m <;> simp [mmAr] at har
end PV

/-! PVp: what is walked, targets. -/
namespace PV
open PySem L2

/-! ### what is walked -/
theorem PI.weak {X : Cx} {tg it : Expr} {t t' : TI} (h : PI X tg it t) (k : ∀ σ H R, t' σ H R → t σ H R) : PI X tg it t' := ⟨fun pins s σ H R I q => h.run pins s σ H R I (k σ H R q)⟩
theorem PI.or {X : Cx} {tg it : Expr} {t u : TI} (h : PI X tg it t) (k : PI X tg it u) : PI X tg it (fun σ H R => t σ H R ∨ u σ H R) :=
  ⟨fun pins s σ H R I q => q.elim (h.run pins s σ H R I) (k.run pins s σ H R I)⟩
theorem PG.weak {X : Cx} {tg : Expr} {t t' : TG} (h : PG X tg t) (k : ∀ v σ H Q, t' v σ H Q → t v σ H Q) : PG X tg t' := ⟨fun pins s σ H v u Q I r q => h.run pins s σ H v u Q I r (k v σ H Q q)⟩
theorem PG.or {X : Cx} {tg : Expr} {t u : TG} (h : PG X tg t) (k : PG X tg u) : PG X tg (fun v σ H Q => t v σ H Q ∨ u v σ H Q) :=
  ⟨fun pins s σ H v u Q I r q => q.elim (h.run pins s σ H v u Q I r) (k.run pins s σ H v u Q I r)⟩

/-- F and H are gone on to F2 and H2, T's things untouched -/
structure Grew (F H F2 H2 : Hp) (T : Ow) : Prop where
  ff : Same F F2
  fh : Same F2 H2
  keep : ∀ x, 0 < T x → F2 x = none ∧ H2 x = H x
/-- a walk's turns give the items -/
def SrcOk (g : Gm) (J : It) (ds : List D) (F H : Hp) (T : Ow) : Prop := ∃ G Y, Walk J ds.length G Y ∧ (∀ F2 H2, Grew F H F2 H2 T → G H2) ∧
  ∀ i F2 H2 x H3, i < ds.length → Grew F H F2 H2 T → Y i H2 x H3 → ∃ F3 d, ds[i]? = some d ∧ noOwn d = true ∧ Rep g F3 H3 d x (fun _ => 0) ∧ Nw F2 H2 F3 H3 (fun _ => 0)
def HoldOk (g : Gm) (k : ItK) (a : E) (ρ : Env) (F H : Hp) (σ : St) (T : Ow) : Prop := match k, a with
  | .hold, .var i => ∃ d v, slot ρ i = some d ∧ σ[i]? = some (some v) ∧ Rep g F H d v T
  | _, _ => ∀ x, T x = 0
def okI (g : Gm) (k : ItK) (a : E) (ρ0 : Env) (F H : Hp) (O : Ow) (σ : St) (R : It → Hp → Prop) : List D × Env → Prop := fun p =>
  ∀ J F' H' O' T, Sta g F' H' p.2 σ O' → SrcOk g J p.1 F' H' T → Stp F H O F' H' (fun x => O' x + T x) → (∀ x, O' x + T x ≤ 1) → HoldOk g k a ρ0 F' H' σ T → R J H'
def tI (g : Gm) (W : Wd) (Wx : WX) (k : ItK) (a b : E) : TI := fun σ H R => ∃ F ρ O, Sta g F H ρ σ O ∧ PostR g Wx (okI g k a ρ F H O σ R) (evi W k a b ρ (ev W a) (ev W b)) F H O σ

theorem grew0 {F H F2 H2 : Hp} (h1 : Same F F2) (h2 : Same F2 H2) : Grew F H F2 H2 (fun _ => 0) := ⟨h1, h2, fun x hx => absurd hx (by simp)⟩
theorem src_list {g : Gm} {F H : Hp} {a : Addr} {vs : List V} {ds : List D} {T A : Ow} (hq : ∀ F2 H2, Grew F H F2 H2 T → SqL g.K H2 a vs) (n : noOwnL ds = true) (r : RepL g F H ds vs A) : SrcOk g (Itl g.K a) ds F H T := by
  refine ⟨_, _, r.length ▸ walk_list (xs := vs), hq, fun i F2 H2 x H3 hi gr y => ?_⟩
  obtain ⟨e, hx⟩ := y
  subst e
  have hd : ds[i]? = some ds[i] := by simp [hi]
  obtain ⟨v, B, hv, rd, _⟩ := repL_get r hd
  rw [hv] at hx
  cases hx
  have nd := noOwnL_mem n (List.getElem_mem hi)
  exact ⟨F2, _, hd, nd, ((rd.fr0 gr.ff nd).eqA (rd.zero nd)), Nw.refl gr.fh⟩
theorem src_tup {g : Gm} {F H : Hp} {a : Addr} {vs : List V} {ds : List D} {T A : Ow} (hq : ∀ F2 H2, Grew F H F2 H2 T → SqT g.K H2 a vs) (n : noOwnL ds = true) (r : RepL g F H ds vs A) : SrcOk g (Itt g.K a) ds F H T := by
  refine ⟨_, _, r.length ▸ walk_tup (xs := vs), hq, fun i F2 H2 x H3 hi gr y => ?_⟩
  obtain ⟨e, hx⟩ := y
  subst e
  have hd : ds[i]? = some ds[i] := by simp [hi]
  obtain ⟨v, B, hv, rd, _⟩ := repL_get r hd
  rw [hv] at hx
  cases hx
  have nd := noOwnL_mem n (List.getElem_mem hi)
  exact ⟨F2, _, hd, nd, ((rd.fr0 gr.ff nd).eqA (rd.zero nd)), Nw.refl gr.fh⟩
theorem src_str {g : Gm} {F H : Hp} {z : Str} : SrcOk g (Its z) (strItems z) F H (fun _ => 0) := by
  have hl : (strItems z).length = z.cps.size := by simp [strItems]
  refine ⟨_, _, hl ▸ walk_str, fun _ _ _ => trivial, fun i F2 H2 x H3 hi gr y => ?_⟩
  obtain ⟨e, c, hc, hx⟩ := y
  subst e hx
  have hc' : z.cps.toList[i]? = some c := by simpa using hc
  exact ⟨F2, .str ⟨#[c]⟩, by simp [strItems, hc'], rfl, rep_str, Nw.refl gr.fh⟩
theorem src_rng {g : Gm} {F H : Hp} {lo : Int} {n : Nat} : SrcOk g (Itr lo n) (rngI lo n) F H (fun _ => 0) := by
  have hl : (rngI lo n).length = n := by simp [rngI]
  refine ⟨_, _, by rw [hl]; exact walk_range, fun _ _ _ => trivial, fun i F2 H2 x H3 hi gr y => ?_⟩
  obtain ⟨e, hx⟩ := y
  subst e hx
  rw [hl] at hi
  exact ⟨F2, .int (lo + (i : Nat)), by simp [rngI, hi], rfl, rep_int, Nw.refl gr.fh⟩
theorem enumI_length : ∀ (n : Nat) (ds : List D), (enumI n ds).length = ds.length
  | _, [] => rfl
  | n, d :: ds => by simp only [enumI, List.length_cons, enumI_length]
theorem enumI_get : ∀ (n : Nat) (ds : List D) (i : Nat) (d : D), ds[i]? = some d → (enumI n ds)[i]? = some (.tup [.int ((n + i : Nat) : Int), d])
  | _, [], _, _, h => by simp at h
  | n, x :: ds, 0, d, h => by
    simp only [List.getElem?_cons_zero, Option.some.injEq] at h
    subst h
    rfl
  | n, x :: ds, i + 1, d, h => by
    have := enumI_get (n + 1) ds i d (by simpa using h)
    simp only [enumI, List.getElem?_cons_succ, this]
    rw [show n + 1 + i = n + (i + 1) by omega]
theorem new_pair {g : Gm} {F2 H2 : Hp} {d e : D} {x y : V} {T : Addr} (fh : Same F2 H2) (n1 : noOwn d = true) (n2 : noOwn e = true) (r1 : Rep g F2 H2 d x (fun _ => 0)) (r2 : Rep g F2 H2 e y (fun _ => 0)) (hT : H2 T = none) :
    ∃ F3, noOwn (.tup [d, e]) = true ∧ Rep g F3 (upd H2 T (.tup [x, y])) (.tup [d, e]) (.ref T) (fun _ => 0) ∧ Nw F2 H2 F3 (upd H2 T (.tup [x, y])) (fun _ => 0) := by
  have n : noOwnL [d, e] = true := by simp [noOwnL, n1, n2]
  exact ⟨_, by simpa [noOwn] using n, rep_newT fh hT n ⟨x, [y], _, _, rfl, r1, ⟨y, [], _, _, rfl, r2, ⟨rfl, fun _ => rfl⟩, fun _ => rfl⟩, fun _ => rfl⟩, Nw.tup fh hT⟩
theorem src_enum {g : Gm} {F H : Hp} {a : Addr} {vs : List V} {ds : List D} {A : Ow} (hq : ∀ F2 H2, Grew F H F2 H2 (fun _ => 0) → SqL g.K H2 a vs) (n : noOwnL ds = true) (r : RepL g F H ds vs A) : SrcOk g (Ite g.K a) (enumI 0 ds) F H (fun _ => 0) := by
  refine ⟨_, _, (enumI_length 0 ds).trans r.length ▸ walk_enum (xs := vs), hq, fun i F2 H2 x H3 hi gr y => ?_⟩
  obtain ⟨T, x1, y1, ex, hT, e, h1, h2⟩ := y
  rw [enumI_length] at hi
  subst e ex
  have hd : ds[i]? = some ds[i] := by simp [hi]
  obtain ⟨v, B, hv, rd, _⟩ := repL_get r hd
  have h2 : vs[i]? = some y1 := h2
  have h1 : some (V.int (i : Nat)) = some x1 := h1
  rw [hv] at h2
  cases h2
  cases h1
  have nd := noOwnL_mem n (List.getElem_mem hi)
  obtain ⟨F3, k1, k2, k3⟩ := new_pair gr.fh (d := .int (i : Nat)) rfl nd rep_int ((rd.fr0 gr.ff nd).eqA (rd.zero nd)) hT
  exact ⟨F3, _, by rw [enumI_get 0 ds i _ hd, Nat.zero_add], k1, k2, k3⟩
theorem src_zip {g : Gm} {F H : Hp} {a b : Addr} {vs ws : List V} {ds es : List D} {A B : Ow} (hq : ∀ F2 H2, Grew F H F2 H2 (fun _ => 0) → SqL g.K H2 a vs ∧ SqL g.K H2 b ws) (n : noOwnL ds = true) (n2 : noOwnL es = true) (r : RepL g F H ds vs A) (r2 : RepL g F H es ws B) :
    SrcOk g (Itz g.K a b) ((ds.zip es).map fun z => .tup [z.1, z.2]) F H (fun _ => 0) := by
  have hl : ((ds.zip es).map fun z => D.tup [z.1, z.2]).length = min vs.length ws.length := by simp [r.length, r2.length]
  refine ⟨_, _, walk_zip hl, hq, fun i F2 H2 x H3 hi gr y => ?_⟩
  obtain ⟨T, x1, y1, ex, hT, e, h1, h2⟩ := y
  subst e ex
  simp only [List.length_map, List.length_zip] at hi
  have i1 : i < ds.length := by omega
  have i2 : i < es.length := by omega
  have hd : ds[i]? = some ds[i] := by simp [i1]
  have he : es[i]? = some es[i] := by simp [i2]
  obtain ⟨v, _, hv, rd, _⟩ := repL_get r hd
  obtain ⟨w, _, hw, re, _⟩ := repL_get r2 he
  have h2 : ws[i]? = some y1 := h2
  have h1 : vs[i]? = some x1 := h1
  rw [hv] at h1
  rw [hw] at h2
  cases h2
  cases h1
  have nd := noOwnL_mem n (List.getElem_mem i1)
  have ne := noOwnL_mem n2 (List.getElem_mem i2)
  obtain ⟨F3, k1, k2, k3⟩ := new_pair gr.fh nd ne ((rd.fr0 gr.ff nd).eqA (rd.zero nd)) ((re.fr0 gr.ff ne).eqA (re.zero ne)) hT
  exact ⟨F3, _, by rw [List.getElem?_map, show (ds.zip es)[i]? = some (ds[i], es[i]) from List.getElem?_zip_eq_some.mpr ⟨hd, he⟩]; rfl, k1, k2, k3⟩

theorem sqL_rd {K : PySem.W.Frag} {H : Hp} {a : Addr} {vs : List V} (h : Rd H a (.lst vs)) : SqL K H a vs := by
  rcases h with h | ⟨o, h⟩
  · exact SqL.of h
  · exact .inl (.inr ⟨o, h⟩)
/-- the reading of a frozen value, what it is -/
theorem rd_F {β : Type} {g : Gm} {W : Wd} {Wx : WX} {e : E} {σ : St} {F H F1 H1 : Hp} {O O1 : Ow} {ρ1 : Env} {okp : β → Prop} {f : D × Env → R β} (st : Sta g F1 H1 ρ1 σ O1) (s0 : Stp F H O F1 H1 O1) (q : PostR g Wx okp ((toF e (ev W e) ρ1).bind f) F H O σ) {Q : VK}
    (k : ∀ d ρ2 v F2 H2 O2, toF e (ev W e) ρ1 = .ok (d, ρ2) → PostR g Wx okp (f (d, ρ2)) F H O σ → Sta g F2 H2 ρ2 σ O2 → Rep g F2 H2 d v (fun _ => 0) → Stp F H O F2 H2 O2 → Same F1 F2 → noOwn d = true → Q v H2) : tF g W Wx e σ H1 Q :=
  ⟨F1, ρ1, O1, st, seqR q (stp0 s0) fun p ep q1 v F2 H2 O2 st2 r2 s2 n2 => k p.1 p.2 v F2 H2 O2 ep q1 st2 r2 (s0.trans s2) s2.ff n2⟩
theorem vx {α : Type} {x y : R α} {P : Prop} (h : x = y) (k : x = y → P) : P := k h
theorem gl_nm {X : Cx} {c : Ck} {g : Gm} {W : Wd} {kk : Nat} {sc : Scope} (hc : CE X c g W kk sc) {x y : Str} (h : x = y) (hg : isGl sc x = true) : Gl X y := h ▸ gl_ok hc hg
theorem spi {X : Cx} {c : Ck} {g : Gm} {W : Wd} {kk : Nat} {sc : Scope} {Wx : WX} {k : ItK} {a b : E} {tg it : Expr} (ha : SPe a) (hb : SPe b) (hc : CE X c g W kk sc) (tk : Takes X Wx)
    (h : chkI k (isVar a) (chkE c a sc) (chkE c b sc) sc tg it = true) : PI X tg it (tI g W Wx k a b) := by
  cases k with
  | e =>
    have h : chkE c a sc it = true := h
    have pf := spe_toF ha hc tk h
    refine PI.weak (PI.or (pi_list pf) (PI.or (pi_tup pf) (pi_str pf))) fun σ H R ⟨F, ρ, O, st, q⟩ => ?_
    unfold evi at q
    simp only at q
    cases z : toF a (ev W a) ρ with
    | ok p =>
      obtain ⟨d, ρ2⟩ := p
      have q' := q
      rw [z] at q'
      obtain ⟨xs, ex, _⟩ := seqO q'
      cases d <;> simp only [itemsOf, Option.some.injEq] at ex <;> (try cases ex)
      · refine .inr (.inr (rd_F st (Stp.refl st.same) q fun d ρ3 v F2 H2 O2 ed q1 st2 r2 s2 sm n2 => ?_))
        rw [z] at ed
        cases ed
        obtain ⟨_, ex, q2⟩ := seqO q1
        simp only [itemsOf, Option.some.injEq] at ex
        subst ex
        exact ⟨_, r2.1, q2 _ F2 H2 O2 _ st2 src_str (stp0 s2) (fun x => st2.one x) (fun _ => rfl)⟩
      · refine .inr (.inl (rd_F st (Stp.refl st.same) q fun d ρ3 v F2 H2 O2 ed q1 st2 r2 s2 sm n2 => ?_))
        rw [z] at ed
        cases ed
        obtain ⟨_, ex, q2⟩ := seqO q1
        simp only [itemsOf, Option.some.injEq] at ex
        subst ex
        obtain ⟨l, vs, ev', ta, rl⟩ := r2
        have tq : ∀ F3 H3, Grew F2 H2 F3 H3 (fun _ => 0) → SqT g.K H3 l vs := fun F3 H3 gr => sqT_same (gr.ff.trans gr.fh) ta.sq
        exact ⟨l, ev', ⟨vs, by rw [hc.K]; exact sqT_same st2.same ta.sq⟩, by
          rw [hc.K]
          exact q2 _ F2 H2 O2 _ st2 (src_tup tq (by simpa [noOwn] using n2) rl) (stp0 s2) (fun x => st2.one x) (fun _ => rfl)⟩
      · refine .inl (rd_F st (Stp.refl st.same) q fun d ρ3 v F2 H2 O2 ed q1 st2 r2 s2 sm n2 => ?_)
        rw [z] at ed
        cases ed
        obtain ⟨_, ex, q2⟩ := seqO q1
        simp only [itemsOf, Option.some.injEq] at ex
        subst ex
        rename_i o _
        cases o with
        | true => simp [noOwn] at n2
        | false =>
          obtain ⟨_, l, vs, ev', ta, rl⟩ := r2
          have tq : ∀ F3 H3, Grew F2 H2 F3 H3 (fun _ => 0) → SqL g.K H3 l vs := fun F3 H3 gr => sqL_rd (rd_same (gr.ff.trans gr.fh) ta)
          exact ⟨l, ev', ⟨vs, sqL_rd (rd_same st2.same ta)⟩, by
            rw [hc.K]
            exact q2 _ F2 H2 O2 _ st2 (src_list tq (by simpa [noOwn] using n2) rl) (stp0 s2) (fun x => st2.one x) (fun _ => rfl)⟩
    | ex cc ρ2 =>
      exact .inl (rd_F st (Stp.refl st.same) q fun d ρ3 v F2 H2 O2 ed _ _ _ _ _ _ => by rw [z] at ed; cases ed)
    | bad => rw [z] at q; exact q.elim
  | hold =>
    replace h : (isVar a && chkE c a sc it) = true := h
    simp only [Bool.and_eq_true] at h
    obtain ⟨hv, h⟩ := h
    cases a <;> simp only [isVar, Bool.false_eq_true] at hv
    rename_i i
    unfold chkE at h
    split at h <;> rename_i heq <;> first | (cases heq; done) | (cases h; done) | skip
    cases heq
    refine PI.weak (pi_list (pe_slot hc h)) fun σ H R ⟨F, ρ, O, st, q⟩ => ?_
    unfold evi at q
    simp only at q
    cases hd : slot ρ i with
    | none => rw [hd] at q; exact q.elim
    | some d =>
      rw [hd] at q
      obtain ⟨v, B, C, e1, r, rs, qq⟩ := st.slots.take hd
      cases d <;> (try exact q.elim)
      rename_i o xs
      cases o <;> (try exact q.elim)
      obtain ⟨hn, q1⟩ := postIf (x := PV.R.ok (xs, put ρ i none)) q
      have r0 := r
      obtain ⟨l, vs, B2, ev', f1, h1, rl, hB⟩ := r
      have ob : ∀ x, C x + B x ≤ 1 := fun x => by have := st.one x; rw [qq x] at this; omega
      refine ⟨v, e1, l, ev', ⟨vs, SqL.of h1⟩, ?_⟩
      rw [hc.K]
      refine q1 _ F H C B ⟨st.same, rs, fun x => by have := ob x; omega⟩ (src_list (fun F2 H2 gr => SqL.of ((gr.keep l (by rw [hB l, at1_self]; omega)).2.trans h1)) hn rl) ((Stp.refl st.same).less fun x hx => by have hx : 0 < C x + B x := hx; rw [qq x]; omega) ob ⟨_, v, hd, e1, r0⟩
  | rng1 =>
    cases it <;> first | (cases h; done) | skip
    rename_i fn args kws pos
    unfold chkI at h
    split at h <;> rename_i hk hi <;> (try cases hk) <;> (try cases hi) <;> (try cases h)
    simp only [Bool.and_eq_true, decide_eq_true_eq] at h
    obtain ⟨⟨hx, hg⟩, h1⟩ := h
    subst hx
    have hs := star_ok (es := []) (env := X.env) (chk_ok1 h1)
    refine PI.weak (pi_range1 (gl_ok hc hg) (hc.blt _ (by decide)) (pa_cons (ha X c g W kk _ Wx _ hc tk h1) pa_nil hs) hs) fun σ H R ⟨F, ρ, O, st, q⟩ => ?_
    unfold evi at q
    simp only at q
    refine ⟨F, ρ, O, st, seqR (T := fun _ => 0) q st.stp fun p ep q1 => ?_⟩
    intro v F1 H1 O1 A1 st1 r1 s1 pu1 _
    cases hd : p.1 <;> rw [hd] at q1 r1 <;> (try exact q1.elim)
    obtain ⟨hr, q2⟩ := postIf q1
    simp only [rngOk, Bool.and_eq_true, decide_eq_true_eq] at hr
    exact ⟨_, by rw [r1.1], hr.1, hr.2, q2 _ F1 H1 O1 _ st1 src_rng (stp0 s1.drop) (fun x => st1.one x) (fun _ => rfl)⟩
  | rng2 =>
    cases it <;> first | (cases h; done) | skip
    rename_i fn args kws pos
    unfold chkI at h
    split at h <;> rename_i hk hi <;> (try cases hk) <;> (try cases hi) <;> (try cases h)
    simp only [Bool.and_eq_true, decide_eq_true_eq] at h
    obtain ⟨⟨⟨hx, hg⟩, h1⟩, h2⟩ := h
    subst hx
    rename_i y z
    have hs2 := star_ok (es := []) (env := X.env) (chk_ok1 h2)
    have hs := star_ok (es := [z]) (env := X.env) (chk_ok1 h1)
    refine PI.weak (pi_range2 (gl_ok hc hg) (hc.blt _ (by decide)) (pa_cons (ha X c g W kk _ Wx _ hc tk h1) (pa_cons (hb X c g W kk _ Wx _ hc tk h2) pa_nil hs2) hs) (by rw [hs, hs2]; rfl) hs2) fun σ H R ⟨F, ρ, O, st, q⟩ => ?_
    unfold evi at q
    simp only at q
    refine ⟨F, ρ, O, st, seqR (T := fun _ => 0) q st.stp fun p ep q1 => ?_⟩
    intro v F1 H1 O1 A1 st1 r1 s1 pu1 _
    refine ⟨F1, p.2, O1, st1, seqR q1 s1 fun p2 ep2 q2 => ?_⟩
    intro w F2 H2 O2 A2 st2 r2 s2 pu2 _
    cases hd : p.1 <;> rw [hd] at q2 r1 <;> (try exact q2.elim)
    cases hd2 : p2.1 <;> rw [hd2] at q2 r2 <;> (try exact q2.elim)
    obtain ⟨hr, q3⟩ := postIf q2
    simp only [rngOk, Bool.and_eq_true, decide_eq_true_eq] at hr
    exact ⟨_, _, by rw [r1.1, r2.1], ⟨hr.1.1, hr.1.2, hr.2.1, hr.2.2⟩, q3 _ F2 H2 O2 _ st2 src_rng (stp0 (s1.drop.trans s2.drop)) (fun x => st2.one x) (fun _ => rfl)⟩
  | enum =>
    cases it <;> first | (cases h; done) | skip
    rename_i fn args kws pos
    unfold chkI at h
    split at h <;> rename_i hk hi <;> (try cases hk) <;> (try cases hi) <;> (try cases h)
    simp only [Bool.and_eq_true, decide_eq_true_eq] at h
    obtain ⟨⟨⟨hx, hg⟩, h1⟩, h2⟩ := h
    subst hx
    cases tg <;> simp only [isTupE, Bool.false_eq_true] at h2
    have hs := star_ok (es := []) (env := X.env) (chk_ok1 h1)
    refine PI.weak (pi_enum (gl_ok hc hg) (hc.blt _ (by decide)) (pa_cons (spe_toF ha hc tk h1) pa_nil hs) hs) fun σ H R ⟨F, ρ, O, st, q⟩ => ?_
    unfold evi at q
    simp only at q
    refine rd_F st (Stp.refl st.same) q fun d ρ3 v F2 H2 O2 ed q1 st2 r2 s2 sm n2 => ?_
    cases d <;> (try exact q1.elim)
    rename_i o xs
    cases o with
    | true => simp [noOwn] at n2
    | false =>
      obtain ⟨_, l, vs, ev', ta, rl⟩ := r2
      have tq : ∀ F3 H3, Grew F2 H2 F3 H3 (fun _ => 0) → SqL g.K H3 l vs := fun F3 H3 gr => sqL_rd (rd_same (gr.ff.trans gr.fh) ta)
      refine ⟨l, vs, by rw [ev'], sqL_rd (rd_same st2.same ta), ?_⟩
      rw [hc.K]
      exact q1 _ F2 H2 O2 _ st2 (src_enum tq (by simpa [noOwn] using n2) rl) (stp0 s2) (fun x => st2.one x) (fun _ => rfl)
  | zip =>
    cases it <;> first | (cases h; done) | skip
    rename_i fn args kws pos
    unfold chkI at h
    split at h <;> rename_i hk hi <;> (try cases hk) <;> (try cases hi) <;> (try cases h)
    simp only [Bool.and_eq_true, decide_eq_true_eq] at h
    obtain ⟨⟨⟨⟨hx, hg⟩, h1⟩, h2⟩, h3⟩ := h
    subst hx
    cases tg <;> simp only [isTupE, Bool.false_eq_true] at h3
    rename_i y z _ _ _
    have hs2 := star_ok (es := []) (env := X.env) (chk_ok1 h2)
    have hs := star_ok (es := [z]) (env := X.env) (chk_ok1 h1)
    refine PI.weak (pi_zip (gl_ok hc hg) (hc.blt _ (by decide)) (pa_cons (spe_toF ha hc tk h1) (pa_cons (spe_toF hb hc tk h2) pa_nil hs2) hs) hs (by rw [hs2]; rfl)) fun σ H R ⟨F, ρ, O, st, q⟩ => ?_
    unfold evi at q
    simp only at q
    refine rd_F st (Stp.refl st.same) q fun d ρ3 v F1 H1 O1 ed q1 st1 r1 s1 sm1 n1 => ?_
    refine rd_F st1 s1 q1 fun d2 ρ4 w F2 H2 O2 ed2 q2 st2 r2 s2 sm2 n2 => ?_
    cases d <;> (try exact q2.elim)
    cases d2 <;> (try exact q2.elim)
    rename_i o xs o2 ys
    have r1 := r1.fr0 (H' := H2) sm2 n1
    cases o with
    | true => simp [noOwn] at n1
    | false =>
      cases o2 with
      | true => simp [noOwn] at n2
      | false =>
        obtain ⟨_, l, vs, ev', ta, rl⟩ := r1
        obtain ⟨_, l2, ws, ew, ta2, rl2⟩ := r2
        have tq : ∀ F3 H3, Grew F2 H2 F3 H3 (fun _ => 0) → SqL g.K H3 l vs ∧ SqL g.K H3 l2 ws := fun F3 H3 gr => ⟨sqL_rd (rd_same (gr.ff.trans gr.fh) ta), sqL_rd (rd_same (gr.ff.trans gr.fh) ta2)⟩
        refine ⟨l, l2, vs, ws, by rw [ev', ew], sqL_rd (rd_same st2.same ta), sqL_rd (rd_same st2.same ta2), ?_⟩
        rw [hc.K]
        exact q2 _ F2 H2 O2 _ st2 (src_zip tq (by simpa [noOwn] using n1) (by simpa [noOwn] using n2) rl rl2) (stp0 s2) (fun x => st2.one x) (fun _ => rfl)
end PV

/-! PVq: targets, comprehensions. -/
namespace PV
open PySem L2

/-! ### stores -/
theorem put_none_id : ∀ {ρ : Env} {i : Nat}, slot ρ i = none → put ρ i none = ρ
  | [], _, _ => rfl
  | a :: ρ, 0, e => by simp only [slot] at e; subst e; rfl
  | a :: ρ, i + 1, e => by simp only [put]; rw [put_none_id (by simpa [slot] using e)]
theorem put_ok {g : Gm} {F H : Hp} {O A : Ow} {ρ : Env} {σ : St} {i : Nat} {d : D} {v : V} (st : Sta g F H ρ σ O) (r : Rep g F H d v A) (hA : ∀ x, O x + A x ≤ 1) (hi : i < ρ.length) :
    ∃ O', Sta g F H (put ρ i (some d)) (σ.set i (some v)) O' ∧ ∀ x, O' x ≤ O x + A x := by
  obtain ⟨C, rs, hC⟩ := st.slots.forget (i := i)
  exact ⟨_, ⟨st.same, rs.fill hi r, fun x => by have := hC x; have := hA x; show A x + C x ≤ 1; omega⟩, fun x => by have := hC x; show A x + C x ≤ O x + A x; omega⟩

/-! ### targets -/
def gIs : List Nat → TGs
  | [] => gNil
  | i :: is => gCons (gName i) (gIs is)
def tTg (g : Gm) (t : Tg) : TG := fun v σ H Q => ∃ F ρ O d A ρ', Sta g F H ρ σ O ∧ Rep g F H d v A ∧ (∀ x, O x + A x ≤ 1) ∧ bindT t d ρ = some ρ' ∧
  ∀ σ' O', Sta g F H ρ' σ' O' → (∀ x, O' x ≤ O x + A x) → σ'.length = σ.length → (∀ i, i ∉ t.slots → σ'[i]? = σ[i]?) → Q σ' H
theorem bindTs_ok {g : Gm} {F H : Hp} : ∀ {is : List Nat} {xs : List D} {ρ ρ' : Env} {σ : St} {O A : Ow} {vs : List V} {Q : St → Hp → Prop}, bindTs is xs ρ = some ρ' → Sta g F H ρ σ O → noOwnL xs = true → RepL g F H xs vs A →
    (∀ σ' O', Sta g F H ρ' σ' O' → (∀ x, O' x ≤ O x) → σ'.length = σ.length → (∀ i, i ∉ is → σ'[i]? = σ[i]?) → Q σ' H) → is.length = vs.length ∧ gIs is vs σ H Q
  | [], [], ρ, ρ', σ, O, A, vs, Q, e, st, n, r, k => by
    cases e
    rw [r.1]
    exact ⟨rfl, rfl, k σ O st (fun _ => Nat.le_refl _) rfl fun _ _ => rfl⟩
  | [], _ :: _, _, _, _, _, _, _, _, e, _, _, _, _ => by simp [bindTs] at e
  | _ :: _, [], _, _, _, _, _, _, _, e, _, _, _, _ => by simp [bindTs] at e
  | i :: is, d :: ds, ρ, ρ', σ, O, A, vs, Q, e, st, n, r, k => by
    simp only [bindTs] at e
    split at e
    · rename_i hi
      simp only [noOwnL, Bool.and_eq_true] at n
      obtain ⟨v, vs', B, C, ev, rd, rl, q⟩ := r
      subst ev
      have zB := rd.zero n.1
      obtain ⟨O1, st1, h1⟩ := put_ok st rd (fun x => by rw [zB x]; exact st.one x) hi
      have ih := bindTs_ok (Q := Q) e st1 n.2 rl fun σ' O' st' hO hl hs => k σ' O' st' (fun x => by have := hO x; have := h1 x; have := zB x; omega) (by rw [hl, List.length_set]) fun j hj => by
        simp only [List.mem_cons, not_or] at hj
        rw [hs j hj.2, List.getElem?_set_ne (fun z => hj.1 z.symm)]
      exact ⟨by simp [ih.1], v, vs', rfl, ih.2⟩
    · cases e
theorem pgs_ok {X : Cx} {N : List Str} {sc : Scope} (hN : X.N = N) (nd : N.Nodup) (hl : ∀ x, loc sc x = true → Loc X.env.scope x ∧ (X.fn x = true ∨ X.env.scope.names.lookup x = some .local)) :
    ∀ {is : List Nat} {es : List Expr}, chkTgs N sc is es = true → PGs X es (gIs is) ∧ (assignEach es X.env).length = is.length ∧ (assignEach es X.env).findIdx? (·.1) = none
  | [], [], _ => ⟨pgs_nil, rfl, rfl⟩
  | [], _ :: _, h => by simp [chkTgs] at h
  | i :: is, [], h => by simp [chkTgs] at h
  | i :: is, e :: es, h => by
    cases e <;> simp only [chkTgs, Bool.false_eq_true] at h
    rename_i x p
    simp only [Bool.and_eq_true, slotOk, decide_eq_true_eq] at h
    obtain ⟨k1, k2, k3⟩ := pgs_ok hN nd hl h.2
    have kl := hl _ h.1.2
    refine ⟨pgs_cons (pg_name (by rw [hN]; exact nd) (by rw [hN]; exact h.1.1) kl.1 kl.2) k1 rfl, by show (_ :: assignEach es X.env).length = _; simp [k2], ?_⟩
    show ((false, assign (.Name x p) X.env) :: assignEach es X.env).findIdx? (·.1) = none
    rw [List.findIdx?_cons]
    simp [k3]
theorem pg_ok {X : Cx} {g : Gm} {N : List Str} {sc : Scope} {t : Tg} {ast : Expr} (hN : X.N = N) (nd : N.Nodup) (hK : X.K = g.K) (hcalm : X.calm = true) (hl : ∀ x, loc sc x = true → Loc X.env.scope x ∧ (X.fn x = true ∨ X.env.scope.names.lookup x = some .local))
    (h : chkTg N sc t ast = true) : PG X ast (tTg g t) := by
  cases t with
  | nm i =>
    cases ast <;> simp only [chkTg, Bool.false_eq_true] at h
    simp only [Bool.and_eq_true, slotOk, decide_eq_true_eq] at h
    have kl := hl _ h.2
    refine PG.weak (pg_name (by rw [hN]; exact nd) (by rw [hN]; exact h.1) kl.1 kl.2) fun v σ H Q ⟨F, ρ, O, d, A, ρ', st, r, hA, e, k⟩ => ?_
    simp only [bindT] at e
    split at e
    · rename_i hi
      cases e
      obtain ⟨O', st', hO⟩ := put_ok st r hA hi
      exact k _ O' st' hO (by rw [List.length_set]) fun j hj => List.getElem?_set_ne (fun z => hj (by simp [Tg.slots, z]))
    · cases e
  | tup is =>
    cases ast <;> simp only [chkTg, Bool.false_eq_true] at h
    obtain ⟨k1, k2, k3⟩ := pgs_ok hN nd hl h
    refine PG.weak (PG.or (pg_tup hcalm k1 k2 k3) (pg_lst hcalm k1 k2 k3)) fun v σ H Q ⟨F, ρ, O, d, A, ρ', st, r, hA, e, k⟩ => ?_
    simp only [bindT] at e
    cases d <;> simp only [seqOf] at e <;> (try cases e)
    · rename_i xs
      split at e
      · rename_i hn
        obtain ⟨a, vs, ev, ta, rl⟩ := r
        have zA := rl.zero hn
        obtain ⟨q1, q2⟩ := bindTs_ok (Q := Q) e st hn rl fun σ' O' st' hO hl hs => k σ' O' st' (fun x => by have := hO x; omega) hl hs
        refine .inl ⟨a, vs, ev, ?_, q1.symm, q2⟩
        rw [hK]
        exact sqT_same st.same ta.sq
      · cases e
    · rename_i o xs
      split at e
      · rename_i hn
        obtain ⟨a, vs, B, ev, ta, rl, _⟩ := rep_lst st.same r
        obtain ⟨q1, q2⟩ := bindTs_ok (Q := Q) e st hn rl fun σ' O' st' hO hl hs => k σ' O' st' (fun x => by have := hO x; omega) hl hs
        exact .inr ⟨a, vs, ev, sqL_rd ta, q1.symm, q2⟩
      · cases e

/-! ### the block's slots -/
theorem wipe_get : ∀ {vs : List Nat} {σ : St} {i : Nat}, (wipe σ vs)[i]? = if i ∈ vs then (if i < σ.length then some none else none) else σ[i]?
  | [], σ, i => by simp [wipe]
  | v :: vs, σ, i => by
    unfold wipe
    by_cases e : v = i
    · subst e
      by_cases hl : v < σ.length
      · rw [List.getElem?_set_self (by rw [wipe_length]; exact hl)]
        simp [hl]
      · rw [List.getElem?_eq_none (by rw [List.length_set, wipe_length]; omega)]
        simp [hl]
    · rw [List.getElem?_set_ne e, wipe_get]
      have : (i ∈ v :: vs) = (i ∈ vs) := by simp [Ne.symm e]
      simp [this]
theorem wipe_eq {vs : List Nat} {σ σ2 : St} (hl : σ2.length = (wipe σ vs).length) (h : ∀ i, i ∉ vs → σ2[i]? = (wipe σ vs)[i]?) : wipe σ2 vs = wipe σ vs := by
  apply List.ext_getElem?
  intro i
  rw [wipe_get]
  by_cases e : i ∈ vs
  · rw [if_pos e, wipe_get, if_pos e, hl, wipe_length]
  · rw [if_neg e, h i e]
theorem wipeE_ok {g : Gm} {F H : Hp} {O : Ow} {ρ : Env} {σ : St} (st : Sta g F H ρ σ O) : ∀ vs : List Nat, ∃ C, Sta g F H (wipeE ρ vs) (wipe σ vs) C ∧ ∀ x, C x ≤ O x
  | [] => ⟨O, st, fun _ => Nat.le_refl _⟩
  | v :: vs => by
    obtain ⟨C, k, hC⟩ := wipeE_ok st vs
    obtain ⟨C2, rs, h2⟩ := k.slots.forget (i := v)
    exact ⟨C2, ⟨k.same, rs.setNone, fun x => by have := h2 x; have := k.one x; omega⟩, fun x => by have := h2 x; have := hC x; omega⟩
theorem slot_put_ne : ∀ {ρ : Env} {i j : Nat} {d : Option D}, j ≠ i → slot (put ρ i d) j = slot ρ j
  | [], _, _, _, _ => rfl
  | _ :: ρ, 0, 0, _, h => absurd rfl h
  | _ :: ρ, 0, j + 1, _, _ => rfl
  | _ :: ρ, i + 1, 0, _, _ => rfl
  | _ :: ρ, i + 1, j + 1, d, h => by
    simp only [put, slot]
    exact slot_put_ne fun z => h (by rw [z])
theorem slot_put_none {ρ : Env} {i : Nat} : slot (put ρ i none) i = none := by
  by_cases h : i < ρ.length
  · exact slot_put_same h
  · cases e : slot (put ρ i none) i with
    | none => rfl
    | some d =>
      have := slot_lt e
      rw [put_length] at this
      exact absurd this h
theorem slot_wipeE {ρ : Env} : ∀ {vs : List Nat} {j : Nat}, j ∈ vs → slot (wipeE ρ vs) j = none
  | [], _, h => by simp at h
  | v :: vs, j, h => by
    unfold wipeE
    by_cases e : j = v
    · subst e; exact slot_put_none
    · rw [slot_put_ne e]
      exact slot_wipeE (by simpa [e] using h)
theorem set_back {σ : St} {i : Nat} {s : Option V} : ∃ t, (σ.set i s).set i t = σ := by
  cases e : σ[i]? with
  | none =>
    have h := List.getElem?_eq_none_iff.mp e
    exact ⟨none, by rw [List.set_set, List.set_eq_of_length_le h]⟩
  | some t =>
    refine ⟨t, ?_⟩
    rw [List.set_set]
    apply List.ext_getElem?
    intro j
    by_cases c : i = j
    · subst c
      rw [List.getElem?_set_self (List.getElem?_eq_some_iff.mp e).1, e]
    · rw [List.getElem?_set_ne c]
theorem RepS.unset {g : Gm} {F H : Hp} {O : Ow} {ρ : Env} {σ : St} {i : Nat} {s : Option V} (h : RepS g F H ρ (σ.set i s) O) (e : slot ρ i = none) : RepS g F H ρ σ O := by
  rw [← put_none_id e] at h ⊢
  obtain ⟨t, ht⟩ := set_back (σ := σ) (i := i) (s := s)
  have := h.setNone (s := t)
  rw [ht] at this
  exact this
theorem RepS.unwipe {g : Gm} {F H : Hp} {O : Ow} {ρ : Env} {σ : St} : ∀ {vs : List Nat}, RepS g F H ρ (wipe σ vs) O → (∀ j ∈ vs, slot ρ j = none) → RepS g F H ρ σ O
  | [], h, _ => h
  | v :: vs, h, e => by
    unfold wipe at h
    exact (h.unset (e v (by simp))).unwipe fun j hj => e j (by simp [hj])
theorem backS_ok {g : Gm} {F H : Hp} {old : Env} {σ : St} : ∀ {vs : List Nat} {ρ : Env} {O : Ow}, Sta g F H ρ σ O → (∀ j d, j ∈ vs → slot old j = some d → ∃ v, σ[j]? = some (some v) ∧ Rep g F H d v (fun _ => 0)) → ∃ C, Sta g F H (backS vs old ρ) σ C ∧ ∀ x, C x ≤ O x
  | [], ρ, O, st, _ => ⟨O, st, fun _ => Nat.le_refl _⟩
  | v :: vs, ρ, O, st, h => by
    have step : ∃ C, Sta g F H (put ρ v (slot old v)) σ C ∧ ∀ x, C x ≤ O x := by
      cases e : slot old v with
      | none =>
        obtain ⟨C, rs, hC⟩ := st.slots.forget (i := v)
        exact ⟨C, ⟨st.same, rs, fun x => by have := hC x; have := st.one x; omega⟩, hC⟩
      | some d =>
        obtain ⟨w, hw, r⟩ := h v d (by simp) e
        obtain ⟨C, k, hC⟩ := put_ok st r (fun x => st.one x) (by rw [st.slots.length]; exact (List.getElem?_eq_some_iff.mp hw).1)
        rw [set_same hw] at k
        exact ⟨C, k, fun x => by have := hC x; omega⟩
    obtain ⟨C, k, hC⟩ := step
    obtain ⟨C2, k2, h2⟩ := backS_ok (vs := vs) k fun j d hj => h j d (by simp [hj])
    exact ⟨C2, k2, fun x => by have := h2 x; have := hC x; omega⟩

/-! ### the comprehension -/
theorem lcLoop_noEx {tg : Tg} {tst : Env → R (Bool × Env)} {el : Env → R (D × Env)} {own : List Nat} : ∀ {ds : List D} {ρ : Env} {acc : List D} {c : Nat} {ρ' : Env}, lcLoop tg tst el own ds ρ acc ≠ .ex c ρ'
  | [], _, _, _, _, h => by cases h
  | d :: ds, ρ, acc, c, ρ', h => by
    unfold lcLoop at h
    cases e : bindT tg d ρ with
    | none => rw [e] at h; cases h
    | some ρ1 =>
      rw [e] at h
      have h : (noEx (tst ρ1)).bind _ = R.ex c ρ' := h
      cases e2 : tst ρ1 with
      | ok p =>
        rw [e2] at h
        obtain ⟨b, ρ2⟩ := p
        cases b with
        | false =>
          have h : (if ownOk own ρ2 = true then lcLoop tg tst el own ds (wipeE ρ2 own) acc else .bad) = R.ex c ρ' := h
          split at h
          · exact lcLoop_noEx h
          · cases h
        | true =>
          have h : ((noEx (el ρ2)).bind fun q => if (szOk (acc.length + 1) && ownOk own q.2) = true then lcLoop tg tst el own ds (wipeE q.2 own) (acc ++ [q.1]) else .bad) = R.ex c ρ' := h
          cases e3 : el ρ2 with
          | ok q =>
            rw [e3] at h
            have h : (if (szOk (acc.length + 1) && ownOk own q.2) = true then lcLoop tg tst el own ds (wipeE q.2 own) (acc ++ [q.1]) else .bad) = R.ex c ρ' := h
            split at h
            · exact lcLoop_noEx h
            · cases h
          | ex _ _ => rw [e3] at h; cases h
          | bad => rw [e3] at h; cases h
      | ex _ _ => rw [e2] at h; cases h
      | bad => rw [e2] at h; cases h
/-- one turn -/
theorem lcLoop_turn {tg : Tg} {tst : Env → R (Bool × Env)} {el : Env → R (D × Env)} {own : List Nat} {d : D} {ds : List D} {ρ : Env} {acc acc' : List D} {ρ' : Env} (h : lcLoop tg tst el own (d :: ds) ρ acc = .ok (acc', ρ')) :
    ∃ ρ1 b ρ2, bindT tg d ρ = some ρ1 ∧ tst ρ1 = .ok (b, ρ2) ∧ ((b = false ∧ lcLoop tg tst el own ds (wipeE ρ2 own) acc = .ok (acc', ρ')) ∨
      (b = true ∧ ∃ y ρ3, el ρ2 = .ok (y, ρ3) ∧ szOk (acc.length + 1) = true ∧ lcLoop tg tst el own ds (wipeE ρ3 own) (acc ++ [y]) = .ok (acc', ρ'))) := by
  unfold lcLoop at h
  cases e : bindT tg d ρ with
  | none => rw [e] at h; cases h
  | some ρ1 =>
    rw [e] at h
    have h : (noEx (tst ρ1)).bind _ = R.ok (acc', ρ') := h
    cases e2 : tst ρ1 with
    | ok p =>
      rw [e2] at h
      obtain ⟨b, ρ2⟩ := p
      refine ⟨ρ1, b, ρ2, rfl, e2, ?_⟩
      cases b with
      | false =>
        have h : (if ownOk own ρ2 = true then lcLoop tg tst el own ds (wipeE ρ2 own) acc else .bad) = R.ok (acc', ρ') := h
        split at h
        · exact .inl ⟨rfl, h⟩
        · cases h
      | true =>
        have h : ((noEx (el ρ2)).bind fun q => if (szOk (acc.length + 1) && ownOk own q.2) = true then lcLoop tg tst el own ds (wipeE q.2 own) (acc ++ [q.1]) else .bad) = R.ok (acc', ρ') := h
        cases e3 : el ρ2 with
        | ok q =>
          rw [e3] at h
          have h : (if (szOk (acc.length + 1) && ownOk own q.2) = true then lcLoop tg tst el own ds (wipeE q.2 own) (acc ++ [q.1]) else .bad) = R.ok (acc', ρ') := h
          split at h
          · rename_i hs
            simp only [Bool.and_eq_true] at hs
            exact .inr ⟨rfl, q.1, q.2, rfl, hs.1, h⟩
          · cases h
        | ex _ _ => rw [e3] at h; cases h
        | bad => rw [e3] at h; cases h
    | ex _ _ => rw [e2] at h; cases h
    | bad => rw [e2] at h; cases h
theorem Stp.at1 {F H F1 H1 : Hp} {O O1 : Ow} (p : Stp F H O F1 H1 O1) {x : Addr} {u : HO} (h0 : O x = 0) (hf : F x = none) (hh : H x = some u) : O1 x = 0 ∧ F1 x = none ∧ H1 x = some u := by
  refine ⟨?_, p.newF x hf (by rw [hh]; simp) h0, p.keep x u h0 hh⟩
  by_cases z : O1 x = 0
  · exact z
  · rcases p.newO x (by omega) with w | w
    · omega
    · rw [hh] at w; cases w
theorem ownNames_snd (N : List Str) : ∀ own : List Nat, (ownNames N own).map (·.2) = own
  | [] => rfl
  | i :: is => by simp [ownNames, ownNames_snd N is]
theorem holdOwn {g : Gm} {k : ItK} {a : E} {ρ : Env} {F H : Hp} {σ : St} {T : Ow} (h : HoldOk g k a ρ F H σ T) : ∀ x, 0 < T x → F x = none ∧ ∃ u, H x = some u := by
  intro x hx
  unfold HoldOk at h
  split at h
  · obtain ⟨d, v, _, _, r⟩ := h
    exact r.own x hx
  · rw [h x] at hx; cases hx
/-- what was held is put back -/
theorem unh_ok {g : Gm} {k : ItK} {a : E} {ρ0 ρ : Env} {F H F' H' : Hp} {σ σ' : St} {T O : Ow} (h : HoldOk g k a ρ0 F H σ T) (sf : Same F F') (hT : ∀ x, 0 < T x → F' x = none ∧ H' x = H x) (st : Sta g F' H' ρ σ' O) (hOT : ∀ x, O x + T x ≤ 1)
    (hs : ∀ i, k = .hold → a = .var i → σ'[i]? = σ[i]?) : ∃ C, Sta g F' H' (unh k a ρ0 ρ) σ' C ∧ ∀ x, C x ≤ O x + T x := by
  unfold HoldOk at h
  split at h
  · rename_i i
    obtain ⟨d, v, e1, e2, r⟩ := h
    have r' := r.fr (H' := H') sf hT
    have e3 := (hs i rfl rfl).trans e2
    obtain ⟨C, k, hC⟩ := put_ok st r' hOT (by rw [st.slots.length]; exact (List.getElem?_eq_some_iff.mp e3).1)
    rw [set_same e3] at k
    exact ⟨C, by show Sta g F' H' (put ρ i (slot ρ0 i)) σ' C; rw [e1]; exact k, hC⟩
  · rename_i hne
    have : unh k a ρ0 ρ = ρ := by
      unfold unh
      split
      · rename_i i
        exact absurd rfl (hne i rfl)
      · rfl
    rw [this]
    exact ⟨O, st, fun x => by omega⟩

section
variable {X : Cx} {c : Ck} {g : Gm} {W : Wd} {kk : Nat} {sc : Scope}
theorem CE.blk (h : CE X c g W kk sc) (hh : c.hot = false) (s : Shared) (H : Hp) (scope : Scope) (C : Addr) (cl : List (Str × Addr)) (fp : List Addr) : CE (X.blk s H scope (compEnvC scope cl C X.env) fp) c g W kk (relS scope sc) where
  N := h.N
  nd := h.nd
  K := h.K
  sc := by rw [← h.sc]; rfl
  calm := h.calm
  room := h.room
  un := h.un
  kt := h.kt
  blt := h.blt
  fns := h.fns
  xis := fun e => by rw [hh] at e; cases e
  xcl := h.xcl
  fns2 := h.fns2
  gls := h.gls
theorem blk_loc {scope : Scope} {s : Shared} {H : Hp} {C : Addr} {cl : List (Str × Addr)} {fp : List Addr} (x : Str) (h : loc scope x = true) :
    Loc (X.blk s H scope (compEnvC scope cl C X.env) fp).env.scope x ∧ ((X.blk s H scope (compEnvC scope cl C X.env) fp).fn x = true ∨ (X.blk s H scope (compEnvC scope cl C X.env) fp).env.scope.names.lookup x = some .local) := by
  simp only [loc, Bool.or_eq_true, decide_eq_true_eq] at h
  rcases h with h | h
  · have k := lookup_relS_keep (sc := X.env.scope) (k := .local) (by simp) h
    exact ⟨.inl k, .inr k⟩
  · have k := lookup_relS_keep (sc := X.env.scope) (k := .cell) (by simp) h
    refine ⟨.inr k, .inl ?_⟩
    show (scope.names.lookup x == some NameKind.cell) = true
    rw [h]; rfl
end
/-- an item is put to a list that is no slot's -/
theorem app_acc {g : Gm} {F H : Hp} {O A B : Ow} {ρ : Env} {σ : St} {D0 : Addr} {xs : List D} {d : D} {v : V} (st : Sta g F H ρ σ O) (ra : Rep g F H (.lst true xs) (.ref D0) A) (rd : Rep g F H d v B) (h : ∀ x, O x + A x + B x ≤ 1) :
    ∃ ws, H D0 = some (.lst ws) ∧ ws.length = xs.length ∧ Sta g F (upd H D0 (.lst (ws ++ [v]))) ρ σ O ∧ Rep g F (upd H D0 (.lst (ws ++ [v]))) (.lst true (xs ++ [d])) (.ref D0) (fun x => A x + B x) ∧
      Stp F H (fun x => O x + A x + B x) F (upd H D0 (.lst (ws ++ [v]))) (fun x => O x + (A x + B x)) ∧ 0 < A D0 := by
  obtain ⟨l, ws, B0, ev, f1, h1, rl, q⟩ := ra
  cases ev
  have q0 := q D0
  rw [at1_self] at q0
  have h0 := h D0
  have keep : ∀ x, x ≠ D0 → upd H D0 (.lst (ws ++ [v])) x = H x := fun x hx => upd_ne hx
  have same' : Same F (upd H D0 (.lst (ws ++ [v]))) := fun a o e => by
    by_cases z : a = D0
    · subst z; rw [f1] at e; cases e
    · rw [keep a z]; exact st.same a o e
  refine ⟨ws, h1, rl.length.symm, ⟨same', st.slots.fr (Same.refl F) fun x hx => ?_, st.one⟩, ?_, ⟨Same.refl F, same', fun a o z e => ?_, fun a z _ _ => z, fun a z => .inl (by have z : 0 < O a + (A a + B a) := z; show 0 < O a + A a + B a; omega)⟩, by omega⟩
  · have hx2 : x ≠ D0 := fun z => by subst z; omega
    exact ⟨(st.own x hx).1, keep x hx2⟩
  · have k1 : RepL g F (upd H D0 (.lst (ws ++ [v]))) xs ws B0 := rl.fr (Same.refl F) fun x hx => by
      have hx2 : x ≠ D0 := fun z => by subst z; omega
      exact ⟨(rl.own x hx).1, keep x hx2⟩
    have k2 : Rep g F (upd H D0 (.lst (ws ++ [v]))) d v B := rd.fr (Same.refl F) fun x hx => by
      have hx2 : x ≠ D0 := fun z => by subst z; omega
      exact ⟨(rd.own x hx).1, keep x hx2⟩
    refine ⟨D0, ws ++ [v], fun x => B0 x + B x, rfl, f1, upd_same, repL_append k1 ⟨v, [], B, fun _ => 0, rfl, k2, ⟨rfl, fun _ => rfl⟩, fun _ => (Nat.add_zero _).symm⟩, fun x => ?_⟩
    have := q x
    show A x + B x = at1 D0 x + (B0 x + B x)
    omega
  · have z : O a + A a + B a = 0 := z
    have hx2 : a ≠ D0 := fun w => by subst w; omega
    rw [keep a hx2]; exact e
theorem lc_parts {t : Tg} {k : ItK} {a b d e : E} {own : List Nat} (ha : SPe a) (hb : SPe b) (hd : SPt d) (he : SPe e) {X : Cx} {c : Ck} {g : Gm} {W : Wd} {kk : Nat} {sc : Scope} {Wx : WX} {elt tg it : Expr} {ifs : List Expr} {az : Int} {scope : Scope} {pos : Pos} (hc : CE X c g W kk sc) (tk : Takes X Wx)
    (h : chkE c (.lc t k a b d e own) sc (.ListComp elt [⟨tg, it, ifs, az⟩] scope pos) = true) : az = 0 ∧ ok1 it = true ∧ PI X tg it (tI g W Wx k a b) ∧ BlkOk X.N X.env.scope scope (ownNames X.N own) ∧
      (∀ (s : Shared) (H : Hp) (C : Addr) (cl : List (Str × Addr)) (fp : List Addr), PG (X.blk s H scope (compEnvC scope cl C X.env) fp) tg (tTg g t)) ∧
      (∀ (s : Shared) (H : Hp) (C : Addr) (cl : List (Str × Addr)) (fp : List Addr), PE (X.blk s H scope (compEnvC scope cl C X.env) fp) elt (tV g W (fun _ _ _ _ => False) e)) ∧
      ∃ tt : TT, (∀ (s : Shared) (H : Hp) (C : Addr) (cl : List (Str × Addr)) (fp : List Addr), PTs (X.blk s H scope (compEnvC scope cl C X.env) fp) ifs tt) ∧
        ∀ σ H Q, tE g W Wx (.lc t k a b d e own) σ H Q → tLc (tI g W Wx k a b) (tTg g t) tt (tV g W (fun _ _ _ _ => False) e) own σ H Q := by
  unfold chkE at h
  rw [Bool.and_eq_true, Bool.and_eq_true, Bool.and_eq_true, Bool.and_eq_true, Bool.and_eq_true, Bool.and_eq_true, Bool.and_eq_true, Bool.and_eq_true, Bool.and_eq_true, Bool.and_eq_true] at h
  obtain ⟨⟨⟨⟨⟨⟨⟨⟨⟨⟨hh0, hz⟩, hblk⟩, hnd⟩, hlt⟩, htg⟩, hsl⟩, hok⟩, hit⟩, hifs⟩, helt⟩ := h
  have hhot : c.hot = false := by simpa using hh0
  obtain rfl := of_decide_eq_true hz
  -- the test
  have pts : ∃ tt : TT, (∀ (s : Shared) (H : Hp) (C : Addr) (cl : List (Str × Addr)) (fp : List Addr), PTs (X.blk s H scope (compEnvC scope cl C X.env) fp) ifs tt) ∧ ∀ (σ : St) (F H : Hp) (O : Ow) (ρ : Env) (b : Bool) (ρ2 : Env) (Q : Bool → Hp → Prop), Sta g F H ρ σ O → tstE (isNo d) (ev W d) ρ = .ok (b, ρ2) →
      (∀ F' H' O', Sta g F' H' ρ2 σ O' → Stp F H O F' H' O' → Q b H') → tt σ H Q := by
    cases ifs with
    | nil =>
      have hifs : isNo d = true := hifs
      refine ⟨tYes, fun s H C cl fp => pts_nil, fun σ F H O ρ b ρ2 Q st e1 kq => ?_⟩
      rw [hifs] at e1
      cases e1
      exact kq F H O st (Stp.refl st.same)
    | cons y ys =>
      cases ys with
      | cons z zs => simp at hifs
      | nil =>
        simp only [Bool.and_eq_true, Bool.not_eq_true'] at hifs
        refine ⟨tT g W (fun _ _ _ _ => False) d, fun s H C cl fp => pts_one (hd _ c g W kk _ _ y (hc.blk hhot s H scope C cl fp) takes0 hifs.2 hifs.1.2), fun σ F H O ρ b ρ2 Q st e1 kq => ?_⟩
        rw [hifs.1.1] at e1
        have e1 : (ev W d ρ).bind asBl = .ok (b, ρ2) := e1
        refine ⟨F, ρ, O, st, ?_⟩
        rw [e1]
        exact fun F' H' O' st' s' _ => kq F' H' O' st' s'
  obtain ⟨tt, pts, rdt⟩ := pts
  have ok := blkOk_by hblk
  rw [← hc.N, ← hc.sc] at ok
  refine ⟨rfl, hok, spi (tg := tg) ha hb hc tk hit, ok, fun s H C cl fp => pg_ok (X := X.blk s H scope (compEnvC scope cl C X.env) fp) (g := g) (N := c.N) (sc := scope) hc.N hc.nd hc.K (hc.calm hhot) (fun x hx => blk_loc x hx) htg,
    fun s H C cl fp => spe_toV he (hc.blk hhot s H scope C cl fp) (takes0 (X := X.blk s H scope (compEnvC scope cl C X.env) fp)) helt, tt, pts, fun σ H Q ⟨F, ρ, O, st, q⟩ => ?_⟩
  unfold ev at q
  refine ⟨F, ρ, O, st, seqR (T := fun _ => 0) q st.stp fun p ep q1 => ?_⟩
  intro J F1 H1 O1 T st1 src s1 hOT hold D0 hD
  obtain ⟨hown, q2⟩ := postIf q1
  -- the whole loop's result
  cases hlp : lcLoop t (tstE (isNo d) (ev W d)) (toV e (ev W e)) own p.1 (wipeE p.2 own) [] with
  | bad => rw [hlp] at q2; exact q2.elim
  | ex _ _ => exact absurd hlp lcLoop_noEx
  | ok pr =>
    obtain ⟨acc, ρ3⟩ := pr
    rw [hlp] at q2
    have q2 : okE g false none F H O σ Q (.lst true acc, unh k a ρ (backS own p.2 ρ3)) := q2
    obtain ⟨G, Y, wk, hG, hY⟩ := src
    have hTo := holdOwn hold
    refine lc_it wk (fun i H2 => ∃ F2 ρ2 O2 accs A, Sta g F2 H2 ρ2 (wipe σ own) O2 ∧ Rep g F2 H2 (.lst true accs) (.ref D0) A ∧ Stp F1 H1 O1 F2 H2 (fun x => O2 x + A x) ∧ (∀ x, O2 x + A x ≤ 1) ∧
      (∀ x, 0 < T x → O2 x + A x = 0 ∧ F2 x = none ∧ H2 x = H1 x) ∧ (∀ j ∈ own, slot ρ2 j = none) ∧ lcLoop t (tstE (isNo d) (ev W d)) (toV e (ev W e)) own (p.1.drop i) ρ2 accs = .ok (acc, ρ3)) ?_ ?_ ?_ ?_
    · -- the start
      obtain ⟨C, k1, hC⟩ := wipeE_ok st1 own
      have nw := Nw.lst (o := .lst []) st1.same hD
      have k2 := k1.nw nw
      refine ⟨F1, wipeE p.2 own, C, [], at1 D0, k2.1, rep_newL st1.same hD rfl ⟨rfl, fun _ => rfl⟩, (nw.stp (O := O1)).less fun x hx => ?_, fun x => k2.2 x, fun x hx => ?_, fun j hj => slot_wipeE hj, hlp⟩
      · have hx : 0 < C x + at1 D0 x := hx
        have := hC x
        show 0 < O1 x + at1 D0 x
        omega
      · obtain ⟨f, u, eu⟩ := hTo x hx
        have hxD : x ≠ D0 := fun z => by subst z; rw [hD] at eu; cases eu
        have h1 := hOT x
        have h2 := hC x
        rw [at1_ne hxD]
        exact ⟨by omega, f, upd_ne hxD⟩
    · rintro i H2 hi ⟨F2, ρ2, O2, accs, A, st2, ra, s2, h1, hT, hw, hl⟩
      exact hG F2 H2 ⟨s2.ff, st2.same, fun x hx => (hT x hx).2⟩
    · rintro i x H2 H2' hi ⟨F2, ρ2, O2, accs, A, st2, ra, s2, h1, hT, hw, hl⟩ hy
      obtain ⟨F3, y, hyi, hny, ry, nw⟩ := hY i F2 H2 x H2' hi ⟨s2.ff, st2.same, fun x hx => (hT x hx).2⟩ hy
      have hdrop : p.1.drop i = y :: p.1.drop (i + 1) := by
        rw [List.drop_eq_getElem_cons hi]
        rw [List.getElem?_eq_getElem hi] at hyi
        cases hyi
        rfl
      rw [hdrop] at hl
      obtain ⟨ρ4, b1, ρ5, hb, ht, hl⟩ := lcLoop_turn hl
      have k3 := (st2.nw nw).1
      have sN : Stp F2 H2 O2 F3 H2' O2 := (nw.stp (O := O2)).less fun x hx => by show 0 < O2 x + 0; omega
      have ra3 := sN.frame ra fun x hx => by have := h1 x; omega
      have hT3 : ∀ x, 0 < T x → O2 x + A x = 0 ∧ F3 x = none ∧ H2' x = H1 x := fun x hx => by
        obtain ⟨z1, z2, z3⟩ := hT x hx
        obtain ⟨_, u, eu⟩ := hTo x hx
        have w := sN.at1 (x := x) (u := u) (by omega) z2 (by rw [z3, eu])
        exact ⟨z1, w.2.1, by rw [w.2.2, eu]⟩
      refine ⟨F3, ρ2, O2, y, fun _ => 0, ρ4, k3, ry, fun x => k3.one x, hb, fun σ4 O4 st4 hO4 hlen hsame => ?_⟩
      replace hO4 : ∀ x, O4 x ≤ O2 x := fun x => hO4 x
      have hwp : wipe σ4 own = wipe σ own := wipe_eq hlen fun j hj => hsame j fun hj2 => by
        have := List.all_eq_true.mp hsl j hj2
        simp only [List.contains_iff_mem] at this
        exact hj this
      refine ⟨hwp, rdt σ4 F3 H2' O4 ρ4 b1 ρ5 _ st4 ht fun F5 H5 O5 st5 s5 => ?_⟩
      have dis4 : ∀ x, 0 < A x → O4 x = 0 := fun x hx => by have := ra3.2 x hx; have := hO4 x; omega
      have ra5 := s5.frame ra3.1 dis4
      have s15 : Stp F1 H1 O1 F5 H5 (fun x => O5 x + A x) := (s2.trans ((sN.more (T := A)).less (O2 := fun x => O4 x + A x) fun x hx => by
        have hx : 0 < O4 x + A x := hx
        have := hO4 x
        show 0 < O2 x + A x
        omega)).trans s5.more
      have hT5 : ∀ x, 0 < T x → O5 x = 0 ∧ A x = 0 ∧ F5 x = none ∧ H5 x = H1 x := fun x hx => by
        obtain ⟨z1, z2, z3⟩ := hT3 x hx
        obtain ⟨_, u, eu⟩ := hTo x hx
        have hO := hO4 x
        have w := s5.at1 (x := x) (u := u) (by omega) z2 (by rw [z3, eu])
        exact ⟨w.1, by omega, w.2.1, by rw [w.2.2, eu]⟩
      rcases hl with ⟨eb, hl⟩ | ⟨eb, y2, ρ6, hel, hsz, hl⟩
      · subst eb
        rw [if_neg Bool.false_ne_true]
        obtain ⟨C, k6, hC⟩ := wipeE_ok st5 own
        rw [hwp] at k6
        refine ⟨F5, wipeE ρ5 own, C, accs, A, k6, ra5.1, s15.less fun x hx => ?_, fun x => ?_, fun x hx => ?_, fun j hj => slot_wipeE hj, hl⟩
        · have hx : 0 < C x + A x := hx
          have := hC x
          show 0 < O5 x + A x
          omega
        · have h2 := hC x
          have h3 := h1 x
          have h4 := st5.one x
          by_cases z : 0 < A x
          · have := ra5.2 x z; omega
          · omega
        · obtain ⟨z1, z2, z3, z4⟩ := hT5 x hx
          have := hC x
          exact ⟨by omega, z3, z4⟩
      · subst eb
        rw [if_pos rfl]
        refine ⟨F5, ρ5, O5, st5, ?_⟩
        rw [hel]
        intro v F6 H6 O6 B st6 r6 s6 pu6 _
        have ra6 := s6.frame ra5.1 ra5.2
        have hOAB : ∀ x, O6 x + A x + B x ≤ 1 := fun x => by
          have h2 : O6 x + B x ≤ 1 := pu6 x
          have h3 := h1 x
          by_cases z : 0 < A x
          · have : O6 x + B x = 0 := ra6.2 x z
            omega
          · omega
        obtain ⟨ws, hD6, hlw, st7, ra7, s7, hAD⟩ := app_acc st6 ra6.1 r6 hOAB
        simp only [szOk, decide_eq_true_eq] at hsz
        refine ⟨ws, hD6, by omega, ?_⟩
        obtain ⟨C, k8, hC⟩ := wipeE_ok st7 own
        rw [hwp] at k8
        refine ⟨F6, wipeE ρ6 own, C, accs ++ [y2], fun x => A x + B x, k8, ra7, ?_, fun x => ?_, fun x hx => ?_, fun j hj => slot_wipeE hj, hl⟩
        · refine ((s15.trans (s6.more (T := A))).trans ((s7.less (O2 := fun x => C x + (A x + B x)) fun x hx => ?_) |> fun z => ⟨z.ff, z.fh, fun a o h e => z.keep a o (by have h : O6 a + B a + A a = 0 := h; show O6 a + A a + B a = 0; omega) e, fun a f h w => z.newF a f h (by have w : O6 a + B a + A a = 0 := w; show O6 a + A a + B a = 0; omega), fun a h => ?_⟩))
          · have hx : 0 < C x + (A x + B x) := hx
            have := hC x
            show 0 < O6 x + (A x + B x)
            omega
          · rcases z.newO a h with w | w
            · have w : 0 < O6 a + A a + B a := w
              exact .inl (show 0 < O6 a + B a + A a by omega)
            · exact .inr w
        · have h2 := hC x
          have h3 := hOAB x
          show C x + (A x + B x) ≤ 1
          omega
        · obtain ⟨z1, z2, z3, z4⟩ := hT5 x hx
          obtain ⟨_, u, eu⟩ := hTo x hx
          have w := s6.at1 (x := x) (u := u) z1 z3 (by rw [z4, eu])
          have w1 : O6 x + B x = 0 := w.1
          have hxD : x ≠ D0 := fun zz => by subst zz; omega
          have := hC x
          exact ⟨by show C x + (A x + B x) = 0; omega, w.2.1, by rw [upd_ne hxD, w.2.2, eu]⟩
    · rintro H2 ⟨F2, ρ2, O2, accs, A, st2, ra, s2, h1, hT, hw, hl⟩
      rw [List.drop_length] at hl
      cases hl
      have sb : Sta g F2 H2 ρ3 σ O2 := ⟨st2.same, st2.slots.unwipe hw, st2.one⟩
      obtain ⟨C, k1, hC⟩ := backS_ok (old := p.2) (vs := own) sb fun j dj hj ej => by
        obtain ⟨v, B, C', ev', rj, _, _⟩ := st1.slots.take ej
        have hn : noOwn dj = true := by
          have := List.all_eq_true.mp hown j hj
          simp only [ej] at this
          exact this
        exact ⟨v, ev', (rj.fr0 s2.ff hn).eqA (rj.zero hn)⟩
      obtain ⟨C2, k2, h2⟩ := unh_ok (a := a) (k := k) hold s2.ff (fun x hx => (hT x hx).2) k1 (fun x => by
        have w1 := hC x
        have w2 := st2.one x
        have w3 := hOT x
        by_cases z : 0 < T x
        · have := (hT x z).1; omega
        · omega) (fun _ _ _ => rfl)
      refine q2 (.ref D0) F2 H2 C2 A k2 ra ((s1.trans (s2.more (T := T))).less fun x hx => ?_) (fun x => ?_) trivial
      · have hx : 0 < C2 x + A x := hx
        have w1 := h2 x
        have w2 := hC x
        show 0 < O2 x + A x + T x
        omega
      · have w1 := h2 x
        have w2 := hC x
        have w3 := h1 x
        have w4 := hOT x
        show C2 x + A x ≤ 1
        by_cases z : 0 < T x
        · have := (hT x z).1; omega
        · omega
theorem lc_shape {c : Ck} {t : Tg} {k : ItK} {a b d e : E} {own : List Nat} {sc : Scope} {ast : Expr} (h : chkE c (.lc t k a b d e own) sc ast = true) : ∃ elt tg it ifs az scope pos, ast = .ListComp elt [⟨tg, it, ifs, az⟩] scope pos := by
  unfold chkE at h
  split at h <;> rename_i heq <;> first | (cases heq; done) | (cases h; done) | skip
  exact ⟨_, _, _, _, _, _, _, rfl⟩
theorem lc_hot {c : Ck} {t : Tg} {k : ItK} {a b d e : E} {own : List Nat} {sc : Scope} {ast : Expr} (h : chkE c (.lc t k a b d e own) sc ast = true) : c.hot = false := by
  obtain ⟨elt, tg, it, ifs, az, scope, pos, e1⟩ := lc_shape h
  subst e1
  cases hh : c.hot with
  | false => rfl
  | true =>
    unfold chkE at h
    simp [hh] at h
theorem spe_lc {t : Tg} {k : ItK} {a b d e : E} {own : List Nat} (ha : SPe a) (hb : SPe b) (hd : SPt d) (he : SPe e) : SPe (.lc t k a b d e own) := by
  intro X c g W kk sc Wx ast hc tk h
  obtain ⟨elt, tg, it, ifs, az, scope, pos, e1⟩ := lc_shape h
  subst e1
  obtain ⟨hz, hok, pi, ok, pg, pe, tt, pts, rd⟩ := lc_parts ha hb hd he hc tk h
  subst hz
  have q := pe_lc (pos := pos) (hc.calm (lc_hot h)) (by rw [hc.N]; exact hc.nd) pi ok pg pts pe (fold_ok hok)
  rw [ownNames_snd] at q
  exact PE.weak q rd
end PV

/-! PVr: all expressions; the check of statements; what statements are wanted to reach. -/
namespace PV
open PySem L2

def isPl : E → Bool
  | .not _ => false | .and _ _ => false | .or _ _ => false | .ife _ _ _ => false | .cmp _ _ _ => false | .chain _ _ _ _ _ => false | .isn _ _ => false | _ => true
def isNb : E → Bool
  | .and _ _ => false | .or _ _ => false | _ => true
theorem plainT_by {e : E} (h : isPl e = true) : ∀ c sc ast, chkE c e sc ast = true → plainT ast = true := by
  intro c sc ast k
  unfold chkE at k
  split at k <;> first
    | (cases k; done)
    | (cases h; done)
    | rfl
    | (cases ast <;> first | rfl | (simp [frOk] at k; done))
theorem isBo_by {e : E} (h : isNb e = true) : ∀ c sc ast, chkE c e sc ast = true → isBo ast = false := by
  intro c sc ast k
  unfold chkE at k
  split at k <;> first
    | (cases k; done)
    | (cases h; done)
    | rfl
    | (cases ast <;> first | rfl | (simp [frOk] at k; done))
theorem all_plain {e : E} (h : SPe e) (k : isPl e = true) : SPe e ∧ SPt e ∧ SPw e :=
  ⟨h, spt_gen h (plainT_by k), spw_none (isBo_by (by cases e <;> first | rfl | exact k))⟩
theorem all_no {e : E} (h : SPe e) (t : SPt e) (k : isNb e = true) : SPe e ∧ SPt e ∧ SPw e := ⟨h, t, spw_none (isBo_by k)⟩
mutual
theorem all_ok : ∀ e : E, SPe e ∧ SPt e ∧ SPw e
  | .int _ => all_plain spe_int rfl
  | .str _ => all_plain spe_str rfl
  | .bl _ => all_plain spe_bl rfl
  | .non => all_plain spe_non rfl
  | .fn _ => all_plain spe_fn rfl
  | .glob _ => all_plain spe_glob rfl
  | .no => all_plain spe_no rfl
  | .var _ => all_plain spe_var rfl
  | .mv _ => all_plain spe_mv rfl
  | .vf _ => all_plain spe_vf rfl
  | .bin _ a b => all_plain (spe_bin (all_ok a).1 (all_ok b).1) rfl
  | .cmp _ a b => all_no (spe_cmp (all_ok a).1 (all_ok b).1) (spt_cmp (all_ok a).1 (all_ok b).1) rfl
  | .chain _ _ a b c => all_no (spe_chain (all_ok a).1 (all_ok b).1 (all_ok c).1) (spt_chain (all_ok a).1 (all_ok b).1 (all_ok c).1) rfl
  | .isn _ a => all_no (spe_isn (all_ok a).1) (spt_isn (all_ok a).1) rfl
  | .neg a => all_plain (spe_neg (all_ok a).1) rfl
  | .not a => all_no (spe_not (all_ok a).1) (spt_not (all_ok a).2.1) rfl
  | .and a b => ⟨spe_and (all_ok a).1 (all_ok b).1, spt_and (all_ok a).2.1 (all_ok b).2.1 (all_ok b).2.2, pw_andE (all_ok a).2.1 (all_ok b).2.1 (all_ok b).2.2⟩
  | .or a b => ⟨spe_or (all_ok a).1 (all_ok b).1, spt_or (all_ok a).2.1 (all_ok b).2.1 (all_ok b).2.2, pw_orE (all_ok a).2.1 (all_ok b).2.1 (all_ok b).2.2⟩
  | .ife d a b => all_no (spe_ife (all_ok d).2.1 (all_ok a).1 (all_ok b).1) (fun _ _ _ _ _ _ _ _ _ _ _ h => by simp [tOk] at h) rfl
  | .tup es => all_plain (spe_tup (alls_ok es)) rfl
  | .lst es => all_plain (spe_lst (alls_ok es)) rfl
  | .ix a b => all_plain (spe_ix (all_ok a).1 (all_ok b).1) rfl
  | .sl a b c => all_plain (spe_sl (all_ok a).1 (all_ok b).1 (all_ok c).1) rfl
  | .rev a => all_plain (spe_rev (all_ok a).1) rfl
  | .f1 _ a => all_plain (spe_f1 (all_ok a).1) rfl
  | .trg _ a => all_plain (spe_trg (all_ok a).1) rfl
  | .sset a => all_plain (spe_sset (all_ok a).1) rfl
  | .dnw => all_plain spe_dnw rfl
  | .fr e => all_plain (spe_fr (all_ok e).1) rfl
  | .xis _ _ => all_plain spe_xis rfl
  | .f2 _ a b => all_plain (spe_f2 (all_ok a).1 (all_ok b).1) rfl
  | .isin a _ => all_plain (spe_isin (all_ok a).1) rfl
  | .m1 _ a b => all_plain (spe_m1 (all_ok a).1 (all_ok b).1) rfl
  | .call _ es => all_plain (spe_call (alls_ok es)) rfl
  | .mm _ _ _ es => all_plain (spe_mm (alls_ok es)) rfl
  | .lc _ _ a b d e _ => all_plain (spe_lc (all_ok a).1 (all_ok b).1 (all_ok d).2.1 (all_ok e).1) rfl
  | .fld a f => all_plain (fun X c g W kk sc Wx ast hc tk h => by
      unfold chkE at h
      cases h) rfl
theorem alls_ok : ∀ es : Es, AllE SPe es
  | .nil => trivial
  | .cons e es => ⟨(all_ok e).1, alls_ok es⟩
end

/-! ### the check of statements -/
def isTup2 : Expr → Bool
  | .Tuple _ _ _ => true | _ => false
def swOf (sc : Scope) (x : Str) (p : Pos) : Expr → Bool
  | .ListComp _ _ scope pos => decide (sc.names.lookup x = some .local) && (p.line == pos.line) && !(scope.names.any fun (n, k) => n == x && (k == .local || k == .cell))
  | _ => false
def chkN (N : List Str) (sc : Scope) : Option Nat → Option Str → Bool
  | none, none => true
  | some i, some y => slotOk N i y && decide (sc.names.lookup y = some .local)
  | _, _ => false
mutual
def chkS (c : Ck) : S → Scope → Stmt → Bool
  | .asg i e, sc, .Assign [.Name x p] v _ => slotOk c.N i x && loc sc x && chkE c e sc v
  | .asgT is e, sc, .Assign [.Tuple es k p] v _ => !c.hot && chkTg c.N sc (.tup is) (.Tuple es k p) && !isTup2 v && chkE c e sc v
  | .aug i o e, sc, .AugAssign (.Name x p) op v _ => decide (op = .Add) && slotOk c.N i x && loc sc x && chkE c e sc v
  | .setix i _ k e, sc, .Assign [.Subscript (.Name x p) y _] v _ => slotOk c.N i x && vis sc x && nmOk x && chkE c k sc y && chkE c e sc v
  | .dput i k e, sc, .Assign [.Subscript (.Name x p) y _] v _ => slotOk c.N i x && vis sc x && nmOk x && chkE c k sc y && chkE c e sc v
  | .expr e, sc, .Expr v _ => notLc v && chkE c e sc v
  | .ret e, sc, .Return (some v) _ => chkE c e sc v
  | .retn, _, .Return none _ => true
  | .ife d a b, sc, .If t x y _ => tOk d && chkE c d sc t && chkSs c a sc x && chkSs c b sc y
  | .wh d b, sc, .While t x [] _ => !c.hot && tOk d && chkE c d sc t && chkSs c b sc x
  | .for g k a b body, sc, .For tg it x [] _ => !c.hot && chkTg c.N sc g tg && ok1 it && chkI k (isVar a) (chkE c a sc) (chkE c b sc) sc tg it && chkSs c body sc x
  | .raise n, sc, .Raise (some (.Call (.Name x _) [.Constant (.str _) _ _] [] _)) none _ => !c.hot && decide (c.nc n = some x) && isGl sc x && nmOk x
  | .try1 b n i h, sc, .Try body [.ExceptHandler (some (.Name x _)) y (b0 :: suite) _] [] [] _ => !c.hot && decide (c.nc n = some x) && decide (c.nx n = some x) && isGl sc x && nmOk x && chkN c.N sc i y && chkSs c b sc body && chkSs { c with hot := true } h sc (b0 :: suite)
  | .pass, _, .Pass _ => true
  | .pass, _, .Expr (.Constant (.str _) _ _) _ => true
  | .cont, _, .Continue _ => true
  | .brk, _, .Break _ => true
  | _, _, _ => false
def chkSs (c : Ck) : Ss → Scope → List Stmt → Bool
  | .nil, _, [] => true
  | .cons s ss, sc, x :: xs => chkS c s sc x && chkSs c ss sc xs
  | _, _, _ => false
end

/-! ### what a statement is wanted to reach -/
structure CS (X : Cx) (c : Ck) (g : Gm) (W : Wd) (kk : Nat) (sc : Scope) : Prop extends CE X c g W kk sc where
  fn : ∀ x, X.fn x = true
  pass : c.hot = false → PassesOwn (model X.prog X.w) X.A X.env X.xe
  fkind : X.env.scope.kind = .function
  stk : X.stack = X.env :: X.outer
  frm : X.env.frame = some X.env.locals
  few : c.hot = false → ∀ n, g.fa (1000 + n) = none
  xca : ∀ n j, W.sub n j = true → ∃ C, g.ca n = some C ∧ ExcC X.K C
  xhd : ∀ j x, c.nc j = some x → c.nx j = some x → ∃ C, X.mg x = some (.ref C) ∧ ∀ n D, g.ca n = some D → PySem.W.exmOne X.K (.ref D) (.ref C) = some (W.sub n j)
  exs : c.hot = false → ∀ pn xe n C x, g.ca n = some C → c.nc n = some x → Gl X x → nmOk x = true → ∀ p m j p2 pos, PMk (X.tr pn xe) (.Call (.Name x p) [.Constant (.str m) j p2] [] pos) (fun _ H Q => Q (.ref C) none H)
theorem CS.xs {X : Cx} {c : Ck} {g : Gm} {W : Wd} {kk : Nat} {sc : Scope} (h : CS X c g W kk sc) (hh : c.hot = false) : ∀ n C x, g.ca n = some C → c.nc n = some x → Gl X x → nmOk x = true → ∀ p m j p2 pos, PMk X (.Call (.Name x p) [.Constant (.str m) j p2] [] pos) (fun _ H Q => Q (.ref C) none H) := h.exs hh X.pn X.xe
theorem CS.loc {X : Cx} {c : Ck} {g : Gm} {W : Wd} {kk : Nat} {sc : Scope} (h : CS X c g W kk sc) (x : Str) (k : loc sc x = true) : Loc X.env.scope x ∧ (X.fn x = true ∨ X.env.scope.names.lookup x = some .local) := by
  simp only [PV.loc, Bool.or_eq_true, decide_eq_true_eq] at k
  rw [h.sc]
  exact ⟨k, .inl (h.fn x)⟩
theorem CS.hold {X : Cx} {c : Ck} {g : Gm} {W : Wd} {kk : Nat} {sc : Scope} (h : CS X c g W kk sc) (k : ItK) (a : E) : CS X c g (W.hold k a) kk sc := by
  have : (W.hold k a).fd = W.fd ∧ (W.hold k a).call = W.call ∧ (W.hold k a).gl = W.gl ∧ (W.hold k a).kt = W.kt ∧ (W.hold k a).sub = W.sub := by
    unfold Wd.hold
    split <;> exact ⟨rfl, rfl, rfl, rfl, rfl⟩
  obtain ⟨e1, e2, e3, e4, e5⟩ := this
  exact { N := h.N, nd := h.nd, K := h.K, sc := h.sc, calm := h.calm, room := h.room, un := h.un, kt := e4.trans h.kt, blt := h.blt, fns := by rw [e1, e2]; exact h.fns, fns2 := h.fns2, xis := h.xis, xcl := by rw [e5]; exact h.xcl, gls := by rw [e3]; exact h.gls, fn := h.fn, pass := h.pass, fkind := h.fkind, stk := h.stk, frm := h.frm, few := h.few, xca := by rw [e5]; exact h.xca, xhd := by rw [e5]; exact h.xhd, exs := h.exs }
def Pin (pin : List Nat) (σ σ' : St) : Prop := σ'.length = σ.length ∧ ∀ i ∈ pin, σ'[i]? = σ[i]?
theorem Pin.refl {pin : List Nat} {σ : St} : Pin pin σ σ := ⟨rfl, fun _ _ => rfl⟩
theorem Pin.trans {pin : List Nat} {σ σ1 σ2 : St} (p : Pin pin σ σ1) (q : Pin pin σ1 σ2) : Pin pin σ σ2 := ⟨q.1.trans p.1, fun i h => (q.2 i h).trans (p.2 i h)⟩
theorem Pin.sub {pin pin' : List Nat} {σ σ1 : St} (p : Pin pin σ σ1) (h : ∀ i ∈ pin', i ∈ pin) : Pin pin' σ σ1 := ⟨p.1, fun i k => p.2 i (h i k)⟩
theorem Pin.set {pin : List Nat} {σ : St} {i : Nat} {v : Option V} (h : fits pin [i] = true) : Pin pin σ (σ.set i v) := by
  refine ⟨List.length_set, fun j hj => ?_⟩
  have : i ∉ pin := by simpa [fits] using h
  exact List.getElem?_set_ne fun z => this (by rw [z]; exact hj)
def PostF (g : Gm) (Wx : WX) (pin : List Nat) (D : Ends) (x : Fl) (F H : Hp) (O : Ow) (σ : St) : Prop := match x with
  | .nx ρ' => ∀ F' H' σ' O', Sta g F' H' ρ' σ' O' → Stp F H O F' H' O' → Pin pin σ σ' → D.nx σ' H'
  | .bk ρ' => ∀ F' H' σ' O', Sta g F' H' ρ' σ' O' → Stp F H O F' H' O' → Pin pin σ σ' → D.bk σ' H'
  | .ct ρ' => ∀ F' H' σ' O', Sta g F' H' ρ' σ' O' → Stp F H O F' H' O' → Pin pin σ σ' → D.ct σ' H'
  | .rt d ρ' => ∀ v F' H' σ' O' A, Sta g F' H' ρ' σ' O' → Rep g F' H' d v A → Stp F H O F' H' (fun x => O' x + A x) → (∀ x, O' x + A x ≤ 1) → Pin pin σ σ' → D.rt v H'
  | .ex c ρ' => ∃ C, g.ca c = some C ∧ ∀ F' H' σ' O', Sta g F' H' ρ' σ' O' → Stp F H O F' H' O' → Pin pin σ σ' → Wx (.ref C) none σ' H'
  | .bad => False
def tS (g : Gm) (W : Wd) (Wx : WX) (s : S) : TS := fun D σ H => ∃ F ρ O, Sta g F H ρ σ O ∧ PostF g Wx W.pin D (st W s ρ) F H O σ
def tSs (g : Gm) (W : Wd) (Wx : WX) (ss : Ss) : TS := fun D σ H => ∃ F ρ O, Sta g F H ρ σ O ∧ PostF g Wx W.pin D (sts W ss ρ) F H O σ

section
variable {g : Gm} {Wx : WX} {pin : List Nat} {D : Ends} {F H F1 H1 : Hp} {O O1 T : Ow} {σ σ1 : St}
theorem PostF.sub {x : Fl} (h : PostF g Wx pin D x F H O σ) (s : Stp F H O F1 H1 O1) (p : Pin pin σ σ1) : PostF g Wx pin D x F1 H1 O1 σ1 := by
  cases x with
  | nx ρ => exact fun F' H' σ' O' st s' p' => h F' H' σ' O' st (s.trans s') (p.trans p')
  | bk ρ => exact fun F' H' σ' O' st s' p' => h F' H' σ' O' st (s.trans s') (p.trans p')
  | ct ρ => exact fun F' H' σ' O' st s' p' => h F' H' σ' O' st (s.trans s') (p.trans p')
  | rt d ρ => exact fun v F' H' σ' O' A st r s' q p' => h v F' H' σ' O' A st r (s.trans s') q (p.trans p')
  | ex c ρ =>
    obtain ⟨C, hc, h⟩ := h
    exact ⟨C, hc, fun F' H' σ' O' st s' p' => h F' H' σ' O' st (s.trans s') (p.trans p')⟩
  | bad => exact h
theorem seqF {α : Type} {x : R α} {f : α → Fl} {okq : α → Prop} (h : PostF g Wx pin D (Fl.of x f) F H O σ) (s0 : Stp F H O F1 H1 (fun x => O1 x + T x)) (p0 : Pin pin σ σ1)
    (k : ∀ a, x = .ok a → PostF g Wx pin D (f a) F H O σ → okq a) : PostR g Wx okq x F1 H1 O1 σ1 := by
  cases x with
  | ok a => exact k a rfl h
  | ex c ρ' =>
    obtain ⟨C, hc, h⟩ := h
    exact ⟨C, hc, fun F' H' O' st s => h F' H' σ1 O' st ((s0.trans s.more).less fun x hx => by show 0 < O' x + T x; omega) p0⟩
  | bad => exact h
theorem postFIf {b : Bool} {x : Fl} (h : PostF g Wx pin D (if b = true then x else .bad) F H O σ) : b = true ∧ PostF g Wx pin D x F H O σ := by
  cases b with
  | true => exact ⟨rfl, h⟩
  | false => exact h.elim
end
end PV

/-! PVs: statements are right. -/
namespace PV
open PySem L2

theorem PS.weak {X : Cx} {e : Stmt} {t t' : TS} (h : PS X e t) (k : ∀ D σ H, t' D σ H → t D σ H) : PS X e t' := ⟨fun pins s σ H D I q => h.run pins s σ H D I (k D σ H q)⟩
theorem PSs.weak {X : Cx} {e : List Stmt} {t t' : TS} (h : PSs X e t) (k : ∀ D σ H, t' D σ H → t D σ H) : PSs X e t' := ⟨fun pins s σ H D I q => h.run pins s σ H D I (k D σ H q)⟩
theorem PSet.or {X : Cx} {t u : TSet} (h : PSet X t) (k : PSet X u) : PSet X (fun o i v H Q => t o i v H Q ∨ u o i v H Q) :=
  fun pins s σ H o i v ov iv w Q I r1 r2 r3 q => q.elim (h pins s σ H o i v ov iv w Q I r1 r2 r3) (k pins s σ H o i v ov iv w Q I r1 r2 r3)

def SPs (s : S) : Prop := ∀ (X : Cx) (c : Ck) (g : Gm) (W : Wd) (kk : Nat) (sc : Scope) (Wx : WX) (ast : Stmt), CS X c g W kk sc → Takes X Wx → chkS c s sc ast = true → PS X ast (tS g W Wx s)
def SPss (ss : Ss) : Prop := ∀ (X : Cx) (c : Ck) (g : Gm) (W : Wd) (kk : Nat) (sc : Scope) (Wx : WX) (ast : List Stmt), CS X c g W kk sc → Takes X Wx → chkSs c ss sc ast = true → PSs X ast (tSs g W Wx ss)

theorem sps_nil : SPss .nil := by
  intro X c g W kk sc Wx ast hc tk h
  cases ast with
  | cons y ys => simp [chkSs] at h
  | nil =>
    refine PSs.weak pss_nil fun D σ H ⟨F, ρ, O, st, q⟩ => ?_
    unfold sts at q
    exact q F H σ O st (Stp.refl st.same) Pin.refl
theorem sps_cons {s : S} {ss : Ss} (h1 : SPs s) (h2 : SPss ss) : SPss (.cons s ss) := by
  intro X c g W kk sc Wx ast hc tk h
  cases ast with
  | nil => simp [chkSs] at h
  | cons y ys =>
    simp only [chkSs, Bool.and_eq_true] at h
    refine PSs.weak (pss_cons (h1 X c g W kk sc Wx _ hc tk h.1) (h2 X c g W kk sc Wx _ hc tk h.2)) fun D σ H ⟨F, ρ, O, st, q⟩ => ?_
    unfold sts at q
    refine ⟨F, ρ, O, st, ?_⟩
    cases e : PV.st W s ρ with
    | nx ρ' =>
      rw [e] at q
      exact fun F' H' σ' O' st' s' p' => ⟨F', ρ', O', st', q.sub s' p'⟩
    | bk _ => rw [e] at q; exact q
    | ct _ => rw [e] at q; exact q
    | rt _ _ => rw [e] at q; exact q
    | ex _ _ => rw [e] at q; exact q
    | bad => rw [e] at q; exact q

/-! ### the small ones -/
theorem rd_asg {g : Gm} {W : Wd} {Wx : WX} {i : Nat} {e : E} {D : Ends} {σ : St} {H : Hp} (q : tS g W Wx (.asg i e) D σ H) : tV g W Wx e σ H fun x H1 => D.nx (σ.set i (some x)) H1 := by
  obtain ⟨F, ρ, O, st, q⟩ := q
  unfold PV.st at q
  refine ⟨F, ρ, O, st, seqF (T := fun _ => 0) q st.stp Pin.refl fun p ep q1 => ?_⟩
  obtain ⟨hf, q2⟩ := postFIf q1
  simp only [Bool.and_eq_true, decide_eq_true_eq] at hf
  intro v F1 H1 O1 A1 st1 r1 s1 pu1 _
  obtain ⟨O2, st2, h2⟩ := put_ok st1 r1 pu1 hf.1
  exact q2 F1 H1 _ O2 st2 (s1.less fun x hx => by have := h2 x; show 0 < O1 x + A1 x; omega) (Pin.set hf.2)
theorem lc_of {c : Ck} {e : E} {sc : Scope} {v : Expr} (h : chkE c e sc v = true) (n : notLc v = false) : ∃ t k a b d f own, e = .lc t k a b d f own := by
  cases v <;> simp only [notLc] at n <;> (try cases n)
  cases e <;> first
    | (simp [chkE, frOk] at h; done)
    | exact ⟨_, _, _, _, _, _, _, rfl⟩
theorem sw_is {elt : Expr} {gs : List Comprehension} {scope : Scope} {pos py : Pos} {y : Str} {l : Nat} {env : PySem.Env} (hk : env.scope.kind = .function) (h : swOf env.scope y py (.ListComp elt gs scope pos) = false) : swapsWith (.ListComp elt gs scope pos) (some (.Name y py)) l env = Pure.pure false := by
  have hb : env.blockKind = .function := by unfold PySem.Env.blockKind; rw [hk]; rfl
  unfold swapsWith
  simp only [hb]
  unfold swOf at h
  show (Pure.pure ((ScopeKind.function == ScopeKind.function) && (env.scope.names.lookup y == some NameKind.local) && (py.line == pos.line) && !(scope.names.any fun (n, k) => n == y && (k == .local || k == .cell))) : Sem Bool) = Pure.pure false
  congr 1
  have e : (env.scope.names.lookup y == some NameKind.local) = decide (env.scope.names.lookup y = some .local) := by
    cases z : env.scope.names.lookup y with
    | none => rfl
    | some k => cases k <;> rfl
  rw [e]
  exact h
theorem sps_asg {i : Nat} {e : E} (he : SPe e) (hall : ∀ e, SPe e ∧ SPt e ∧ SPw e) : SPs (.asg i e) := by
  intro X c g W kk sc Wx ast hc tk h
  unfold chkS at h
  split at h <;> rename_i heq <;> first | (cases heq; done) | (cases h; done) | skip
  cases heq
  rename_i x p v pos
  simp only [Bool.and_eq_true] at h
  obtain ⟨⟨h1, h2⟩, h3⟩ := h
  have hi : X.N[i]? = some x := by rw [hc.N]; exact of_decide_eq_true h1
  have hN : X.N.Nodup := by rw [hc.N]; exact hc.nd
  have hl := hc.loc x h2
  have pg := pg_name (pos := p) hN hi hl.1 hl.2
  cases hn : notLc v with
  | true => exact PS.weak (ps_asg (spe_toV he hc.toCE tk h3) pg (by unfold swapsWithSole; exact swaps_ok (chk_ok1 h3) hn) rfl rfl) fun D σ H q => rd_asg q
  | false =>
    obtain ⟨t, k, a, b, d, f, own, ee⟩ := lc_of h3 hn
    subst ee
    obtain ⟨elt, tg, it, ifs, az, scope, pos2, e1⟩ := lc_shape h3
    subst e1
    cases hs : swOf X.env.scope x p (.ListComp elt [⟨tg, it, ifs, az⟩] scope pos2) with
    | true =>
      obtain ⟨hz, hok, pi, ok, pgs, pes, tt, pts, rd⟩ := lc_parts (hall a).1 (hall b).1 (hall d).2.1 (hall f).1 hc.toCE tk h3
      subst hz
      simp only [swOf, Bool.and_eq_true, decide_eq_true_eq, Bool.not_eq_true'] at hs
      have hlo : X.env.scope.names.lookup x = some .local := hs.1.1
      have q := ps_setLc (spos := pos) (pos := pos2) (py := p) (hc.calm (lc_hot h3)) hN hi hlo (sw_true hc.fkind hlo hs.1.2 hs.2) pi ok pgs pts pes (fold_ok hok)
      rw [ownNames_snd] at q
      exact PS.weak q fun D σ H q => rd _ _ _ (rd_asg q)
    | false =>
      exact PS.weak (ps_asg (spe_toV he hc.toCE tk h3) pg (by unfold swapsWithSole; exact sw_is hc.fkind hs) rfl rfl) fun D σ H q => rd_asg q
theorem noswT {es : List Expr} {k : Nat} {p : Pos} {v : Expr} {l : Nat} {env : PySem.Env} (h : ok1 v = true) : swapsWithSole [.Tuple es k p] v l env = Pure.pure false := by
  cases v <;> first
    | rfl
    | (simp [ok1] at h; done)
theorem nostT {es : List Expr} {k : Nat} {p : Pos} {v : Expr} {env : PySem.Env} (h : isTup2 v = false) : swappedStores [.Tuple es k p] v env = Pure.pure none := by
  cases v <;> first
    | rfl
    | (simp [isTup2] at h; done)
theorem sps_asgT {is : List Nat} {e : E} (he : SPe e) : SPs (.asgT is e) := by
  intro X c g W kk sc Wx ast hc tk h
  unfold chkS at h
  split at h <;> rename_i heq <;> first | (cases heq; done) | (cases h; done) | skip
  cases heq
  rename_i es k p v pos
  simp only [Bool.and_eq_true, Bool.not_eq_true'] at h
  obtain ⟨⟨⟨hh, h1⟩, h2⟩, h3⟩ := h
  refine PS.weak (ps_asg (spe_toF he hc.toCE tk h3) (pg_ok (g := g) (t := .tup is) hc.N hc.nd hc.K (hc.calm hh) hc.loc h1) (noswT (chk_ok1 h3)) (nostT h2) rfl) fun D σ H ⟨F, ρ, O, st, q⟩ => ?_
  unfold PV.st at q
  refine ⟨F, ρ, O, st, seqF (T := fun _ => 0) q st.stp Pin.refl fun p ep q1 => ?_⟩
  obtain ⟨hf, q2⟩ := postFIf q1
  intro v F1 H1 O1 st1 r1 s1 n1
  cases hb : bindT (.tup is) p.1 p.2 with
  | none => rw [hb] at q2; exact q2.elim
  | some ρ' =>
    rw [hb] at q2
    refine ⟨F1, p.2, O1, p.1, fun _ => 0, ρ', st1, r1, fun x => st1.one x, hb, fun σ' O' st' hO hl hs => ?_⟩
    refine q2 F1 H1 σ' O' st' (s1.less fun x hx => by have : O' x ≤ O1 x + 0 := hO x; omega) ⟨hl, fun j hj => hs j fun hj2 => ?_⟩
    have := List.all_eq_true.mp hf j hj2
    simp only [Bool.not_eq_true', List.contains_eq_mem, decide_eq_false_iff_not] at this
    exact this hj
theorem sps_aug {i : Nat} {o : B2} {e : E} (he : SPe e) : SPs (.aug i o e) := by
  intro X c g W kk sc Wx ast hc tk h
  unfold chkS at h
  split at h <;> rename_i heq <;> first | (cases heq; done) | (cases h; done) | skip
  cases heq
  rename_i x p op v pos
  simp only [Bool.and_eq_true, decide_eq_true_eq] at h
  obtain ⟨⟨⟨ho, h1⟩, h2⟩, h3⟩ := h
  subst ho
  have hi : X.N[i]? = some x := by rw [hc.N]; exact of_decide_eq_true h1
  have hN : X.N.Nodup := by rw [hc.N]; exact hc.nd
  have hl := hc.loc x h2
  refine PS.weak (ps_aug hN hi hl.1 (he X c g W kk _ Wx _ hc.toCE tk h3) ip_add hl.2) fun D σ H ⟨F, ρ, O, st, q⟩ => ?_
  unfold PV.st at q
  cases hd : slot ρ i with
  | none => rw [hd] at q; exact q.elim
  | some d =>
    rw [hd] at q
    obtain ⟨v, B, C, e1, r, rs, qq⟩ := st.slots.take hd
    cases d <;> (try exact q.elim)
    rename_i n
    have rv := r.1
    subst rv
    refine ⟨_, e1, F, ρ, O, st, seqF (T := fun _ => 0) q st.stp Pin.refl fun p ep q1 => ?_⟩
    intro w F1 H1 O1 A1 st1 r1 s1 pu1 _
    cases hd1 : p.1 <;> rw [hd1] at q1 r1 <;> (try exact q1.elim)
    obtain ⟨hf, q2⟩ := postFIf q1
    simp only [Bool.and_eq_true, decide_eq_true_eq] at hf
    refine ⟨_, _, rfl, r1.1, ?_⟩
    obtain ⟨O2, st2, h2⟩ := put_ok (i := i) st1 (rep_int (g := g) (F := F1) (H := H1)) (fun x => st1.one x) (by rw [st1.slots.length]; exact (List.getElem?_eq_some_iff.mp e1).1)
    exact q2 F1 H1 _ O2 st2 (s1.less fun x hx => by have : O2 x ≤ O1 x + 0 := h2 x; show 0 < O1 x + A1 x; omega) (Pin.set hf.1)
theorem repL_set {g : Gm} {F H : Hp} {d : D} {v : V} (rd : Rep g F H d v (fun _ => 0)) : ∀ {xs : List D} {vs : List V} {B : Ow} {n : Nat}, RepL g F H xs vs B → ∃ B', RepL g F H (xs.set n d) (vs.set n v) B' ∧ ∀ x, B' x ≤ B x
  | [], vs, B, n, h => ⟨B, by rw [h.1]; exact ⟨rfl, h.2⟩, fun _ => Nat.le_refl _⟩
  | y :: ys, vs, B, 0, h => by
    obtain ⟨w, vs', B1, C, e, r, rs, q⟩ := h
    subst e
    exact ⟨C, ⟨v, vs', _, C, rfl, rd, rs, fun x => by show C x = 0 + C x; omega⟩, fun x => by have := q x; omega⟩
  | y :: ys, vs, B, n + 1, h => by
    obtain ⟨w, vs', B1, C, e, r, rs, q⟩ := h
    subst e
    obtain ⟨C', k, hC⟩ := repL_set rd (n := n) rs
    exact ⟨fun x => B1 x + C' x, ⟨w, _, B1, C', rfl, r, k, fun _ => rfl⟩, fun x => by have := q x; have := hC x; show B1 x + C' x ≤ B x; omega⟩
theorem sps_setix {i : Nat} {sp : List Sp1} {k e : E} (hk : SPe k) (he : SPe e) : SPs (.setix i sp k e) := by
  intro X c g W kk sc Wx ast hc tk h
  unfold chkS at h
  split at h <;> rename_i heq <;> first | (cases heq; done) | (cases h; done) | skip
  cases heq
  rename_i x p y tp v pos
  simp only [Bool.and_eq_true] at h
  obtain ⟨⟨⟨⟨h1, h2⟩, h3⟩, h4⟩, h5⟩ := h
  have nosw : swapsWithSole [.Subscript (.Name x p) y tp] v pos.line X.env = Pure.pure false := by
    have := chk_ok1 h5
    cases v <;> first
      | rfl
      | (simp [ok1] at this; done)
  have asub : ∀ w, assign (.Subscript (.Name x p) y tp) X.env w = (do
      let ov ← holding [w] (eval (.Name x p) X.env)
      let iv ← holding [w, ov] (eval y X.env)
      standAt tp
      holding [w, ov, iv] (setItem ov iv w)
      release [w, ov, iv] []) := by
    have := chk_ok1 h4
    intro w
    cases y <;> first
      | rfl
      | (simp [ok1] at this; done)
  refine PS.weak (ps_asg (spe_toF he hc.toCE tk h5) (pg_sub (pe_slot hc.toCE (i := i) (by rw [h1, h2, h3]; rfl)) (hk X c g W kk _ Wx _ hc.toCE tk h4) set_list asub) nosw rfl rfl) fun D σ H ⟨F, ρ, O, st, q⟩ => ?_
  unfold PV.st at q
  refine ⟨F, ρ, O, st, seqF (T := fun _ => 0) q st.stp Pin.refl fun p1 ep q1 => ?_⟩
  intro w F1 H1 O1 st1 r1 s1 n1
  obtain ⟨ho, q1⟩ := postFIf q1
  cases hd : slot p1.2 i with
  | none => rw [hd] at ho; cases ho
  | some d0 =>
    obtain ⟨v0, B0, C0, e1, _, _, _⟩ := st1.slots.take hd
    refine ⟨v0, e1, F1, p1.2, O1, st1, seqF q1 (stp0 s1) Pin.refl fun p2 ep2 q2 => ?_⟩
    intro kv F2 H2 O2 A2 st2 r2 s2 pu2 _
    split at q2
    · rename_i xs j hs hj _ _
      obtain ⟨hp, q3⟩ := postFIf q2
      cases hn : ixN xs.length j with
      | none => rw [hn] at q3; exact q3.elim
      | some n =>
        rw [hn] at q3
        rw [hj] at r2
        have r1' := r1.fr0 (H' := H2) s2.ff n1
        obtain ⟨l, ws, B, ev', hl, rl, hB, fl, kk2⟩ := setL (A := fun _ => 0) st2 (fun x => st2.one x) hs e1
        obtain ⟨B', rl', hB'⟩ := repL_set (r1'.eqA (r1'.zero n1)) (n := n) rl
        obtain ⟨O3, st3, s3, _, _⟩ := kk2 _ _ B' rl' fun x => by have := hB' x; omega
        refine ⟨l, ws, j, n, ev', r2.1, hl, by rw [← rl.length]; exact hn, q3 F2 _ σ O3 st3 ((s1.trans s2.drop).trans ?_) Pin.refl⟩
        exact ⟨s3.ff, s3.fh, fun a o h e => s3.keep a o (by show O2 a + 0 = 0; omega) e, fun a h1 h2 h3 => s3.newF a h1 h2 (by show O2 a + 0 = 0; omega), fun a h => by
          rcases s3.newO a h with w | w
          · exact .inl (by have w : 0 < O2 a + 0 := w; omega)
          · exact .inr w⟩
    · exact q2.elim
/-- a slot's dict gets other items -/
theorem setD {g : Gm} {F H : Hp} {O : Ow} {ρ : Env} {σ : St} {i : Nat} {ks vs : List D} {v : V} (st : Sta g F H ρ σ O) (hd : slot ρ i = some (.dct true false ks vs)) (hv : σ[i]? = some (some v)) :
    ∃ a kvs, v = .ref a ∧ H a = some (.dK kvs) ∧ ks.map keyOf = kvs.map (fun p => some p.1) ∧ RepL g F H vs (kvs.map (·.2)) (fun _ => 0) ∧ ∀ (ks' vs' : List D) (kvs' : List (Key × V)), ks'.map keyOf = kvs'.map (fun p => some p.1) → RepL g F H vs' (kvs'.map (·.2)) (fun _ => 0) →
      Sta g F (upd H a (.dK kvs')) (put ρ i (some (.dct true false ks' vs'))) σ O ∧ Stp F H O F (upd H a (.dK kvs')) O := by
  obtain ⟨v', B0, C, e1, r, rs, q⟩ := st.slots.take hd
  rw [hv] at e1
  cases e1
  obtain ⟨a, kvs, ev', ⟨f1, h1⟩, kk, rl, qq⟩ := r
  have oa : O a = 1 ∧ C a = 0 := by
    have h2 := st.one a
    have h3 := q a
    have h4 : B0 a = at1 a a := qq a
    rw [at1_self] at h4
    omega
  refine ⟨a, kvs, ev', h1, kk, rl, fun ks' vs' kvs' kk' rl' => ?_⟩
  have keep : ∀ x, x ≠ a → upd H a (.dK kvs') x = H x := fun x hx => upd_ne hx
  have rl2 : RepL g F (upd H a (.dK kvs')) vs' (kvs'.map (·.2)) (fun _ => 0) := rl'.fr (Same.refl F) fun x hx => absurd hx (Nat.lt_irrefl 0)
  have rs2 : RepS g F (upd H a (.dK kvs')) (put ρ i none) σ C := rs.fr (Same.refl F) fun x hx => by
    have hx2 : x ≠ a := fun z => by subst z; omega
    exact ⟨(rs.own x hx).1, keep x hx2⟩
  have rd2 : Rep g F (upd H a (.dK kvs')) (.dct true false ks' vs') (.ref a) (at1 a) := ⟨a, kvs', rfl, ⟨f1, upd_same⟩, kk', rl2, fun _ => rfl⟩
  have fl := rs2.fill (slot_lt hd) rd2
  rw [← ev', set_same hv] at fl
  refine ⟨⟨fun b o e => ?_, fl.eqO fun x => ?_, fun x => st.one x⟩, ⟨Same.refl F, fun b o e => ?_, fun b o h e => ?_, fun b h _ _ => h, fun b h => .inl h⟩⟩
  · by_cases z : b = a
    · subst z; rw [f1] at e; cases e
    · rw [keep b z]; exact st.same b o e
  · have h3 := q x
    have h4 : B0 x = at1 a x := qq x
    omega
  · by_cases z : b = a
    · subst z; rw [f1] at e; cases e
    · rw [keep b z]; exact st.same b o e
  · have z : b ≠ a := fun z => by subst z; omega
    rw [keep b z]; exact e
theorem sps_dput {i : Nat} {k e : E} (hk : SPe k) (he : SPe e) : SPs (.dput i k e) := by
  intro X c g W kk sc Wx ast hc tk h
  unfold chkS at h
  split at h <;> rename_i heq <;> first | (cases heq; done) | (cases h; done) | skip
  cases heq
  rename_i x p y tp v pos
  simp only [Bool.and_eq_true] at h
  obtain ⟨⟨⟨⟨h1, h2⟩, h3⟩, h4⟩, h5⟩ := h
  have nosw : swapsWith v (some (.Subscript (.Name x p) y tp)) pos.line X.env = Pure.pure false := by
    have := chk_ok1 h5
    cases v <;> first
      | rfl
      | (simp [ok1] at this; done)
  refine PS.weak (ps_dput (by have := hc.toCE.units; omega) (pe_slot hc.toCE (i := i) (by rw [h1, h2, h3]; rfl)) (hk X c g W kk _ Wx _ hc.toCE tk h4) (spe_toF he hc.toCE tk h5) nosw) fun D σ H ⟨F, ρ, O, st, q⟩ => ?_
  unfold PV.st at q
  refine ⟨F, ρ, O, st, seqF (T := fun _ => 0) q st.stp Pin.refl fun p1 ep q1 => ?_⟩
  intro w F1 H1 O1 st1 r1 s1 n1
  obtain ⟨ho, q1⟩ := postFIf q1
  cases hd : slot p1.2 i with
  | none => rw [hd] at ho; cases ho
  | some d0 =>
    obtain ⟨v0, B0, C0, e1, _, _, _⟩ := st1.slots.take hd
    refine ⟨v0, e1, F1, p1.2, O1, st1, seqF q1 (stp0 s1) Pin.refl fun p2 ep2 q2 => ?_⟩
    intro kv F2 H2 O2 A2 st2 r2 s2 pu2 _
    cases hz : putS p2.1 p1.1 (slot p2.2 i) with
    | none => rw [hz] at q2; exact q2.elim
    | some z =>
      rw [hz] at q2
      unfold putS at hz
      split at hz
      · rename_i ks vs hs
        split at hz
        · rename_i hok
          cases hz
          simp only [Bool.and_eq_true, szOk, decide_eq_true_eq] at hok
          obtain ⟨key, hkey⟩ := Option.isSome_iff_exists.mp hok.1
          have r1' := r1.fr0 (H' := H2) s2.ff n1
          obtain ⟨a, kvs, ev', ha, kk2, rl, more⟩ := setD st2 hs e1
          obtain ⟨m1, m2⟩ := putD_ok hkey (r1'.eqA (r1'.zero n1)) kk2 rl
          obtain ⟨st3, s3⟩ := more _ _ _ m1 m2
          have hkv := keyOf_kV r2 hkey
          subst hkv
          have hlen : ks.length = kvs.length := by
            have := congrArg List.length kk2
            rwa [List.length_map, List.length_map] at this
          exact ⟨a, _, ev', DPut.k ha (by omega), q2 F2 _ σ O2 st3 ((s1.trans s2.drop).trans s3) Pin.refl⟩
        · cases hz
      · cases hz
theorem sps_expr {e : E} (he : SPe e) : SPs (.expr e) := by
  intro X c g W kk sc Wx ast hc tk h
  unfold chkS at h
  split at h <;> rename_i heq <;> first | (cases heq; done) | (cases h; done) | skip
  cases heq
  simp only [Bool.and_eq_true] at h
  refine PS.weak (ps_expr (he X c g W kk _ Wx _ hc.toCE tk h.2) (swaps_ok (chk_ok1 h.2) h.1)) fun D σ H ⟨F, ρ, O, st, q⟩ => ?_
  unfold PV.st at q
  refine ⟨F, ρ, O, st, seqF (T := fun _ => 0) q st.stp Pin.refl fun p ep q1 => ?_⟩
  intro w F1 H1 O1 A1 st1 r1 s1 pu1 _
  exact q1 F1 H1 σ O1 st1 s1.drop Pin.refl
theorem sps_ret {e : E} (he : SPe e) : SPs (.ret e) := by
  intro X c g W kk sc Wx ast hc tk h
  unfold chkS at h
  split at h <;> rename_i heq <;> first | (cases heq; done) | (cases h; done) | skip
  cases heq
  refine PS.weak (ps_ret (spe_toV he hc.toCE tk h)) fun D σ H ⟨F, ρ, O, st, q⟩ => ?_
  unfold PV.st at q
  refine ⟨F, ρ, O, st, seqF (T := fun _ => 0) q st.stp Pin.refl fun p ep q1 => ?_⟩
  intro w F1 H1 O1 A1 st1 r1 s1 pu1 _
  exact q1 w F1 H1 σ O1 A1 st1 r1 s1 pu1 Pin.refl
theorem sps_retn : SPs .retn := by
  intro X c g W kk sc Wx ast hc tk h
  unfold chkS at h
  split at h <;> rename_i heq <;> first | (cases heq; done) | (cases h; done) | skip
  refine PS.weak ps_retN fun D σ H ⟨F, ρ, O, st, q⟩ => ?_
  unfold PV.st at q
  exact q _ F H σ O _ st rep_non st.stp (fun x => st.one x) Pin.refl
theorem sps_pass : SPs .pass := by
  intro X c g W kk sc Wx ast hc tk h
  unfold chkS at h
  split at h <;> rename_i heq <;> first | (cases heq; done) | (cases h; done) | skip
  · refine PS.weak ps_pass fun D σ H ⟨F, ρ, O, st, q⟩ => ?_
    unfold PV.st at q
    exact q F H σ O st (Stp.refl st.same) Pin.refl
  · refine PS.weak ps_doc fun D σ H ⟨F, ρ, O, st, q⟩ => ?_
    unfold PV.st at q
    exact q F H σ O st (Stp.refl st.same) Pin.refl
theorem sps_cont : SPs .cont := by
  intro X c g W kk sc Wx ast hc tk h
  unfold chkS at h
  split at h <;> rename_i heq <;> first | (cases heq; done) | (cases h; done) | skip
  refine PS.weak ps_continue fun D σ H ⟨F, ρ, O, st, q⟩ => ?_
  unfold PV.st at q
  exact q F H σ O st (Stp.refl st.same) Pin.refl
theorem sps_brk : SPs .brk := by
  intro X c g W kk sc Wx ast hc tk h
  unfold chkS at h
  split at h <;> rename_i heq <;> first | (cases heq; done) | (cases h; done) | skip
  refine PS.weak ps_break fun D σ H ⟨F, ρ, O, st, q⟩ => ?_
  unfold PV.st at q
  exact q F H σ O st (Stp.refl st.same) Pin.refl
theorem sps_raise {n : Nat} : SPs (.raise n) := by
  intro X c g W kk sc Wx ast hc tk h
  unfold chkS at h
  split at h <;> rename_i heq <;> first | (cases heq; done) | (cases h; done) | skip
  cases heq
  rename_i x p m j p2 pos pos2
  simp only [Bool.and_eq_true, Bool.not_eq_true', decide_eq_true_eq] at h
  have hh := h.1.1.1
  have h : (c.nc n = some x ∧ isGl _ x = true) ∧ nmOk x = true := ⟨⟨h.1.1.2, h.1.2⟩, h.2⟩
  cases hC : g.ca n with
  | none =>
    refine ⟨fun pins s σ H D I q => ?_⟩
    obtain ⟨F, ρ, O, st, q⟩ := q
    unfold PV.st at q
    obtain ⟨C, e, _⟩ := q
    rw [hC] at e; cases e
  | some C =>
    refine PS.weak (ps_raise (hc.calm hh) tk (hc.xs hh n C x hC h.1.1 (gl_ok hc.toCE h.1.2) h.2 p m j p2 pos)) fun D σ H ⟨F, ρ, O, st, q⟩ => ?_
    unfold PV.st at q
    obtain ⟨C', e, q⟩ := q
    rw [hC] at e; cases e
    exact q F H σ O st (Stp.refl st.same) Pin.refl

/-! ### if, while, for -/
theorem rd_tst {g : Gm} {W : Wd} {Wx : WX} {e : E} {pin : List Nat} {D : Ends} {F H F1 H1 : Hp} {O O1 : Ow} {σ σ1 : St} {ρ1 : Env} {f : Bool × Env → Fl} (st : Sta g F1 H1 ρ1 σ1 O1) (s0 : Stp F H O F1 H1 O1) (p0 : Pin pin σ σ1)
    (q : PostF g Wx pin D (Fl.of ((ev W e ρ1).bind asBl) f) F H O σ) {Q : Bool → Hp → Prop}
    (k : ∀ b ρ2 F2 H2 O2, PostF g Wx pin D (f (b, ρ2)) F H O σ → Sta g F2 H2 ρ2 σ1 O2 → Stp F H O F2 H2 O2 → Q b H2) : tT g W Wx e σ1 H1 Q :=
  ⟨F1, ρ1, O1, st, seqF q (stp0 s0) p0 fun p ep q1 F2 H2 O2 st2 s2 _ => k p.1 p.2 F2 H2 O2 q1 st2 (s0.trans s2)⟩
theorem flBind {α β : Type} {x : R α} {f : α → R β} {k : β → Fl} : Fl.of x (fun p => Fl.of (f p) k) = Fl.of (x.bind f) k := by cases x <;> rfl
theorem sps_ife {d : E} {a b : Ss} (hd : SPt d) (ha : SPss a) (hb : SPss b) : SPs (.ife d a b) := by
  intro X c g W kk sc Wx ast hc tk h
  unfold chkS at h
  split at h <;> rename_i heq <;> first | (cases heq; done) | (cases h; done) | skip
  cases heq
  simp only [Bool.and_eq_true] at h
  obtain ⟨⟨⟨h0, h1⟩, h2⟩, h3⟩ := h
  refine PS.weak (ps_if (hd X c g W kk _ Wx _ hc.toCE tk h1 h0) (ha X c g W kk _ Wx _ hc tk h2) (hb X c g W kk _ Wx _ hc tk h3)) fun D σ H ⟨F, ρ, O, st, q⟩ => ?_
  unfold PV.st at q
  rw [flBind] at q
  refine rd_tst st (Stp.refl st.same) Pin.refl q fun t ρ2 F2 H2 O2 q1 st2 s2 => ?_
  cases t with
  | true => rw [if_pos rfl]; exact ⟨F2, ρ2, O2, st2, q1.sub s2 Pin.refl⟩
  | false => rw [if_neg Bool.false_ne_true]; exact ⟨F2, ρ2, O2, st2, q1.sub s2 Pin.refl⟩
theorem sps_wh {d : E} {b : Ss} (hd : SPt d) (hb : SPss b) : SPs (.wh d b) := by
  intro X c g W kk sc Wx ast hc tk h
  unfold chkS at h
  split at h <;> rename_i heq <;> first | (cases heq; done) | (cases h; done) | skip
  cases heq
  simp only [Bool.and_eq_true, Bool.not_eq_true'] at h
  obtain ⟨⟨⟨hh, h0⟩, h1⟩, h2⟩ := h
  refine PS.weak (ps_while (hc.pass hh) (hd X c g W kk _ Wx _ hc.toCE tk h1 h0) (hb X c g W kk _ Wx _ hc tk h2)) fun D σ H ⟨F, ρ, O, st, q⟩ => ?_
  unfold PV.st at q
  refine ⟨fun m σ1 H1 => ∃ F1 ρ1 O1, Sta g F1 H1 ρ1 σ1 O1 ∧ Stp F H O F1 H1 O1 ∧ Pin W.pin σ σ1 ∧ PostF g Wx W.pin D (whLoop (fun ρ => (ev W d ρ).bind asBl) (sts W b) m ρ1) F H O σ, ⟨W.L, F, ρ, O, st, Stp.refl st.same, Pin.refl, q⟩, ?_⟩
  rintro m σ1 H1 ⟨F1, ρ1, O1, st1, s1, p1, q1⟩
  cases m with
  | zero => exact q1.elim
  | succ m =>
    unfold whLoop at q1
    refine rd_tst st1 s1 p1 q1 fun t ρ2 F2 H2 O2 q2 st2 s2 => ?_
    cases t with
    | false => rw [if_neg Bool.false_ne_true]; exact q2 F2 H2 σ1 O2 st2 s2 p1
    | true =>
      rw [if_pos rfl]
      refine ⟨_, fun σ' H' w => ⟨m, Nat.lt_succ_self m, w⟩, F2, ρ2, O2, st2, ?_⟩
      have q2 : PostF g Wx W.pin D (match sts W b ρ2 with
        | .nx ρ => whLoop (fun ρ => (ev W d ρ).bind asBl) (sts W b) m ρ
        | .ct ρ => whLoop (fun ρ => (ev W d ρ).bind asBl) (sts W b) m ρ
        | .bk ρ => .nx ρ
        | x => x) F H O σ := q2
      cases e : sts W b ρ2 with
      | nx ρ3 => rw [e] at q2; exact fun F' H' σ' O' st' s' p' => ⟨F', ρ3, O', st', s2.trans s', p1.trans p', q2⟩
      | ct ρ3 => rw [e] at q2; exact fun F' H' σ' O' st' s' p' => ⟨F', ρ3, O', st', s2.trans s', p1.trans p', q2⟩
      | bk ρ3 => rw [e] at q2; exact fun F' H' σ' O' st' s' p' => q2 F' H' σ' O' st' (s2.trans s') (p1.trans p')
      | rt dd ρ3 => rw [e] at q2; exact fun v F' H' σ' O' A st' r' s' z p' => q2 v F' H' σ' O' A st' r' (s2.trans s') z (p1.trans p')
      | ex cc ρ3 =>
        rw [e] at q2
        obtain ⟨C, hC, q3⟩ := q2
        exact ⟨C, hC, fun F' H' σ' O' st' s' p' => q3 F' H' σ' O' st' (s2.trans s') (p1.trans p')⟩
      | bad => rw [e] at q2; exact q2
theorem hold_pin {W : Wd} {k : ItK} {a : E} : ∀ i ∈ W.pin, i ∈ (W.hold k a).pin := by
  intro i hi
  unfold Wd.hold
  split
  · exact List.mem_cons_of_mem _ hi
  · exact hi
theorem hold_in {W : Wd} {k : ItK} {a : E} {i : Nat} (h1 : k = .hold) (h2 : a = .var i) : i ∈ (W.hold k a).pin := by
  subst h1 h2
  exact List.mem_cons_self ..
/-- what was held is put back behind the loop -/
theorem PostF.unhold {g : Gm} {Wx : WX} {W : Wd} {k : ItK} {a : E} {D : Ends} {x : Fl} {ρ0 : Env} {F H F1 H1 F2 H2 : Hp} {O O1 T O2 : Ow} {σ σ2 : St} (q : PostF g Wx W.pin D (unhold k a ρ0 x) F H O σ) (hold : HoldOk g k a ρ0 F1 H1 σ T) (s1 : Stp F H O F1 H1 (fun x => O1 x + T x)) (s2 : Stp F1 H1 O1 F2 H2 O2)
    (hT : ∀ x, 0 < T x → O2 x = 0 ∧ F2 x = none ∧ H2 x = H1 x) (h1 : ∀ x, T x ≤ 1) (p : Pin (W.hold k a).pin σ σ2) : PostF g Wx (W.hold k a).pin D x F2 H2 O2 σ2 := by
  have own := holdOwn hold
  -- the state with the held list put back
  have back : ∀ {ρ3 : Env} {F3 H3 : Hp} {O3 A : Ow} {σ3 : St}, Sta g F3 H3 ρ3 σ3 O3 → Stp F2 H2 O2 F3 H3 (fun x => O3 x + A x) → (∀ x, O3 x + A x ≤ 1) → Pin (W.hold k a).pin σ2 σ3 →
      ∃ C, Sta g F3 H3 (unh k a ρ0 ρ3) σ3 C ∧ Stp F H O F3 H3 (fun x => C x + A x) ∧ (∀ x, C x + A x ≤ 1) ∧ Pin W.pin σ σ3 := by
    intro ρ3 F3 H3 O3 A σ3 st3 s3 z3 p3
    have hT3 : ∀ x, 0 < T x → O3 x + A x = 0 ∧ F3 x = none ∧ H3 x = H1 x := fun x hx => by
      obtain ⟨w1, w2, w3⟩ := hT x hx
      obtain ⟨_, u, eu⟩ := own x hx
      have w := s3.at1 (x := x) (u := u) w1 w2 (by rw [w3, eu])
      exact ⟨w.1, w.2.1, by rw [w.2.2, eu]⟩
    obtain ⟨C, k1, hC⟩ := unh_ok (k := k) (a := a) hold (s2.ff.trans s3.ff) (fun x hx => (hT3 x hx).2) st3 (fun x => by
      have w1 := h1 x
      have w2 := st3.one x
      by_cases z : 0 < T x
      · have := (hT3 x z).1; omega
      · omega) (fun i e1 e2 => (p.trans p3).2 i (hold_in e1 e2))
    refine ⟨C, k1, ((s1.trans (s2.more (T := T))).trans (s3.more (T := T))).less fun x hx => ?_, fun x => ?_, (p.trans p3).sub hold_pin⟩
    · have hx : 0 < C x + A x := hx
      have := hC x
      show 0 < O3 x + A x + T x
      omega
    · have w1 := hC x
      have w2 := z3 x
      have w3 := h1 x
      show C x + A x ≤ 1
      by_cases z : 0 < T x
      · have := (hT3 x z).1; omega
      · omega
  cases x with
  | nx ρ3 =>
    intro F3 H3 σ3 O3 st3 s3 p3
    obtain ⟨C, k1, k2, _, k4⟩ := back (A := fun _ => 0) st3 (stp0 s3) (fun x => st3.one x) p3
    exact q F3 H3 σ3 C k1 (k2.less fun x hx => by show 0 < C x + 0; omega) k4
  | rt d ρ3 =>
    intro v F3 H3 σ3 O3 A st3 r3 s3 z3 p3
    obtain ⟨C, k1, k2, k3, k4⟩ := back st3 s3 z3 p3
    exact q v F3 H3 σ3 C A k1 r3 k2 k3 k4
  | ex c ρ3 =>
    obtain ⟨C0, hC0, q⟩ := q
    refine ⟨C0, hC0, fun F3 H3 σ3 O3 st3 s3 p3 => ?_⟩
    obtain ⟨C, k1, k2, _, k4⟩ := back (A := fun _ => 0) st3 (stp0 s3) (fun x => st3.one x) p3
    exact q F3 H3 σ3 C k1 (k2.less fun x hx => by show 0 < C x + 0; omega) k4
  | bk _ => exact q.elim
  | ct _ => exact q.elim
  | bad => exact q.elim
theorem sps_for {t : Tg} {k : ItK} {a b : E} {body : Ss} (ha : SPe a) (hb : SPe b) (hs : SPss body) : SPs (.for t k a b body) := by
  intro X c g W kk sc Wx ast hc tk h
  unfold chkS at h
  split at h <;> rename_i heq <;> first | (cases heq; done) | (cases h; done) | skip
  cases heq
  rename_i tg it x pos
  simp only [Bool.and_eq_true, Bool.not_eq_true'] at h
  obtain ⟨⟨⟨⟨hhot, h1⟩, h2⟩, h3⟩, h4⟩ := h
  refine PS.weak (ps_for (hc.pass hhot) (hc.calm hhot) (spi (tg := tg) ha hb hc.toCE tk h3) (pg_ok (g := g) hc.N hc.nd hc.K (hc.calm hhot) hc.loc h1) (hs X c g (W.hold k a) kk _ Wx _ (hc.hold k a) tk h4) (fold_ok h2)) fun D σ H ⟨F, ρ, O, st, q⟩ => ?_
  unfold PV.st at q
  obtain ⟨hf, q⟩ := postFIf q
  refine ⟨F, ρ, O, st, seqF (T := fun _ => 0) q st.stp Pin.refl fun p ep q1 => ?_⟩
  intro J F1 H1 O1 T st1 src s1 hOT hold
  obtain ⟨G, Y, wk, hG, hY⟩ := src
  have own := holdOwn hold
  have hT1 : ∀ x, T x ≤ 1 := fun x => by have := hOT x; omega
  refine for_it wk (fun i σ2 H2 => ∃ F2 ρ2 O2, Sta g F2 H2 ρ2 σ2 O2 ∧ Stp F1 H1 O1 F2 H2 O2 ∧ Pin (W.hold k a).pin σ σ2 ∧ (∀ x, 0 < T x → O2 x = 0 ∧ F2 x = none ∧ H2 x = H1 x) ∧
    PostF g Wx W.pin D (unhold k a ρ (forLoop t (sts (W.hold k a) body) (p.1.drop i) ρ2)) F H O σ) ⟨F1, p.2, O1, st1, Stp.refl st1.same, Pin.refl, fun x hx => ?_, q1⟩ ?_ ?_ ?_
  · have := hOT x
    exact ⟨by omega, (own x hx).1, rfl⟩
  · rintro i σ2 H2 hi ⟨F2, ρ2, O2, st2, s2, p2, hT, q2⟩
    exact hG F2 H2 ⟨s2.ff, st2.same, fun x hx => (hT x hx).2⟩
  · rintro i x σ2 H2 H2' hi ⟨F2, ρ2, O2, st2, s2, p2, hT, q2⟩ hy
    obtain ⟨F3, y, hyi, hny, ry, nw⟩ := hY i F2 H2 x H2' hi ⟨s2.ff, st2.same, fun x hx => (hT x hx).2⟩ hy
    have hdrop : p.1.drop i = y :: p.1.drop (i + 1) := by
      rw [List.drop_eq_getElem_cons hi]
      rw [List.getElem?_eq_getElem hi] at hyi
      cases hyi
      rfl
    rw [hdrop] at q2
    have k3 := (st2.nw nw).1
    have sN : Stp F2 H2 O2 F3 H2' O2 := (nw.stp (O := O2)).less fun x hx => by show 0 < O2 x + 0; omega
    have hT3 : ∀ x, 0 < T x → O2 x = 0 ∧ F3 x = none ∧ H2' x = H1 x := fun x hx => by
      obtain ⟨z1, z2, z3⟩ := hT x hx
      obtain ⟨_, u, eu⟩ := own x hx
      have w := sN.at1 (x := x) (u := u) z1 z2 (by rw [z3, eu])
      exact ⟨z1, w.2.1, by rw [w.2.2, eu]⟩
    unfold forLoop at q2
    cases hb : bindT t y ρ2 with
    | none => rw [hb] at q2; exact q2.elim
    | some ρ4 =>
      rw [hb] at q2
      refine ⟨F3, ρ2, O2, y, fun _ => 0, ρ4, k3, ry, fun x => k3.one x, hb, fun σ4 O4 st4 hO4 hlen hsame => ?_⟩
      replace hO4 : ∀ x, O4 x ≤ O2 x := fun x => hO4 x
      have s4 : Stp F1 H1 O1 F3 H2' O4 := (s2.trans sN).less fun x hx => by have := hO4 x; omega
      have p4 : Pin (W.hold k a).pin σ σ4 := p2.trans ⟨hlen, fun j hj => hsame j fun hj2 => by
        have := List.all_eq_true.mp hf j hj2
        simp only [Bool.not_eq_true', List.contains_eq_mem, decide_eq_false_iff_not] at this
        exact this hj⟩
      have hT4 : ∀ x, 0 < T x → O4 x = 0 ∧ F3 x = none ∧ H2' x = H1 x := fun x hx => by
        obtain ⟨z1, z2, z3⟩ := hT3 x hx
        have := hO4 x
        exact ⟨by omega, z2, z3⟩
      refine ⟨F3, ρ4, O4, st4, ?_⟩
      have q2 : PostF g Wx W.pin D (unhold k a ρ (match sts (W.hold k a) body ρ4 with
        | .nx ρ => forLoop t (sts (W.hold k a) body) (p.1.drop (i + 1)) ρ
        | .ct ρ => forLoop t (sts (W.hold k a) body) (p.1.drop (i + 1)) ρ
        | .bk ρ => .nx ρ
        | x => x)) F H O σ := q2
      have go : ∀ ρ5, PostF g Wx W.pin D (unhold k a ρ (forLoop t (sts (W.hold k a) body) (p.1.drop (i + 1)) ρ5)) F H O σ → ∀ F' H' σ' O', Sta g F' H' ρ5 σ' O' → Stp F3 H2' O4 F' H' O' → Pin (W.hold k a).pin σ4 σ' →
          ∃ F2 ρ2 O2, Sta g F2 H' ρ2 σ' O2 ∧ Stp F1 H1 O1 F2 H' O2 ∧ Pin (W.hold k a).pin σ σ' ∧ (∀ x, 0 < T x → O2 x = 0 ∧ F2 x = none ∧ H' x = H1 x) ∧
          PostF g Wx W.pin D (unhold k a ρ (forLoop t (sts (W.hold k a) body) (p.1.drop (i + 1)) ρ2)) F H O σ := fun ρ5 q5 F' H' σ' O' st' s' p' => by
        refine ⟨F', ρ5, O', st', s4.trans s', p4.trans p', fun x hx => ?_, q5⟩
        obtain ⟨z1, z2, z3⟩ := hT4 x hx
        obtain ⟨_, u, eu⟩ := own x hx
        have w := s'.at1 (x := x) (u := u) z1 z2 (by rw [z3, eu])
        exact ⟨w.1, w.2.1, by rw [w.2.2, eu]⟩
      cases e : sts (W.hold k a) body ρ4 with
      | nx ρ5 => rw [e] at q2; exact go ρ5 q2
      | ct ρ5 => rw [e] at q2; exact go ρ5 q2
      | bk ρ5 => rw [e] at q2; exact PostF.unhold (x := .nx ρ5) q2 hold s1 s4 hT4 hT1 p4
      | rt dd ρ5 => rw [e] at q2; exact PostF.unhold (x := .rt dd ρ5) q2 hold s1 s4 hT4 hT1 p4
      | ex cc ρ5 => rw [e] at q2; exact PostF.unhold (x := .ex cc ρ5) q2 hold s1 s4 hT4 hT1 p4
      | bad => rw [e] at q2; exact q2.elim
  · rintro σ2 H2 ⟨F2, ρ2, O2, st2, s2, p2, hT, q2⟩
    rw [List.drop_length] at q2
    exact PostF.unhold (x := .nx ρ2) q2 hold s1 s2 hT hT1 p2 F2 H2 σ2 O2 st2 (Stp.refl st2.same) Pin.refl
/-! ### try -/
/-- the caught exception among the defs -/
def Gm.ex (g : Gm) (n : Nat) (a : Addr) : Gm := { g with fa := fun m => match g.fa m with
  | some b => some b
  | none => if m = 1000 + n then some a else none }
theorem ex_of {g : Gm} {n m : Nat} {a b : Addr} (h : g.fa m = some b) : (g.ex n a).fa m = some b := by
  simp only [Gm.ex, h]
theorem ex_self {g : Gm} {n : Nat} {a : Addr} (h : g.fa (1000 + n) = none) : (g.ex n a).fa (1000 + n) = some a := by
  simp only [Gm.ex, h, if_true]
theorem ex_back {g : Gm} {n m : Nat} {a b : Addr} (h : (g.ex n a).fa m = some b) (hm : m < 1000) : g.fa m = some b := by
  simp only [Gm.ex] at h
  cases e : g.fa m with
  | some c => rw [e] at h; exact h
  | none =>
    rw [e] at h
    simp only at h
    rw [if_neg (by omega)] at h
    cases h
theorem sta_ex {g : Gm} {n : Nat} {a : Addr} {F H : Hp} {ρ : Env} {σ : St} {O : Ow} (st : Sta g F H ρ σ O) : Sta (g.ex n a) F H ρ σ O :=
  ⟨st.same, RepS.grow (g := g) (g' := g.ex n a) false rfl rfl rfl (fun m b e _ => ex_of e) (fun z => by cases z) st.slots, st.one⟩
theorem sta_un {g : Gm} {n : Nat} {a : Addr} {F H : Hp} {ρ : Env} {σ : St} {O : Ow} (st : Sta (g.ex n a) F H ρ σ O) (h : noXS ρ = true) : Sta g F H ρ σ O :=
  ⟨st.same, RepS.grow (g := g.ex n a) (g' := g) true rfl rfl rfl (fun m b e hm => ex_back e (hm rfl)) (fun _ => h) st.slots, st.one⟩
theorem rep_un {g : Gm} {n : Nat} {a : Addr} {F H : Hp} {d : D} {v : V} {A : Ow} (r : Rep (g.ex n a) F H d v A) (h : noX d = true) : Rep g F H d v A :=
  Rep.grow (g := g.ex n a) (g' := g) true rfl rfl rfl (fun m b e hm => ex_back e (hm rfl)) (fun _ => h) r
/-- a slot is emptied -/
theorem sta_gone {g : Gm} {F H : Hp} {ρ : Env} {σ : St} {O : Ow} {i : Nat} (st : Sta g F H ρ σ O) : ∃ O', Sta g F H (put ρ i none) (σ.set i none) O' ∧ ∀ x, O' x ≤ O x := by
  obtain ⟨C, rs, hC⟩ := st.slots.forget (i := i)
  exact ⟨C, ⟨st.same, rs.setNone, fun x => Nat.le_trans (hC x) (st.one x)⟩, hC⟩
section
variable {X : Cx} {c : Ck} {g : Gm} {W : Wd} {kk : Nat} {sc : Scope}
theorem cs_tr (hc : CS X c g W kk sc) {pn : List (Addr × Obj)} {xe : Value → Shared → Prop} (hp : PassesOwn (model X.prog X.w) X.A X.env xe) (hh : c.hot = false) : CS (X.tr pn xe) c g W kk sc :=
  { N := hc.N, nd := hc.nd, K := hc.K, sc := hc.sc, calm := hc.calm, room := hc.room, un := hc.un, kt := hc.kt, blt := hc.blt, fns := hc.fns, fns2 := hc.fns2, xis := fun e => (by rw [hh] at e; cases e), xcl := hc.xcl, gls := hc.gls, fn := hc.fn, pass := fun _ => hp, fkind := hc.fkind, stk := hc.stk, frm := hc.frm, few := hc.few, xca := hc.xca, xhd := hc.xhd, exs := fun h pn2 xe2 => hc.exs h pn2 xe2 }
theorem cs_suite (hc : CS X c g W kk sc) (hh : c.hot = false) {a : Addr} {oe : Obj} {pn : List (Addr × Obj)} {n : Nat} {C : Addr} (hC : g.ca n = some C) (hz : Zc (.ref C) none oe) (hf : ∃ vs, oe.data = .fields vs) (hx : ExcC X.K C) :
    CS (X.suite a ((a, oe) :: pn)) { c with hot := true } (g.ex n a) W kk sc :=
  { N := hc.N, nd := hc.nd, K := hc.K, sc := hc.sc, calm := fun e => (by cases e), room := fun e => (by cases e), un := hc.un, kt := hc.kt, blt := hc.blt
    fns := fun e => by cases e
    fns2 := fun f x h => by
      obtain ⟨b, h1, h2⟩ := hc.fns2 f x h
      exact ⟨b, ex_of h1, h2⟩
    xis := fun _ m b h => by
      have hm := hc.few hh m
      simp only [Gm.ex, hm] at h
      split at h
      · rename_i e
        have e : m = n := by omega
        subst e
        cases h
        exact ⟨C, hC, call_isE hx hz hf, call_isEt hx hz hf⟩
      · cases h
    xcl := hc.xcl
    gls := fun k d h => by
      obtain ⟨h1, x, u, v, h2, h3, h4, h5⟩ := hc.gls k d h
      exact ⟨h1, x, u, v, h2, h3, h4, fun F H => Rep.grow (g := g) (g' := g.ex n a) false rfl rfl rfl (fun m b e _ => ex_of e) (fun z => by cases z) (h5 F H)⟩
    fn := hc.fn, pass := fun e => (by cases e), fkind := hc.fkind, stk := hc.stk, frm := hc.frm, few := fun e => (by cases e), xca := hc.xca, xhd := hc.xhd, exs := fun e => (by cases e) }
/-- what a suite is wanted to reach -/
def tsX (g : Gm) (K : PySem.W.Frag) (W : Wd) (h : Ss) : Addr → Value → Option Addr → TS := fun a cls d D σ H => ∃ n C, cls = .ref C ∧ d = none ∧ g.ca n = some C ∧ ExcC K C ∧ tSs (g.ex n a) W (fun _ _ _ _ => False) h D σ H
theorem pss_suite (hc : CS X c g W kk sc) (hh : c.hot = false) {h : Ss} {ast : List Stmt} (hs : SPss h) (hk : chkSs { c with hot := true } h sc ast = true) (a : Addr) (oe : Obj) (cls : Value) (d : Option Addr) (pn : List (Addr × Obj)) (hz : Zc cls d oe) (hf : ∃ vs, oe.data = .fields vs) :
    PSs (X.suite a ((a, oe) :: pn)) ast (tsX g X.K W h a cls d) :=
  ⟨fun pins s σ H D I ⟨n, C, e1, e2, hC, hx, q⟩ => by
    subst e1 e2
    exact (hs _ _ _ W kk sc _ ast (cs_suite hc hh hC hz hf hx) takes0 hk).run pins s σ H D I q⟩
end
theorem Pin.set2 {pin : List Nat} {σ σ' : St} {i : Nat} {u w : Option V} (h : fits' pin i = true) (p : Pin pin (σ.set i u) σ') : Pin pin σ (σ'.set i w) := by
  have hf : fits pin [i] = true := by simpa [fits, fits'] using h
  exact (Pin.set hf).trans (p.trans (Pin.set hf))
theorem sps_try1 {b h : Ss} {m : Nat} {i : Option Nat} (hb : SPss b) (hs : SPss h) : SPs (.try1 b m i h) := by
  intro X c g W kk sc Wx ast hc tk hk
  unfold chkS at hk
  split at hk <;> rename_i heq <;> first | (cases heq; done) | (cases hk; done) | skip
  cases heq
  rename_i body x np y b0 suite pos' pos
  simp only [Bool.and_eq_true, Bool.not_eq_true', decide_eq_true_eq] at hk
  obtain ⟨⟨⟨⟨⟨⟨⟨hh, hn1⟩, hn2⟩, hgl⟩, hnm⟩, hsl⟩, hbd⟩, hsu⟩ := hk
  obtain ⟨Cx0, hmg, hex⟩ := hc.xhd m x hn1 hn2
  simp only [nmOk, Bool.and_eq_true, decide_eq_true_eq] at hnm
  have hnames : Names X x (.ref Cx0) := ⟨gl_ok hc.toCE hgl, hnm.1, .inl hmg⟩
  have hbody : ∀ (W' : WX) (pn : List (Addr × Obj)) (xe : Value → Shared → Prop), Takes (X.tr pn xe) W' → PassesOwn (model X.prog X.w) X.A X.env xe → PSs (X.tr pn xe) body (tSs g W W' b) :=
    fun W' pn xe tk' hp => hb _ c g W kk _ W' body (cs_tr hc hp hh) tk' hbd
  have hsuite := fun a oe cls d pn hz hf => pss_suite (h := h) hc hh hs hsu a oe cls d pn hz hf
  -- what both forms share
  have core : ∀ {D : Ends} {σ : St} {F H : Hp} {O : Ow} {ρ : Env} (W' : WX), Sta g F H ρ σ O → PostF g Wx W.pin D (PV.st W (.try1 b m i h) ρ) F H O σ →
      (∀ n C σ' H' b, g.ca n = some C → PySem.W.exmOne X.K (.ref C) (.ref Cx0) = some b → (b = false → Wx (.ref C) none σ' H') →
        (b = true → ∃ F' ρ1 O', W.sub n m = true ∧ ExcC X.K C ∧ Sta g F' H' ρ1 σ' O' ∧ Stp F H O F' H' O' ∧ Pin W.pin σ σ' ∧ PostF g Wx W.pin D (if xFits W i ρ1 then unX i (sts W h (xSlot i ρ1 (some (.fn (1000 + n))))) else .bad) F H O σ) → W' (.ref C) none σ' H') →
      PostF g W' W.pin D (sts W b ρ) F H O σ := by
    intro D σ F H O ρ W' st q k
    unfold PV.st at q
    cases e : sts W b ρ with
    | nx ρ' => rw [e] at q; exact q
    | bk ρ' => rw [e] at q; exact q
    | ct ρ' => rw [e] at q; exact q
    | rt d ρ' => rw [e] at q; exact q
    | bad => rw [e] at q; exact q
    | ex n ρ1 =>
      rw [e] at q
      cases hs2 : W.sub n m with
      | true =>
        simp only [hs2] at q
        obtain ⟨C, hC, hxc⟩ := hc.xca n m hs2
        exact ⟨C, hC, fun F' H' σ' O' st' s' p' => k n C σ' H' true hC (by rw [hex n C hC, hs2]) (fun z => by cases z) fun _ => ⟨F', ρ1, O', hs2, hxc, st', s', p', q⟩⟩
      | false =>
        simp only [hs2] at q
        obtain ⟨C, hC, q⟩ := q
        exact ⟨C, hC, fun F' H' σ' O' st' s' p' => k n C σ' H' false hC (by rw [hex n C hC, hs2]) (fun _ => q F' H' σ' O' st' s' p') fun z => by cases z⟩
  cases i with
  | none =>
    cases y with
    | some y => simp [chkN] at hsl
    | none =>
      refine PS.weak (ps_try_only (tb := fun W' => tSs g W W' b) hc.stk hc.frm hnames tk hbody hsuite) fun D σ H ⟨F, ρ, O, st, q⟩ => ?_
      refine ⟨F, ρ, O, st, core _ st q fun n C σ' H' bb hC hx hno hyes => ⟨bb, hx, fun e a ha => ?_, hno⟩⟩
      obtain ⟨F', ρ1, O', _, hxc, st', s', p', q'⟩ := hyes e
      obtain ⟨_, q'⟩ := postFIf q'
      refine ⟨n, C, rfl, rfl, hC, hxc, F', ρ1, O', sta_ex st', ?_⟩
      have q' : PostF g Wx W.pin D (unX none (sts W h ρ1)) F H O σ := q'
      cases e2 : sts W h ρ1 with
      | nx ρ2 =>
        rw [e2] at q'
        obtain ⟨hx2, q'⟩ := postFIf q'
        exact fun F2 H2 σ2 O2 st2 s2 p2 => q' F2 H2 σ2 O2 (sta_un st2 hx2) (s'.trans s2) (p'.trans p2)
      | rt d ρ2 =>
        rw [e2] at q'
        obtain ⟨hx2, q'⟩ := postFIf q'
        simp only [Bool.and_eq_true] at hx2
        exact fun v F2 H2 σ2 O2 A st2 r2 s2 hA p2 => q' v F2 H2 σ2 O2 A (sta_un st2 hx2.2) (rep_un r2 hx2.1) (s'.trans s2) hA (p'.trans p2)
      | bk ρ2 => rw [e2] at q'; exact q'.elim
      | ct ρ2 => rw [e2] at q'; exact q'.elim
      | ex n2 ρ2 => rw [e2] at q'; exact q'.elim
      | bad => rw [e2] at q'; exact q'.elim
  | some i =>
    cases y with
    | none => simp [chkN] at hsl
    | some y =>
      simp only [chkN, Bool.and_eq_true, slotOk, decide_eq_true_eq] at hsl
      have hi : X.N[i]? = some y := by rw [hc.N]; exact hsl.1
      have hN : X.N.Nodup := by rw [hc.N]; exact hc.nd
      have hln : X.env.kindOf y = some .local := by
        show X.env.scope.names.lookup y = _
        rw [hc.sc]; exact hsl.2
      refine PS.weak (ps_try_as (tb := fun W' => tSs g W W' b) hc.stk hc.frm hN hi hln hnames tk hbody hsuite) fun D σ H ⟨F, ρ, O, st, q⟩ => ?_
      refine ⟨F, ρ, O, st, core _ st q fun n C σ' H' bb hC hx hno hyes => ⟨bb, hx, fun e a ha => ?_, hno⟩⟩
      obtain ⟨F', ρ1, O', _, hxc, st', s', p', q'⟩ := hyes e
      obtain ⟨hfit, q'⟩ := postFIf q'
      simp only [xFits, Bool.and_eq_true, decide_eq_true_eq] at hfit
      have st1 := sta_ex (n := n) (a := a) st'
      obtain ⟨O1, st2, hO1⟩ := put_ok (i := i) (d := .fn (1000 + n)) (v := .ref a) (A := fun _ => 0) st1 ⟨⟨a, ex_self (hc.few hh n), rfl⟩, fun _ => rfl⟩ (fun x => st1.one x) hfit.2
      refine ⟨n, C, rfl, rfl, hC, hxc, F', _, O1, st2, ?_⟩
      have s1 : Stp F H O F' H' O1 := s'.less fun x hx => by have : O1 x ≤ O' x + 0 := hO1 x; omega
      have q' : PostF g Wx W.pin D (unX (some i) (sts W h (put ρ1 i (some (.fn (1000 + n)))))) F H O σ := q'
      cases e2 : sts W h (put ρ1 i (some (.fn (1000 + n)))) with
      | nx ρ2 =>
        rw [e2] at q'
        obtain ⟨hx2, q'⟩ := postFIf q'
        intro F2 H2 σ2 O2 st3 s2 p2
        obtain ⟨O3, st4, hO3⟩ := sta_gone (i := i) st3
        exact q' F2 H2 _ O3 (sta_un st4 hx2) ((s1.trans s2).less fun x hx => by have := hO3 x; omega) (p'.trans (Pin.set2 hfit.1 p2))
      | rt d ρ2 =>
        rw [e2] at q'
        obtain ⟨hx2, q'⟩ := postFIf q'
        simp only [Bool.and_eq_true] at hx2
        intro v F2 H2 σ2 O2 A st3 r2 s2 hA p2
        obtain ⟨O3, st4, hO3⟩ := sta_gone (i := i) st3
        exact q' v F2 H2 _ O3 A (sta_un st4 hx2.2) (rep_un r2 hx2.1) ((s1.trans s2).less fun x hx => by have := hO3 x; have hx : 0 < O3 x + A x := hx; show 0 < O2 x + A x; omega) (fun x => by have := hO3 x; have := hA x; omega) (p'.trans (Pin.set2 hfit.1 p2))
      | bk ρ2 => rw [e2] at q'; exact q'.elim
      | ct ρ2 => rw [e2] at q'; exact q'.elim
      | ex n2 ρ2 => rw [e2] at q'; exact q'.elim
      | bad => rw [e2] at q'; exact q'.elim
mutual
theorem sps_ok : ∀ s : S, SPs s
  | .asg _ e => sps_asg (all_ok e).1 all_ok
  | .asgT _ e => sps_asgT (all_ok e).1
  | .aug _ _ e => sps_aug (all_ok e).1
  | .setix _ _ k e => sps_setix (all_ok k).1 (all_ok e).1
  | .dput _ k e => sps_dput (all_ok k).1 (all_ok e).1
  | .try1 b _ _ h => sps_try1 (spss_ok b) (spss_ok h)
  | .expr e => sps_expr (all_ok e).1
  | .ret e => sps_ret (all_ok e).1
  | .retn => sps_retn
  | .ife d a b => sps_ife (all_ok d).2.1 (spss_ok a) (spss_ok b)
  | .wh d b => sps_wh (all_ok d).2.1 (spss_ok b)
  | .for _ _ a b body => sps_for (all_ok a).1 (all_ok b).1 (spss_ok body)
  | .raise _ => sps_raise
  | .pass => sps_pass
  | .cont => sps_cont
  | .brk => sps_brk
theorem spss_ok : ∀ ss : Ss, SPss ss
  | .nil => sps_nil
  | .cons s ss => sps_cons (sps_ok s) (spss_ok ss)
end
end PV

/-! PVt: defs are right. -/
namespace PV
open PySem L2

/-- a def: the name it is called by, its own name, its text, its slots, its parameters, its program -/
structure Df where
  nm : Str
  x : Str
  st : Stmt
  N : List Str
  ps : List Str
  fd : Fd
structure Gc where
  x : Str
  d : D
structure Lw where
  dfs : List Df
  exs : List Str
  gls : List Gc
  kt : Bool
  /-- for each class of exceptions: of which of them, and of ValueError, it is; empty where no law asks -/
  xs : List (List Bool)
def Lw.sub (l : Lw) (n j : Nat) : Bool := match l.xs[n]? with
  | some r => (r[j]?).getD false
  | none => false
def Lw.nx (l : Lw) (j : Nat) : Option Str := match l.xs with
  | [] => none
  | _ :: _ => (l.exs ++ [("ValueError" : Str)])[j]?
/-- .. where a law asks -/
def Lw.xl (l : Lw) (ys : List Str) : List Str := match l.xs with
  | [] => []
  | _ :: _ => ys
theorem Lw.xl_ne {l : Lw} {ys : List Str} (h : l.xs ≠ []) : l.xl ys = ys := by
  unfold Lw.xl
  split
  · rename_i e; exact absurd e h
  · rfl
def Lw.prs (l : Lw) : List (Str × Str × Bool) := (l.exs.zip l.xs).flatMap fun p => ((l.exs ++ [("ValueError" : Str)]).zip p.2).map fun q => (p.1, q.1, q.2)
def Lw.tb (l : Lw) : Tb := ⟨fun f => (l.dfs[f]?).map (·.fd), fun k => (l.gls[k]?).map (·.d), l.kt, l.sub⟩
def Lw.ck (l : Lw) (N : List Str) : Ck := ⟨N, fun f => (l.dfs[f]?).map (·.nm), fun k => (l.gls[k]?).map (·.x), fun n => l.exs[n]?, l.nx, false⟩
def dfOk (l : Lw) (d : Df) : Bool := C8.scC d.N d.ps (defScope d.st) && decide (d.fd.np = d.ps.length) && decide (d.fd.ns = d.N.length) && chkSs (l.ck d.N) d.fd.body (defScope d.st) (defBody d.st)
def Lw.ok (l : Lw) : Bool := l.dfs.all (dfOk l) && (l.gls.all fun c => noOwn c.d) && (decide (l.dfs.length ≤ 1000) && (decide (l.xs = []) || (decide (l.xs.length = l.exs.length) && l.xs.all fun r => decide (r.length = l.exs.length + 1))))

/-! ### what the head tells -/
/-- all parameters are given, in order -/
def BindsAll (fdt : FuncData) (ps : List Str) : Prop := ∀ us : List Value, us.length = ps.length → bindArgs fdt ⟨us, []⟩ = Pure.pure (ps.zip us)
def DefH (K : PySem.W.Frag) (d : Df) : Prop := ∃ f fdt, Fun K d.x d.x d.st f fdt ∧ BindsAll fdt d.ps ∧ PySem.W.nsIn K mainGlobals d.nm = some (some (.ref f))
def ExH (K : PySem.W.Frag) (x : Str) : Prop := ∃ (C : Addr) (B newId initId : String) (bmB : List Value), ExcBaseFacts B newId initId bmB ∧ PySem.W.excIn K C bmB newId = true ∧ PySem.W.nsIn K mainGlobals x = some (some (.ref C)) ∧ PySem.W.keepIn K (.ref C) = true ∧
  PySem.W.subIn K (.ref C) (.type "BaseException") = some true ∧ PySem.W.typeIn K (.ref C) = some (.type "type")
def GlH (K : PySem.W.Frag) (kt : Bool) (c : Gc) : Prop := ∃ u v, PySem.W.nsIn K mainGlobals c.x = some (some u) ∧ RelV v u ∧ ∀ g : Gm, g.K = K → g.kt = kt → ∀ F H, Rep g F H c.d v (fun _ => 0)
def BlH (K : PySem.W.Frag) (x : Str) : Prop := PySem.W.nsIn K mainGlobals x = some none
def XcH (K : PySem.W.Frag) (x : Str) : Prop := ∃ C : Addr, PySem.W.nsIn K mainGlobals x = some (some (.ref C)) ∧ ExcC K C
def PrH (K : PySem.W.Frag) (p : Str × Str × Bool) : Prop := ∃ (D : Addr) (cv : Value), PySem.W.nsIn K mainGlobals p.1 = some (some (.ref D)) ∧
  ((∃ C, PySem.W.nsIn K mainGlobals p.2.1 = some (some (.ref C)) ∧ cv = .ref C ∧ PySem.W.exmOne K (.ref D) (.ref C) = some p.2.2) ∨ (p.2.1 = ("ValueError" : Str) ∧ PySem.W.nsIn K mainGlobals p.2.1 = some none ∧ cv = .type "ValueError")) ∧ PySem.W.kitOne K (.ref D) cv = some p.2.2
def AllH {α : Type} (P : α → Prop) : List α → Prop
  | [] => True
  | a :: as => P a ∧ AllH P as
theorem AllH.get {α : Type} {P : α → Prop} : ∀ {as : List α} {i : Nat} {a : α}, AllH P as → as[i]? = some a → P a
  | [], _, _, _, e => by simp at e
  | b :: as, 0, a, h, e => by
    simp only [List.getElem?_cons_zero, Option.some.injEq] at e
    exact e ▸ h.1
  | b :: as, i + 1, a, h, e => AllH.get h.2 (by simpa using e)
theorem AllH.mem {α : Type} {P : α → Prop} {as : List α} {a : α} (h : AllH P as) (m : a ∈ as) : P a := by
  obtain ⟨i, hi, e⟩ := List.getElem_of_mem m
  exact h.get (i := i) (by rw [List.getElem?_eq_getElem hi, e])
/-- the witnesses in a list -/
theorem AllH.pick {α β : Type} {P : α → β → Prop} : ∀ {as : List α}, AllH (fun a => ∃ b, P a b) as → ∃ bs : List β, bs.length = as.length ∧ ∀ (i : Nat) (a : α), as[i]? = some a → ∃ b, bs[i]? = some b ∧ P a b
  | [], _ => ⟨[], rfl, fun i a e => by simp at e⟩
  | a :: as, h => by
    obtain ⟨b, hb⟩ := h.1
    obtain ⟨bs, hl, k⟩ := AllH.pick h.2
    refine ⟨b :: bs, by simp [hl], fun i c e => ?_⟩
    cases i with
    | zero =>
      simp only [List.getElem?_cons_zero, Option.some.injEq] at e
      subst e
      exact ⟨b, rfl, hb⟩
    | succ i => exact k i c (by simpa using e)
def bLs : List Str := bNames
structure LwH (K : PySem.W.Frag) (l : Lw) : Prop where
  dfs : AllH (DefH K) l.dfs
  exs : AllH (ExH K) l.exs
  gls : AllH (GlH K l.kt) l.gls
  bls : AllH (BlH K) bNames
  xcs : AllH (XcH K) (l.xl l.exs)
  prs : AllH (PrH K) l.prs
  xve : AllH (BlH K) (l.xl [("ValueError" : Str)])

theorem start_ok {g : Gm} {F H : Hp} {A : Ow} : ∀ {ds : List D} {vs : List V}, RepL g F H ds vs A → ∀ n : Nat, RepS g F H (ds.map some ++ List.replicate n none) (vs.map some ++ List.replicate n none) A
  | [], vs, h, n => by
    rw [h.1]
    simp only [List.map_nil, List.nil_append]
    induction n with
    | zero => exact ⟨rfl, h.2⟩
    | succ n ih => exact ⟨none, _, rfl, ih⟩
  | d :: ds, vs, h, n => by
    obtain ⟨v, vs', B, C, e, r, rs, q⟩ := h
    subst e
    exact ⟨v, _, B, C, rfl, r, start_ok rs n, q⟩

section
variable {P : Program} {w : World} {K : PySem.W.Frag} {mg : Str → Option Value}
/-- all defs of a law, by the depth of calls -/
theorem defs_ok {l : Lw} {L : Nat} (hl : l.ok = true) (hd : LwH K l) {h : Heap} (X : K.In h) (G : h.Ns mainGlobals mg) :
    ∃ g : Gm, g.K = K ∧ ∀ k f d, l.dfs[f]? = some d → ∃ a fdt, PySem.W.nsIn K mainGlobals d.nm = some (some (.ref a)) ∧ BindsAll fdt d.ps ∧ ∀ base : Heap, FnOk P w K mg base (L2.CX P w) k a fdt d.ps (spOf g d.fd.io (run l.tb L k f)) := by
  unfold Lw.ok at hl
  rw [Bool.and_eq_true, Bool.and_eq_true, Bool.and_eq_true] at hl
  obtain ⟨⟨hl, hgl⟩, hfew, hxs⟩ := hl
  rw [List.all_eq_true] at hl hgl
  have hfew := of_decide_eq_true hfew
  obtain ⟨as, hasl, has⟩ := AllH.pick hd.dfs
  obtain ⟨cs, hcsl, hcs⟩ := AllH.pick hd.exs
  refine ⟨⟨K, fun f => as[f]?, fun n => cs[n]?, l.kt⟩, rfl, ?_⟩
  generalize hg : (⟨K, fun f => as[f]?, fun n => cs[n]?, l.kt⟩ : Gm) = g
  have gK : g.K = K := by rw [← hg]
  have gfa : ∀ f, g.fa f = as[f]? := fun f => by rw [← hg]
  have gca : ∀ n, g.ca n = cs[n]? := fun n => by rw [← hg]
  have gkt : g.kt = l.kt := by rw [← hg]
  -- classes of exceptions
  have csn : ∀ n D x, g.ca n = some D → l.exs[n]? = some x → PySem.W.nsIn K mainGlobals x = some (some (.ref D)) := fun n D x h1 h2 => by
    obtain ⟨C', hC', B2, newId, initId, bmB, F1, q1, n1, k1, s1, t1⟩ := hcs n x h2
    rw [gca, hC'] at h1
    cases h1
    exact n1
  have same : ∀ {x : Str} {A B : Addr}, PySem.W.nsIn K mainGlobals x = some (some (.ref A)) → PySem.W.nsIn K mainGlobals x = some (some (.ref B)) → A = B := fun h1 h2 => by
    rw [h1] at h2
    injection h2 with h2
    injection h2 with h2
    injection h2
  have pair : ∀ n D j y, g.ca n = some D → l.nx j = some y → ∃ cv, ((∃ C, PySem.W.nsIn K mainGlobals y = some (some (.ref C)) ∧ cv = .ref C ∧ PySem.W.exmOne K (.ref D) (.ref C) = some (l.sub n j)) ∨ (y = ("ValueError" : Str) ∧ PySem.W.nsIn K mainGlobals y = some none ∧ cv = .type "ValueError")) ∧ PySem.W.kitOne K (.ref D) cv = some (l.sub n j) := fun n D j y h1 h2 => by
    have hne : l.xs ≠ [] := fun z => by unfold Lw.nx at h2; rw [z] at h2; cases h2
    rw [Bool.or_eq_true, Bool.and_eq_true] at hxs
    rcases hxs with hxs | ⟨hl1, hl2⟩
    · exact absurd (of_decide_eq_true hxs) hne
    · have hl1 := of_decide_eq_true hl1
      have hlt : n < l.exs.length := by rw [← hcsl]; rw [gca] at h1; exact (List.getElem?_eq_some_iff.mp h1).1
      have e1 : l.exs[n]? = some l.exs[n] := List.getElem?_eq_getElem hlt
      have hlt2 : n < l.xs.length := by omega
      have e2 : l.xs[n]? = some l.xs[n] := List.getElem?_eq_getElem hlt2
      have hrow := of_decide_eq_true (List.all_eq_true.mp hl2 _ (List.getElem_mem hlt2))
      have h2' : (l.exs ++ [("ValueError" : Str)])[j]? = some y := by
        unfold Lw.nx at h2
        split at h2
        · cases h2
        · exact h2
      have hj : j < l.exs.length + 1 := by have := (List.getElem?_eq_some_iff.mp h2').1; simpa using this
      have e3 : (l.xs[n])[j]? = some (l.xs[n])[j] := List.getElem?_eq_getElem (by omega)
      have es : l.sub n j = (l.xs[n])[j] := by unfold Lw.sub; rw [e2]; simp only [e3, Option.getD_some]
      have hmem : (l.exs[n], y, l.sub n j) ∈ l.prs := by
        unfold Lw.prs
        refine List.mem_flatMap.mpr ⟨(l.exs[n], l.xs[n]), ?_, ?_⟩
        · refine List.mem_of_getElem? (i := n) ?_
          rw [List.getElem?_zip_eq_some]
          exact ⟨e1, e2⟩
        · refine List.mem_map.mpr ⟨(y, l.sub n j), ?_, rfl⟩
          refine List.mem_of_getElem? (i := j) ?_
          rw [List.getElem?_zip_eq_some]
          exact ⟨h2', by rw [es]; exact e3⟩
      obtain ⟨D', cv, k1, k2, k3⟩ := hd.prs.mem hmem
      have := same (csn n D _ h1 e1) k1
      subst this
      exact ⟨cv, k2, k3⟩
  have kxca : ∀ n j, l.sub n j = true → ∃ C, g.ca n = some C ∧ ExcC K C := fun n j h => by
    have hne : l.xs ≠ [] := fun z => by unfold Lw.sub at h; rw [z] at h; cases h
    have hlt2 : n < l.xs.length := by
      unfold Lw.sub at h
      cases e : l.xs[n]? with
      | none => rw [e] at h; cases h
      | some r => exact (List.getElem?_eq_some_iff.mp e).1
    rw [Bool.or_eq_true, Bool.and_eq_true] at hxs
    rcases hxs with hxs | ⟨hl1, hl2⟩
    · exact absurd (of_decide_eq_true hxs) hne
    · have hl1 := of_decide_eq_true hl1
      have hlt : n < cs.length := by omega
      have e1 : l.exs[n]? = some l.exs[n] := List.getElem?_eq_getElem (by omega)
      have ec : g.ca n = some cs[n] := by rw [gca]; exact List.getElem?_eq_getElem hlt
      refine ⟨cs[n], ec, ?_⟩
      have hx := hd.xcs
      rw [Lw.xl_ne hne] at hx
      obtain ⟨C, n1, hxc⟩ := hx.get e1
      have := same (csn n _ _ ec e1) n1
      rw [this]
      exact hxc
  have kxcl : ∀ j x, l.nx j = some x → ∃ (v : V) (cv : Value), ((∃ C, v = .ref C ∧ cv = .ref C ∧ mg x = some (.ref C)) ∨ (v = .ty "ValueError" ∧ cv = .type "ValueError" ∧ x = "ValueError" ∧ mg x = none)) ∧ ∀ n D, g.ca n = some D → PySem.W.kitOne K (.ref D) cv = some (l.sub n j) := fun j x h => by
    have hne : l.xs ≠ [] := fun z => by unfold Lw.nx at h; rw [z] at h; cases h
    have h2' : (l.exs ++ [("ValueError" : Str)])[j]? = some x := by
      have h := h
      unfold Lw.nx at h
      split at h
      · cases h
      · exact h
    by_cases hj : j < l.exs.length
    · rw [List.getElem?_append_left hj] at h2'
      obtain ⟨C', hC', B2, newId, initId, bmB, F1, q1, n1, k1, s1, t1⟩ := hcs j x h2'
      refine ⟨.ref C', .ref C', .inl ⟨C', rfl, rfl, PySem.W.mg_of X G n1⟩, fun n D hD => ?_⟩
      obtain ⟨cv, k2, k3⟩ := pair n D j x hD h
      rcases k2 with ⟨C, c1, rfl, _⟩ | ⟨_, c1, _⟩
      · have := same n1 c1
        subst this
        exact k3
      · rw [n1] at c1; cases c1
    · have hv : x = "ValueError" := by
        rw [List.getElem?_append_right (by omega)] at h2'
        cases z : j - l.exs.length with
        | zero => rw [z] at h2'; exact (Option.some.inj h2').symm
        | succ m => rw [z] at h2'; simp at h2'
      have hx := hd.xve
      rw [Lw.xl_ne hne] at hx
      have hb : BlH K "ValueError" := hx.1
      subst hv
      refine ⟨.ty "ValueError", .type "ValueError", .inr ⟨rfl, rfl, rfl, PySem.W.mg_none_of X G hb⟩, fun n D hD => ?_⟩
      obtain ⟨cv, k2, k3⟩ := pair n D j _ hD h
      rcases k2 with ⟨C, c1, _, _⟩ | ⟨_, c1, rfl⟩
      · have hb : PySem.W.nsIn K mainGlobals "ValueError" = some none := hb
        rw [hb] at c1; cases c1
      · exact k3
  have kxhd : ∀ j x, l.exs[j]? = some x → l.nx j = some x → ∃ C, mg x = some (.ref C) ∧ ∀ n D, g.ca n = some D → PySem.W.exmOne K (.ref D) (.ref C) = some (l.sub n j) := fun j x h1 h2 => by
    obtain ⟨C', hC', B2, newId, initId, bmB, F1, q1, n1, k1, s1, t1⟩ := hcs j x h1
    refine ⟨C', PySem.W.mg_of X G n1, fun n D hD => ?_⟩
    obtain ⟨cv, k2, k3⟩ := pair n D j x hD h2
    rcases k2 with ⟨C, c1, _, c3⟩ | ⟨_, c1, _⟩
    · have := same n1 c1
      subst this
      exact c3
    · rw [n1] at c1; cases c1
  intro k
  induction k with
  | zero =>
    intro f d hf
    obtain ⟨a, ha, fdt, F, B, n⟩ := has f d hf
    refine ⟨a, fdt, n, B, fun base => ⟨fun vs H Q E h => ?_, fun A outer s H args us vs Q E _ _ _ _ h => ?_⟩⟩
    · obtain ⟨F, ds, A, _, _, _, _, m⟩ := h
      exact m.elim
    · obtain ⟨F, ds, A, _, _, _, _, m⟩ := h
      exact m.elim
  | succ k ih =>
    intro f d hf
    obtain ⟨a, ha, fdt, F, B, n⟩ := has f d hf
    refine ⟨a, fdt, n, B, fun base => ?_⟩
    have hdo := hl d (List.mem_of_getElem? hf)
    unfold dfOk at hdo
    simp only [Bool.and_eq_true, decide_eq_true_eq] at hdo
    obtain ⟨⟨⟨hsc, hnp⟩, hns⟩, hchk⟩ := hdo
    have S := C8.fnScope_by hsc
    have tfd : l.tb.fd f = some d.fd := by
      show (l.dfs[f]?).map (·.fd) = _
      rw [hf]; rfl
    have hrun : ∀ ds, run l.tb L (k + 1) f ds = if ds.length = d.fd.np then finish d.fd.io (sts ⟨l.tb.fd, run l.tb L k, l.tb.gl, L, if d.fd.io then [0] else [], l.tb.kt, l.tb.sub⟩ d.fd.body (entry d.fd ds)) else .bad := fun ds => by
      show (match l.tb.fd f with | none => RF.bad | some fd => _) = _
      rw [tfd]
    refine F.okX S (fun vs H Q E h => ?_) (fun cdv A outer s H vs Q E hr h => ?_)
    · obtain ⟨F', ds, A, _, rl, _, _, m⟩ := h
      rw [hrun] at m
      by_cases hlen : ds.length = d.fd.np
      · rw [← rl.length, hlen, hnp]
      · rw [if_neg hlen] at m
        exact m.elim
    · obtain ⟨F', ds, A', same, rl, hA1, hio, m⟩ := h
      rw [hrun] at m
      by_cases hlen : ds.length = d.fd.np
      · rw [if_pos hlen] at m
        generalize hW : (⟨l.tb.fd, run l.tb L k, l.tb.gl, L, if d.fd.io then [0] else [], l.tb.kt, l.tb.sub⟩ : Wd) = W at m
        have Wfd : W.fd = l.tb.fd := by rw [← hW]
        have Wcall : W.call = run l.tb L k := by rw [← hW]
        have Wgl : W.gl = l.tb.gl := by rw [← hW]
        have Wpin : W.pin = if d.fd.io then [0] else [] := by rw [← hW]
        have Wkt : W.kt = l.kt := by rw [← hW]; rfl
        have Wsub : W.sub = l.sub := by rw [← hW]; rfl
        have cs' : CS (cxOf (L2.CX P w) P w K mg base d.N d.x (defScope d.st) a cdv A outer s H E) (l.ck d.N) g W k (defScope d.st) :=
          { N := rfl
            nd := S.nd
            K := gK.symm
            sc := rfl
            calm := fun _ => rfl
            room := fun _ => hr
            un := hr.un
            kt := Wkt.trans gkt.symm
            blt := fun x hx => PySem.W.mg_none_of X G (hd.bls.mem hx)
            fns := fun _ f2 fd2 h2 => by
              rw [Wfd] at h2
              have h2 : (l.dfs[f2]?).map (·.fd) = some fd2 := h2
              simp only [Option.map_eq_some_iff] at h2
              obtain ⟨d2, e2, e3⟩ := h2
              subst e3
              obtain ⟨a2, ha2, fdt2, F2, B2, n2⟩ := has f2 d2 e2
              obtain ⟨a3, fdt3, n3, B3, k3⟩ := ih f2 d2 e2
              have : a3 = a2 := by
                rw [n2] at n3
                injection n3 with n3
                injection n3 with n3
                injection n3 with n3
                exact n3.symm
              subst this
              refine ⟨d2.nm, a3, fdt3, d2.ps, ?_, PySem.W.mg_of X G n2, F2.kp, .all B3, ?_⟩
              · show (l.dfs[f2]?).map (·.nm) = _
                rw [e2]; rfl
              · rw [Wcall]
                exact k3 base
            fns2 := fun f2 x2 h2 => by
              have h2 : (l.dfs[f2]?).map (·.nm) = some x2 := h2
              simp only [Option.map_eq_some_iff] at h2
              obtain ⟨d2, e2, e3⟩ := h2
              subst e3
              obtain ⟨a2, ha2, fdt2, F2, B2, n2⟩ := has f2 d2 e2
              exact ⟨a2, by rw [gfa, ha2], PySem.W.mg_of X G n2⟩
            gls := fun k2 d2 h2 => by
              rw [Wgl] at h2
              have h2 : (l.gls[k2]?).map (·.d) = some d2 := h2
              simp only [Option.map_eq_some_iff] at h2
              obtain ⟨c2, e2, e3⟩ := h2
              subst e3
              obtain ⟨u, v, n2, rv, rr⟩ := hd.gls.get e2
              refine ⟨hgl c2 (List.mem_of_getElem? e2), c2.x, u, v, ?_, PySem.W.mg_of X G n2, rv, rr g gK gkt⟩
              show (l.gls[k2]?).map (·.x) = _
              rw [e2]; rfl
            fn := fun _ => rfl
            pass := fun _ => passes_of rfl
            stk := rfl
            frm := rfl
            few := fun _ n2 => by rw [gfa]; exact List.getElem?_eq_none (by omega)
            xis := fun e => by cases e
            xca := fun n2 j h2 => by rw [Wsub] at h2; exact kxca n2 j h2
            xcl := fun j x2 h2 => by rw [Wsub]; exact kxcl j x2 h2
            xhd := fun j x2 h2 h3 => by rw [Wsub]; exact kxhd j x2 h2 h3
            fkind := S.kind
            exs := fun _ pn xe n2 C x hC hx hgl2 hnm p m2 j p2 pos => by
              have hx : l.exs[n2]? = some x := hx
              obtain ⟨C', hC', B2, newId, initId, bmB, F1, q1, n1, k1, s1, t1⟩ := hcs n2 x hx
              rw [gca, hC'] at hC
              cases hC
              simp only [nmOk, Bool.and_eq_true, decide_eq_true_eq] at hnm
              exact pmk_own F1 q1 (PySem.W.mg_of X G n1) k1 (raises_own s1 t1) hgl2 hnm.1 }
        have tk := takes_of (X := cxOf (L2.CX P w) P w K mg base d.N d.x (defScope d.st) a cdv A outer s H E) rfl rfl rfl rfl
        refine ⟨_, (spss_ok d.fd.body) _ _ g W k _ _ _ cs' tk hchk, ?_⟩
        have hlv := rl.length
        have st0 : Sta g F' H (entry d.fd ds) (start d.N vs) A' := by
          refine ⟨same, ?_, hA1⟩
          unfold entry L2.start
          have : d.N.length - vs.length = d.fd.ns - d.fd.np := by omega
          rw [this]
          exact start_ok rl _
        refine ⟨F', entry d.fd ds, A', st0, ?_⟩
        rw [Wpin]
        -- the pinned first slot
        have out : ∀ ρ' F2 H2 σ' O', Sta g F2 H2 ρ' σ' O' → Pin (if d.fd.io then [0] else []) (start d.N vs) σ' → ∀ o, outOf d.fd.io ρ' = some o →
            ∃ C, (match d.fd.io, o with | true, some o => ∃ v0 r, vs = v0 :: r ∧ Rep g F2 H2 o v0 C | true, none => False | false, _ => ∀ x, C x = 0) ∧ ∀ x, C x ≤ O' x := fun ρ' F2 H2 σ' O' st' p' o ho => by
          cases hio : d.fd.io with
          | false => exact ⟨fun _ => 0, fun _ => rfl, fun _ => Nat.zero_le _⟩
          | true =>
            rw [hio] at ho p'
            simp only [outOf] at ho
            split at ho
            · rename_i d0 hd0
              cases ho
              obtain ⟨v, B, C, e1, r, _, q⟩ := st'.slots.take hd0
              refine ⟨B, ?_, fun x => by rw [q x]; omega⟩
              have e2 : (start d.N vs)[0]? = some (some v) := by rw [← e1]; exact (p'.2 0 (by simp)).symm
              cases vs with
              | nil =>
                unfold L2.start at e2
                simp only [List.map_nil, List.nil_append, List.length_nil, Nat.sub_zero] at e2
                rw [List.getElem?_replicate] at e2
                split at e2 <;> simp at e2
              | cons v0 r0 =>
                unfold L2.start at e2
                simp only [List.map_cons, List.cons_append, List.getElem?_cons_zero, Option.some.injEq] at e2
                subst e2
                exact ⟨v0, r0, rfl, r⟩
            · cases ho
        cases hx : sts W d.fd.body (entry d.fd ds) with
        | nx ρ' =>
          rw [hx] at m
          intro F2 H2 σ' O' st' s' p'
          simp only [finish] at m
          cases ho : outOf d.fd.io ρ' with
          | none => rw [ho] at m; exact m.elim
          | some o =>
            rw [ho] at m
            obtain ⟨C, hC, hC2⟩ := out ρ' F2 H2 σ' O' st' p' o ho
            exact m .non F2 H2 (fun _ => 0) C rep_non hC (fun x => by have := hC2 x; have := st'.one x; omega) (s'.less fun x hx => by have hx : 0 < 0 + C x := hx; have := hC2 x; omega)
        | rt d2 ρ' =>
          rw [hx] at m
          intro v F2 H2 σ' O' A2 st' r' s' z' p'
          simp only [finish] at m
          cases ho : outOf d.fd.io ρ' with
          | none => rw [ho] at m; exact m.elim
          | some o =>
            rw [ho] at m
            obtain ⟨C, hC, hC2⟩ := out ρ' F2 H2 σ' O' st' p' o ho
            exact m v F2 H2 A2 C r' hC (fun x => by have := hC2 x; have := z' x; omega) (s'.less fun x hx => by have hx : 0 < A2 x + C x := hx; have := hC2 x; show 0 < O' x + A2 x; omega)
        | ex c ρ' =>
          rw [hx] at m
          obtain ⟨C, hC, m⟩ := m
          exact ⟨C, hC, fun F2 H2 σ' O' st' s' p' => m F2 H2 (s'.less fun x hx => absurd hx (by simp))⟩
        | bk _ => rw [hx] at m; exact m.elim
        | ct _ => rw [hx] at m; exact m.elim
        | bad => rw [hx] at m; exact m.elim
      · rw [if_neg hlen] at m
        exact m.elim
/-- what the law is wanted to say -/
def spLaw (K : PySem.W.Frag) : Sp := fun vs H Q _ => ∃ (a : Addr) (ns : List Int), vs = [.ref a] ∧ SqL K H a (ns.map V.int) ∧ ns.length ≤ 63 ∧ ∀ H', Q (.bl true) H'
theorem law_ok {l : Lw} {L k i : Nat} {d : Df} (hl : l.ok = true) (hd : LwH K l) {h : Heap} (X : K.In h) (G : h.Ns mainGlobals mg) (hi : l.dfs[i]? = some d) (hps : d.ps = [("script" : Str)]) (hio : d.fd.io = false)
    (plain : ∀ ns : List Int, ns.length ≤ 63 → run l.tb L k i [.scr ns] = .ok (.bl true) none) {fa : Addr} (hfa : mg d.nm = some (.ref fa)) :
    ∃ fd : FuncData, (∀ (s : Shared) (u : Value), BindsTo s fd ⟨[u], []⟩ [("script", u)]) ∧ ∀ base : Heap, K.In base → base.Ns mainGlobals mg → FnOk P w K mg base (L2.CX P w) k fa fd [("script" : Str)] (spLaw K) := by
  obtain ⟨g, gK, k1⟩ := defs_ok (P := P) (w := w) (L := L) hl hd X G
  obtain ⟨a, fdt, n, B, k2⟩ := k1 k i d hi
  have e1 := hfa.symm.trans (PySem.W.mg_of X G n)
  injection e1 with e1
  injection e1 with e1
  subst e1
  rw [hps] at B k2
  refine ⟨fdt, fun s u => .of_eq (B [u] rfl), fun base _ _ => (k2 base).imp fun vs H Q E h => ?_⟩
  obtain ⟨a, ns, rfl, hS, hlen, k3⟩ := h
  rw [hio]
  refine ⟨H, [.scr ns], fun _ => 0, Same.refl H, ⟨.ref a, [], _, _, rfl, ⟨⟨a, rfl, by rw [gK]; exact hS⟩, fun _ => rfl⟩, ⟨rfl, fun _ => rfl⟩, fun _ => rfl⟩, fun _ => by simp, fun _ _ => rfl, ?_⟩
  rw [plain ns hlen]
  intro v F' H' B' C' r _ _ _
  rw [r.1]
  exact k3 H'
theorem walkL {l : PySem.W.OpenLaw} {q : Program} {loose : List Str} {XP : (Str → Option Value) → Heap → Prop} {YP : World → Heap → Prop} {d : DefRec} {K : Params → PySem.W.Frag} {k : Nat} (hn : l.most = some 63) (hdf : d.params.defaults = []) (hr : Room k callerA)
    (hY : ∀ (w : World) (h : Heap), YP w h → (K w.params).In h)
    (F : ∀ (w : World) (mg : Str → Option Value) (fa : Addr) (h : Heap), (K w.params).In h → h.Ns mainGlobals mg → mg d.name = some (.ref fa) →
      ∃ fd : FuncData, (∀ (s : Shared) (u : Value), BindsTo s fd ⟨[u], []⟩ [("script", u)]) ∧ ∀ base : Heap, (K w.params).In base → base.Ns mainGlobals mg → FnOk l.prog w (K w.params) mg base (L2.CX l.prog w) k fa fd [("script" : Str)] (spLaw (K w.params))) :
    PySem.W.WalkO q loose XP YP l.row.toRowW d [] (fun f vs => PySem.call f vs) :=
  L2.walk_of (n := 63) (k := k) (x := "script") (CX := fun w => L2.CX l.prog w) (sp := fun w => spLaw (K w.params)) hn (by decide) hdf hr hY F (fun _ _ a ns hl _ hS => ⟨a, ns, rfl, hS, hl, fun _ => rfl⟩) fun w H s e s' z => by
    obtain ⟨_, _, _, _, _, _, _, _, _, _, _, _, z⟩ := z
    exact z

/-! ### facts of the head, one by one -/
theorem def_mk {d : Df} {f : Addr} {oc : Value} {od an : Option Addr} {osl : Array (Option Value)} {kV doc pm cdv ct : Value} (a : PySem.W.nsIn K mainGlobals d.nm = some (some (.ref f)))
    (b : ∀ us : List Value, us.length = d.ps.length → bindArgs (PySem.W.fnOf d.x d.x (defArgs d.st) (defBody d.st) (defScope d.st) .none kV doc pm an cdv ct) ⟨us, []⟩ = Pure.pure (d.ps.zip us))
    (l : K.lookup f = some ⟨oc, od, .func (PySem.W.fnOf d.x d.x (defArgs d.st) (defBody d.st) (defScope d.st) .none kV doc pm an cdv ct), osl⟩) (c : PySem.W.codeIn K cdv d.x = true) (k : PySem.W.keepIn K (.ref f) = true) : DefH K d :=
  ⟨f, _, fun_mk l c k, b, a⟩
theorem ex_mk {x : Str} {C : Addr} {B newId initId : String} {bmB : List Value} (F : ExcBaseFacts B newId initId bmB) (a : PySem.W.nsIn K mainGlobals x = some (some (.ref C))) (q : PySem.W.excIn K C bmB newId = true) (k : PySem.W.keepIn K (.ref C) = true)
    (s : PySem.W.subIn K (.ref C) (.type "BaseException") = some true) (t : PySem.W.typeIn K (.ref C) = some (.type "type")) : ExH K x := ⟨C, B, newId, initId, bmB, F, q, a, k, s, t⟩
theorem xc_mk {x : Str} {C : Addr} (a : PySem.W.nsIn K mainGlobals x = some (some (.ref C))) (hg : PySem.W.findIn K (.ref C) "__getattribute__" = some (some (.builtin "BaseException.__getattribute__"))) (hk : PySem.W.findIn K (.ref C) "__getattr__" = some none)
    (hs : PySem.W.subIn K (.ref C) (.type "BaseException") = some true) (hd : PySem.W.hasDictIn K C = true) (ha : PySem.W.findIn K (.ref C) "__class__" = some (some (.builtin "object.__class__")))
    (hn : PySem.W.specialIn K (.builtin "object.__class__") "__get__" = some (some (.builtin "getset_descriptor.__get__"))) (ht : PySem.W.takesIn K (.builtin "object.__class__") = some true) (hm : PySem.W.mroIn K C (.type "object") = some true) : XcH K x := ⟨C, a, hg, hk, hs, hd, ha, hn, ht, hm⟩
theorem pr_own {x y : Str} {b : Bool} {D C : Addr} (a : PySem.W.nsIn K mainGlobals x = some (some (.ref D))) (c : PySem.W.nsIn K mainGlobals y = some (some (.ref C))) (h1 : PySem.W.subIn K (.ref C) (.type "BaseException") = some true) (hd : PySem.W.hasDictIn K C = true)
    (ht : PySem.W.typeIn K (.ref C) = some (.type "type")) (h4 : PySem.W.subIn K (.ref D) (.ref C) = some b) (he : (decide (D = C) && !b) = false) : PrH K (x, y, b) := by
  refine ⟨D, .ref C, a, .inl ⟨C, c, rfl, PySem.W.exm_ref h1 hd ht h4⟩, ?_⟩
  obtain ⟨cd, hc, _⟩ := PySem.W.any_some hd
  have e2 : ((PySem.W.clsIn K C).isSome && PySem.W.typeIn K (.ref C) == some (.type "type")) = true := by rw [hc, ht] <;> rfl
  show (if ((Value.ref D == Value.ref C) = true) then some true else (if ((PySem.W.clsIn K C).isSome && PySem.W.typeIn K (.ref C) == some (.type "type")) = true then PySem.W.subIn K (.ref D) (.ref C) else none)) = some b
  by_cases e : (Value.ref D == Value.ref C) = true
  · rw [if_pos e]
    have : D = C := Value.ref.inj (beq_iff_eq.mp e)
    rw [decide_eq_true this] at he
    cases b
    · cases he
    · rfl
  · rw [if_neg e, if_pos e2]
    exact h4
theorem pr_val {x : Str} {b : Bool} {D : Addr} (a : PySem.W.nsIn K mainGlobals x = some (some (.ref D))) (c : PySem.W.nsIn K mainGlobals "ValueError" = some none) (h : PySem.W.subIn K (.ref D) (.type "ValueError") = some b) : PrH K (x, "ValueError", b) := by
  refine ⟨D, _, a, .inr ⟨rfl, c, rfl⟩, ?_⟩
  have e1 : PySem.W.kitMeta "ValueError" = true := by decide +kernel
  show (if ((Value.ref D == Value.type "ValueError") = true) then some true else (if PySem.W.kitMeta "ValueError" = true then PySem.W.subIn K (.ref D) (.type "ValueError") else none)) = some b
  rw [if_neg (by intro z; cases beq_iff_eq.mp z), if_pos e1]
  exact h
end
end PV

/-! PVu: reading what the small language computes. -/
namespace PV
open PySem L2

def oS {α : Type} (o : Option α) (Q : α → Prop) : Prop := match o with
  | some a => Q a
  | none => False
def wp {α : Type} (x : R α) (Q : α → Prop) (X : Nat → Env → Prop) : Prop := match x with
  | .ok a => Q a
  | .ex c ρ => X c ρ
  | .bad => False
def wf (x : Fl) (Q : Fl → Prop) : Prop := match x with
  | .bad => False
  | x => Q x
def wr (x : RF) (Q : D → Option D → Prop) (X : Nat → Prop) : Prop := match x with
  | .ok r o => Q r o
  | .ex c => X c
  | .bad => False
/-- behind a statement -/
def sq (W : Wd) (ss : Ss) (Q : Fl → Prop) : Fl → Prop
  | .nx ρ => wf (sts W ss ρ) Q
  | .bad => False
  | x => Q x
/-- behind a def's body -/
def fin (io : Bool) (Q : D → Option D → Prop) (X : Nat → Prop) (x : Fl) : Prop := wr (finish io x) Q X

section
variable {α β : Type} {Q : α → Prop} {X : Nat → Env → Prop}
theorem oS_some {a : α} : oS (some a) Q = Q a := rfl
theorem wp_ok {a : α} : wp (.ok a) Q X = Q a := rfl
theorem wp_ex {c : Nat} {ρ : Env} : wp (.ex c ρ) Q X = X c ρ := rfl
theorem wp_bind {x : R β} {f : β → R α} : wp (x.bind f) Q X = wp x (fun a => wp (f a) Q X) X := by cases x <;> rfl
theorem wp_ofO {o : Option α} : wp (ofO o) Q X = oS o Q := by cases o <;> rfl
theorem wp_if {c : Bool} {x : R α} : wp (if c = true then x else .bad) Q X = (c = true ∧ wp x Q X) := by cases c <;> simp [wp]
theorem wp_mono {x : R α} {Q' : α → Prop} {X' : Nat → Env → Prop} (h : wp x Q X) (k : ∀ a, Q a → Q' a) (kx : ∀ c ρ, X c ρ → X' c ρ) : wp x Q' X' := by
  cases x with
  | ok a => exact k a h
  | ex c ρ => exact kx c ρ h
  | bad => exact h
theorem wp_eq {x : R α} {a : α} (h : x = .ok a) (q : Q a) : wp x Q X := by rw [h]; exact q
end
section
variable {Q : Fl → Prop} {W : Wd}
theorem wf_nx {ρ : Env} : wf (.nx ρ) Q = Q (.nx ρ) := rfl
theorem wf_rt {d : D} {ρ : Env} : wf (.rt d ρ) Q = Q (.rt d ρ) := rfl
theorem wf_bk {ρ : Env} : wf (.bk ρ) Q = Q (.bk ρ) := rfl
theorem wf_ct {ρ : Env} : wf (.ct ρ) Q = Q (.ct ρ) := rfl
theorem wf_ex {c : Nat} {ρ : Env} : wf (.ex c ρ) Q = Q (.ex c ρ) := rfl
theorem wf_of {α : Type} {x : R α} {f : α → Fl} : wf (.of x f) Q = wp x (fun a => wf (f a) Q) (fun c ρ => Q (.ex c ρ)) := by cases x <;> rfl
theorem wf_if {c : Bool} {x : Fl} : wf (if c = true then x else .bad) Q = (c = true ∧ wf x Q) := by cases c <;> simp [wf]
theorem wf_mono {x : Fl} {Q' : Fl → Prop} (h : wf x Q) (k : ∀ y, Q y → Q' y) : wf x Q' := by
  cases x <;> first | exact k _ h | exact h
theorem sq_nx {ss : Ss} {ρ : Env} : sq W ss Q (.nx ρ) = wf (sts W ss ρ) Q := rfl
theorem sq_rt {ss : Ss} {d : D} {ρ : Env} : sq W ss Q (.rt d ρ) = Q (.rt d ρ) := rfl
theorem sq_bk {ss : Ss} {ρ : Env} : sq W ss Q (.bk ρ) = Q (.bk ρ) := rfl
theorem sq_ct {ss : Ss} {ρ : Env} : sq W ss Q (.ct ρ) = Q (.ct ρ) := rfl
theorem sq_ex {ss : Ss} {c : Nat} {ρ : Env} : sq W ss Q (.ex c ρ) = Q (.ex c ρ) := rfl
theorem wf_nil {ρ : Env} : wf (sts W .nil ρ) Q = Q (.nx ρ) := by rw [sts]; rfl
theorem wf_cons {s : S} {ss : Ss} {ρ : Env} : wf (sts W (.cons s ss) ρ) Q = wf (PV.st W s ρ) (sq W ss Q) := by
  rw [sts]
  cases PV.st W s ρ <;> rfl
end
section
variable {Q : D → Option D → Prop} {X : Nat → Prop}
theorem wr_ok {r : D} {o : Option D} : wr (.ok r o) Q X = Q r o := rfl
theorem wr_ex {c : Nat} : wr (.ex c) Q X = X c := rfl
theorem wr_mono {x : RF} {Q' : D → Option D → Prop} {X' : Nat → Prop} (h : wr x Q X) (k : ∀ r o, Q r o → Q' r o) (kx : ∀ c, X c → X' c) : wr x Q' X' := by
  cases x with
  | ok r o => exact k r o h
  | ex c => exact kx c h
  | bad => exact h
theorem wr_get {x : RF} {r : D} {o : Option D} (h : wr x (fun a b => a = r ∧ b = o) (fun _ => False)) : x = .ok r o := by
  cases x with
  | ok a b => rw [h.1, h.2]
  | ex c => exact h.elim
  | bad => exact h.elim
theorem wr_exists {x : RF} {P : D → Option D → Prop} (h : wr x P (fun _ => False)) : ∃ r o, x = .ok r o ∧ P r o := by
  cases x with
  | ok a b => exact ⟨a, b, rfl, h⟩
  | ex c => exact h.elim
  | bad => exact h.elim
theorem fin_rt0 {d : D} {ρ : Env} : fin false Q X (.rt d ρ) = Q d none := rfl
theorem fin_nx0 {ρ : Env} : fin false Q X (.nx ρ) = Q .non none := rfl
theorem fin_ex0 {c : Nat} {ρ : Env} {io : Bool} : fin io Q X (.ex c ρ) = X c := rfl
theorem fin_rt1 {d o : D} {ρ : Env} : fin true Q X (.rt d (some o :: ρ)) = Q d (some o) := rfl
theorem fin_nx1 {o : D} {ρ : Env} : fin true Q X (.nx (some o :: ρ)) = Q .non (some o) := rfl
theorem wr_run {T : Tb} {L k f : Nat} {ds : List D} {fd : Fd} (h : T.fd f = some fd) (hl : ds.length = fd.np) : wr (run T L (k + 1) f ds) Q X = wf (sts ⟨T.fd, run T L k, T.gl, L, if fd.io then [0] else [], T.kt, T.sub⟩ fd.body (entry fd ds)) (fin fd.io Q X) := by
  have : run T L (k + 1) f ds = match T.fd f with
    | none => .bad
    | some fd => if ds.length = fd.np then finish fd.io (sts ⟨T.fd, run T L k, T.gl, L, if fd.io then [0] else [], T.kt, T.sub⟩ fd.body (entry fd ds)) else .bad := rfl
  rw [this, h]
  simp only [hl, if_true]
  cases sts ⟨T.fd, run T L k, T.gl, L, if fd.io then [0] else [], T.kt, T.sub⟩ fd.body (entry fd ds) <;> rfl
end

/-! ### slots -/
theorem slot_0 {d : Option D} {ρ : Env} : slot (d :: ρ) 0 = d := rfl
theorem slot_s {d : Option D} {ρ : Env} {i : Nat} : slot (d :: ρ) (i + 1) = slot ρ i := rfl
theorem put_0 {d e : Option D} {ρ : Env} : put (d :: ρ) 0 e = e :: ρ := rfl
theorem put_s {d e : Option D} {ρ : Env} {i : Nat} : put (d :: ρ) (i + 1) e = d :: put ρ i e := rfl

/-! ### expressions -/
section
variable {W : Wd} {ρ : Env} {a b c e lo hi : E} {es : Es}
theorem ev_int {i : Int} : ev W (.int i) ρ = .ok (.int i, ρ) := by rw [ev]
theorem ev_str {i : Str} : ev W (.str i) ρ = .ok (.str i, ρ) := by rw [ev]
theorem ev_bl {i : Bool} : ev W (.bl i) ρ = .ok (.bl i, ρ) := by rw [ev]
theorem ev_non : ev W .non ρ = .ok (.non, ρ) := by rw [ev]
theorem ev_fn {i : Nat} : ev W (.fn i) ρ = .ok (.fn i, ρ) := by rw [ev]
theorem ev_glob {i : Nat} : ev W (.glob i) ρ = (ofO (W.gl i)).bind fun d => .ok (d, ρ) := by rw [ev]
theorem ev_var {i : Nat} : ev W (.var i) ρ = (ofO (slot ρ i)).bind fun d => .ok (d, ρ) := by rw [ev]
def vfK (ρ : Env) (i : Nat) : Option D → R (D × Env)
  | some d => if canFz d then .ok (fz d, put ρ i (some (fz d))) else .bad
  | none => .bad
theorem ev_vf {i : Nat} : ev W (.vf i) ρ = vfK ρ i (slot ρ i) := by
  rw [ev]
  unfold frSlot vfK
  cases h : slot ρ i with
  | none => rfl
  | some d =>
    simp only
    cases hc : canFz d with
    | false => rfl
    | true =>
      simp only [if_true, slot_put_same (slot_lt h)]
      rfl
theorem ev_bin {o : B2} : ev W (.bin o a b) ρ = (ev W a ρ).bind fun p => (ev W b p.2).bind fun q => (ofO (redo a b p.1 q.2)).bind fun d => (ofO (b2 o d q.1)).bind fun r => .ok (r, q.2) := by rw [ev]
theorem ev_cmp {o : C2} : ev W (.cmp o a b) ρ = (ev W a ρ).bind fun p => (ev W b p.2).bind fun q => (ofO (redo a b p.1 q.2)).bind fun d => (ofO (c2 W.kt o d q.1)).bind fun r => .ok (.bl r, q.2) := by rw [ev]
theorem ev_isn {n : Bool} : ev W (.isn n a) ρ = (ev W a ρ).bind fun p => .ok (.bl (n != isNonD p.1), p.2) := by rw [ev]
theorem ev_not : ev W (.not a) ρ = (ev W a ρ).bind fun p => (asBl p).bind fun q => .ok (.bl (!q.1), q.2) := by rw [ev]
/-- and, or: the second part when it is wanted -/
def andK (W : Wd) (b : E) (q : Bool × Env) : R (D × Env) := match q.1 with
  | true => (ev W b q.2).bind fun p => (asBl p).bind fun q => .ok (.bl q.1, q.2)
  | false => .ok (.bl false, q.2)
def orK (W : Wd) (b : E) (q : Bool × Env) : R (D × Env) := match q.1 with
  | true => .ok (.bl true, q.2)
  | false => (ev W b q.2).bind fun p => (asBl p).bind fun q => .ok (.bl q.1, q.2)
theorem andK_t : andK W b (true, ρ) = (ev W b ρ).bind fun p => (asBl p).bind fun q => .ok (.bl q.1, q.2) := rfl
theorem andK_f : andK W b (false, ρ) = .ok (.bl false, ρ) := rfl
theorem orK_t : orK W b (true, ρ) = .ok (.bl true, ρ) := rfl
theorem orK_f : orK W b (false, ρ) = (ev W b ρ).bind fun p => (asBl p).bind fun q => .ok (.bl q.1, q.2) := rfl
theorem ev_and : ev W (.and a b) ρ = (ev W a ρ).bind fun p => (asBl p).bind (andK W b) := by rw [ev]; rfl
theorem ev_or : ev W (.or a b) ρ = (ev W a ρ).bind fun p => (asBl p).bind (orK W b) := by rw [ev]; rfl
def ifeK (W : Wd) (a b : E) (q : Bool × Env) : R (D × Env) := match q.1 with
  | true => (ev W a q.2).bind fun p => if noOwn p.1 then .ok p else .bad
  | false => (ev W b q.2).bind fun p => if noOwn p.1 then .ok p else .bad
theorem ifeK_t : ifeK W a b (true, ρ) = (ev W a ρ).bind fun p => if noOwn p.1 then .ok p else .bad := rfl
theorem ifeK_f : ifeK W a b (false, ρ) = (ev W b ρ).bind fun p => if noOwn p.1 then .ok p else .bad := rfl
theorem ev_ife : ev W (.ife c a b) ρ = (ev W c ρ).bind fun p => (asBl p).bind (ifeK W a b) := by rw [ev]; rfl
theorem ev_tup : ev W (.tup es) ρ = (evs W es ρ).bind fun p => if szOk p.1.length then .ok (.tup p.1, p.2) else .bad := by rw [ev]
theorem ev_lst : ev W (.lst es) ρ = (evs W es ρ).bind fun p => if szOk p.1.length then .ok (.lst true p.1, p.2) else .bad := by rw [ev]
theorem ev_ix : ev W (.ix a b) ρ = (ev W a ρ).bind fun p => (ev W b p.2).bind fun q => (ofO (redo a b p.1 q.2)).bind fun d => (ofO (ixS W.kt d q.1)).bind fun r => if (pure a && pure b) || noOwn r then .ok (r, q.2) else .bad := by rw [ev]
theorem ev_sl : ev W (.sl a lo hi) ρ = (ev W a ρ).bind fun p => if (pure lo && pure hi) || noOwn p.1 then (evB (ev W lo) lo p.2).bind fun l => (evB (ev W hi) hi l.2).bind fun h => (ofO (slS p.1 l.1 h.1)).bind fun r => .ok (r, h.2) else .bad := by rw [ev]
theorem ev_dnw : ev W .dnw ρ = .ok (.dct true false [] [], ρ) := by rw [ev]
def revK (p : D × Env) : R (D × Env) := match p.1 with
  | .lst _ xs => if noOwnL xs then .ok (.lst true xs.reverse, p.2) else .bad
  | _ => .bad
theorem revK_l {o : Bool} {xs : List D} : revK (.lst o xs, ρ) = if noOwnL xs then .ok (.lst true xs.reverse, ρ) else .bad := rfl
theorem ev_rev : ev W (.rev a) ρ = (ev W a ρ).bind revK := by rw [ev]; rfl
theorem ev_f1 {f : F1} : ev W (.f1 f a) ρ = (ev W a ρ).bind fun p => (ofO (f1S f p.1)).bind fun r => .ok (r, p.2) := by rw [ev]
def trgK (l : Bool) (p : D × Env) : R (D × Env) := match p.1 with
  | .int j => if decide (0 ≤ j) && decide (j ≤ 1000000) then .ok (trgD l j, p.2) else .bad
  | _ => .bad
theorem ev_trg {l : Bool} : ev W (.trg l a) ρ = (ev W a ρ).bind (trgK l) := by rw [ev]; rfl
theorem ev_sset : ev W (.sset a) ρ = (ev W a ρ).bind fun p => (ofO (ssetS p.1)).bind fun r => .ok (r, p.2) := by rw [ev]
theorem ev_f2 {f : F2} : ev W (.f2 f a b) ρ = (ev W a ρ).bind fun p => (ev W b p.2).bind fun q => (ofO (f2S f p.1 q.1)).bind fun r => .ok (r, q.2) := by rw [ev]
theorem ev_isin {ts : List Ty} : ev W (.isin a ts) ρ = (ev W a ρ).bind fun p => (ofO (isTys p.1 ts)).bind fun r => .ok (.bl r, p.2) := by rw [ev]
theorem ev_m1 {m : M1} : ev W (.m1 m a b) ρ = (ev W a ρ).bind fun p => if recvOk m p.1 then (ev W b p.2).bind fun q => if pure b || !pure a || noOwn p.1 then (ofO (m1S m p.1 q.1)).bind fun r => .ok (r, q.2) else .bad else .bad := by rw [ev]
/-- neg of an int -/
def negK (p : D × Env) : R (D × Env) := match p.1 with
  | .int i => .ok (.int (-i), p.2)
  | _ => .bad
theorem negK_i {i : Int} : negK (.int i, ρ) = .ok (.int (-i), ρ) := rfl
theorem ev_neg : ev W (.neg a) ρ = (ev W a ρ).bind negK := by rw [ev]; rfl
theorem asBl_b {x : Bool} : asBl (.bl x, ρ) = .ok (x, ρ) := rfl
theorem evs_nil : evs W .nil ρ = .ok ([], ρ) := by rw [evs]
theorem evs_cons : evs W (.cons e es) ρ = (toV e (ev W e) ρ).bind fun p => (evs W es p.2).bind fun q => .ok (p.1 :: q.1, q.2) := by rw [evs]
theorem eva_nil : eva W .nil ρ = .ok ([], ρ) := by rw [eva]
theorem eva_cons : eva W (.cons e es) ρ = (toF e (ev W e) ρ).bind fun p => (eva W es p.2).bind fun q => .ok (p.1 :: q.1, q.2) := by rw [eva]
theorem evp_nil : evp W .nil ρ = .ok [] := by rw [evp]
theorem evp_cons : evp W (.cons e es) ρ = (ev W e ρ).bind fun p => (evp W es ρ).bind fun q => .ok (p.1 :: q) := by rw [evp]
/-- behind a call's answer -/
def toR (ρ : Env) : RF → R (D × Env)
  | .ok r _ => .ok (r, ρ)
  | .ex c => .ex c ρ
  | .bad => .bad
theorem wp_toR {Q : D × Env → Prop} {X : Nat → Env → Prop} {x : RF} : wp (toR ρ x) Q X = wr x (fun r _ => Q (r, ρ)) (fun c => X c ρ) := by cases x <;> rfl
theorem evp_ex {W : Wd} : ∀ {es : Es} {ρ ρ' : Env} {c : Nat}, evp W es ρ = .ex c ρ' → evp W es ρ = .ex c ρ' := fun h => h
/-- a call whose arguments are only looked at, all of them frozen already -/
theorem wp_callp {f : Nat} {fd : Fd} {Q : D × Env → Prop} {X : Nat → Env → Prop} (h : W.fd f = some fd) (h1 : (!fd.io && pureEs es) = true) (q : wp (evp W es ρ) (fun ds => noOwnL ds = true ∧ wr (W.call f ds) (fun r _ => Q (r, ρ)) (fun c => X c ρ)) X) : wp (ev W (.call f es) ρ) Q X := by
  unfold ev
  rw [h]
  cases e : evp W es ρ with
  | ok ds =>
    rw [e] at q
    obtain ⟨hn, q⟩ := q
    have hc : callP W.call f (R.ok ds) = true := by simp [callP, hn]
    show wp (if (!fd.io && pureEs es && callP W.call f (R.ok ds)) = true then _ else _) Q X
    rw [if_pos (by rw [h1, hc]; rfl)]
    show wp (if canFzL ds = true then _ else _) Q X
    rw [if_pos (noOwnL_canFz hn), fzL_id hn]
    cases e2 : W.call f ds with
    | ok r o =>
      rw [e2] at q
      show wp (if (isScal r || noOwnL ds) = true then _ else _) Q X
      rw [if_pos (by rw [hn]; simp)]
      exact q
    | ex c => rw [e2] at q; exact q
    | bad => rw [e2] at q; exact q
  | ex c ρ' =>
    rw [e] at q
    show wp (if (!fd.io && pureEs es && callP W.call f (R.ex c ρ')) = true then _ else _) Q X
    rw [if_pos (by rw [h1]; rfl)]
    exact q
  | bad => rw [e] at q; exact q.elim
/-- .. a scalar comes of owned ones -/
theorem wp_callz {f : Nat} {fd : Fd} {Q : D × Env → Prop} {X : Nat → Env → Prop} (h : W.fd f = some fd) (h1 : (!fd.io && pureEs es) = true) (q : wp (evp W es ρ) (fun ds => canFzL ds = true ∧ wr (W.call f (fzL ds)) (fun r _ => isScal r = true ∧ Q (r, ρ)) (fun c => X c ρ)) X) : wp (ev W (.call f es) ρ) Q X := by
  unfold ev
  rw [h]
  cases e : evp W es ρ with
  | ok ds =>
    rw [e] at q
    obtain ⟨hn, q⟩ := q
    cases e2 : W.call f (fzL ds) with
    | ok r o =>
      rw [e2] at q
      have q : isScal r = true ∧ Q (r, ρ) := q
      have hc : callP W.call f (R.ok ds) = true := by simp [callP, hn, e2, q.1]
      show wp (if (!fd.io && pureEs es && callP W.call f (R.ok ds)) = true then _ else _) Q X
      rw [if_pos (by rw [h1, hc]; rfl)]
      show wp (if canFzL ds = true then _ else _) Q X
      rw [if_pos hn, e2]
      show wp (if (isScal r || noOwnL ds) = true then _ else _) Q X
      rw [if_pos (by rw [q.1]; rfl)]
      exact q.2
    | ex c =>
      rw [e2] at q
      have hc : callP W.call f (R.ok ds) = true := by simp [callP, hn, e2]
      show wp (if (!fd.io && pureEs es && callP W.call f (R.ok ds)) = true then _ else _) Q X
      rw [if_pos (by rw [h1, hc]; rfl)]
      show wp (if canFzL ds = true then _ else _) Q X
      rw [if_pos hn, e2]
      exact q
    | bad => rw [e2] at q; exact q.elim
  | ex c ρ' =>
    rw [e] at q
    show wp (if (!fd.io && pureEs es && callP W.call f (R.ex c ρ')) = true then _ else _) Q X
    rw [if_pos (by rw [h1]; rfl)]
    exact q
  | bad => rw [e] at q; exact q.elim
/-- a call with arguments made for it -/
theorem wp_calla {f : Nat} {fd : Fd} {Q : D × Env → Prop} {X : Nat → Env → Prop} (h : W.fd f = some fd) (h0 : fd.io = false) (h1 : pureEs es = false) (q : wp (eva W es ρ) (fun p => wr (W.call f p.1) (fun r _ => Q (r, p.2)) (fun c => X c p.2)) X) : wp (ev W (.call f es) ρ) Q X := by
  unfold ev
  rw [h]
  show wp (if (!fd.io && pureEs es && callP W.call f (evp W es ρ)) = true then _ else if fd.io = true then _ else _) Q X
  rw [if_neg (by rw [h1]; simp), if_neg (by rw [h0]; simp), wp_bind]
  refine wp_mono q (fun p k => ?_) fun _ _ k => k
  cases e : W.call f p.1 <;> rw [e] at k <;> exact k
/-- a call that changes the slot i -/
theorem wp_calli {f i : Nat} {fd : Fd} {Q : D × Env → Prop} {X : Nat → Env → Prop} (h : W.fd f = some fd) (h0 : fd.io = true) (q : oS (slot ρ i) fun _ => wp (eva W es ρ) (fun p => oS (slot p.2 i) fun d => wr (W.call f (d :: p.1)) (fun r o => oS o fun o => Q (r, put p.2 i (some o))) (fun c => X c (put p.2 i none))) X) :
    wp (ev W (.call f (.cons (.var i) es)) ρ) Q X := by
  unfold ev
  rw [h]
  show wp (if (!fd.io && pureEs (.cons (.var i) es) && callP W.call f (evp W (.cons (.var i) es) ρ)) = true then _ else if fd.io = true then _ else _) Q X
  rw [if_neg (by rw [h0]; simp), if_pos h0, wp_bind, wp_ofO]
  cases e : slot ρ i with
  | none => rw [e] at q; exact q.elim
  | some d0 =>
    rw [e] at q
    have q : wp (eva W es ρ) _ X := q
    show wp ((eva W es ρ).bind _) Q X
    rw [wp_bind]
    refine wp_mono q (fun p k => ?_) fun _ _ k => k
    rw [wp_bind, wp_ofO]
    cases e1 : slot p.2 i with
    | none => rw [e1] at k; exact k.elim
    | some d =>
      rw [e1] at k
      show wp (match W.call f (d :: p.1) with | .ok r (some o) => _ | .ex c => _ | _ => _) Q X
      have k : wr (W.call f (d :: p.1)) _ _ := k
      cases e2 : W.call f (d :: p.1) with
      | ok r o =>
        rw [e2] at k
        cases o with
        | none => exact k.elim
        | some o => exact k
      | ex c => rw [e2] at k; exact k
      | bad => rw [e2] at k; exact k
/-- .. that changes a thing made for it -/
theorem wp_callt {f : Nat} {fd : Fd} {Q : D × Env → Prop} {X : Nat → Env → Prop} (h : W.fd f = some fd) (h0 : fd.io = true) (hv : ∀ i, e ≠ .var i) (q : wp (toV e (ev W e) ρ) (fun p0 => wp (eva W es p0.2) (fun p => wr (W.call f (p0.1 :: p.1)) (fun r o => oS o fun _ => Q (r, p.2)) (fun c => X c p.2)) X) X) :
    wp (ev W (.call f (.cons e es)) ρ) Q X := by
  unfold ev
  rw [h]
  show wp (if (!fd.io && pureEs (.cons e es) && callP W.call f (evp W (.cons e es) ρ)) = true then _ else if fd.io = true then _ else _) Q X
  rw [if_neg (by rw [h0]; simp), if_pos h0]
  have fin : wp ((toV e (ev W e) ρ).bind fun p0 => (eva W es p0.2).bind fun p => (match W.call f (p0.1 :: p.1) with
        | .ok r (some _) => R.ok (r, p.2)
        | .ex c => .ex c p.2
        | _ => .bad)) Q X := by
    rw [wp_bind]
    refine wp_mono q (fun p0 k => ?_) fun _ _ k => k
    rw [wp_bind]
    refine wp_mono k (fun p k => ?_) fun _ _ k => k
    cases e2 : W.call f (p0.1 :: p.1) with
    | ok r o =>
      rw [e2] at k
      cases o with
      | none => exact k.elim
      | some o => exact k
    | ex c => rw [e2] at k; exact k
    | bad => rw [e2] at k; exact k
  cases e <;> first | exact fin | exact absurd rfl (hv _)
end
end PV

/-! PVv: what is wanted behind, step by step: each rule turns one step, the rest of the way is a closed word. -/
namespace PV
open PySem L2
abbrev KX := Nat → Env → Prop
section
variable {α : Type}
def xE (W : Wd) (e : E) (ρ : Env) (Q : D → Env → Prop) (X : KX) : Prop := wp (ev W e ρ) (fun p => Q p.1 p.2) X
def xT (W : Wd) (e : E) (ρ : Env) (Q : Bool → Env → Prop) (X : KX) : Prop := wp ((ev W e ρ).bind asBl) (fun p => Q p.1 p.2) X
def xV (W : Wd) (e : E) (ρ : Env) (Q : D → Env → Prop) (X : KX) : Prop := wp (toV e (ev W e) ρ) (fun p => Q p.1 p.2) X
def xF (W : Wd) (e : E) (ρ : Env) (Q : D → Env → Prop) (X : KX) : Prop := wp (toF e (ev W e) ρ) (fun p => Q p.1 p.2) X
def xL (W : Wd) (es : Es) (ρ : Env) (Q : List D → Env → Prop) (X : KX) : Prop := wp (evs W es ρ) (fun p => Q p.1 p.2) X
def xA (W : Wd) (es : Es) (ρ : Env) (Q : List D → Env → Prop) (X : KX) : Prop := wp (eva W es ρ) (fun p => Q p.1 p.2) X
def xP (W : Wd) (es : Es) (ρ : Env) (Q : List D → Prop) (X : KX) : Prop := wp (evp W es ρ) Q X
def xS (W : Wd) (s : S) (ρ : Env) (Q : Fl → Prop) : Prop := wf (PV.st W s ρ) Q
def xB (W : Wd) (ss : Ss) (ρ : Env) (Q : Fl → Prop) : Prop := wf (sts W ss ρ) Q
/-! the rest of the way -/
def kRet (ρ : Env) (Q : D → Env → Prop) : D → Prop := fun d => Q d ρ
def kIf (c : Bool) (Q : Prop) : Prop := c = true ∧ Q
def kB3 (o : B2) (y : D) (ρ : Env) (Q : D → Env → Prop) : D → Prop := fun d => oS (b2 o d y) (kRet ρ Q)
def kB2 (o : B2) (a b : E) (x : D) (Q : D → Env → Prop) : D → Env → Prop := fun y ρ => oS (redo a b x ρ) (kB3 o y ρ Q)
def kB1 (W : Wd) (o : B2) (a b : E) (Q : D → Env → Prop) (X : KX) : D → Env → Prop := fun x ρ => xE W b ρ (kB2 o a b x Q) X
def kC4 (ρ : Env) (Q : D → Env → Prop) : Bool → Prop := fun r => Q (.bl r) ρ
def kC3 (W : Wd) (o : C2) (y : D) (ρ : Env) (Q : D → Env → Prop) : D → Prop := fun d => oS (c2 W.kt o d y) (kC4 ρ Q)
def kC2 (W : Wd) (o : C2) (a b : E) (x : D) (Q : D → Env → Prop) : D → Env → Prop := fun y ρ => oS (redo a b x ρ) (kC3 W o y ρ Q)
def kC1 (W : Wd) (o : C2) (a b : E) (Q : D → Env → Prop) (X : KX) : D → Env → Prop := fun x ρ => xE W b ρ (kC2 W o a b x Q) X
def kIsn (n : Bool) (Q : D → Env → Prop) : D → Env → Prop := fun x ρ => Q (.bl (n != isNonD x)) ρ
def kNot (Q : D → Env → Prop) : Bool → Env → Prop := fun b ρ => Q (.bl (!b)) ρ
def kBl (Q : D → Env → Prop) : Bool → Env → Prop := fun b ρ => Q (.bl b) ρ
def kAnd (W : Wd) (b : E) (Q : D → Env → Prop) (X : KX) : Bool → Env → Prop
  | true, ρ => xT W b ρ (kBl Q) X
  | false, ρ => Q (.bl false) ρ
def kOr (W : Wd) (b : E) (Q : D → Env → Prop) (X : KX) : Bool → Env → Prop
  | true, ρ => Q (.bl true) ρ
  | false, ρ => xT W b ρ (kBl Q) X
def kNo (Q : D → Env → Prop) : D → Env → Prop := fun d ρ => kIf (noOwn d) (Q d ρ)
def kIfe (W : Wd) (a b : E) (Q : D → Env → Prop) (X : KX) : Bool → Env → Prop
  | true, ρ => xE W a ρ (kNo Q) X
  | false, ρ => xE W b ρ (kNo Q) X
def kTup (Q : D → Env → Prop) : List D → Env → Prop := fun ds ρ => kIf (szOk ds.length) (Q (.tup ds) ρ)
def kLst (Q : D → Env → Prop) : List D → Env → Prop := fun ds ρ => kIf (szOk ds.length) (Q (.lst true ds) ρ)
def kX4 (a b : E) (ρ : Env) (Q : D → Env → Prop) : D → Prop := fun r => kIf ((pure a && pure b) || noOwn r) (Q r ρ)
def kX3 (W : Wd) (a b : E) (y : D) (ρ : Env) (Q : D → Env → Prop) : D → Prop := fun d => oS (ixS W.kt d y) (kX4 a b ρ Q)
def kX2 (W : Wd) (a b : E) (x : D) (Q : D → Env → Prop) : D → Env → Prop := fun y ρ => oS (redo a b x ρ) (kX3 W a b y ρ Q)
def kX1 (W : Wd) (a b : E) (Q : D → Env → Prop) (X : KX) : D → Env → Prop := fun x ρ => xE W b ρ (kX2 W a b x Q) X
def xO (W : Wd) (e : E) (ρ : Env) (Q : Option Int → Env → Prop) (X : KX) : Prop := wp (evB (ev W e) e ρ) (fun p => Q p.1 p.2) X
def kO (Q : Option Int → Env → Prop) : D → Env → Prop
  | .int i, ρ => Q (some i) ρ
  | _, _ => False
def kSl3 (x : D) (l : Option Int) (Q : D → Env → Prop) : Option Int → Env → Prop := fun h ρ => oS (slS x l h) (kRet ρ Q)
def kSl2 (W : Wd) (hi : E) (x : D) (Q : D → Env → Prop) (X : KX) : Option Int → Env → Prop := fun l ρ => xO W hi ρ (kSl3 x l Q) X
def kSl1 (W : Wd) (lo hi : E) (Q : D → Env → Prop) (X : KX) : D → Env → Prop := fun x ρ => kIf ((pure lo && pure hi) || noOwn x) (xO W lo ρ (kSl2 W hi x Q X) X)
def kRev (Q : D → Env → Prop) : D → Env → Prop
  | .lst _ xs, ρ => kIf (noOwnL xs) (Q (.lst true xs.reverse) ρ)
  | _, _ => False
def kF1 (f : F1) (Q : D → Env → Prop) : D → Env → Prop := fun d ρ => oS (f1S f d) (kRet ρ Q)
def kF22 (f : F2) (x : D) (Q : D → Env → Prop) : D → Env → Prop := fun y ρ => oS (f2S f x y) (kRet ρ Q)
def kF21 (W : Wd) (f : F2) (b : E) (Q : D → Env → Prop) (X : KX) : D → Env → Prop := fun x ρ => xE W b ρ (kF22 f x Q) X
def kIsin (ts : List Ty) (Q : D → Env → Prop) : D → Env → Prop := fun x ρ => oS (isTys x ts) (kC4 ρ Q)
def kM2 (m : M1) (a b : E) (x : D) (Q : D → Env → Prop) : D → Env → Prop := fun y ρ => kIf (pure b || !pure a || noOwn x) (oS (m1S m x y) (kRet ρ Q))
def kM1 (W : Wd) (m : M1) (a b : E) (Q : D → Env → Prop) (X : KX) : D → Env → Prop := fun x ρ => kIf (recvOk m x) (xE W b ρ (kM2 m a b x Q) X)
def kNeg (Q : D → Env → Prop) : D → Env → Prop
  | .int i, ρ => Q (.int (-i)) ρ
  | _, _ => False
def kCons2 (d : D) (Q : List D → Env → Prop) : List D → Env → Prop := fun ds ρ => Q (d :: ds) ρ
def kL1 (W : Wd) (es : Es) (Q : List D → Env → Prop) (X : KX) : D → Env → Prop := fun d ρ => xL W es ρ (kCons2 d Q) X
def kA1 (W : Wd) (es : Es) (Q : List D → Env → Prop) (X : KX) : D → Env → Prop := fun d ρ => xA W es ρ (kCons2 d Q) X
def kP2 (d : D) (Q : List D → Prop) : List D → Prop := fun ds => Q (d :: ds)
def kP1 (W : Wd) (es : Es) (ρ : Env) (Q : List D → Prop) (X : KX) : D → Env → Prop := fun d _ => xP W es ρ (kP2 d Q) X
def kTst (Q : Bool → Env → Prop) : D → Env → Prop
  | .bl b, ρ => Q b ρ
  | _, _ => False
/-- kept: its own is none, or its place is frozen and read again -/
def kKeep (W : Wd) (e : E) (ρ0 : Env) (Q : D → Env → Prop) (X : KX) : D → Env → Prop := fun d ρ => if noOwn d = true then Q d ρ else match root e with
  | some i => oS (frSlot ρ0 i) fun ρ' => xE W e ρ' (kNo Q) X
  | none => False
def kFz (Q : D → Env → Prop) : D → Env → Prop := fun d ρ => kIf (canFz d) (Q (fz d) ρ)
/-- calls -/
def kR (ρ : Env) (Q : D → Env → Prop) : D → Option D → Prop := fun r _ => Q r ρ
def kRX (ρ : Env) (X : KX) : Nat → Prop := fun c => X c ρ
def kCallp (W : Wd) (f : Nat) (ρ : Env) (Q : D → Env → Prop) (X : KX) : List D → Prop := fun ds => kIf (noOwnL ds) (wr (W.call f ds) (kR ρ Q) (kRX ρ X))
def kRs (ρ : Env) (Q : D → Env → Prop) : D → Option D → Prop := fun r _ => kIf (isScal r) (Q r ρ)
def kCallz (W : Wd) (f : Nat) (ρ : Env) (Q : D → Env → Prop) (X : KX) : List D → Prop := fun ds => kIf (canFzL ds) (wr (W.call f (fzL ds)) (kRs ρ Q) (kRX ρ X))
def kCalla (W : Wd) (f : Nat) (Q : D → Env → Prop) (X : KX) : List D → Env → Prop := fun ds ρ => wr (W.call f ds) (kR ρ Q) (kRX ρ X)
def kPut (ρ : Env) (i : Nat) (r : D) (Q : D → Env → Prop) : D → Prop := fun o => Q r (put ρ i (some o))
def kRi (ρ : Env) (i : Nat) (Q : D → Env → Prop) : D → Option D → Prop := fun r o => oS o (kPut ρ i r Q)
def kRXi (ρ : Env) (i : Nat) (X : KX) : Nat → Prop := fun c => X c (put ρ i none)
def kCi3 (W : Wd) (f i : Nat) (ds : List D) (ρ : Env) (Q : D → Env → Prop) (X : KX) : D → Prop := fun d => wr (W.call f (d :: ds)) (kRi ρ i Q) (kRXi ρ i X)
def kCi2 (W : Wd) (f i : Nat) (Q : D → Env → Prop) (X : KX) : List D → Env → Prop := fun ds ρ => oS (slot ρ i) (kCi3 W f i ds ρ Q X)
def kCi1 (W : Wd) (f i : Nat) (es : Es) (ρ : Env) (Q : D → Env → Prop) (X : KX) : D → Prop := fun _ => xA W es ρ (kCi2 W f i Q X) X
def kDrop (ρ : Env) (r : D) (Q : D → Env → Prop) : D → Prop := fun _ => Q r ρ
def kRt (ρ : Env) (Q : D → Env → Prop) : D → Option D → Prop := fun r o => oS o (kDrop ρ r Q)
def kCt2 (W : Wd) (f : Nat) (d : D) (Q : D → Env → Prop) (X : KX) : List D → Env → Prop := fun ds ρ => wr (W.call f (d :: ds)) (kRt ρ Q) (kRX ρ X)
def kCt1 (W : Wd) (f : Nat) (es : Es) (Q : D → Env → Prop) (X : KX) : D → Env → Prop := fun d ρ => xA W es ρ (kCt2 W f d Q X) X
/-- a list's method -/
def kMm (m : MM) (i : Nat) (Q : D → Env → Prop) : List D → Env → Prop := fun ds ρ => match slot ρ i with
  | some (.lst true xs) => match mmS m xs ds with
    | some z => Q z.1 (put ρ i (some (.lst true z.2)))
    | none => False
  | _ => False
end
section
variable {W : Wd} {ρ : Env} {a b c e lo hi : E} {es : Es} {Q : D → Env → Prop} {X : KX}
theorem xE_int {i : Int} : xE W (.int i) ρ Q X = Q (.int i) ρ := by simp only [xE, ev_int, wp_ok]
theorem xE_str {i : Str} : xE W (.str i) ρ Q X = Q (.str i) ρ := by simp only [xE, ev_str, wp_ok]
theorem xE_bl {i : Bool} : xE W (.bl i) ρ Q X = Q (.bl i) ρ := by simp only [xE, ev_bl, wp_ok]
theorem xE_non : xE W .non ρ Q X = Q .non ρ := by simp only [xE, ev_non, wp_ok]
theorem xE_fn {i : Nat} : xE W (.fn i) ρ Q X = Q (.fn i) ρ := by simp only [xE, ev_fn, wp_ok]
theorem xE_glob {i : Nat} : xE W (.glob i) ρ Q X = oS (W.gl i) (kRet ρ Q) := by simp only [xE, ev_glob, wp_bind, wp_ofO, wp_ok]; rfl
theorem xE_var {i : Nat} : xE W (.var i) ρ Q X = oS (slot ρ i) (kRet ρ Q) := by simp only [xE, ev_var, wp_bind, wp_ofO, wp_ok]; rfl
theorem xE_bin {o : B2} : xE W (.bin o a b) ρ Q X = xE W a ρ (kB1 W o a b Q X) X := by simp only [xE, kB1, ev_bin, wp_bind, wp_ofO, wp_ok]; rfl
theorem xE_cmp {o : C2} : xE W (.cmp o a b) ρ Q X = xE W a ρ (kC1 W o a b Q X) X := by simp only [xE, kC1, ev_cmp, wp_bind, wp_ofO, wp_ok]; rfl
theorem xE_isn {n : Bool} : xE W (.isn n a) ρ Q X = xE W a ρ (kIsn n Q) X := by simp only [xE, kIsn, ev_isn, wp_bind, wp_ok]
theorem xE_not : xE W (.not a) ρ Q X = xT W a ρ (kNot Q) X := by simp only [xE, xT, kNot, ev_not, wp_bind, wp_ok]
theorem xE_and : xE W (.and a b) ρ Q X = xT W a ρ (kAnd W b Q X) X := by
  simp only [xE, xT, ev_and, wp_bind]
  congr 1; funext p; congr 1; funext q
  obtain ⟨t, ρ⟩ := q
  cases t <;> simp only [andK, kAnd, xT, wp_bind, wp_ok, kBl]
theorem xE_or : xE W (.or a b) ρ Q X = xT W a ρ (kOr W b Q X) X := by
  simp only [xE, xT, ev_or, wp_bind]
  congr 1; funext p; congr 1; funext q
  obtain ⟨t, ρ⟩ := q
  cases t <;> simp only [orK, kOr, xT, wp_bind, wp_ok, kBl]
theorem xE_ife : xE W (.ife c a b) ρ Q X = xT W c ρ (kIfe W a b Q X) X := by
  simp only [xE, xT, ev_ife, wp_bind]
  congr 1; funext p; congr 1; funext q
  obtain ⟨t, ρ⟩ := q
  cases t <;> simp only [ifeK, kIfe, xE, wp_bind, wp_if, wp_ok, kNo, kIf]
theorem xE_tup : xE W (.tup es) ρ Q X = xL W es ρ (kTup Q) X := by simp only [xE, xL, kTup, kIf, ev_tup, wp_bind, wp_if, wp_ok]
theorem xE_lst : xE W (.lst es) ρ Q X = xL W es ρ (kLst Q) X := by simp only [xE, xL, kLst, kIf, ev_lst, wp_bind, wp_if, wp_ok]
theorem xE_ix : xE W (.ix a b) ρ Q X = xE W a ρ (kX1 W a b Q X) X := by simp only [xE, kX1, ev_ix, wp_bind, wp_ofO, wp_if, wp_ok]; rfl
theorem xO_no {Q : Option Int → Env → Prop} : xO W .no ρ Q X = Q none ρ := rfl
theorem xO_e {Q : Option Int → Env → Prop} (h : isNo e = false) : xO W e ρ Q X = xE W e ρ (kO Q) X := by
  have e1 : evB (ev W e) e ρ = (ev W e ρ).bind fun q => match q.1 with
      | .int i => .ok (some i, q.2)
      | _ => .bad := by
    cases e <;> first | rfl | (cases h)
  simp only [xO, xE, e1, wp_bind]
  congr 1; funext p
  obtain ⟨d, ρ⟩ := p
  cases d <;> rfl
theorem xE_sl : xE W (.sl a lo hi) ρ Q X = xE W a ρ (kSl1 W lo hi Q X) X := by
  simp only [xE, ev_sl, wp_bind]
  congr 1; funext p
  rw [wp_if]
  simp only [kSl1, kSl2, kIf, xO, wp_bind, wp_ofO, wp_ok]
  rfl
theorem xE_dnw : xE W .dnw ρ Q X = Q (.dct true false [] []) ρ := by simp only [xE, ev_dnw, wp_ok]
theorem xE_rev : xE W (.rev a) ρ Q X = xE W a ρ (kRev Q) X := by
  simp only [xE, ev_rev, wp_bind]
  congr 1; funext p
  obtain ⟨d, ρ⟩ := p
  cases d <;> first | rfl | simp only [revK, kRev, kIf, wp_if, wp_ok]
def kTrg (l : Bool) (Q : D → Env → Prop) : D → Env → Prop
  | .int j, ρ => kIf (decide (0 ≤ j) && decide (j ≤ 1000000)) (Q (trgD l j) ρ)
  | _, _ => False
theorem xE_trg {l : Bool} : xE W (.trg l a) ρ Q X = xE W a ρ (kTrg l Q) X := by
  simp only [xE, ev_trg, wp_bind]
  congr 1; funext p
  obtain ⟨x, ρ⟩ := p
  cases x <;> first | rfl | simp only [trgK, kTrg, kIf, wp_if, wp_ok]
def kVf (ρ : Env) (i : Nat) (Q : D → Env → Prop) : D → Prop := fun d => kIf (canFz d) (Q (fz d) (put ρ i (some (fz d))))
theorem xE_vf {i : Nat} : xE W (.vf i) ρ Q X = oS (slot ρ i) (kVf ρ i Q) := by
  simp only [xE, ev_vf]
  cases slot ρ i with
  | none => rfl
  | some d =>
    simp only [oS, vfK, kVf, kIf]
    cases canFz d <;> simp [wp]
def kSset (Q : D → Env → Prop) : D → Env → Prop := fun d ρ => oS (ssetS d) (kRet ρ Q)
theorem xE_sset : xE W (.sset a) ρ Q X = xE W a ρ (kSset Q) X := by simp only [xE, ev_sset, wp_bind, wp_ofO, wp_ok]; rfl
theorem xE_f1 {f : F1} : xE W (.f1 f a) ρ Q X = xE W a ρ (kF1 f Q) X := by simp only [xE, ev_f1, wp_bind, wp_ofO, wp_ok]; rfl
theorem xE_f2 {f : F2} : xE W (.f2 f a b) ρ Q X = xE W a ρ (kF21 W f b Q X) X := by simp only [xE, kF21, ev_f2, wp_bind, wp_ofO, wp_ok]; rfl
theorem xE_isin {ts : List Ty} : xE W (.isin a ts) ρ Q X = xE W a ρ (kIsin ts Q) X := by simp only [xE, ev_isin, wp_bind, wp_ofO, wp_ok]; rfl
theorem xE_m1 {m : M1} : xE W (.m1 m a b) ρ Q X = xE W a ρ (kM1 W m a b Q X) X := by simp only [xE, kM1, kM2, kIf, ev_m1, wp_bind, wp_ofO, wp_if, wp_ok]; rfl
theorem xE_neg : xE W (.neg a) ρ Q X = xE W a ρ (kNeg Q) X := by
  simp only [xE, ev_neg, wp_bind]
  congr 1; funext p
  obtain ⟨d, ρ⟩ := p
  cases d <;> rfl
theorem xL_nil {Q : List D → Env → Prop} : xL W .nil ρ Q X = Q [] ρ := by simp only [xL, evs_nil, wp_ok]
theorem xL_cons {Q : List D → Env → Prop} : xL W (.cons e es) ρ Q X = xV W e ρ (kL1 W es Q X) X := by simp only [xL, xV, kL1, evs_cons, wp_bind, wp_ok]; rfl
theorem xA_nil {Q : List D → Env → Prop} : xA W .nil ρ Q X = Q [] ρ := by simp only [xA, eva_nil, wp_ok]
theorem xA_cons {Q : List D → Env → Prop} : xA W (.cons e es) ρ Q X = xF W e ρ (kA1 W es Q X) X := by simp only [xA, xF, kA1, eva_cons, wp_bind, wp_ok]; rfl
theorem xP_nil {Q : List D → Prop} : xP W .nil ρ Q X = Q [] := by simp only [xP, evp_nil, wp_ok]
theorem xP_cons {Q : List D → Prop} : xP W (.cons e es) ρ Q X = xE W e ρ (kP1 W es ρ Q X) X := by simp only [xP, xE, kP1, evp_cons, wp_bind, wp_ok]; rfl
theorem xT_e {Q : Bool → Env → Prop} : xT W e ρ Q X = xE W e ρ (kTst Q) X := by
  simp only [xT, xE, wp_bind]
  congr 1; funext p
  obtain ⟨d, ρ⟩ := p
  cases d <;> rfl
theorem xV_mv {i : Nat} : xV W (.mv i) ρ Q X = oS (slot ρ i) fun d => Q d (put ρ i none) := by
  show wp (match slot ρ i with | some d => R.ok (d, put ρ i none) | none => .bad) _ X = _
  cases slot ρ i <;> rfl
def isMv : E → Bool
  | .mv _ => true
  | _ => false
theorem toV_by (h : isMv e = false) : toV e (ev W e) ρ = if pure e = true then (ev W e ρ).bind fun p => if noOwn p.1 then .ok p else match root e with
      | some i => match frSlot ρ i with
        | some ρ' => (ev W e ρ').bind fun p => if noOwn p.1 then .ok p else .bad
        | none => .bad
      | none => .bad
    else ev W e ρ := by
  cases e <;> first | rfl | (cases h; done)
theorem xV_np (h : isMv e = false) (hp : pure e = false) : xV W e ρ Q X = xE W e ρ Q X := by
  have : toV e (ev W e) ρ = ev W e ρ := by rw [toV_by h, hp, if_neg Bool.false_ne_true]
  unfold xV xE
  rw [this]
theorem xV_p (h : isMv e = false) (hp : pure e = true) : xV W e ρ Q X = xE W e ρ (kKeep W e ρ Q X) X := by
  have : toV e (ev W e) ρ = (ev W e ρ).bind fun p => if noOwn p.1 then .ok p else match root e with
      | some i => match frSlot ρ i with
        | some ρ' => (ev W e ρ').bind fun p => if noOwn p.1 then .ok p else .bad
        | none => .bad
      | none => .bad := by rw [toV_by h, hp, if_pos rfl]
  simp only [xV, xE, this, wp_bind]
  congr 1; funext p
  unfold kKeep
  by_cases hn : noOwn p.1 = true
  · simp only [hn, if_true]; rfl
  · simp only [hn, if_false]
    cases root e with
    | none => rfl
    | some i =>
      simp only
      cases frSlot ρ i with
      | none => rfl
      | some ρ' =>
        show wp ((ev W e ρ').bind _) _ X = xE W e ρ' (kNo Q) X
        simp only [xE, kNo, kIf, wp_bind, wp_if, wp_ok]
theorem xF_e : xF W e ρ Q X = xV W e ρ (kFz Q) X := by simp only [xF, xV, toF, kFz, kIf, wp_bind, wp_if, wp_ok]
theorem kKeep_no {d : D} {ρ0 : Env} (h : noOwn d = true) : kKeep W e ρ0 Q X d ρ = Q d ρ := by unfold kKeep; rw [if_pos h]
theorem kKeep_own {d : D} {ρ0 : Env} {i : Nat} (h : noOwn d = false) (hr : root e = some i) : kKeep W e ρ0 Q X d ρ = oS (frSlot ρ0 i) fun ρ' => xE W e ρ' (kNo Q) X := by unfold kKeep; rw [if_neg (by rw [h]; simp), hr]
theorem kFz_no {d : D} (h : noOwn d = true) : kFz Q d ρ = Q d ρ := by unfold kFz kIf; rw [noOwn_canFz h, fz_id h]; simp
theorem xE_callp {f : Nat} {fd : Fd} (h : W.fd f = some fd) (h1 : (!fd.io && pureEs es) = true) (q : xP W es ρ (kCallp W f ρ Q X) X) : xE W (.call f es) ρ Q X := wp_callp h h1 q
theorem xE_callz {f : Nat} {fd : Fd} (h : W.fd f = some fd) (h1 : (!fd.io && pureEs es) = true) (q : xP W es ρ (kCallz W f ρ Q X) X) : xE W (.call f es) ρ Q X := wp_callz h h1 q
theorem xE_calla {f : Nat} {fd : Fd} (h : W.fd f = some fd) (h0 : fd.io = false) (h1 : pureEs es = false) (q : xA W es ρ (kCalla W f Q X) X) : xE W (.call f es) ρ Q X := wp_calla h h0 h1 q
theorem xE_calli {f i : Nat} {fd : Fd} (h : W.fd f = some fd) (h0 : fd.io = true) (q : oS (slot ρ i) (kCi1 W f i es ρ Q X)) : xE W (.call f (.cons (.var i) es)) ρ Q X := wp_calli h h0 q
theorem xE_callt {f : Nat} {fd : Fd} (h : W.fd f = some fd) (h0 : fd.io = true) (hv : ∀ i, e ≠ .var i) (q : xV W e ρ (kCt1 W f es Q X) X) : xE W (.call f (.cons e es)) ρ Q X := wp_callt h h0 hv q
theorem xE_mm {m : MM} {i : Nat} (h : isOwnL (slot ρ i) = true) : xE W (.mm m i [] es) ρ Q X = xL W es ρ (kMm m i Q) X := by
  show wp (ev W (.mm m i [] es) ρ) _ X = _
  rw [ev, h]
  simp only [if_true, xL, wp_bind]
  congr 1; funext p
  unfold kMm
  cases slot p.2 i with
  | none => rfl
  | some d =>
    cases d <;> first
      | rfl
      | (rename_i o xs
         cases o
         · rfl
         · simp only
           cases mmS m xs p.1 <;> rfl)
end
/-! ### statements -/
section
variable {W : Wd} {ρ : Env} {e d : E} {s : S} {ss a b : Ss} {Q : Fl → Prop}
def kXf (Q : Fl → Prop) : KX := fun c ρ => Q (.ex c ρ)
def kSq (W : Wd) (ss : Ss) (Q : Fl → Prop) : Fl → Prop
  | .nx ρ => xB W ss ρ Q
  | .bad => False
  | x => Q x
theorem kSq_nx : kSq W ss Q (.nx ρ) = xB W ss ρ Q := rfl
theorem kSq_rt {x : D} : kSq W ss Q (.rt x ρ) = Q (.rt x ρ) := rfl
theorem kSq_ex {x : Nat} : kSq W ss Q (.ex x ρ) = Q (.ex x ρ) := rfl
theorem kSq_bk : kSq W ss Q (.bk ρ) = Q (.bk ρ) := rfl
theorem kSq_ct : kSq W ss Q (.ct ρ) = Q (.ct ρ) := rfl
theorem xB_nil : xB W .nil ρ Q = Q (.nx ρ) := wf_nil
theorem xB_cons : xB W (.cons s ss) ρ Q = xS W s ρ (kSq W ss Q) := by
  unfold xB xS
  rw [wf_cons]
  have : sq W ss Q = kSq W ss Q := by
    funext x
    cases x <;> rfl
  rw [this]
def kAsg (W : Wd) (i : Nat) (Q : Fl → Prop) : D → Env → Prop := fun d ρ => kIf (decide (i < ρ.length) && fits W.pin [i]) (Q (.nx (put ρ i (some d))))
theorem xS_asg {i : Nat} : xS W (.asg i e) ρ Q = xV W e ρ (kAsg W i Q) (kXf Q) := by
  show wf (PV.st W (.asg i e) ρ) Q = _
  rw [PV.st, wf_of]
  simp only [wf_if, wf_nx]
  rfl
def kAsgT (W : Wd) (is : List Nat) (Q : Fl → Prop) : D → Env → Prop := fun d ρ => kIf (fits W.pin is) (oS (bindT (.tup is) d ρ) fun ρ => Q (.nx ρ))
theorem xS_asgT {is : List Nat} : xS W (.asgT is e) ρ Q = xF W e ρ (kAsgT W is Q) (kXf Q) := by
  show wf (PV.st W (.asgT is e) ρ) Q = _
  rw [PV.st, wf_of]
  unfold xF kXf
  congr 1; funext p
  rw [wf_if]
  unfold kAsgT kIf
  cases bindT (.tup is) p.1 p.2 <;> rfl
def kAug (W : Wd) (i : Nat) (x : Int) (Q : Fl → Prop) : D → Env → Prop
  | .int y, ρ => kIf (fits W.pin [i]) (Q (.nx (put ρ i (some (.int (x + y))))))
  | _, _ => False
def kAug1 (W : Wd) (i : Nat) (e : E) (ρ : Env) (Q : Fl → Prop) : D → Prop
  | .int x => xE W e ρ (kAug W i x Q) (kXf Q)
  | _ => False
theorem xS_aug {i : Nat} : xS W (.aug i .addi e) ρ Q = oS (slot ρ i) (kAug1 W i e ρ Q) := by
  show wf (PV.st W (.aug i .addi e) ρ) Q = _
  rw [PV.st]
  cases slot ρ i with
  | none => rfl
  | some x =>
    cases x <;> first
      | rfl
      | (simp only [wf_of, oS, kAug1, xE, kXf]
         congr 1; funext p
         obtain ⟨y, ρ⟩ := p
         cases y <;> first
           | rfl
           | (simp only [decide_true, Bool.and_true, wf_if, wf_nx]; rfl))
def kSet2 (i : Nat) (d : D) (Q : Fl → Prop) : D → Env → Prop
  | .int j, ρ => (match slot ρ i with
    | some (.lst true xs) => oS (ixN xs.length j) fun n => Q (.nx (put ρ i (some (.lst true (xs.set n d)))))
    | _ => False)
  | _, _ => False
def kSet1 (W : Wd) (i : Nat) (k : E) (Q : Fl → Prop) : D → Env → Prop := fun d ρ => kIf (isOwnL (slot ρ i)) (xE W k ρ (kSet2 i d Q) (kXf Q))
def kDp3 (i : Nat) (Q : Fl → Prop) : D → Env → Prop := fun d ρ => Q (.nx (put ρ i (some d)))
def kDp2 (i : Nat) (d : D) (Q : Fl → Prop) : D → Env → Prop := fun q ρ => oS (putS q d (slot ρ i)) (fun z => Q (.nx (put ρ i (some z))))
def kDp1 (W : Wd) (i : Nat) (k : E) (Q : Fl → Prop) : D → Env → Prop := fun d ρ => kIf (isOwnD (slot ρ i)) (xE W k ρ (kDp2 i d Q) (kXf Q))
theorem xS_dput {i : Nat} {k : E} : xS W (.dput i k e) ρ Q = xF W e ρ (kDp1 W i k Q) (kXf Q) := by
  show wf (PV.st W (.dput i k e) ρ) Q = _
  rw [PV.st, wf_of]
  unfold xF kXf
  congr 1; funext p
  rw [wf_if, wf_of]
  unfold kDp1 kIf xE kXf
  congr 1; congr 1; funext q
  obtain ⟨y, ρ1⟩ := q
  unfold kDp2
  cases hs : putS y p.1 (slot ρ1 i) with
  | none => simp only [hs]; rfl
  | some x => simp only [hs]; rfl
theorem xS_setix {i : Nat} {k : E} (h : pure k = true) : xS W (.setix i [] k e) ρ Q = xF W e ρ (kSet1 W i k Q) (kXf Q) := by
  show wf (PV.st W (.setix i [] k e) ρ) Q = _
  rw [PV.st, wf_of]
  unfold xF kXf
  congr 1; funext p
  rw [wf_if, wf_of]
  unfold kSet1 kIf xE kXf
  congr 1; congr 1; funext q
  obtain ⟨y, ρ1⟩ := q
  cases hs : slot ρ1 i with
  | none => cases y <;> simp [kSet2, hs, wf]
  | some x =>
    cases x with
    | lst o xs =>
      cases o with
      | false => cases y <;> simp [kSet2, hs, wf]
      | true =>
        cases y with
        | int j =>
          simp only [kSet2, hs, h, if_true]
          cases ixN xs.length j <;> rfl
        | _ => simp [kSet2, hs, wf]
    | _ => cases y <;> simp [kSet2, hs, wf]
def kExpr (Q : Fl → Prop) : D → Env → Prop := fun _ ρ => Q (.nx ρ)
theorem xS_expr : xS W (.expr e) ρ Q = xE W e ρ (kExpr Q) (kXf Q) := by
  show wf (PV.st W (.expr e) ρ) Q = _
  rw [PV.st, wf_of]; rfl
def kRtn (Q : Fl → Prop) : D → Env → Prop := fun d ρ => Q (.rt d ρ)
theorem xS_ret : xS W (.ret e) ρ Q = xV W e ρ (kRtn Q) (kXf Q) := by
  show wf (PV.st W (.ret e) ρ) Q = _
  rw [PV.st, wf_of]; rfl
theorem xS_retn : xS W .retn ρ Q = Q (.rt .non ρ) := by
  show wf (PV.st W .retn ρ) Q = _
  rw [PV.st]; rfl
def kCond (W : Wd) (a b : Ss) (Q : Fl → Prop) : Bool → Env → Prop
  | true, ρ => xB W a ρ Q
  | false, ρ => xB W b ρ Q
theorem kCond_t : kCond W a b Q true ρ = xB W a ρ Q := rfl
theorem kCond_f : kCond W a b Q false ρ = xB W b ρ Q := rfl
theorem xS_ife : xS W (.ife d a b) ρ Q = xT W d ρ (kCond W a b Q) (kXf Q) := by
  show wf (PV.st W (.ife d a b) ρ) Q = _
  rw [PV.st, flBind, wf_of]
  unfold xT
  congr 1; funext p
  obtain ⟨t, ρ⟩ := p
  cases t <;> rfl
theorem xS_raise {n : Nat} : xS W (.raise n) ρ Q = Q (.ex n ρ) := by
  show wf (PV.st W (.raise n) ρ) Q = _
  rw [PV.st]; rfl
theorem xS_pass : xS W .pass ρ Q = Q (.nx ρ) := by
  show wf (PV.st W .pass ρ) Q = _
  rw [PV.st]; rfl
theorem xS_cont : xS W .cont ρ Q = Q (.ct ρ) := by
  show wf (PV.st W .cont ρ) Q = _
  rw [PV.st]; rfl
theorem xS_brk : xS W .brk ρ Q = Q (.bk ρ) := by
  show wf (PV.st W .brk ρ) Q = _
  rw [PV.st]; rfl
end
theorem kIf_t {Q : Prop} : kIf true Q = Q := by simp [kIf]
theorem wr_runX {T : Tb} {L k f : Nat} {ds : List D} {fd : Fd} {Q : D → Option D → Prop} {X : Nat → Prop} (h : T.fd f = some fd) (hl : ds.length = fd.np) (q : xB ⟨T.fd, run T L k, T.gl, L, if fd.io then [0] else [], T.kt, T.sub⟩ fd.body (entry fd ds) (fin fd.io Q X)) : wr (run T L (k + 1) f ds) Q X := by
  rw [wr_run h hl]; exact q
end PV

/-! PVw: reading loops and comprehensions by a word of the turn. -/
namespace PV
open PySem L2
section
variable {W : Wd} {ρ : Env} {a b c d e : E} {k : ItK} {X : KX}
def xI (W : Wd) (k : ItK) (a b : E) (ρ : Env) (Q : List D → Env → Prop) (X : KX) : Prop := wp (evi W k a b ρ (ev W a) (ev W b)) (fun p => Q p.1 p.2) X
def kIt (ρ : Env) (Q : List D → Env → Prop) : List D → Prop := fun xs => Q xs ρ
def kItems (Q : List D → Env → Prop) : D → Env → Prop := fun d ρ => oS (itemsOf d) (kIt ρ Q)
def kRng1 (Q : List D → Env → Prop) : D → Env → Prop
  | .int j, ρ => kIf (rngOk j) (Q (rngI 0 j.toNat) ρ)
  | _, _ => False
def kRng22 (x : D) (Q : List D → Env → Prop) : D → Env → Prop
  | .int j, ρ => (match x with
    | .int i => kIf (rngOk i && rngOk j) (Q (rngI i (j - i).toNat) ρ)
    | _ => False)
  | _, _ => False
def kRng2 (W : Wd) (b : E) (Q : List D → Env → Prop) (X : KX) : D → Env → Prop := fun x ρ => xE W b ρ (kRng22 x Q) X
def kEnum (Q : List D → Env → Prop) : D → Env → Prop
  | .lst _ xs, ρ => Q (enumI 0 xs) ρ
  | _, _ => False
def kZip2 (x : D) (Q : List D → Env → Prop) : D → Env → Prop
  | .lst _ ys, ρ => (match x with
    | .lst _ xs => Q ((xs.zip ys).map fun z => .tup [z.1, z.2]) ρ
    | _ => False)
  | _, _ => False
def kZip (W : Wd) (b : E) (Q : List D → Env → Prop) (X : KX) : D → Env → Prop := fun x ρ => xF W b ρ (kZip2 x Q) X
variable {Q : List D → Env → Prop}
theorem xI_e : xI W .e a b ρ Q X = xF W a ρ (kItems Q) X := by simp only [xI, xF, evi, wp_bind, wp_ofO, wp_ok]; rfl
theorem xI_rng1 : xI W .rng1 a b ρ Q X = xE W a ρ (kRng1 Q) X := by
  simp only [xI, xE, evi, wp_bind]
  congr 1; funext p
  obtain ⟨x, ρ⟩ := p
  cases x <;> first | rfl | simp only [kRng1, kIf, wp_if, wp_ok]
theorem xI_rng2 : xI W .rng2 a b ρ Q X = xE W a ρ (kRng2 W b Q X) X := by
  simp only [xI, xE, kRng2, evi, wp_bind]
  congr 1; funext p; congr 1; funext q
  obtain ⟨x, ρ⟩ := p
  obtain ⟨y, ρ'⟩ := q
  cases x <;> cases y <;> first | rfl | simp only [kRng22, kIf, wp_if, wp_ok]
theorem xI_enum : xI W .enum a b ρ Q X = xF W a ρ (kEnum Q) X := by
  simp only [xI, xF, evi, wp_bind]
  congr 1; funext p
  obtain ⟨x, ρ⟩ := p
  cases x <;> rfl
theorem xI_zip : xI W .zip a b ρ Q X = xF W a ρ (kZip W b Q X) X := by
  simp only [xI, xF, kZip, evi, wp_bind]
  congr 1; funext p; congr 1; funext q
  obtain ⟨x, ρ⟩ := p
  obtain ⟨y, ρ'⟩ := q
  cases x <;> cases y <;> rfl
theorem xI_hold {i : Nat} {xs : List D} (h : slot ρ i = some (.lst true xs)) (n : noOwnL xs = true) : xI W .hold (.var i) b ρ Q X = Q xs (put ρ i none) := by
  simp only [xI, evi, h, n, if_true, wp_ok]
end
/-! ### for -/
section
variable {W : Wd} {ρ : Env} {a b c d e : E} {k : ItK} {t : Tg} {body : Ss} {Q : Fl → Prop}
/-- behind a turn -/
def kTurn (I : Env → Prop) (Q : Fl → Prop) : Fl → Prop
  | .nx ρ => I ρ
  | .ct ρ => I ρ
  | .bk ρ => Q (.nx ρ)
  | .bad => False
  | x => Q x
theorem kTurn_nx {I : Env → Prop} : kTurn I Q (.nx ρ) = I ρ := rfl
theorem kTurn_ct {I : Env → Prop} : kTurn I Q (.ct ρ) = I ρ := rfl
theorem kTurn_bk {I : Env → Prop} : kTurn I Q (.bk ρ) = Q (.nx ρ) := rfl
theorem kTurn_rt {I : Env → Prop} {x : D} : kTurn I Q (.rt x ρ) = Q (.rt x ρ) := rfl
theorem kTurn_ex {I : Env → Prop} {x : Nat} : kTurn I Q (.ex x ρ) = Q (.ex x ρ) := rfl
def kFor (W : Wd) (t : Tg) (k : ItK) (a : E) (body : Ss) (ρ0 : Env) (Q : Fl → Prop) : List D → Env → Prop := fun ds ρ => wf (unhold k a ρ0 (forLoop t (sts (W.hold k a) body) ds ρ)) Q
theorem xS_for (h : fits (W.hold k a).pin t.slots = true) : xS W (.for t k a b body) ρ Q = xI W k a b ρ (kFor W t k a body ρ Q) (kXf Q) := by
  show wf (PV.st W (.for t k a b body) ρ) Q = _
  rw [PV.st, h, if_pos rfl, wf_of]
  rfl
theorem forLoop_inv {bd : Env → Fl} {ds : List D} (I : Nat → Env → Prop) (h0 : I 0 ρ)
    (step : ∀ (i : Nat) (x : D) (ρ : Env), ds[i]? = some x → I i ρ → oS (bindT t x ρ) fun ρ1 => wf (bd ρ1) (kTurn (I (i + 1)) Q)) (done : ∀ ρ, I ds.length ρ → Q (.nx ρ)) : wf (forLoop t bd ds ρ) Q := by
  induction ds generalizing ρ I with
  | nil => exact done ρ h0
  | cons x ds ih =>
    have k := step 0 x ρ rfl h0
    unfold forLoop
    cases e : bindT t x ρ with
    | none => rw [e] at k; exact k.elim
    | some ρ1 =>
      rw [e] at k
      have k : wf (bd ρ1) (kTurn (I 1) Q) := k
      simp only
      have rest : ∀ ρ, I 1 ρ → wf (forLoop t bd ds ρ) Q := fun ρ h => ih (fun i => I (i + 1)) h (fun i x ρ hx hi => step (i + 1) x ρ (by simpa using hx) hi) (fun ρ h => done ρ h)
      cases e2 : bd ρ1 with
      | nx ρ2 => rw [e2] at k; exact rest ρ2 k
      | ct ρ2 => rw [e2] at k; exact rest ρ2 k
      | bk ρ2 => rw [e2] at k; exact k
      | rt _ _ => rw [e2] at k; exact k
      | ex _ _ => rw [e2] at k; exact k
      | bad => rw [e2] at k; exact k
theorem unhold_noop (hk : k ≠ .hold) {x : Fl} (h : wf x fun y => (match y with | .bk _ => False | .ct _ => False | y => Q y)) : wf (unhold k a ρ x) Q := by
  have u : ∀ ρ', unh k a ρ ρ' = ρ' := fun ρ' => by cases k <;> first | rfl | exact absurd rfl hk
  cases x <;> first
    | exact h
    | exact h.elim
    | (simp only [unhold, u]; exact h)
/-- a for that holds no list -/
theorem kFor_inv {ds : List D} {ρ0 : Env} (I : Nat → Env → Prop) (hk : k ≠ .hold) (h0 : I 0 ρ)
    (step : ∀ (i : Nat) (x : D) (ρ : Env), ds[i]? = some x → I i ρ → oS (bindT t x ρ) fun ρ1 => xB W body ρ1 (kTurn (I (i + 1)) Q)) (done : ∀ ρ, I ds.length ρ → Q (.nx ρ)) : kFor W t k a body ρ0 Q ds ρ := by
  have hW : W.hold k a = W := by
    unfold Wd.hold
    cases k <;> first | rfl | exact absurd rfl hk
  unfold kFor
  rw [hW]
  refine unhold_noop hk (forLoop_inv I h0 (fun i x ρ hx hi => ?_) fun ρ h => done ρ h)
  have q := step i x ρ hx hi
  cases e : bindT t x ρ with
  | none => rw [e] at q; exact q.elim
  | some ρ1 =>
    rw [e] at q
    refine wf_mono q fun y hy => ?_
    cases y <;> exact hy
/-- a for over a held list -/
theorem kFor_held {ds : List D} {ρ0 : Env} {i0 : Nat} {h0d : Option D} (I : Nat → Env → Prop) (hs : slot ρ0 i0 = h0d) (h0 : I 0 ρ)
    (step : ∀ (i : Nat) (x : D) (ρ : Env), ds[i]? = some x → I i ρ → oS (bindT t x ρ) fun ρ1 => xB (W.hold .hold (.var i0)) body ρ1 (kTurn (I (i + 1)) fun y => match y with | .nx ρ => Q (.nx (put ρ i0 h0d)) | .rt d ρ => Q (.rt d (put ρ i0 h0d)) | .ex c ρ => Q (.ex c (put ρ i0 h0d)) | _ => False))
    (done : ∀ ρ, I ds.length ρ → Q (.nx (put ρ i0 h0d))) : kFor W t .hold (.var i0) body ρ0 Q ds ρ := by
  unfold kFor
  have q := forLoop_inv (bd := sts (W.hold .hold (.var i0)) body) (Q := fun y => match y with | .nx ρ => Q (.nx (put ρ i0 h0d)) | .rt d ρ => Q (.rt d (put ρ i0 h0d)) | .ex c ρ => Q (.ex c (put ρ i0 h0d)) | _ => False) I h0 step done
  subst hs
  cases e : forLoop t (sts (W.hold .hold (.var i0)) body) ds ρ <;> rw [e] at q <;> exact q
/-! ### while -/
theorem xS_wh (I : Env → Prop) (μ : Env → Nat) (h0 : I ρ) (hμ : μ ρ < W.L) (step : ∀ ρ, I ρ → xT W c ρ (fun t ρ' => match t with | true => xB W body ρ' (kTurn (fun ρ2 => I ρ2 ∧ μ ρ2 < μ ρ) Q) | false => Q (.nx ρ')) (kXf Q)) : xS W (.wh c body) ρ Q := by
  show wf (PV.st W (.wh c body) ρ) Q
  rw [PV.st]
  generalize W.L = n at hμ
  induction n generalizing ρ with
  | zero => omega
  | succ n ih =>
    have q := step ρ h0
    unfold whLoop
    rw [wf_of]
    refine wp_mono q (fun p k => ?_) fun _ _ k => k
    obtain ⟨t, ρ'⟩ := p
    cases t with
    | false => exact k
    | true =>
      have k : wf (sts W body ρ') _ := k
      show wf (match sts W body ρ' with | .nx ρ => _ | .ct ρ => _ | .bk ρ => _ | x => x) Q
      cases e : sts W body ρ' with
      | nx ρ2 => rw [e] at k; exact ih k.1 (Nat.lt_of_lt_of_le k.2 (Nat.le_of_lt_succ hμ))
      | ct ρ2 => rw [e] at k; exact ih k.1 (Nat.lt_of_lt_of_le k.2 (Nat.le_of_lt_succ hμ))
      | bk ρ2 => rw [e] at k; exact k
      | rt _ _ => rw [e] at k; exact k
      | ex _ _ => rw [e] at k; exact k
      | bad => rw [e] at k; exact k
end
/-! ### comprehensions -/
section
variable {W : Wd} {ρ : Env} {a b c e : E} {k : ItK} {t : Tg} {own : List Nat} {Q : D → Env → Prop} {X : KX}
def kLc (W : Wd) (t : Tg) (k : ItK) (a c e : E) (own : List Nat) (ρ0 : Env) (Q : D → Env → Prop) (X : KX) : List D → Env → Prop := fun ds ρ => ownOk own ρ = true ∧ wp (lcLoop t (tstE (isNo c) (ev W c)) (toV e (ev W e)) own ds (wipeE ρ own) []) (fun q => Q (.lst true q.1) (unh k a ρ0 (backS own ρ q.2))) X
theorem xE_lc : xE W (.lc t k a b c e own) ρ Q X = xI W k a b ρ (kLc W t k a c e own ρ Q X) X := by
  show wp (ev W (.lc t k a b c e own) ρ) _ X = _
  rw [ev, wp_bind]
  unfold xI
  congr 1; funext p
  rw [wp_if, wp_bind]
  rfl
/-- one turn's test -/
def xTst (W : Wd) (c : E) (ρ : Env) (Q : Bool → Env → Prop) : Prop := match isNo c with
  | true => Q true ρ
  | false => xT W c ρ Q (fun _ _ => False)
theorem xTst_no {Q : Bool → Env → Prop} : xTst W .no ρ Q = Q true ρ := rfl
theorem xTst_e {Q : Bool → Env → Prop} (h : isNo c = false) : xTst W c ρ Q = xT W c ρ Q (fun _ _ => False) := by unfold xTst; rw [h]
def kLcT (W : Wd) (e : E) (own : List Nat) (acc : List D) (I : List D → Env → Prop) : Bool → Env → Prop
  | false, ρ => kIf (ownOk own ρ) (I acc (wipeE ρ own))
  | true, ρ => xV W e ρ (fun y ρ => kIf (szOk (acc.length + 1) && ownOk own ρ) (I (acc ++ [y]) (wipeE ρ own))) (fun _ _ => False)
theorem kLc_inv {ds : List D} {ρ0 : Env} (I : Nat → List D → Env → Prop) (hown : ownOk own ρ = true) (h0 : I 0 [] (wipeE ρ own))
    (step : ∀ (i : Nat) (x : D) (acc : List D) (ρ : Env), ds[i]? = some x → I i acc ρ → oS (bindT t x ρ) fun ρ1 => xTst W c ρ1 (kLcT W e own acc (I (i + 1))))
    (done : ∀ acc ρ1, I ds.length acc ρ1 → Q (.lst true acc) (unh k a ρ0 (backS own ρ ρ1))) : kLc W t k a c e own ρ0 Q X ds ρ := by
  refine ⟨hown, ?_⟩
  have gen : ∀ (ds : List D) (ρ1 : Env) (acc : List D) (I : Nat → List D → Env → Prop), I 0 acc ρ1 → (∀ (i : Nat) (x : D) (acc : List D) (ρ : Env), ds[i]? = some x → I i acc ρ → oS (bindT t x ρ) fun ρ1 => xTst W c ρ1 (kLcT W e own acc (I (i + 1)))) →
      (∀ acc ρ1, I ds.length acc ρ1 → Q (.lst true acc) (unh k a ρ0 (backS own ρ ρ1))) → wp (lcLoop t (tstE (isNo c) (ev W c)) (toV e (ev W e)) own ds ρ1 acc) (fun q => Q (.lst true q.1) (unh k a ρ0 (backS own ρ q.2))) X := by
    intro ds
    induction ds with
    | nil => intro ρ1 acc I h0 step done; exact done acc ρ1 h0
    | cons x ds ih =>
      intro ρ1 acc I h0 step done
      have q := step 0 x acc ρ1 rfl h0
      unfold lcLoop
      rw [wp_bind, wp_ofO]
      cases hb : bindT t x ρ1 with
      | none => rw [hb] at q; exact q.elim
      | some ρ2 =>
        rw [hb] at q
        have q : xTst W c ρ2 (kLcT W e own acc (I 1)) := q
        show wp ((noEx (tstE (isNo c) (ev W c) ρ2)).bind _) _ X
        have rest : ∀ acc ρ, I 1 acc ρ → wp (lcLoop t (tstE (isNo c) (ev W c)) (toV e (ev W e)) own ds ρ acc) (fun q => Q (.lst true q.1) (unh k a ρ0 (backS own _ q.2))) X := fun acc ρ h =>
          ih ρ acc (fun i => I (i + 1)) h (fun i x acc ρ hx hi => step (i + 1) x acc ρ (by simpa using hx) hi) fun acc ρ1 h => done acc ρ1 h
        have fin : ∀ b ρ3, kLcT W e own acc (I 1) b ρ3 → wp (match b with
            | false => if ownOk own ρ3 then lcLoop t (tstE (isNo c) (ev W c)) (toV e (ev W e)) own ds (wipeE ρ3 own) acc else .bad
            | true => (noEx (toV e (ev W e) ρ3)).bind fun q => if szOk (acc.length + 1) && ownOk own q.2 then lcLoop t (tstE (isNo c) (ev W c)) (toV e (ev W e)) own ds (wipeE q.2 own) (acc ++ [q.1]) else .bad)
            (fun q => Q (.lst true q.1) (unh k a ρ0 (backS own ρ q.2))) X := by
          intro b ρ3 h
          cases b with
          | false =>
            obtain ⟨h1, h2⟩ := h
            simp only [h1, if_true]
            exact rest _ _ h2
          | true =>
            have h : wp (toV e (ev W e) ρ3) _ _ := h
            simp only
            cases e2 : toV e (ev W e) ρ3 with
            | ok p =>
              rw [e2] at h
              obtain ⟨h1, h2⟩ := h
              show wp (if (szOk (acc.length + 1) && ownOk own p.2) = true then _ else .bad) _ X
              rw [if_pos h1]
              exact rest _ _ h2
            | ex _ _ => rw [e2] at h; exact h.elim
            | bad => rw [e2] at h; exact h.elim
        cases hn : isNo c with
        | true =>
          unfold xTst at q
          rw [hn] at q
          have := fin true ρ2 q
          rw [hn] at this
          exact this
        | false =>
          unfold xTst at q
          rw [hn] at q
          have q : wp ((ev W c ρ2).bind asBl) _ _ := q
          show wp ((noEx ((ev W c ρ2).bind asBl)).bind _) _ X
          cases e3 : (ev W c ρ2).bind asBl with
          | ok p =>
            rw [e3] at q
            have := fin p.1 p.2 q
            rw [hn] at this
            exact this
          | ex _ _ => rw [e3] at q; exact q.elim
          | bad => rw [e3] at q; exact q.elim
  exact gen ds _ [] I h0 step done
end
end PV

/-! PVx: the words of the way, applied (printed by mkap.py). -/
namespace PV
open PySem L2
theorem kRet_ap (ρ : Env) (Q : D → Env → Prop) (d : D) : kRet ρ Q d = (Q d ρ) := rfl
theorem kB3_ap (o : B2) (y : D) (ρ : Env) (Q : D → Env → Prop) (d : D) : kB3 o y ρ Q d = (oS (b2 o d y) (kRet ρ Q)) := rfl
theorem kB2_ap (o : B2) (a b : E) (x : D) (Q : D → Env → Prop) (y : D) (ρ : Env) : kB2 o a b x Q y ρ = (oS (redo a b x ρ) (kB3 o y ρ Q)) := rfl
theorem kB1_ap (W : Wd) (o : B2) (a b : E) (Q : D → Env → Prop) (X : KX) (x : D) (ρ : Env) : kB1 W o a b Q X x ρ = (xE W b ρ (kB2 o a b x Q) X) := rfl
theorem kC4_ap (ρ : Env) (Q : D → Env → Prop) (r : Bool) : kC4 ρ Q r = (Q (.bl r) ρ) := rfl
theorem kC3_ap (W : Wd) (o : C2) (y : D) (ρ : Env) (Q : D → Env → Prop) (d : D) : kC3 W o y ρ Q d = (oS (c2 W.kt o d y) (kC4 ρ Q)) := rfl
theorem kC2_ap (W : Wd) (o : C2) (a b : E) (x : D) (Q : D → Env → Prop) (y : D) (ρ : Env) : kC2 W o a b x Q y ρ = (oS (redo a b x ρ) (kC3 W o y ρ Q)) := rfl
theorem kC1_ap (W : Wd) (o : C2) (a b : E) (Q : D → Env → Prop) (X : KX) (x : D) (ρ : Env) : kC1 W o a b Q X x ρ = (xE W b ρ (kC2 W o a b x Q) X) := rfl
theorem kIsn_ap (n : Bool) (Q : D → Env → Prop) (x : D) (ρ : Env) : kIsn n Q x ρ = (Q (.bl (n != isNonD x)) ρ) := rfl
theorem kNot_ap (Q : D → Env → Prop) (b : Bool) (ρ : Env) : kNot Q b ρ = (Q (.bl (!b)) ρ) := rfl
theorem kBl_ap (Q : D → Env → Prop) (b : Bool) (ρ : Env) : kBl Q b ρ = (Q (.bl b) ρ) := rfl
theorem kNo_ap (Q : D → Env → Prop) (d : D) (ρ : Env) : kNo Q d ρ = (kIf (noOwn d) (Q d ρ)) := rfl
theorem kTup_ap (Q : D → Env → Prop) (ds : List D) (ρ : Env) : kTup Q ds ρ = (kIf (szOk ds.length) (Q (.tup ds) ρ)) := rfl
theorem kLst_ap (Q : D → Env → Prop) (ds : List D) (ρ : Env) : kLst Q ds ρ = (kIf (szOk ds.length) (Q (.lst true ds) ρ)) := rfl
theorem kX4_ap (a b : E) (ρ : Env) (Q : D → Env → Prop) (r : D) : kX4 a b ρ Q r = (kIf ((pure a && pure b) || noOwn r) (Q r ρ)) := rfl
theorem kX3_ap (W : Wd) (a b : E) (y : D) (ρ : Env) (Q : D → Env → Prop) (d : D) : kX3 W a b y ρ Q d = (oS (ixS W.kt d y) (kX4 a b ρ Q)) := rfl
theorem kX2_ap (W : Wd) (a b : E) (x : D) (Q : D → Env → Prop) (y : D) (ρ : Env) : kX2 W a b x Q y ρ = (oS (redo a b x ρ) (kX3 W a b y ρ Q)) := rfl
theorem kX1_ap (W : Wd) (a b : E) (Q : D → Env → Prop) (X : KX) (x : D) (ρ : Env) : kX1 W a b Q X x ρ = (xE W b ρ (kX2 W a b x Q) X) := rfl
theorem kSl3_ap (x : D) (l : Option Int) (Q : D → Env → Prop) (h : Option Int) (ρ : Env) : kSl3 x l Q h ρ = (oS (slS x l h) (kRet ρ Q)) := rfl
theorem kSl2_ap (W : Wd) (hi : E) (x : D) (Q : D → Env → Prop) (X : KX) (l : Option Int) (ρ : Env) : kSl2 W hi x Q X l ρ = (xO W hi ρ (kSl3 x l Q) X) := rfl
theorem kSl1_ap (W : Wd) (lo hi : E) (Q : D → Env → Prop) (X : KX) (x : D) (ρ : Env) : kSl1 W lo hi Q X x ρ = (kIf ((PV.pure lo && PV.pure hi) || noOwn x) (xO W lo ρ (kSl2 W hi x Q X) X)) := rfl
theorem kF1_ap (f : F1) (Q : D → Env → Prop) (d : D) (ρ : Env) : kF1 f Q d ρ = (oS (f1S f d) (kRet ρ Q)) := rfl
theorem kF22_ap (f : F2) (x : D) (Q : D → Env → Prop) (y : D) (ρ : Env) : kF22 f x Q y ρ = (oS (f2S f x y) (kRet ρ Q)) := rfl
theorem kF21_ap (W : Wd) (f : F2) (b : E) (Q : D → Env → Prop) (X : KX) (x : D) (ρ : Env) : kF21 W f b Q X x ρ = (xE W b ρ (kF22 f x Q) X) := rfl
theorem kIsin_ap (ts : List Ty) (Q : D → Env → Prop) (x : D) (ρ : Env) : kIsin ts Q x ρ = (oS (isTys x ts) (kC4 ρ Q)) := rfl
theorem kM2_ap (m : M1) (a b : E) (x : D) (Q : D → Env → Prop) (y : D) (ρ : Env) : kM2 m a b x Q y ρ = (kIf (pure b || !pure a || noOwn x) (oS (m1S m x y) (kRet ρ Q))) := rfl
theorem kM1_ap (W : Wd) (m : M1) (a b : E) (Q : D → Env → Prop) (X : KX) (x : D) (ρ : Env) : kM1 W m a b Q X x ρ = (kIf (recvOk m x) (xE W b ρ (kM2 m a b x Q) X)) := rfl
theorem kCons2_ap (d : D) (Q : List D → Env → Prop) (ds : List D) (ρ : Env) : kCons2 d Q ds ρ = (Q (d :: ds) ρ) := rfl
theorem kL1_ap (W : Wd) (es : Es) (Q : List D → Env → Prop) (X : KX) (d : D) (ρ : Env) : kL1 W es Q X d ρ = (xL W es ρ (kCons2 d Q) X) := rfl
theorem kA1_ap (W : Wd) (es : Es) (Q : List D → Env → Prop) (X : KX) (d : D) (ρ : Env) : kA1 W es Q X d ρ = (xA W es ρ (kCons2 d Q) X) := rfl
theorem kP2_ap (d : D) (Q : List D → Prop) (ds : List D) : kP2 d Q ds = (Q (d :: ds)) := rfl
theorem kP1_ap (W : Wd) (es : Es) (ρ : Env) (Q : List D → Prop) (X : KX) (d : D) (u1 : Env) : kP1 W es ρ Q X d u1 = (xP W es ρ (kP2 d Q) X) := rfl
theorem kR_ap (ρ : Env) (Q : D → Env → Prop) (r : D) (u1 : Option D) : kR ρ Q r u1 = (Q r ρ) := rfl
theorem kRX_ap (ρ : Env) (X : KX) (c : Nat) : kRX ρ X c = (X c ρ) := rfl
theorem kCallp_ap (W : Wd) (f : Nat) (ρ : Env) (Q : D → Env → Prop) (X : KX) (ds : List D) : kCallp W f ρ Q X ds = (kIf (noOwnL ds) (wr (W.call f ds) (kR ρ Q) (kRX ρ X))) := rfl
theorem kRs_ap (ρ : Env) (Q : D → Env → Prop) (r : D) (u1 : Option D) : kRs ρ Q r u1 = (kIf (isScal r) (Q r ρ)) := rfl
theorem kCallz_ap (W : Wd) (f : Nat) (ρ : Env) (Q : D → Env → Prop) (X : KX) (ds : List D) : kCallz W f ρ Q X ds = (kIf (canFzL ds) (wr (W.call f (fzL ds)) (kRs ρ Q) (kRX ρ X))) := rfl
theorem kCalla_ap (W : Wd) (f : Nat) (Q : D → Env → Prop) (X : KX) (ds : List D) (ρ : Env) : kCalla W f Q X ds ρ = (wr (W.call f ds) (kR ρ Q) (kRX ρ X)) := rfl
theorem kPut_ap (ρ : Env) (i : Nat) (r : D) (Q : D → Env → Prop) (o : D) : kPut ρ i r Q o = (Q r (put ρ i (some o))) := rfl
theorem kRi_ap (ρ : Env) (i : Nat) (Q : D → Env → Prop) (r : D) (o : Option D) : kRi ρ i Q r o = (oS o (kPut ρ i r Q)) := rfl
theorem kRXi_ap (ρ : Env) (i : Nat) (X : KX) (c : Nat) : kRXi ρ i X c = (X c (put ρ i none)) := rfl
theorem kCi3_ap (W : Wd) (f i : Nat) (ds : List D) (ρ : Env) (Q : D → Env → Prop) (X : KX) (d : D) : kCi3 W f i ds ρ Q X d = (wr (W.call f (d :: ds)) (kRi ρ i Q) (kRXi ρ i X)) := rfl
theorem kCi2_ap (W : Wd) (f i : Nat) (Q : D → Env → Prop) (X : KX) (ds : List D) (ρ : Env) : kCi2 W f i Q X ds ρ = (oS (slot ρ i) (kCi3 W f i ds ρ Q X)) := rfl
theorem kCi1_ap (W : Wd) (f i : Nat) (es : Es) (ρ : Env) (Q : D → Env → Prop) (X : KX) (u0 : D) : kCi1 W f i es ρ Q X u0 = (xA W es ρ (kCi2 W f i Q X) X) := rfl
theorem kDrop_ap (ρ : Env) (r : D) (Q : D → Env → Prop) (u0 : D) : kDrop ρ r Q u0 = (Q r ρ) := rfl
theorem kRt_ap (ρ : Env) (Q : D → Env → Prop) (r : D) (o : Option D) : kRt ρ Q r o = (oS o (kDrop ρ r Q)) := rfl
theorem kCt2_ap (W : Wd) (f : Nat) (d : D) (Q : D → Env → Prop) (X : KX) (ds : List D) (ρ : Env) : kCt2 W f d Q X ds ρ = (wr (W.call f (d :: ds)) (kRt ρ Q) (kRX ρ X)) := rfl
theorem kCt1_ap (W : Wd) (f : Nat) (es : Es) (Q : D → Env → Prop) (X : KX) (d : D) (ρ : Env) : kCt1 W f es Q X d ρ = (xA W es ρ (kCt2 W f d Q X) X) := rfl
theorem kAsg_ap (W : Wd) (i : Nat) (Q : Fl → Prop) (d : D) (ρ : Env) : kAsg W i Q d ρ = (kIf (decide (i < ρ.length) && fits W.pin [i]) (Q (.nx (put ρ i (some d))))) := rfl
theorem kAsgT_ap (W : Wd) (is : List Nat) (Q : Fl → Prop) (d : D) (ρ : Env) : kAsgT W is Q d ρ = (kIf (fits W.pin is) (oS (bindT (.tup is) d ρ) fun ρ => Q (.nx ρ))) := rfl
theorem kDp2_ap (i : Nat) (d : D) (Q : Fl → Prop) (q : D) (ρ : Env) : kDp2 i d Q q ρ = (oS (putS q d (slot ρ i)) (kDp3 i Q · ρ)) := rfl
theorem kDp3_ap (i : Nat) (Q : Fl → Prop) (d : D) (ρ : Env) : kDp3 i Q d ρ = Q (.nx (put ρ i (some d))) := rfl
theorem kDp1_ap (W : Wd) (i : Nat) (k : E) (Q : Fl → Prop) (d : D) (ρ : Env) : kDp1 W i k Q d ρ = (kIf (isOwnD (slot ρ i)) (xE W k ρ (kDp2 i d Q) (kXf Q))) := rfl
theorem kSet1_ap (W : Wd) (i : Nat) (k : E) (Q : Fl → Prop) (d : D) (ρ : Env) : kSet1 W i k Q d ρ = (kIf (isOwnL (slot ρ i)) (xE W k ρ (kSet2 i d Q) (kXf Q))) := rfl
theorem kExpr_ap (Q : Fl → Prop) (u0 : D) (ρ : Env) : kExpr Q u0 ρ = (Q (.nx ρ)) := rfl
theorem kRtn_ap (Q : Fl → Prop) (d : D) (ρ : Env) : kRtn Q d ρ = (Q (.rt d ρ)) := rfl
theorem kIt_ap (ρ : Env) (Q : List D → Env → Prop) (xs : List D) : kIt ρ Q xs = (Q xs ρ) := rfl
theorem kItems_ap (Q : List D → Env → Prop) (d : D) (ρ : Env) : kItems Q d ρ = (oS (itemsOf d) (kIt ρ Q)) := rfl
theorem kRng2_ap (W : Wd) (b : E) (Q : List D → Env → Prop) (X : KX) (x : D) (ρ : Env) : kRng2 W b Q X x ρ = (xE W b ρ (kRng22 x Q) X) := rfl
theorem kZip_ap (W : Wd) (b : E) (Q : List D → Env → Prop) (X : KX) (x : D) (ρ : Env) : kZip W b Q X x ρ = (xF W b ρ (kZip2 x Q) X) := rfl
theorem kMm_ap (m : MM) (i : Nat) (Q : D → Env → Prop) (ds : List D) (ρ : Env) (xs : List D) (r : D) (ys : List D) (h : slot ρ i = some (.lst true xs)) (h2 : mmS m xs ds = some (r, ys)) (q : Q r (put ρ i (some (.lst true ys)))) : kMm m i Q ds ρ := by
  unfold kMm; rw [h]; simp only; rw [h2]; exact q
theorem kFz_ap (Q : D → Env → Prop) (d : D) (ρ : Env) : kFz Q d ρ = kIf (canFz d) (Q (fz d) ρ) := rfl
theorem kIf_of {c : Bool} {Q : Prop} (h : c = true) : kIf c Q = Q := by rw [h]; simp [kIf]
end PV

/-! PVy: small facts of values for the reading; the rules that hang on a look at the text, without premises. -/
namespace PV
open PySem L2
section
variable {W : Wd} {ρ : Env} {a b c d e lo hi k : E} {es : Es} {Q : D → Env → Prop} {X : KX}
/-- a kept value, by the text -/
def xVb (mv pu : Bool) (W : Wd) (e : E) (ρ : Env) (Q : D → Env → Prop) (X : KX) : Prop := match mv, pu with
  | true, _ => xV W e ρ Q X
  | false, true => xE W e ρ (kKeep W e ρ Q X) X
  | false, false => xE W e ρ Q X
theorem xVb_t : xVb false true W e ρ Q X = xE W e ρ (kKeep W e ρ Q X) X := rfl
theorem xVb_f : xVb false false W e ρ Q X = xE W e ρ Q X := rfl
def kMv (ρ : Env) (i : Nat) (Q : D → Env → Prop) : D → Prop := fun d => Q d (put ρ i none)
theorem kMv_ap {d : D} {i : Nat} : kMv ρ i Q d = Q d (put ρ i none) := rfl
theorem xVb_m {i : Nat} {pu : Bool} : xVb true pu W (.mv i) ρ Q X = oS (slot ρ i) (kMv ρ i Q) := xV_mv
theorem xV_all : xV W e ρ Q X = xVb (isMv e) (PV.pure e) W e ρ Q X := by
  cases h : isMv e with
  | true => rfl
  | false => cases hp : PV.pure e with
    | true => exact xV_p h hp
    | false => exact xV_np h hp
def kFr1 (W : Wd) (e : E) (ρ0 : Env) (i : Nat) (Q : D → Env → Prop) (X : KX) : D → Prop := fun d => kIf (canFz d) (xE W e (put ρ0 i (some (fz d))) (kNo Q) X)
theorem kFr1_ap {ρ0 : Env} {i : Nat} {d : D} : kFr1 W e ρ0 i Q X d = kIf (canFz d) (xE W e (put ρ0 i (some (fz d))) (kNo Q) X) := rfl
def kFr0 (W : Wd) (e : E) (ρ0 : Env) (Q : D → Env → Prop) (X : KX) : Option Nat → Prop
  | some i => oS (slot ρ0 i) (kFr1 W e ρ0 i Q X)
  | none => False
theorem kFr0_s {ρ0 : Env} {i : Nat} : kFr0 W e ρ0 Q X (some i) = oS (slot ρ0 i) (kFr1 W e ρ0 i Q X) := rfl
def kKb (no : Bool) (W : Wd) (e : E) (ρ0 : Env) (Q : D → Env → Prop) (X : KX) (d : D) (ρ : Env) : Prop := match no with
  | true => Q d ρ
  | false => kFr0 W e ρ0 Q X (root e)
theorem kKb_t {ρ0 : Env} {d : D} : kKb true W e ρ0 Q X d ρ = Q d ρ := rfl
theorem kKb_f {ρ0 : Env} {d : D} : kKb false W e ρ0 Q X d ρ = kFr0 W e ρ0 Q X (root e) := rfl
def kFr (W : Wd) (e : E) (Q : D → Env → Prop) (X : KX) : Env → Prop := fun ρ' => xE W e ρ' (kNo Q) X
theorem kFr_ap {ρ' : Env} : kFr W e Q X ρ' = xE W e ρ' (kNo Q) X := rfl
theorem kKeep_all {ρ0 : Env} {d : D} : kKeep W e ρ0 Q X d ρ = kKb (noOwn d) W e ρ0 Q X d ρ := by
  cases h : noOwn d with
  | true => exact kKeep_no h
  | false =>
    unfold kKeep kKb
    rw [if_neg (by rw [h]; simp)]
    cases hr : root e with
    | none => rfl
    | some i =>
      show oS (frSlot ρ0 i) _ = oS (slot ρ0 i) _
      unfold frSlot
      cases hs : slot ρ0 i with
      | none => rfl
      | some x =>
        simp only [oS_some, kFr1_ap]
        cases hc : canFz x <;> simp [oS, kIf]
theorem xE_slA : xE W (.sl a lo hi) ρ Q X = xE W a ρ (kSl1 W lo hi Q X) X := xE_sl
def xOb (no : Bool) (W : Wd) (e : E) (ρ : Env) (Q : Option Int → Env → Prop) (X : KX) : Prop := match no with
  | true => xO W e ρ Q X
  | false => xE W e ρ (kO Q) X
theorem xOb_f {Q : Option Int → Env → Prop} : xOb false W e ρ Q X = xE W e ρ (kO Q) X := rfl
theorem xOb_t {Q : Option Int → Env → Prop} : xOb true W .no ρ Q X = Q none ρ := rfl
theorem xO_all {Q : Option Int → Env → Prop} : xO W e ρ Q X = xOb (isNo e) W e ρ Q X := by
  cases h : isNo e with
  | true => rfl
  | false => exact xO_e h
def xTb (no : Bool) (W : Wd) (c : E) (ρ : Env) (Q : Bool → Env → Prop) : Prop := match no with
  | true => Q true ρ
  | false => xT W c ρ Q (fun _ _ => False)
theorem xTb_t {Q : Bool → Env → Prop} : xTb true W c ρ Q = Q true ρ := rfl
theorem xTb_f {Q : Bool → Env → Prop} : xTb false W c ρ Q = xT W c ρ Q (fun _ _ => False) := rfl
theorem xTst_all {Q : Bool → Env → Prop} : xTst W c ρ Q = xTb (isNo c) W c ρ Q := by
  unfold xTst xTb
  cases isNo c <;> rfl
theorem xE_mmA {m : MM} {i : Nat} : xE W (.mm m i [] es) ρ Q X = kIf (isOwnL (slot ρ i)) (xL W es ρ (kMm m i Q) X) := by
  cases h : isOwnL (slot ρ i) with
  | true => rw [xE_mm h]; simp [kIf]
  | false =>
    show wp (ev W (.mm m i [] es) ρ) _ X = _
    rw [ev, h]
    simp [kIf, wp]
end
section
variable {W : Wd} {ρ : Env} {a b e k : E} {it : ItK} {t : Tg} {body : Ss} {Q : Fl → Prop}
theorem xS_forA : xS W (.for t it a b body) ρ Q = kIf (fits (W.hold it a).pin t.slots) (xI W it a b ρ (kFor W t it a body ρ Q) (kXf Q)) := by
  cases h : fits (W.hold it a).pin t.slots with
  | true => rw [xS_for h]; simp [kIf]
  | false =>
    show wf (PV.st W (.for t it a b body) ρ) Q = _
    rw [PV.st, h]
    simp [kIf, wf]
def xSb (pk : Bool) (W : Wd) (i : Nat) (k e : E) (ρ : Env) (Q : Fl → Prop) : Prop := match pk with
  | true => xF W e ρ (kSet1 W i k Q) (kXf Q)
  | false => xS W (.setix i [] k e) ρ Q
theorem xSb_t {i : Nat} : xSb true W i k e ρ Q = xF W e ρ (kSet1 W i k Q) (kXf Q) := rfl
theorem xS_setixA {i : Nat} : xS W (.setix i [] k e) ρ Q = xSb (PV.pure k) W i k e ρ Q := by
  cases h : PV.pure k with
  | true => exact xS_setix h
  | false => rfl
end
section
variable {α : Type} {a b c d e : α} {xs : List α}
theorem atI_0 : atI (a :: xs) 0 = some a := by simp [atI, ixN, show (0 : Int) < (xs.length : Int) + 1 by omega]
theorem atI_1 : atI (a :: b :: xs) 1 = some b := by simp [atI, ixN, show (1 : Int) < (xs.length : Int) + 1 + 1 by omega]
theorem atI_2 : atI (a :: b :: c :: xs) 2 = some c := by simp [atI, ixN, show (2 : Int) < (xs.length : Int) + 1 + 1 + 1 by omega]
theorem atI_3 : atI (a :: b :: c :: d :: xs) 3 = some d := by simp [atI, ixN, show (3 : Int) < (xs.length : Int) + 1 + 1 + 1 + 1 by omega]
theorem atI_4 : atI (a :: b :: c :: d :: e :: xs) 4 = some e := by simp [atI, ixN, show (4 : Int) < (xs.length : Int) + 1 + 1 + 1 + 1 + 1 by omega]
theorem atI_nat {i : Int} (h0 : 0 ≤ i) (h : i < xs.length) : atI xs i = some (xs[i.toNat]'(by omega)) := by
  have : i.toNat < xs.length := by omega
  simp [atI, ixN, h0, h, this]
theorem ixN_0 {n : Nat} : ixN (n + 1) 0 = some 0 := by simp [ixN, show (0 : Int) < (n : Int) + 1 by omega]
theorem ixN_1 {n : Nat} : ixN (n + 1 + 1) 1 = some 1 := by simp [ixN, show (1 : Int) < (n : Int) + 1 + 1 by omega]
theorem ixN_2 {n : Nat} : ixN (n + 1 + 1 + 1) 2 = some 2 := by simp [ixN, show (2 : Int) < (n : Int) + 1 + 1 + 1 by omega]
end
/-! ### calls, by the table of defs -/
section
variable {W : Wd} {ρ : Env} {e : E} {es : Es} {Q : D → Env → Prop} {X : KX} {f : Nat}
/-- a call, told by what the def does with its first argument -/
def xC2 (io pu : Bool) (W : Wd) (f : Nat) (es : Es) (ρ : Env) (Q : D → Env → Prop) (X : KX) : Prop := match io, pu, es with
  | true, _, .cons (.var i) es => oS (slot ρ i) (kCi1 W f i es ρ Q X)
  | true, _, .cons e es => xV W e ρ (kCt1 W f es Q X) X
  | false, false, es => xA W es ρ (kCalla W f Q X) X
  | _, _, _ => xE W (.call f es) ρ Q X
def xC1 (o : Option Fd) (W : Wd) (f : Nat) (es : Es) (ρ : Env) (Q : D → Env → Prop) (X : KX) : Prop := match o with
  | some fd => xC2 fd.io (pureEs es) W f es ρ Q X
  | none => False
theorem xC2_t {pu : Bool} (h : isVar e = false) : xC2 true pu W f (.cons e es) ρ Q X = xV W e ρ (kCt1 W f es Q X) X := by cases e <;> first | (cases h; done) | rfl
theorem xC_ap (h : xC1 (W.fd f) W f es ρ Q X) : xE W (.call f es) ρ Q X := by
  cases hf : W.fd f with
  | none => rw [hf] at h; exact h.elim
  | some fd =>
    rw [hf] at h
    have h : xC2 fd.io (pureEs es) W f es ρ Q X := h
    cases hio : fd.io with
    | false =>
      cases hp : pureEs es with
      | false => rw [hio, hp] at h; exact xE_calla hf hio hp h
      | true => rw [hio, hp] at h; exact h
    | true =>
      rw [hio] at h
      cases es with
      | nil => exact h
      | cons e es =>
        cases hv : isVar e with
        | true =>
          cases e <;> simp only [isVar, Bool.false_eq_true] at hv
          exact xE_calli hf hio h
        | false =>
          rw [xC2_t hv] at h
          exact xE_callt hf hio (by intro i z; subst z; cases hv) h
theorem xC1_s {fd : Fd} : xC1 (some fd) W f es ρ Q X = xC2 fd.io (pureEs es) W f es ρ Q X := rfl
theorem xC2_v {i : Nat} {pu : Bool} : xC2 true pu W f (.cons (.var i) es) ρ Q X = oS (slot ρ i) (kCi1 W f i es ρ Q X) := rfl
theorem xC2_a : xC2 false false W f es ρ Q X = xA W es ρ (kCalla W f Q X) X := rfl
end
theorem eqD_int {i j : Int} : eqD (.int i) (.int j) = some (decide (i = j)) := by
  unfold eqD
  simp only [py]
  have h1 : SeqAt.shaped (PyData.int i) = true := by simp [SeqAt.shaped, PyData.canLay0, PyData.depth]
  have h2 : SeqAt.shaped (PyData.int j) = true := by simp [SeqAt.shaped, PyData.canLay0, PyData.depth]
  rw [h1, h2]
  have e : (i == j) = decide (i = j) := by by_cases h : i = j <;> simp [h]
  show some (i == j) = _
  rw [e]
theorem fdivOk_of {j : Int} (h : 0 < j) (h2 : j < 1073741824) : fdivOk j = true := by simp [fdivOk, h, h2]
theorem mulOk_r {i j : Int} (h : -18446744073709551616 < j) (h2 : j < 18446744073709551616) : mulOk i j = true := by
  have e : (2 : Int) ^ 64 = 18446744073709551616 := by decide
  simp [mulOk, e, h, h2]
theorem mulOk_l {i j : Int} (h : -18446744073709551616 < i) (h2 : i < 18446744073709551616) : mulOk i j = true := by
  have e : (2 : Int) ^ 64 = 18446744073709551616 := by decide
  simp [mulOk, e, h, h2]
theorem szOk_of {n : Nat} (h : n ≤ 1000000) : szOk n = true := by
  have : (1000000 : Nat) ≤ sizeLine := by decide
  simp only [szOk, decide_eq_true_eq]
  omega
end PV

set_option autoImplicit true
/-! PVz: the operations, clause by clause (printed by mkcl.py); words of the way on values. -/
namespace PV
open PySem L2
theorem isScal_c0 : isScal .non = (true) := rfl
theorem isScal_c1 : isScal (.bl u01) = (true) := rfl
theorem isScal_c2 : isScal (.int u01) = (true) := rfl
theorem isScal_c3 : isScal (.str u01) = (true) := rfl
theorem isScal_c4 : isScal (.fn u01) = (true) := rfl
theorem isNonD_c0 : isNonD .non = (true) := rfl
theorem b2_c0 : b2 .add (.int i) (.int j) = (some (.int (i + j))) := rfl
theorem b2_c1 : b2 .add (.str a) (.str b) = (if szOk (a.length + b.length) then some (.str (a ++ b)) else none) := rfl
theorem b2_c2 : b2 .add (.lst u11 xs) (.lst u21 ys) = (if noOwnL xs && noOwnL ys && szOk (xs.length + ys.length) then some (.lst true (xs ++ ys)) else none) := rfl
theorem b2_c3 : b2 .add (.tup xs) (.tup ys) = (if noOwnL xs && noOwnL ys && szOk (xs.length + ys.length) then some (.tup (xs ++ ys)) else none) := rfl
theorem b2_c4 : b2 .addi (.int i) (.int j) = (some (.int (i + j))) := rfl
theorem b2_c5 : b2 .sub (.int i) (.int j) = (some (.int (i - j))) := rfl
theorem b2_c6 : b2 .mul (.int i) (.int j) = (if mulOk i j then some (.int (i * j)) else none) := rfl
theorem b2_c7 : b2 .mul (.lst true xs) (.int k) = (if noOwnL xs && ix63 k && szOk (xs.length * k.toNat) then some (.lst true (List.replicate k.toNat xs).flatten) else none) := rfl
theorem b2_c8 : b2 .muli (.int i) (.int j) = (if mulOk i j then some (.int (i * j)) else none) := rfl
theorem b2_c9 : b2 .fdiv (.int i) (.int j) = (if fdivOk j then some (.int (i / j)) else none) := rfl
theorem b2_c10 : b2 .mod (.int i) (.int j) = (if 0 < j then some (.int (i % j)) else none) := rfl
theorem b2_c11 : b2 .pow (.int i) (.int j) = (if powOk i j then some (.int (i ^ j.toNat)) else none) := rfl
theorem b2_c12 : b2 .shl (.int i) (.int j) = (if powOk i j then some (.int (i * 2 ^ j.toNat)) else none) := rfl
theorem b2_c13 : b2 .shr (.int i) (.int j) = (if 0 ≤ j then some (.int (i / 2 ^ j.toNat)) else none) := rfl
theorem b2_c14 : b2 .band (.int i) (.int j) = (some (.int (Builtin.bitAnd i j))) := rfl
theorem b2_c15 : b2 .bor (.int i) (.int j) = (some (.int (Builtin.bitOr i j))) := rfl
theorem b2_c16 : b2 .bxor (.int i) (.int j) = (some (.int (Builtin.bitXor i j))) := rfl
theorem c2_c0 : c2 kt .eq a b = (eqD a b) := rfl
theorem c2_c1 : c2 kt .ne a b = ((eqD a b).map (!·)) := rfl
theorem c2_c2 : c2 kt .lt (.int i) (.int j) = (some (decide (i < j))) := rfl
theorem c2_c3 : c2 kt .le (.int i) (.int j) = (some (decide (i ≤ j))) := rfl
theorem c2_c4 : c2 kt .gt (.int i) (.int j) = (some (decide (j < i))) := rfl
theorem c2_c5 : c2 kt .ge (.int i) (.int j) = (some (decide (j ≤ i))) := rfl
theorem c2_c6 : c2 kt .isin a b = (inD kt a b) := rfl
theorem c2_c7 : c2 kt .notin a b = ((inD kt a b).map (!·)) := rfl
theorem ixS_c0 : ixS kt (.lst u01 xs) (.int i) = (atI xs i) := rfl
theorem ixS_c1 : ixS kt (.tup xs) (.int i) = (atI xs i) := rfl
theorem ixS_c2 : ixS kt (.scr ns) (.int i) = ((atI ns i).map .int) := rfl
theorem ixS_c3 : ixS kt (.str z) (.int i) = (if szOk z.length then (atI z.cps.toList i).map fun c => .str ⟨#[c]⟩ else none) := rfl
theorem slS_c0 : slS (.lst u01 xs) lo hi = (if noOwnL xs then some (.lst true (cutD xs lo hi)) else none) := rfl
theorem slS_c1 : slS (.tup xs) lo hi = (if noOwnL xs then some (.tup (cutD xs lo hi)) else none) := rfl
theorem slS_c2 : slS (.scr ns) lo hi = (some (.lst true (cutD (ns.map .int) lo hi))) := rfl
theorem slS_c3 : slS (.str z) lo hi = (if szOk z.length then some (.str (Txt.slice z lo hi)) else none) := rfl
theorem f1S_c0 : f1S .len (.lst u11 xs) = (some (.int xs.length)) := rfl
theorem f1S_c1 : f1S .len (.tup xs) = (some (.int xs.length)) := rfl
theorem f1S_c2 : f1S .len (.scr xs) = (some (.int xs.length)) := rfl
theorem f1S_c3 : f1S .len (.str z) = (if szOk z.length then some (.int z.length) else none) := rfl
theorem f1S_c4 : f1S .len (.dct u11 u12 ks u13) = (some (.int ks.length)) := rfl
theorem f1S_c5 : f1S .list (.lst u11 xs) = (if noOwnL xs then some (.lst true xs) else none) := rfl
theorem f1S_c6 : f1S .list (.tup xs) = (if noOwnL xs then some (.lst true xs) else none) := rfl
theorem f1S_c7 : f1S .tuple (.lst u11 xs) = (if noOwnL xs then some (.tup xs) else none) := rfl
theorem f1S_c8 : f1S .tuple (.tup xs) = (if noOwnL xs then some (.tup xs) else none) := rfl
theorem f1S_c9 : f1S .sorted (.lst u11 xs) = ((intsOf xs).map fun ns => .lst true ((sortI ns).map .int)) := rfl
theorem f1S_c10 : f1S .sum (.lst u11 xs) = ((intsOf xs).map fun ns => .int ns.sum) := rfl
theorem f1S_c11 : f1S .all (.lst u11 xs) = ((boolsOf xs).map fun bs => .bl (bs.all id)) := rfl
theorem f1S_c12 : f1S .any (.lst u11 xs) = ((boolsOf xs).map fun bs => .bl (bs.any id)) := rfl
theorem f1S_c13 : f1S .int (.int i) = (some (.int i)) := rfl
theorem f1S_c14 : f1S .int (.bl b) = (some (.int (if b then 1 else 0))) := rfl
theorem f1S_c15 : f1S .abs (.int i) = (some (.int (if i < 0 then -i else i))) := rfl
theorem f1S_c16 : f1S .str (.int i) = (if i.natAbs.log2 < 1920 then some (.str (toString i)) else none) := rfl
theorem f2S_c0 : f2S .max (.int i) (.int j) = (some (.int (if j > i then j else i))) := rfl
theorem f2S_c1 : f2S .min (.int i) (.int j) = (some (.int (if j < i then j else i))) := rfl
theorem m1S_c0 : m1S .find (.str a) (.str b) = (some (.int (Txt.find a b))) := rfl
theorem m1S_c1 : m1S .scount (.str a) (.str b) = (some (.int (Txt.count a b))) := rfl
theorem m1S_c2 : m1S .split (.str a) (.str b) = (if (b.length == 0) = false ∧ a.length + 2 ≤ sizeLine then some (.lst true ((Txt.split a b).map .str)) else none) := rfl
theorem m1S_c3 : m1S .partition (.str a) (.str b) = (if (b.length == 0) = false ∧ a.length ≤ sizeLine then some (.tup [.str (Txt.partition a b).1, .str (Txt.partition a b).2.1, .str (Txt.partition a b).2.2]) else none) := rfl
theorem recvOk_c0 : recvOk .index (.lst u11 u12) = (true) := rfl
theorem recvOk_c1 : recvOk .lcount (.lst u11 u12) = (true) := rfl
theorem recvOk_c2 : recvOk .scount (.str u11) = (true) := rfl
theorem recvOk_c3 : recvOk .find (.str u11) = (true) := rfl
theorem recvOk_c4 : recvOk .join (.str u11) = (true) := rfl
theorem recvOk_c5 : recvOk .split (.str u11) = (true) := rfl
theorem recvOk_c6 : recvOk .partition (.str u11) = (true) := rfl
theorem isOwnL_c0 : isOwnL (some (.lst true u01)) = (true) := rfl
theorem mmS_c0 : mmS .append xs [d] = (if szOk (xs.length + 1) then some (.non, xs ++ [d]) else none) := rfl
theorem mmS_c1 : mmS .extend xs [.lst u21 ys] = (if noOwnL ys && szOk (xs.length + ys.length) then some (.non, xs ++ ys) else none) := rfl
theorem mmS_c2 : mmS .clear xs [] = (some (.non, [])) := rfl
theorem mmS_c3 : mmS .insert xs [.int k, d] = (if szOk (xs.length + 1) && decide (0 ≤ k) && decide (k < 2 ^ 63) then some (.non, xs.take k.toNat ++ d :: xs.drop k.toNat) else none) := rfl
theorem itemsOf_c0 : itemsOf (.lst u01 xs) = (some xs) := rfl
theorem itemsOf_c1 : itemsOf (.tup xs) = (some xs) := rfl
theorem itemsOf_c2 : itemsOf (.str s) = (some (strItems s)) := rfl
theorem seqOf_c0 : seqOf (.tup xs) = (some xs) := rfl
theorem seqOf_c1 : seqOf (.lst u01 xs) = (some xs) := rfl
theorem noOwn_tup : noOwn (.tup xs) = noOwnL xs := by simp [noOwn]
theorem noOwn_lst : noOwn (.lst o xs) = (!o && noOwnL xs) := by simp [noOwn]
theorem noOwn_int : noOwn (.int i) = true := rfl
theorem noOwn_str : noOwn (.str i) = true := rfl
theorem noOwn_bl : noOwn (.bl i) = true := rfl
theorem noOwn_non : noOwn .non = true := rfl
theorem noOwn_scr : noOwn (.scr i) = true := rfl
theorem noOwn_dct : noOwn (.dct o k ks vs) = !o := rfl
theorem noOwnL_nil : noOwnL [] = true := rfl
theorem noOwnL_cons : noOwnL (d :: ds) = (noOwn d && noOwnL ds) := by simp [noOwnL]
theorem canFz_tup : canFz (.tup xs) = canFzL xs := by simp [canFz]
theorem canFz_lst : canFz (.lst o xs) = canFzL xs := by simp [canFz]
theorem canFz_int : canFz (.int i) = true := rfl
theorem canFz_str : canFz (.str i) = true := rfl
theorem canFz_bl : canFz (.bl i) = true := rfl
theorem canFz_non : canFz .non = true := rfl
theorem canFz_scr : canFz (.scr i) = true := rfl
theorem canFzL_nil : canFzL [] = true := rfl
theorem canFzL_cons : canFzL (d :: ds) = (canFz d && canFzL ds) := by simp [canFzL]
theorem fz_tup : fz (.tup xs) = .tup (fzL xs) := by simp [fz]
theorem fz_lst : fz (.lst o xs) = .lst false (fzL xs) := by simp [fz]
theorem fz_int : fz (.int i) = .int i := rfl
theorem fz_str : fz (.str i) = .str i := rfl
theorem fz_bl : fz (.bl i) = .bl i := rfl
theorem fz_non : fz .non = .non := rfl
theorem fz_scr : fz (.scr i) = .scr i := rfl
theorem fzL_nil : fzL [] = [] := rfl
theorem fzL_cons : fzL (d :: ds) = fz d :: fzL ds := by simp [fzL]
theorem szOk_0 : szOk 0 = true := by decide
theorem szOk_1 : szOk 1 = true := by decide
theorem szOk_2 : szOk 2 = true := by decide
theorem szOk_3 : szOk 3 = true := by decide
theorem szOk_4 : szOk 4 = true := by decide
theorem szOk_5 : szOk 5 = true := by decide
theorem szOk_6 : szOk 6 = true := by decide
theorem szOk_7 : szOk 7 = true := by decide
theorem szOk_8 : szOk 8 = true := by decide
theorem szOk_9 : szOk 9 = true := by decide
theorem szOk_10 : szOk 10 = true := by decide
theorem szOk_11 : szOk 11 = true := by decide
theorem szOk_12 : szOk 12 = true := by decide
theorem szOk_13 : szOk 13 = true := by decide
theorem szOk_14 : szOk 14 = true := by decide
theorem szOk_15 : szOk 15 = true := by decide
theorem szOk_16 : szOk 16 = true := by decide
theorem szOk_17 : szOk 17 = true := by decide
theorem szOk_18 : szOk 18 = true := by decide
theorem szOk_19 : szOk 19 = true := by decide
theorem szOk_20 : szOk 20 = true := by decide
theorem hold_e {W : Wd} {a : E} : W.hold .e a = W := rfl
theorem hold_rng1 {W : Wd} {a : E} : W.hold .rng1 a = W := rfl
theorem hold_rng2 {W : Wd} {a : E} : W.hold .rng2 a = W := rfl
theorem hold_enum {W : Wd} {a : E} : W.hold .enum a = W := rfl
theorem hold_zip {W : Wd} {a : E} : W.hold .zip a = W := rfl
theorem hold_hold {W : Wd} {i : Nat} : W.hold .hold (.var i) = { W with pin := i :: W.pin } := rfl
theorem kAnd_t : kAnd W b Q X true ρ = xT W b ρ (kBl Q) X := rfl
theorem kAnd_f : kAnd W b Q X false ρ = Q (.bl false) ρ := rfl
theorem kOr_t : kOr W b Q X true ρ = Q (.bl true) ρ := rfl
theorem kOr_f : kOr W b Q X false ρ = xT W b ρ (kBl Q) X := rfl
theorem kIfe_t : kIfe W a b Q X true ρ = xE W a ρ (kNo Q) X := rfl
theorem kIfe_f : kIfe W a b Q X false ρ = xE W b ρ (kNo Q) X := rfl
theorem kO_i : kO Q (.int i) ρ = Q (some i) ρ := rfl
theorem kRev_l : kRev Q (.lst o xs) ρ = kIf (noOwnL xs) (Q (.lst true xs.reverse) ρ) := rfl
theorem kNeg_i : kNeg Q (.int i) ρ = Q (.int (-i)) ρ := rfl
theorem kTst_b : kTst Q (.bl b) ρ = Q b ρ := rfl
theorem kAug_i : kAug W i x Q (.int y) ρ = kIf (fits W.pin [i]) (Q (.nx (put ρ i (some (.int (x + y)))))) := rfl
theorem kAug1_i : kAug1 W i e ρ Q (.int x) = xE W e ρ (kAug W i x Q) (kXf Q) := rfl
def kSet3 (ρ : Env) (i : Nat) (d : D) (j : Int) (Q : Fl → Prop) : Option D → Prop
  | some (.lst true xs) => oS (ixN xs.length j) fun n => Q (.nx (put ρ i (some (.lst true (xs.set n d)))))
  | _ => False
theorem kSet2_i {i : Nat} {d : D} {Q : Fl → Prop} {j : Int} {ρ : Env} : kSet2 i d Q (.int j) ρ = kSet3 ρ i d j Q (slot ρ i) := by
  unfold kSet2 kSet3
  rfl
theorem kSet3_l {i : Nat} {d : D} {Q : Fl → Prop} {j : Int} {ρ : Env} {xs : List D} : kSet3 ρ i d j Q (some (.lst true xs)) = oS (ixN xs.length j) fun n => Q (.nx (put ρ i (some (.lst true (xs.set n d))))) := rfl
theorem kRng1_i : kRng1 Q (.int j) ρ = kIf (rngOk j) (Q (rngI 0 j.toNat) ρ) := rfl
theorem kRng22_i : kRng22 (.int i) Q (.int j) ρ = kIf (rngOk i && rngOk j) (Q (rngI i (j - i).toNat) ρ) := rfl
theorem kEnum_l : kEnum Q (.lst o xs) ρ = Q (enumI 0 xs) ρ := rfl
theorem kZip2_l : kZip2 (.lst o xs) Q (.lst o2 ys) ρ = Q ((xs.zip ys).map fun z => .tup [z.1, z.2]) ρ := rfl
theorem kLcT_f : kLcT W e own acc I false ρ = kIf (ownOk own ρ) (I acc (wipeE ρ own)) := rfl
def kLcE (own : List Nat) (acc : List D) (I : List D → Env → Prop) : D → Env → Prop := fun y ρ => kIf (szOk (acc.length + 1) && ownOk own ρ) (I (acc ++ [y]) (wipeE ρ own))
theorem kLcE_ap {own : List Nat} {acc : List D} {I : List D → Env → Prop} {y : D} {ρ : Env} : kLcE own acc I y ρ = kIf (szOk (acc.length + 1) && ownOk own ρ) (I (acc ++ [y]) (wipeE ρ own)) := rfl
theorem kLcT_t {W : Wd} {e : E} {own : List Nat} {acc : List D} {I : List D → Env → Prop} {ρ : Env} : kLcT W e own acc I true ρ = xV W e ρ (kLcE own acc I) (fun _ _ => False) := rfl
end PV

/-! PW1: plain data: comparable, in. -/
namespace PV
open PySem L2
mutual
/-- data of depth at most n, nothing owned within lists -/
def dat : Nat → D → Bool
  | _, .non => true | _, .bl _ => true | _, .int _ => true
  | _, .str s => PyData.canLay0 (.str s)
  | n + 1, .tup xs => datL n xs
  | n + 1, .lst _ xs => datL n xs
  | _, _ => false
def datL : Nat → List D → Bool
  | _, [] => true
  | n, d :: ds => dat n d && datL n ds
end
mutual
theorem dat_py : ∀ {n : Nat} {d : D}, dat n d = true → ∃ z, py d = some z ∧ z.canLay0 = true ∧ z.depth ≤ n
  | n, .non, _ => ⟨.none, by simp [py], by simp [PyData.canLay0], by simp [PyData.depth]⟩
  | n, .bl b, _ => ⟨.bool b, by simp [py], by simp [PyData.canLay0], by simp [PyData.depth]⟩
  | n, .int i, _ => ⟨.int i, by simp [py], by simp [PyData.canLay0], by simp [PyData.depth]⟩
  | n, .str s, h => ⟨.str s, by simp [py], by cases n <;> simpa [dat] using h, by simp [PyData.depth]⟩
  | 0, .tup xs, h => by simp [dat] at h
  | n + 1, .tup xs, h => by
    obtain ⟨zs, h1, h2, h3⟩ := datL_py (n := n) (ds := xs) (by simpa [dat] using h)
    exact ⟨.tuple zs, by simp [py, h1], by simpa [PyData.canLay0] using h2, by simp [PyData.depth, h3]⟩
  | 0, .lst o xs, h => by simp [dat] at h
  | n + 1, .lst o xs, h => by
    obtain ⟨zs, h1, h2, h3⟩ := datL_py (n := n) (ds := xs) (by simpa [dat] using h)
    exact ⟨.list zs, by simp [py, h1], by simpa [PyData.canLay0] using h2, by simp [PyData.depth, h3]⟩
  | 0, .fn _, h => by simp [dat] at h
  | n + 1, .fn _, h => by simp [dat] at h
  | 0, .dct _ _ _ _, h => by simp [dat] at h
  | n + 1, .dct _ _ _ _, h => by simp [dat] at h
  | 0, .ins _ _ _, h => by simp [dat] at h
  | n + 1, .ins _ _ _, h => by simp [dat] at h
  | 0, .scr _, h => by simp [dat] at h
  | n + 1, .scr _, h => by simp [dat] at h
theorem datL_py : ∀ {n : Nat} {ds : List D}, datL n ds = true → ∃ zs, pyL ds = some zs ∧ PyData.canLayAll0 zs = true ∧ PyData.depthAll zs ≤ n
  | n, [], _ => ⟨[], by simp [pyL], by simp [PyData.canLayAll0], by simp [PyData.depthAll]⟩
  | n, d :: ds, h => by
    simp only [datL, Bool.and_eq_true] at h
    obtain ⟨z, h1, h2, h3⟩ := dat_py h.1
    obtain ⟨zs, k1, k2, k3⟩ := datL_py h.2
    exact ⟨z :: zs, by simp [pyL, h1, k1], by simp [PyData.canLayAll0, h2, k2], by simp [PyData.depthAll]; omega⟩
end
theorem shaped_of {n : Nat} {d : D} (h : dat n d = true) (hn : n ≤ 64) : ∃ z, py d = some z ∧ SeqAt.shaped z = true := by
  obtain ⟨z, h1, h2, h3⟩ := dat_py h
  exact ⟨z, h1, by simp only [SeqAt.shaped, h2, Bool.true_and, decide_eq_true_eq]; omega⟩
/-- == on data: whether the data are equal -/
theorem eqD_dat {n m : Nat} {a b : D} (h : dat n a = true) (hn : n ≤ 64) (k : dat m b = true) (km : m ≤ 64) : ∃ x y, py a = some x ∧ py b = some y ∧ eqD a b = some (PyData.eqv x y) := by
  obtain ⟨x, h1, h2⟩ := shaped_of h hn
  obtain ⟨y, k1, k2⟩ := shaped_of k km
  exact ⟨x, y, h1, k1, by simp [eqD, h1, k1, h2, k2]⟩
/-- a list of data against the empty list -/
theorem eqD_nil {n : Nat} {o o2 : Bool} {xs : List D} (h : dat n (.lst o xs) = true) (hn : n ≤ 64) : eqD (.lst o xs) (.lst o2 []) = some (decide (xs = [])) := by
  obtain ⟨x, y, h1, h2, h3⟩ := eqD_dat h hn (m := 1) (b := .lst o2 []) (by simp [dat, datL]) (by omega)
  rw [h3]
  simp only [py, pyL, Option.map_some, Option.some.injEq] at h2
  subst h2
  cases xs with
  | nil =>
    simp only [py, pyL, Option.map_some, Option.some.injEq] at h1
    subst h1
    simp [PyData.eqv, PyData.eqvAll]
  | cons d ds =>
    simp only [py, Option.map_eq_some_iff] at h1
    obtain ⟨zs, e1, e2⟩ := h1
    subst e2
    simp only [pyL] at e1
    split at e1
    · cases e1; simp [PyData.eqv, PyData.eqvAll]
    · cases e1
theorem datL_ints {n : Nat} (ns : List Int) : datL n (ns.map .int) = true := by
  induction ns with
  | nil => simp [datL]
  | cons x xs ih => simp only [List.map_cons, datL, ih, Bool.and_true]; cases n <;> simp [dat]
theorem pyL_ints (ns : List Int) : pyL (ns.map .int) = some (ns.map PyData.int) := by
  induction ns with
  | nil => rfl
  | cons x xs ih => simp only [List.map_cons, pyL, py, ih]
theorem inD_ints {kt o : Bool} {w : Int} {ns : List Int} : inD kt (.int w) (.lst o (ns.map .int)) = some (decide (w ∈ ns)) := by
  obtain ⟨z, h1, h2⟩ := shaped_of (n := 1) (d := .lst o (ns.map .int)) (by simp [dat, datL_ints]) (by omega)
  simp only [py, pyL_ints, Option.map_some, Option.some.injEq] at h1
  subst h1
  have h3 : SeqAt.shaped (PyData.int w) = true := by simp [SeqAt.shaped, PyData.canLay0, PyData.depth]
  simp only [inD, py, pyL_ints, h2, h3, Bool.and_self, if_true, Option.some.injEq]
  clear h2 h3
  induction ns with
  | nil => simp
  | cons x xs ih =>
    simp only [List.map_cons, List.any_cons, ih, List.mem_cons]
    by_cases c : x = w
    · subst c; simp [PyData.eqv]
    · have : ¬ w = x := fun z => c z.symm
      simp [PyData.eqv, c, this]
theorem intsOf_ints (ns : List Int) : intsOf (ns.map .int) = some ns := by
  induction ns with
  | nil => rfl
  | cons x xs ih => simp only [List.map_cons, intsOf, ih, Option.map_some]
/-- a def's run, its parts apart -/
theorem wr_runY {T : Tb} {L k f np ns : Nat} {io : Bool} {body : Ss} {ds : List D} {Q : D → Option D → Prop} {X : Nat → Prop} {ρ : Env} {pin : List Nat} (h : T.fd f = some ⟨np, ns, io, body⟩) (hl : ds.length = np) (he : entry ⟨np, ns, io, .nil⟩ ds = ρ) (hp : (if io then [0] else []) = pin)
    (q : xB ⟨T.fd, run T L k, T.gl, L, pin, T.kt, T.sub⟩ body ρ (fin io Q X)) : wr (run T L (k + 1) f ds) Q X := by
  subst he; subst hp
  exact wr_runX h hl q
theorem wr_runE {T : Tb} {L k f np ns : Nat} {io : Bool} {body : Ss} {ds : List D} {Q : D → Option D → Prop} {X : Nat → Prop} {ρ : Env} {pin : List Nat} (h : T.fd f = some ⟨np, ns, io, body⟩) (hl : ds.length = np) (he : entry ⟨np, ns, io, .nil⟩ ds = ρ) (hp : (if io then [0] else []) = pin) :
    wr (run T L (k + 1) f ds) Q X = xB ⟨T.fd, run T L k, T.gl, L, pin, T.kt, T.sub⟩ body ρ (fin io Q X) := by
  subst he; subst hp
  rw [wr_run h hl]
  rfl
section
variable {a : E} {ρ ρ' : Env}
theorem unh_e : unh .e a ρ ρ' = ρ' := rfl
theorem unh_rng1 : unh .rng1 a ρ ρ' = ρ' := rfl
theorem unh_rng2 : unh .rng2 a ρ ρ' = ρ' := rfl
theorem unh_enum : unh .enum a ρ ρ' = ρ' := rfl
theorem unh_zip : unh .zip a ρ ρ' = ρ' := rfl
theorem unh_hold {i : Nat} : unh .hold (.var i) ρ ρ' = put ρ' i (slot ρ i) := rfl
theorem backS_nil : backS [] ρ ρ' = ρ' := rfl
theorem backS_cons {i : Nat} {is : List Nat} : backS (i :: is) ρ ρ' = backS is ρ (put ρ' i (slot ρ i)) := rfl
end
theorem rngI_get {lo : Int} {n i : Nat} {x : D} (h : (rngI lo n)[i]? = some x) : i < n ∧ x = .int (lo + (i : Nat)) := by
  have h1 : i < (rngI lo n).length := (List.getElem?_eq_some_iff.mp h).1
  have h2 : i < n := by simpa [rngI] using h1
  refine ⟨h2, ?_⟩
  simp [rngI, h2] at h
  exact h.symm
theorem rngI_len {lo : Int} {n : Nat} : (rngI lo n).length = n := by simp [rngI]
end PV

/-! PW2: comprehensions that change nothing; methods of lists of mine. -/
namespace PV
open PySem L2
theorem put_slot : ∀ {ρ : Env} {i : Nat}, put ρ i (slot ρ i) = ρ
  | [], i => by cases i <;> rfl
  | d :: ρ, 0 => rfl
  | d :: ρ, i + 1 => by simp only [slot_s, put_s, put_slot]
section
variable {W : Wd} {ρ ρ0 : Env} {a c e : E} {k : ItK} {ds : List D} {i : Nat} {Q : D → Env → Prop} {X : KX}
/-- [e for x in us if c]: e and c change nothing; f tells the items, g what comes of them -/
theorem kLc_fm {α : Type} (us : List α) (f : α → D) (p : α → Bool) (g : α → D) (hi : i < ρ.length) (h0 : ownOk [i] ρ = true)
    (hp : ∀ x ∈ us, ∀ Q' : Bool → Env → Prop, Q' (p x) (put ρ i (some (f x))) → xTst W c (put ρ i (some (f x))) Q')
    (hg : ∀ x ∈ us, p x = true → ∀ Q' : D → Env → Prop, Q' (g x) (put ρ i (some (f x))) → xV W e (put ρ i (some (f x))) Q' (fun _ _ => False))
    (hno : ∀ x ∈ us, noOwn (f x) = true) (hsz : us.length ≤ 999999) (q : Q (.lst true ((us.filter p).map g)) (unh k a ρ0 ρ)) : kLc W (.nm i) k a c e [i] ρ0 Q X (us.map f) ρ := by
  have own1 : ∀ x, noOwn x = true → ownOk [i] (put ρ i (some x)) = true := by
    intro x hx
    simp [ownOk, slot_put_same hi, hx]
  have wp1 : ∀ x, wipeE (put ρ i (some x)) [i] = put ρ i none := by
    intro x
    simp only [wipeE, put_put]
  refine kLc_inv (fun j acc ρ' => ρ' = put ρ i none ∧ acc = ((us.take j).filter p).map g) h0 ⟨rfl, by simp⟩ ?_ ?_
  · rintro j x acc ρ' hx ⟨rfl, rfl⟩
    obtain ⟨u, hu, rfl⟩ : ∃ u, us[j]? = some u ∧ f u = x := by
      simp only [List.getElem?_map, Option.map_eq_some_iff] at hx
      exact hx
    have hj : j < us.length := (List.getElem?_eq_some_iff.mp hu).1
    have hm : u ∈ us := List.mem_of_getElem? hu
    have hl : (((us.take j).filter p).map g).length ≤ j := by
      rw [List.length_map]
      exact Nat.le_trans (List.length_filter_le _ _) (by rw [List.length_take]; omega)
    have hb : bindT (.nm i) (f u) (put ρ i none) = some (put ρ i (some (f u))) := by
      simp only [bindT, put_length, hi, if_true, put_put]
    rw [hb]
    show xTst W c _ _
    have ht : us.take (j + 1) = us.take j ++ [u] := by rw [List.take_succ, hu]; rfl
    refine hp u hm _ ?_
    cases hpx : p u with
    | false =>
      rw [kLcT_f]
      refine ⟨own1 _ (hno u hm), wp1 _, ?_⟩
      rw [ht]; simp [List.filter_append, hpx]
    | true =>
      rw [kLcT_t]
      refine hg u hm hpx _ ?_
      rw [kLcE_ap]
      refine ⟨?_, wp1 _, ?_⟩
      · rw [own1 _ (hno u hm), szOk_of (by omega)]; rfl
      · rw [ht]; simp [List.filter_append, hpx]
  · rintro acc ρ' ⟨rfl, rfl⟩
    have : backS [i] ρ (put ρ i none) = ρ := by
      rw [backS_cons, backS_nil, put_put, put_slot]
    rw [this, List.length_map, List.take_length]
    exact q
/-- .. without a test -/
theorem kLc_map {α : Type} (us : List α) (f : α → D) (g : α → D) (hi : i < ρ.length) (h0 : ownOk [i] ρ = true)
    (hg : ∀ x ∈ us, ∀ Q' : D → Env → Prop, Q' (g x) (put ρ i (some (f x))) → xV W e (put ρ i (some (f x))) Q' (fun _ _ => False))
    (hno : ∀ x ∈ us, noOwn (f x) = true) (hsz : us.length ≤ 999999) (q : Q (.lst true (us.map g)) (unh k a ρ0 ρ)) : kLc W (.nm i) k a .no e [i] ρ0 Q X (us.map f) ρ := by
  refine kLc_fm us f (fun _ => true) g hi h0 (fun x _ Q' h => h) (fun x hx _ Q' h => hg x hx Q' h) hno hsz ?_
  rw [List.filter_eq_self.mpr (by simp)]
  exact q
/-- .. the items themselves -/
theorem kLc_filter {α : Type} (us : List α) (f : α → D) (p : α → Bool) (hi : i < ρ.length) (h0 : ownOk [i] ρ = true)
    (hp : ∀ x ∈ us, ∀ Q' : Bool → Env → Prop, Q' (p x) (put ρ i (some (f x))) → xTst W c (put ρ i (some (f x))) Q')
    (hno : ∀ x ∈ us, noOwn (f x) = true) (hsz : us.length ≤ 999999) (q : Q (.lst true ((us.filter p).map f)) (unh k a ρ0 ρ)) : kLc W (.nm i) k a c (.var i) [i] ρ0 Q X (us.map f) ρ := by
  refine kLc_fm us f p f hi h0 hp (fun x hx _ Q' h => ?_) hno hsz q
  rw [xV_p rfl rfl, xE_var, slot_put_same hi, oS_some, kRet_ap, kKeep_no (hno x hx)]
  exact h
end
theorem pop_last {xs : List D} {d : D} : mmS .pop (xs ++ [d]) [] = some (d, xs) := by
  have h : (xs ++ [d]).length - 1 = xs.length := by simp
  simp only [mmS, h, List.getElem?_concat_length, List.dropLast_concat]
theorem ext_ok {xs ys : List D} {o : Bool} (h : noOwnL ys = true) (hz : xs.length + ys.length ≤ 1000000) : mmS .extend xs [.lst o ys] = some (.non, xs ++ ys) := by
  simp only [mmS, h, szOk_of hz, Bool.and_self, if_true]
theorem app_ok {xs : List D} {d : D} (hz : xs.length ≤ 999999) : mmS .append xs [d] = some (.non, xs ++ [d]) := by
  simp only [mmS, szOk_of (n := xs.length + 1) (by omega), if_true]
theorem tcOf_non : tcOf .non = some .non := rfl
theorem tcOf_bool {b : Bool} : tcOf (.bl b) = some .bool := rfl
theorem tcOf_int {i : Int} : tcOf (.int i) = some .int := rfl
theorem tcOf_str {s : Str} : tcOf (.str s) = some .str := rfl
theorem tcOf_list {o : Bool} {xs : List D} : tcOf (.lst o xs) = some .list := rfl
theorem tcOf_tuple {xs : List D} : tcOf (.tup xs) = some .tuple := rfl
theorem isTC_bool_non : isTC .bool .non = false := rfl
theorem isTC_bool_bool : isTC .bool .bool = true := rfl
theorem isTC_bool_int : isTC .bool .int = false := rfl
theorem isTC_bool_str : isTC .bool .str = false := rfl
theorem isTC_bool_list : isTC .bool .list = false := rfl
theorem isTC_bool_tuple : isTC .bool .tuple = false := rfl
theorem isTC_bool_dict : isTC .bool .dict = false := rfl
theorem isTC_int_non : isTC .int .non = false := rfl
theorem isTC_int_bool : isTC .int .bool = true := rfl
theorem isTC_int_int : isTC .int .int = true := rfl
theorem isTC_int_str : isTC .int .str = false := rfl
theorem isTC_int_list : isTC .int .list = false := rfl
theorem isTC_int_tuple : isTC .int .tuple = false := rfl
theorem isTC_int_dict : isTC .int .dict = false := rfl
theorem isTC_str_non : isTC .str .non = false := rfl
theorem isTC_str_bool : isTC .str .bool = false := rfl
theorem isTC_str_int : isTC .str .int = false := rfl
theorem isTC_str_str : isTC .str .str = true := rfl
theorem isTC_str_list : isTC .str .list = false := rfl
theorem isTC_str_tuple : isTC .str .tuple = false := rfl
theorem isTC_str_dict : isTC .str .dict = false := rfl
theorem isTC_list_non : isTC .list .non = false := rfl
theorem isTC_list_bool : isTC .list .bool = false := rfl
theorem isTC_list_int : isTC .list .int = false := rfl
theorem isTC_list_str : isTC .list .str = false := rfl
theorem isTC_list_list : isTC .list .list = true := rfl
theorem isTC_list_tuple : isTC .list .tuple = false := rfl
theorem isTC_list_dict : isTC .list .dict = false := rfl
theorem isTC_tuple_non : isTC .tuple .non = false := rfl
theorem isTC_tuple_bool : isTC .tuple .bool = false := rfl
theorem isTC_tuple_int : isTC .tuple .int = false := rfl
theorem isTC_tuple_str : isTC .tuple .str = false := rfl
theorem isTC_tuple_list : isTC .tuple .list = false := rfl
theorem isTC_tuple_tuple : isTC .tuple .tuple = true := rfl
theorem isTC_tuple_dict : isTC .tuple .dict = false := rfl
/-- a call that freezes what it is handed (owned ones, no scalar comes of it) -/
theorem xE_callf {W : Wd} {ρ : Env} {es : Es} {f : Nat} {fd : Fd} {Q : D → Env → Prop} {X : KX} (h : W.fd f = some fd) (h1 : (!fd.io && pureEs es) = true) (ds : List D) (hp : xP W es ρ (fun ds' => ds' = ds) (fun _ _ => False)) (hn : noOwnL ds = false)
    (q : wr (W.call f (fzL ds)) (fun r _ => isScal r = false ∧ xA W es ρ (fun ds' ρ' => ds' = fzL ds ∧ Q r ρ') (fun _ _ => False)) (fun _ => False)) : xE W (.call f es) ρ Q X := by
  show wp (ev W (.call f es) ρ) _ X
  have hp : wp (evp W es ρ) (fun ds' => ds' = ds) (fun _ _ => False) := hp
  have e1 : evp W es ρ = .ok ds := by
    cases e : evp W es ρ with
    | ok a => rw [e] at hp; have : a = ds := hp; rw [this]
    | ex _ _ => rw [e] at hp; exact hp.elim
    | bad => rw [e] at hp; exact hp.elim
  obtain ⟨r, o, e2, hs, q⟩ := wr_exists q
  have q : wp (eva W es ρ) (fun p => p.1 = fzL ds ∧ Q r p.2) (fun _ _ => False) := q
  unfold ev
  rw [h]
  have hc : callP W.call f (evp W es ρ) = false := by
    rw [e1]
    simp [callP, hn, e2, hs]
  show wp (if (!fd.io && pureEs es && callP W.call f (evp W es ρ)) = true then _ else if fd.io = true then _ else _) _ X
  have hio : fd.io = false := by
    cases hi : fd.io with
    | false => rfl
    | true => rw [hi] at h1; simp at h1
  rw [if_neg (by rw [hc]; simp), if_neg (by rw [hio]; simp), wp_bind]
  cases e : eva W es ρ with
  | ok p =>
    rw [e] at q
    obtain ⟨q1, q2⟩ := q
    show wp (match W.call f p.1 with | .ok r _ => _ | .ex c => _ | .bad => _) _ X
    rw [q1, e2]
    exact q2
  | ex _ _ => rw [e] at q; exact q.elim
  | bad => rw [e] at q; exact q.elim
theorem rngI_map {lo : Int} {n : Nat} : rngI lo n = (List.range n).map fun i => D.int (lo + (i : Nat)) := rfl
theorem kTrg_i {l : Bool} {j : Int} {Q : D → Env → Prop} {ρ : Env} : kTrg l Q (.int j) ρ = kIf (decide (0 ≤ j) && decide (j ≤ 1000000)) (Q (trgD l j) ρ) := rfl
theorem trgD_t {j : Int} : trgD true j = .lst true (rngI 0 j.toNat) := rfl
theorem trgD_f {j : Int} : trgD false j = .tup (rngI 0 j.toNat) := rfl
theorem kSset_ap {Q : D → Env → Prop} {d : D} {ρ : Env} : kSset Q d ρ = oS (ssetS d) (kRet ρ Q) := rfl
theorem sset_ints {o : Bool} {ns : List Int} (h : ns.length ≤ 4000) : ssetS (.lst o (ns.map .int)) = some (.lst true ((usI ns).map .int)) := by
  have h2 : (usI ns).length ≤ 4000 ∧ ns.length ≤ 100000 := ⟨by have := usI_le ns; omega, by omega⟩
  rw [ssetS, intsOf_ints]
  simp only
  rw [if_pos h2]
theorem sset_ints2 {o : Bool} {ns : List Int} (h : (usI ns).length ≤ 4000) (h2 : ns.length ≤ 100000) : ssetS (.lst o (ns.map .int)) = some (.lst true ((usI ns).map .int)) := by
  rw [ssetS, intsOf_ints]
  simp only
  rw [if_pos ⟨h, h2⟩]
theorem kVf_ap {Q : D → Env → Prop} {d : D} {ρ : Env} {i : Nat} : kVf ρ i Q d = kIf (canFz d) (Q (fz d) (put ρ i (some (fz d)))) := rfl
theorem isOwnD_d {ks vs : List D} : isOwnD (some (.dct true false ks vs)) = true := rfl
theorem sorted_d {o : Bool} {ms : List Int} {vs : List D} : f1S .sorted (.dct o false (ms.map .int) vs) = some (.lst true ((sortI ms).map .int)) := by
  show (intsOf (ms.map .int)).map _ = _
  rw [intsOf_ints]; rfl
theorem keyInt (x : Int) : keyOf (.int x) = some (Sum.inl x) := rfl
theorem any_int {ms : List Int} {x : Int} : ((ms.map D.int).any fun z => decide (keyOf z = keyOf (.int x))) = decide (x ∈ ms) := by
  rw [Bool.eq_iff_iff]
  simp only [List.any_eq_true, decide_eq_true_eq, List.mem_map]
  constructor
  · rintro ⟨z, ⟨m, hm, rfl⟩, h⟩
    have h : (some (Sum.inl m) : Option Key) = some (Sum.inl x) := h
    cases h
    exact hm
  · intro h
    exact ⟨_, ⟨x, h, rfl⟩, rfl⟩
/-- the keys of a dict of ints, one put to -/
def insD (x : Int) (ms : List Int) : List Int := if x ∈ ms then ms else ms ++ [x]
theorem putS_int {ms : List Int} {vs : List D} {x : Int} {d : D} (h : ms.length ≤ 99999) : ∃ vs', putS (.int x) d (some (.dct true false (ms.map .int) vs)) = some (.dct true false ((insD x ms).map .int) vs') := by
  have hz : szOk ((ms.map D.int).length + 1) = true := szOk_of (by simp; omega)
  have hs : (keyOf (.int x)).isSome = true := rfl
  show ∃ vs', (if (keyOf (.int x)).isSome && szOk ((ms.map D.int).length + 1) then some (D.dct true false (putD (ms.map .int) vs (.int x) d).1 (putD (ms.map .int) vs (.int x) d).2) else none) = _
  rw [hs, hz, Bool.and_self, if_pos rfl]
  unfold insD putD
  rw [any_int]
  by_cases c : x ∈ ms
  · rw [if_pos (decide_eq_true c), if_pos c]
    exact ⟨_, rfl⟩
  · rw [if_neg (by simpa using c), if_neg c, List.map_append]
    exact ⟨_, rfl⟩
theorem insD_mem {x y : Int} {ms : List Int} : y ∈ insD x ms ↔ y = x ∨ y ∈ ms := by
  unfold insD
  split
  · rename_i h
    constructor
    · exact .inr
    · rintro (rfl | h2)
      · exact h
      · exact h2
  · simp [or_comm]
theorem insD_nd {x : Int} {ms : List Int} (h : ms.Nodup) : (insD x ms).Nodup := by
  unfold insD
  split
  · exact h
  · rename_i h2
    rw [List.nodup_append]
    exact ⟨h, by simp, fun a ha b hb e => by simp at hb; subst hb; subst e; exact h2 ha⟩
theorem inD_int {kt o : Bool} {ms : List Int} {vs : List D} {x : Int} : inD kt (.int x) (.dct o false (ms.map .int) vs) = some (decide (x ∈ ms)) := congrArg some any_int
/-! ### chained comparisons -/
def kCh4 (W : Wd) (p : C2) (y : D) (Q : D → Env → Prop) : D → Env → Prop := fun z ρ => oS (c2 W.kt p y z) fun r => Q (.bl r) ρ
def kCh3 (W : Wd) (p : C2) (c : E) (y : D) (ρ : Env) (Q : D → Env → Prop) (X : KX) : Bool → Prop
  | false => Q (.bl false) ρ
  | true => xE W c ρ (kCh4 W p y Q) X
def kCh2 (W : Wd) (o p : C2) (c : E) (x : D) (Q : D → Env → Prop) (X : KX) : D → Env → Prop := fun y ρ => kIf (isScal x && isScal y) (oS (c2 W.kt o x y) (kCh3 W p c y ρ Q X))
def kCh1 (W : Wd) (o p : C2) (b c : E) (Q : D → Env → Prop) (X : KX) : D → Env → Prop := fun x ρ => xE W b ρ (kCh2 W o p c x Q X) X
theorem kCh4_ap (W : Wd) (p : C2) (y : D) (Q : D → Env → Prop) (z : D) (ρ : Env) : kCh4 W p y Q z ρ = oS (c2 W.kt p y z) fun r => Q (.bl r) ρ := rfl
theorem kCh3_f {W : Wd} {p : C2} {c : E} {y : D} {ρ : Env} {Q : D → Env → Prop} {X : KX} : kCh3 W p c y ρ Q X false = Q (.bl false) ρ := rfl
theorem kCh3_t {W : Wd} {p : C2} {c : E} {y : D} {ρ : Env} {Q : D → Env → Prop} {X : KX} : kCh3 W p c y ρ Q X true = xE W c ρ (kCh4 W p y Q) X := rfl
theorem kCh2_ap (W : Wd) (o p : C2) (c : E) (x : D) (Q : D → Env → Prop) (X : KX) (y : D) (ρ : Env) : kCh2 W o p c x Q X y ρ = kIf (isScal x && isScal y) (oS (c2 W.kt o x y) (kCh3 W p c y ρ Q X)) := rfl
theorem kCh1_ap (W : Wd) (o p : C2) (b c : E) (Q : D → Env → Prop) (X : KX) (x : D) (ρ : Env) : kCh1 W o p b c Q X x ρ = xE W b ρ (kCh2 W o p c x Q X) X := rfl
theorem xE_chain {W : Wd} {o p : C2} {a b c : E} {ρ : Env} {Q : D → Env → Prop} {X : KX} : xE W (.chain o p a b c) ρ Q X = xE W a ρ (kCh1 W o p b c Q X) X := by
  show wp (ev W (.chain o p a b c) ρ) _ X = wp (ev W a ρ) _ X
  rw [ev, wp_bind]
  congr 1; funext x
  show wp ((ev W b x.2).bind _) _ X = wp (ev W b x.2) _ X
  rw [wp_bind]
  congr 1; funext y
  rw [wp_if]
  show (_ ∧ _) = (_ ∧ _)
  congr 1
  rw [wp_bind, wp_ofO]
  congr 1; funext r
  cases r with
  | false => rfl
  | true =>
    show wp ((ev W c y.2).bind _) _ X = wp (ev W c y.2) _ X
    rw [wp_bind]
    congr 1; funext z
    rw [wp_bind, wp_ofO]
    rfl
/-! ### try, and isinstance of what is caught -/
/-- a caught exception of class n -/
def xcD (n : Nat) : D := .fn (1000 + n)
theorem xOf_xc {n : Nat} : xOf (some (xcD n)) = some n := by
  have h1 : 1000 ≤ 1000 + n := by omega
  have h2 : 1000 + n - 1000 = n := by omega
  simp only [xcD, xOf, h1, if_true, h2]
theorem noOwn_xc {n : Nat} : noOwn (xcD n) = true := rfl
def kXis (W : Wd) (js : List Nat) (ρ : Env) (Q : D → Env → Prop) : Nat → Prop := fun n => Q (.bl (js.any (W.sub n))) ρ
theorem kXis_ap {W : Wd} {js : List Nat} {ρ : Env} {Q : D → Env → Prop} {n : Nat} : kXis W js ρ Q n = Q (.bl (js.any (W.sub n))) ρ := rfl
theorem xE_xis {W : Wd} {i : Nat} {js : List Nat} {ρ : Env} {Q : D → Env → Prop} {X : KX} : xE W (.xis i js) ρ Q X = oS (xOf (slot ρ i)) (kXis W js ρ Q) := by
  show wp (ev W (.xis i js) ρ) _ X = _
  rw [ev]
  cases xOf (slot ρ i) <;> rfl
def kUn (i : Option Nat) (Q : Fl → Prop) : Fl → Prop
  | .nx ρ => kIf (noXS (xSlot i ρ none)) (Q (.nx (xSlot i ρ none)))
  | .rt d ρ => kIf (noX d && noXS (xSlot i ρ none)) (Q (.rt d (xSlot i ρ none)))
  | _ => False
def kTry2 (W : Wd) (i : Option Nat) (h : Ss) (Q : Fl → Prop) (n : Nat) (ρ : Env) : Bool → Prop
  | true => kIf (xFits W i ρ) (xB W h (xSlot i ρ (some (xcD n))) (kUn i Q))
  | false => Q (.ex n ρ)
def kTry (W : Wd) (c : Nat) (i : Option Nat) (h : Ss) (Q : Fl → Prop) : Fl → Prop
  | .ex n ρ => kTry2 W i h Q n ρ (W.sub n c)
  | x => Q x
section
variable {W : Wd} {c : Nat} {i : Option Nat} {b h : Ss} {Q : Fl → Prop} {ρ : Env} {d : D} {n : Nat}
theorem kUn_nx : kUn i Q (.nx ρ) = kIf (noXS (xSlot i ρ none)) (Q (.nx (xSlot i ρ none))) := rfl
theorem kUn_rt : kUn i Q (.rt d ρ) = kIf (noX d && noXS (xSlot i ρ none)) (Q (.rt d (xSlot i ρ none))) := rfl
theorem kTry2_t : kTry2 W i h Q n ρ true = kIf (xFits W i ρ) (xB W h (xSlot i ρ (some (xcD n))) (kUn i Q)) := rfl
theorem kTry2_f : kTry2 W i h Q n ρ false = Q (.ex n ρ) := rfl
theorem kTry_ex : kTry W c i h Q (.ex n ρ) = kTry2 W i h Q n ρ (W.sub n c) := rfl
theorem kTry_nx : kTry W c i h Q (.nx ρ) = Q (.nx ρ) := rfl
theorem kTry_rt : kTry W c i h Q (.rt d ρ) = Q (.rt d ρ) := rfl
theorem kTry_bk : kTry W c i h Q (.bk ρ) = Q (.bk ρ) := rfl
theorem kTry_ct : kTry W c i h Q (.ct ρ) = Q (.ct ρ) := rfl
theorem xSlot_s {j : Nat} {o : Option D} : xSlot (some j) ρ o = put ρ j o := rfl
theorem xSlot_n {o : Option D} : xSlot none ρ o = ρ := rfl
theorem xFits_s {j : Nat} : xFits W (some j) ρ = (fits' W.pin j && decide (j < ρ.length)) := rfl
theorem xFits_n : xFits W none ρ = true := rfl
theorem xS_try1 : xS W (.try1 b c i h) ρ Q = xB W b ρ (kTry W c i h Q) := by
  show wf (PV.st W (.try1 b c i h) ρ) Q = wf (sts W b ρ) _
  rw [PV.st]
  cases e : sts W b ρ with
  | ex n ρ1 =>
    show wf (match W.sub n c with | true => _ | false => _) Q = kTry2 W i h Q n ρ1 (W.sub n c)
    cases W.sub n c with
    | false => rfl
    | true =>
      show wf (if xFits W i ρ1 = true then unX i (sts W h (xSlot i ρ1 (some (.fn (1000 + n))))) else .bad) Q = kIf (xFits W i ρ1) (wf (sts W h (xSlot i ρ1 (some (.fn (1000 + n))))) (kUn i Q))
      cases xFits W i ρ1 with
      | false => simp [kIf, wf]
      | true =>
        simp only [kIf, if_true, true_and]
        cases sts W h (xSlot i ρ1 (some (.fn (1000 + n)))) with
        | nx ρ2 =>
          simp only [unX, wf, kUn, kIf]
          cases noXS (xSlot i ρ2 none) <;> simp
        | rt d ρ2 =>
          simp only [unX, wf, kUn, kIf]
          cases noX d && noXS (xSlot i ρ2 none) <;> simp
        | _ => rfl
  | _ => rfl
theorem noXS_nil : noXS [] = true := rfl
theorem noXS_s : noXS (some d :: ρ) = (noX d && noXS ρ) := rfl
theorem noXS_n : noXS (none :: ρ) = noXS ρ := rfl
theorem noX_int {j : Int} : noX (.int j) = true := by simp [noX]
theorem noX_str {s : Str} : noX (.str s) = true := by simp [noX]
theorem noX_bl {b : Bool} : noX (.bl b) = true := by simp [noX]
theorem noX_non : noX .non = true := by simp [noX]
theorem noX_scr {ns : List Int} : noX (.scr ns) = true := by simp [noX]
theorem noX_tup {xs : List D} : noX (.tup xs) = noXL xs := by simp [noX]
theorem noX_lst {o : Bool} {xs : List D} : noX (.lst o xs) = noXL xs := by simp [noX]
theorem noX_dct {o k : Bool} {ks vs : List D} : noX (.dct o k ks vs) = noXL vs := by simp [noX]
theorem noXL_nil : noXL [] = true := by simp [noXL]
theorem noXL_cons {xs : List D} : noXL (d :: xs) = (noX d && noXL xs) := by simp [noXL]
theorem noXL_of {xs : List D} (h : ∀ x ∈ xs, noX x = true) : noXL xs = true := by
  induction xs with
  | nil => exact noXL_nil
  | cons x xs ih => rw [noXL_cons, h x (by simp), ih fun y hy => h y (by simp [hy])]; rfl
theorem noXL_ints (ns : List Int) : noXL (ns.map D.int) = true := noXL_of fun x hx => by
  obtain ⟨i, _, rfl⟩ := List.mem_map.mp hx
  exact noX_int
theorem noXL_strs (ns : List Str) : noXL (ns.map D.str) = true := noXL_of fun x hx => by
  obtain ⟨i, _, rfl⟩ := List.mem_map.mp hx
  exact noX_str
end
theorem fits'_is {pin : List Nat} {j : Nat} : fits' pin j = !pin.contains j := rfl
theorem dat_noX : ∀ {n : Nat} {d : D}, dat n d = true → noX d = true := by
  intro n
  induction n with
  | zero => intro d h; cases d <;> simp_all [dat, noX]
  | succ n ih =>
    have hl : ∀ ds, datL n ds = true → noXL ds = true := by
      intro ds
      induction ds with
      | nil => intro _; exact noXL_nil
      | cons x xs k =>
        intro h
        simp only [datL, Bool.and_eq_true] at h
        rw [noXL_cons, ih h.1, k h.2]; rfl
    intro d h
    cases d with
    | tup xs => rw [noX_tup]; exact hl xs (by simpa [dat] using h)
    | lst o xs => rw [noX_lst]; exact hl xs (by simpa [dat] using h)
    | _ => simp_all [dat, noX]
theorem kXf_ap {Q : Fl → Prop} {c : Nat} {ρ : Env} : kXf Q c ρ = Q (.ex c ρ) := rfl
theorem xE_fr {W : Wd} {e : E} {ρ : Env} {Q : D → Env → Prop} {X : KX} : xE W (.fr e) ρ Q X = xF W e ρ Q X := by
  show wp (ev W (.fr e) ρ) _ X = _
  rw [ev]
  rfl
end PV

namespace K38
open PySem L2 PV
def top (i : Nat) : Stmt := PySem.Challenge.pw_sureplans_k38_whole_well_off_together.main.body.getD i (.Pass ⟨0, 0, 0, 0⟩)
/-- _law_reel -/
def bo0 : Ss := .cons (.ret (.lst (.cons (.f1 .abs (.var 0)) (.cons (.bin .mod (.bin .muli (.bin .addi (.bin .mod (.var 0) (.int 2147483647)) (.int 1)) (.int 742938285)) (.int 2147483647)) .nil)))) .nil
/-- _law_house -/
def bo1 : Ss := .cons (.asg 4 (.call 12 (.cons (.var 0) (.cons (.bin .addi (.bin .addi (.var 2) (.f1 .len (.var 1))) (.int 1)) .nil)))) (.cons (.asg 2 (.sl (.var 4) (.no) (.var 2))) (.cons (.asg 5 (.lst (.nil))) (.cons (.for (.nm 6) .rng1 (.f1 .len (.var 1)) .no (.cons (.expr (.mm .append 5 [] (.cons (.call 13 (.cons (.call 0 (.cons (.ix (.var 1) (.var 6)) .nil)) (.cons (.var 2) (.cons (.ix (.var 4) (.bin .addi (.f1 .len (.var 2)) (.var 6))) (.cons (.var 3) .nil))))) .nil))) .nil)) (.cons (.asg 7 (.lst (.nil))) (.cons (.ife (.cmp .eq (.call 3 (.cons (.var 0) (.cons (.int 2) .nil))) (.int 0)) (.cons (.expr (.mm .append 7 [] (.cons (.tup (.cons (.ix (.var 4) (.neg (.int 1))) (.cons (.tup (.cons (.str "yes") .nil)) (.cons (.call 10 (.cons (.var 0) (.cons (.var 2) (.cons (.int 1) .nil)))) .nil)))) .nil))) .nil) (.nil)) (.cons (.asg 8 (.call 8 (.cons (.var 0) (.cons (.bin .shl (.int 1) (.f1 .len (.var 2))) (.cons (.int 6) .nil))))) (.cons (.ret (.tup (.cons (.var 2) (.cons (.mv 5) (.cons (.mv 7) (.cons (.f1 .list (.var 8)) (.cons (.call 10 (.cons (.var 0) (.cons (.var 2) (.cons (.int 2) .nil)))) .nil))))))) .nil)))))))
/-- _law_cell_at -/
def bo2 : Ss := .cons (.ife (.cmp .lt (.var 1) (.f1 .len (.var 0))) (.cons (.ret (.ix (.var 0) (.var 1))) .nil) (.nil)) (.cons (.ret (.int 0)) .nil)
/-- _law_take -/
def bo3 : Ss := .cons (.ife (.cmp .ge (.ix (.var 0) (.int 0)) (.bin .pow (.int 10) (.int 18))) (.cons (.asg 2 (.bin .mod (.ix (.var 0) (.int 0)) (.var 1))) (.cons (.setix 0 [] (.int 0) (.bin .fdiv (.ix (.var 0) (.int 0)) (.var 1))) (.cons (.ret (.mv 2)) .nil))) (.nil)) (.cons (.setix 0 [] (.int 1) (.bin .mod (.bin .addi (.bin .muli (.ix (.var 0) (.int 1)) (.int 48271)) (.int 11)) (.int 2147483647))) (.cons (.asg 3 (.bin .mod (.bin .muli (.ix (.var 0) (.int 1)) (.ix (.var 0) (.int 1))) (.int 2147483629))) (.cons (.ret (.bin .mod (.bin .fdiv (.bin .mod (.bin .muli (.var 3) (.int 69621)) (.int 2147483587)) (.int 8)) (.var 1))) .nil)))
/-- _law_cells -/
def bo4 : Ss := .cons (.asg 3 (.sl (.var 0) (.var 1) (.bin .add (.var 1) (.var 2)))) (.cons (.for (.nm 4) .rng1 (.bin .sub (.int 2) (.f1 .len (.var 3))) .no (.cons (.asg 3 (.bin .add (.var 3) (.lst (.cons (.bin .addi (.bin .addi (.bin .addi (.bin .mod (.call 2 (.cons (.var 0) (.cons (.int 0) .nil))) (.bin .pow (.int 10) (.int 17))) (.bin .muli (.int 11) (.var 4))) (.var 1)) (.int 1)) .nil)))) .nil)) (.cons (.ret (.mv 3)) .nil))
/-- good_worlds -/
def bo5 : Ss := .cons (.asg 2 (.call 14 (.cons (.var 0) (.cons (.var 1) .nil)))) (.cons (.asg 3 (.trg true (.bin .shl (.int 1) (.f1 .len (.ix (.var 0) (.int 0)))))) (.cons (.asg 4 (.f1 .dict (.lc (.nm 7) .e (.var 3) .no (.call 15 (.cons (.var 0) (.cons (.ix (.var 0) (.int 4)) (.cons (.var 7) .nil)))) (.tup (.cons (.var 7) (.cons (.bl true) .nil))) [7]))) (.cons (.for (.nm 5) .e (.rev (.var 2)) .no (.cons (.asg 6 (.dnw)) (.cons (.for (.nm 7) .e (.var 3) .no (.cons (.ife (.and (.call 15 (.cons (.var 0) (.cons (.ix (.var 5) (.int 1)) (.cons (.var 7) .nil)))) (.f1 .all (.lc (.nm 8) .e (.call 16 (.cons (.var 0) (.cons (.var 5) (.cons (.tup (.cons (.var 7) .nil)) .nil)))) .no (.no) (.cmp .isin (.var 8) (.var 4)) [8]))) (.cons (.dput 6 (.var 7) (.bl true)) .nil) (.nil)) .nil)) (.cons (.asg 4 (.mv 6)) .nil)))) (.cons (.ret (.f1 .sorted (.var 4))) .nil))))
/-- worlds_where -/
def bo6 : Ss := .cons (.ret (.lc (.nm 2) .rng1 (.call 18 (.cons (.ix (.var 0) (.int 0)) .nil)) .no (.call 17 (.cons (.ix (.var 0) (.int 0)) (.cons (.var 1) (.cons (.var 2) .nil)))) (.var 2) [2])) .nil
/-- _law_row -/
def bo7 : Ss := .cons (.asg 3 (.lc (.nm 4) .e (.ix (.var 1) (.int 1)) .no (.no) (.ix (.var 4) (.int 0)) [4])) (.cons (.ret (.lc (.nm 5) .rng1 (.call 3 (.cons (.var 0) (.cons (.bin .addi (.var 2) (.int 1)) .nil))) .no (.no) (.ix (.var 3) (.call 3 (.cons (.var 0) (.cons (.f1 .len (.var 3)) .nil)))) [5])) .nil)
/-- _law_crowd -/
def bo8 : Ss := .cons (.asg 3 (.lst (.cons (.call 3 (.cons (.var 0) (.cons (.var 1) .nil))) .nil))) (.cons (.for (.nm 4) .rng1 (.call 3 (.cons (.var 0) (.cons (.var 2) .nil))) .no (.cons (.asg 5 (.call 3 (.cons (.var 0) (.cons (.var 1) .nil)))) (.cons (.ife (.cmp .notin (.var 5) (.var 3)) (.cons (.expr (.mm .append 3 [] (.cons (.mv 5) .nil))) .nil) (.nil)) .nil))) (.cons (.ret (.f1 .tuple (.f1 .sorted (.var 3)))) .nil))
/-- _law_ahead_right -/
def bo9 : Ss := .cons (.asg 3 (.call 5 (.cons (.var 0) (.cons (.f1 .list (.var 2)) .nil)))) (.cons (.asg 4 (.lst (.nil))) (.cons (.for (.nm 5) .e (.call 6 (.cons (.var 0) (.cons (.ix (.var 1) (.int 1)) .nil))) .no (.cons (.ife (.cmp .eq (.lc (.nm 6) .e (.call 19 (.cons (.var 0) (.cons (.ix (.var 1) (.int 0)) (.cons (.var 5) .nil)))) .no (.cmp .notin (.var 6) (.var 3)) (.var 6) [6]) (.lst (.nil))) (.cons (.expr (.mm .append 4 [] (.cons (.mv 5) .nil))) .nil) (.nil)) .nil)) (.cons (.ret (.cmp .eq (.call 5 (.cons (.var 0) (.cons (.bin .add (.lst (.cons (.ix (.var 1) (.int 0)) .nil)) (.var 2)) .nil))) (.var 4))) .nil)))
/-- _law_condition -/
def bo10 : Ss := .cons (.asg 3 (.call 3 (.cons (.var 0) (.cons (.int 8) .nil)))) (.cons (.ife (.and (.cmp .gt (.var 2) (.int 0)) (.cmp .lt (.var 3) (.int 2))) (.cons (.asg 4 (.call 10 (.cons (.var 0) (.cons (.var 1) (.cons (.bin .sub (.var 2) (.int 1)) .nil))))) (.cons (.ret (.tup (.cons (.ix (.lst (.cons (.str "both") (.cons (.str "either") .nil))) (.var 3)) (.cons (.mv 4) (.cons (.call 10 (.cons (.var 0) (.cons (.var 1) (.cons (.bin .sub (.var 2) (.int 1)) .nil)))) .nil))))) .nil)) (.nil)) (.cons (.ife (.and (.cmp .gt (.var 2) (.int 0)) (.cmp .eq (.var 3) (.int 2))) (.cons (.ret (.tup (.cons (.str "not") (.cons (.call 10 (.cons (.var 0) (.cons (.var 1) (.cons (.bin .sub (.var 2) (.int 1)) .nil)))) .nil)))) .nil) (.nil)) (.cons (.ife (.cmp .eq (.var 3) (.int 3)) (.cons (.ret (.tup (.cons (.str "yes") .nil))) .nil) (.nil)) (.cons (.asg 5 (.tup (.cons (.str "fact") (.cons (.ix (.var 1) (.call 3 (.cons (.var 0) (.cons (.f1 .len (.var 1)) .nil)))) .nil)))) (.cons (.ret (.ix (.lst (.cons (.var 5) (.cons (.tup (.cons (.str "not") (.cons (.mv 5) .nil))) .nil))) (.call 3 (.cons (.var 0) (.cons (.int 2) .nil))))) .nil)))))
/-- row_goes -/
def bo11 : Ss := .cons (.asg 3 (.call 14 (.cons (.var 0) (.cons (.var 2) .nil)))) (.cons (.expr (.call 20 (.cons (.var 0) (.cons (.var 1) .nil)))) (.cons (.asg 4 (.lst (.cons (.mv 1) .nil))) (.cons (.for (.tup [5, 6]) .enum (.var 3) .no (.cons (.asg 7 (.call 21 (.cons (.var 0) (.cons (.ix (.var 6) (.int 1)) (.cons (.ix (.var 4) (.neg (.int 1))) .nil))))) (.cons (.ife (.isn true (.var 7)) (.cons (.ret (.tup (.cons (.str "stuck") (.cons (.mv 5) (.cons (.mv 7) .nil))))) .nil) (.nil)) (.cons (.expr (.mm .append 4 [] (.cons (.call 16 (.cons (.var 0) (.cons (.var 6) (.cons (.ix (.var 4) (.neg (.int 1))) .nil)))) .nil))) .nil)))) (.cons (.asg 7 (.call 21 (.cons (.var 0) (.cons (.ix (.var 0) (.int 4)) (.cons (.ix (.var 4) (.neg (.int 1))) .nil))))) (.cons (.ife (.isn true (.var 7)) (.cons (.ret (.tup (.cons (.str "ends") (.cons (.mv 7) .nil)))) .nil) (.nil)) (.cons (.ret (.tup (.cons (.str "well") (.cons (.mv 4) .nil)))) .nil))))))
/-- _law_names -/
def bo12 : Ss := .cons (.asg 2 (.str "abcdefghijklmnopqrstuvwxyz")) (.cons (.asg 3 (.lst (.nil))) (.cons (.for (.nm 4) .rng1 (.var 1) .no (.cons (.asg 5 (.ix (.lst (.cons (.str "") (.cons (.str "") (.cons (.str "do") (.cons (.str "see") (.cons (.str "yes") (.cons (.str "fact") (.cons (.str "not") (.cons (.str "end") .nil))))))))) (.call 3 (.cons (.var 0) (.cons (.int 8) .nil))))) (.cons (.for (.nm 6) .rng1 (.bin .addi (.int 1) (.call 3 (.cons (.var 0) (.cons (.int 4) .nil)))) .no (.cons (.asg 5 (.bin .add (.var 5) (.ix (.var 2) (.call 3 (.cons (.var 0) (.cons (.int 26) .nil)))))) .nil)) (.cons (.wh (.cmp .isin (.var 5) (.var 3)) (.cons (.asg 5 (.bin .add (.sl (.var 5) (.no) (.neg (.int 1))) (.ix (.var 2) (.bin .mod (.bin .addi (.m1 .find (.var 2) (.ix (.var 5) (.neg (.int 1)))) (.int 1)) (.int 26))))) .nil)) (.cons (.expr (.mm .append 3 [] (.cons (.mv 5) .nil))) .nil))))) (.cons (.ret (.mv 3)) .nil)))
/-- _law_deed -/
def bo13 : Ss := .cons (.asg 4 (.tup (.cons (.str "yes") .nil))) (.cons (.ife (.cmp .eq (.call 3 (.cons (.var 0) (.cons (.int 3) .nil))) (.int 0)) (.cons (.asg 4 (.call 10 (.cons (.var 0) (.cons (.var 1) (.cons (.int 1) .nil))))) .nil) (.nil)) (.cons (.asg 5 (.lst (.nil))) (.cons (.for (.nm 6) .rng1 (.bin .addi (.int 1) (.call 3 (.cons (.var 0) (.cons (.var 3) .nil)))) .no (.cons (.asg 7 (.lst (.nil))) (.cons (.for (.nm 8) .rng1 (.call 3 (.cons (.var 0) (.cons (.int 4) .nil))) .no (.cons (.asg 9 (.tup (.cons (.str "yes") .nil))) (.cons (.ife (.cmp .eq (.call 3 (.cons (.var 0) (.cons (.int 2) .nil))) (.int 0)) (.cons (.asg 9 (.call 10 (.cons (.var 0) (.cons (.var 1) (.cons (.int 1) .nil))))) .nil) (.nil)) (.cons (.expr (.mm .append 7 [] (.cons (.tup (.cons (.mv 9) (.cons (.ix (.var 1) (.call 3 (.cons (.var 0) (.cons (.f1 .len (.var 1)) .nil)))) (.cons (.cmp .eq (.call 3 (.cons (.var 0) (.cons (.int 2) .nil))) (.int 0)) .nil)))) .nil))) .nil)))) (.cons (.expr (.mm .append 5 [] (.cons (.mv 7) .nil))) .nil)))) (.cons (.ret (.tup (.cons (.mv 2) (.cons (.mv 4) (.cons (.mv 5) .nil))))) .nil))))
/-- need_deeds -/
def bo14 : Ss := .cons (.ret (.lc (.nm 2) .e (.var 1) .no (.no) (.call 22 (.cons (.var 0) (.cons (.var 2) .nil))) [2])) .nil
/-- holds_in -/
def bo15 : Ss := .cons (.ret (.call 17 (.cons (.ix (.var 0) (.int 0)) (.cons (.var 1) (.cons (.var 2) .nil))))) .nil
/-- all_behind -/
def bo16 : Ss := .cons (.asg 3 (.dnw)) (.cons (.for (.nm 4) .e (.var 2) .no (.cons (.for (.nm 5) .e (.ix (.var 1) (.int 2)) .no (.cons (.dput 3 (.call 23 (.cons (.var 0) (.cons (.var 5) (.cons (.var 4) .nil)))) (.bl true)) .nil)) .nil)) (.cons (.ret (.f1 .tuple (.f1 .sorted (.var 3)))) .nil))
/-- holds -/
def bo17 : Ss := .cons (.ife (.cmp .eq (.ix (.var 1) (.int 0)) (.str "yes")) (.cons (.ret (.bl true)) .nil) (.nil)) (.cons (.ife (.cmp .eq (.ix (.var 1) (.int 0)) (.str "fact")) (.cons (.ret (.cmp .eq (.bin .band (.bin .shr (.var 2) (.m1 .index (.var 0) (.ix (.var 1) (.int 1)))) (.int 1)) (.int 1))) .nil) (.nil)) (.cons (.ife (.cmp .eq (.ix (.var 1) (.int 0)) (.str "not")) (.cons (.ret (.not (.call 17 (.cons (.var 0) (.cons (.ix (.var 1) (.int 1)) (.cons (.var 2) .nil)))))) .nil) (.nil)) (.cons (.ife (.cmp .eq (.ix (.var 1) (.int 0)) (.str "both")) (.cons (.ret (.and (.call 17 (.cons (.var 0) (.cons (.ix (.var 1) (.int 1)) (.cons (.var 2) .nil)))) (.call 17 (.cons (.var 0) (.cons (.ix (.var 1) (.int 2)) (.cons (.var 2) .nil)))))) .nil) (.nil)) (.cons (.ret (.or (.call 17 (.cons (.var 0) (.cons (.ix (.var 1) (.int 1)) (.cons (.var 2) .nil)))) (.call 17 (.cons (.var 0) (.cons (.ix (.var 1) (.int 2)) (.cons (.var 2) .nil)))))) .nil))))
/-- how_many_worlds -/
def bo18 : Ss := .cons (.ret (.bin .shl (.int 1) (.f1 .len (.var 0)))) .nil
/-- worlds_behind -/
def bo19 : Ss := .cons (.asg 3 (.call 22 (.cons (.var 0) (.cons (.var 1) .nil)))) (.cons (.expr (.call 24 (.cons (.var 0) (.cons (.var 2) .nil)))) (.cons (.ife (.not (.call 26 (.cons (.var 0) (.cons (.var 3) (.cons (.tup (.cons (.var 2) .nil)) .nil))))) (.cons (.raise 2) .nil) (.nil)) (.cons (.ret (.call 25 (.cons (.var 0) (.cons (.var 3) (.cons (.var 2) .nil))))) .nil)))
/-- need_crowd -/
def bo20 : Ss := .cons (.ife (.not (.call 27 (.cons (.var 0) (.cons (.var 1) .nil)))) (.cons (.raise 1) .nil) (.nil)) .nil
/-- failing_in -/
def bo21 : Ss := .cons (.for (.nm 3) .e (.var 2) .no (.cons (.ife (.not (.call 15 (.cons (.var 0) (.cons (.var 1) (.cons (.var 3) .nil))))) (.cons (.ret (.mv 3)) .nil) (.nil)) .nil)) (.cons (.ret (.non)) .nil)
/-- need_deed -/
def bo22 : Ss := .cons (.for (.nm 2) .e (.ix (.var 0) (.int 1)) .no (.cons (.ife (.cmp .eq (.ix (.var 2) (.int 0)) (.var 1)) (.cons (.ret (.mv 2)) .nil) (.nil)) .nil)) (.cons (.raise 0) .nil)
/-- changed -/
def bo23 : Ss := .cons (.asg 3 (.ix (.var 0) (.int 0))) (.cons (.asg 4 (.var 2)) (.cons (.for (.tup [5, 6, 7]) .e (.var 1) .no (.cons (.ife (.call 17 (.cons (.var 3) (.cons (.var 5) (.cons (.var 2) .nil)))) (.cons (.asg 8 (.bin .shl (.int 1) (.m1 .index (.var 3) (.var 6)))) (.cons (.asg 4 (.bin .bor (.var 4) (.var 8))) (.cons (.ife (.not (.var 7)) (.cons (.asg 4 (.bin .bxor (.var 4) (.var 8))) .nil) (.nil)) .nil))) (.nil)) .nil)) (.cons (.ret (.mv 4)) .nil)))
/-- need_world -/
def bo24 : Ss := .cons (.ife (.not (.chain .le .lt (.int 0) (.var 1) (.call 18 (.cons (.ix (.var 0) (.int 0)) .nil)))) (.cons (.raise 1) .nil) (.nil)) .nil
/-- behind_by -/
def bo25 : Ss := .cons (.ret (.f1 .list (.call 16 (.cons (.var 0) (.cons (.var 1) (.cons (.tup (.cons (.mv 2) .nil)) .nil)))))) .nil
/-- can_be_done -/
def bo26 : Ss := .cons (.ret (.cmp .eq (.lc (.nm 3) .e (.var 2) .no (.not (.call 17 (.cons (.ix (.var 0) (.int 0)) (.cons (.ix (.var 1) (.int 1)) (.cons (.var 3) .nil))))) (.var 3) [3]) (.lst (.nil)))) .nil
/-- is_crowd -/
def bo27 : Ss := .cons (.ife (.or (.cmp .eq (.var 1) (.tup (.nil))) (.cmp .ne (.lc (.nm 2) .rng2 (.int 1) (.f1 .len (.var 1)) (.cmp .le (.ix (.var 1) (.var 2)) (.ix (.var 1) (.bin .sub (.var 2) (.int 1)))) (.var 2) [2]) (.lst (.nil)))) (.cons (.ret (.bl false)) .nil) (.nil)) (.cons (.ret (.and (.cmp .ge (.ix (.var 1) (.int 0)) (.int 0)) (.cmp .lt (.ix (.var 1) (.neg (.int 1))) (.call 18 (.cons (.ix (.var 0) (.int 0)) .nil))))) .nil)
/-- law -/
def bo28 : Ss := .cons (.asg 1 (.call 0 (.cons (.call 2 (.cons (.var 0) (.cons (.int 0) .nil))) .nil))) (.cons (.asg 2 (.bin .addi (.int 1) (.call 3 (.cons (.var 1) (.cons (.int 4) .nil))))) (.cons (.asg 3 (.fr (.call 1 (.cons (.mv 1) (.cons (.call 4 (.cons (.var 0) (.cons (.int 2) (.cons (.int 5) .nil)))) (.cons (.var 2) (.cons (.int 4) .nil))))))) (.cons (.asg 1 (.call 0 (.cons (.call 2 (.cons (.var 0) (.cons (.int 1) .nil))) .nil))) (.cons (.ife (.cmp .ne (.call 5 (.cons (.var 3) (.cons (.lst (.nil)) .nil))) (.call 6 (.cons (.var 3) (.cons (.ix (.var 3) (.int 4)) .nil)))) (.cons (.ret (.bl false)) .nil) (.nil)) (.cons (.for (.nm 4) .rng1 (.int 6) .no (.cons (.asg 5 (.call 7 (.cons (.var 1) (.cons (.var 3) (.cons (.int 6) .nil))))) (.cons (.asg 6 (.call 5 (.cons (.var 3) (.cons (.var 5) .nil)))) (.cons (.for (.nm 7) .rng1 (.int 4) .no (.cons (.asg 8 (.call 8 (.cons (.var 1) (.cons (.bin .shl (.int 1) (.var 2)) (.cons (.ix (.lst (.cons (.int 1) (.cons (.int 2) (.cons (.int 6) (.cons (.int 3) .nil))))) (.var 7)) .nil))))) (.cons (.asg 9 (.cmp .eq (.lc (.nm 13) .e (.var 8) .no (.cmp .notin (.var 13) (.var 6)) (.var 13) [13]) (.lst (.nil)))) (.cons (.ife (.cmp .ne (.cmp .eq (.ix (.call 11 (.cons (.var 3) (.cons (.var 8) (.cons (.var 5) .nil)))) (.int 0)) (.str "well")) (.var 9)) (.cons (.ret (.bl false)) .nil) (.nil)) .nil)))) (.cons (.asg 10 (.bin .add (.sl (.var 3) (.no) (.int 4)) (.tup (.cons (.call 10 (.cons (.var 1) (.cons (.ix (.var 3) (.int 0)) (.cons (.int 1) .nil)))) .nil)))) (.cons (.asg 11 (.bin .add (.sl (.var 3) (.no) (.int 4)) (.tup (.cons (.tup (.cons (.str "both") (.cons (.ix (.var 3) (.int 4)) (.cons (.ix (.var 10) (.int 4)) .nil)))) .nil)))) (.cons (.asg 12 (.call 5 (.cons (.var 10) (.cons (.var 5) .nil)))) (.cons (.ife (.cmp .ne (.call 5 (.cons (.var 11) (.cons (.var 5) .nil))) (.lc (.nm 13) .e (.var 6) .no (.cmp .isin (.var 13) (.var 12)) (.var 13) [13])) (.cons (.ret (.bl false)) .nil) (.nil)) (.cons (.ife (.not (.call 9 (.cons (.var 3) (.cons (.ix (.ix (.var 3) (.int 1)) (.call 3 (.cons (.var 1) (.cons (.f1 .len (.ix (.var 3) (.int 1))) .nil)))) (.cons (.sl (.var 5) (.no) (.int 4)) .nil))))) (.cons (.ret (.bl false)) .nil) (.nil)) .nil))))))))) (.cons (.ret (.bl true)) .nil))))))
def dfs : List Df := [
  ⟨"_law_reel", "_law_reel", top 28, ["cell"], ["cell"], ⟨1, 1, false, bo0⟩⟩,
  ⟨"_law_house", "_law_house", top 34, ["reel", "cells", "facts", "ways", "names", "deeds", "k", "looks", "firsts"], ["reel", "cells", "facts", "ways"], ⟨4, 9, true, bo1⟩⟩,
  ⟨"_law_cell_at", "_law_cell_at", top 27, ["script", "k"], ["script", "k"], ⟨2, 2, false, bo2⟩⟩,
  ⟨"_law_take", "_law_take", top 29, ["reel", "many", "found", "stir"], ["reel", "many"], ⟨2, 4, true, bo3⟩⟩,
  ⟨"_law_cells", "_law_cells", top 35, ["script", "at", "many", "cells", "k"], ["script", "at", "many"], ⟨3, 5, false, bo4⟩⟩,
  ⟨"good_worlds", "good_worlds", top 25, ["house", "row", "deeds", "every", "good", "deed", "ahead", "world", "one"], ["house", "row"], ⟨2, 9, false, bo5⟩⟩,
  ⟨"worlds_where", "worlds_where", top 9, ["house", "condition", "world"], ["house", "condition"], ⟨2, 3, false, bo6⟩⟩,
  ⟨"_law_row", "_law_row", top 36, ["reel", "house", "most", "names", "deed", "k"], ["reel", "house", "most"], ⟨3, 6, true, bo7⟩⟩,
  ⟨"_law_crowd", "_law_crowd", top 33, ["reel", "many", "most", "found", "k", "world"], ["reel", "many", "most"], ⟨3, 6, true, bo8⟩⟩,
  ⟨"_law_ahead_right", "_law_ahead_right", top 37, ["house", "deed", "row", "good", "due", "world", "one"], ["house", "deed", "row"], ⟨3, 7, false, bo9⟩⟩,
  ⟨"_law_condition", "_law_condition", top 31, ["reel", "facts", "deep", "way", "one", "fact"], ["reel", "facts", "deep"], ⟨3, 6, true, bo10⟩⟩,
  ⟨"row_goes", "row_goes", top 23, ["house", "crowd", "row", "deeds", "crowds", "place", "deed", "world"], ["house", "crowd", "row"], ⟨3, 8, false, bo11⟩⟩,
  ⟨"_law_names", "_law_names", top 30, ["reel", "many", "letters", "names", "k", "name", "j"], ["reel", "many"], ⟨2, 7, true, bo12⟩⟩,
  ⟨"_law_deed", "_law_deed", top 32, ["reel", "facts", "name", "ways", "need", "found", "k", "way", "j", "when"], ["reel", "facts", "name", "ways"], ⟨4, 10, true, bo13⟩⟩,
  ⟨"need_deeds", "need_deeds", top 21, ["house", "row", "name"], ["house", "row"], ⟨2, 3, false, bo14⟩⟩,
  ⟨"holds_in", "holds_in", top 8, ["house", "condition", "world"], ["house", "condition", "world"], ⟨3, 3, false, bo15⟩⟩,
  ⟨"all_behind", "all_behind", top 17, ["house", "deed", "crowd", "found", "world", "way"], ["house", "deed", "crowd"], ⟨3, 6, false, bo16⟩⟩,
  ⟨"holds", "holds", top 6, ["facts", "condition", "world"], ["facts", "condition", "world"], ⟨3, 3, false, bo17⟩⟩,
  ⟨"how_many_worlds", "how_many_worlds", top 7, ["facts"], ["facts"], ⟨1, 1, false, bo18⟩⟩,
  ⟨"worlds_behind", "worlds_behind", top 19, ["house", "deed", "world", "own"], ["house", "deed", "world"], ⟨3, 4, false, bo19⟩⟩,
  ⟨"need_crowd", "need_crowd", top 14, ["house", "crowd"], ["house", "crowd"], ⟨2, 2, false, bo20⟩⟩,
  ⟨"failing_in", "failing_in", top 22, ["house", "condition", "crowd", "world"], ["house", "condition", "crowd"], ⟨3, 4, false, bo21⟩⟩,
  ⟨"need_deed", "need_deed", top 11, ["house", "name", "deed"], ["house", "name"], ⟨2, 3, false, bo22⟩⟩,
  ⟨"changed", "changed", top 16, ["house", "way", "world", "facts", "found", "when", "fact", "truth", "bit"], ["house", "way", "world"], ⟨3, 9, false, bo23⟩⟩,
  ⟨"need_world", "need_world", top 12, ["house", "world"], ["house", "world"], ⟨2, 2, false, bo24⟩⟩,
  ⟨"behind_by", "behind_by", top 18, ["house", "deed", "world"], ["house", "deed", "world"], ⟨3, 3, false, bo25⟩⟩,
  ⟨"can_be_done", "can_be_done", top 15, ["house", "deed", "crowd", "world"], ["house", "deed", "crowd"], ⟨3, 4, false, bo26⟩⟩,
  ⟨"is_crowd", "is_crowd", top 13, ["house", "crowd", "k"], ["house", "crowd"], ⟨2, 3, false, bo27⟩⟩,
  ⟨"law", "law", top 38, ["script", "reel", "facts", "house", "turn", "row", "good", "again", "crowd", "within", "other", "both", "also", "world"], ["script"], ⟨1, 14, false, bo28⟩⟩]
def lw : Lw := ⟨dfs, ["NoDeed", "NoWorld", "NoNeed"], [], false, []⟩
theorem lw_ok : lw.ok = true := by decide +kernel
theorem fd0 : lw.tb.fd 0 = some ⟨1, 1, false, bo0⟩ := rfl
theorem fd1 : lw.tb.fd 1 = some ⟨4, 9, true, bo1⟩ := rfl
theorem fd2 : lw.tb.fd 2 = some ⟨2, 2, false, bo2⟩ := rfl
theorem fd3 : lw.tb.fd 3 = some ⟨2, 4, true, bo3⟩ := rfl
theorem fd4 : lw.tb.fd 4 = some ⟨3, 5, false, bo4⟩ := rfl
theorem fd5 : lw.tb.fd 5 = some ⟨2, 9, false, bo5⟩ := rfl
theorem fd6 : lw.tb.fd 6 = some ⟨2, 3, false, bo6⟩ := rfl
theorem fd7 : lw.tb.fd 7 = some ⟨3, 6, true, bo7⟩ := rfl
theorem fd8 : lw.tb.fd 8 = some ⟨3, 6, true, bo8⟩ := rfl
theorem fd9 : lw.tb.fd 9 = some ⟨3, 7, false, bo9⟩ := rfl
theorem fd10 : lw.tb.fd 10 = some ⟨3, 6, true, bo10⟩ := rfl
theorem fd11 : lw.tb.fd 11 = some ⟨3, 8, false, bo11⟩ := rfl
theorem fd12 : lw.tb.fd 12 = some ⟨2, 7, true, bo12⟩ := rfl
theorem fd13 : lw.tb.fd 13 = some ⟨4, 10, true, bo13⟩ := rfl
theorem fd14 : lw.tb.fd 14 = some ⟨2, 3, false, bo14⟩ := rfl
theorem fd15 : lw.tb.fd 15 = some ⟨3, 3, false, bo15⟩ := rfl
theorem fd16 : lw.tb.fd 16 = some ⟨3, 6, false, bo16⟩ := rfl
theorem fd17 : lw.tb.fd 17 = some ⟨3, 3, false, bo17⟩ := rfl
theorem fd18 : lw.tb.fd 18 = some ⟨1, 1, false, bo18⟩ := rfl
theorem fd19 : lw.tb.fd 19 = some ⟨3, 4, false, bo19⟩ := rfl
theorem fd20 : lw.tb.fd 20 = some ⟨2, 2, false, bo20⟩ := rfl
theorem fd21 : lw.tb.fd 21 = some ⟨3, 4, false, bo21⟩ := rfl
theorem fd22 : lw.tb.fd 22 = some ⟨2, 3, false, bo22⟩ := rfl
theorem fd23 : lw.tb.fd 23 = some ⟨3, 9, false, bo23⟩ := rfl
theorem fd24 : lw.tb.fd 24 = some ⟨2, 2, false, bo24⟩ := rfl
theorem fd25 : lw.tb.fd 25 = some ⟨3, 3, false, bo25⟩ := rfl
theorem fd26 : lw.tb.fd 26 = some ⟨3, 4, false, bo26⟩ := rfl
theorem fd27 : lw.tb.fd 27 = some ⟨2, 3, false, bo27⟩ := rfl
theorem fd28 : lw.tb.fd 28 = some ⟨1, 14, false, bo28⟩ := rfl
/- places: 0 _law_reel, 1 _law_house, 2 _law_cell_at, 3 _law_take, 4 _law_cells, 5 good_worlds, 6 worlds_where, 7 _law_row, 8 _law_crowd, 9 _law_ahead_right, 10 _law_condition, 11 row_goes, 12 _law_names, 13 _law_deed, 14 need_deeds, 15 holds_in, 16 all_behind, 17 holds, 18 how_many_worlds, 19 worlds_behind, 20 need_crowd, 21 failing_in, 22 need_deed, 23 changed, 24 need_world, 25 behind_by, 26 can_be_done, 27 is_crowd, 28 law -/
end K38

section
open PySem L2 PV
open K38
local macro_rules
  | `(tactic| exists $es,*) => `(tactic| simp -implicitDefEqProofs only [xE_int, xE_str, xE_bl, xE_non, xE_fn, xE_glob, xE_var, xE_bin, xE_cmp, xE_isn, xE_not, xE_and, xE_or, xE_ife, xE_tup, xE_lst, xE_ix, xO_all, xOb_t, xOb_f, xE_slA, xE_chain, kCh1_ap, kCh2_ap, kCh3_f, kCh3_t, kCh4_ap, kXf_ap, xE_fr, xE_xis, kXis_ap, xOf_xc, noOwn_xc, xS_try1, kTry_ex, kTry_nx, kTry_rt, kTry_bk, kTry_ct, kTry2_t, kTry2_f, kUn_nx, kUn_rt, xSlot_s, xSlot_n, xFits_s, xFits_n, fits'_is, noXS_nil, noXS_s, noXS_n, noX_int, noX_str, noX_bl, noX_non, noX_scr, noX_tup, noX_lst, noX_dct, noXL_nil, noXL_cons, noXL_ints, noXL_strs, xE_dnw, xS_dput, kDp1_ap, kDp2_ap, kDp3_ap, isOwnD_d, xE_mmA, xE_vf, kVf_ap, xE_sset, kSset_ap, xE_trg, kTrg_i, trgD_t, trgD_f, xE_lc, unh_e, unh_rng1, unh_rng2, unh_enum, unh_zip, unh_hold, backS_nil, backS_cons, xE_rev, xE_f1, xE_f2, xE_isin, xE_m1, xE_neg, xL_nil, xL_cons, xA_nil, xA_cons, xP_nil, xP_cons, xT_e, xV_all, xVb_t, xVb_f, xVb_m, kMv_ap, kKeep_all, kKb_t, kKb_f, kFr0_s, kFr1_ap, kFr_ap, xF_e, xS_asg, xS_asgT, xS_aug, xS_setixA, xSb_t, xS_forA, xS_expr, xS_ret, xS_retn, xS_ife, xS_raise, xS_pass, xS_cont, xS_brk, xB_nil, xB_cons, xTst_all, xTb_t, xTb_f, xC1_s, xC2_v, xC2_t, xC2_a, isVar, xI_e, xI_rng1, xI_rng2, xI_enum, xI_zip, kSq_nx, kSq_rt, kSq_ex, kSq_bk, kSq_ct, kCond_t, kCond_f, kTurn_nx, kTurn_ct, kTurn_bk, kTurn_rt, kTurn_ex, kIf_t, kRet_ap, kB3_ap, kB2_ap, kB1_ap, kC4_ap, kC3_ap, kC2_ap, kC1_ap, kIsn_ap, kNot_ap, kBl_ap, kNo_ap, kTup_ap, kLst_ap, kX4_ap, kX3_ap, kX2_ap, kX1_ap, kSl3_ap, kSl2_ap, kSl1_ap, kF1_ap, kF22_ap, kF21_ap, kIsin_ap, kM2_ap, kM1_ap, kCons2_ap, kL1_ap, kA1_ap, kP2_ap, kP1_ap, kR_ap, kRX_ap, kCallp_ap, kRs_ap, kCallz_ap, kCalla_ap, kPut_ap, kRi_ap, kRXi_ap, kCi3_ap, kCi2_ap, kCi1_ap, kDrop_ap, kRt_ap, kCt2_ap, kCt1_ap, kAsg_ap, kAsgT_ap, kSet1_ap, kExpr_ap, kRtn_ap, kIt_ap, kItems_ap, kRng2_ap, kZip_ap, kFz_ap, hold_e, hold_rng1, hold_rng2, hold_enum, hold_zip, hold_hold, kAnd_t, kAnd_f, kOr_t, kOr_f, kIfe_t, kIfe_f, kO_i, kRev_l, kNeg_i, kTst_b, kAug_i, kAug1_i, kSet2_i, kSet3_l, kRng1_i, kRng22_i, kEnum_l, kZip2_l, kLcT_f, kLcT_t, kLcE_ap, fin_rt0, fin_nx0, fin_ex0, fin_rt1, fin_nx1, slot_0, slot_s, put_0, put_s, oS_some, wr_ok, PV.pure, pureEs, isMv, isNo, root, redo, B2.scal, F1.scal, M1.scal, fits, tcOf_non, tcOf_bool, tcOf_int, tcOf_str, tcOf_list, tcOf_tuple, isTC_bool_non, isTC_bool_bool, isTC_bool_int, isTC_bool_str, isTC_bool_list, isTC_bool_tuple, isTC_bool_dict, isTC_int_non, isTC_int_bool, isTC_int_int, isTC_int_str, isTC_int_list, isTC_int_tuple, isTC_int_dict, isTC_str_non, isTC_str_bool, isTC_str_int, isTC_str_str, isTC_str_list, isTC_str_tuple, isTC_str_dict, isTC_list_non, isTC_list_bool, isTC_list_int, isTC_list_str, isTC_list_list, isTC_list_tuple, isTC_list_dict, isTC_tuple_non, isTC_tuple_bool, isTC_tuple_int, isTC_tuple_str, isTC_tuple_list, isTC_tuple_tuple, isTC_tuple_dict, noOwn_tup, noOwn_lst, noOwn_int, noOwn_str, noOwn_bl, noOwn_non, noOwn_scr, noOwn_dct, noOwnL_nil, noOwnL_cons, canFz_tup, canFz_lst, canFz_int, canFz_str, canFz_bl, canFz_non, canFz_scr, canFzL_nil, canFzL_cons, fz_tup, fz_lst, fz_int, fz_str, fz_bl, fz_non, fz_scr, fzL_nil, fzL_cons, isTys, atI_0, atI_1, atI_2, atI_3, atI_4, ixN_0, ixN_1, ixN_2, eqD_int, Int.reduceLT, Int.reduceLE, Int.reduceNeg, Int.reduceAdd, Int.reduceSub, Int.reduceMul, Nat.reduceAdd, Nat.reduceLT, Nat.reduceLeDiff, Nat.reduceEqDiff, List.mem_cons, bindT, bindTs, Tg.slots, ownOk, wipeE, List.all_cons, List.all_nil, List.any_cons, List.any_nil, List.contains_eq_mem, List.not_mem_nil, List.length_cons, List.length_nil, List.set_cons_zero, List.set_cons_succ, List.cons_append, List.nil_append, Bool.not_true, Bool.not_false, Bool.and_true, Bool.true_and, Bool.and_false, Bool.false_and, Bool.or_true, Bool.true_or, Bool.or_false, Bool.false_or, Bool.and_self, Bool.or_self, Bool.and_eq_true, Bool.or_eq_true, Bool.not_eq_true', true_and, and_true, and_self, false_and, and_false, true_or, or_true, false_or, or_false, or_self, if_true, if_false, ite_true, ite_false, eq_self, Bool.false_eq_true, Option.map_some, Option.map_none, Option.bind_some, Option.some.injEq, decide_true, decide_false, decide_eq_true_eq, szOk_0, szOk_1, szOk_2, szOk_3, szOk_4, szOk_5, szOk_6, szOk_7, szOk_8, szOk_9, szOk_10, szOk_11, szOk_12, szOk_13, szOk_14, szOk_15, szOk_16, szOk_17, szOk_18, szOk_19, szOk_20, isScal_c0, isScal_c1, isScal_c2, isScal_c3, isScal_c4, isNonD_c0, b2_c0, b2_c1, b2_c2, b2_c3, b2_c4, b2_c5, b2_c6, b2_c7, b2_c8, b2_c9, b2_c10, b2_c11, b2_c12, b2_c13, b2_c14, b2_c15, b2_c16, c2_c0, c2_c1, c2_c2, c2_c3, c2_c4, c2_c5, c2_c6, c2_c7, ixS_c0, ixS_c1, ixS_c2, ixS_c3, slS_c0, slS_c1, slS_c2, slS_c3, f1S_c0, f1S_c1, f1S_c2, f1S_c3, f1S_c4, f1S_c5, f1S_c6, f1S_c7, f1S_c8, f1S_c9, f1S_c10, f1S_c11, f1S_c12, f1S_c13, f1S_c14, f1S_c15, f1S_c16, f2S_c0, f2S_c1, m1S_c0, m1S_c1, m1S_c2, m1S_c3, recvOk_c0, recvOk_c1, recvOk_c2, recvOk_c3, recvOk_c4, recvOk_c5, recvOk_c6, isOwnL_c0, mmS_c0, mmS_c1, mmS_c2, mmS_c3, itemsOf_c0, itemsOf_c1, itemsOf_c2, seqOf_c0, seqOf_c1, fd0, fd1, fd2, fd3, fd4, fd5, fd6, fd7, fd8, fd9, fd10, fd11, fd12, fd13, fd14, fd15, fd16, fd17, fd18, fd19, fd20, fd21, fd22, fd23, fd24, fd25, fd26, fd27, fd28, $[$es:term],*])
namespace K38
open PySem L2 PV
/-! ### names -/
def fD (fs : List Str) : D := .lst false (fs.map .str)
theorem noOwnL_str (fs : List Str) : noOwnL (fs.map D.str) = true := noOwnL_strs fs
theorem no_fD {fs : List Str} : noOwn (fD fs) = true := by simp [fD, noOwn, noOwnL_str]
theorem cz_fD {fs : List Str} : canFz (fD fs) = true := noOwn_canFz no_fD
theorem fz_fD {fs : List Str} : fz (fD fs) = fD fs := fz_id no_fD
theorem len_fD {fs : List Str} : f1S .len (fD fs) = some (.int fs.length) := by simp [fD, f1S]
theorem ix_fD {kt : Bool} {fs : List Str} {i : Int} (h0 : 0 ≤ i) (h : i < fs.length) : ∃ s, s ∈ fs ∧ ixS kt (fD fs) (.int i) = some (.str s) := by
  refine ⟨fs[i.toNat]'(by omega), List.getElem_mem _, ?_⟩
  show atI (fs.map D.str) i = _
  rw [atI_nat h0 (by simpa using h)]
  simp
/-- a condition over these facts -/
inductive Cw (fs : List Str) : D → Prop
  | yes : Cw fs (.tup [.str "yes"])
  | fact {s : Str} (h : s ∈ fs) : Cw fs (.tup [.str "fact", .str s])
  | not {c : D} (h : Cw fs c) : Cw fs (.tup [.str "not", c])
  | both {c d : D} (h : Cw fs c) (k : Cw fs d) : Cw fs (.tup [.str "both", c, d])
  | either {c d : D} (h : Cw fs c) (k : Cw fs d) : Cw fs (.tup [.str "either", c, d])
/-- .. of depth n -/
def Cn (fs : List Str) (n : Nat) (c : D) : Prop := noOwn c = true ∧ dat n c = true ∧ Cw fs c
structure Fs (fs : List Str) : Prop where
  pos : 0 < fs.length
  few : fs.length ≤ 10
  nd : fs.Nodup
  str : ∀ s ∈ fs, PyData.canLay0 (.str s) = true
abbrev Wk (k : Nat) (pin : List Nat) : Wd := ⟨lw.tb.fd, PV.run lw.tb 1000 k, lw.tb.gl, 1000, pin, lw.tb.kt, lw.tb.sub⟩
theorem cn_tup {n : Nat} {fs : List Str} {xs : List D} (h1 : noOwnL xs = true) (h2 : datL n xs = true) (h3 : Cw fs (.tup xs)) : Cn fs (n + 1) (.tup xs) := ⟨by rw [noOwn_tup]; exact h1, by simpa [dat] using h2, h3⟩
theorem strOk_of (s : Str) (h : PyData.canLay0 (.str s) = true := by decide +kernel) (n : Nat) : dat n (.str s) = true := by cases n <;> simpa [dat] using h
theorem dat_up : ∀ {n : Nat} {d : D}, dat n d = true → dat (n + 1) d = true := by
  intro n
  induction n with
  | zero => intro d h; cases d <;> simp_all [dat]
  | succ n ih =>
    have hl : ∀ ds, datL n ds = true → datL (n + 1) ds = true := by
      intro ds
      induction ds with
      | nil => intro _; simp [datL]
      | cons x xs k => intro h; simp only [datL, Bool.and_eq_true] at h ⊢; exact ⟨ih h.1, k h.2⟩
    intro d h
    cases d <;> simp_all [dat]
theorem dat_le {n m : Nat} {d : D} (h : dat n d = true) (k : n ≤ m) : dat m d = true := by
  induction k with
  | refl => exact h
  | step _ ih => exact dat_up ih
theorem cn_up {n m : Nat} {fs : List Str} {c : D} (h : Cn fs n c) (k : n ≤ m) : Cn fs m c := by
  induction k with
  | refl => exact h
  | step _ ih => exact ⟨ih.1, dat_up ih.2.1, ih.2.2⟩
theorem dat_canFz : ∀ {n : Nat} {d : D}, dat n d = true → canFz d = true ∧ dat n (fz d) = true ∧ noOwn (fz d) = true := by
  intro n
  induction n with
  | zero => intro d h; cases d <;> simp_all [dat, canFz, fz, noOwn]
  | succ n ih =>
    have hl : ∀ ds, datL n ds = true → canFzL ds = true ∧ datL n (fzL ds) = true ∧ noOwnL (fzL ds) = true := by
      intro ds
      induction ds with
      | nil => intro _; simp [datL, canFzL, fzL, noOwnL]
      | cons x xs k =>
        intro h
        simp only [datL, Bool.and_eq_true] at h
        have h1 := ih h.1
        have h2 := k h.2
        simp [datL, canFzL, fzL, noOwnL, h1, h2]
    intro d h
    cases d with
    | tup xs =>
      have := hl xs (by simpa [dat] using h)
      simp [canFz, fz, dat, noOwn, this]
    | lst o xs =>
      have := hl xs (by simpa [dat] using h)
      simp [canFz, fz, dat, noOwn, this]
    | _ => simp_all [dat, canFz, fz, noOwn]
theorem dat_bl (n : Nat) (b : Bool) : dat n (.bl b) = true := by cases n <;> rfl
theorem datL_app {n : Nat} {xs ys : List D} (h : datL n xs = true) (k : datL n ys = true) : datL n (xs ++ ys) = true := by
  induction xs with
  | nil => exact k
  | cons x xs ih =>
    simp only [List.cons_append, datL, Bool.and_eq_true] at h ⊢
    exact ⟨h.1, ih h.2⟩
/-- a crowd of worlds below m -/
structure Crowd (m : Int) (ns : List Int) : Prop where
  ne : ns ≠ []
  bd : ∀ w ∈ ns, 0 ≤ w ∧ w < m
  up : ns.Pairwise (· < ·)
theorem sortI_perm (ns : List Int) : (sortI ns).Perm ns := List.mergeSort_perm ns _
theorem sortI_le (ns : List Int) : (sortI ns).Pairwise (· ≤ ·) := by
  have := List.pairwise_mergeSort (le := fun a b : Int => decide (a ≤ b)) (fun a b c h k => by simp at *; omega) (fun a b => by simp; omega) ns
  exact this.imp fun h => by simpa using h
theorem crowd_sort {m : Int} {ns : List Int} (h : ns ≠ []) (hb : ∀ w ∈ ns, 0 ≤ w ∧ w < m) (hd : ns.Nodup) : Crowd m (sortI ns) := by
  have p := sortI_perm ns
  refine ⟨fun e => h (by rw [e] at p; exact p.nil_eq.symm), fun w hw => hb w (p.mem_iff.mp hw), ?_⟩
  have h1 := sortI_le ns
  have h2 : (sortI ns).Nodup := p.nodup_iff.mpr hd
  exact (h1.and h2).imp fun h => by have := h.1; have := h.2; omega
end K38

end

section
open PySem L2 PV
open K38
local macro_rules
  | `(tactic| exists $es,*) => `(tactic| simp -implicitDefEqProofs only [xE_int, xE_str, xE_bl, xE_non, xE_fn, xE_glob, xE_var, xE_bin, xE_cmp, xE_isn, xE_not, xE_and, xE_or, xE_ife, xE_tup, xE_lst, xE_ix, xO_all, xOb_t, xOb_f, xE_slA, xE_chain, kCh1_ap, kCh2_ap, kCh3_f, kCh3_t, kCh4_ap, kXf_ap, xE_fr, xE_xis, kXis_ap, xOf_xc, noOwn_xc, xS_try1, kTry_ex, kTry_nx, kTry_rt, kTry_bk, kTry_ct, kTry2_t, kTry2_f, kUn_nx, kUn_rt, xSlot_s, xSlot_n, xFits_s, xFits_n, fits'_is, noXS_nil, noXS_s, noXS_n, noX_int, noX_str, noX_bl, noX_non, noX_scr, noX_tup, noX_lst, noX_dct, noXL_nil, noXL_cons, noXL_ints, noXL_strs, xE_dnw, xS_dput, kDp1_ap, kDp2_ap, kDp3_ap, isOwnD_d, xE_mmA, xE_vf, kVf_ap, xE_sset, kSset_ap, xE_trg, kTrg_i, trgD_t, trgD_f, xE_lc, unh_e, unh_rng1, unh_rng2, unh_enum, unh_zip, unh_hold, backS_nil, backS_cons, xE_rev, xE_f1, xE_f2, xE_isin, xE_m1, xE_neg, xL_nil, xL_cons, xA_nil, xA_cons, xP_nil, xP_cons, xT_e, xV_all, xVb_t, xVb_f, xVb_m, kMv_ap, kKeep_all, kKb_t, kKb_f, kFr0_s, kFr1_ap, kFr_ap, xF_e, xS_asg, xS_asgT, xS_aug, xS_setixA, xSb_t, xS_forA, xS_expr, xS_ret, xS_retn, xS_ife, xS_raise, xS_pass, xS_cont, xS_brk, xB_nil, xB_cons, xTst_all, xTb_t, xTb_f, xC1_s, xC2_v, xC2_t, xC2_a, isVar, xI_e, xI_rng1, xI_rng2, xI_enum, xI_zip, kSq_nx, kSq_rt, kSq_ex, kSq_bk, kSq_ct, kCond_t, kCond_f, kTurn_nx, kTurn_ct, kTurn_bk, kTurn_rt, kTurn_ex, kIf_t, kRet_ap, kB3_ap, kB2_ap, kB1_ap, kC4_ap, kC3_ap, kC2_ap, kC1_ap, kIsn_ap, kNot_ap, kBl_ap, kNo_ap, kTup_ap, kLst_ap, kX4_ap, kX3_ap, kX2_ap, kX1_ap, kSl3_ap, kSl2_ap, kSl1_ap, kF1_ap, kF22_ap, kF21_ap, kIsin_ap, kM2_ap, kM1_ap, kCons2_ap, kL1_ap, kA1_ap, kP2_ap, kP1_ap, kR_ap, kRX_ap, kCallp_ap, kRs_ap, kCallz_ap, kCalla_ap, kPut_ap, kRi_ap, kRXi_ap, kCi3_ap, kCi2_ap, kCi1_ap, kDrop_ap, kRt_ap, kCt2_ap, kCt1_ap, kAsg_ap, kAsgT_ap, kSet1_ap, kExpr_ap, kRtn_ap, kIt_ap, kItems_ap, kRng2_ap, kZip_ap, kFz_ap, hold_e, hold_rng1, hold_rng2, hold_enum, hold_zip, hold_hold, kAnd_t, kAnd_f, kOr_t, kOr_f, kIfe_t, kIfe_f, kO_i, kRev_l, kNeg_i, kTst_b, kAug_i, kAug1_i, kSet2_i, kSet3_l, kRng1_i, kRng22_i, kEnum_l, kZip2_l, kLcT_f, kLcT_t, kLcE_ap, fin_rt0, fin_nx0, fin_ex0, fin_rt1, fin_nx1, slot_0, slot_s, put_0, put_s, oS_some, wr_ok, PV.pure, pureEs, isMv, isNo, root, redo, B2.scal, F1.scal, M1.scal, fits, tcOf_non, tcOf_bool, tcOf_int, tcOf_str, tcOf_list, tcOf_tuple, isTC_bool_non, isTC_bool_bool, isTC_bool_int, isTC_bool_str, isTC_bool_list, isTC_bool_tuple, isTC_bool_dict, isTC_int_non, isTC_int_bool, isTC_int_int, isTC_int_str, isTC_int_list, isTC_int_tuple, isTC_int_dict, isTC_str_non, isTC_str_bool, isTC_str_int, isTC_str_str, isTC_str_list, isTC_str_tuple, isTC_str_dict, isTC_list_non, isTC_list_bool, isTC_list_int, isTC_list_str, isTC_list_list, isTC_list_tuple, isTC_list_dict, isTC_tuple_non, isTC_tuple_bool, isTC_tuple_int, isTC_tuple_str, isTC_tuple_list, isTC_tuple_tuple, isTC_tuple_dict, noOwn_tup, noOwn_lst, noOwn_int, noOwn_str, noOwn_bl, noOwn_non, noOwn_scr, noOwn_dct, noOwnL_nil, noOwnL_cons, canFz_tup, canFz_lst, canFz_int, canFz_str, canFz_bl, canFz_non, canFz_scr, canFzL_nil, canFzL_cons, fz_tup, fz_lst, fz_int, fz_str, fz_bl, fz_non, fz_scr, fzL_nil, fzL_cons, isTys, atI_0, atI_1, atI_2, atI_3, atI_4, ixN_0, ixN_1, ixN_2, eqD_int, Int.reduceLT, Int.reduceLE, Int.reduceNeg, Int.reduceAdd, Int.reduceSub, Int.reduceMul, Nat.reduceAdd, Nat.reduceLT, Nat.reduceLeDiff, Nat.reduceEqDiff, List.mem_cons, bindT, bindTs, Tg.slots, ownOk, wipeE, List.all_cons, List.all_nil, List.any_cons, List.any_nil, List.contains_eq_mem, List.not_mem_nil, List.length_cons, List.length_nil, List.set_cons_zero, List.set_cons_succ, List.cons_append, List.nil_append, Bool.not_true, Bool.not_false, Bool.and_true, Bool.true_and, Bool.and_false, Bool.false_and, Bool.or_true, Bool.true_or, Bool.or_false, Bool.false_or, Bool.and_self, Bool.or_self, Bool.and_eq_true, Bool.or_eq_true, Bool.not_eq_true', true_and, and_true, and_self, false_and, and_false, true_or, or_true, false_or, or_false, or_self, if_true, if_false, ite_true, ite_false, eq_self, Bool.false_eq_true, Option.map_some, Option.map_none, Option.bind_some, Option.some.injEq, decide_true, decide_false, decide_eq_true_eq, szOk_0, szOk_1, szOk_2, szOk_3, szOk_4, szOk_5, szOk_6, szOk_7, szOk_8, szOk_9, szOk_10, szOk_11, szOk_12, szOk_13, szOk_14, szOk_15, szOk_16, szOk_17, szOk_18, szOk_19, szOk_20, isScal_c0, isScal_c1, isScal_c2, isScal_c3, isScal_c4, isNonD_c0, b2_c0, b2_c1, b2_c2, b2_c3, b2_c4, b2_c5, b2_c6, b2_c7, b2_c8, b2_c9, b2_c10, b2_c11, b2_c12, b2_c13, b2_c14, b2_c15, b2_c16, c2_c0, c2_c1, c2_c2, c2_c3, c2_c4, c2_c5, c2_c6, c2_c7, ixS_c0, ixS_c1, ixS_c2, ixS_c3, slS_c0, slS_c1, slS_c2, slS_c3, f1S_c0, f1S_c1, f1S_c2, f1S_c3, f1S_c4, f1S_c5, f1S_c6, f1S_c7, f1S_c8, f1S_c9, f1S_c10, f1S_c11, f1S_c12, f1S_c13, f1S_c14, f1S_c15, f1S_c16, f2S_c0, f2S_c1, m1S_c0, m1S_c1, m1S_c2, m1S_c3, recvOk_c0, recvOk_c1, recvOk_c2, recvOk_c3, recvOk_c4, recvOk_c5, recvOk_c6, isOwnL_c0, mmS_c0, mmS_c1, mmS_c2, mmS_c3, itemsOf_c0, itemsOf_c1, itemsOf_c2, seqOf_c0, seqOf_c1, fd0, fd1, fd2, fd3, fd4, fd5, fd6, fd7, fd8, fd9, fd10, fd11, fd12, fd13, fd14, fd15, fd16, fd17, fd18, fd19, fd20, fd21, fd22, fd23, fd24, fd25, fd26, fd27, fd28, $[$es:term],*])
namespace K38
open PySem L2 PV
/-- a condition -/
inductive Cd
  | yes
  | fact (s : Str)
  | not (c : Cd)
  | both (a b : Cd)
  | either (a b : Cd)
def Cd.toD : Cd → D
  | .yes => .tup [.str "yes"]
  | .fact s => .tup [.str "fact", .str s]
  | .not c => .tup [.str "not", c.toD]
  | .both a b => .tup [.str "both", a.toD, b.toD]
  | .either a b => .tup [.str "either", a.toD, b.toD]
def Cd.over (fs : List Str) : Cd → Prop
  | .yes => True
  | .fact s => s ∈ fs
  | .not c => c.over fs
  | .both a b => a.over fs ∧ b.over fs
  | .either a b => a.over fs ∧ b.over fs
def Cd.deep : Cd → Nat
  | .yes => 0
  | .fact _ => 0
  | .not c => 1 + c.deep
  | .both a b => 1 + max a.deep b.deep
  | .either a b => 1 + max a.deep b.deep
/-- the place of a name -/
def plc (s : Str) : List Str → Nat
  | [] => 0
  | x :: xs => if (x == s) = true then 0 else plc s xs + 1
/-- whether it holds -/
def Cd.tru (fs : List Str) (w : Int) : Cd → Bool
  | .yes => true
  | .fact s => decide (w / 2 ^ plc s fs % 2 = 1)
  | .not c => !c.tru fs w
  | .both a b => a.tru fs w && b.tru fs w
  | .either a b => a.tru fs w || b.tru fs w
theorem cd_of {fs : List Str} {c : D} (h : Cw fs c) : ∃ d : Cd, c = d.toD ∧ d.over fs := by
  induction h with
  | yes => exact ⟨.yes, rfl, trivial⟩
  | fact h => exact ⟨.fact _, rfl, h⟩
  | not h ih => obtain ⟨d, rfl, o⟩ := ih; exact ⟨.not d, rfl, o⟩
  | both h k ih ik => obtain ⟨d, rfl, o⟩ := ih; obtain ⟨e, rfl, p⟩ := ik; exact ⟨.both d e, rfl, o, p⟩
  | either h k ih ik => obtain ⟨d, rfl, o⟩ := ih; obtain ⟨e, rfl, p⟩ := ik; exact ⟨.either d e, rfl, o, p⟩
theorem cd_deep : ∀ (c : Cd) {n : Nat}, dat n c.toD = true → c.deep + 1 ≤ n
  | .yes, n, h => by cases n <;> simp [Cd.toD, dat] at h ⊢; simp [Cd.deep]
  | .fact s, n, h => by cases n <;> simp [Cd.toD, dat] at h ⊢; simp [Cd.deep]
  | .not c, n, h => by
    cases n with
    | zero => simp [Cd.toD, dat] at h
    | succ n =>
      simp [Cd.toD, dat, datL] at h
      have := cd_deep c h.2
      simp only [Cd.deep]; omega
  | .both a b, n, h => by
    cases n with
    | zero => simp [Cd.toD, dat] at h
    | succ n =>
      simp [Cd.toD, dat, datL] at h
      have := cd_deep a h.2.1
      have := cd_deep b h.2.2
      simp only [Cd.deep]; omega
  | .either a b, n, h => by
    cases n with
    | zero => simp [Cd.toD, dat] at h
    | succ n =>
      simp [Cd.toD, dat, datL] at h
      have := cd_deep a h.2.1
      have := cd_deep b h.2.2
      simp only [Cd.deep]; omega
/-- a condition of at most this depth -/
structure Co (fs : List Str) (n : Nat) (c : Cd) : Prop where
  over : c.over fs
  deep : c.deep ≤ n
  no : noOwn c.toD = true
  dat : dat (n + 1) c.toD = true
theorem co_of {fs : List Str} {n : Nat} {c : D} (h : Cn fs (n + 1) c) : ∃ d : Cd, c = d.toD ∧ Co fs n d := by
  obtain ⟨d, rfl, o⟩ := cd_of h.2.2
  exact ⟨d, rfl, o, by have := cd_deep d h.2.1; omega, h.1, h.2.1⟩
theorem cd_no (c : Cd) : noOwn c.toD = true := by
  induction c with
  | yes => rfl
  | fact s => rfl
  | not c ih => simp [Cd.toD, noOwn_tup, noOwnL, noOwn_str, ih]
  | both a b iha ihb => simp [Cd.toD, noOwn_tup, noOwnL, noOwn_str, iha, ihb]
  | either a b iha ihb => simp [Cd.toD, noOwn_tup, noOwnL, noOwn_str, iha, ihb]
theorem eqD_str2 {a b : Str} (h : PyData.canLay0 (.str a) = true) (k : PyData.canLay0 (.str b) = true) : eqD (.str a) (.str b) = some (a == b) := by
  have h1 : SeqAt.shaped (PyData.str a) = true := by simp [SeqAt.shaped, h, PyData.depth]
  have h2 : SeqAt.shaped (PyData.str b) = true := by simp [SeqAt.shaped, k, PyData.depth]
  simp only [eqD, py, h1, h2, Bool.and_self, if_true]
  rfl
theorem lit_eq (a b : Str) (r : Bool) (h : (PyData.canLay0 (.str a) && PyData.canLay0 (.str b) && ((a == b) == r)) = true := by decide +kernel) : eqD (.str a) (.str b) = some r := by
  simp only [Bool.and_eq_true, beq_iff_eq] at h
  rw [eqD_str2 h.1.1 h.1.2, h.2]
theorem pyL_strs (fs : List Str) : pyL (fs.map .str) = some (fs.map PyData.str) := by
  induction fs with
  | nil => rfl
  | cons x xs ih => simp only [List.map_cons, pyL, py, ih]
theorem plc_lt {s : Str} {fs : List Str} (h : s ∈ fs) : plc s fs < fs.length := by
  induction fs with
  | nil => cases h
  | cons x xs ih =>
    simp only [plc]
    by_cases e : (x == s) = true
    · rw [if_pos e]; simp
    · rw [if_neg e]
      rcases List.mem_cons.mp h with rfl | h
      · exact absurd (by simp) e
      · have := ih h; simp; omega
theorem idx_plc {s : Str} {fs : List Str} (h : s ∈ fs) : idxD (.str s) (fs.map PyData.str) = some (plc s fs) := by
  induction fs with
  | nil => cases h
  | cons x xs ih =>
    have e0 : PyData.eqv (.str x) (.str s) = (x == s) := rfl
    simp only [List.map_cons, idxD, e0, plc]
    by_cases e : (x == s) = true
    · rw [if_pos e, if_pos e]
    · rw [if_neg e, if_neg e]
      rcases List.mem_cons.mp h with rfl | h
      · exact absurd (by simp) e
      · rw [ih h]; rfl
theorem index_fD {fs : List Str} (hf : Fs fs) {s : Str} (h : s ∈ fs) : m1S .index (fD fs) (.str s) = some (.int (plc s fs : Nat)) := by
  have h1 : SeqAt.shaped (PyData.str s) = true := by simp [SeqAt.shaped, hf.str s h, PyData.depth]
  have hd : dat 1 (fD fs) = true := by
    simp only [fD, dat]
    have : ∀ xs : List Str, (∀ s ∈ xs, PyData.canLay0 (.str s) = true) → datL 0 (xs.map D.str) = true := by
      intro xs
      induction xs with
      | nil => intro _; rfl
      | cons x xs ih => intro h; simp only [List.map_cons, datL, Bool.and_eq_true]; exact ⟨by simpa [dat] using h x (by simp), ih fun s hs => h s (by simp [hs])⟩
    exact this fs hf.str
  obtain ⟨z, h2, h3⟩ := shaped_of hd (by omega)
  simp only [fD, py, pyL_strs, Option.map_some, Option.some.injEq] at h2
  subst h2
  simp only [fD, m1S, py, pyL_strs, h1, h3, Bool.and_self, if_true, idx_plc h, Option.map_some]
theorem bit1 (x : Int) (i : Nat) : Builtin.bitAnd (x / 2 ^ i) 1 = x / 2 ^ i % 2 := PyProof.Rows.bitAnd_m1 _
end K38

end

section
open PySem L2 PV
open K38
local macro_rules
  | `(tactic| exists $es,*) => `(tactic| simp -implicitDefEqProofs only [xE_int, xE_str, xE_bl, xE_non, xE_fn, xE_glob, xE_var, xE_bin, xE_cmp, xE_isn, xE_not, xE_and, xE_or, xE_ife, xE_tup, xE_lst, xE_ix, xO_all, xOb_t, xOb_f, xE_slA, xE_chain, kCh1_ap, kCh2_ap, kCh3_f, kCh3_t, kCh4_ap, kXf_ap, xE_fr, xE_xis, kXis_ap, xOf_xc, noOwn_xc, xS_try1, kTry_ex, kTry_nx, kTry_rt, kTry_bk, kTry_ct, kTry2_t, kTry2_f, kUn_nx, kUn_rt, xSlot_s, xSlot_n, xFits_s, xFits_n, fits'_is, noXS_nil, noXS_s, noXS_n, noX_int, noX_str, noX_bl, noX_non, noX_scr, noX_tup, noX_lst, noX_dct, noXL_nil, noXL_cons, noXL_ints, noXL_strs, xE_dnw, xS_dput, kDp1_ap, kDp2_ap, kDp3_ap, isOwnD_d, xE_mmA, xE_vf, kVf_ap, xE_sset, kSset_ap, xE_trg, kTrg_i, trgD_t, trgD_f, xE_lc, unh_e, unh_rng1, unh_rng2, unh_enum, unh_zip, unh_hold, backS_nil, backS_cons, xE_rev, xE_f1, xE_f2, xE_isin, xE_m1, xE_neg, xL_nil, xL_cons, xA_nil, xA_cons, xP_nil, xP_cons, xT_e, xV_all, xVb_t, xVb_f, xVb_m, kMv_ap, kKeep_all, kKb_t, kKb_f, kFr0_s, kFr1_ap, kFr_ap, xF_e, xS_asg, xS_asgT, xS_aug, xS_setixA, xSb_t, xS_forA, xS_expr, xS_ret, xS_retn, xS_ife, xS_raise, xS_pass, xS_cont, xS_brk, xB_nil, xB_cons, xTst_all, xTb_t, xTb_f, xC1_s, xC2_v, xC2_t, xC2_a, isVar, xI_e, xI_rng1, xI_rng2, xI_enum, xI_zip, kSq_nx, kSq_rt, kSq_ex, kSq_bk, kSq_ct, kCond_t, kCond_f, kTurn_nx, kTurn_ct, kTurn_bk, kTurn_rt, kTurn_ex, kIf_t, kRet_ap, kB3_ap, kB2_ap, kB1_ap, kC4_ap, kC3_ap, kC2_ap, kC1_ap, kIsn_ap, kNot_ap, kBl_ap, kNo_ap, kTup_ap, kLst_ap, kX4_ap, kX3_ap, kX2_ap, kX1_ap, kSl3_ap, kSl2_ap, kSl1_ap, kF1_ap, kF22_ap, kF21_ap, kIsin_ap, kM2_ap, kM1_ap, kCons2_ap, kL1_ap, kA1_ap, kP2_ap, kP1_ap, kR_ap, kRX_ap, kCallp_ap, kRs_ap, kCallz_ap, kCalla_ap, kPut_ap, kRi_ap, kRXi_ap, kCi3_ap, kCi2_ap, kCi1_ap, kDrop_ap, kRt_ap, kCt2_ap, kCt1_ap, kAsg_ap, kAsgT_ap, kSet1_ap, kExpr_ap, kRtn_ap, kIt_ap, kItems_ap, kRng2_ap, kZip_ap, kFz_ap, hold_e, hold_rng1, hold_rng2, hold_enum, hold_zip, hold_hold, kAnd_t, kAnd_f, kOr_t, kOr_f, kIfe_t, kIfe_f, kO_i, kRev_l, kNeg_i, kTst_b, kAug_i, kAug1_i, kSet2_i, kSet3_l, kRng1_i, kRng22_i, kEnum_l, kZip2_l, kLcT_f, kLcT_t, kLcE_ap, fin_rt0, fin_nx0, fin_ex0, fin_rt1, fin_nx1, slot_0, slot_s, put_0, put_s, oS_some, wr_ok, PV.pure, pureEs, isMv, isNo, root, redo, B2.scal, F1.scal, M1.scal, fits, tcOf_non, tcOf_bool, tcOf_int, tcOf_str, tcOf_list, tcOf_tuple, isTC_bool_non, isTC_bool_bool, isTC_bool_int, isTC_bool_str, isTC_bool_list, isTC_bool_tuple, isTC_bool_dict, isTC_int_non, isTC_int_bool, isTC_int_int, isTC_int_str, isTC_int_list, isTC_int_tuple, isTC_int_dict, isTC_str_non, isTC_str_bool, isTC_str_int, isTC_str_str, isTC_str_list, isTC_str_tuple, isTC_str_dict, isTC_list_non, isTC_list_bool, isTC_list_int, isTC_list_str, isTC_list_list, isTC_list_tuple, isTC_list_dict, isTC_tuple_non, isTC_tuple_bool, isTC_tuple_int, isTC_tuple_str, isTC_tuple_list, isTC_tuple_tuple, isTC_tuple_dict, noOwn_tup, noOwn_lst, noOwn_int, noOwn_str, noOwn_bl, noOwn_non, noOwn_scr, noOwn_dct, noOwnL_nil, noOwnL_cons, canFz_tup, canFz_lst, canFz_int, canFz_str, canFz_bl, canFz_non, canFz_scr, canFzL_nil, canFzL_cons, fz_tup, fz_lst, fz_int, fz_str, fz_bl, fz_non, fz_scr, fzL_nil, fzL_cons, isTys, atI_0, atI_1, atI_2, atI_3, atI_4, ixN_0, ixN_1, ixN_2, eqD_int, Int.reduceLT, Int.reduceLE, Int.reduceNeg, Int.reduceAdd, Int.reduceSub, Int.reduceMul, Nat.reduceAdd, Nat.reduceLT, Nat.reduceLeDiff, Nat.reduceEqDiff, List.mem_cons, bindT, bindTs, Tg.slots, ownOk, wipeE, List.all_cons, List.all_nil, List.any_cons, List.any_nil, List.contains_eq_mem, List.not_mem_nil, List.length_cons, List.length_nil, List.set_cons_zero, List.set_cons_succ, List.cons_append, List.nil_append, Bool.not_true, Bool.not_false, Bool.and_true, Bool.true_and, Bool.and_false, Bool.false_and, Bool.or_true, Bool.true_or, Bool.or_false, Bool.false_or, Bool.and_self, Bool.or_self, Bool.and_eq_true, Bool.or_eq_true, Bool.not_eq_true', true_and, and_true, and_self, false_and, and_false, true_or, or_true, false_or, or_false, or_self, if_true, if_false, ite_true, ite_false, eq_self, Bool.false_eq_true, Option.map_some, Option.map_none, Option.bind_some, Option.some.injEq, decide_true, decide_false, decide_eq_true_eq, szOk_0, szOk_1, szOk_2, szOk_3, szOk_4, szOk_5, szOk_6, szOk_7, szOk_8, szOk_9, szOk_10, szOk_11, szOk_12, szOk_13, szOk_14, szOk_15, szOk_16, szOk_17, szOk_18, szOk_19, szOk_20, isScal_c0, isScal_c1, isScal_c2, isScal_c3, isScal_c4, isNonD_c0, b2_c0, b2_c1, b2_c2, b2_c3, b2_c4, b2_c5, b2_c6, b2_c7, b2_c8, b2_c9, b2_c10, b2_c11, b2_c12, b2_c13, b2_c14, b2_c15, b2_c16, c2_c0, c2_c1, c2_c2, c2_c3, c2_c4, c2_c5, c2_c6, c2_c7, ixS_c0, ixS_c1, ixS_c2, ixS_c3, slS_c0, slS_c1, slS_c2, slS_c3, f1S_c0, f1S_c1, f1S_c2, f1S_c3, f1S_c4, f1S_c5, f1S_c6, f1S_c7, f1S_c8, f1S_c9, f1S_c10, f1S_c11, f1S_c12, f1S_c13, f1S_c14, f1S_c15, f1S_c16, f2S_c0, f2S_c1, m1S_c0, m1S_c1, m1S_c2, m1S_c3, recvOk_c0, recvOk_c1, recvOk_c2, recvOk_c3, recvOk_c4, recvOk_c5, recvOk_c6, isOwnL_c0, mmS_c0, mmS_c1, mmS_c2, mmS_c3, itemsOf_c0, itemsOf_c1, itemsOf_c2, seqOf_c0, seqOf_c1, fd0, fd1, fd2, fd3, fd4, fd5, fd6, fd7, fd8, fd9, fd10, fd11, fd12, fd13, fd14, fd15, fd16, fd17, fd18, fd19, fd20, fd21, fd22, fd23, fd24, fd25, fd26, fd27, fd28, $[$es:term],*])
namespace K38
open PySem L2 PV
theorem holds_ok {fs : List Str} (hf : Fs fs) : ∀ (c : Cd) (ho : c.over fs) {k : Nat} (hk : c.deep + 1 ≤ k) {w : Int} {Q : D → Option D → Prop} {X : Nat → Prop} (q : Q (.bl (c.tru fs w)) none), wr (run lw.tb 1000 k 17 [fD fs, c.toD, .int w]) Q X := by
  intro c
  induction c with
  | yes =>
    intro ho k hk w Q X q
    obtain ⟨k, rfl⟩ : ∃ k', k = k' + 1 := ⟨k - 1, by omega⟩
    rw [wr_runE fd17 rfl rfl rfl]
    show xB (Wk k []) bo17 [some (fD fs), some Cd.yes.toD, some (.int w)] _
    unfold bo17
    have e1 := lit_eq "yes" "yes" true
    exists Cd.toD, e1
    exact q
  | fact s =>
    intro ho k hk w Q X q
    obtain ⟨k, rfl⟩ : ∃ k', k = k' + 1 := ⟨k - 1, by omega⟩
    rw [wr_runE fd17 rfl rfl rfl]
    show xB (Wk k []) bo17 [some (fD fs), some (Cd.fact s).toD, some (.int w)] _
    unfold bo17
    have e1 := lit_eq "fact" "yes" false
    have e2 := lit_eq "fact" "fact" true
    have e3 := index_fD hf ho
    have e4 : recvOk .index (fD fs) = true := rfl
    have e5 : (0 : Int) ≤ (plc s fs : Nat) := by omega
    have e6 : (((plc s fs : Nat) : Int)).toNat = plc s fs := by omega
    exists Cd.toD, e1, e2, e3, e4, e5, e6, no_fD, bit1
    exact q
  | not c ih =>
    intro ho k hk w Q X q
    simp only [Cd.deep] at hk
    obtain ⟨k, rfl⟩ : ∃ k', k = k' + 1 := ⟨k - 1, by omega⟩
    rw [wr_runE fd17 rfl rfl rfl]
    show xB (Wk k []) bo17 [some (fD fs), some (Cd.not c).toD, some (.int w)] _
    unfold bo17
    have e1 := lit_eq "not" "yes" false
    have e2 := lit_eq "not" "fact" false
    have e3 := lit_eq "not" "not" true
    have hc := cd_no c
    exists Cd.toD, e1, e2, e3
    refine xE_callp (fd := _) fd17 rfl ?_
    exists hc, no_fD
    refine ih ho (k := k) (by omega) ?_
    exists if_true
    exact q
  | both a b iha ihb =>
    intro ho k hk w Q X q
    simp only [Cd.deep] at hk
    obtain ⟨k, rfl⟩ : ∃ k', k = k' + 1 := ⟨k - 1, by omega⟩
    rw [wr_runE fd17 rfl rfl rfl]
    show xB (Wk k []) bo17 [some (fD fs), some (Cd.both a b).toD, some (.int w)] _
    unfold bo17
    have e1 := lit_eq "both" "yes" false
    have e2 := lit_eq "both" "fact" false
    have e3 := lit_eq "both" "not" false
    have e4 := lit_eq "both" "both" true
    have ha := cd_no a
    have hb := cd_no b
    exists Cd.toD, e1, e2, e3, e4
    refine xE_callp (fd := _) fd17 rfl ?_
    exists ha, no_fD
    refine iha ho.1 (k := k) (by omega) ?_
    exists if_true
    simp only [Cd.tru] at q
    cases hA : a.tru fs w with
    | false =>
      rw [hA] at q
      exists if_true
      exact q
    | true =>
      rw [hA] at q
      exists if_true
      refine xE_callp (fd := _) fd17 rfl ?_
      exists hb, no_fD
      refine ihb ho.2 (k := k) (by omega) ?_
      exists if_true
      exact q
  | either a b iha ihb =>
    intro ho k hk w Q X q
    simp only [Cd.deep] at hk
    obtain ⟨k, rfl⟩ : ∃ k', k = k' + 1 := ⟨k - 1, by omega⟩
    rw [wr_runE fd17 rfl rfl rfl]
    show xB (Wk k []) bo17 [some (fD fs), some (Cd.either a b).toD, some (.int w)] _
    unfold bo17
    have e1 := lit_eq "either" "yes" false
    have e2 := lit_eq "either" "fact" false
    have e3 := lit_eq "either" "not" false
    have e4 := lit_eq "either" "both" false
    have ha := cd_no a
    have hb := cd_no b
    exists Cd.toD, e1, e2, e3, e4
    refine xE_callp (fd := _) fd17 rfl ?_
    exists ha, no_fD
    refine iha ho.1 (k := k) (by omega) ?_
    exists if_true
    simp only [Cd.tru] at q
    cases hA : a.tru fs w with
    | true =>
      rw [hA] at q
      exists if_true
      exact q
    | false =>
      rw [hA] at q
      exists if_true
      refine xE_callp (fd := _) fd17 rfl ?_
      exists hb, no_fD
      refine ihb ho.2 (k := k) (by omega) ?_
      exists if_true
      exact q
end K38

end

section
open PySem L2 PV
open K38
local macro_rules
  | `(tactic| exists $es,*) => `(tactic| simp -implicitDefEqProofs only [xE_int, xE_str, xE_bl, xE_non, xE_fn, xE_glob, xE_var, xE_bin, xE_cmp, xE_isn, xE_not, xE_and, xE_or, xE_ife, xE_tup, xE_lst, xE_ix, xO_all, xOb_t, xOb_f, xE_slA, xE_chain, kCh1_ap, kCh2_ap, kCh3_f, kCh3_t, kCh4_ap, kXf_ap, xE_fr, xE_xis, kXis_ap, xOf_xc, noOwn_xc, xS_try1, kTry_ex, kTry_nx, kTry_rt, kTry_bk, kTry_ct, kTry2_t, kTry2_f, kUn_nx, kUn_rt, xSlot_s, xSlot_n, xFits_s, xFits_n, fits'_is, noXS_nil, noXS_s, noXS_n, noX_int, noX_str, noX_bl, noX_non, noX_scr, noX_tup, noX_lst, noX_dct, noXL_nil, noXL_cons, noXL_ints, noXL_strs, xE_dnw, xS_dput, kDp1_ap, kDp2_ap, kDp3_ap, isOwnD_d, xE_mmA, xE_vf, kVf_ap, xE_sset, kSset_ap, xE_trg, kTrg_i, trgD_t, trgD_f, xE_lc, unh_e, unh_rng1, unh_rng2, unh_enum, unh_zip, unh_hold, backS_nil, backS_cons, xE_rev, xE_f1, xE_f2, xE_isin, xE_m1, xE_neg, xL_nil, xL_cons, xA_nil, xA_cons, xP_nil, xP_cons, xT_e, xV_all, xVb_t, xVb_f, xVb_m, kMv_ap, kKeep_all, kKb_t, kKb_f, kFr0_s, kFr1_ap, kFr_ap, xF_e, xS_asg, xS_asgT, xS_aug, xS_setixA, xSb_t, xS_forA, xS_expr, xS_ret, xS_retn, xS_ife, xS_raise, xS_pass, xS_cont, xS_brk, xB_nil, xB_cons, xTst_all, xTb_t, xTb_f, xC1_s, xC2_v, xC2_t, xC2_a, isVar, xI_e, xI_rng1, xI_rng2, xI_enum, xI_zip, kSq_nx, kSq_rt, kSq_ex, kSq_bk, kSq_ct, kCond_t, kCond_f, kTurn_nx, kTurn_ct, kTurn_bk, kTurn_rt, kTurn_ex, kIf_t, kRet_ap, kB3_ap, kB2_ap, kB1_ap, kC4_ap, kC3_ap, kC2_ap, kC1_ap, kIsn_ap, kNot_ap, kBl_ap, kNo_ap, kTup_ap, kLst_ap, kX4_ap, kX3_ap, kX2_ap, kX1_ap, kSl3_ap, kSl2_ap, kSl1_ap, kF1_ap, kF22_ap, kF21_ap, kIsin_ap, kM2_ap, kM1_ap, kCons2_ap, kL1_ap, kA1_ap, kP2_ap, kP1_ap, kR_ap, kRX_ap, kCallp_ap, kRs_ap, kCallz_ap, kCalla_ap, kPut_ap, kRi_ap, kRXi_ap, kCi3_ap, kCi2_ap, kCi1_ap, kDrop_ap, kRt_ap, kCt2_ap, kCt1_ap, kAsg_ap, kAsgT_ap, kSet1_ap, kExpr_ap, kRtn_ap, kIt_ap, kItems_ap, kRng2_ap, kZip_ap, kFz_ap, hold_e, hold_rng1, hold_rng2, hold_enum, hold_zip, hold_hold, kAnd_t, kAnd_f, kOr_t, kOr_f, kIfe_t, kIfe_f, kO_i, kRev_l, kNeg_i, kTst_b, kAug_i, kAug1_i, kSet2_i, kSet3_l, kRng1_i, kRng22_i, kEnum_l, kZip2_l, kLcT_f, kLcT_t, kLcE_ap, fin_rt0, fin_nx0, fin_ex0, fin_rt1, fin_nx1, slot_0, slot_s, put_0, put_s, oS_some, wr_ok, PV.pure, pureEs, isMv, isNo, root, redo, B2.scal, F1.scal, M1.scal, fits, tcOf_non, tcOf_bool, tcOf_int, tcOf_str, tcOf_list, tcOf_tuple, isTC_bool_non, isTC_bool_bool, isTC_bool_int, isTC_bool_str, isTC_bool_list, isTC_bool_tuple, isTC_bool_dict, isTC_int_non, isTC_int_bool, isTC_int_int, isTC_int_str, isTC_int_list, isTC_int_tuple, isTC_int_dict, isTC_str_non, isTC_str_bool, isTC_str_int, isTC_str_str, isTC_str_list, isTC_str_tuple, isTC_str_dict, isTC_list_non, isTC_list_bool, isTC_list_int, isTC_list_str, isTC_list_list, isTC_list_tuple, isTC_list_dict, isTC_tuple_non, isTC_tuple_bool, isTC_tuple_int, isTC_tuple_str, isTC_tuple_list, isTC_tuple_tuple, isTC_tuple_dict, noOwn_tup, noOwn_lst, noOwn_int, noOwn_str, noOwn_bl, noOwn_non, noOwn_scr, noOwn_dct, noOwnL_nil, noOwnL_cons, canFz_tup, canFz_lst, canFz_int, canFz_str, canFz_bl, canFz_non, canFz_scr, canFzL_nil, canFzL_cons, fz_tup, fz_lst, fz_int, fz_str, fz_bl, fz_non, fz_scr, fzL_nil, fzL_cons, isTys, atI_0, atI_1, atI_2, atI_3, atI_4, ixN_0, ixN_1, ixN_2, eqD_int, Int.reduceLT, Int.reduceLE, Int.reduceNeg, Int.reduceAdd, Int.reduceSub, Int.reduceMul, Nat.reduceAdd, Nat.reduceLT, Nat.reduceLeDiff, Nat.reduceEqDiff, List.mem_cons, bindT, bindTs, Tg.slots, ownOk, wipeE, List.all_cons, List.all_nil, List.any_cons, List.any_nil, List.contains_eq_mem, List.not_mem_nil, List.length_cons, List.length_nil, List.set_cons_zero, List.set_cons_succ, List.cons_append, List.nil_append, Bool.not_true, Bool.not_false, Bool.and_true, Bool.true_and, Bool.and_false, Bool.false_and, Bool.or_true, Bool.true_or, Bool.or_false, Bool.false_or, Bool.and_self, Bool.or_self, Bool.and_eq_true, Bool.or_eq_true, Bool.not_eq_true', true_and, and_true, and_self, false_and, and_false, true_or, or_true, false_or, or_false, or_self, if_true, if_false, ite_true, ite_false, eq_self, Bool.false_eq_true, Option.map_some, Option.map_none, Option.bind_some, Option.some.injEq, decide_true, decide_false, decide_eq_true_eq, szOk_0, szOk_1, szOk_2, szOk_3, szOk_4, szOk_5, szOk_6, szOk_7, szOk_8, szOk_9, szOk_10, szOk_11, szOk_12, szOk_13, szOk_14, szOk_15, szOk_16, szOk_17, szOk_18, szOk_19, szOk_20, isScal_c0, isScal_c1, isScal_c2, isScal_c3, isScal_c4, isNonD_c0, b2_c0, b2_c1, b2_c2, b2_c3, b2_c4, b2_c5, b2_c6, b2_c7, b2_c8, b2_c9, b2_c10, b2_c11, b2_c12, b2_c13, b2_c14, b2_c15, b2_c16, c2_c0, c2_c1, c2_c2, c2_c3, c2_c4, c2_c5, c2_c6, c2_c7, ixS_c0, ixS_c1, ixS_c2, ixS_c3, slS_c0, slS_c1, slS_c2, slS_c3, f1S_c0, f1S_c1, f1S_c2, f1S_c3, f1S_c4, f1S_c5, f1S_c6, f1S_c7, f1S_c8, f1S_c9, f1S_c10, f1S_c11, f1S_c12, f1S_c13, f1S_c14, f1S_c15, f1S_c16, f2S_c0, f2S_c1, m1S_c0, m1S_c1, m1S_c2, m1S_c3, recvOk_c0, recvOk_c1, recvOk_c2, recvOk_c3, recvOk_c4, recvOk_c5, recvOk_c6, isOwnL_c0, mmS_c0, mmS_c1, mmS_c2, mmS_c3, itemsOf_c0, itemsOf_c1, itemsOf_c2, seqOf_c0, seqOf_c1, fd0, fd1, fd2, fd3, fd4, fd5, fd6, fd7, fd8, fd9, fd10, fd11, fd12, fd13, fd14, fd15, fd16, fd17, fd18, fd19, fd20, fd21, fd22, fd23, fd24, fd25, fd26, fd27, fd28, $[$es:term],*])
namespace K38
open PySem L2 PV
theorem lits : PyData.canLay0 (.str "yes") = true ∧ PyData.canLay0 (.str "fact") = true ∧ PyData.canLay0 (.str "not") = true ∧ PyData.canLay0 (.str "both") = true ∧ PyData.canLay0 (.str "either") = true := by decide +kernel
theorem cd_dat {fs : List Str} (hf : ∀ s ∈ fs, PyData.canLay0 (.str s) = true) : ∀ {c : Cd}, c.over fs → dat (c.deep + 1) c.toD = true := by
  obtain ⟨l1, l2, l3, l4, l5⟩ := lits
  intro c
  induction c with
  | yes => intro _; simp [Cd.toD, Cd.deep, dat, datL, l1]
  | fact s => intro h; simp [Cd.toD, Cd.deep, dat, datL, l2, hf s h]
  | not c ih =>
    intro h
    have := dat_le (m := 1 + c.deep) (ih h) (by omega)
    simp [Cd.toD, Cd.deep, dat, datL, l3, this]
  | both a b iha ihb =>
    intro h
    have h1 := dat_le (m := 1 + max a.deep b.deep) (iha h.1) (by omega)
    have h2 := dat_le (m := 1 + max a.deep b.deep) (ihb h.2) (by omega)
    simp [Cd.toD, Cd.deep, dat, datL, l4, h1, h2]
  | either a b iha ihb =>
    intro h
    have h1 := dat_le (m := 1 + max a.deep b.deep) (iha h.1) (by omega)
    have h2 := dat_le (m := 1 + max a.deep b.deep) (ihb h.2) (by omega)
    simp [Cd.toD, Cd.deep, dat, datL, l5, h1, h2]
theorem co_mk {fs : List Str} (hf : Fs fs) {n : Nat} {c : Cd} (h : c.over fs) (hd : c.deep ≤ n) : Co fs n c := ⟨h, hd, cd_no c, dat_le (cd_dat hf.str h) (by omega)⟩
end K38

end

section
open PySem L2 PV
open K38
local macro_rules
  | `(tactic| exists $es,*) => `(tactic| simp -implicitDefEqProofs only [xE_int, xE_str, xE_bl, xE_non, xE_fn, xE_glob, xE_var, xE_bin, xE_cmp, xE_isn, xE_not, xE_and, xE_or, xE_ife, xE_tup, xE_lst, xE_ix, xO_all, xOb_t, xOb_f, xE_slA, xE_chain, kCh1_ap, kCh2_ap, kCh3_f, kCh3_t, kCh4_ap, kXf_ap, xE_fr, xE_xis, kXis_ap, xOf_xc, noOwn_xc, xS_try1, kTry_ex, kTry_nx, kTry_rt, kTry_bk, kTry_ct, kTry2_t, kTry2_f, kUn_nx, kUn_rt, xSlot_s, xSlot_n, xFits_s, xFits_n, fits'_is, noXS_nil, noXS_s, noXS_n, noX_int, noX_str, noX_bl, noX_non, noX_scr, noX_tup, noX_lst, noX_dct, noXL_nil, noXL_cons, noXL_ints, noXL_strs, xE_dnw, xS_dput, kDp1_ap, kDp2_ap, kDp3_ap, isOwnD_d, xE_mmA, xE_vf, kVf_ap, xE_sset, kSset_ap, xE_trg, kTrg_i, trgD_t, trgD_f, xE_lc, unh_e, unh_rng1, unh_rng2, unh_enum, unh_zip, unh_hold, backS_nil, backS_cons, xE_rev, xE_f1, xE_f2, xE_isin, xE_m1, xE_neg, xL_nil, xL_cons, xA_nil, xA_cons, xP_nil, xP_cons, xT_e, xV_all, xVb_t, xVb_f, xVb_m, kMv_ap, kKeep_all, kKb_t, kKb_f, kFr0_s, kFr1_ap, kFr_ap, xF_e, xS_asg, xS_asgT, xS_aug, xS_setixA, xSb_t, xS_forA, xS_expr, xS_ret, xS_retn, xS_ife, xS_raise, xS_pass, xS_cont, xS_brk, xB_nil, xB_cons, xTst_all, xTb_t, xTb_f, xC1_s, xC2_v, xC2_t, xC2_a, isVar, xI_e, xI_rng1, xI_rng2, xI_enum, xI_zip, kSq_nx, kSq_rt, kSq_ex, kSq_bk, kSq_ct, kCond_t, kCond_f, kTurn_nx, kTurn_ct, kTurn_bk, kTurn_rt, kTurn_ex, kIf_t, kRet_ap, kB3_ap, kB2_ap, kB1_ap, kC4_ap, kC3_ap, kC2_ap, kC1_ap, kIsn_ap, kNot_ap, kBl_ap, kNo_ap, kTup_ap, kLst_ap, kX4_ap, kX3_ap, kX2_ap, kX1_ap, kSl3_ap, kSl2_ap, kSl1_ap, kF1_ap, kF22_ap, kF21_ap, kIsin_ap, kM2_ap, kM1_ap, kCons2_ap, kL1_ap, kA1_ap, kP2_ap, kP1_ap, kR_ap, kRX_ap, kCallp_ap, kRs_ap, kCallz_ap, kCalla_ap, kPut_ap, kRi_ap, kRXi_ap, kCi3_ap, kCi2_ap, kCi1_ap, kDrop_ap, kRt_ap, kCt2_ap, kCt1_ap, kAsg_ap, kAsgT_ap, kSet1_ap, kExpr_ap, kRtn_ap, kIt_ap, kItems_ap, kRng2_ap, kZip_ap, kFz_ap, hold_e, hold_rng1, hold_rng2, hold_enum, hold_zip, hold_hold, kAnd_t, kAnd_f, kOr_t, kOr_f, kIfe_t, kIfe_f, kO_i, kRev_l, kNeg_i, kTst_b, kAug_i, kAug1_i, kSet2_i, kSet3_l, kRng1_i, kRng22_i, kEnum_l, kZip2_l, kLcT_f, kLcT_t, kLcE_ap, fin_rt0, fin_nx0, fin_ex0, fin_rt1, fin_nx1, slot_0, slot_s, put_0, put_s, oS_some, wr_ok, PV.pure, pureEs, isMv, isNo, root, redo, B2.scal, F1.scal, M1.scal, fits, tcOf_non, tcOf_bool, tcOf_int, tcOf_str, tcOf_list, tcOf_tuple, isTC_bool_non, isTC_bool_bool, isTC_bool_int, isTC_bool_str, isTC_bool_list, isTC_bool_tuple, isTC_bool_dict, isTC_int_non, isTC_int_bool, isTC_int_int, isTC_int_str, isTC_int_list, isTC_int_tuple, isTC_int_dict, isTC_str_non, isTC_str_bool, isTC_str_int, isTC_str_str, isTC_str_list, isTC_str_tuple, isTC_str_dict, isTC_list_non, isTC_list_bool, isTC_list_int, isTC_list_str, isTC_list_list, isTC_list_tuple, isTC_list_dict, isTC_tuple_non, isTC_tuple_bool, isTC_tuple_int, isTC_tuple_str, isTC_tuple_list, isTC_tuple_tuple, isTC_tuple_dict, noOwn_tup, noOwn_lst, noOwn_int, noOwn_str, noOwn_bl, noOwn_non, noOwn_scr, noOwn_dct, noOwnL_nil, noOwnL_cons, canFz_tup, canFz_lst, canFz_int, canFz_str, canFz_bl, canFz_non, canFz_scr, canFzL_nil, canFzL_cons, fz_tup, fz_lst, fz_int, fz_str, fz_bl, fz_non, fz_scr, fzL_nil, fzL_cons, isTys, atI_0, atI_1, atI_2, atI_3, atI_4, ixN_0, ixN_1, ixN_2, eqD_int, Int.reduceLT, Int.reduceLE, Int.reduceNeg, Int.reduceAdd, Int.reduceSub, Int.reduceMul, Nat.reduceAdd, Nat.reduceLT, Nat.reduceLeDiff, Nat.reduceEqDiff, List.mem_cons, bindT, bindTs, Tg.slots, ownOk, wipeE, List.all_cons, List.all_nil, List.any_cons, List.any_nil, List.contains_eq_mem, List.not_mem_nil, List.length_cons, List.length_nil, List.set_cons_zero, List.set_cons_succ, List.cons_append, List.nil_append, Bool.not_true, Bool.not_false, Bool.and_true, Bool.true_and, Bool.and_false, Bool.false_and, Bool.or_true, Bool.true_or, Bool.or_false, Bool.false_or, Bool.and_self, Bool.or_self, Bool.and_eq_true, Bool.or_eq_true, Bool.not_eq_true', true_and, and_true, and_self, false_and, and_false, true_or, or_true, false_or, or_false, or_self, if_true, if_false, ite_true, ite_false, eq_self, Bool.false_eq_true, Option.map_some, Option.map_none, Option.bind_some, Option.some.injEq, decide_true, decide_false, decide_eq_true_eq, szOk_0, szOk_1, szOk_2, szOk_3, szOk_4, szOk_5, szOk_6, szOk_7, szOk_8, szOk_9, szOk_10, szOk_11, szOk_12, szOk_13, szOk_14, szOk_15, szOk_16, szOk_17, szOk_18, szOk_19, szOk_20, isScal_c0, isScal_c1, isScal_c2, isScal_c3, isScal_c4, isNonD_c0, b2_c0, b2_c1, b2_c2, b2_c3, b2_c4, b2_c5, b2_c6, b2_c7, b2_c8, b2_c9, b2_c10, b2_c11, b2_c12, b2_c13, b2_c14, b2_c15, b2_c16, c2_c0, c2_c1, c2_c2, c2_c3, c2_c4, c2_c5, c2_c6, c2_c7, ixS_c0, ixS_c1, ixS_c2, ixS_c3, slS_c0, slS_c1, slS_c2, slS_c3, f1S_c0, f1S_c1, f1S_c2, f1S_c3, f1S_c4, f1S_c5, f1S_c6, f1S_c7, f1S_c8, f1S_c9, f1S_c10, f1S_c11, f1S_c12, f1S_c13, f1S_c14, f1S_c15, f1S_c16, f2S_c0, f2S_c1, m1S_c0, m1S_c1, m1S_c2, m1S_c3, recvOk_c0, recvOk_c1, recvOk_c2, recvOk_c3, recvOk_c4, recvOk_c5, recvOk_c6, isOwnL_c0, mmS_c0, mmS_c1, mmS_c2, mmS_c3, itemsOf_c0, itemsOf_c1, itemsOf_c2, seqOf_c0, seqOf_c1, fd0, fd1, fd2, fd3, fd4, fd5, fd6, fd7, fd8, fd9, fd10, fd11, fd12, fd13, fd14, fd15, fd16, fd17, fd18, fd19, fd20, fd21, fd22, fd23, fd24, fd25, fd26, fd27, fd28, $[$es:term],*])
namespace K38
open PySem L2 PV
/-! ### data, frozen or not -/
theorem dat_py_fz : ∀ {n : Nat} {d : D}, dat n d = true → py (fz d) = py d := by
  intro n
  induction n with
  | zero => intro d h; cases d <;> simp_all [dat, fz]
  | succ n ih =>
    have hl : ∀ ds, datL n ds = true → pyL (fzL ds) = pyL ds := by
      intro ds
      induction ds with
      | nil => intro _; simp [fzL]
      | cons x xs k =>
        intro h
        simp only [datL, Bool.and_eq_true] at h
        simp only [fzL, pyL, ih h.1, k h.2]
    intro d h
    cases d with
    | tup xs => simp only [fz_tup, py, hl xs (by simpa [dat] using h)]
    | lst o xs => simp only [fz_lst, py, hl xs (by simpa [dat] using h)]
    | _ => simp_all [dat, fz]
theorem dat_fz {n : Nat} {d : D} (h : dat n d = true) : dat n (fz d) = true := (dat_canFz h).2.1
/-- the same data -/
theorem eqD_same {n m : Nat} {a b : D} (h : dat n a = true) (hn : n ≤ 64) (k : dat m b = true) (km : m ≤ 64) (e : fz a = fz b) : eqD a b = some true := by
  obtain ⟨x, y, h1, h2, h3⟩ := eqD_dat h hn k km
  have e1 := dat_py_fz h
  have e2 := dat_py_fz k
  rw [e, e2, h2, h1] at e1
  have : y = x := Option.some.inj e1
  subst this
  obtain ⟨z, k1, k2, _⟩ := dat_py h
  rw [h1] at k1
  have : y = z := Option.some.inj k1
  subst this
  rw [h3, SeqAt.eqv_refl y k2]
theorem eqD_bl {a b : Bool} : eqD (.bl a) (.bl b) = some (a == b) := by cases a <;> cases b <;> rfl
end K38

end

section
open PySem L2 PV
open K38
local macro_rules
  | `(tactic| exists $es,*) => `(tactic| simp -implicitDefEqProofs only [xE_int, xE_str, xE_bl, xE_non, xE_fn, xE_glob, xE_var, xE_bin, xE_cmp, xE_isn, xE_not, xE_and, xE_or, xE_ife, xE_tup, xE_lst, xE_ix, xO_all, xOb_t, xOb_f, xE_slA, xE_chain, kCh1_ap, kCh2_ap, kCh3_f, kCh3_t, kCh4_ap, kXf_ap, xE_fr, xE_xis, kXis_ap, xOf_xc, noOwn_xc, xS_try1, kTry_ex, kTry_nx, kTry_rt, kTry_bk, kTry_ct, kTry2_t, kTry2_f, kUn_nx, kUn_rt, xSlot_s, xSlot_n, xFits_s, xFits_n, fits'_is, noXS_nil, noXS_s, noXS_n, noX_int, noX_str, noX_bl, noX_non, noX_scr, noX_tup, noX_lst, noX_dct, noXL_nil, noXL_cons, noXL_ints, noXL_strs, xE_dnw, xS_dput, kDp1_ap, kDp2_ap, kDp3_ap, isOwnD_d, xE_mmA, xE_vf, kVf_ap, xE_sset, kSset_ap, xE_trg, kTrg_i, trgD_t, trgD_f, xE_lc, unh_e, unh_rng1, unh_rng2, unh_enum, unh_zip, unh_hold, backS_nil, backS_cons, xE_rev, xE_f1, xE_f2, xE_isin, xE_m1, xE_neg, xL_nil, xL_cons, xA_nil, xA_cons, xP_nil, xP_cons, xT_e, xV_all, xVb_t, xVb_f, xVb_m, kMv_ap, kKeep_all, kKb_t, kKb_f, kFr0_s, kFr1_ap, kFr_ap, xF_e, xS_asg, xS_asgT, xS_aug, xS_setixA, xSb_t, xS_forA, xS_expr, xS_ret, xS_retn, xS_ife, xS_raise, xS_pass, xS_cont, xS_brk, xB_nil, xB_cons, xTst_all, xTb_t, xTb_f, xC1_s, xC2_v, xC2_t, xC2_a, isVar, xI_e, xI_rng1, xI_rng2, xI_enum, xI_zip, kSq_nx, kSq_rt, kSq_ex, kSq_bk, kSq_ct, kCond_t, kCond_f, kTurn_nx, kTurn_ct, kTurn_bk, kTurn_rt, kTurn_ex, kIf_t, kRet_ap, kB3_ap, kB2_ap, kB1_ap, kC4_ap, kC3_ap, kC2_ap, kC1_ap, kIsn_ap, kNot_ap, kBl_ap, kNo_ap, kTup_ap, kLst_ap, kX4_ap, kX3_ap, kX2_ap, kX1_ap, kSl3_ap, kSl2_ap, kSl1_ap, kF1_ap, kF22_ap, kF21_ap, kIsin_ap, kM2_ap, kM1_ap, kCons2_ap, kL1_ap, kA1_ap, kP2_ap, kP1_ap, kR_ap, kRX_ap, kCallp_ap, kRs_ap, kCallz_ap, kCalla_ap, kPut_ap, kRi_ap, kRXi_ap, kCi3_ap, kCi2_ap, kCi1_ap, kDrop_ap, kRt_ap, kCt2_ap, kCt1_ap, kAsg_ap, kAsgT_ap, kSet1_ap, kExpr_ap, kRtn_ap, kIt_ap, kItems_ap, kRng2_ap, kZip_ap, kFz_ap, hold_e, hold_rng1, hold_rng2, hold_enum, hold_zip, hold_hold, kAnd_t, kAnd_f, kOr_t, kOr_f, kIfe_t, kIfe_f, kO_i, kRev_l, kNeg_i, kTst_b, kAug_i, kAug1_i, kSet2_i, kSet3_l, kRng1_i, kRng22_i, kEnum_l, kZip2_l, kLcT_f, kLcT_t, kLcE_ap, fin_rt0, fin_nx0, fin_ex0, fin_rt1, fin_nx1, slot_0, slot_s, put_0, put_s, oS_some, wr_ok, PV.pure, pureEs, isMv, isNo, root, redo, B2.scal, F1.scal, M1.scal, fits, tcOf_non, tcOf_bool, tcOf_int, tcOf_str, tcOf_list, tcOf_tuple, isTC_bool_non, isTC_bool_bool, isTC_bool_int, isTC_bool_str, isTC_bool_list, isTC_bool_tuple, isTC_bool_dict, isTC_int_non, isTC_int_bool, isTC_int_int, isTC_int_str, isTC_int_list, isTC_int_tuple, isTC_int_dict, isTC_str_non, isTC_str_bool, isTC_str_int, isTC_str_str, isTC_str_list, isTC_str_tuple, isTC_str_dict, isTC_list_non, isTC_list_bool, isTC_list_int, isTC_list_str, isTC_list_list, isTC_list_tuple, isTC_list_dict, isTC_tuple_non, isTC_tuple_bool, isTC_tuple_int, isTC_tuple_str, isTC_tuple_list, isTC_tuple_tuple, isTC_tuple_dict, noOwn_tup, noOwn_lst, noOwn_int, noOwn_str, noOwn_bl, noOwn_non, noOwn_scr, noOwn_dct, noOwnL_nil, noOwnL_cons, canFz_tup, canFz_lst, canFz_int, canFz_str, canFz_bl, canFz_non, canFz_scr, canFzL_nil, canFzL_cons, fz_tup, fz_lst, fz_int, fz_str, fz_bl, fz_non, fz_scr, fzL_nil, fzL_cons, isTys, atI_0, atI_1, atI_2, atI_3, atI_4, ixN_0, ixN_1, ixN_2, eqD_int, Int.reduceLT, Int.reduceLE, Int.reduceNeg, Int.reduceAdd, Int.reduceSub, Int.reduceMul, Nat.reduceAdd, Nat.reduceLT, Nat.reduceLeDiff, Nat.reduceEqDiff, List.mem_cons, bindT, bindTs, Tg.slots, ownOk, wipeE, List.all_cons, List.all_nil, List.any_cons, List.any_nil, List.contains_eq_mem, List.not_mem_nil, List.length_cons, List.length_nil, List.set_cons_zero, List.set_cons_succ, List.cons_append, List.nil_append, Bool.not_true, Bool.not_false, Bool.and_true, Bool.true_and, Bool.and_false, Bool.false_and, Bool.or_true, Bool.true_or, Bool.or_false, Bool.false_or, Bool.and_self, Bool.or_self, Bool.and_eq_true, Bool.or_eq_true, Bool.not_eq_true', true_and, and_true, and_self, false_and, and_false, true_or, or_true, false_or, or_false, or_self, if_true, if_false, ite_true, ite_false, eq_self, Bool.false_eq_true, Option.map_some, Option.map_none, Option.bind_some, Option.some.injEq, decide_true, decide_false, decide_eq_true_eq, szOk_0, szOk_1, szOk_2, szOk_3, szOk_4, szOk_5, szOk_6, szOk_7, szOk_8, szOk_9, szOk_10, szOk_11, szOk_12, szOk_13, szOk_14, szOk_15, szOk_16, szOk_17, szOk_18, szOk_19, szOk_20, isScal_c0, isScal_c1, isScal_c2, isScal_c3, isScal_c4, isNonD_c0, b2_c0, b2_c1, b2_c2, b2_c3, b2_c4, b2_c5, b2_c6, b2_c7, b2_c8, b2_c9, b2_c10, b2_c11, b2_c12, b2_c13, b2_c14, b2_c15, b2_c16, c2_c0, c2_c1, c2_c2, c2_c3, c2_c4, c2_c5, c2_c6, c2_c7, ixS_c0, ixS_c1, ixS_c2, ixS_c3, slS_c0, slS_c1, slS_c2, slS_c3, f1S_c0, f1S_c1, f1S_c2, f1S_c3, f1S_c4, f1S_c5, f1S_c6, f1S_c7, f1S_c8, f1S_c9, f1S_c10, f1S_c11, f1S_c12, f1S_c13, f1S_c14, f1S_c15, f1S_c16, f2S_c0, f2S_c1, m1S_c0, m1S_c1, m1S_c2, m1S_c3, recvOk_c0, recvOk_c1, recvOk_c2, recvOk_c3, recvOk_c4, recvOk_c5, recvOk_c6, isOwnL_c0, mmS_c0, mmS_c1, mmS_c2, mmS_c3, itemsOf_c0, itemsOf_c1, itemsOf_c2, seqOf_c0, seqOf_c1, fd0, fd1, fd2, fd3, fd4, fd5, fd6, fd7, fd8, fd9, fd10, fd11, fd12, fd13, fd14, fd15, fd16, fd17, fd18, fd19, fd20, fd21, fd22, fd23, fd24, fd25, fd26, fd27, fd28, $[$es:term],*])
namespace K38
open PySem L2 PV
/-! ### a house, by its conditions -/
abbrev Ch := Cd × Str × Bool
def chD (c : Ch) : D := .tup [c.1.toD, .str c.2.1, .bl c.2.2]
def wyD (o : Bool) (w : List Ch) : D := .lst o (w.map chD)
abbrev Dd := Str × Cd × List (List Ch)
def ddD (o : Bool) (d : Dd) : D := .tup [.str d.1, d.2.1.toD, .lst o (d.2.2.map (wyD o))]
abbrev Lk := Str × Cd × Cd
def lkD (l : Lk) : D := .tup [.str l.1, l.2.1.toD, l.2.2.toD]
structure Chg (fs : List Str) (c : Ch) : Prop where
  over : c.1.over fs
  deep : c.1.deep ≤ 24
  fact : c.2.1 ∈ fs
structure Deed (fs : List Str) (d : Dd) : Prop where
  lay : PyData.canLay0 (.str d.1) = true
  over : d.2.1.over fs
  deep : d.2.1.deep ≤ 24
  few : d.2.2.length ≤ 8
  pos : 0 < d.2.2.length
  way : ∀ w ∈ d.2.2, w.length ≤ 8 ∧ ∀ c ∈ w, Chg fs c
structure Look (fs : List Str) (l : Lk) : Prop where
  lay : PyData.canLay0 (.str l.1) = true
  over : l.2.1.over fs
  deep : l.2.1.deep ≤ 24
  sover : l.2.2.over fs
  sdeep : l.2.2.deep ≤ 24
structure Hs (fs : List Str) (ds : List Dd) (ls : List Lk) (ws : List Int) (wish : Cd) : Prop where
  ff : Fs fs
  dd : ∀ d ∈ ds, Deed fs d
  ll : ∀ l ∈ ls, Look fs l
  dfew : ds.length ≤ 120
  lfew : ls.length ≤ 12
  ww : Crowd (2 ^ fs.length) ws
  wfew : ws.length ≤ 64
  wo : wish.over fs
  wd : wish.deep ≤ 24
  nms : (ds.map (·.1) ++ ls.map (·.1)).Nodup
def hsG (a b c d : Bool) (fs : List Str) (ds : List Dd) (ls : List Lk) (ws : List Int) (wish : Cd) : D := .tup [.lst a (fs.map .str), .lst b (ds.map (ddD b)), .lst c (ls.map lkD), .lst d (ws.map .int), wish.toD]
abbrev hsF := hsG false false false false
theorem mapL_no {α : Type} {us : List α} {f : α → D} (h : ∀ u, noOwn (f u) = true) : noOwnL (us.map f) = true := noOwnL_of fun x hx => by
  obtain ⟨u, _, rfl⟩ := List.mem_map.mp hx
  exact h u
theorem mapL_fz {α : Type} {us : List α} {f g : α → D} (h : ∀ u, canFz (f u) = true ∧ fz (f u) = g u) : canFzL (us.map f) = true ∧ fzL (us.map f) = us.map g := by
  induction us with
  | nil => exact ⟨rfl, rfl⟩
  | cons u us ih =>
    have h1 := h u
    simp only [List.map_cons, canFzL, fzL, h1, ih]
    exact ⟨rfl, trivial⟩
theorem chD_no (c : Ch) : noOwn (chD c) = true := by simp [chD, noOwn_tup, noOwnL, noOwn_str, noOwn_bl, cd_no]
theorem lkD_no (l : Lk) : noOwn (lkD l) = true := by simp [lkD, noOwn_tup, noOwnL, noOwn_str, cd_no]
theorem chs_no (w : List Ch) : noOwnL (w.map chD) = true := mapL_no chD_no
theorem lks_no (ls : List Lk) : noOwnL (ls.map lkD) = true := mapL_no lkD_no
theorem wyF_no (w : List Ch) : noOwn (wyD false w) = true := by rw [wyD, noOwn_lst]; exact chs_no w
theorem wysF_no (ws : List (List Ch)) : noOwnL (ws.map (wyD false)) = true := mapL_no wyF_no
theorem ddF_no (d : Dd) : noOwn (ddD false d) = true := by simp [ddD, noOwn_tup, noOwnL, noOwn_str, cd_no, noOwn_lst, wysF_no]
theorem ddsF_no (ds : List Dd) : noOwnL (ds.map (ddD false)) = true := mapL_no ddF_no
theorem wy_fz (o : Bool) (w : List Ch) : canFz (wyD o w) = true ∧ fz (wyD o w) = wyD false w := by
  have h := chs_no w
  simp only [wyD, canFz_lst, fz_lst, noOwnL_canFz h, fzL_id h, true_and, and_self, eq_self]
theorem dd_fz (o : Bool) (d : Dd) : canFz (ddD o d) = true ∧ fz (ddD o d) = ddD false d := by
  have h1 := mapL_fz (us := d.2.2) (f := wyD o) (g := wyD false) (wy_fz o)
  have h2 := cd_no d.2.1
  simp only [ddD, canFz_tup, fz_tup, canFzL, fzL, canFz_str, fz_str, noOwn_canFz h2, fz_id h2, canFz_lst, fz_lst, h1]
  exact ⟨rfl, trivial⟩
section
variable {fs : List Str} {ds : List Dd} {ls : List Lk} {ws : List Int} {wish : Cd}
theorem hs_fz (a b c d : Bool) : canFz (hsG a b c d fs ds ls ws wish) = true ∧ fz (hsG a b c d fs ds ls ws wish) = hsF fs ds ls ws wish := by
  have h1 := mapL_fz (us := ds) (f := ddD b) (g := ddD false) (dd_fz b)
  have h2 := lks_no ls
  have h3 := cd_no wish
  have h4 : noOwnL (ws.map D.int) = true := noOwnL_ints ws
  have h5 : noOwnL (fs.map D.str) = true := noOwnL_str fs
  simp only [hsF, hsG, canFz_tup, fz_tup, canFzL, fzL, canFz_lst, fz_lst, h1, noOwnL_canFz h2, fzL_id h2, noOwn_canFz h3, fz_id h3, noOwnL_canFz h4, fzL_id h4, noOwnL_canFz h5, fzL_id h5]
  exact ⟨rfl, trivial⟩
theorem hsF_no : noOwn (hsF fs ds ls ws wish) = true := by
  rw [← (hs_fz false false false false).2]; exact fz_noOwn (hs_fz false false false false).1
theorem hsF_cz : canFz (hsF fs ds ls ws wish) = true := noOwn_canFz hsF_no
theorem hsF_fz : fz (hsF fs ds ls ws wish) = hsF fs ds ls ws wish := fz_id hsF_no
theorem hs_own {a c d : Bool} : noOwn (hsG a true c d fs ds ls ws wish) = false := by simp [hsG, noOwn_tup, noOwnL, noOwn]
theorem at0 {a b c d kt : Bool} : ixS kt (hsG a b c d fs ds ls ws wish) (.int 0) = some (.lst a (fs.map .str)) := rfl
theorem at1 {a b c d kt : Bool} : ixS kt (hsG a b c d fs ds ls ws wish) (.int 1) = some (.lst b (ds.map (ddD b))) := rfl
theorem at2 {a b c d kt : Bool} : ixS kt (hsG a b c d fs ds ls ws wish) (.int 2) = some (.lst c (ls.map lkD)) := rfl
theorem at3 {a b c d kt : Bool} : ixS kt (hsG a b c d fs ds ls ws wish) (.int 3) = some (.lst d (ws.map .int)) := rfl
theorem at4 {a b c d kt : Bool} : ixS kt (hsG a b c d fs ds ls ws wish) (.int 4) = some wish.toD := rfl
theorem fF (fs : List Str) : D.lst false (fs.map .str) = fD fs := rfl
theorem datL_of {n : Nat} {xs : List D} (h : ∀ x ∈ xs, dat n x = true) : datL n xs = true := by
  induction xs with
  | nil => rfl
  | cons x xs ih => simp only [datL, Bool.and_eq_true]; exact ⟨h x (by simp), ih fun y hy => h y (by simp [hy])⟩
theorem datL_map {α : Type} {n : Nat} {us : List α} {f : α → D} (h : ∀ u ∈ us, dat n (f u) = true) : datL n (us.map f) = true := datL_of fun x hx => by
  obtain ⟨u, hu, rfl⟩ := List.mem_map.mp hx
  exact h u hu
theorem cd_dat2 (hf : Fs fs) {c : Cd} (ho : c.over fs) (hd : c.deep ≤ 24) {n : Nat} (hn : 25 ≤ n) : dat n c.toD = true := dat_le (cd_dat hf.str ho) (by omega)
theorem chD_dat (hf : Fs fs) {c : Ch} (h : Chg fs c) : dat 26 (chD c) = true := by
  simp [chD, dat, datL, dat_bl, cd_dat2 hf h.over h.deep, hf.str _ h.fact]
theorem ddD_dat (hf : Fs fs) {o : Bool} {d : Dd} (h : Deed fs d) : dat 29 (ddD o d) = true := by
  have h1 : datL 27 (d.2.2.map (wyD o)) = true := datL_map fun w hw => by
    simp only [wyD, dat]
    exact datL_map fun c hc => chD_dat hf ((h.way w hw).2 c hc)
  simp [ddD, dat, datL, h.lay, h1, cd_dat2 hf h.over h.deep]
theorem lkD_dat (hf : Fs fs) {l : Lk} (h : Look fs l) : dat 29 (lkD l) = true := by
  simp [lkD, dat, datL, h.lay, cd_dat2 hf h.over h.deep, cd_dat2 hf h.sover h.sdeep]
theorem fs_dat (hf : Fs fs) (n : Nat) : datL n (fs.map D.str) = true := datL_map fun s hs => strOk_of s (hf.str s hs) n
theorem hs_dat {a b c d : Bool} (hh : Hs fs ds ls ws wish) : dat 31 (hsG a b c d fs ds ls ws wish) = true := by
  have h1 : datL 29 (ds.map (ddD b)) = true := datL_map fun d hd => ddD_dat hh.ff (hh.dd d hd)
  have h2 : datL 29 (ls.map lkD) = true := datL_map fun d hd => lkD_dat hh.ff (hh.ll d hd)
  simp [hsG, dat, datL, fs_dat hh.ff, h1, h2, datL_ints, cd_dat2 hh.ff hh.wo hh.wd]
theorem hs_same {a b c d a' b' c' d' : Bool} (hh : Hs fs ds ls ws wish) : eqD (hsG a b c d fs ds ls ws wish) (hsG a' b' c' d' fs ds ls ws wish) = some true :=
  eqD_same (hs_dat hh) (by omega) (hs_dat hh) (by omega) ((hs_fz a b c d).2.trans (hs_fz a' b' c' d').2.symm)
theorem ints_nil {o o2 : Bool} (ns : List Int) : eqD (.lst o (ns.map .int)) (.lst o2 []) = some (decide (ns = [])) := by
  rw [eqD_nil (n := 1) (by simp [dat, datL_ints]) (by omega)]
  cases ns <;> simp
theorem ints_cz (ns : List Int) : canFzL (ns.map D.int) = true := noOwnL_canFz (noOwnL_ints ns)
theorem ints_fz (ns : List Int) : fzL (ns.map D.int) = ns.map D.int := fzL_id (noOwnL_ints ns)
theorem strs_cz (fs : List Str) : canFzL (fs.map D.str) = true := noOwnL_canFz (noOwnL_str fs)
theorem strs_fz (fs : List Str) : fzL (fs.map D.str) = fs.map D.str := fzL_id (noOwnL_str fs)
theorem pow_le (hf : Fs fs) : (1 : Int) ≤ 2 ^ fs.length ∧ (2 : Int) ^ fs.length ≤ 1024 := by
  have h1 : 2 ^ fs.length ≤ 2 ^ 10 := Nat.pow_le_pow_right (by omega) hf.few
  have h2 : 0 < 2 ^ fs.length := Nat.two_pow_pos _
  have e : ((2 ^ fs.length : Nat) : Int) = (2 : Int) ^ fs.length := by simp
  omega
theorem pow_ok (hf : Fs fs) : powOk 1 (fs.length : Int) = true := by have := hf.few; simp [powOk]; omega
theorem pow_is {fs : List Str} : (1 : Int) * 2 ^ ((fs.length : Int)).toNat = 2 ^ fs.length := by simp
end
end K38

end

section
open PySem L2 PV
open K38
local macro_rules
  | `(tactic| exists $es,*) => `(tactic| simp -implicitDefEqProofs only [xE_int, xE_str, xE_bl, xE_non, xE_fn, xE_glob, xE_var, xE_bin, xE_cmp, xE_isn, xE_not, xE_and, xE_or, xE_ife, xE_tup, xE_lst, xE_ix, xO_all, xOb_t, xOb_f, xE_slA, xE_chain, kCh1_ap, kCh2_ap, kCh3_f, kCh3_t, kCh4_ap, kXf_ap, xE_fr, xE_xis, kXis_ap, xOf_xc, noOwn_xc, xS_try1, kTry_ex, kTry_nx, kTry_rt, kTry_bk, kTry_ct, kTry2_t, kTry2_f, kUn_nx, kUn_rt, xSlot_s, xSlot_n, xFits_s, xFits_n, fits'_is, noXS_nil, noXS_s, noXS_n, noX_int, noX_str, noX_bl, noX_non, noX_scr, noX_tup, noX_lst, noX_dct, noXL_nil, noXL_cons, noXL_ints, noXL_strs, xE_dnw, xS_dput, kDp1_ap, kDp2_ap, kDp3_ap, isOwnD_d, xE_mmA, xE_vf, kVf_ap, xE_sset, kSset_ap, xE_trg, kTrg_i, trgD_t, trgD_f, xE_lc, unh_e, unh_rng1, unh_rng2, unh_enum, unh_zip, unh_hold, backS_nil, backS_cons, xE_rev, xE_f1, xE_f2, xE_isin, xE_m1, xE_neg, xL_nil, xL_cons, xA_nil, xA_cons, xP_nil, xP_cons, xT_e, xV_all, xVb_t, xVb_f, xVb_m, kMv_ap, kKeep_all, kKb_t, kKb_f, kFr0_s, kFr1_ap, kFr_ap, xF_e, xS_asg, xS_asgT, xS_aug, xS_setixA, xSb_t, xS_forA, xS_expr, xS_ret, xS_retn, xS_ife, xS_raise, xS_pass, xS_cont, xS_brk, xB_nil, xB_cons, xTst_all, xTb_t, xTb_f, xC1_s, xC2_v, xC2_t, xC2_a, isVar, xI_e, xI_rng1, xI_rng2, xI_enum, xI_zip, kSq_nx, kSq_rt, kSq_ex, kSq_bk, kSq_ct, kCond_t, kCond_f, kTurn_nx, kTurn_ct, kTurn_bk, kTurn_rt, kTurn_ex, kIf_t, kRet_ap, kB3_ap, kB2_ap, kB1_ap, kC4_ap, kC3_ap, kC2_ap, kC1_ap, kIsn_ap, kNot_ap, kBl_ap, kNo_ap, kTup_ap, kLst_ap, kX4_ap, kX3_ap, kX2_ap, kX1_ap, kSl3_ap, kSl2_ap, kSl1_ap, kF1_ap, kF22_ap, kF21_ap, kIsin_ap, kM2_ap, kM1_ap, kCons2_ap, kL1_ap, kA1_ap, kP2_ap, kP1_ap, kR_ap, kRX_ap, kCallp_ap, kRs_ap, kCallz_ap, kCalla_ap, kPut_ap, kRi_ap, kRXi_ap, kCi3_ap, kCi2_ap, kCi1_ap, kDrop_ap, kRt_ap, kCt2_ap, kCt1_ap, kAsg_ap, kAsgT_ap, kSet1_ap, kExpr_ap, kRtn_ap, kIt_ap, kItems_ap, kRng2_ap, kZip_ap, kFz_ap, hold_e, hold_rng1, hold_rng2, hold_enum, hold_zip, hold_hold, kAnd_t, kAnd_f, kOr_t, kOr_f, kIfe_t, kIfe_f, kO_i, kRev_l, kNeg_i, kTst_b, kAug_i, kAug1_i, kSet2_i, kSet3_l, kRng1_i, kRng22_i, kEnum_l, kZip2_l, kLcT_f, kLcT_t, kLcE_ap, fin_rt0, fin_nx0, fin_ex0, fin_rt1, fin_nx1, slot_0, slot_s, put_0, put_s, oS_some, wr_ok, PV.pure, pureEs, isMv, isNo, root, redo, B2.scal, F1.scal, M1.scal, fits, tcOf_non, tcOf_bool, tcOf_int, tcOf_str, tcOf_list, tcOf_tuple, isTC_bool_non, isTC_bool_bool, isTC_bool_int, isTC_bool_str, isTC_bool_list, isTC_bool_tuple, isTC_bool_dict, isTC_int_non, isTC_int_bool, isTC_int_int, isTC_int_str, isTC_int_list, isTC_int_tuple, isTC_int_dict, isTC_str_non, isTC_str_bool, isTC_str_int, isTC_str_str, isTC_str_list, isTC_str_tuple, isTC_str_dict, isTC_list_non, isTC_list_bool, isTC_list_int, isTC_list_str, isTC_list_list, isTC_list_tuple, isTC_list_dict, isTC_tuple_non, isTC_tuple_bool, isTC_tuple_int, isTC_tuple_str, isTC_tuple_list, isTC_tuple_tuple, isTC_tuple_dict, noOwn_tup, noOwn_lst, noOwn_int, noOwn_str, noOwn_bl, noOwn_non, noOwn_scr, noOwn_dct, noOwnL_nil, noOwnL_cons, canFz_tup, canFz_lst, canFz_int, canFz_str, canFz_bl, canFz_non, canFz_scr, canFzL_nil, canFzL_cons, fz_tup, fz_lst, fz_int, fz_str, fz_bl, fz_non, fz_scr, fzL_nil, fzL_cons, isTys, atI_0, atI_1, atI_2, atI_3, atI_4, ixN_0, ixN_1, ixN_2, eqD_int, Int.reduceLT, Int.reduceLE, Int.reduceNeg, Int.reduceAdd, Int.reduceSub, Int.reduceMul, Nat.reduceAdd, Nat.reduceLT, Nat.reduceLeDiff, Nat.reduceEqDiff, List.mem_cons, bindT, bindTs, Tg.slots, ownOk, wipeE, List.all_cons, List.all_nil, List.any_cons, List.any_nil, List.contains_eq_mem, List.not_mem_nil, List.length_cons, List.length_nil, List.set_cons_zero, List.set_cons_succ, List.cons_append, List.nil_append, Bool.not_true, Bool.not_false, Bool.and_true, Bool.true_and, Bool.and_false, Bool.false_and, Bool.or_true, Bool.true_or, Bool.or_false, Bool.false_or, Bool.and_self, Bool.or_self, Bool.and_eq_true, Bool.or_eq_true, Bool.not_eq_true', true_and, and_true, and_self, false_and, and_false, true_or, or_true, false_or, or_false, or_self, if_true, if_false, ite_true, ite_false, eq_self, Bool.false_eq_true, Option.map_some, Option.map_none, Option.bind_some, Option.some.injEq, decide_true, decide_false, decide_eq_true_eq, szOk_0, szOk_1, szOk_2, szOk_3, szOk_4, szOk_5, szOk_6, szOk_7, szOk_8, szOk_9, szOk_10, szOk_11, szOk_12, szOk_13, szOk_14, szOk_15, szOk_16, szOk_17, szOk_18, szOk_19, szOk_20, isScal_c0, isScal_c1, isScal_c2, isScal_c3, isScal_c4, isNonD_c0, b2_c0, b2_c1, b2_c2, b2_c3, b2_c4, b2_c5, b2_c6, b2_c7, b2_c8, b2_c9, b2_c10, b2_c11, b2_c12, b2_c13, b2_c14, b2_c15, b2_c16, c2_c0, c2_c1, c2_c2, c2_c3, c2_c4, c2_c5, c2_c6, c2_c7, ixS_c0, ixS_c1, ixS_c2, ixS_c3, slS_c0, slS_c1, slS_c2, slS_c3, f1S_c0, f1S_c1, f1S_c2, f1S_c3, f1S_c4, f1S_c5, f1S_c6, f1S_c7, f1S_c8, f1S_c9, f1S_c10, f1S_c11, f1S_c12, f1S_c13, f1S_c14, f1S_c15, f1S_c16, f2S_c0, f2S_c1, m1S_c0, m1S_c1, m1S_c2, m1S_c3, recvOk_c0, recvOk_c1, recvOk_c2, recvOk_c3, recvOk_c4, recvOk_c5, recvOk_c6, isOwnL_c0, mmS_c0, mmS_c1, mmS_c2, mmS_c3, itemsOf_c0, itemsOf_c1, itemsOf_c2, seqOf_c0, seqOf_c1, fd0, fd1, fd2, fd3, fd4, fd5, fd6, fd7, fd8, fd9, fd10, fd11, fd12, fd13, fd14, fd15, fd16, fd17, fd18, fd19, fd20, fd21, fd22, fd23, fd24, fd25, fd26, fd27, fd28, $[$es:term],*])
namespace K38
open PySem L2 PV
theorem at_last {cs : List Int} (h : cs ≠ []) : ∃ x, x ∈ cs ∧ atI (cs.map D.int) (-1) = some (.int x) := by
  have h1 : 0 < cs.length := by cases cs with | nil => exact absurd rfl h | cons _ _ => simp
  refine ⟨cs[cs.length - 1]'(by omega), List.getElem_mem _, ?_⟩
  have e1 : ixN (cs.map D.int).length (-1) = some (cs.length - 1) := by
    simp [ixN]; omega
  have hl : cs.length - 1 < (cs.map D.int).length := by simp; omega
  simp only [atI, e1]
  simp [hl]
theorem tupn {ns : List Int} (h : ns ≠ []) : eqD (.tup (ns.map .int)) (.tup []) = some false := by
  obtain ⟨x, y, h1, h2, h3⟩ := eqD_dat (n := 1) (m := 1) (a := .tup (ns.map .int)) (b := .tup []) (by simp [dat, datL_ints]) (by omega) rfl (by omega)
  rw [h3]
  simp only [py, pyL, Option.map_some, Option.some.injEq] at h2
  subst h2
  simp only [py, pyL_ints, Option.map_some, Option.some.injEq] at h1
  subst h1
  cases ns with
  | nil => exact absurd rfl h
  | cons a as => rfl
theorem nilsL : eqD (.lst true []) (.lst true []) = some true := rfl
section
variable {fs : List Str} {ds : List Dd} {ls : List Lk} {ws : List Int} {wish : Cd}
theorem many_ok {k : Nat} (hk : 1 ≤ k) (hf : Fs fs) {Q : D → Option D → Prop} {X : Nat → Prop} (q : Q (.int (2 ^ fs.length)) none) : wr (run lw.tb 1000 k 18 [fD fs]) Q X := by
  obtain ⟨k, rfl⟩ : ∃ k', k = k' + 1 := ⟨k - 1, by omega⟩
  rw [wr_runE fd18 rfl rfl rfl]
  show xB (Wk k []) bo18 [some (fD fs)] _
  unfold bo18
  exists len_fD, pow_ok hf, pow_is
  exact q
end
end K38

end

section
open PySem L2 PV
open K38
local macro_rules
  | `(tactic| exists $es,*) => `(tactic| simp -implicitDefEqProofs only [xE_int, xE_str, xE_bl, xE_non, xE_fn, xE_glob, xE_var, xE_bin, xE_cmp, xE_isn, xE_not, xE_and, xE_or, xE_ife, xE_tup, xE_lst, xE_ix, xO_all, xOb_t, xOb_f, xE_slA, xE_chain, kCh1_ap, kCh2_ap, kCh3_f, kCh3_t, kCh4_ap, kXf_ap, xE_fr, xE_xis, kXis_ap, xOf_xc, noOwn_xc, xS_try1, kTry_ex, kTry_nx, kTry_rt, kTry_bk, kTry_ct, kTry2_t, kTry2_f, kUn_nx, kUn_rt, xSlot_s, xSlot_n, xFits_s, xFits_n, fits'_is, noXS_nil, noXS_s, noXS_n, noX_int, noX_str, noX_bl, noX_non, noX_scr, noX_tup, noX_lst, noX_dct, noXL_nil, noXL_cons, noXL_ints, noXL_strs, xE_dnw, xS_dput, kDp1_ap, kDp2_ap, kDp3_ap, isOwnD_d, xE_mmA, xE_vf, kVf_ap, xE_sset, kSset_ap, xE_trg, kTrg_i, trgD_t, trgD_f, xE_lc, unh_e, unh_rng1, unh_rng2, unh_enum, unh_zip, unh_hold, backS_nil, backS_cons, xE_rev, xE_f1, xE_f2, xE_isin, xE_m1, xE_neg, xL_nil, xL_cons, xA_nil, xA_cons, xP_nil, xP_cons, xT_e, xV_all, xVb_t, xVb_f, xVb_m, kMv_ap, kKeep_all, kKb_t, kKb_f, kFr0_s, kFr1_ap, kFr_ap, xF_e, xS_asg, xS_asgT, xS_aug, xS_setixA, xSb_t, xS_forA, xS_expr, xS_ret, xS_retn, xS_ife, xS_raise, xS_pass, xS_cont, xS_brk, xB_nil, xB_cons, xTst_all, xTb_t, xTb_f, xC1_s, xC2_v, xC2_t, xC2_a, isVar, xI_e, xI_rng1, xI_rng2, xI_enum, xI_zip, kSq_nx, kSq_rt, kSq_ex, kSq_bk, kSq_ct, kCond_t, kCond_f, kTurn_nx, kTurn_ct, kTurn_bk, kTurn_rt, kTurn_ex, kIf_t, kRet_ap, kB3_ap, kB2_ap, kB1_ap, kC4_ap, kC3_ap, kC2_ap, kC1_ap, kIsn_ap, kNot_ap, kBl_ap, kNo_ap, kTup_ap, kLst_ap, kX4_ap, kX3_ap, kX2_ap, kX1_ap, kSl3_ap, kSl2_ap, kSl1_ap, kF1_ap, kF22_ap, kF21_ap, kIsin_ap, kM2_ap, kM1_ap, kCons2_ap, kL1_ap, kA1_ap, kP2_ap, kP1_ap, kR_ap, kRX_ap, kCallp_ap, kRs_ap, kCallz_ap, kCalla_ap, kPut_ap, kRi_ap, kRXi_ap, kCi3_ap, kCi2_ap, kCi1_ap, kDrop_ap, kRt_ap, kCt2_ap, kCt1_ap, kAsg_ap, kAsgT_ap, kSet1_ap, kExpr_ap, kRtn_ap, kIt_ap, kItems_ap, kRng2_ap, kZip_ap, kFz_ap, hold_e, hold_rng1, hold_rng2, hold_enum, hold_zip, hold_hold, kAnd_t, kAnd_f, kOr_t, kOr_f, kIfe_t, kIfe_f, kO_i, kRev_l, kNeg_i, kTst_b, kAug_i, kAug1_i, kSet2_i, kSet3_l, kRng1_i, kRng22_i, kEnum_l, kZip2_l, kLcT_f, kLcT_t, kLcE_ap, fin_rt0, fin_nx0, fin_ex0, fin_rt1, fin_nx1, slot_0, slot_s, put_0, put_s, oS_some, wr_ok, PV.pure, pureEs, isMv, isNo, root, redo, B2.scal, F1.scal, M1.scal, fits, tcOf_non, tcOf_bool, tcOf_int, tcOf_str, tcOf_list, tcOf_tuple, isTC_bool_non, isTC_bool_bool, isTC_bool_int, isTC_bool_str, isTC_bool_list, isTC_bool_tuple, isTC_bool_dict, isTC_int_non, isTC_int_bool, isTC_int_int, isTC_int_str, isTC_int_list, isTC_int_tuple, isTC_int_dict, isTC_str_non, isTC_str_bool, isTC_str_int, isTC_str_str, isTC_str_list, isTC_str_tuple, isTC_str_dict, isTC_list_non, isTC_list_bool, isTC_list_int, isTC_list_str, isTC_list_list, isTC_list_tuple, isTC_list_dict, isTC_tuple_non, isTC_tuple_bool, isTC_tuple_int, isTC_tuple_str, isTC_tuple_list, isTC_tuple_tuple, isTC_tuple_dict, noOwn_tup, noOwn_lst, noOwn_int, noOwn_str, noOwn_bl, noOwn_non, noOwn_scr, noOwn_dct, noOwnL_nil, noOwnL_cons, canFz_tup, canFz_lst, canFz_int, canFz_str, canFz_bl, canFz_non, canFz_scr, canFzL_nil, canFzL_cons, fz_tup, fz_lst, fz_int, fz_str, fz_bl, fz_non, fz_scr, fzL_nil, fzL_cons, isTys, atI_0, atI_1, atI_2, atI_3, atI_4, ixN_0, ixN_1, ixN_2, eqD_int, Int.reduceLT, Int.reduceLE, Int.reduceNeg, Int.reduceAdd, Int.reduceSub, Int.reduceMul, Nat.reduceAdd, Nat.reduceLT, Nat.reduceLeDiff, Nat.reduceEqDiff, List.mem_cons, bindT, bindTs, Tg.slots, ownOk, wipeE, List.all_cons, List.all_nil, List.any_cons, List.any_nil, List.contains_eq_mem, List.not_mem_nil, List.length_cons, List.length_nil, List.set_cons_zero, List.set_cons_succ, List.cons_append, List.nil_append, Bool.not_true, Bool.not_false, Bool.and_true, Bool.true_and, Bool.and_false, Bool.false_and, Bool.or_true, Bool.true_or, Bool.or_false, Bool.false_or, Bool.and_self, Bool.or_self, Bool.and_eq_true, Bool.or_eq_true, Bool.not_eq_true', true_and, and_true, and_self, false_and, and_false, true_or, or_true, false_or, or_false, or_self, if_true, if_false, ite_true, ite_false, eq_self, Bool.false_eq_true, Option.map_some, Option.map_none, Option.bind_some, Option.some.injEq, decide_true, decide_false, decide_eq_true_eq, szOk_0, szOk_1, szOk_2, szOk_3, szOk_4, szOk_5, szOk_6, szOk_7, szOk_8, szOk_9, szOk_10, szOk_11, szOk_12, szOk_13, szOk_14, szOk_15, szOk_16, szOk_17, szOk_18, szOk_19, szOk_20, isScal_c0, isScal_c1, isScal_c2, isScal_c3, isScal_c4, isNonD_c0, b2_c0, b2_c1, b2_c2, b2_c3, b2_c4, b2_c5, b2_c6, b2_c7, b2_c8, b2_c9, b2_c10, b2_c11, b2_c12, b2_c13, b2_c14, b2_c15, b2_c16, c2_c0, c2_c1, c2_c2, c2_c3, c2_c4, c2_c5, c2_c6, c2_c7, ixS_c0, ixS_c1, ixS_c2, ixS_c3, slS_c0, slS_c1, slS_c2, slS_c3, f1S_c0, f1S_c1, f1S_c2, f1S_c3, f1S_c4, f1S_c5, f1S_c6, f1S_c7, f1S_c8, f1S_c9, f1S_c10, f1S_c11, f1S_c12, f1S_c13, f1S_c14, f1S_c15, f1S_c16, f2S_c0, f2S_c1, m1S_c0, m1S_c1, m1S_c2, m1S_c3, recvOk_c0, recvOk_c1, recvOk_c2, recvOk_c3, recvOk_c4, recvOk_c5, recvOk_c6, isOwnL_c0, mmS_c0, mmS_c1, mmS_c2, mmS_c3, itemsOf_c0, itemsOf_c1, itemsOf_c2, seqOf_c0, seqOf_c1, fd0, fd1, fd2, fd3, fd4, fd5, fd6, fd7, fd8, fd9, fd10, fd11, fd12, fd13, fd14, fd15, fd16, fd17, fd18, fd19, fd20, fd21, fd22, fd23, fd24, fd25, fd26, fd27, fd28, $[$es:term],*])
namespace K38
open PySem L2 PV
section
variable {fs : List Str} {ds : List Dd} {ls : List Lk} {ws : List Int} {wish : Cd}
theorem is_crowd_ok {k : Nat} (hk : 2 ≤ k) (hh : Hs fs ds ls ws wish) {ns : List Int} (hc : Crowd (2 ^ fs.length) ns) (hl : ns.length ≤ 2000) {Q : D → Option D → Prop} {X : Nat → Prop} (q : Q (.bl true) none) : wr (run lw.tb 1000 k 27 [hsF fs ds ls ws wish, .tup (ns.map .int)]) Q X := by
  obtain ⟨k, rfl⟩ : ∃ k', k = k' + 1 := ⟨k - 1, by omega⟩
  rw [wr_runE fd27 rfl rfl rfl]
  show xB (Wk k []) bo27 [some (hsF fs ds ls ws wish), some (.tup (ns.map .int)), none] _
  unfold bo27
  have e1 := tupn hc.ne
  have hr : rngOk (ns.length : Int) = true := by simp [rngOk]; omega
  have hr1 : rngOk 1 = true := by decide
  obtain ⟨x, hx, ex⟩ := at_last hc.ne
  have h0 : 0 < ns.length := by cases hns : ns with | nil => exact absurd hns hc.ne | cons _ _ => simp
  have ez : atI (ns.map D.int) 0 = some (.int (ns[0]'h0)) := by
    rw [atI_nat (by omega) (by simpa using h0)]; simp
  exists e1, hr, hr1, noOwnL_ints, List.length_map, rngI_map
  refine kLc_filter (List.range ((ns.length : Int) - 1).toNat) (fun i => D.int (1 + (i : Nat))) (fun _ => false) (by simp) rfl ?_ (fun u _ => rfl) (by simp; omega) ?_
  · intro i hi Q' hq
    have hi := List.mem_range.mp hi
    have i1 : i + 1 < ns.length := by omega
    have a1 : atI (ns.map D.int) (1 + (i : Int)) = some (.int (ns[i + 1]'i1)) := by
      rw [atI_nat (by omega) (by simp; omega)]
      have : (1 + (i : Int)).toNat = i + 1 := by omega
      simp [this]
    have a2 : atI (ns.map D.int) (1 + (i : Int) - 1) = some (.int (ns[i]'(by omega))) := by
      rw [atI_nat (by omega) (by simp; omega)]
      have : (1 + (i : Int) - 1).toNat = i := by omega
      simp [this]
    have hlt : ns[i]'(by omega) < ns[i + 1]'i1 := List.pairwise_iff_getElem.mp hc.up i (i + 1) (by omega) i1 (by omega)
    have hd : decide (ns[i + 1]'i1 ≤ ns[i]'(by omega)) = false := by simp; omega
    simp only [xE_int, xE_str, xE_bl, xE_non, xE_fn, xE_glob, xE_var, xE_bin, xE_cmp, xE_isn, xE_not, xE_and, xE_or, xE_ife, xE_tup, xE_lst, xE_ix, xO_all, xOb_t, xOb_f, xE_slA, xE_chain, kCh1_ap, kCh2_ap, kCh3_f, kCh3_t, kCh4_ap, kXf_ap, xE_fr, xE_xis, kXis_ap, xOf_xc, noOwn_xc, xS_try1, kTry_ex, kTry_nx, kTry_rt, kTry_bk, kTry_ct, kTry2_t, kTry2_f, kUn_nx, kUn_rt, xSlot_s, xSlot_n, xFits_s, xFits_n, fits'_is, noXS_nil, noXS_s, noXS_n, noX_int, noX_str, noX_bl, noX_non, noX_scr, noX_tup, noX_lst, noX_dct, noXL_nil, noXL_cons, noXL_ints, noXL_strs, xE_dnw, xS_dput, kDp1_ap, kDp2_ap, kDp3_ap, isOwnD_d, xE_mmA, xE_vf, kVf_ap, xE_sset, kSset_ap, xE_trg, kTrg_i, trgD_t, trgD_f, xE_lc, unh_e, unh_rng1, unh_rng2, unh_enum, unh_zip, unh_hold, backS_nil, backS_cons, xE_rev, xE_f1, xE_f2, xE_isin, xE_m1, xE_neg, xL_nil, xL_cons, xA_nil, xA_cons, xP_nil, xP_cons, xT_e, xV_all, xVb_t, xVb_f, xVb_m, kMv_ap, kKeep_all, kKb_t, kKb_f, kFr0_s, kFr1_ap, kFr_ap, xF_e, xS_asg, xS_asgT, xS_aug, xS_setixA, xSb_t, xS_forA, xS_expr, xS_ret, xS_retn, xS_ife, xS_raise, xS_pass, xS_cont, xS_brk, xB_nil, xB_cons, xTst_all, xTb_t, xTb_f, xC1_s, xC2_v, xC2_t, xC2_a, isVar, xI_e, xI_rng1, xI_rng2, xI_enum, xI_zip, kSq_nx, kSq_rt, kSq_ex, kSq_bk, kSq_ct, kCond_t, kCond_f, kTurn_nx, kTurn_ct, kTurn_bk, kTurn_rt, kTurn_ex, kIf_t, kRet_ap, kB3_ap, kB2_ap, kB1_ap, kC4_ap, kC3_ap, kC2_ap, kC1_ap, kIsn_ap, kNot_ap, kBl_ap, kNo_ap, kTup_ap, kLst_ap, kX4_ap, kX3_ap, kX2_ap, kX1_ap, kSl3_ap, kSl2_ap, kSl1_ap, kF1_ap, kF22_ap, kF21_ap, kIsin_ap, kM2_ap, kM1_ap, kCons2_ap, kL1_ap, kA1_ap, kP2_ap, kP1_ap, kR_ap, kRX_ap, kCallp_ap, kRs_ap, kCallz_ap, kCalla_ap, kPut_ap, kRi_ap, kRXi_ap, kCi3_ap, kCi2_ap, kCi1_ap, kDrop_ap, kRt_ap, kCt2_ap, kCt1_ap, kAsg_ap, kAsgT_ap, kSet1_ap, kExpr_ap, kRtn_ap, kIt_ap, kItems_ap, kRng2_ap, kZip_ap, kFz_ap, hold_e, hold_rng1, hold_rng2, hold_enum, hold_zip, hold_hold, kAnd_t, kAnd_f, kOr_t, kOr_f, kIfe_t, kIfe_f, kO_i, kRev_l, kNeg_i, kTst_b, kAug_i, kAug1_i, kSet2_i, kSet3_l, kRng1_i, kRng22_i, kEnum_l, kZip2_l, kLcT_f, kLcT_t, kLcE_ap, fin_rt0, fin_nx0, fin_ex0, fin_rt1, fin_nx1, slot_0, slot_s, put_0, put_s, oS_some, wr_ok, PV.pure, pureEs, isMv, isNo, root, redo, B2.scal, F1.scal, M1.scal, fits, tcOf_non, tcOf_bool, tcOf_int, tcOf_str, tcOf_list, tcOf_tuple, isTC_bool_non, isTC_bool_bool, isTC_bool_int, isTC_bool_str, isTC_bool_list, isTC_bool_tuple, isTC_bool_dict, isTC_int_non, isTC_int_bool, isTC_int_int, isTC_int_str, isTC_int_list, isTC_int_tuple, isTC_int_dict, isTC_str_non, isTC_str_bool, isTC_str_int, isTC_str_str, isTC_str_list, isTC_str_tuple, isTC_str_dict, isTC_list_non, isTC_list_bool, isTC_list_int, isTC_list_str, isTC_list_list, isTC_list_tuple, isTC_list_dict, isTC_tuple_non, isTC_tuple_bool, isTC_tuple_int, isTC_tuple_str, isTC_tuple_list, isTC_tuple_tuple, isTC_tuple_dict, noOwn_tup, noOwn_lst, noOwn_int, noOwn_str, noOwn_bl, noOwn_non, noOwn_scr, noOwn_dct, noOwnL_nil, noOwnL_cons, canFz_tup, canFz_lst, canFz_int, canFz_str, canFz_bl, canFz_non, canFz_scr, canFzL_nil, canFzL_cons, fz_tup, fz_lst, fz_int, fz_str, fz_bl, fz_non, fz_scr, fzL_nil, fzL_cons, isTys, atI_0, atI_1, atI_2, atI_3, atI_4, ixN_0, ixN_1, ixN_2, eqD_int, Int.reduceLT, Int.reduceLE, Int.reduceNeg, Int.reduceAdd, Int.reduceSub, Int.reduceMul, Nat.reduceAdd, Nat.reduceLT, Nat.reduceLeDiff, Nat.reduceEqDiff, List.mem_cons, bindT, bindTs, Tg.slots, ownOk, wipeE, List.all_cons, List.all_nil, List.any_cons, List.any_nil, List.contains_eq_mem, List.not_mem_nil, List.length_cons, List.length_nil, List.set_cons_zero, List.set_cons_succ, List.cons_append, List.nil_append, Bool.not_true, Bool.not_false, Bool.and_true, Bool.true_and, Bool.and_false, Bool.false_and, Bool.or_true, Bool.true_or, Bool.or_false, Bool.false_or, Bool.and_self, Bool.or_self, Bool.and_eq_true, Bool.or_eq_true, Bool.not_eq_true', true_and, and_true, and_self, false_and, and_false, true_or, or_true, false_or, or_false, or_self, if_true, if_false, ite_true, ite_false, eq_self, Bool.false_eq_true, Option.map_some, Option.map_none, Option.bind_some, Option.some.injEq, decide_true, decide_false, decide_eq_true_eq, szOk_0, szOk_1, szOk_2, szOk_3, szOk_4, szOk_5, szOk_6, szOk_7, szOk_8, szOk_9, szOk_10, szOk_11, szOk_12, szOk_13, szOk_14, szOk_15, szOk_16, szOk_17, szOk_18, szOk_19, szOk_20, isScal_c0, isScal_c1, isScal_c2, isScal_c3, isScal_c4, isNonD_c0, b2_c0, b2_c1, b2_c2, b2_c3, b2_c4, b2_c5, b2_c6, b2_c7, b2_c8, b2_c9, b2_c10, b2_c11, b2_c12, b2_c13, b2_c14, b2_c15, b2_c16, c2_c0, c2_c1, c2_c2, c2_c3, c2_c4, c2_c5, c2_c6, c2_c7, ixS_c0, ixS_c1, ixS_c2, ixS_c3, slS_c0, slS_c1, slS_c2, slS_c3, f1S_c0, f1S_c1, f1S_c2, f1S_c3, f1S_c4, f1S_c5, f1S_c6, f1S_c7, f1S_c8, f1S_c9, f1S_c10, f1S_c11, f1S_c12, f1S_c13, f1S_c14, f1S_c15, f1S_c16, f2S_c0, f2S_c1, m1S_c0, m1S_c1, m1S_c2, m1S_c3, recvOk_c0, recvOk_c1, recvOk_c2, recvOk_c3, recvOk_c4, recvOk_c5, recvOk_c6, isOwnL_c0, mmS_c0, mmS_c1, mmS_c2, mmS_c3, itemsOf_c0, itemsOf_c1, itemsOf_c2, seqOf_c0, seqOf_c1, fd0, fd1, fd2, fd3, fd4, fd5, fd6, fd7, fd8, fd9, fd10, fd11, fd12, fd13, fd14, fd15, fd16, fd17, fd18, fd19, fd20, fd21, fd22, fd23, fd24, fd25, fd26, fd27, fd28] at hq
    exists isNo, a1, a2, hd, noOwnL_ints
    exact hq
  · have hfl : List.filter (fun _ => false) (List.range ((ns.length : Int) - 1).toNat) = [] := by simp
    have b0 := (hc.bd _ (List.getElem_mem h0)).1
    have b1 := (hc.bd x hx).2
    have d0 : decide ((0 : Int) ≤ ns[0]'h0) = true := by simpa using b0
    have d1 : decide (x < 2 ^ fs.length) = true := by simpa using b1
    exists hfl, List.map_nil, nilsL, ez, ex, noOwnL_ints, d0
    refine xE_callp (fd := _) fd18 rfl ?_
    exists at0, fF, hsF_no, no_fD
    refine many_ok (k := k) (by omega) hh.ff ?_
    exists d1
    exact q
theorem need_crowd_ok {k : Nat} (hk : 3 ≤ k) (hh : Hs fs ds ls ws wish) {ns : List Int} (hc : Crowd (2 ^ fs.length) ns) (hl : ns.length ≤ 2000) {Q : D → Option D → Prop} {X : Nat → Prop} (q : Q .non none) : wr (run lw.tb 1000 k 20 [hsF fs ds ls ws wish, .tup (ns.map .int)]) Q X := by
  obtain ⟨k, rfl⟩ : ∃ k', k = k' + 1 := ⟨k - 1, by omega⟩
  rw [wr_runE fd20 rfl rfl rfl]
  show xB (Wk k []) bo20 [some (hsF fs ds ls ws wish), some (.tup (ns.map .int))] _
  unfold bo20
  exists if_true
  refine xE_callp (fd := _) fd27 rfl ?_
  exists hsF_no, noOwnL_ints
  refine is_crowd_ok (k := k) (by omega) hh hc hl ?_
  exists if_true
  exact q
end
end K38

end

section
open PySem L2 PV
open K38
local macro_rules
  | `(tactic| exists $es,*) => `(tactic| simp -implicitDefEqProofs only [xE_int, xE_str, xE_bl, xE_non, xE_fn, xE_glob, xE_var, xE_bin, xE_cmp, xE_isn, xE_not, xE_and, xE_or, xE_ife, xE_tup, xE_lst, xE_ix, xO_all, xOb_t, xOb_f, xE_slA, xE_chain, kCh1_ap, kCh2_ap, kCh3_f, kCh3_t, kCh4_ap, kXf_ap, xE_fr, xE_xis, kXis_ap, xOf_xc, noOwn_xc, xS_try1, kTry_ex, kTry_nx, kTry_rt, kTry_bk, kTry_ct, kTry2_t, kTry2_f, kUn_nx, kUn_rt, xSlot_s, xSlot_n, xFits_s, xFits_n, fits'_is, noXS_nil, noXS_s, noXS_n, noX_int, noX_str, noX_bl, noX_non, noX_scr, noX_tup, noX_lst, noX_dct, noXL_nil, noXL_cons, noXL_ints, noXL_strs, xE_dnw, xS_dput, kDp1_ap, kDp2_ap, kDp3_ap, isOwnD_d, xE_mmA, xE_vf, kVf_ap, xE_sset, kSset_ap, xE_trg, kTrg_i, trgD_t, trgD_f, xE_lc, unh_e, unh_rng1, unh_rng2, unh_enum, unh_zip, unh_hold, backS_nil, backS_cons, xE_rev, xE_f1, xE_f2, xE_isin, xE_m1, xE_neg, xL_nil, xL_cons, xA_nil, xA_cons, xP_nil, xP_cons, xT_e, xV_all, xVb_t, xVb_f, xVb_m, kMv_ap, kKeep_all, kKb_t, kKb_f, kFr0_s, kFr1_ap, kFr_ap, xF_e, xS_asg, xS_asgT, xS_aug, xS_setixA, xSb_t, xS_forA, xS_expr, xS_ret, xS_retn, xS_ife, xS_raise, xS_pass, xS_cont, xS_brk, xB_nil, xB_cons, xTst_all, xTb_t, xTb_f, xC1_s, xC2_v, xC2_t, xC2_a, isVar, xI_e, xI_rng1, xI_rng2, xI_enum, xI_zip, kSq_nx, kSq_rt, kSq_ex, kSq_bk, kSq_ct, kCond_t, kCond_f, kTurn_nx, kTurn_ct, kTurn_bk, kTurn_rt, kTurn_ex, kIf_t, kRet_ap, kB3_ap, kB2_ap, kB1_ap, kC4_ap, kC3_ap, kC2_ap, kC1_ap, kIsn_ap, kNot_ap, kBl_ap, kNo_ap, kTup_ap, kLst_ap, kX4_ap, kX3_ap, kX2_ap, kX1_ap, kSl3_ap, kSl2_ap, kSl1_ap, kF1_ap, kF22_ap, kF21_ap, kIsin_ap, kM2_ap, kM1_ap, kCons2_ap, kL1_ap, kA1_ap, kP2_ap, kP1_ap, kR_ap, kRX_ap, kCallp_ap, kRs_ap, kCallz_ap, kCalla_ap, kPut_ap, kRi_ap, kRXi_ap, kCi3_ap, kCi2_ap, kCi1_ap, kDrop_ap, kRt_ap, kCt2_ap, kCt1_ap, kAsg_ap, kAsgT_ap, kSet1_ap, kExpr_ap, kRtn_ap, kIt_ap, kItems_ap, kRng2_ap, kZip_ap, kFz_ap, hold_e, hold_rng1, hold_rng2, hold_enum, hold_zip, hold_hold, kAnd_t, kAnd_f, kOr_t, kOr_f, kIfe_t, kIfe_f, kO_i, kRev_l, kNeg_i, kTst_b, kAug_i, kAug1_i, kSet2_i, kSet3_l, kRng1_i, kRng22_i, kEnum_l, kZip2_l, kLcT_f, kLcT_t, kLcE_ap, fin_rt0, fin_nx0, fin_ex0, fin_rt1, fin_nx1, slot_0, slot_s, put_0, put_s, oS_some, wr_ok, PV.pure, pureEs, isMv, isNo, root, redo, B2.scal, F1.scal, M1.scal, fits, tcOf_non, tcOf_bool, tcOf_int, tcOf_str, tcOf_list, tcOf_tuple, isTC_bool_non, isTC_bool_bool, isTC_bool_int, isTC_bool_str, isTC_bool_list, isTC_bool_tuple, isTC_bool_dict, isTC_int_non, isTC_int_bool, isTC_int_int, isTC_int_str, isTC_int_list, isTC_int_tuple, isTC_int_dict, isTC_str_non, isTC_str_bool, isTC_str_int, isTC_str_str, isTC_str_list, isTC_str_tuple, isTC_str_dict, isTC_list_non, isTC_list_bool, isTC_list_int, isTC_list_str, isTC_list_list, isTC_list_tuple, isTC_list_dict, isTC_tuple_non, isTC_tuple_bool, isTC_tuple_int, isTC_tuple_str, isTC_tuple_list, isTC_tuple_tuple, isTC_tuple_dict, noOwn_tup, noOwn_lst, noOwn_int, noOwn_str, noOwn_bl, noOwn_non, noOwn_scr, noOwn_dct, noOwnL_nil, noOwnL_cons, canFz_tup, canFz_lst, canFz_int, canFz_str, canFz_bl, canFz_non, canFz_scr, canFzL_nil, canFzL_cons, fz_tup, fz_lst, fz_int, fz_str, fz_bl, fz_non, fz_scr, fzL_nil, fzL_cons, isTys, atI_0, atI_1, atI_2, atI_3, atI_4, ixN_0, ixN_1, ixN_2, eqD_int, Int.reduceLT, Int.reduceLE, Int.reduceNeg, Int.reduceAdd, Int.reduceSub, Int.reduceMul, Nat.reduceAdd, Nat.reduceLT, Nat.reduceLeDiff, Nat.reduceEqDiff, List.mem_cons, bindT, bindTs, Tg.slots, ownOk, wipeE, List.all_cons, List.all_nil, List.any_cons, List.any_nil, List.contains_eq_mem, List.not_mem_nil, List.length_cons, List.length_nil, List.set_cons_zero, List.set_cons_succ, List.cons_append, List.nil_append, Bool.not_true, Bool.not_false, Bool.and_true, Bool.true_and, Bool.and_false, Bool.false_and, Bool.or_true, Bool.true_or, Bool.or_false, Bool.false_or, Bool.and_self, Bool.or_self, Bool.and_eq_true, Bool.or_eq_true, Bool.not_eq_true', true_and, and_true, and_self, false_and, and_false, true_or, or_true, false_or, or_false, or_self, if_true, if_false, ite_true, ite_false, eq_self, Bool.false_eq_true, Option.map_some, Option.map_none, Option.bind_some, Option.some.injEq, decide_true, decide_false, decide_eq_true_eq, szOk_0, szOk_1, szOk_2, szOk_3, szOk_4, szOk_5, szOk_6, szOk_7, szOk_8, szOk_9, szOk_10, szOk_11, szOk_12, szOk_13, szOk_14, szOk_15, szOk_16, szOk_17, szOk_18, szOk_19, szOk_20, isScal_c0, isScal_c1, isScal_c2, isScal_c3, isScal_c4, isNonD_c0, b2_c0, b2_c1, b2_c2, b2_c3, b2_c4, b2_c5, b2_c6, b2_c7, b2_c8, b2_c9, b2_c10, b2_c11, b2_c12, b2_c13, b2_c14, b2_c15, b2_c16, c2_c0, c2_c1, c2_c2, c2_c3, c2_c4, c2_c5, c2_c6, c2_c7, ixS_c0, ixS_c1, ixS_c2, ixS_c3, slS_c0, slS_c1, slS_c2, slS_c3, f1S_c0, f1S_c1, f1S_c2, f1S_c3, f1S_c4, f1S_c5, f1S_c6, f1S_c7, f1S_c8, f1S_c9, f1S_c10, f1S_c11, f1S_c12, f1S_c13, f1S_c14, f1S_c15, f1S_c16, f2S_c0, f2S_c1, m1S_c0, m1S_c1, m1S_c2, m1S_c3, recvOk_c0, recvOk_c1, recvOk_c2, recvOk_c3, recvOk_c4, recvOk_c5, recvOk_c6, isOwnL_c0, mmS_c0, mmS_c1, mmS_c2, mmS_c3, itemsOf_c0, itemsOf_c1, itemsOf_c2, seqOf_c0, seqOf_c1, fd0, fd1, fd2, fd3, fd4, fd5, fd6, fd7, fd8, fd9, fd10, fd11, fd12, fd13, fd14, fd15, fd16, fd17, fd18, fd19, fd20, fd21, fd22, fd23, fd24, fd25, fd26, fd27, fd28, $[$es:term],*])
namespace K38
open PySem L2 PV
section
variable {fs : List Str} {ds : List Dd} {ls : List Lk} {ws : List Int} {wish : Cd}
/-- its need holds in all of them -/
def cando (fs : List Str) (c : Cd) (ns : List Int) : Bool := decide ((ns.filter fun w => !c.tru fs w) = [])
theorem can_ok {k : Nat} (hh : Hs fs ds ls ws wish) {d : Dd} (hd : Deed fs d) (hk : 27 ≤ k) {ns : List Int} (hl : ns.length ≤ 2000) {Q : D → Option D → Prop} {X : Nat → Prop} (q : Q (.bl (cando fs d.2.1 ns)) none) : wr (run lw.tb 1000 k 26 [hsF fs ds ls ws wish, ddD false d, .tup (ns.map .int)]) Q X := by
  obtain ⟨k, rfl⟩ : ∃ k', k = k' + 1 := ⟨k - 1, by omega⟩
  rw [wr_runE fd26 rfl rfl rfl]
  show xB (Wk k []) bo26 [some (hsF fs ds ls ws wish), some (ddD false d), some (.tup (ns.map .int)), none] _
  unfold bo26
  have hn := ddF_no d
  have e1 : ∀ kt, ixS kt (ddD false d) (.int 1) = some d.2.1.toD := fun _ => rfl
  exists noOwnL_ints, ints_cz, ints_fz
  refine kLc_filter ns D.int (fun w => !d.2.1.tru fs w) (by simp) rfl ?_ (fun u _ => rfl) (by omega) ?_
  · intro w hw Q' hq
    simp only [xE_int, xE_str, xE_bl, xE_non, xE_fn, xE_glob, xE_var, xE_bin, xE_cmp, xE_isn, xE_not, xE_and, xE_or, xE_ife, xE_tup, xE_lst, xE_ix, xO_all, xOb_t, xOb_f, xE_slA, xE_chain, kCh1_ap, kCh2_ap, kCh3_f, kCh3_t, kCh4_ap, kXf_ap, xE_fr, xE_xis, kXis_ap, xOf_xc, noOwn_xc, xS_try1, kTry_ex, kTry_nx, kTry_rt, kTry_bk, kTry_ct, kTry2_t, kTry2_f, kUn_nx, kUn_rt, xSlot_s, xSlot_n, xFits_s, xFits_n, fits'_is, noXS_nil, noXS_s, noXS_n, noX_int, noX_str, noX_bl, noX_non, noX_scr, noX_tup, noX_lst, noX_dct, noXL_nil, noXL_cons, noXL_ints, noXL_strs, xE_dnw, xS_dput, kDp1_ap, kDp2_ap, kDp3_ap, isOwnD_d, xE_mmA, xE_vf, kVf_ap, xE_sset, kSset_ap, xE_trg, kTrg_i, trgD_t, trgD_f, xE_lc, unh_e, unh_rng1, unh_rng2, unh_enum, unh_zip, unh_hold, backS_nil, backS_cons, xE_rev, xE_f1, xE_f2, xE_isin, xE_m1, xE_neg, xL_nil, xL_cons, xA_nil, xA_cons, xP_nil, xP_cons, xT_e, xV_all, xVb_t, xVb_f, xVb_m, kMv_ap, kKeep_all, kKb_t, kKb_f, kFr0_s, kFr1_ap, kFr_ap, xF_e, xS_asg, xS_asgT, xS_aug, xS_setixA, xSb_t, xS_forA, xS_expr, xS_ret, xS_retn, xS_ife, xS_raise, xS_pass, xS_cont, xS_brk, xB_nil, xB_cons, xTst_all, xTb_t, xTb_f, xC1_s, xC2_v, xC2_t, xC2_a, isVar, xI_e, xI_rng1, xI_rng2, xI_enum, xI_zip, kSq_nx, kSq_rt, kSq_ex, kSq_bk, kSq_ct, kCond_t, kCond_f, kTurn_nx, kTurn_ct, kTurn_bk, kTurn_rt, kTurn_ex, kIf_t, kRet_ap, kB3_ap, kB2_ap, kB1_ap, kC4_ap, kC3_ap, kC2_ap, kC1_ap, kIsn_ap, kNot_ap, kBl_ap, kNo_ap, kTup_ap, kLst_ap, kX4_ap, kX3_ap, kX2_ap, kX1_ap, kSl3_ap, kSl2_ap, kSl1_ap, kF1_ap, kF22_ap, kF21_ap, kIsin_ap, kM2_ap, kM1_ap, kCons2_ap, kL1_ap, kA1_ap, kP2_ap, kP1_ap, kR_ap, kRX_ap, kCallp_ap, kRs_ap, kCallz_ap, kCalla_ap, kPut_ap, kRi_ap, kRXi_ap, kCi3_ap, kCi2_ap, kCi1_ap, kDrop_ap, kRt_ap, kCt2_ap, kCt1_ap, kAsg_ap, kAsgT_ap, kSet1_ap, kExpr_ap, kRtn_ap, kIt_ap, kItems_ap, kRng2_ap, kZip_ap, kFz_ap, hold_e, hold_rng1, hold_rng2, hold_enum, hold_zip, hold_hold, kAnd_t, kAnd_f, kOr_t, kOr_f, kIfe_t, kIfe_f, kO_i, kRev_l, kNeg_i, kTst_b, kAug_i, kAug1_i, kSet2_i, kSet3_l, kRng1_i, kRng22_i, kEnum_l, kZip2_l, kLcT_f, kLcT_t, kLcE_ap, fin_rt0, fin_nx0, fin_ex0, fin_rt1, fin_nx1, slot_0, slot_s, put_0, put_s, oS_some, wr_ok, PV.pure, pureEs, isMv, isNo, root, redo, B2.scal, F1.scal, M1.scal, fits, tcOf_non, tcOf_bool, tcOf_int, tcOf_str, tcOf_list, tcOf_tuple, isTC_bool_non, isTC_bool_bool, isTC_bool_int, isTC_bool_str, isTC_bool_list, isTC_bool_tuple, isTC_bool_dict, isTC_int_non, isTC_int_bool, isTC_int_int, isTC_int_str, isTC_int_list, isTC_int_tuple, isTC_int_dict, isTC_str_non, isTC_str_bool, isTC_str_int, isTC_str_str, isTC_str_list, isTC_str_tuple, isTC_str_dict, isTC_list_non, isTC_list_bool, isTC_list_int, isTC_list_str, isTC_list_list, isTC_list_tuple, isTC_list_dict, isTC_tuple_non, isTC_tuple_bool, isTC_tuple_int, isTC_tuple_str, isTC_tuple_list, isTC_tuple_tuple, isTC_tuple_dict, noOwn_tup, noOwn_lst, noOwn_int, noOwn_str, noOwn_bl, noOwn_non, noOwn_scr, noOwn_dct, noOwnL_nil, noOwnL_cons, canFz_tup, canFz_lst, canFz_int, canFz_str, canFz_bl, canFz_non, canFz_scr, canFzL_nil, canFzL_cons, fz_tup, fz_lst, fz_int, fz_str, fz_bl, fz_non, fz_scr, fzL_nil, fzL_cons, isTys, atI_0, atI_1, atI_2, atI_3, atI_4, ixN_0, ixN_1, ixN_2, eqD_int, Int.reduceLT, Int.reduceLE, Int.reduceNeg, Int.reduceAdd, Int.reduceSub, Int.reduceMul, Nat.reduceAdd, Nat.reduceLT, Nat.reduceLeDiff, Nat.reduceEqDiff, List.mem_cons, bindT, bindTs, Tg.slots, ownOk, wipeE, List.all_cons, List.all_nil, List.any_cons, List.any_nil, List.contains_eq_mem, List.not_mem_nil, List.length_cons, List.length_nil, List.set_cons_zero, List.set_cons_succ, List.cons_append, List.nil_append, Bool.not_true, Bool.not_false, Bool.and_true, Bool.true_and, Bool.and_false, Bool.false_and, Bool.or_true, Bool.true_or, Bool.or_false, Bool.false_or, Bool.and_self, Bool.or_self, Bool.and_eq_true, Bool.or_eq_true, Bool.not_eq_true', true_and, and_true, and_self, false_and, and_false, true_or, or_true, false_or, or_false, or_self, if_true, if_false, ite_true, ite_false, eq_self, Bool.false_eq_true, Option.map_some, Option.map_none, Option.bind_some, Option.some.injEq, decide_true, decide_false, decide_eq_true_eq, szOk_0, szOk_1, szOk_2, szOk_3, szOk_4, szOk_5, szOk_6, szOk_7, szOk_8, szOk_9, szOk_10, szOk_11, szOk_12, szOk_13, szOk_14, szOk_15, szOk_16, szOk_17, szOk_18, szOk_19, szOk_20, isScal_c0, isScal_c1, isScal_c2, isScal_c3, isScal_c4, isNonD_c0, b2_c0, b2_c1, b2_c2, b2_c3, b2_c4, b2_c5, b2_c6, b2_c7, b2_c8, b2_c9, b2_c10, b2_c11, b2_c12, b2_c13, b2_c14, b2_c15, b2_c16, c2_c0, c2_c1, c2_c2, c2_c3, c2_c4, c2_c5, c2_c6, c2_c7, ixS_c0, ixS_c1, ixS_c2, ixS_c3, slS_c0, slS_c1, slS_c2, slS_c3, f1S_c0, f1S_c1, f1S_c2, f1S_c3, f1S_c4, f1S_c5, f1S_c6, f1S_c7, f1S_c8, f1S_c9, f1S_c10, f1S_c11, f1S_c12, f1S_c13, f1S_c14, f1S_c15, f1S_c16, f2S_c0, f2S_c1, m1S_c0, m1S_c1, m1S_c2, m1S_c3, recvOk_c0, recvOk_c1, recvOk_c2, recvOk_c3, recvOk_c4, recvOk_c5, recvOk_c6, isOwnL_c0, mmS_c0, mmS_c1, mmS_c2, mmS_c3, itemsOf_c0, itemsOf_c1, itemsOf_c2, seqOf_c0, seqOf_c1, fd0, fd1, fd2, fd3, fd4, fd5, fd6, fd7, fd8, fd9, fd10, fd11, fd12, fd13, fd14, fd15, fd16, fd17, fd18, fd19, fd20, fd21, fd22, fd23, fd24, fd25, fd26, fd27, fd28] at hq
    exists isNo
    refine xE_callp (fd := _) fd17 rfl ?_
    exists at0, fF, hsF_no, no_fD, e1, hn, cd_no
    refine holds_ok hh.ff d.2.1 hd.over (k := k) (by have := hd.deep; omega) ?_
    exists if_true
    exact hq
  · exists ints_nil
    exact q
end
end K38

end

section
open PySem L2 PV
open K38
local macro_rules
  | `(tactic| exists $es,*) => `(tactic| simp -implicitDefEqProofs only [xE_int, xE_str, xE_bl, xE_non, xE_fn, xE_glob, xE_var, xE_bin, xE_cmp, xE_isn, xE_not, xE_and, xE_or, xE_ife, xE_tup, xE_lst, xE_ix, xO_all, xOb_t, xOb_f, xE_slA, xE_chain, kCh1_ap, kCh2_ap, kCh3_f, kCh3_t, kCh4_ap, kXf_ap, xE_fr, xE_xis, kXis_ap, xOf_xc, noOwn_xc, xS_try1, kTry_ex, kTry_nx, kTry_rt, kTry_bk, kTry_ct, kTry2_t, kTry2_f, kUn_nx, kUn_rt, xSlot_s, xSlot_n, xFits_s, xFits_n, fits'_is, noXS_nil, noXS_s, noXS_n, noX_int, noX_str, noX_bl, noX_non, noX_scr, noX_tup, noX_lst, noX_dct, noXL_nil, noXL_cons, noXL_ints, noXL_strs, xE_dnw, xS_dput, kDp1_ap, kDp2_ap, kDp3_ap, isOwnD_d, xE_mmA, xE_vf, kVf_ap, xE_sset, kSset_ap, xE_trg, kTrg_i, trgD_t, trgD_f, xE_lc, unh_e, unh_rng1, unh_rng2, unh_enum, unh_zip, unh_hold, backS_nil, backS_cons, xE_rev, xE_f1, xE_f2, xE_isin, xE_m1, xE_neg, xL_nil, xL_cons, xA_nil, xA_cons, xP_nil, xP_cons, xT_e, xV_all, xVb_t, xVb_f, xVb_m, kMv_ap, kKeep_all, kKb_t, kKb_f, kFr0_s, kFr1_ap, kFr_ap, xF_e, xS_asg, xS_asgT, xS_aug, xS_setixA, xSb_t, xS_forA, xS_expr, xS_ret, xS_retn, xS_ife, xS_raise, xS_pass, xS_cont, xS_brk, xB_nil, xB_cons, xTst_all, xTb_t, xTb_f, xC1_s, xC2_v, xC2_t, xC2_a, isVar, xI_e, xI_rng1, xI_rng2, xI_enum, xI_zip, kSq_nx, kSq_rt, kSq_ex, kSq_bk, kSq_ct, kCond_t, kCond_f, kTurn_nx, kTurn_ct, kTurn_bk, kTurn_rt, kTurn_ex, kIf_t, kRet_ap, kB3_ap, kB2_ap, kB1_ap, kC4_ap, kC3_ap, kC2_ap, kC1_ap, kIsn_ap, kNot_ap, kBl_ap, kNo_ap, kTup_ap, kLst_ap, kX4_ap, kX3_ap, kX2_ap, kX1_ap, kSl3_ap, kSl2_ap, kSl1_ap, kF1_ap, kF22_ap, kF21_ap, kIsin_ap, kM2_ap, kM1_ap, kCons2_ap, kL1_ap, kA1_ap, kP2_ap, kP1_ap, kR_ap, kRX_ap, kCallp_ap, kRs_ap, kCallz_ap, kCalla_ap, kPut_ap, kRi_ap, kRXi_ap, kCi3_ap, kCi2_ap, kCi1_ap, kDrop_ap, kRt_ap, kCt2_ap, kCt1_ap, kAsg_ap, kAsgT_ap, kSet1_ap, kExpr_ap, kRtn_ap, kIt_ap, kItems_ap, kRng2_ap, kZip_ap, kFz_ap, hold_e, hold_rng1, hold_rng2, hold_enum, hold_zip, hold_hold, kAnd_t, kAnd_f, kOr_t, kOr_f, kIfe_t, kIfe_f, kO_i, kRev_l, kNeg_i, kTst_b, kAug_i, kAug1_i, kSet2_i, kSet3_l, kRng1_i, kRng22_i, kEnum_l, kZip2_l, kLcT_f, kLcT_t, kLcE_ap, fin_rt0, fin_nx0, fin_ex0, fin_rt1, fin_nx1, slot_0, slot_s, put_0, put_s, oS_some, wr_ok, PV.pure, pureEs, isMv, isNo, root, redo, B2.scal, F1.scal, M1.scal, fits, tcOf_non, tcOf_bool, tcOf_int, tcOf_str, tcOf_list, tcOf_tuple, isTC_bool_non, isTC_bool_bool, isTC_bool_int, isTC_bool_str, isTC_bool_list, isTC_bool_tuple, isTC_bool_dict, isTC_int_non, isTC_int_bool, isTC_int_int, isTC_int_str, isTC_int_list, isTC_int_tuple, isTC_int_dict, isTC_str_non, isTC_str_bool, isTC_str_int, isTC_str_str, isTC_str_list, isTC_str_tuple, isTC_str_dict, isTC_list_non, isTC_list_bool, isTC_list_int, isTC_list_str, isTC_list_list, isTC_list_tuple, isTC_list_dict, isTC_tuple_non, isTC_tuple_bool, isTC_tuple_int, isTC_tuple_str, isTC_tuple_list, isTC_tuple_tuple, isTC_tuple_dict, noOwn_tup, noOwn_lst, noOwn_int, noOwn_str, noOwn_bl, noOwn_non, noOwn_scr, noOwn_dct, noOwnL_nil, noOwnL_cons, canFz_tup, canFz_lst, canFz_int, canFz_str, canFz_bl, canFz_non, canFz_scr, canFzL_nil, canFzL_cons, fz_tup, fz_lst, fz_int, fz_str, fz_bl, fz_non, fz_scr, fzL_nil, fzL_cons, isTys, atI_0, atI_1, atI_2, atI_3, atI_4, ixN_0, ixN_1, ixN_2, eqD_int, Int.reduceLT, Int.reduceLE, Int.reduceNeg, Int.reduceAdd, Int.reduceSub, Int.reduceMul, Nat.reduceAdd, Nat.reduceLT, Nat.reduceLeDiff, Nat.reduceEqDiff, List.mem_cons, bindT, bindTs, Tg.slots, ownOk, wipeE, List.all_cons, List.all_nil, List.any_cons, List.any_nil, List.contains_eq_mem, List.not_mem_nil, List.length_cons, List.length_nil, List.set_cons_zero, List.set_cons_succ, List.cons_append, List.nil_append, Bool.not_true, Bool.not_false, Bool.and_true, Bool.true_and, Bool.and_false, Bool.false_and, Bool.or_true, Bool.true_or, Bool.or_false, Bool.false_or, Bool.and_self, Bool.or_self, Bool.and_eq_true, Bool.or_eq_true, Bool.not_eq_true', true_and, and_true, and_self, false_and, and_false, true_or, or_true, false_or, or_false, or_self, if_true, if_false, ite_true, ite_false, eq_self, Bool.false_eq_true, Option.map_some, Option.map_none, Option.bind_some, Option.some.injEq, decide_true, decide_false, decide_eq_true_eq, szOk_0, szOk_1, szOk_2, szOk_3, szOk_4, szOk_5, szOk_6, szOk_7, szOk_8, szOk_9, szOk_10, szOk_11, szOk_12, szOk_13, szOk_14, szOk_15, szOk_16, szOk_17, szOk_18, szOk_19, szOk_20, isScal_c0, isScal_c1, isScal_c2, isScal_c3, isScal_c4, isNonD_c0, b2_c0, b2_c1, b2_c2, b2_c3, b2_c4, b2_c5, b2_c6, b2_c7, b2_c8, b2_c9, b2_c10, b2_c11, b2_c12, b2_c13, b2_c14, b2_c15, b2_c16, c2_c0, c2_c1, c2_c2, c2_c3, c2_c4, c2_c5, c2_c6, c2_c7, ixS_c0, ixS_c1, ixS_c2, ixS_c3, slS_c0, slS_c1, slS_c2, slS_c3, f1S_c0, f1S_c1, f1S_c2, f1S_c3, f1S_c4, f1S_c5, f1S_c6, f1S_c7, f1S_c8, f1S_c9, f1S_c10, f1S_c11, f1S_c12, f1S_c13, f1S_c14, f1S_c15, f1S_c16, f2S_c0, f2S_c1, m1S_c0, m1S_c1, m1S_c2, m1S_c3, recvOk_c0, recvOk_c1, recvOk_c2, recvOk_c3, recvOk_c4, recvOk_c5, recvOk_c6, isOwnL_c0, mmS_c0, mmS_c1, mmS_c2, mmS_c3, itemsOf_c0, itemsOf_c1, itemsOf_c2, seqOf_c0, seqOf_c1, fd0, fd1, fd2, fd3, fd4, fd5, fd6, fd7, fd8, fd9, fd10, fd11, fd12, fd13, fd14, fd15, fd16, fd17, fd18, fd19, fd20, fd21, fd22, fd23, fd24, fd25, fd26, fd27, fd28, $[$es:term],*])
namespace K38
open PySem L2 PV
def dk (a b : Int) : D := .lst true [.int a, .int b]
theorem reel_ok {k : Nat} (hk : 1 ≤ k) {c : Int} {Q : D → Option D → Prop} {X : Nat → Prop} (q : ∀ a b, 0 ≤ a → 0 ≤ b → Q (dk a b) none) : wr (run lw.tb 1000 k 0 [.int c]) Q X := by
  obtain ⟨k, rfl⟩ : ∃ k', k = k' + 1 := ⟨k - 1, by omega⟩
  rw [wr_runE fd0 rfl rfl rfl]
  show xB (Wk k []) bo0 [some (.int c)] _
  unfold bo0
  have m1 : ∀ i, mulOk i 742938285 = true := fun i => mulOk_r (by decide) (by decide)
  exists m1
  exact q _ _ (by omega) (Int.emod_nonneg _ (by decide))
theorem take_ok {k : Nat} (hk : 1 ≤ k) {a b m : Int} (ha : 0 ≤ a) (hb : 0 ≤ b) (hm : 0 < m) (hm2 : m < 1073741824) {Q : D → Option D → Prop} {X : Nat → Prop} (q : ∀ n a' b', 0 ≤ n → n < m → 0 ≤ a' → 0 ≤ b' → Q (.int n) (some (dk a' b'))) :
    wr (run lw.tb 1000 k 3 [dk a b, .int m]) Q X := by
  obtain ⟨k, rfl⟩ : ∃ k', k = k' + 1 := ⟨k - 1, by omega⟩
  rw [wr_runE fd3 rfl rfl rfl]
  show xB _ bo3 [some (dk a b), some (.int m), none, none] _
  unfold bo3 dk
  have f1 : fdivOk m = true := fdivOk_of hm hm2
  have f8 : fdivOk 8 = true := by decide
  have m1 : ∀ i, mulOk i 48271 = true := fun i => mulOk_r (by decide) (by decide)
  have m2 : ∀ i, mulOk i 69621 = true := fun i => mulOk_r (by decide) (by decide)
  have p1 : powOk 10 18 = true := by decide
  exists f1, f8, m1, m2, hm, p1
  generalize hp : (10 : Int) ^ Int.toNat 18 = p
  by_cases h : p ≤ a
  · rw [decide_eq_true h]
    exists f1, f8, m1, m2, hm
    exact q _ _ _ (Int.emod_nonneg _ (by omega)) (Int.emod_lt_of_pos _ hm) (Int.ediv_nonneg ha (by omega)) hb
  · rw [decide_eq_false h]
    have hq0 := Int.emod_nonneg (b * 48271 + 11) (b := 2147483647) (by decide)
    have hq1 := Int.emod_lt_of_pos (b * 48271 + 11) (b := 2147483647) (by decide)
    exists f1, f8, m1, m2, hm
    generalize (b * 48271 + 11) % 2147483647 = z at hq0 hq1 ⊢
    have mz : mulOk z z = true := mulOk_r (by omega) (by omega)
    exists mz, f1, f8, m1, m2, hm
    exact q _ _ _ (Int.emod_nonneg _ (by omega)) (Int.emod_lt_of_pos _ hm) ha hq0
end K38

end

section
open PySem L2 PV
open K38
local macro_rules
  | `(tactic| exists $es,*) => `(tactic| simp -implicitDefEqProofs only [xE_int, xE_str, xE_bl, xE_non, xE_fn, xE_glob, xE_var, xE_bin, xE_cmp, xE_isn, xE_not, xE_and, xE_or, xE_ife, xE_tup, xE_lst, xE_ix, xO_all, xOb_t, xOb_f, xE_slA, xE_chain, kCh1_ap, kCh2_ap, kCh3_f, kCh3_t, kCh4_ap, kXf_ap, xE_fr, xE_xis, kXis_ap, xOf_xc, noOwn_xc, xS_try1, kTry_ex, kTry_nx, kTry_rt, kTry_bk, kTry_ct, kTry2_t, kTry2_f, kUn_nx, kUn_rt, xSlot_s, xSlot_n, xFits_s, xFits_n, fits'_is, noXS_nil, noXS_s, noXS_n, noX_int, noX_str, noX_bl, noX_non, noX_scr, noX_tup, noX_lst, noX_dct, noXL_nil, noXL_cons, noXL_ints, noXL_strs, xE_dnw, xS_dput, kDp1_ap, kDp2_ap, kDp3_ap, isOwnD_d, xE_mmA, xE_vf, kVf_ap, xE_sset, kSset_ap, xE_trg, kTrg_i, trgD_t, trgD_f, xE_lc, unh_e, unh_rng1, unh_rng2, unh_enum, unh_zip, unh_hold, backS_nil, backS_cons, xE_rev, xE_f1, xE_f2, xE_isin, xE_m1, xE_neg, xL_nil, xL_cons, xA_nil, xA_cons, xP_nil, xP_cons, xT_e, xV_all, xVb_t, xVb_f, xVb_m, kMv_ap, kKeep_all, kKb_t, kKb_f, kFr0_s, kFr1_ap, kFr_ap, xF_e, xS_asg, xS_asgT, xS_aug, xS_setixA, xSb_t, xS_forA, xS_expr, xS_ret, xS_retn, xS_ife, xS_raise, xS_pass, xS_cont, xS_brk, xB_nil, xB_cons, xTst_all, xTb_t, xTb_f, xC1_s, xC2_v, xC2_t, xC2_a, isVar, xI_e, xI_rng1, xI_rng2, xI_enum, xI_zip, kSq_nx, kSq_rt, kSq_ex, kSq_bk, kSq_ct, kCond_t, kCond_f, kTurn_nx, kTurn_ct, kTurn_bk, kTurn_rt, kTurn_ex, kIf_t, kRet_ap, kB3_ap, kB2_ap, kB1_ap, kC4_ap, kC3_ap, kC2_ap, kC1_ap, kIsn_ap, kNot_ap, kBl_ap, kNo_ap, kTup_ap, kLst_ap, kX4_ap, kX3_ap, kX2_ap, kX1_ap, kSl3_ap, kSl2_ap, kSl1_ap, kF1_ap, kF22_ap, kF21_ap, kIsin_ap, kM2_ap, kM1_ap, kCons2_ap, kL1_ap, kA1_ap, kP2_ap, kP1_ap, kR_ap, kRX_ap, kCallp_ap, kRs_ap, kCallz_ap, kCalla_ap, kPut_ap, kRi_ap, kRXi_ap, kCi3_ap, kCi2_ap, kCi1_ap, kDrop_ap, kRt_ap, kCt2_ap, kCt1_ap, kAsg_ap, kAsgT_ap, kSet1_ap, kExpr_ap, kRtn_ap, kIt_ap, kItems_ap, kRng2_ap, kZip_ap, kFz_ap, hold_e, hold_rng1, hold_rng2, hold_enum, hold_zip, hold_hold, kAnd_t, kAnd_f, kOr_t, kOr_f, kIfe_t, kIfe_f, kO_i, kRev_l, kNeg_i, kTst_b, kAug_i, kAug1_i, kSet2_i, kSet3_l, kRng1_i, kRng22_i, kEnum_l, kZip2_l, kLcT_f, kLcT_t, kLcE_ap, fin_rt0, fin_nx0, fin_ex0, fin_rt1, fin_nx1, slot_0, slot_s, put_0, put_s, oS_some, wr_ok, PV.pure, pureEs, isMv, isNo, root, redo, B2.scal, F1.scal, M1.scal, fits, tcOf_non, tcOf_bool, tcOf_int, tcOf_str, tcOf_list, tcOf_tuple, isTC_bool_non, isTC_bool_bool, isTC_bool_int, isTC_bool_str, isTC_bool_list, isTC_bool_tuple, isTC_bool_dict, isTC_int_non, isTC_int_bool, isTC_int_int, isTC_int_str, isTC_int_list, isTC_int_tuple, isTC_int_dict, isTC_str_non, isTC_str_bool, isTC_str_int, isTC_str_str, isTC_str_list, isTC_str_tuple, isTC_str_dict, isTC_list_non, isTC_list_bool, isTC_list_int, isTC_list_str, isTC_list_list, isTC_list_tuple, isTC_list_dict, isTC_tuple_non, isTC_tuple_bool, isTC_tuple_int, isTC_tuple_str, isTC_tuple_list, isTC_tuple_tuple, isTC_tuple_dict, noOwn_tup, noOwn_lst, noOwn_int, noOwn_str, noOwn_bl, noOwn_non, noOwn_scr, noOwn_dct, noOwnL_nil, noOwnL_cons, canFz_tup, canFz_lst, canFz_int, canFz_str, canFz_bl, canFz_non, canFz_scr, canFzL_nil, canFzL_cons, fz_tup, fz_lst, fz_int, fz_str, fz_bl, fz_non, fz_scr, fzL_nil, fzL_cons, isTys, atI_0, atI_1, atI_2, atI_3, atI_4, ixN_0, ixN_1, ixN_2, eqD_int, Int.reduceLT, Int.reduceLE, Int.reduceNeg, Int.reduceAdd, Int.reduceSub, Int.reduceMul, Nat.reduceAdd, Nat.reduceLT, Nat.reduceLeDiff, Nat.reduceEqDiff, List.mem_cons, bindT, bindTs, Tg.slots, ownOk, wipeE, List.all_cons, List.all_nil, List.any_cons, List.any_nil, List.contains_eq_mem, List.not_mem_nil, List.length_cons, List.length_nil, List.set_cons_zero, List.set_cons_succ, List.cons_append, List.nil_append, Bool.not_true, Bool.not_false, Bool.and_true, Bool.true_and, Bool.and_false, Bool.false_and, Bool.or_true, Bool.true_or, Bool.or_false, Bool.false_or, Bool.and_self, Bool.or_self, Bool.and_eq_true, Bool.or_eq_true, Bool.not_eq_true', true_and, and_true, and_self, false_and, and_false, true_or, or_true, false_or, or_false, or_self, if_true, if_false, ite_true, ite_false, eq_self, Bool.false_eq_true, Option.map_some, Option.map_none, Option.bind_some, Option.some.injEq, decide_true, decide_false, decide_eq_true_eq, szOk_0, szOk_1, szOk_2, szOk_3, szOk_4, szOk_5, szOk_6, szOk_7, szOk_8, szOk_9, szOk_10, szOk_11, szOk_12, szOk_13, szOk_14, szOk_15, szOk_16, szOk_17, szOk_18, szOk_19, szOk_20, isScal_c0, isScal_c1, isScal_c2, isScal_c3, isScal_c4, isNonD_c0, b2_c0, b2_c1, b2_c2, b2_c3, b2_c4, b2_c5, b2_c6, b2_c7, b2_c8, b2_c9, b2_c10, b2_c11, b2_c12, b2_c13, b2_c14, b2_c15, b2_c16, c2_c0, c2_c1, c2_c2, c2_c3, c2_c4, c2_c5, c2_c6, c2_c7, ixS_c0, ixS_c1, ixS_c2, ixS_c3, slS_c0, slS_c1, slS_c2, slS_c3, f1S_c0, f1S_c1, f1S_c2, f1S_c3, f1S_c4, f1S_c5, f1S_c6, f1S_c7, f1S_c8, f1S_c9, f1S_c10, f1S_c11, f1S_c12, f1S_c13, f1S_c14, f1S_c15, f1S_c16, f2S_c0, f2S_c1, m1S_c0, m1S_c1, m1S_c2, m1S_c3, recvOk_c0, recvOk_c1, recvOk_c2, recvOk_c3, recvOk_c4, recvOk_c5, recvOk_c6, isOwnL_c0, mmS_c0, mmS_c1, mmS_c2, mmS_c3, itemsOf_c0, itemsOf_c1, itemsOf_c2, seqOf_c0, seqOf_c1, fd0, fd1, fd2, fd3, fd4, fd5, fd6, fd7, fd8, fd9, fd10, fd11, fd12, fd13, fd14, fd15, fd16, fd17, fd18, fd19, fd20, fd21, fd22, fd23, fd24, fd25, fd26, fd27, fd28, $[$es:term],*])
namespace K38
open PySem L2 PV
theorem lay_iff {s : Str} : PyData.canLay0 (.str s) = true ↔ ∀ c ∈ s.cps.toList, c < 0x110000 := by
  have e : PyData.canLay0 (.str s) = s.cps.all (· < 0x110000) := rfl
  rw [e, ← Array.all_toList, List.all_eq_true]
  simp only [decide_eq_true_eq]
theorem strs_dat {xs : List Str} (h : ∀ s ∈ xs, PyData.canLay0 (.str s) = true) (n : Nat) : datL n (xs.map D.str) = true := by
  induction xs with
  | nil => rfl
  | cons x xs ih => simp only [List.map_cons, datL, Bool.and_eq_true]; exact ⟨strOk_of x (h x (by simp)) n, ih fun s hs => h s (by simp [hs])⟩
theorem inD_strs {kt o : Bool} {w : Str} {fs : List Str} (hw : PyData.canLay0 (.str w) = true) (h : ∀ s ∈ fs, PyData.canLay0 (.str s) = true) : inD kt (.str w) (.lst o (fs.map .str)) = some (decide (w ∈ fs)) := by
  obtain ⟨z, h1, h2⟩ := shaped_of (n := 1) (d := .lst o (fs.map .str)) (by simp [dat, strs_dat h]) (by omega)
  simp only [py, pyL_strs, Option.map_some, Option.some.injEq] at h1
  subst h1
  have h3 : SeqAt.shaped (PyData.str w) = true := by simp [SeqAt.shaped, hw, PyData.depth]
  simp only [inD, py, pyL_strs, h2, h3, Bool.and_self, if_true, Option.some.injEq]
  clear h2 h3 h
  induction fs with
  | nil => simp
  | cons x xs ih =>
    have e0 : PyData.eqv (.str x) (.str w) = (x == w) := rfl
    simp only [List.map_cons, List.any_cons, ih, List.mem_cons, e0]
    by_cases c : x = w
    · subst c; simp
    · have : ¬ w = x := fun z => c z.symm
      simp [c, this]
theorem left_one : ∀ (ys xs : List Str), xs.Nodup → ys.length < xs.length → ∃ x ∈ xs, x ∉ ys
  | [], xs, _, h => by
    cases xs with
    | nil => simp at h
    | cons x xs => exact ⟨x, by simp, by simp⟩
  | y :: ys, xs, hd, h => by
    have h1 : ys.length < (xs.erase y).length := by
      rw [List.length_erase]
      simp only [List.length_cons] at h
      split <;> omega
    obtain ⟨x, hx, hn⟩ := left_one ys (xs.erase y) (hd.erase y) h1
    have h2 := (List.Nodup.mem_erase_iff hd).mp hx
    exact ⟨x, h2.2, by simp [h2.1, hn]⟩
theorem at_map {α : Type} {us : List α} {f : α → D} {i : Int} (h0 : 0 ≤ i) (h : i < us.length) : ∃ u, u ∈ us ∧ atI (us.map f) i = some (f u) := by
  refine ⟨us[i.toNat]'(by omega), List.getElem_mem _, ?_⟩
  rw [atI_nat h0 (by simpa using h)]
  simp
/-- a while by the turns that are left -/
theorem xS_whN {W : Wd} {c : E} {body : Ss} {ρ : PV.Env} {Q : Fl → Prop} (J : Nat → PV.Env → Prop) {N : Nat} (hN : N < W.L) (h0 : J N ρ) (step : ∀ n ρ, J n ρ → xT W c ρ (fun t ρ' => match t with | true => xB W body ρ' (kTurn (fun ρ2 => ∃ m, m < n ∧ J m ρ2) Q) | false => Q (.nx ρ')) (kXf Q)) : xS W (.wh c body) ρ Q := by
  show wf (PV.st W (.wh c body) ρ) Q
  rw [PV.st]
  generalize W.L = n at hN
  induction n generalizing ρ N with
  | zero => omega
  | succ n ih =>
    have q := step N ρ h0
    unfold whLoop
    rw [wf_of]
    refine wp_mono q (fun p k => ?_) fun _ _ k => k
    obtain ⟨t, ρ'⟩ := p
    cases t with
    | false => exact k
    | true =>
      have k : wf (sts W body ρ') _ := k
      show wf (match sts W body ρ' with | .nx ρ => _ | .ct ρ => _ | .bk ρ => _ | x => x) Q
      cases e : sts W body ρ' with
      | nx ρ2 => rw [e] at k; obtain ⟨m, hm, hj⟩ := k; exact ih hj (by omega)
      | ct ρ2 => rw [e] at k; obtain ⟨m, hm, hj⟩ := k; exact ih hj (by omega)
      | bk ρ2 => rw [e] at k; exact k
      | rt _ _ => rw [e] at k; exact k
      | ex _ _ => rw [e] at k; exact k
      | bad => rw [e] at k; exact k
def abc : Str := "abcdefghijklmnopqrstuvwxyz"
/-- a letter's sign -/
def ltr (i : Nat) : Nat := 97 + i % 26
theorem abc_at (kt : Bool) {i : Nat} (h : i < 26) : ixS kt (.str abc) (.int (i : Nat)) = some (.str (SX.S [ltr i])) := by
  have hz : szOk abc.length = true := szOk_of (by decide +kernel)
  have a : ∀ n : Fin 26, atI abc.cps.toList ((n : Nat) : Int) = some (ltr n) := by decide +kernel
  simp only [ixS, hz, if_true, a ⟨i, h⟩, Option.map_some]
theorem abc_find {i : Nat} (h : i < 26) : Txt.find abc (SX.S [ltr i]) = ((i : Nat) : Int) := by
  have a : ∀ n : Fin 26, Txt.find abc (SX.S [ltr n]) = ((n : Nat) : Int) := by decide +kernel
  exact a ⟨i, h⟩
theorem last_S (kt : Bool) {p : List Nat} {c : Nat} (h : p.length ≤ 100) : ixS kt (.str (SX.S (p ++ [c]))) (.int (-1)) = some (.str (SX.S [c])) := by
  have hz : szOk (SX.S (p ++ [c])).length = true := szOk_of (by rw [SX.S_len]; simp; omega)
  have e1 : ixN (p ++ [c]).length (-1) = some p.length := by
    simp [ixN]; omega
  have a : atI (p ++ [c]) (-1) = some c := by
    simp only [atI, e1]; simp
  have e2 : (SX.S (p ++ [c])).cps.toList = p ++ [c] := by simp
  simp only [ixS, hz, if_true, e2, a, Option.map_some]
theorem but_last {p : List Nat} {c : Nat} (h : p.length ≤ 100) : slS (.str (SX.S (p ++ [c]))) none (some (-1)) = some (.str (SX.S p)) := by
  have hz : szOk (SX.S (p ++ [c])).length = true := szOk_of (by rw [SX.S_len]; simp; omega)
  simp only [slS, hz, if_true, SX.butlast_snoc]
theorem add_S {p q : List Nat} (h : p.length + q.length ≤ 1000) : b2 .add (.str (SX.S p)) (.str (SX.S q)) = some (.str (SX.S (p ++ q))) := by
  have hz : szOk ((SX.S p).length + (SX.S q).length) = true := szOk_of (by rw [SX.S_len, SX.S_len]; omega)
  simp only [b2, hz, if_true, SX.S_cat]
def pre8 : List Str := ["", "", "do", "see", "yes", "fact", "not", "end"]
theorem pre8_ok : ∀ s ∈ pre8, s.cps.toList.length ≤ 4 ∧ ∀ c ∈ s.cps.toList, c < 0x110000 := by
  have h : pre8.all (fun s => decide (s.cps.toList.length ≤ 4) && s.cps.toList.all fun c => decide (c < 0x110000)) = true := by decide +kernel
  intro s hs
  have := List.all_eq_true.mp h s hs
  simp only [Bool.and_eq_true, decide_eq_true_eq, List.all_eq_true] at this
  exact this
theorem cand_inj {p : List Nat} {j a b : Nat} (ha : a < 26) (hb : b < 26) (h : SX.S (p ++ [ltr (j + a)]) = SX.S (p ++ [ltr (j + b)])) : a = b := by
  have h1 := List.append_cancel_left (SX.S_inj h)
  simp only [ltr, List.cons.injEq, and_true] at h1
  omega
def whS : Ss := match bo12 with
  | .cons _ (.cons _ (.cons (.for _ _ _ _ (.cons _ (.cons _ r))) _)) => r
  | _ => .nil
theorem whS_ok {k : Nat} {a b : Int} {m : Int} {x : D} {ns : List Str} (hl : ns.length < 26) (hlay : ∀ s ∈ ns, PyData.canLay0 (.str s) = true) {p : List Nat} (hp : p.length ≤ 20) (hpl : ∀ c ∈ p, c < 0x110000) {j : Nat} {v6 : Option D} {Q : Fl → Prop}
    (q : ∀ w, w ∉ ns → PyData.canLay0 (.str w) = true → Q (.nx [some (dk a b), some (.int m), some (.str abc), some (.lst true ((ns ++ [w]).map .str)), some x, none, v6])) :
    xB (Wk k [0]) whS [some (dk a b), some (.int m), some (.str abc), some (.lst true (ns.map .str)), some x, some (.str (SX.S (p ++ [ltr j]))), v6] Q := by
  show xB (Wk k [0]) (.cons (.wh _ _) (.cons _ .nil)) _ _
  have clay : ∀ s, PyData.canLay0 (.str (SX.S (p ++ [ltr s]))) = true := by
    intro s
    rw [lay_iff]
    intro c hc
    simp only [SX.S, List.mem_append, List.mem_singleton] at hc
    rcases hc with hc | rfl
    · exact hpl c hc
    · unfold ltr; omega
  rw [xB_cons]
  refine xS_whN (W := Wk k [0]) (fun n ρ => ∃ s, s + n = 25 ∧ ρ = [some (dk a b), some (.int m), some (.str abc), some (.lst true (ns.map .str)), some x, some (.str (SX.S (p ++ [ltr (j + s)]))), v6] ∧ ∀ t, t < s → SX.S (p ++ [ltr (j + t)]) ∈ ns) (N := 25) (show 25 < 1000 by decide) ⟨0, rfl, rfl, fun t h => by omega⟩ ?_
  rintro n ρ ⟨s, hs, rfl, hin⟩
  have hi : inD lw.tb.kt (.str (SX.S (p ++ [ltr (j + s)]))) (.lst true (ns.map .str)) = some (decide (SX.S (p ++ [ltr (j + s)]) ∈ ns)) := inD_strs (clay _) hlay
  by_cases c : SX.S (p ++ [ltr (j + s)]) ∈ ns
  · rw [decide_eq_true c] at hi
    have hn : 0 < n := by
      rcases Nat.eq_zero_or_pos n with h | h
      · exfalso
        have hs : s = 25 := by omega
        subst hs
        have nd : ((List.range 26).map fun i => SX.S (p ++ [ltr (j + i)])).Nodup := by
          rw [List.Nodup, List.pairwise_map]
          refine List.Pairwise.imp_of_mem (R := fun a b : Nat => a < b) (fun {x y} hx hy h e => ?_) List.pairwise_lt_range
          have h1 := List.mem_range.mp hx
          have h2 := List.mem_range.mp hy
          have := cand_inj h1 h2 e
          omega
        obtain ⟨y, hy, hny⟩ := left_one ns _ nd (by simp; omega)
        obtain ⟨i, hi2, rfl⟩ := List.mem_map.mp hy
        have := List.mem_range.mp hi2
        rcases Nat.lt_or_ge i 25 with h1 | h1
        · exact hny (hin i h1)
        · have : i = 25 := by omega
          subst this
          exact hny c
      · exact h
    have ef : Txt.find abc (SX.S [ltr (j + s)]) = (((j + s) % 26 : Nat) : Int) := by
      have := abc_find (i := (j + s) % 26) (Nat.mod_lt _ (by omega))
      rw [← this]
      congr 2
      simp only [ltr, List.cons.injEq, and_true]
      omega
    have em : ((((j + s) % 26 : Nat) : Int) + 1) % 26 = (((j + s + 1) % 26 : Nat) : Int) := by omega
    have el : ltr ((j + s + 1) % 26) = ltr (j + (s + 1)) := by unfold ltr; omega
    have ea := abc_at lw.tb.kt (i := (j + s + 1) % 26) (Nat.mod_lt _ (by omega))
    rw [el] at ea
    have e1 := last_S lw.tb.kt (p := p) (c := ltr (j + s)) (by omega)
    have e2 := but_last (p := p) (c := ltr (j + s)) (by omega)
    have e3 := add_S (p := p) (q := [ltr (j + (s + 1))]) (by simp; omega)
    have rf : recvOk .find (.str abc) = true := rfl
    exists hi, ef, em, ea, e1, e2, e3, rf
    refine ⟨n - 1, by omega, s + 1, by omega, rfl, ?_⟩
    intro t ht
    rcases Nat.lt_or_ge t s with h1 | h1
    · exact hin t h1
    · have : t = s := by omega
      subst this
      exact c
  · rw [decide_eq_false c] at hi
    exists hi
    refine kMm_ap _ _ _ _ _ (ns.map .str) .non ((ns ++ [SX.S (p ++ [ltr (j + s)])]).map .str) rfl (by rw [PV.app_ok (by simp; omega)]; simp) ?_
    exists if_true
    exact q _ c (clay _)
theorem names_ok {k : Nat} (hk : 3 ≤ k) {a b m : Int} (ha : 0 ≤ a) (hb : 0 ≤ b) (m0 : 0 ≤ m) (m1 : m ≤ 25) {Q : D → Option D → Prop} {X : Nat → Prop} (q : ∀ (fs : List Str) a' b', 0 ≤ a' → 0 ≤ b' → fs.length = m.toNat → fs.Nodup → (∀ s ∈ fs, PyData.canLay0 (.str s) = true) → Q (.lst true (fs.map .str)) (some (dk a' b'))) : wr (run lw.tb 1000 k 12 [dk a b, .int m]) Q X := by
  obtain ⟨k, rfl⟩ : ∃ k', k = k' + 1 := ⟨k - 1, by omega⟩
  rw [wr_runE fd12 rfl rfl rfl]
  show xB (Wk k [0]) (.cons _ (.cons _ (.cons (.for _ _ _ _ (.cons _ (.cons _ whS))) (.cons _ .nil)))) [some (dk a b), some (.int m), none, none, none, none, none] _
  have hr : rngOk m = true := by simp [rngOk]; omega
  exists hr
  refine kFor_inv (fun i ρ => ∃ (a b : Int) (ns : List Str) (v4 v5 v6 : Option D), ρ = [some (dk a b), some (.int m), some (.str abc), some (.lst true (ns.map .str)), v4, v5, v6] ∧ 0 ≤ a ∧ 0 ≤ b ∧ ns.length = i ∧ ns.Nodup ∧ ∀ s ∈ ns, PyData.canLay0 (.str s) = true) (by decide) ⟨a, b, [], none, none, none, rfl, ha, hb, rfl, by simp, by simp⟩ ?_ ?_
  · rintro i x ρ hx ⟨a1, b1, ns, v4, v5, v6, rfl, ha1, hb1, hl, hnd, hlay⟩
    obtain ⟨hi, rfl⟩ := rngI_get hx
    exists if_true
    refine xC_ap ?_
    exists if_true
    refine take_ok (k := k) (by omega) ha1 hb1 (by decide) (by decide) fun t a2 b2 t0 t1 ha2 hb2 => ?_
    obtain ⟨s, hs, es⟩ := at_map (us := pre8) (f := D.str) (i := t) t0 (by exact t1)
    have es : atI [D.str "", .str "", .str "do", .str "see", .str "yes", .str "fact", .str "not", .str "end"] t = some (.str s) := es
    obtain ⟨s1, s2⟩ := pre8_ok s hs
    exists es
    refine xC_ap ?_
    exists if_true
    refine take_ok (k := k) (by omega) ha2 hb2 (by decide) (by decide) fun r a3 b3 r0 r1 ha3 hb3 => ?_
    have hr : rngOk (1 + r) = true := by simp [rngOk]; omega
    exists hr
    refine kFor_inv (fun n ρ => ∃ (a b : Int) (l : List Nat) (v6 : Option D), ρ = [some (dk a b), some (.int m), some (.str abc), some (.lst true (ns.map .str)), some (.int (0 + (i : Nat))), some (.str (SX.S l)), v6] ∧ 0 ≤ a ∧ 0 ≤ b ∧ l.length ≤ 4 + n ∧ (∀ c ∈ l, c < 0x110000) ∧ (0 < n → ∃ p j, l = p ++ [ltr j])) (by decide) ⟨a3, b3, s.cps.toList, v6, by rw [SX.S_tl], ha3, hb3, by omega, s2, by omega⟩ ?_ ?_
    · rintro n y ρ hy ⟨a4, b4, l, v6, rfl, ha4, hb4, hll, hlc, -⟩
      obtain ⟨hn, rfl⟩ := rngI_get hy
      exists if_true
      refine xC_ap ?_
      exists if_true
      refine take_ok (k := k) (by omega) ha4 hb4 (by decide) (by decide) fun t a5 b5 t0 t1 ha5 hb5 => ?_
      obtain ⟨u, rfl⟩ : ∃ u : Nat, t = (u : Nat) := ⟨t.toNat, by omega⟩
      have ea := abc_at lw.tb.kt (i := u) (by omega)
      have e3 := add_S (p := l) (q := [ltr u]) (by simp; omega)
      exists ea, e3
      refine ⟨a5, b5, l ++ [ltr u], _, rfl, ha5, hb5, by simp; omega, ?_, fun _ => ⟨l, u, rfl⟩⟩
      intro c hc
      simp only [List.mem_append, List.mem_singleton] at hc
      rcases hc with hc | rfl
      · exact hlc c hc
      · unfold ltr; omega
    · rintro ρ ⟨a4, b4, l, v6, rfl, ha4, hb4, hll, hlc, hpos⟩
      rw [rngI_len] at hll hpos
      obtain ⟨p, j, rfl⟩ := hpos (by omega)
      rw [kSq_nx]
      simp only [List.length_append, List.length_singleton] at hll
      refine whS_ok (by omega) hlay (by omega) (fun c hc => hlc c (by simp [hc])) fun w hw hwl => ?_
      rw [kTurn_nx]
      refine ⟨a4, b4, ns ++ [w], _, _, _, rfl, ha4, hb4, by simp; omega, ?_, ?_⟩
      · rw [List.nodup_append]
        refine ⟨hnd, by simp, ?_⟩
        intro x hx y hy e
        simp only [List.mem_singleton] at hy
        subst hy; subst e; exact hw hx
      · intro s hs
        simp only [List.mem_append, List.mem_singleton] at hs
        rcases hs with hs | rfl
        · exact hlay s hs
        · exact hwl
  · rintro ρ ⟨a1, b1, ns, v4, v5, v6, rfl, ha1, hb1, hl, hnd, hlay⟩
    rw [rngI_len] at hl
    exists if_true
    exact q ns a1 b1 ha1 hb1 hl hnd hlay
end K38

end

section
open PySem L2 PV
open K38
local macro_rules
  | `(tactic| exists $es,*) => `(tactic| simp -implicitDefEqProofs only [xE_int, xE_str, xE_bl, xE_non, xE_fn, xE_glob, xE_var, xE_bin, xE_cmp, xE_isn, xE_not, xE_and, xE_or, xE_ife, xE_tup, xE_lst, xE_ix, xO_all, xOb_t, xOb_f, xE_slA, xE_chain, kCh1_ap, kCh2_ap, kCh3_f, kCh3_t, kCh4_ap, kXf_ap, xE_fr, xE_xis, kXis_ap, xOf_xc, noOwn_xc, xS_try1, kTry_ex, kTry_nx, kTry_rt, kTry_bk, kTry_ct, kTry2_t, kTry2_f, kUn_nx, kUn_rt, xSlot_s, xSlot_n, xFits_s, xFits_n, fits'_is, noXS_nil, noXS_s, noXS_n, noX_int, noX_str, noX_bl, noX_non, noX_scr, noX_tup, noX_lst, noX_dct, noXL_nil, noXL_cons, noXL_ints, noXL_strs, xE_dnw, xS_dput, kDp1_ap, kDp2_ap, kDp3_ap, isOwnD_d, xE_mmA, xE_vf, kVf_ap, xE_sset, kSset_ap, xE_trg, kTrg_i, trgD_t, trgD_f, xE_lc, unh_e, unh_rng1, unh_rng2, unh_enum, unh_zip, unh_hold, backS_nil, backS_cons, xE_rev, xE_f1, xE_f2, xE_isin, xE_m1, xE_neg, xL_nil, xL_cons, xA_nil, xA_cons, xP_nil, xP_cons, xT_e, xV_all, xVb_t, xVb_f, xVb_m, kMv_ap, kKeep_all, kKb_t, kKb_f, kFr0_s, kFr1_ap, kFr_ap, xF_e, xS_asg, xS_asgT, xS_aug, xS_setixA, xSb_t, xS_forA, xS_expr, xS_ret, xS_retn, xS_ife, xS_raise, xS_pass, xS_cont, xS_brk, xB_nil, xB_cons, xTst_all, xTb_t, xTb_f, xC1_s, xC2_v, xC2_t, xC2_a, isVar, xI_e, xI_rng1, xI_rng2, xI_enum, xI_zip, kSq_nx, kSq_rt, kSq_ex, kSq_bk, kSq_ct, kCond_t, kCond_f, kTurn_nx, kTurn_ct, kTurn_bk, kTurn_rt, kTurn_ex, kIf_t, kRet_ap, kB3_ap, kB2_ap, kB1_ap, kC4_ap, kC3_ap, kC2_ap, kC1_ap, kIsn_ap, kNot_ap, kBl_ap, kNo_ap, kTup_ap, kLst_ap, kX4_ap, kX3_ap, kX2_ap, kX1_ap, kSl3_ap, kSl2_ap, kSl1_ap, kF1_ap, kF22_ap, kF21_ap, kIsin_ap, kM2_ap, kM1_ap, kCons2_ap, kL1_ap, kA1_ap, kP2_ap, kP1_ap, kR_ap, kRX_ap, kCallp_ap, kRs_ap, kCallz_ap, kCalla_ap, kPut_ap, kRi_ap, kRXi_ap, kCi3_ap, kCi2_ap, kCi1_ap, kDrop_ap, kRt_ap, kCt2_ap, kCt1_ap, kAsg_ap, kAsgT_ap, kSet1_ap, kExpr_ap, kRtn_ap, kIt_ap, kItems_ap, kRng2_ap, kZip_ap, kFz_ap, hold_e, hold_rng1, hold_rng2, hold_enum, hold_zip, hold_hold, kAnd_t, kAnd_f, kOr_t, kOr_f, kIfe_t, kIfe_f, kO_i, kRev_l, kNeg_i, kTst_b, kAug_i, kAug1_i, kSet2_i, kSet3_l, kRng1_i, kRng22_i, kEnum_l, kZip2_l, kLcT_f, kLcT_t, kLcE_ap, fin_rt0, fin_nx0, fin_ex0, fin_rt1, fin_nx1, slot_0, slot_s, put_0, put_s, oS_some, wr_ok, PV.pure, pureEs, isMv, isNo, root, redo, B2.scal, F1.scal, M1.scal, fits, tcOf_non, tcOf_bool, tcOf_int, tcOf_str, tcOf_list, tcOf_tuple, isTC_bool_non, isTC_bool_bool, isTC_bool_int, isTC_bool_str, isTC_bool_list, isTC_bool_tuple, isTC_bool_dict, isTC_int_non, isTC_int_bool, isTC_int_int, isTC_int_str, isTC_int_list, isTC_int_tuple, isTC_int_dict, isTC_str_non, isTC_str_bool, isTC_str_int, isTC_str_str, isTC_str_list, isTC_str_tuple, isTC_str_dict, isTC_list_non, isTC_list_bool, isTC_list_int, isTC_list_str, isTC_list_list, isTC_list_tuple, isTC_list_dict, isTC_tuple_non, isTC_tuple_bool, isTC_tuple_int, isTC_tuple_str, isTC_tuple_list, isTC_tuple_tuple, isTC_tuple_dict, noOwn_tup, noOwn_lst, noOwn_int, noOwn_str, noOwn_bl, noOwn_non, noOwn_scr, noOwn_dct, noOwnL_nil, noOwnL_cons, canFz_tup, canFz_lst, canFz_int, canFz_str, canFz_bl, canFz_non, canFz_scr, canFzL_nil, canFzL_cons, fz_tup, fz_lst, fz_int, fz_str, fz_bl, fz_non, fz_scr, fzL_nil, fzL_cons, isTys, atI_0, atI_1, atI_2, atI_3, atI_4, ixN_0, ixN_1, ixN_2, eqD_int, Int.reduceLT, Int.reduceLE, Int.reduceNeg, Int.reduceAdd, Int.reduceSub, Int.reduceMul, Nat.reduceAdd, Nat.reduceLT, Nat.reduceLeDiff, Nat.reduceEqDiff, List.mem_cons, bindT, bindTs, Tg.slots, ownOk, wipeE, List.all_cons, List.all_nil, List.any_cons, List.any_nil, List.contains_eq_mem, List.not_mem_nil, List.length_cons, List.length_nil, List.set_cons_zero, List.set_cons_succ, List.cons_append, List.nil_append, Bool.not_true, Bool.not_false, Bool.and_true, Bool.true_and, Bool.and_false, Bool.false_and, Bool.or_true, Bool.true_or, Bool.or_false, Bool.false_or, Bool.and_self, Bool.or_self, Bool.and_eq_true, Bool.or_eq_true, Bool.not_eq_true', true_and, and_true, and_self, false_and, and_false, true_or, or_true, false_or, or_false, or_self, if_true, if_false, ite_true, ite_false, eq_self, Bool.false_eq_true, Option.map_some, Option.map_none, Option.bind_some, Option.some.injEq, decide_true, decide_false, decide_eq_true_eq, szOk_0, szOk_1, szOk_2, szOk_3, szOk_4, szOk_5, szOk_6, szOk_7, szOk_8, szOk_9, szOk_10, szOk_11, szOk_12, szOk_13, szOk_14, szOk_15, szOk_16, szOk_17, szOk_18, szOk_19, szOk_20, isScal_c0, isScal_c1, isScal_c2, isScal_c3, isScal_c4, isNonD_c0, b2_c0, b2_c1, b2_c2, b2_c3, b2_c4, b2_c5, b2_c6, b2_c7, b2_c8, b2_c9, b2_c10, b2_c11, b2_c12, b2_c13, b2_c14, b2_c15, b2_c16, c2_c0, c2_c1, c2_c2, c2_c3, c2_c4, c2_c5, c2_c6, c2_c7, ixS_c0, ixS_c1, ixS_c2, ixS_c3, slS_c0, slS_c1, slS_c2, slS_c3, f1S_c0, f1S_c1, f1S_c2, f1S_c3, f1S_c4, f1S_c5, f1S_c6, f1S_c7, f1S_c8, f1S_c9, f1S_c10, f1S_c11, f1S_c12, f1S_c13, f1S_c14, f1S_c15, f1S_c16, f2S_c0, f2S_c1, m1S_c0, m1S_c1, m1S_c2, m1S_c3, recvOk_c0, recvOk_c1, recvOk_c2, recvOk_c3, recvOk_c4, recvOk_c5, recvOk_c6, isOwnL_c0, mmS_c0, mmS_c1, mmS_c2, mmS_c3, itemsOf_c0, itemsOf_c1, itemsOf_c2, seqOf_c0, seqOf_c1, fd0, fd1, fd2, fd3, fd4, fd5, fd6, fd7, fd8, fd9, fd10, fd11, fd12, fd13, fd14, fd15, fd16, fd17, fd18, fd19, fd20, fd21, fd22, fd23, fd24, fd25, fd26, fd27, fd28, $[$es:term],*])
namespace K38
open PySem L2 PV
def bo_tail : Ss := match bo10 with
  | .cons _ (.cons _ (.cons _ t)) => t
  | _ => .nil
theorem cond_tail {k n : Nat} (hk : 1 ≤ k) {a b : Int} (ha : 0 ≤ a) (hb : 0 ≤ b) {fs : List Str} (hf : Fs fs) {w : Int} {Q : D → Option D → Prop} {X : Nat → Prop} (q : ∀ (c : Cd) a' b', c.over fs → c.deep ≤ 1 → 0 ≤ a' → 0 ≤ b' → Q c.toD (some (dk a' b'))) :
    xB (Wk k [0]) bo_tail [some (dk a b), some (fD fs), some (.int n), some (.int w), none, none] (fin true Q X) := by
  show xB (Wk k [0]) (.cons _ (.cons _ (.cons _ .nil))) _ _
  exists if_true
  by_cases h3 : w = 3
  · rw [decide_eq_true h3]
    exists if_true
    exact q .yes _ _ trivial (by simp [Cd.deep]) ha hb
  · rw [decide_eq_false h3]
    exists if_true
    refine xC_ap ?_
    exists no_fD, cz_fD, fz_fD, len_fD
    refine take_ok hk ha hb (by have := hf.pos; omega) (by have := hf.few; omega) fun i a1 b1 i0 i1 ha1 hb1 => ?_
    obtain ⟨s, hs, ex⟩ := ix_fD (kt := lw.tb.kt) i0 i1
    exists no_fD, cz_fD, fz_fD, len_fD, ex
    refine xC_ap ?_
    exists if_true
    refine take_ok hk ha1 hb1 (by decide) (by decide) fun j a2 b2 j0 j1 ha2 hb2 => ?_
    exists if_true
    have c1 : PyData.canLay0 (.str "fact") = true := by decide +kernel
    have c2 : PyData.canLay0 (.str "not") = true := by decide +kernel
    have c3 := hf.str s hs
    have hj : j = 0 ∨ j = 1 := by omega
    rcases hj with rfl | rfl
    · exists if_true
      exact q (.fact s) _ _ hs (by simp [Cd.deep]) ha2 hb2
    · exists if_true
      exact q (.not (.fact s)) _ _ hs (by simp [Cd.deep]) ha2 hb2
theorem cond_ok : ∀ (n : Nat) {k : Nat} (hk : n + 2 ≤ k) {a b : Int} (ha : 0 ≤ a) (hb : 0 ≤ b) {fs : List Str} (hf : Fs fs) {Q : D → Option D → Prop} {X : Nat → Prop} (q : ∀ (c : Cd) a' b', c.over fs → c.deep ≤ n + 1 → 0 ≤ a' → 0 ≤ b' → Q c.toD (some (dk a' b'))),
    wr (run lw.tb 1000 k 10 [dk a b, fD fs, .int n]) Q X := by
  intro n
  induction n with
  | zero =>
    intro k hk a b ha hb fs hf Q X q
    obtain ⟨k, rfl⟩ : ∃ k', k = k' + 1 := ⟨k - 1, by omega⟩
    rw [wr_runE fd10 rfl rfl rfl]
    show xB (Wk k [0]) bo10 [some (dk a b), some (fD fs), some (.int (0 : Nat)), none, none, none] _
    unfold bo10
    exists if_true
    refine xC_ap ?_
    exists if_true
    refine take_ok (by omega) ha hb (by decide) (by decide) fun w a1 b1 w0 w1 ha1 hb1 => ?_
    have e0 : decide ((0 : Int) < ((0 : Nat) : Int)) = false := by decide
    exists e0
    have t := cond_tail (k := k) (n := 0) (w := w) (X := X) (by omega) ha1 hb1 hf q
    have t : xB (Wk k [0]) (.cons _ (.cons _ (.cons _ .nil))) _ _ := t
    simp only [xE_int, xE_str, xE_bl, xE_non, xE_fn, xE_glob, xE_var, xE_bin, xE_cmp, xE_isn, xE_not, xE_and, xE_or, xE_ife, xE_tup, xE_lst, xE_ix, xO_all, xOb_t, xOb_f, xE_slA, xE_chain, kCh1_ap, kCh2_ap, kCh3_f, kCh3_t, kCh4_ap, kXf_ap, xE_fr, xE_xis, kXis_ap, xOf_xc, noOwn_xc, xS_try1, kTry_ex, kTry_nx, kTry_rt, kTry_bk, kTry_ct, kTry2_t, kTry2_f, kUn_nx, kUn_rt, xSlot_s, xSlot_n, xFits_s, xFits_n, fits'_is, noXS_nil, noXS_s, noXS_n, noX_int, noX_str, noX_bl, noX_non, noX_scr, noX_tup, noX_lst, noX_dct, noXL_nil, noXL_cons, noXL_ints, noXL_strs, xE_dnw, xS_dput, kDp1_ap, kDp2_ap, kDp3_ap, isOwnD_d, xE_mmA, xE_vf, kVf_ap, xE_sset, kSset_ap, xE_trg, kTrg_i, trgD_t, trgD_f, xE_lc, unh_e, unh_rng1, unh_rng2, unh_enum, unh_zip, unh_hold, backS_nil, backS_cons, xE_rev, xE_f1, xE_f2, xE_isin, xE_m1, xE_neg, xL_nil, xL_cons, xA_nil, xA_cons, xP_nil, xP_cons, xT_e, xV_all, xVb_t, xVb_f, xVb_m, kMv_ap, kKeep_all, kKb_t, kKb_f, kFr0_s, kFr1_ap, kFr_ap, xF_e, xS_asg, xS_asgT, xS_aug, xS_setixA, xSb_t, xS_forA, xS_expr, xS_ret, xS_retn, xS_ife, xS_raise, xS_pass, xS_cont, xS_brk, xB_nil, xB_cons, xTst_all, xTb_t, xTb_f, xC1_s, xC2_v, xC2_t, xC2_a, isVar, xI_e, xI_rng1, xI_rng2, xI_enum, xI_zip, kSq_nx, kSq_rt, kSq_ex, kSq_bk, kSq_ct, kCond_t, kCond_f, kTurn_nx, kTurn_ct, kTurn_bk, kTurn_rt, kTurn_ex, kIf_t, kRet_ap, kB3_ap, kB2_ap, kB1_ap, kC4_ap, kC3_ap, kC2_ap, kC1_ap, kIsn_ap, kNot_ap, kBl_ap, kNo_ap, kTup_ap, kLst_ap, kX4_ap, kX3_ap, kX2_ap, kX1_ap, kSl3_ap, kSl2_ap, kSl1_ap, kF1_ap, kF22_ap, kF21_ap, kIsin_ap, kM2_ap, kM1_ap, kCons2_ap, kL1_ap, kA1_ap, kP2_ap, kP1_ap, kR_ap, kRX_ap, kCallp_ap, kRs_ap, kCallz_ap, kCalla_ap, kPut_ap, kRi_ap, kRXi_ap, kCi3_ap, kCi2_ap, kCi1_ap, kDrop_ap, kRt_ap, kCt2_ap, kCt1_ap, kAsg_ap, kAsgT_ap, kSet1_ap, kExpr_ap, kRtn_ap, kIt_ap, kItems_ap, kRng2_ap, kZip_ap, kFz_ap, hold_e, hold_rng1, hold_rng2, hold_enum, hold_zip, hold_hold, kAnd_t, kAnd_f, kOr_t, kOr_f, kIfe_t, kIfe_f, kO_i, kRev_l, kNeg_i, kTst_b, kAug_i, kAug1_i, kSet2_i, kSet3_l, kRng1_i, kRng22_i, kEnum_l, kZip2_l, kLcT_f, kLcT_t, kLcE_ap, fin_rt0, fin_nx0, fin_ex0, fin_rt1, fin_nx1, slot_0, slot_s, put_0, put_s, oS_some, wr_ok, PV.pure, pureEs, isMv, isNo, root, redo, B2.scal, F1.scal, M1.scal, fits, tcOf_non, tcOf_bool, tcOf_int, tcOf_str, tcOf_list, tcOf_tuple, isTC_bool_non, isTC_bool_bool, isTC_bool_int, isTC_bool_str, isTC_bool_list, isTC_bool_tuple, isTC_bool_dict, isTC_int_non, isTC_int_bool, isTC_int_int, isTC_int_str, isTC_int_list, isTC_int_tuple, isTC_int_dict, isTC_str_non, isTC_str_bool, isTC_str_int, isTC_str_str, isTC_str_list, isTC_str_tuple, isTC_str_dict, isTC_list_non, isTC_list_bool, isTC_list_int, isTC_list_str, isTC_list_list, isTC_list_tuple, isTC_list_dict, isTC_tuple_non, isTC_tuple_bool, isTC_tuple_int, isTC_tuple_str, isTC_tuple_list, isTC_tuple_tuple, isTC_tuple_dict, noOwn_tup, noOwn_lst, noOwn_int, noOwn_str, noOwn_bl, noOwn_non, noOwn_scr, noOwn_dct, noOwnL_nil, noOwnL_cons, canFz_tup, canFz_lst, canFz_int, canFz_str, canFz_bl, canFz_non, canFz_scr, canFzL_nil, canFzL_cons, fz_tup, fz_lst, fz_int, fz_str, fz_bl, fz_non, fz_scr, fzL_nil, fzL_cons, isTys, atI_0, atI_1, atI_2, atI_3, atI_4, ixN_0, ixN_1, ixN_2, eqD_int, Int.reduceLT, Int.reduceLE, Int.reduceNeg, Int.reduceAdd, Int.reduceSub, Int.reduceMul, Nat.reduceAdd, Nat.reduceLT, Nat.reduceLeDiff, Nat.reduceEqDiff, List.mem_cons, bindT, bindTs, Tg.slots, ownOk, wipeE, List.all_cons, List.all_nil, List.any_cons, List.any_nil, List.contains_eq_mem, List.not_mem_nil, List.length_cons, List.length_nil, List.set_cons_zero, List.set_cons_succ, List.cons_append, List.nil_append, Bool.not_true, Bool.not_false, Bool.and_true, Bool.true_and, Bool.and_false, Bool.false_and, Bool.or_true, Bool.true_or, Bool.or_false, Bool.false_or, Bool.and_self, Bool.or_self, Bool.and_eq_true, Bool.or_eq_true, Bool.not_eq_true', true_and, and_true, and_self, false_and, and_false, true_or, or_true, false_or, or_false, or_self, if_true, if_false, ite_true, ite_false, eq_self, Bool.false_eq_true, Option.map_some, Option.map_none, Option.bind_some, Option.some.injEq, decide_true, decide_false, decide_eq_true_eq, szOk_0, szOk_1, szOk_2, szOk_3, szOk_4, szOk_5, szOk_6, szOk_7, szOk_8, szOk_9, szOk_10, szOk_11, szOk_12, szOk_13, szOk_14, szOk_15, szOk_16, szOk_17, szOk_18, szOk_19, szOk_20, isScal_c0, isScal_c1, isScal_c2, isScal_c3, isScal_c4, isNonD_c0, b2_c0, b2_c1, b2_c2, b2_c3, b2_c4, b2_c5, b2_c6, b2_c7, b2_c8, b2_c9, b2_c10, b2_c11, b2_c12, b2_c13, b2_c14, b2_c15, b2_c16, c2_c0, c2_c1, c2_c2, c2_c3, c2_c4, c2_c5, c2_c6, c2_c7, ixS_c0, ixS_c1, ixS_c2, ixS_c3, slS_c0, slS_c1, slS_c2, slS_c3, f1S_c0, f1S_c1, f1S_c2, f1S_c3, f1S_c4, f1S_c5, f1S_c6, f1S_c7, f1S_c8, f1S_c9, f1S_c10, f1S_c11, f1S_c12, f1S_c13, f1S_c14, f1S_c15, f1S_c16, f2S_c0, f2S_c1, m1S_c0, m1S_c1, m1S_c2, m1S_c3, recvOk_c0, recvOk_c1, recvOk_c2, recvOk_c3, recvOk_c4, recvOk_c5, recvOk_c6, isOwnL_c0, mmS_c0, mmS_c1, mmS_c2, mmS_c3, itemsOf_c0, itemsOf_c1, itemsOf_c2, seqOf_c0, seqOf_c1, fd0, fd1, fd2, fd3, fd4, fd5, fd6, fd7, fd8, fd9, fd10, fd11, fd12, fd13, fd14, fd15, fd16, fd17, fd18, fd19, fd20, fd21, fd22, fd23, fd24, fd25, fd26, fd27, fd28] at t
    exact t
  | succ n ih =>
    intro k hk a b ha hb fs hf Q X q
    obtain ⟨k, rfl⟩ : ∃ k', k = k' + 1 := ⟨k - 1, by omega⟩
    rw [wr_runE fd10 rfl rfl rfl]
    show xB (Wk k [0]) bo10 [some (dk a b), some (fD fs), some (.int (n + 1 : Nat)), none, none, none] _
    unfold bo10
    exists if_true
    refine xC_ap ?_
    exists if_true
    refine take_ok (by omega) ha hb (by decide) (by decide) fun w a1 b1 w0 w1 ha1 hb1 => ?_
    have e0 : decide ((0 : Int) < ((n + 1 : Nat) : Int)) = true := by simp
    have e1 : ((n + 1 : Nat) : Int) - 1 = (n : Nat) := by omega
    exists e0
    by_cases h2 : w < 2
    · rw [decide_eq_true h2]
      exists if_true
      refine xC_ap ?_
      exists no_fD, cz_fD, fz_fD, e1
      refine ih (k := k) (by omega) ha1 hb1 hf fun c1 a2 b2 oc1 dc1 ha2 hb2 => ?_
      have n1 := cd_no c1
      exists if_true
      have s1 : PyData.canLay0 (.str "both") = true := by decide +kernel
      have s2 : PyData.canLay0 (.str "either") = true := by decide +kernel
      have hw : w = 0 ∨ w = 1 := by omega
      rcases hw with rfl | rfl
      · exists n1
        refine xC_ap ?_
        exists no_fD, cz_fD, fz_fD, e1
        refine ih (k := k) (by omega) ha2 hb2 hf fun c2 a3 b3 oc2 dc2 ha3 hb3 => ?_
        have n2 := cd_no c2
        exists n1, n2
        exact q (.both c1 c2) _ _ ⟨oc1, oc2⟩ (by simp only [Cd.deep]; omega) ha3 hb3
      · exists n1
        refine xC_ap ?_
        exists no_fD, cz_fD, fz_fD, e1
        refine ih (k := k) (by omega) ha2 hb2 hf fun c2 a3 b3 oc2 dc2 ha3 hb3 => ?_
        have n2 := cd_no c2
        exists n1, n2
        exact q (.either c1 c2) _ _ ⟨oc1, oc2⟩ (by simp only [Cd.deep]; omega) ha3 hb3
    · rw [decide_eq_false h2]
      exists e0
      by_cases h3 : w = 2
      · rw [decide_eq_true h3]
        exists if_true
        have s3 : PyData.canLay0 (.str "not") = true := by decide +kernel
        refine xC_ap ?_
        exists no_fD, cz_fD, fz_fD, e1
        refine ih (k := k) (by omega) ha1 hb1 hf fun c1 a2 b2 oc1 dc1 ha2 hb2 => ?_
        have n1 := cd_no c1
        exists n1
        exact q (.not c1) _ _ oc1 (by simp only [Cd.deep]; omega) ha2 hb2
      · rw [decide_eq_false h3]
        exists if_true
        have t := cond_tail (k := k) (n := n + 1) (w := w) (X := X) (Q := Q) (by omega) ha1 hb1 hf fun c a' b' oc dc => q c a' b' oc (by omega)
        have t : xB (Wk k [0]) (.cons _ (.cons _ (.cons _ .nil))) _ _ := t
        simp only [xE_int, xE_str, xE_bl, xE_non, xE_fn, xE_glob, xE_var, xE_bin, xE_cmp, xE_isn, xE_not, xE_and, xE_or, xE_ife, xE_tup, xE_lst, xE_ix, xO_all, xOb_t, xOb_f, xE_slA, xE_chain, kCh1_ap, kCh2_ap, kCh3_f, kCh3_t, kCh4_ap, kXf_ap, xE_fr, xE_xis, kXis_ap, xOf_xc, noOwn_xc, xS_try1, kTry_ex, kTry_nx, kTry_rt, kTry_bk, kTry_ct, kTry2_t, kTry2_f, kUn_nx, kUn_rt, xSlot_s, xSlot_n, xFits_s, xFits_n, fits'_is, noXS_nil, noXS_s, noXS_n, noX_int, noX_str, noX_bl, noX_non, noX_scr, noX_tup, noX_lst, noX_dct, noXL_nil, noXL_cons, noXL_ints, noXL_strs, xE_dnw, xS_dput, kDp1_ap, kDp2_ap, kDp3_ap, isOwnD_d, xE_mmA, xE_vf, kVf_ap, xE_sset, kSset_ap, xE_trg, kTrg_i, trgD_t, trgD_f, xE_lc, unh_e, unh_rng1, unh_rng2, unh_enum, unh_zip, unh_hold, backS_nil, backS_cons, xE_rev, xE_f1, xE_f2, xE_isin, xE_m1, xE_neg, xL_nil, xL_cons, xA_nil, xA_cons, xP_nil, xP_cons, xT_e, xV_all, xVb_t, xVb_f, xVb_m, kMv_ap, kKeep_all, kKb_t, kKb_f, kFr0_s, kFr1_ap, kFr_ap, xF_e, xS_asg, xS_asgT, xS_aug, xS_setixA, xSb_t, xS_forA, xS_expr, xS_ret, xS_retn, xS_ife, xS_raise, xS_pass, xS_cont, xS_brk, xB_nil, xB_cons, xTst_all, xTb_t, xTb_f, xC1_s, xC2_v, xC2_t, xC2_a, isVar, xI_e, xI_rng1, xI_rng2, xI_enum, xI_zip, kSq_nx, kSq_rt, kSq_ex, kSq_bk, kSq_ct, kCond_t, kCond_f, kTurn_nx, kTurn_ct, kTurn_bk, kTurn_rt, kTurn_ex, kIf_t, kRet_ap, kB3_ap, kB2_ap, kB1_ap, kC4_ap, kC3_ap, kC2_ap, kC1_ap, kIsn_ap, kNot_ap, kBl_ap, kNo_ap, kTup_ap, kLst_ap, kX4_ap, kX3_ap, kX2_ap, kX1_ap, kSl3_ap, kSl2_ap, kSl1_ap, kF1_ap, kF22_ap, kF21_ap, kIsin_ap, kM2_ap, kM1_ap, kCons2_ap, kL1_ap, kA1_ap, kP2_ap, kP1_ap, kR_ap, kRX_ap, kCallp_ap, kRs_ap, kCallz_ap, kCalla_ap, kPut_ap, kRi_ap, kRXi_ap, kCi3_ap, kCi2_ap, kCi1_ap, kDrop_ap, kRt_ap, kCt2_ap, kCt1_ap, kAsg_ap, kAsgT_ap, kSet1_ap, kExpr_ap, kRtn_ap, kIt_ap, kItems_ap, kRng2_ap, kZip_ap, kFz_ap, hold_e, hold_rng1, hold_rng2, hold_enum, hold_zip, hold_hold, kAnd_t, kAnd_f, kOr_t, kOr_f, kIfe_t, kIfe_f, kO_i, kRev_l, kNeg_i, kTst_b, kAug_i, kAug1_i, kSet2_i, kSet3_l, kRng1_i, kRng22_i, kEnum_l, kZip2_l, kLcT_f, kLcT_t, kLcE_ap, fin_rt0, fin_nx0, fin_ex0, fin_rt1, fin_nx1, slot_0, slot_s, put_0, put_s, oS_some, wr_ok, PV.pure, pureEs, isMv, isNo, root, redo, B2.scal, F1.scal, M1.scal, fits, tcOf_non, tcOf_bool, tcOf_int, tcOf_str, tcOf_list, tcOf_tuple, isTC_bool_non, isTC_bool_bool, isTC_bool_int, isTC_bool_str, isTC_bool_list, isTC_bool_tuple, isTC_bool_dict, isTC_int_non, isTC_int_bool, isTC_int_int, isTC_int_str, isTC_int_list, isTC_int_tuple, isTC_int_dict, isTC_str_non, isTC_str_bool, isTC_str_int, isTC_str_str, isTC_str_list, isTC_str_tuple, isTC_str_dict, isTC_list_non, isTC_list_bool, isTC_list_int, isTC_list_str, isTC_list_list, isTC_list_tuple, isTC_list_dict, isTC_tuple_non, isTC_tuple_bool, isTC_tuple_int, isTC_tuple_str, isTC_tuple_list, isTC_tuple_tuple, isTC_tuple_dict, noOwn_tup, noOwn_lst, noOwn_int, noOwn_str, noOwn_bl, noOwn_non, noOwn_scr, noOwn_dct, noOwnL_nil, noOwnL_cons, canFz_tup, canFz_lst, canFz_int, canFz_str, canFz_bl, canFz_non, canFz_scr, canFzL_nil, canFzL_cons, fz_tup, fz_lst, fz_int, fz_str, fz_bl, fz_non, fz_scr, fzL_nil, fzL_cons, isTys, atI_0, atI_1, atI_2, atI_3, atI_4, ixN_0, ixN_1, ixN_2, eqD_int, Int.reduceLT, Int.reduceLE, Int.reduceNeg, Int.reduceAdd, Int.reduceSub, Int.reduceMul, Nat.reduceAdd, Nat.reduceLT, Nat.reduceLeDiff, Nat.reduceEqDiff, List.mem_cons, bindT, bindTs, Tg.slots, ownOk, wipeE, List.all_cons, List.all_nil, List.any_cons, List.any_nil, List.contains_eq_mem, List.not_mem_nil, List.length_cons, List.length_nil, List.set_cons_zero, List.set_cons_succ, List.cons_append, List.nil_append, Bool.not_true, Bool.not_false, Bool.and_true, Bool.true_and, Bool.and_false, Bool.false_and, Bool.or_true, Bool.true_or, Bool.or_false, Bool.false_or, Bool.and_self, Bool.or_self, Bool.and_eq_true, Bool.or_eq_true, Bool.not_eq_true', true_and, and_true, and_self, false_and, and_false, true_or, or_true, false_or, or_false, or_self, if_true, if_false, ite_true, ite_false, eq_self, Bool.false_eq_true, Option.map_some, Option.map_none, Option.bind_some, Option.some.injEq, decide_true, decide_false, decide_eq_true_eq, szOk_0, szOk_1, szOk_2, szOk_3, szOk_4, szOk_5, szOk_6, szOk_7, szOk_8, szOk_9, szOk_10, szOk_11, szOk_12, szOk_13, szOk_14, szOk_15, szOk_16, szOk_17, szOk_18, szOk_19, szOk_20, isScal_c0, isScal_c1, isScal_c2, isScal_c3, isScal_c4, isNonD_c0, b2_c0, b2_c1, b2_c2, b2_c3, b2_c4, b2_c5, b2_c6, b2_c7, b2_c8, b2_c9, b2_c10, b2_c11, b2_c12, b2_c13, b2_c14, b2_c15, b2_c16, c2_c0, c2_c1, c2_c2, c2_c3, c2_c4, c2_c5, c2_c6, c2_c7, ixS_c0, ixS_c1, ixS_c2, ixS_c3, slS_c0, slS_c1, slS_c2, slS_c3, f1S_c0, f1S_c1, f1S_c2, f1S_c3, f1S_c4, f1S_c5, f1S_c6, f1S_c7, f1S_c8, f1S_c9, f1S_c10, f1S_c11, f1S_c12, f1S_c13, f1S_c14, f1S_c15, f1S_c16, f2S_c0, f2S_c1, m1S_c0, m1S_c1, m1S_c2, m1S_c3, recvOk_c0, recvOk_c1, recvOk_c2, recvOk_c3, recvOk_c4, recvOk_c5, recvOk_c6, isOwnL_c0, mmS_c0, mmS_c1, mmS_c2, mmS_c3, itemsOf_c0, itemsOf_c1, itemsOf_c2, seqOf_c0, seqOf_c1, fd0, fd1, fd2, fd3, fd4, fd5, fd6, fd7, fd8, fd9, fd10, fd11, fd12, fd13, fd14, fd15, fd16, fd17, fd18, fd19, fd20, fd21, fd22, fd23, fd24, fd25, fd26, fd27, fd28] at t
        exact t
end K38

end

section
open PySem L2 PV
open K38
local macro_rules
  | `(tactic| exists $es,*) => `(tactic| simp -implicitDefEqProofs only [xE_int, xE_str, xE_bl, xE_non, xE_fn, xE_glob, xE_var, xE_bin, xE_cmp, xE_isn, xE_not, xE_and, xE_or, xE_ife, xE_tup, xE_lst, xE_ix, xO_all, xOb_t, xOb_f, xE_slA, xE_chain, kCh1_ap, kCh2_ap, kCh3_f, kCh3_t, kCh4_ap, kXf_ap, xE_fr, xE_xis, kXis_ap, xOf_xc, noOwn_xc, xS_try1, kTry_ex, kTry_nx, kTry_rt, kTry_bk, kTry_ct, kTry2_t, kTry2_f, kUn_nx, kUn_rt, xSlot_s, xSlot_n, xFits_s, xFits_n, fits'_is, noXS_nil, noXS_s, noXS_n, noX_int, noX_str, noX_bl, noX_non, noX_scr, noX_tup, noX_lst, noX_dct, noXL_nil, noXL_cons, noXL_ints, noXL_strs, xE_dnw, xS_dput, kDp1_ap, kDp2_ap, kDp3_ap, isOwnD_d, xE_mmA, xE_vf, kVf_ap, xE_sset, kSset_ap, xE_trg, kTrg_i, trgD_t, trgD_f, xE_lc, unh_e, unh_rng1, unh_rng2, unh_enum, unh_zip, unh_hold, backS_nil, backS_cons, xE_rev, xE_f1, xE_f2, xE_isin, xE_m1, xE_neg, xL_nil, xL_cons, xA_nil, xA_cons, xP_nil, xP_cons, xT_e, xV_all, xVb_t, xVb_f, xVb_m, kMv_ap, kKeep_all, kKb_t, kKb_f, kFr0_s, kFr1_ap, kFr_ap, xF_e, xS_asg, xS_asgT, xS_aug, xS_setixA, xSb_t, xS_forA, xS_expr, xS_ret, xS_retn, xS_ife, xS_raise, xS_pass, xS_cont, xS_brk, xB_nil, xB_cons, xTst_all, xTb_t, xTb_f, xC1_s, xC2_v, xC2_t, xC2_a, isVar, xI_e, xI_rng1, xI_rng2, xI_enum, xI_zip, kSq_nx, kSq_rt, kSq_ex, kSq_bk, kSq_ct, kCond_t, kCond_f, kTurn_nx, kTurn_ct, kTurn_bk, kTurn_rt, kTurn_ex, kIf_t, kRet_ap, kB3_ap, kB2_ap, kB1_ap, kC4_ap, kC3_ap, kC2_ap, kC1_ap, kIsn_ap, kNot_ap, kBl_ap, kNo_ap, kTup_ap, kLst_ap, kX4_ap, kX3_ap, kX2_ap, kX1_ap, kSl3_ap, kSl2_ap, kSl1_ap, kF1_ap, kF22_ap, kF21_ap, kIsin_ap, kM2_ap, kM1_ap, kCons2_ap, kL1_ap, kA1_ap, kP2_ap, kP1_ap, kR_ap, kRX_ap, kCallp_ap, kRs_ap, kCallz_ap, kCalla_ap, kPut_ap, kRi_ap, kRXi_ap, kCi3_ap, kCi2_ap, kCi1_ap, kDrop_ap, kRt_ap, kCt2_ap, kCt1_ap, kAsg_ap, kAsgT_ap, kSet1_ap, kExpr_ap, kRtn_ap, kIt_ap, kItems_ap, kRng2_ap, kZip_ap, kFz_ap, hold_e, hold_rng1, hold_rng2, hold_enum, hold_zip, hold_hold, kAnd_t, kAnd_f, kOr_t, kOr_f, kIfe_t, kIfe_f, kO_i, kRev_l, kNeg_i, kTst_b, kAug_i, kAug1_i, kSet2_i, kSet3_l, kRng1_i, kRng22_i, kEnum_l, kZip2_l, kLcT_f, kLcT_t, kLcE_ap, fin_rt0, fin_nx0, fin_ex0, fin_rt1, fin_nx1, slot_0, slot_s, put_0, put_s, oS_some, wr_ok, PV.pure, pureEs, isMv, isNo, root, redo, B2.scal, F1.scal, M1.scal, fits, tcOf_non, tcOf_bool, tcOf_int, tcOf_str, tcOf_list, tcOf_tuple, isTC_bool_non, isTC_bool_bool, isTC_bool_int, isTC_bool_str, isTC_bool_list, isTC_bool_tuple, isTC_bool_dict, isTC_int_non, isTC_int_bool, isTC_int_int, isTC_int_str, isTC_int_list, isTC_int_tuple, isTC_int_dict, isTC_str_non, isTC_str_bool, isTC_str_int, isTC_str_str, isTC_str_list, isTC_str_tuple, isTC_str_dict, isTC_list_non, isTC_list_bool, isTC_list_int, isTC_list_str, isTC_list_list, isTC_list_tuple, isTC_list_dict, isTC_tuple_non, isTC_tuple_bool, isTC_tuple_int, isTC_tuple_str, isTC_tuple_list, isTC_tuple_tuple, isTC_tuple_dict, noOwn_tup, noOwn_lst, noOwn_int, noOwn_str, noOwn_bl, noOwn_non, noOwn_scr, noOwn_dct, noOwnL_nil, noOwnL_cons, canFz_tup, canFz_lst, canFz_int, canFz_str, canFz_bl, canFz_non, canFz_scr, canFzL_nil, canFzL_cons, fz_tup, fz_lst, fz_int, fz_str, fz_bl, fz_non, fz_scr, fzL_nil, fzL_cons, isTys, atI_0, atI_1, atI_2, atI_3, atI_4, ixN_0, ixN_1, ixN_2, eqD_int, Int.reduceLT, Int.reduceLE, Int.reduceNeg, Int.reduceAdd, Int.reduceSub, Int.reduceMul, Nat.reduceAdd, Nat.reduceLT, Nat.reduceLeDiff, Nat.reduceEqDiff, List.mem_cons, bindT, bindTs, Tg.slots, ownOk, wipeE, List.all_cons, List.all_nil, List.any_cons, List.any_nil, List.contains_eq_mem, List.not_mem_nil, List.length_cons, List.length_nil, List.set_cons_zero, List.set_cons_succ, List.cons_append, List.nil_append, Bool.not_true, Bool.not_false, Bool.and_true, Bool.true_and, Bool.and_false, Bool.false_and, Bool.or_true, Bool.true_or, Bool.or_false, Bool.false_or, Bool.and_self, Bool.or_self, Bool.and_eq_true, Bool.or_eq_true, Bool.not_eq_true', true_and, and_true, and_self, false_and, and_false, true_or, or_true, false_or, or_false, or_self, if_true, if_false, ite_true, ite_false, eq_self, Bool.false_eq_true, Option.map_some, Option.map_none, Option.bind_some, Option.some.injEq, decide_true, decide_false, decide_eq_true_eq, szOk_0, szOk_1, szOk_2, szOk_3, szOk_4, szOk_5, szOk_6, szOk_7, szOk_8, szOk_9, szOk_10, szOk_11, szOk_12, szOk_13, szOk_14, szOk_15, szOk_16, szOk_17, szOk_18, szOk_19, szOk_20, isScal_c0, isScal_c1, isScal_c2, isScal_c3, isScal_c4, isNonD_c0, b2_c0, b2_c1, b2_c2, b2_c3, b2_c4, b2_c5, b2_c6, b2_c7, b2_c8, b2_c9, b2_c10, b2_c11, b2_c12, b2_c13, b2_c14, b2_c15, b2_c16, c2_c0, c2_c1, c2_c2, c2_c3, c2_c4, c2_c5, c2_c6, c2_c7, ixS_c0, ixS_c1, ixS_c2, ixS_c3, slS_c0, slS_c1, slS_c2, slS_c3, f1S_c0, f1S_c1, f1S_c2, f1S_c3, f1S_c4, f1S_c5, f1S_c6, f1S_c7, f1S_c8, f1S_c9, f1S_c10, f1S_c11, f1S_c12, f1S_c13, f1S_c14, f1S_c15, f1S_c16, f2S_c0, f2S_c1, m1S_c0, m1S_c1, m1S_c2, m1S_c3, recvOk_c0, recvOk_c1, recvOk_c2, recvOk_c3, recvOk_c4, recvOk_c5, recvOk_c6, isOwnL_c0, mmS_c0, mmS_c1, mmS_c2, mmS_c3, itemsOf_c0, itemsOf_c1, itemsOf_c2, seqOf_c0, seqOf_c1, fd0, fd1, fd2, fd3, fd4, fd5, fd6, fd7, fd8, fd9, fd10, fd11, fd12, fd13, fd14, fd15, fd16, fd17, fd18, fd19, fd20, fd21, fd22, fd23, fd24, fd25, fd26, fd27, fd28, $[$es:term],*])
namespace K38
open PySem L2 PV
theorem crowd_ok {k : Nat} (hk : 3 ≤ k) {a b : Int} (ha : 0 ≤ a) (hb : 0 ≤ b) {m mo : Int} (hm : 0 < m) (hm2 : m < 1073741824) (ho : 0 < mo) (ho2 : mo < 1000) {Q : D → Option D → Prop} {X : Nat → Prop} (q : ∀ (ns : List Int) a' b', 0 ≤ a' → 0 ≤ b' → Crowd m ns → ns.length ≤ mo.toNat → Q (.tup (ns.map .int)) (some (dk a' b'))) :
    wr (run lw.tb 1000 k 8 [dk a b, .int m, .int mo]) Q X := by
  obtain ⟨k, rfl⟩ : ∃ k', k = k' + 1 := ⟨k - 1, by omega⟩
  rw [wr_runE fd8 rfl rfl rfl]
  show xB (Wk k [0]) bo8 [some (dk a b), some (.int m), some (.int mo), none, none, none] _
  unfold bo8
  exists if_true
  refine xC_ap ?_
  exists if_true
  refine take_ok (k := k) (by omega) ha hb hm hm2 fun w a1 b1 w0 w1 ha1 hb1 => ?_
  exists if_true
  refine xC_ap ?_
  exists if_true
  refine take_ok (k := k) (by omega) ha1 hb1 ho (by omega) fun r a2 b2 r0 r1 ha2 hb2 => ?_
  have hr : rngOk r = true := by simp [rngOk]; omega
  exists hr
  refine kFor_inv (fun i ρ => ∃ (a b : Int) (ns : List Int) (v4 v5 : Option D), ρ = [some (dk a b), some (.int m), some (.int mo), some (.lst true (ns.map .int)), v4, v5] ∧ 0 ≤ a ∧ 0 ≤ b ∧ ns.length ≤ i + 1 ∧ ns ≠ [] ∧ (∀ w ∈ ns, 0 ≤ w ∧ w < m) ∧ ns.Nodup) (by decide) ⟨a2, b2, [w], none, none, rfl, ha2, hb2, by simp, by simp, by simp; omega, by simp⟩ ?_ ?_
  · rintro i x ρ hx ⟨a3, b3, ns, v4, v5, rfl, ha3, hb3, hl, hne, hbd, hnd⟩
    have hi : i < r.toNat := by
      have : i < (rngI 0 r.toNat).length := (List.getElem?_eq_some_iff.mp hx).1
      simpa [rngI] using this
    exists if_true
    refine xC_ap ?_
    exists if_true
    refine take_ok (k := k) (by omega) ha3 hb3 hm hm2 fun v a4 b4 v0 v1 ha4 hb4 => ?_
    exists inD_ints
    by_cases hv : v ∈ ns
    · rw [decide_eq_true hv]
      exists if_true
      exact ⟨a4, b4, ns, _, _, rfl, ha4, hb4, by omega, hne, hbd, hnd⟩
    · rw [decide_eq_false hv]
      exists if_true
      refine kMm_ap _ _ _ _ _ (ns.map .int) .non (ns.map .int ++ [.int v]) rfl ?_ ?_
      · have hz : szOk ((ns.map D.int).length + 1) = true := szOk_of (by simp; omega)
        simp only [mmS, hz, if_true]
      · exists if_true
        refine ⟨a4, b4, ns ++ [v], some x, none, by simp, ha4, hb4, by simp; omega, by simp, ?_, ?_⟩
        · intro w hw
          simp only [List.mem_append, List.mem_singleton] at hw
          rcases hw with hw | rfl
          · exact hbd w hw
          · exact ⟨v0, v1⟩
        · rw [List.nodup_append]
          refine ⟨hnd, by simp, ?_⟩
          intro x hx y hy e
          simp only [List.mem_singleton] at hy
          subst hy; subst e; exact hv hx
  · rintro ρ ⟨a3, b3, ns, v4, v5, rfl, ha3, hb3, hl, hne, hbd, hnd⟩
    exists intsOf_ints, noOwnL_ints
    refine q _ _ _ ha3 hb3 (crowd_sort hne hbd hnd) ?_
    have := (sortI_perm ns).length_eq
    simp [rngI] at hl
    omega
end K38

end

section
open PySem L2 PV
open K38
local macro_rules
  | `(tactic| exists $es,*) => `(tactic| simp -implicitDefEqProofs only [xE_int, xE_str, xE_bl, xE_non, xE_fn, xE_glob, xE_var, xE_bin, xE_cmp, xE_isn, xE_not, xE_and, xE_or, xE_ife, xE_tup, xE_lst, xE_ix, xO_all, xOb_t, xOb_f, xE_slA, xE_chain, kCh1_ap, kCh2_ap, kCh3_f, kCh3_t, kCh4_ap, kXf_ap, xE_fr, xE_xis, kXis_ap, xOf_xc, noOwn_xc, xS_try1, kTry_ex, kTry_nx, kTry_rt, kTry_bk, kTry_ct, kTry2_t, kTry2_f, kUn_nx, kUn_rt, xSlot_s, xSlot_n, xFits_s, xFits_n, fits'_is, noXS_nil, noXS_s, noXS_n, noX_int, noX_str, noX_bl, noX_non, noX_scr, noX_tup, noX_lst, noX_dct, noXL_nil, noXL_cons, noXL_ints, noXL_strs, xE_dnw, xS_dput, kDp1_ap, kDp2_ap, kDp3_ap, isOwnD_d, xE_mmA, xE_vf, kVf_ap, xE_sset, kSset_ap, xE_trg, kTrg_i, trgD_t, trgD_f, xE_lc, unh_e, unh_rng1, unh_rng2, unh_enum, unh_zip, unh_hold, backS_nil, backS_cons, xE_rev, xE_f1, xE_f2, xE_isin, xE_m1, xE_neg, xL_nil, xL_cons, xA_nil, xA_cons, xP_nil, xP_cons, xT_e, xV_all, xVb_t, xVb_f, xVb_m, kMv_ap, kKeep_all, kKb_t, kKb_f, kFr0_s, kFr1_ap, kFr_ap, xF_e, xS_asg, xS_asgT, xS_aug, xS_setixA, xSb_t, xS_forA, xS_expr, xS_ret, xS_retn, xS_ife, xS_raise, xS_pass, xS_cont, xS_brk, xB_nil, xB_cons, xTst_all, xTb_t, xTb_f, xC1_s, xC2_v, xC2_t, xC2_a, isVar, xI_e, xI_rng1, xI_rng2, xI_enum, xI_zip, kSq_nx, kSq_rt, kSq_ex, kSq_bk, kSq_ct, kCond_t, kCond_f, kTurn_nx, kTurn_ct, kTurn_bk, kTurn_rt, kTurn_ex, kIf_t, kRet_ap, kB3_ap, kB2_ap, kB1_ap, kC4_ap, kC3_ap, kC2_ap, kC1_ap, kIsn_ap, kNot_ap, kBl_ap, kNo_ap, kTup_ap, kLst_ap, kX4_ap, kX3_ap, kX2_ap, kX1_ap, kSl3_ap, kSl2_ap, kSl1_ap, kF1_ap, kF22_ap, kF21_ap, kIsin_ap, kM2_ap, kM1_ap, kCons2_ap, kL1_ap, kA1_ap, kP2_ap, kP1_ap, kR_ap, kRX_ap, kCallp_ap, kRs_ap, kCallz_ap, kCalla_ap, kPut_ap, kRi_ap, kRXi_ap, kCi3_ap, kCi2_ap, kCi1_ap, kDrop_ap, kRt_ap, kCt2_ap, kCt1_ap, kAsg_ap, kAsgT_ap, kSet1_ap, kExpr_ap, kRtn_ap, kIt_ap, kItems_ap, kRng2_ap, kZip_ap, kFz_ap, hold_e, hold_rng1, hold_rng2, hold_enum, hold_zip, hold_hold, kAnd_t, kAnd_f, kOr_t, kOr_f, kIfe_t, kIfe_f, kO_i, kRev_l, kNeg_i, kTst_b, kAug_i, kAug1_i, kSet2_i, kSet3_l, kRng1_i, kRng22_i, kEnum_l, kZip2_l, kLcT_f, kLcT_t, kLcE_ap, fin_rt0, fin_nx0, fin_ex0, fin_rt1, fin_nx1, slot_0, slot_s, put_0, put_s, oS_some, wr_ok, PV.pure, pureEs, isMv, isNo, root, redo, B2.scal, F1.scal, M1.scal, fits, tcOf_non, tcOf_bool, tcOf_int, tcOf_str, tcOf_list, tcOf_tuple, isTC_bool_non, isTC_bool_bool, isTC_bool_int, isTC_bool_str, isTC_bool_list, isTC_bool_tuple, isTC_bool_dict, isTC_int_non, isTC_int_bool, isTC_int_int, isTC_int_str, isTC_int_list, isTC_int_tuple, isTC_int_dict, isTC_str_non, isTC_str_bool, isTC_str_int, isTC_str_str, isTC_str_list, isTC_str_tuple, isTC_str_dict, isTC_list_non, isTC_list_bool, isTC_list_int, isTC_list_str, isTC_list_list, isTC_list_tuple, isTC_list_dict, isTC_tuple_non, isTC_tuple_bool, isTC_tuple_int, isTC_tuple_str, isTC_tuple_list, isTC_tuple_tuple, isTC_tuple_dict, noOwn_tup, noOwn_lst, noOwn_int, noOwn_str, noOwn_bl, noOwn_non, noOwn_scr, noOwn_dct, noOwnL_nil, noOwnL_cons, canFz_tup, canFz_lst, canFz_int, canFz_str, canFz_bl, canFz_non, canFz_scr, canFzL_nil, canFzL_cons, fz_tup, fz_lst, fz_int, fz_str, fz_bl, fz_non, fz_scr, fzL_nil, fzL_cons, isTys, atI_0, atI_1, atI_2, atI_3, atI_4, ixN_0, ixN_1, ixN_2, eqD_int, Int.reduceLT, Int.reduceLE, Int.reduceNeg, Int.reduceAdd, Int.reduceSub, Int.reduceMul, Nat.reduceAdd, Nat.reduceLT, Nat.reduceLeDiff, Nat.reduceEqDiff, List.mem_cons, bindT, bindTs, Tg.slots, ownOk, wipeE, List.all_cons, List.all_nil, List.any_cons, List.any_nil, List.contains_eq_mem, List.not_mem_nil, List.length_cons, List.length_nil, List.set_cons_zero, List.set_cons_succ, List.cons_append, List.nil_append, Bool.not_true, Bool.not_false, Bool.and_true, Bool.true_and, Bool.and_false, Bool.false_and, Bool.or_true, Bool.true_or, Bool.or_false, Bool.false_or, Bool.and_self, Bool.or_self, Bool.and_eq_true, Bool.or_eq_true, Bool.not_eq_true', true_and, and_true, and_self, false_and, and_false, true_or, or_true, false_or, or_false, or_self, if_true, if_false, ite_true, ite_false, eq_self, Bool.false_eq_true, Option.map_some, Option.map_none, Option.bind_some, Option.some.injEq, decide_true, decide_false, decide_eq_true_eq, szOk_0, szOk_1, szOk_2, szOk_3, szOk_4, szOk_5, szOk_6, szOk_7, szOk_8, szOk_9, szOk_10, szOk_11, szOk_12, szOk_13, szOk_14, szOk_15, szOk_16, szOk_17, szOk_18, szOk_19, szOk_20, isScal_c0, isScal_c1, isScal_c2, isScal_c3, isScal_c4, isNonD_c0, b2_c0, b2_c1, b2_c2, b2_c3, b2_c4, b2_c5, b2_c6, b2_c7, b2_c8, b2_c9, b2_c10, b2_c11, b2_c12, b2_c13, b2_c14, b2_c15, b2_c16, c2_c0, c2_c1, c2_c2, c2_c3, c2_c4, c2_c5, c2_c6, c2_c7, ixS_c0, ixS_c1, ixS_c2, ixS_c3, slS_c0, slS_c1, slS_c2, slS_c3, f1S_c0, f1S_c1, f1S_c2, f1S_c3, f1S_c4, f1S_c5, f1S_c6, f1S_c7, f1S_c8, f1S_c9, f1S_c10, f1S_c11, f1S_c12, f1S_c13, f1S_c14, f1S_c15, f1S_c16, f2S_c0, f2S_c1, m1S_c0, m1S_c1, m1S_c2, m1S_c3, recvOk_c0, recvOk_c1, recvOk_c2, recvOk_c3, recvOk_c4, recvOk_c5, recvOk_c6, isOwnL_c0, mmS_c0, mmS_c1, mmS_c2, mmS_c3, itemsOf_c0, itemsOf_c1, itemsOf_c2, seqOf_c0, seqOf_c1, fd0, fd1, fd2, fd3, fd4, fd5, fd6, fd7, fd8, fd9, fd10, fd11, fd12, fd13, fd14, fd15, fd16, fd17, fd18, fd19, fd20, fd21, fd22, fd23, fd24, fd25, fd26, fd27, fd28, $[$es:term],*])
namespace K38
open PySem L2 PV
def ndS : Ss := match bo13 with
  | .cons _ (.cons _ r) => r
  | _ => .nil
def wnS : Ss := match ndS with
  | .cons _ (.cons (.for _ _ _ _ (.cons _ (.cons (.for _ _ _ _ (.cons _ (.cons _ r))) _))) _) => r
  | _ => .nil
theorem wnS_ok {k : Nat} (hk : 3 ≤ k) {fs : List Str} (hf : Fs fs) {a b : Int} (ha : 0 ≤ a) (hb : 0 ≤ b) {c : Cd} (ho : c.over fs) (hd : c.deep ≤ 2) {w : List Ch} (hw : w.length ≤ 8) {v2 v3 v4 v5 v6 v8 : Option D} {Q : Fl → Prop}
    (q : ∀ e a b, 0 ≤ a → 0 ≤ b → Chg fs e → Q (.nx [some (dk a b), some (fD fs), v2, v3, v4, v5, v6, some (.lst true ((w ++ [e]).map chD)), v8, none])) :
    xB (Wk k [0]) wnS [some (dk a b), some (fD fs), v2, v3, v4, v5, v6, some (.lst true (w.map chD)), v8, some c.toD] Q := by
  show xB (Wk k [0]) (.cons _ .nil) _ _
  have hpos : (0 : Int) < fs.length := by have := hf.pos; omega
  have cn := cd_no c
  exists cn
  refine xC_ap ?_
  exists no_fD, cz_fD, fz_fD, len_fD
  refine take_ok (k := k) (by omega) ha hb hpos (by have := hf.few; omega) fun i a1 b1 i0 i1 ha1 hb1 => ?_
  obtain ⟨s, hs, ex⟩ := ix_fD (kt := lw.tb.kt) i0 i1
  exists cn, no_fD, cz_fD, fz_fD, len_fD, ex
  refine xC_ap ?_
  exists if_true
  refine take_ok (k := k) (by omega) ha1 hb1 (by decide) (by decide) fun t a2 b2 t0 t1 ha2 hb2 => ?_
  exists cn
  refine kMm_ap _ _ _ _ _ (w.map chD) .non (w.map chD ++ [.tup [c.toD, .str s, .bl (decide (t = 0))]]) rfl (PV.app_ok (by simp; omega)) ?_
  have el : w.map chD ++ [.tup [c.toD, .str s, .bl (decide (t = 0))]] = (w ++ [(c, s, decide (t = 0))]).map chD := by simp [chD]
  rw [el]
  exists if_true
  exact q (c, s, decide (t = 0)) a2 b2 ha2 hb2 ⟨ho, by simp only []; omega, hs⟩
theorem ndS_ok {k : Nat} (hk : 8 ≤ k) {fs : List Str} (hf : Fs fs) {a b : Int} (ha : 0 ≤ a) (hb : 0 ≤ b) {nm : Str} (hn : PyData.canLay0 (.str nm) = true) {m : Int} (m0 : 0 < m) (m1 : m ≤ 4) {need : Cd} (ho : need.over fs) (hd : need.deep ≤ 2) {Q : D → Option D → Prop} {X : Nat → Prop}
    (q : ∀ d a' b', Deed fs d → d.1 = nm → 0 ≤ a' → 0 ≤ b' → Q (ddD true d) (some (dk a' b'))) :
    xB (Wk k [0]) ndS [some (dk a b), some (fD fs), some (.str nm), some (.int m), some need.toD, none, none, none, none, none] (fin true Q X) := by
  show xB (Wk k [0]) (.cons _ (.cons (.for _ _ _ _ (.cons _ (.cons (.for _ _ _ _ (.cons _ (.cons _ wnS))) _))) (.cons _ .nil))) _ _
  exists if_true
  refine xC_ap ?_
  exists if_true
  refine take_ok (k := k) (by omega) ha hb m0 (by omega) fun r a1 b1 r0 r1 ha1 hb1 => ?_
  have hr : rngOk (1 + r) = true := by simp [rngOk]; omega
  exists hr
  refine kFor_inv (fun i ρ => ∃ (a b : Int) (ys : List (List Ch)) (v6 v7 v8 v9 : Option D), ρ = [some (dk a b), some (fD fs), some (.str nm), some (.int m), some need.toD, some (.lst true (ys.map (wyD true))), v6, v7, v8, v9] ∧ 0 ≤ a ∧ 0 ≤ b ∧ ys.length = i ∧ ∀ w ∈ ys, w.length ≤ 8 ∧ ∀ c ∈ w, Chg fs c) (by decide) ⟨a1, b1, [], none, none, none, none, rfl, ha1, hb1, rfl, by simp⟩ ?_ ?_
  · rintro i x ρ hx ⟨a2, b2, ys, v6, v7, v8, v9, rfl, ha2, hb2, hl, hw⟩
    obtain ⟨hi, rfl⟩ := rngI_get hx
    exists if_true
    refine xC_ap ?_
    exists if_true
    refine take_ok (k := k) (by omega) ha2 hb2 (by decide) (by decide) fun t a3 b3 t0 t1 ha3 hb3 => ?_
    have ht : rngOk t = true := by simp [rngOk]; omega
    exists ht
    refine kFor_inv (fun n ρ => ∃ (a b : Int) (w : List Ch) (v8 v9 : Option D), ρ = [some (dk a b), some (fD fs), some (.str nm), some (.int m), some need.toD, some (.lst true (ys.map (wyD true))), some (.int (0 + (i : Nat))), some (.lst true (w.map chD)), v8, v9] ∧ 0 ≤ a ∧ 0 ≤ b ∧ w.length = n ∧ ∀ c ∈ w, Chg fs c) (by decide) ⟨a3, b3, [], v8, v9, rfl, ha3, hb3, rfl, by simp⟩ ?_ ?_
    · rintro n y ρ hy ⟨a4, b4, w, v8, v9, rfl, ha4, hb4, hwl, hwc⟩
      obtain ⟨hn2, rfl⟩ := rngI_get hy
      have tail : ∀ (c : Cd) (a b : Int), c.over fs → c.deep ≤ 2 → 0 ≤ a → 0 ≤ b → xB (Wk k [0]) wnS [some (dk a b), some (fD fs), some (.str nm), some (.int m), some need.toD, some (.lst true (ys.map (wyD true))), some (.int (0 + (i : Nat))), some (.lst true (w.map chD)), some (.int (0 + (n : Nat))), some c.toD] (kTurn (fun ρ => ∃ (a b : Int) (w : List Ch) (v8 v9 : Option D), ρ = [some (dk a b), some (fD fs), some (.str nm), some (.int m), some need.toD, some (.lst true (ys.map (wyD true))), some (.int (0 + (i : Nat))), some (.lst true (w.map chD)), v8, v9] ∧ 0 ≤ a ∧ 0 ≤ b ∧ w.length = n + 1 ∧ ∀ c ∈ w, Chg fs c) (kSq (Wk k [0]) (match ndS with | .cons _ (.cons (.for _ _ _ _ (.cons _ (.cons _ r))) _) => r | _ => .nil) (kTurn (fun ρ => ∃ (a b : Int) (ys : List (List Ch)) (v6 v7 v8 v9 : Option D), ρ = [some (dk a b), some (fD fs), some (.str nm), some (.int m), some need.toD, some (.lst true (ys.map (wyD true))), v6, v7, v8, v9] ∧ 0 ≤ a ∧ 0 ≤ b ∧ ys.length = i + 1 ∧ ∀ w ∈ ys, w.length ≤ 8 ∧ ∀ c ∈ w, Chg fs c) (kSq (Wk k [0]) (match ndS with | .cons _ (.cons _ r) => r | _ => .nil) (fin true Q X))))) := by
        intro c a b h1 h2 h3 h4
        refine wnS_ok (by omega) hf h3 h4 h1 h2 (by omega) fun e a5 b5 ha5 hb5 he => ?_
        rw [kTurn_nx]
        refine ⟨a5, b5, w ++ [e], _, _, rfl, ha5, hb5, by simp; omega, ?_⟩
        intro c' hc
        simp only [List.mem_append, List.mem_singleton] at hc
        rcases hc with hc | rfl
        · exact hwc c' hc
        · exact he
      exists if_true
      refine xC_ap ?_
      exists if_true
      refine take_ok (k := k) (by omega) ha4 hb4 (by decide) (by decide) fun z a5 b5 z0 z1 ha5 hb5 => ?_
      exists if_true
      by_cases hz : z = 0
      · rw [decide_eq_true hz]
        exists if_true
        refine xC_ap ?_
        exists no_fD, cz_fD, fz_fD
        refine cond_ok 1 (k := k) (by omega) ha5 hb5 hf fun c a6 b6 oc dc ha6 hb6 => ?_
        have cn := cd_no c
        exists no_fD, cz_fD, fz_fD, cn
        exact tail c a6 b6 oc dc ha6 hb6
      · rw [decide_eq_false hz, kCond_f, xB_nil, kSq_nx]
        exact tail .yes a5 b5 trivial (by simp [Cd.deep]) ha5 hb5
    · rintro ρ ⟨a4, b4, w, v8, v9, rfl, ha4, hb4, hwl, hwc⟩
      rw [rngI_len] at hwl
      exists if_true
      refine kMm_ap _ _ _ _ _ (ys.map (wyD true)) .non ((ys ++ [w]).map (wyD true)) rfl (by rw [PV.app_ok (by simp; omega)]; simp [wyD]) ?_
      exists if_true
      refine ⟨a4, b4, ys ++ [w], _, _, _, _, rfl, ha4, hb4, by simp; omega, ?_⟩
      intro c' hc
      simp only [List.mem_append, List.mem_singleton] at hc
      rcases hc with hc | rfl
      · exact hw c' hc
      · exact ⟨by omega, hwc⟩
  · rintro ρ ⟨a2, b2, ys, v6, v7, v8, v9, rfl, ha2, hb2, hl, hw⟩
    rw [rngI_len] at hl
    have nn := cd_no need
    exists nn
    exact q (nm, need, ys) a2 b2 ⟨hn, ho, by simp only []; omega, by simp only []; omega, by simp only []; omega, hw⟩ rfl ha2 hb2
theorem deed_ok {k : Nat} (hk : 9 ≤ k) {fs : List Str} (hf : Fs fs) {a b : Int} (ha : 0 ≤ a) (hb : 0 ≤ b) {nm : Str} (hn : PyData.canLay0 (.str nm) = true) {m : Int} (m0 : 0 < m) (m1 : m ≤ 4) {Q : D → Option D → Prop} {X : Nat → Prop}
    (q : ∀ d a' b', Deed fs d → d.1 = nm → 0 ≤ a' → 0 ≤ b' → Q (ddD true d) (some (dk a' b'))) : wr (run lw.tb 1000 k 13 [dk a b, fD fs, .str nm, .int m]) Q X := by
  obtain ⟨k, rfl⟩ : ∃ k', k = k' + 1 := ⟨k - 1, by omega⟩
  rw [wr_runE fd13 rfl rfl rfl]
  show xB (Wk k [0]) (.cons _ (.cons _ ndS)) [some (dk a b), some (fD fs), some (.str nm), some (.int m), none, none, none, none, none, none] _
  exists if_true
  refine xC_ap ?_
  exists if_true
  refine take_ok (k := k) (by omega) ha hb (by decide) (by decide) fun z a1 b1 z0 z1 ha1 hb1 => ?_
  exists if_true
  by_cases hz : z = 0
  · rw [decide_eq_true hz]
    exists if_true
    refine xC_ap ?_
    exists no_fD, cz_fD, fz_fD
    refine cond_ok 1 (k := k) (by omega) ha1 hb1 hf fun c a2 b2 oc dc ha2 hb2 => ?_
    have cn := cd_no c
    exists no_fD, cz_fD, fz_fD, cn
    exact ndS_ok (by omega) hf ha2 hb2 hn m0 m1 oc dc q
  · rw [decide_eq_false hz, kCond_f, xB_nil, kSq_nx]
    exact ndS_ok (need := .yes) (by omega) hf ha1 hb1 hn m0 m1 trivial (by simp [Cd.deep]) q
end K38

end

section
open PySem L2 PV
open K38
local macro_rules
  | `(tactic| exists $es,*) => `(tactic| simp -implicitDefEqProofs only [xE_int, xE_str, xE_bl, xE_non, xE_fn, xE_glob, xE_var, xE_bin, xE_cmp, xE_isn, xE_not, xE_and, xE_or, xE_ife, xE_tup, xE_lst, xE_ix, xO_all, xOb_t, xOb_f, xE_slA, xE_chain, kCh1_ap, kCh2_ap, kCh3_f, kCh3_t, kCh4_ap, kXf_ap, xE_fr, xE_xis, kXis_ap, xOf_xc, noOwn_xc, xS_try1, kTry_ex, kTry_nx, kTry_rt, kTry_bk, kTry_ct, kTry2_t, kTry2_f, kUn_nx, kUn_rt, xSlot_s, xSlot_n, xFits_s, xFits_n, fits'_is, noXS_nil, noXS_s, noXS_n, noX_int, noX_str, noX_bl, noX_non, noX_scr, noX_tup, noX_lst, noX_dct, noXL_nil, noXL_cons, noXL_ints, noXL_strs, xE_dnw, xS_dput, kDp1_ap, kDp2_ap, kDp3_ap, isOwnD_d, xE_mmA, xE_vf, kVf_ap, xE_sset, kSset_ap, xE_trg, kTrg_i, trgD_t, trgD_f, xE_lc, unh_e, unh_rng1, unh_rng2, unh_enum, unh_zip, unh_hold, backS_nil, backS_cons, xE_rev, xE_f1, xE_f2, xE_isin, xE_m1, xE_neg, xL_nil, xL_cons, xA_nil, xA_cons, xP_nil, xP_cons, xT_e, xV_all, xVb_t, xVb_f, xVb_m, kMv_ap, kKeep_all, kKb_t, kKb_f, kFr0_s, kFr1_ap, kFr_ap, xF_e, xS_asg, xS_asgT, xS_aug, xS_setixA, xSb_t, xS_forA, xS_expr, xS_ret, xS_retn, xS_ife, xS_raise, xS_pass, xS_cont, xS_brk, xB_nil, xB_cons, xTst_all, xTb_t, xTb_f, xC1_s, xC2_v, xC2_t, xC2_a, isVar, xI_e, xI_rng1, xI_rng2, xI_enum, xI_zip, kSq_nx, kSq_rt, kSq_ex, kSq_bk, kSq_ct, kCond_t, kCond_f, kTurn_nx, kTurn_ct, kTurn_bk, kTurn_rt, kTurn_ex, kIf_t, kRet_ap, kB3_ap, kB2_ap, kB1_ap, kC4_ap, kC3_ap, kC2_ap, kC1_ap, kIsn_ap, kNot_ap, kBl_ap, kNo_ap, kTup_ap, kLst_ap, kX4_ap, kX3_ap, kX2_ap, kX1_ap, kSl3_ap, kSl2_ap, kSl1_ap, kF1_ap, kF22_ap, kF21_ap, kIsin_ap, kM2_ap, kM1_ap, kCons2_ap, kL1_ap, kA1_ap, kP2_ap, kP1_ap, kR_ap, kRX_ap, kCallp_ap, kRs_ap, kCallz_ap, kCalla_ap, kPut_ap, kRi_ap, kRXi_ap, kCi3_ap, kCi2_ap, kCi1_ap, kDrop_ap, kRt_ap, kCt2_ap, kCt1_ap, kAsg_ap, kAsgT_ap, kSet1_ap, kExpr_ap, kRtn_ap, kIt_ap, kItems_ap, kRng2_ap, kZip_ap, kFz_ap, hold_e, hold_rng1, hold_rng2, hold_enum, hold_zip, hold_hold, kAnd_t, kAnd_f, kOr_t, kOr_f, kIfe_t, kIfe_f, kO_i, kRev_l, kNeg_i, kTst_b, kAug_i, kAug1_i, kSet2_i, kSet3_l, kRng1_i, kRng22_i, kEnum_l, kZip2_l, kLcT_f, kLcT_t, kLcE_ap, fin_rt0, fin_nx0, fin_ex0, fin_rt1, fin_nx1, slot_0, slot_s, put_0, put_s, oS_some, wr_ok, PV.pure, pureEs, isMv, isNo, root, redo, B2.scal, F1.scal, M1.scal, fits, tcOf_non, tcOf_bool, tcOf_int, tcOf_str, tcOf_list, tcOf_tuple, isTC_bool_non, isTC_bool_bool, isTC_bool_int, isTC_bool_str, isTC_bool_list, isTC_bool_tuple, isTC_bool_dict, isTC_int_non, isTC_int_bool, isTC_int_int, isTC_int_str, isTC_int_list, isTC_int_tuple, isTC_int_dict, isTC_str_non, isTC_str_bool, isTC_str_int, isTC_str_str, isTC_str_list, isTC_str_tuple, isTC_str_dict, isTC_list_non, isTC_list_bool, isTC_list_int, isTC_list_str, isTC_list_list, isTC_list_tuple, isTC_list_dict, isTC_tuple_non, isTC_tuple_bool, isTC_tuple_int, isTC_tuple_str, isTC_tuple_list, isTC_tuple_tuple, isTC_tuple_dict, noOwn_tup, noOwn_lst, noOwn_int, noOwn_str, noOwn_bl, noOwn_non, noOwn_scr, noOwn_dct, noOwnL_nil, noOwnL_cons, canFz_tup, canFz_lst, canFz_int, canFz_str, canFz_bl, canFz_non, canFz_scr, canFzL_nil, canFzL_cons, fz_tup, fz_lst, fz_int, fz_str, fz_bl, fz_non, fz_scr, fzL_nil, fzL_cons, isTys, atI_0, atI_1, atI_2, atI_3, atI_4, ixN_0, ixN_1, ixN_2, eqD_int, Int.reduceLT, Int.reduceLE, Int.reduceNeg, Int.reduceAdd, Int.reduceSub, Int.reduceMul, Nat.reduceAdd, Nat.reduceLT, Nat.reduceLeDiff, Nat.reduceEqDiff, List.mem_cons, bindT, bindTs, Tg.slots, ownOk, wipeE, List.all_cons, List.all_nil, List.any_cons, List.any_nil, List.contains_eq_mem, List.not_mem_nil, List.length_cons, List.length_nil, List.set_cons_zero, List.set_cons_succ, List.cons_append, List.nil_append, Bool.not_true, Bool.not_false, Bool.and_true, Bool.true_and, Bool.and_false, Bool.false_and, Bool.or_true, Bool.true_or, Bool.or_false, Bool.false_or, Bool.and_self, Bool.or_self, Bool.and_eq_true, Bool.or_eq_true, Bool.not_eq_true', true_and, and_true, and_self, false_and, and_false, true_or, or_true, false_or, or_false, or_self, if_true, if_false, ite_true, ite_false, eq_self, Bool.false_eq_true, Option.map_some, Option.map_none, Option.bind_some, Option.some.injEq, decide_true, decide_false, decide_eq_true_eq, szOk_0, szOk_1, szOk_2, szOk_3, szOk_4, szOk_5, szOk_6, szOk_7, szOk_8, szOk_9, szOk_10, szOk_11, szOk_12, szOk_13, szOk_14, szOk_15, szOk_16, szOk_17, szOk_18, szOk_19, szOk_20, isScal_c0, isScal_c1, isScal_c2, isScal_c3, isScal_c4, isNonD_c0, b2_c0, b2_c1, b2_c2, b2_c3, b2_c4, b2_c5, b2_c6, b2_c7, b2_c8, b2_c9, b2_c10, b2_c11, b2_c12, b2_c13, b2_c14, b2_c15, b2_c16, c2_c0, c2_c1, c2_c2, c2_c3, c2_c4, c2_c5, c2_c6, c2_c7, ixS_c0, ixS_c1, ixS_c2, ixS_c3, slS_c0, slS_c1, slS_c2, slS_c3, f1S_c0, f1S_c1, f1S_c2, f1S_c3, f1S_c4, f1S_c5, f1S_c6, f1S_c7, f1S_c8, f1S_c9, f1S_c10, f1S_c11, f1S_c12, f1S_c13, f1S_c14, f1S_c15, f1S_c16, f2S_c0, f2S_c1, m1S_c0, m1S_c1, m1S_c2, m1S_c3, recvOk_c0, recvOk_c1, recvOk_c2, recvOk_c3, recvOk_c4, recvOk_c5, recvOk_c6, isOwnL_c0, mmS_c0, mmS_c1, mmS_c2, mmS_c3, itemsOf_c0, itemsOf_c1, itemsOf_c2, seqOf_c0, seqOf_c1, fd0, fd1, fd2, fd3, fd4, fd5, fd6, fd7, fd8, fd9, fd10, fd11, fd12, fd13, fd14, fd15, fd16, fd17, fd18, fd19, fd20, fd21, fd22, fd23, fd24, fd25, fd26, fd27, fd28, $[$es:term],*])
namespace K38
open PySem L2 PV
theorem cutF (ss : List Str) (n : Nat) : cutD (ss.map D.str) none (some (n : Int)) = (ss.take n).map .str := by
  have e : HT.sIx (ss.map D.str).length 0 none = 0 := rfl
  simp only [cutD, e, HT.sIx_nat, List.drop_zero, List.map_take, Nat.sub_zero]
  rw [List.take_eq_take_iff]
  simp
theorem at_nth {ss : List Str} {n : Nat} {nm : Str} (h : ss[n]? = some nm) {i : Int} (hi : i = (n : Nat)) : atI (ss.map D.str) i = some (.str nm) := by
  subst hi
  obtain ⟨h1, h2⟩ := List.getElem?_eq_some_iff.mp h
  rw [atI_nat (by omega) (by simp; omega)]
  simp [h2]
theorem at_end {ss : List Str} (h : 0 < ss.length) : ∃ s, ss[ss.length - 1]? = some s ∧ atI (ss.map D.str) (-1) = some (.str s) := by
  have e1 : ixN (ss.map D.str).length (-1) = some (ss.length - 1) := by
    simp [ixN]; omega
  refine ⟨ss[ss.length - 1]'(by omega), List.getElem?_eq_getElem _, ?_⟩
  simp only [atI, e1]
  simp
def lkS : Ss := match bo1 with
  | .cons _ (.cons _ (.cons _ (.cons _ (.cons _ r)))) => r
  | _ => .nil
def fiS : Ss := match lkS with
  | .cons _ r => r
  | _ => .nil
theorem fiS_ok {k : Nat} (hk : 8 ≤ k) {fs : List Str} (hf : Fs fs) {a b : Int} (ha : 0 ≤ a) (hb : 0 ≤ b) {o : Bool} {ds : List Dd} {ls : List Lk} {v1 v3 v4 v6 : Option D} (hdd : ∀ d ∈ ds, Deed fs d) (hll : ∀ l ∈ ls, Look fs l) (h1 : ds.length ≤ 120) (h2 : ls.length ≤ 12) (h3 : (ds.map (·.1) ++ ls.map (·.1)).Nodup) {Q : D → Option D → Prop} {X : Nat → Prop}
    (q : ∀ ws wish a b, Hs fs ds ls ws wish → wish.deep ≤ 3 → ws.length ≤ 6 → 0 ≤ a → 0 ≤ b → Q (hsG false true true true fs ds ls ws wish) (some (dk a b))) :
    xB (Wk k [0]) fiS [some (dk a b), v1, some (.lst o (fs.map .str)), v3, v4, some (.lst true (ds.map (ddD true))), v6, some (.lst true (ls.map lkD)), none] (fin true Q X) := by
  show xB (Wk k [0]) (.cons _ (.cons _ .nil)) _ _
  have hp := pow_le hf
  have hl : f1S .len (.lst o (fs.map .str)) = some (.int fs.length) := by simp [f1S]
  exists if_true
  refine xC_ap ?_
  exists hl, pow_ok hf, pow_is
  refine crowd_ok (k := k) (by omega) ha hb (m := 2 ^ fs.length) (by omega) (by omega) (by decide) (by decide) fun ws a1 b1 ha1 hb1 hw hwl => ?_
  have wno := noOwnL_ints ws
  have fin : ∀ (wish : Cd) a b, wish.over fs → wish.deep ≤ 3 → 0 ≤ a → 0 ≤ b → Q (hsG false true true true fs ds ls ws wish) (some (dk a b)) := fun wish a b ho hd h4 h5 => q ws wish a b ⟨hf, hdd, hll, h1, h2, hw, by have : ws.length ≤ 6 := hwl; omega, ho, by omega, h3⟩ hd hwl h4 h5
  cases o <;> (
    exists wno, strs_cz, strs_fz, noOwnL_str, fF, no_fD, cz_fD, fz_fD
    refine xC_ap ?_
    exists wno, strs_cz, strs_fz, noOwnL_str, fF, no_fD, cz_fD, fz_fD
    refine cond_ok 2 (k := k) (by omega) ha1 hb1 hf fun c a2 b2 oc dc ha2 hb2 => ?_
    have cn := cd_no c
    exists cn
    exact fin c a2 b2 oc dc ha2 hb2)
theorem lkS_ok {k : Nat} (hk : 8 ≤ k) {fs ss : List Str} (hf : Fs fs) {a b : Int} (ha : 0 ≤ a) (hb : 0 ≤ b) {o : Bool} {ds : List Dd} {v1 v3 v6 : Option D} (hdd : ∀ d ∈ ds, Deed fs d) (h1 : ds.length ≤ 120) (hss : ss.length = fs.length + ds.length + 1) (hsn : ss.Nodup) (hlay : ∀ s ∈ ss, PyData.canLay0 (.str s) = true) (hnm : ds.map (·.1) = (ss.drop fs.length).take ds.length) {Q : D → Option D → Prop} {X : Nat → Prop}
    (q : ∀ ls ws wish a b, Hs fs ds ls ws wish → wish.deep ≤ 3 → ls.length ≤ 1 → ws.length ≤ 6 → 0 ≤ a → 0 ≤ b → Q (hsG false true true true fs ds ls ws wish) (some (dk a b))) :
    xB (Wk k [0]) lkS [some (dk a b), v1, some (.lst o (fs.map .str)), v3, some (.lst true (ss.map .str)), some (.lst true (ds.map (ddD true))), v6, some (.lst true []), none] (fin true Q X) := by
  show xB (Wk k [0]) (.cons _ fiS) _ _
  obtain ⟨nm, hnme, ea⟩ := at_end (ss := ss) (by omega)
  have sno := noOwnL_strs ss
  have hdn : (ds.map (·.1)).Nodup := by rw [hnm]; exact ((hsn.sublist (List.drop_sublist _ _)).sublist (List.take_sublist _ _))
  have hmem : nm ∈ ss := List.mem_of_getElem? hnme
  have hnot : nm ∉ ds.map (·.1) := by
    rw [hnm]
    intro hm
    obtain ⟨i, hi⟩ := List.mem_iff_getElem?.mp hm
    rw [List.getElem?_take] at hi
    split at hi
    · rename_i hlt
      rw [List.getElem?_drop] at hi
      have h4 := (List.getElem?_eq_some_iff.mp hi)
      have h5 := (List.getElem?_eq_some_iff.mp hnme)
      obtain ⟨l4, e4⟩ := h4
      obtain ⟨l5, e5⟩ := h5
      exact List.pairwise_iff_getElem.mp hsn _ _ l4 l5 (by omega) (e4.trans e5.symm)
    · cases hi
  exists if_true
  refine xC_ap ?_
  exists if_true
  refine take_ok (k := k) (by omega) ha hb (by decide) (by decide) fun z a1 b1 z0 z1 ha1 hb1 => ?_
  exists if_true
  by_cases hz : z = 0
  · rw [decide_eq_true hz]
    have go : ∀ (c : Cd) a b, c.over fs → c.deep ≤ 2 → 0 ≤ a → 0 ≤ b → xB (Wk k [0]) fiS [some (dk a b), v1, some (.lst false (fs.map .str)), v3, some (.lst true (ss.map .str)), some (.lst true (ds.map (ddD true))), v6, some (.lst true ([(nm, Cd.yes, c)].map lkD)), none] (fin true Q X) := fun c a b oc dc h4 h5 => by
      refine fiS_ok hk hf h4 h5 hdd (fun l hl => ?_) h1 (by simp) ?_ fun ws wish a b hh hwd hw h4 h5 => q _ ws wish a b hh hwd (by simp) hw h4 h5
      · simp only [List.mem_singleton] at hl
        subst hl
        exact ⟨hlay nm hmem, trivial, by simp [Cd.deep], oc, by simp only []; omega⟩
      · rw [List.nodup_append]
        refine ⟨hdn, by simp, ?_⟩
        intro x hx y hy e
        simp only [List.map_cons, List.map_nil, List.mem_singleton] at hy
        subst hy; subst e
        exact hnot hx
    cases o <;> (
      exists ea, sno, strs_cz, strs_fz, noOwnL_str, fF, no_fD, cz_fD, fz_fD
      refine xC_ap ?_
      exists ea, sno, strs_cz, strs_fz, noOwnL_str, fF, no_fD, cz_fD, fz_fD
      refine cond_ok 1 (k := k) (by omega) ha1 hb1 hf fun c a2 b2 oc dc ha2 hb2 => ?_
      have cn := cd_no c
      exists ea, sno, cn
      refine kMm_ap _ _ _ _ _ [] .non [.tup [.str nm, .tup [.str "yes"], c.toD]] rfl (PV.app_ok (by simp)) ?_
      exists if_true
      exact go c a2 b2 oc dc ha2 hb2)
  · rw [decide_eq_false hz, kCond_f, xB_nil, kSq_nx]
    refine fiS_ok (ls := []) hk hf ha1 hb1 hdd (fun l hl => by cases hl) h1 (by simp) (by simpa using hdn) fun ws wish a b hh hwd hw h4 h5 => q _ ws wish a b hh hwd (by simp) hw h4 h5
theorem house_ok {k : Nat} (hk : 12 ≤ k) {a b : Int} (ha : 0 ≤ a) (hb : 0 ≤ b) {cs : List Int} {n : Nat} (n0 : 0 < n) (n1 : n ≤ 10) (hc : n + cs.length + 1 ≤ 25) {m : Int} (m0 : 0 < m) (m1 : m ≤ 4) {Q : D → Option D → Prop} {X : Nat → Prop}
    (q : ∀ fs ds ls ws wish a b, Hs fs ds ls ws wish → wish.deep ≤ 3 → fs.length = n → ds.length = cs.length → ls.length ≤ 1 → ws.length ≤ 6 → 0 ≤ a → 0 ≤ b → Q (hsG false true true true fs ds ls ws wish) (some (dk a b))) : wr (run lw.tb 1000 k 1 [dk a b, .lst false (cs.map .int), .int (n : Nat), .int m]) Q X := by
  obtain ⟨k, rfl⟩ : ∃ k', k = k' + 1 := ⟨k - 1, by omega⟩
  rw [wr_runE fd1 rfl rfl rfl]
  show xB (Wk k [0]) (.cons _ (.cons _ (.cons _ (.cons _ (.cons _ lkS))))) [some (dk a b), some (.lst false (cs.map .int)), some (.int (n : Nat)), some (.int m), none, none, none, none, none] _
  have hr : rngOk (cs.length : Int) = true := by simp [rngOk]; omega
  exists if_true
  refine xC_ap ?_
  exists List.length_map
  refine names_ok (k := k) (by omega) ha hb (by omega) (by omega) fun ss a1 b1 ha1 hb1 hsl hsn hlay => ?_
  have hsl : ss.length = n + cs.length + 1 := by omega
  have sno := noOwnL_strs ss
  have hcut := cutF ss n
  obtain ⟨fs, hfs⟩ : ∃ fs, fs = ss.take n := ⟨_, rfl⟩
  rw [← hfs] at hcut
  have hfl : fs.length = n := by rw [hfs]; simp; omega
  have hf : Fs fs := ⟨by omega, by omega, by rw [hfs]; exact hsn.sublist (List.take_sublist _ _), fun s hs => hlay s (by rw [hfs] at hs; exact List.mem_of_mem_take hs)⟩
  exists List.length_map, sno, hcut, hr
  refine kFor_inv (fun i ρ => ∃ (a b : Int) (o : Bool) (ds : List Dd) (v6 : Option D), ρ = [some (dk a b), some (.lst false (cs.map .int)), some (.lst o (fs.map .str)), some (.int m), some (.lst true (ss.map .str)), some (.lst true (ds.map (ddD true))), v6, none, none] ∧ 0 ≤ a ∧ 0 ≤ b ∧ ds.length = i ∧ ds.map (·.1) = (ss.drop n).take i ∧ ∀ d ∈ ds, Deed fs d) (by decide) ⟨a1, b1, true, [], none, rfl, ha1, hb1, rfl, rfl, by simp⟩ ?_ ?_
  · rintro i x ρ hx ⟨a2, b2, o, ds, v6, rfl, ha2, hb2, hl, hnm, hds⟩
    obtain ⟨hi, rfl⟩ := rngI_get hx
    have hi : i < cs.length := by omega
    have ec : atI (cs.map D.int) (0 + (i : Nat)) = some (.int (cs[i]'hi)) := by
      rw [atI_nat (by omega) (by simp; omega)]
      simp
    obtain ⟨nm, hnme⟩ : ∃ nm, ss[n + i]? = some nm := ⟨_, List.getElem?_eq_getElem (by omega)⟩
    have ea : atI (ss.map D.str) ((fs.length : Int) + (0 + (i : Nat))) = some (.str nm) := at_nth hnme (by omega)
    have fin : ∀ d, Deed fs d → d.1 = nm → ∃ (a' b' : Int) (o : Bool) (ds' : List Dd) (v6 : Option D), [some (dk a2 b2), some (.lst false (cs.map .int)), some (fD fs), some (.int m), some (.lst true (ss.map .str)), some (.lst true ((ds ++ [d]).map (ddD true))), some (.int (0 + (i : Nat))), none, none] = [some (dk a' b'), some (.lst false (cs.map .int)), some (.lst o (fs.map .str)), some (.int m), some (.lst true (ss.map .str)), some (.lst true (ds'.map (ddD true))), v6, none, none] ∧ 0 ≤ a' ∧ 0 ≤ b' ∧ ds'.length = i + 1 ∧ ds'.map (·.1) = (ss.drop n).take (i + 1) ∧ ∀ d ∈ ds', Deed fs d := by
      intro d hd h1
      refine ⟨a2, b2, false, ds ++ [d], _, rfl, ha2, hb2, by simp; omega, ?_, ?_⟩
      · rw [List.map_append, hnm, List.take_succ, List.getElem?_drop, hnme, ← h1]; rfl
      · intro e he
        simp only [List.mem_append, List.mem_singleton] at he
        rcases he with he | rfl
        · exact hds e he
        · exact hd
    cases o <;> (
      exists if_true
      refine xC_ap ?_
      exists ec, noOwnL_ints
      refine xE_callp (fd := _) fd0 rfl ?_
      exists ec, noOwnL_ints
      refine reel_ok (k := k) (by omega) fun a3 b3 ha3 hb3 => ?_
      exists ea, sno, strs_cz, strs_fz, noOwnL_str, fF, no_fD, cz_fD, fz_fD, len_fD, List.length_map
      refine deed_ok (k := k) (by omega) hf ha3 hb3 (hlay nm (List.mem_of_getElem? hnme)) m0 m1 fun d a4 b4 hd h1 ha4 hb4 => ?_
      exists if_true
      refine kMm_ap _ _ _ _ _ (ds.map (ddD true)) .non ((ds ++ [d]).map (ddD true)) rfl (by rw [PV.app_ok (by simp; omega)]; simp) ?_
      exists if_true
      exact fin d hd h1)
  · rintro ρ ⟨a2, b2, o, ds, v6, rfl, ha2, hb2, hl, hnm, hds⟩
    rw [rngI_len] at hl
    have hl : ds.length = cs.length := by omega
    rw [kSq_nx]
    show xB (Wk k [0]) (.cons _ lkS) _ _
    exists if_true
    refine lkS_ok (by omega) hf ha2 hb2 hds (by omega) (by omega) hsn hlay (by rw [hnm, hfl, rngI_len, hl]; rfl) fun ls ws wish a b hh hwd h1 h2 h3 h4 => q fs ds ls ws wish a b hh hwd hfl hl h1 h2 h3 h4
end K38

end

section
open PySem L2 PV
open K38
local macro_rules
  | `(tactic| exists $es,*) => `(tactic| simp -implicitDefEqProofs only [xE_int, xE_str, xE_bl, xE_non, xE_fn, xE_glob, xE_var, xE_bin, xE_cmp, xE_isn, xE_not, xE_and, xE_or, xE_ife, xE_tup, xE_lst, xE_ix, xO_all, xOb_t, xOb_f, xE_slA, xE_chain, kCh1_ap, kCh2_ap, kCh3_f, kCh3_t, kCh4_ap, kXf_ap, xE_fr, xE_xis, kXis_ap, xOf_xc, noOwn_xc, xS_try1, kTry_ex, kTry_nx, kTry_rt, kTry_bk, kTry_ct, kTry2_t, kTry2_f, kUn_nx, kUn_rt, xSlot_s, xSlot_n, xFits_s, xFits_n, fits'_is, noXS_nil, noXS_s, noXS_n, noX_int, noX_str, noX_bl, noX_non, noX_scr, noX_tup, noX_lst, noX_dct, noXL_nil, noXL_cons, noXL_ints, noXL_strs, xE_dnw, xS_dput, kDp1_ap, kDp2_ap, kDp3_ap, isOwnD_d, xE_mmA, xE_vf, kVf_ap, xE_sset, kSset_ap, xE_trg, kTrg_i, trgD_t, trgD_f, xE_lc, unh_e, unh_rng1, unh_rng2, unh_enum, unh_zip, unh_hold, backS_nil, backS_cons, xE_rev, xE_f1, xE_f2, xE_isin, xE_m1, xE_neg, xL_nil, xL_cons, xA_nil, xA_cons, xP_nil, xP_cons, xT_e, xV_all, xVb_t, xVb_f, xVb_m, kMv_ap, kKeep_all, kKb_t, kKb_f, kFr0_s, kFr1_ap, kFr_ap, xF_e, xS_asg, xS_asgT, xS_aug, xS_setixA, xSb_t, xS_forA, xS_expr, xS_ret, xS_retn, xS_ife, xS_raise, xS_pass, xS_cont, xS_brk, xB_nil, xB_cons, xTst_all, xTb_t, xTb_f, xC1_s, xC2_v, xC2_t, xC2_a, isVar, xI_e, xI_rng1, xI_rng2, xI_enum, xI_zip, kSq_nx, kSq_rt, kSq_ex, kSq_bk, kSq_ct, kCond_t, kCond_f, kTurn_nx, kTurn_ct, kTurn_bk, kTurn_rt, kTurn_ex, kIf_t, kRet_ap, kB3_ap, kB2_ap, kB1_ap, kC4_ap, kC3_ap, kC2_ap, kC1_ap, kIsn_ap, kNot_ap, kBl_ap, kNo_ap, kTup_ap, kLst_ap, kX4_ap, kX3_ap, kX2_ap, kX1_ap, kSl3_ap, kSl2_ap, kSl1_ap, kF1_ap, kF22_ap, kF21_ap, kIsin_ap, kM2_ap, kM1_ap, kCons2_ap, kL1_ap, kA1_ap, kP2_ap, kP1_ap, kR_ap, kRX_ap, kCallp_ap, kRs_ap, kCallz_ap, kCalla_ap, kPut_ap, kRi_ap, kRXi_ap, kCi3_ap, kCi2_ap, kCi1_ap, kDrop_ap, kRt_ap, kCt2_ap, kCt1_ap, kAsg_ap, kAsgT_ap, kSet1_ap, kExpr_ap, kRtn_ap, kIt_ap, kItems_ap, kRng2_ap, kZip_ap, kFz_ap, hold_e, hold_rng1, hold_rng2, hold_enum, hold_zip, hold_hold, kAnd_t, kAnd_f, kOr_t, kOr_f, kIfe_t, kIfe_f, kO_i, kRev_l, kNeg_i, kTst_b, kAug_i, kAug1_i, kSet2_i, kSet3_l, kRng1_i, kRng22_i, kEnum_l, kZip2_l, kLcT_f, kLcT_t, kLcE_ap, fin_rt0, fin_nx0, fin_ex0, fin_rt1, fin_nx1, slot_0, slot_s, put_0, put_s, oS_some, wr_ok, PV.pure, pureEs, isMv, isNo, root, redo, B2.scal, F1.scal, M1.scal, fits, tcOf_non, tcOf_bool, tcOf_int, tcOf_str, tcOf_list, tcOf_tuple, isTC_bool_non, isTC_bool_bool, isTC_bool_int, isTC_bool_str, isTC_bool_list, isTC_bool_tuple, isTC_bool_dict, isTC_int_non, isTC_int_bool, isTC_int_int, isTC_int_str, isTC_int_list, isTC_int_tuple, isTC_int_dict, isTC_str_non, isTC_str_bool, isTC_str_int, isTC_str_str, isTC_str_list, isTC_str_tuple, isTC_str_dict, isTC_list_non, isTC_list_bool, isTC_list_int, isTC_list_str, isTC_list_list, isTC_list_tuple, isTC_list_dict, isTC_tuple_non, isTC_tuple_bool, isTC_tuple_int, isTC_tuple_str, isTC_tuple_list, isTC_tuple_tuple, isTC_tuple_dict, noOwn_tup, noOwn_lst, noOwn_int, noOwn_str, noOwn_bl, noOwn_non, noOwn_scr, noOwn_dct, noOwnL_nil, noOwnL_cons, canFz_tup, canFz_lst, canFz_int, canFz_str, canFz_bl, canFz_non, canFz_scr, canFzL_nil, canFzL_cons, fz_tup, fz_lst, fz_int, fz_str, fz_bl, fz_non, fz_scr, fzL_nil, fzL_cons, isTys, atI_0, atI_1, atI_2, atI_3, atI_4, ixN_0, ixN_1, ixN_2, eqD_int, Int.reduceLT, Int.reduceLE, Int.reduceNeg, Int.reduceAdd, Int.reduceSub, Int.reduceMul, Nat.reduceAdd, Nat.reduceLT, Nat.reduceLeDiff, Nat.reduceEqDiff, List.mem_cons, bindT, bindTs, Tg.slots, ownOk, wipeE, List.all_cons, List.all_nil, List.any_cons, List.any_nil, List.contains_eq_mem, List.not_mem_nil, List.length_cons, List.length_nil, List.set_cons_zero, List.set_cons_succ, List.cons_append, List.nil_append, Bool.not_true, Bool.not_false, Bool.and_true, Bool.true_and, Bool.and_false, Bool.false_and, Bool.or_true, Bool.true_or, Bool.or_false, Bool.false_or, Bool.and_self, Bool.or_self, Bool.and_eq_true, Bool.or_eq_true, Bool.not_eq_true', true_and, and_true, and_self, false_and, and_false, true_or, or_true, false_or, or_false, or_self, if_true, if_false, ite_true, ite_false, eq_self, Bool.false_eq_true, Option.map_some, Option.map_none, Option.bind_some, Option.some.injEq, decide_true, decide_false, decide_eq_true_eq, szOk_0, szOk_1, szOk_2, szOk_3, szOk_4, szOk_5, szOk_6, szOk_7, szOk_8, szOk_9, szOk_10, szOk_11, szOk_12, szOk_13, szOk_14, szOk_15, szOk_16, szOk_17, szOk_18, szOk_19, szOk_20, isScal_c0, isScal_c1, isScal_c2, isScal_c3, isScal_c4, isNonD_c0, b2_c0, b2_c1, b2_c2, b2_c3, b2_c4, b2_c5, b2_c6, b2_c7, b2_c8, b2_c9, b2_c10, b2_c11, b2_c12, b2_c13, b2_c14, b2_c15, b2_c16, c2_c0, c2_c1, c2_c2, c2_c3, c2_c4, c2_c5, c2_c6, c2_c7, ixS_c0, ixS_c1, ixS_c2, ixS_c3, slS_c0, slS_c1, slS_c2, slS_c3, f1S_c0, f1S_c1, f1S_c2, f1S_c3, f1S_c4, f1S_c5, f1S_c6, f1S_c7, f1S_c8, f1S_c9, f1S_c10, f1S_c11, f1S_c12, f1S_c13, f1S_c14, f1S_c15, f1S_c16, f2S_c0, f2S_c1, m1S_c0, m1S_c1, m1S_c2, m1S_c3, recvOk_c0, recvOk_c1, recvOk_c2, recvOk_c3, recvOk_c4, recvOk_c5, recvOk_c6, isOwnL_c0, mmS_c0, mmS_c1, mmS_c2, mmS_c3, itemsOf_c0, itemsOf_c1, itemsOf_c2, seqOf_c0, seqOf_c1, fd0, fd1, fd2, fd3, fd4, fd5, fd6, fd7, fd8, fd9, fd10, fd11, fd12, fd13, fd14, fd15, fd16, fd17, fd18, fd19, fd20, fd21, fd22, fd23, fd24, fd25, fd26, fd27, fd28, $[$es:term],*])
namespace K38
open PySem L2 PV
theorem cell_ok {k : Nat} (hk : 1 ≤ k) {ns : List Int} (hn : ns.length ≤ 63) {j : Int} (h0 : 0 ≤ j) {Q : D → Option D → Prop} {X : Nat → Prop} (q : ∀ c : Int, Q (.int c) none) : wr (run lw.tb 1000 k 2 [.scr ns, .int j]) Q X := by
  obtain ⟨k, rfl⟩ : ∃ k', k = k' + 1 := ⟨k - 1, by omega⟩
  rw [wr_runE fd2 rfl rfl rfl]
  show xB (Wk k []) bo2 [some (.scr ns), some (.int j)] _
  unfold bo2
  exists if_true
  by_cases h : j < ns.length
  · rw [decide_eq_true h]
    have e := atI_nat h0 h
    exists e
    exact q _
  · rw [decide_eq_false h]
    exists if_true
    exact q _
theorem cut_ab (ns : List Int) (a b : Nat) : ∃ cs : List Int, cutD (ns.map .int) (some (a : Int)) (some (b : Int)) = cs.map .int ∧ cs.length ≤ b - a := by
  refine ⟨(ns.drop (HT.sIx ns.length 0 (some (a : Int)))).take (HT.sIx ns.length ns.length (some (b : Int)) - HT.sIx ns.length 0 (some (a : Int))), ?_, ?_⟩
  · simp [cutD, List.map_take, List.map_drop]
  · simp only [HT.sIx_nat, List.length_take, List.length_drop]; omega
theorem cells_ok {k : Nat} (hk : 3 ≤ k) {ns : List Int} (hn : ns.length ≤ 63) {a m : Nat} (hm : m ≤ 20) (ha : a ≤ 20) {Q : D → Option D → Prop} {X : Nat → Prop} (q : ∀ cs : List Int, 2 ≤ cs.length → (cs.length ≤ 2 ∨ cs.length ≤ m) → Q (.lst true (cs.map .int)) none) : wr (run lw.tb 1000 k 4 [.scr ns, .int (a : Nat), .int (m : Nat)]) Q X := by
  obtain ⟨k, rfl⟩ : ∃ k', k = k' + 1 := ⟨k - 1, by omega⟩
  rw [wr_runE fd4 rfl rfl rfl]
  show xB (Wk k []) bo4 [some (.scr ns), some (.int (a : Nat)), some (.int (m : Nat)), none, none] _
  unfold bo4
  obtain ⟨cs, ec, hcl⟩ := cut_ab ns a (a + m)
  have e1 : ((a + m : Nat) : Int) = (a : Int) + (m : Int) := by omega
  rw [e1] at ec
  have hr : rngOk (2 - (cs.length : Int)) = true := by simp [rngOk]; omega
  have p1 : powOk 10 17 = true := by decide
  have m11 : ∀ i, mulOk 11 i = true := fun i => mulOk_l (by decide) (by decide)
  have hp : (0 : Int) < 10 ^ Int.toNat 17 := by decide
  exists ec, List.length_map, hr
  refine kFor_inv (fun i ρ => ∃ (ds : List Int) (v4 : Option D), ρ = [some (.scr ns), some (.int (a : Nat)), some (.int (m : Nat)), some (.lst true (ds.map .int)), v4] ∧ ds.length = cs.length + i) (by decide) ⟨cs, none, rfl, rfl⟩ ?_ ?_
  · rintro i x ρ hx ⟨ds, v4, rfl, hl⟩
    obtain ⟨hi, rfl⟩ := rngI_get hx
    have hz : szOk ((ds.map D.int).length + 1) = true := szOk_of (by simp; omega)
    have hz2 : szOk (ds.length + 1) = true := szOk_of (by omega)
    have hz3 : szOk (ds.length + (0 + 1)) = true := szOk_of (by omega)
    exists if_true
    refine xE_callp (fd := _) fd2 rfl ?_
    exists if_true
    refine cell_ok (k := k) (j := 0) (by omega) hn (by decide) fun c => ?_
    generalize hpp : (10 : Int) ^ Int.toNat 17 = p at hp
    exists p1, m11, hpp, hp, noOwnL_ints, List.length_map, hz, hz2, hz3
    refine ⟨ds ++ [c % p + 11 * (0 + (i : Nat)) + (a : Nat) + 1], some (.int (0 + (i : Nat))), by simp, by simp; omega⟩
  · rintro ρ ⟨ds, v4, rfl, hl⟩
    rw [rngI_len] at hl
    exists if_true
    exact q ds (by omega) (by omega)
end K38

end

section
open PySem L2 PV
open K38
local macro_rules
  | `(tactic| exists $es,*) => `(tactic| simp -implicitDefEqProofs only [xE_int, xE_str, xE_bl, xE_non, xE_fn, xE_glob, xE_var, xE_bin, xE_cmp, xE_isn, xE_not, xE_and, xE_or, xE_ife, xE_tup, xE_lst, xE_ix, xO_all, xOb_t, xOb_f, xE_slA, xE_chain, kCh1_ap, kCh2_ap, kCh3_f, kCh3_t, kCh4_ap, kXf_ap, xE_fr, xE_xis, kXis_ap, xOf_xc, noOwn_xc, xS_try1, kTry_ex, kTry_nx, kTry_rt, kTry_bk, kTry_ct, kTry2_t, kTry2_f, kUn_nx, kUn_rt, xSlot_s, xSlot_n, xFits_s, xFits_n, fits'_is, noXS_nil, noXS_s, noXS_n, noX_int, noX_str, noX_bl, noX_non, noX_scr, noX_tup, noX_lst, noX_dct, noXL_nil, noXL_cons, noXL_ints, noXL_strs, xE_dnw, xS_dput, kDp1_ap, kDp2_ap, kDp3_ap, isOwnD_d, xE_mmA, xE_vf, kVf_ap, xE_sset, kSset_ap, xE_trg, kTrg_i, trgD_t, trgD_f, xE_lc, unh_e, unh_rng1, unh_rng2, unh_enum, unh_zip, unh_hold, backS_nil, backS_cons, xE_rev, xE_f1, xE_f2, xE_isin, xE_m1, xE_neg, xL_nil, xL_cons, xA_nil, xA_cons, xP_nil, xP_cons, xT_e, xV_all, xVb_t, xVb_f, xVb_m, kMv_ap, kKeep_all, kKb_t, kKb_f, kFr0_s, kFr1_ap, kFr_ap, xF_e, xS_asg, xS_asgT, xS_aug, xS_setixA, xSb_t, xS_forA, xS_expr, xS_ret, xS_retn, xS_ife, xS_raise, xS_pass, xS_cont, xS_brk, xB_nil, xB_cons, xTst_all, xTb_t, xTb_f, xC1_s, xC2_v, xC2_t, xC2_a, isVar, xI_e, xI_rng1, xI_rng2, xI_enum, xI_zip, kSq_nx, kSq_rt, kSq_ex, kSq_bk, kSq_ct, kCond_t, kCond_f, kTurn_nx, kTurn_ct, kTurn_bk, kTurn_rt, kTurn_ex, kIf_t, kRet_ap, kB3_ap, kB2_ap, kB1_ap, kC4_ap, kC3_ap, kC2_ap, kC1_ap, kIsn_ap, kNot_ap, kBl_ap, kNo_ap, kTup_ap, kLst_ap, kX4_ap, kX3_ap, kX2_ap, kX1_ap, kSl3_ap, kSl2_ap, kSl1_ap, kF1_ap, kF22_ap, kF21_ap, kIsin_ap, kM2_ap, kM1_ap, kCons2_ap, kL1_ap, kA1_ap, kP2_ap, kP1_ap, kR_ap, kRX_ap, kCallp_ap, kRs_ap, kCallz_ap, kCalla_ap, kPut_ap, kRi_ap, kRXi_ap, kCi3_ap, kCi2_ap, kCi1_ap, kDrop_ap, kRt_ap, kCt2_ap, kCt1_ap, kAsg_ap, kAsgT_ap, kSet1_ap, kExpr_ap, kRtn_ap, kIt_ap, kItems_ap, kRng2_ap, kZip_ap, kFz_ap, hold_e, hold_rng1, hold_rng2, hold_enum, hold_zip, hold_hold, kAnd_t, kAnd_f, kOr_t, kOr_f, kIfe_t, kIfe_f, kO_i, kRev_l, kNeg_i, kTst_b, kAug_i, kAug1_i, kSet2_i, kSet3_l, kRng1_i, kRng22_i, kEnum_l, kZip2_l, kLcT_f, kLcT_t, kLcE_ap, fin_rt0, fin_nx0, fin_ex0, fin_rt1, fin_nx1, slot_0, slot_s, put_0, put_s, oS_some, wr_ok, PV.pure, pureEs, isMv, isNo, root, redo, B2.scal, F1.scal, M1.scal, fits, tcOf_non, tcOf_bool, tcOf_int, tcOf_str, tcOf_list, tcOf_tuple, isTC_bool_non, isTC_bool_bool, isTC_bool_int, isTC_bool_str, isTC_bool_list, isTC_bool_tuple, isTC_bool_dict, isTC_int_non, isTC_int_bool, isTC_int_int, isTC_int_str, isTC_int_list, isTC_int_tuple, isTC_int_dict, isTC_str_non, isTC_str_bool, isTC_str_int, isTC_str_str, isTC_str_list, isTC_str_tuple, isTC_str_dict, isTC_list_non, isTC_list_bool, isTC_list_int, isTC_list_str, isTC_list_list, isTC_list_tuple, isTC_list_dict, isTC_tuple_non, isTC_tuple_bool, isTC_tuple_int, isTC_tuple_str, isTC_tuple_list, isTC_tuple_tuple, isTC_tuple_dict, noOwn_tup, noOwn_lst, noOwn_int, noOwn_str, noOwn_bl, noOwn_non, noOwn_scr, noOwn_dct, noOwnL_nil, noOwnL_cons, canFz_tup, canFz_lst, canFz_int, canFz_str, canFz_bl, canFz_non, canFz_scr, canFzL_nil, canFzL_cons, fz_tup, fz_lst, fz_int, fz_str, fz_bl, fz_non, fz_scr, fzL_nil, fzL_cons, isTys, atI_0, atI_1, atI_2, atI_3, atI_4, ixN_0, ixN_1, ixN_2, eqD_int, Int.reduceLT, Int.reduceLE, Int.reduceNeg, Int.reduceAdd, Int.reduceSub, Int.reduceMul, Nat.reduceAdd, Nat.reduceLT, Nat.reduceLeDiff, Nat.reduceEqDiff, List.mem_cons, bindT, bindTs, Tg.slots, ownOk, wipeE, List.all_cons, List.all_nil, List.any_cons, List.any_nil, List.contains_eq_mem, List.not_mem_nil, List.length_cons, List.length_nil, List.set_cons_zero, List.set_cons_succ, List.cons_append, List.nil_append, Bool.not_true, Bool.not_false, Bool.and_true, Bool.true_and, Bool.and_false, Bool.false_and, Bool.or_true, Bool.true_or, Bool.or_false, Bool.false_or, Bool.and_self, Bool.or_self, Bool.and_eq_true, Bool.or_eq_true, Bool.not_eq_true', true_and, and_true, and_self, false_and, and_false, true_or, or_true, false_or, or_false, or_self, if_true, if_false, ite_true, ite_false, eq_self, Bool.false_eq_true, Option.map_some, Option.map_none, Option.bind_some, Option.some.injEq, decide_true, decide_false, decide_eq_true_eq, szOk_0, szOk_1, szOk_2, szOk_3, szOk_4, szOk_5, szOk_6, szOk_7, szOk_8, szOk_9, szOk_10, szOk_11, szOk_12, szOk_13, szOk_14, szOk_15, szOk_16, szOk_17, szOk_18, szOk_19, szOk_20, isScal_c0, isScal_c1, isScal_c2, isScal_c3, isScal_c4, isNonD_c0, b2_c0, b2_c1, b2_c2, b2_c3, b2_c4, b2_c5, b2_c6, b2_c7, b2_c8, b2_c9, b2_c10, b2_c11, b2_c12, b2_c13, b2_c14, b2_c15, b2_c16, c2_c0, c2_c1, c2_c2, c2_c3, c2_c4, c2_c5, c2_c6, c2_c7, ixS_c0, ixS_c1, ixS_c2, ixS_c3, slS_c0, slS_c1, slS_c2, slS_c3, f1S_c0, f1S_c1, f1S_c2, f1S_c3, f1S_c4, f1S_c5, f1S_c6, f1S_c7, f1S_c8, f1S_c9, f1S_c10, f1S_c11, f1S_c12, f1S_c13, f1S_c14, f1S_c15, f1S_c16, f2S_c0, f2S_c1, m1S_c0, m1S_c1, m1S_c2, m1S_c3, recvOk_c0, recvOk_c1, recvOk_c2, recvOk_c3, recvOk_c4, recvOk_c5, recvOk_c6, isOwnL_c0, mmS_c0, mmS_c1, mmS_c2, mmS_c3, itemsOf_c0, itemsOf_c1, itemsOf_c2, seqOf_c0, seqOf_c1, fd0, fd1, fd2, fd3, fd4, fd5, fd6, fd7, fd8, fd9, fd10, fd11, fd12, fd13, fd14, fd15, fd16, fd17, fd18, fd19, fd20, fd21, fd22, fd23, fd24, fd25, fd26, fd27, fd28, $[$es:term],*])
namespace K38
open PySem L2 PV
theorem enums {α : Type} {f : α → D} : ∀ {us : List α} {k i : Nat} {x : D}, (enumI k (us.map f))[i]? = some x → ∃ u, us[i]? = some u ∧ x = .tup [.int ((k + i : Nat) : Int), f u]
  | [], k, i, x, h => by simp [enumI] at h
  | y :: ys, k, 0, x, h => by
    simp [enumI] at h
    exact ⟨y, rfl, by rw [← h]; rfl⟩
  | y :: ys, k, i + 1, x, h => by
    simp [enumI] at h
    obtain ⟨s, h1, h2⟩ := enums (k := k + 1) h
    exact ⟨s, by simpa using h1, by rw [h2]; congr 3; omega⟩
theorem enum_len : ∀ {xs : List D} {k : Nat}, (enumI k xs).length = xs.length
  | [], _ => rfl
  | x :: xs, k => by simp [enumI, enum_len (xs := xs)]
end K38

end

section
open PySem L2 PV
open K38
local macro_rules
  | `(tactic| exists $es,*) => `(tactic| simp -implicitDefEqProofs only [xE_int, xE_str, xE_bl, xE_non, xE_fn, xE_glob, xE_var, xE_bin, xE_cmp, xE_isn, xE_not, xE_and, xE_or, xE_ife, xE_tup, xE_lst, xE_ix, xO_all, xOb_t, xOb_f, xE_slA, xE_chain, kCh1_ap, kCh2_ap, kCh3_f, kCh3_t, kCh4_ap, kXf_ap, xE_fr, xE_xis, kXis_ap, xOf_xc, noOwn_xc, xS_try1, kTry_ex, kTry_nx, kTry_rt, kTry_bk, kTry_ct, kTry2_t, kTry2_f, kUn_nx, kUn_rt, xSlot_s, xSlot_n, xFits_s, xFits_n, fits'_is, noXS_nil, noXS_s, noXS_n, noX_int, noX_str, noX_bl, noX_non, noX_scr, noX_tup, noX_lst, noX_dct, noXL_nil, noXL_cons, noXL_ints, noXL_strs, xE_dnw, xS_dput, kDp1_ap, kDp2_ap, kDp3_ap, isOwnD_d, xE_mmA, xE_vf, kVf_ap, xE_sset, kSset_ap, xE_trg, kTrg_i, trgD_t, trgD_f, xE_lc, unh_e, unh_rng1, unh_rng2, unh_enum, unh_zip, unh_hold, backS_nil, backS_cons, xE_rev, xE_f1, xE_f2, xE_isin, xE_m1, xE_neg, xL_nil, xL_cons, xA_nil, xA_cons, xP_nil, xP_cons, xT_e, xV_all, xVb_t, xVb_f, xVb_m, kMv_ap, kKeep_all, kKb_t, kKb_f, kFr0_s, kFr1_ap, kFr_ap, xF_e, xS_asg, xS_asgT, xS_aug, xS_setixA, xSb_t, xS_forA, xS_expr, xS_ret, xS_retn, xS_ife, xS_raise, xS_pass, xS_cont, xS_brk, xB_nil, xB_cons, xTst_all, xTb_t, xTb_f, xC1_s, xC2_v, xC2_t, xC2_a, isVar, xI_e, xI_rng1, xI_rng2, xI_enum, xI_zip, kSq_nx, kSq_rt, kSq_ex, kSq_bk, kSq_ct, kCond_t, kCond_f, kTurn_nx, kTurn_ct, kTurn_bk, kTurn_rt, kTurn_ex, kIf_t, kRet_ap, kB3_ap, kB2_ap, kB1_ap, kC4_ap, kC3_ap, kC2_ap, kC1_ap, kIsn_ap, kNot_ap, kBl_ap, kNo_ap, kTup_ap, kLst_ap, kX4_ap, kX3_ap, kX2_ap, kX1_ap, kSl3_ap, kSl2_ap, kSl1_ap, kF1_ap, kF22_ap, kF21_ap, kIsin_ap, kM2_ap, kM1_ap, kCons2_ap, kL1_ap, kA1_ap, kP2_ap, kP1_ap, kR_ap, kRX_ap, kCallp_ap, kRs_ap, kCallz_ap, kCalla_ap, kPut_ap, kRi_ap, kRXi_ap, kCi3_ap, kCi2_ap, kCi1_ap, kDrop_ap, kRt_ap, kCt2_ap, kCt1_ap, kAsg_ap, kAsgT_ap, kSet1_ap, kExpr_ap, kRtn_ap, kIt_ap, kItems_ap, kRng2_ap, kZip_ap, kFz_ap, hold_e, hold_rng1, hold_rng2, hold_enum, hold_zip, hold_hold, kAnd_t, kAnd_f, kOr_t, kOr_f, kIfe_t, kIfe_f, kO_i, kRev_l, kNeg_i, kTst_b, kAug_i, kAug1_i, kSet2_i, kSet3_l, kRng1_i, kRng22_i, kEnum_l, kZip2_l, kLcT_f, kLcT_t, kLcE_ap, fin_rt0, fin_nx0, fin_ex0, fin_rt1, fin_nx1, slot_0, slot_s, put_0, put_s, oS_some, wr_ok, PV.pure, pureEs, isMv, isNo, root, redo, B2.scal, F1.scal, M1.scal, fits, tcOf_non, tcOf_bool, tcOf_int, tcOf_str, tcOf_list, tcOf_tuple, isTC_bool_non, isTC_bool_bool, isTC_bool_int, isTC_bool_str, isTC_bool_list, isTC_bool_tuple, isTC_bool_dict, isTC_int_non, isTC_int_bool, isTC_int_int, isTC_int_str, isTC_int_list, isTC_int_tuple, isTC_int_dict, isTC_str_non, isTC_str_bool, isTC_str_int, isTC_str_str, isTC_str_list, isTC_str_tuple, isTC_str_dict, isTC_list_non, isTC_list_bool, isTC_list_int, isTC_list_str, isTC_list_list, isTC_list_tuple, isTC_list_dict, isTC_tuple_non, isTC_tuple_bool, isTC_tuple_int, isTC_tuple_str, isTC_tuple_list, isTC_tuple_tuple, isTC_tuple_dict, noOwn_tup, noOwn_lst, noOwn_int, noOwn_str, noOwn_bl, noOwn_non, noOwn_scr, noOwn_dct, noOwnL_nil, noOwnL_cons, canFz_tup, canFz_lst, canFz_int, canFz_str, canFz_bl, canFz_non, canFz_scr, canFzL_nil, canFzL_cons, fz_tup, fz_lst, fz_int, fz_str, fz_bl, fz_non, fz_scr, fzL_nil, fzL_cons, isTys, atI_0, atI_1, atI_2, atI_3, atI_4, ixN_0, ixN_1, ixN_2, eqD_int, Int.reduceLT, Int.reduceLE, Int.reduceNeg, Int.reduceAdd, Int.reduceSub, Int.reduceMul, Nat.reduceAdd, Nat.reduceLT, Nat.reduceLeDiff, Nat.reduceEqDiff, List.mem_cons, bindT, bindTs, Tg.slots, ownOk, wipeE, List.all_cons, List.all_nil, List.any_cons, List.any_nil, List.contains_eq_mem, List.not_mem_nil, List.length_cons, List.length_nil, List.set_cons_zero, List.set_cons_succ, List.cons_append, List.nil_append, Bool.not_true, Bool.not_false, Bool.and_true, Bool.true_and, Bool.and_false, Bool.false_and, Bool.or_true, Bool.true_or, Bool.or_false, Bool.false_or, Bool.and_self, Bool.or_self, Bool.and_eq_true, Bool.or_eq_true, Bool.not_eq_true', true_and, and_true, and_self, false_and, and_false, true_or, or_true, false_or, or_false, or_self, if_true, if_false, ite_true, ite_false, eq_self, Bool.false_eq_true, Option.map_some, Option.map_none, Option.bind_some, Option.some.injEq, decide_true, decide_false, decide_eq_true_eq, szOk_0, szOk_1, szOk_2, szOk_3, szOk_4, szOk_5, szOk_6, szOk_7, szOk_8, szOk_9, szOk_10, szOk_11, szOk_12, szOk_13, szOk_14, szOk_15, szOk_16, szOk_17, szOk_18, szOk_19, szOk_20, isScal_c0, isScal_c1, isScal_c2, isScal_c3, isScal_c4, isNonD_c0, b2_c0, b2_c1, b2_c2, b2_c3, b2_c4, b2_c5, b2_c6, b2_c7, b2_c8, b2_c9, b2_c10, b2_c11, b2_c12, b2_c13, b2_c14, b2_c15, b2_c16, c2_c0, c2_c1, c2_c2, c2_c3, c2_c4, c2_c5, c2_c6, c2_c7, ixS_c0, ixS_c1, ixS_c2, ixS_c3, slS_c0, slS_c1, slS_c2, slS_c3, f1S_c0, f1S_c1, f1S_c2, f1S_c3, f1S_c4, f1S_c5, f1S_c6, f1S_c7, f1S_c8, f1S_c9, f1S_c10, f1S_c11, f1S_c12, f1S_c13, f1S_c14, f1S_c15, f1S_c16, f2S_c0, f2S_c1, m1S_c0, m1S_c1, m1S_c2, m1S_c3, recvOk_c0, recvOk_c1, recvOk_c2, recvOk_c3, recvOk_c4, recvOk_c5, recvOk_c6, isOwnL_c0, mmS_c0, mmS_c1, mmS_c2, mmS_c3, itemsOf_c0, itemsOf_c1, itemsOf_c2, seqOf_c0, seqOf_c1, fd0, fd1, fd2, fd3, fd4, fd5, fd6, fd7, fd8, fd9, fd10, fd11, fd12, fd13, fd14, fd15, fd16, fd17, fd18, fd19, fd20, fd21, fd22, fd23, fd24, fd25, fd26, fd27, fd28, $[$es:term],*])
namespace K38
open PySem L2 PV
theorem usI_len : ∀ ns : List Int, (usI ns).length ≤ ns.length
  | [] => by simp [usI]
  | x :: xs => by
    have h := usI_len xs
    have g : ∀ (x : Int) (ys : List Int), (insU x ys).length ≤ ys.length + 1 := by
      intro x ys
      induction ys with
      | nil => simp [insU]
      | cons y ys ih =>
        simp only [insU]
        split
        · simp
        · split <;> simp <;> omega
    have := g x (usI xs)
    simp only [usI, List.length_cons]
    omega
theorem rng_ints (lo : Int) (n : Nat) : rngI lo n = ((List.range n).map fun i => lo + (i : Nat)).map .int := by
  rw [List.map_map]; rfl
theorem all_crowd {m : Int} (hm : 0 < m) : Crowd m ((List.range m.toNat).map fun i => 0 + ((i : Nat) : Int)) := by
  refine ⟨?_, ?_, ?_⟩
  · intro e
    have := congrArg List.length e
    simp at this
    omega
  · intro w hw
    simp only [List.mem_map, List.mem_range] at hw
    obtain ⟨i, hi, rfl⟩ := hw
    omega
  · rw [List.pairwise_map]
    exact List.Pairwise.imp (R := fun a b : Nat => a < b) (fun h => by omega) List.pairwise_lt_range
end K38

end

section
open PySem L2 PV
open K38
local macro_rules
  | `(tactic| exists $es,*) => `(tactic| simp -implicitDefEqProofs only [xE_int, xE_str, xE_bl, xE_non, xE_fn, xE_glob, xE_var, xE_bin, xE_cmp, xE_isn, xE_not, xE_and, xE_or, xE_ife, xE_tup, xE_lst, xE_ix, xO_all, xOb_t, xOb_f, xE_slA, xE_chain, kCh1_ap, kCh2_ap, kCh3_f, kCh3_t, kCh4_ap, kXf_ap, xE_fr, xE_xis, kXis_ap, xOf_xc, noOwn_xc, xS_try1, kTry_ex, kTry_nx, kTry_rt, kTry_bk, kTry_ct, kTry2_t, kTry2_f, kUn_nx, kUn_rt, xSlot_s, xSlot_n, xFits_s, xFits_n, fits'_is, noXS_nil, noXS_s, noXS_n, noX_int, noX_str, noX_bl, noX_non, noX_scr, noX_tup, noX_lst, noX_dct, noXL_nil, noXL_cons, noXL_ints, noXL_strs, xE_dnw, xS_dput, kDp1_ap, kDp2_ap, kDp3_ap, isOwnD_d, xE_mmA, xE_vf, kVf_ap, xE_sset, kSset_ap, xE_trg, kTrg_i, trgD_t, trgD_f, xE_lc, unh_e, unh_rng1, unh_rng2, unh_enum, unh_zip, unh_hold, backS_nil, backS_cons, xE_rev, xE_f1, xE_f2, xE_isin, xE_m1, xE_neg, xL_nil, xL_cons, xA_nil, xA_cons, xP_nil, xP_cons, xT_e, xV_all, xVb_t, xVb_f, xVb_m, kMv_ap, kKeep_all, kKb_t, kKb_f, kFr0_s, kFr1_ap, kFr_ap, xF_e, xS_asg, xS_asgT, xS_aug, xS_setixA, xSb_t, xS_forA, xS_expr, xS_ret, xS_retn, xS_ife, xS_raise, xS_pass, xS_cont, xS_brk, xB_nil, xB_cons, xTst_all, xTb_t, xTb_f, xC1_s, xC2_v, xC2_t, xC2_a, isVar, xI_e, xI_rng1, xI_rng2, xI_enum, xI_zip, kSq_nx, kSq_rt, kSq_ex, kSq_bk, kSq_ct, kCond_t, kCond_f, kTurn_nx, kTurn_ct, kTurn_bk, kTurn_rt, kTurn_ex, kIf_t, kRet_ap, kB3_ap, kB2_ap, kB1_ap, kC4_ap, kC3_ap, kC2_ap, kC1_ap, kIsn_ap, kNot_ap, kBl_ap, kNo_ap, kTup_ap, kLst_ap, kX4_ap, kX3_ap, kX2_ap, kX1_ap, kSl3_ap, kSl2_ap, kSl1_ap, kF1_ap, kF22_ap, kF21_ap, kIsin_ap, kM2_ap, kM1_ap, kCons2_ap, kL1_ap, kA1_ap, kP2_ap, kP1_ap, kR_ap, kRX_ap, kCallp_ap, kRs_ap, kCallz_ap, kCalla_ap, kPut_ap, kRi_ap, kRXi_ap, kCi3_ap, kCi2_ap, kCi1_ap, kDrop_ap, kRt_ap, kCt2_ap, kCt1_ap, kAsg_ap, kAsgT_ap, kSet1_ap, kExpr_ap, kRtn_ap, kIt_ap, kItems_ap, kRng2_ap, kZip_ap, kFz_ap, hold_e, hold_rng1, hold_rng2, hold_enum, hold_zip, hold_hold, kAnd_t, kAnd_f, kOr_t, kOr_f, kIfe_t, kIfe_f, kO_i, kRev_l, kNeg_i, kTst_b, kAug_i, kAug1_i, kSet2_i, kSet3_l, kRng1_i, kRng22_i, kEnum_l, kZip2_l, kLcT_f, kLcT_t, kLcE_ap, fin_rt0, fin_nx0, fin_ex0, fin_rt1, fin_nx1, slot_0, slot_s, put_0, put_s, oS_some, wr_ok, PV.pure, pureEs, isMv, isNo, root, redo, B2.scal, F1.scal, M1.scal, fits, tcOf_non, tcOf_bool, tcOf_int, tcOf_str, tcOf_list, tcOf_tuple, isTC_bool_non, isTC_bool_bool, isTC_bool_int, isTC_bool_str, isTC_bool_list, isTC_bool_tuple, isTC_bool_dict, isTC_int_non, isTC_int_bool, isTC_int_int, isTC_int_str, isTC_int_list, isTC_int_tuple, isTC_int_dict, isTC_str_non, isTC_str_bool, isTC_str_int, isTC_str_str, isTC_str_list, isTC_str_tuple, isTC_str_dict, isTC_list_non, isTC_list_bool, isTC_list_int, isTC_list_str, isTC_list_list, isTC_list_tuple, isTC_list_dict, isTC_tuple_non, isTC_tuple_bool, isTC_tuple_int, isTC_tuple_str, isTC_tuple_list, isTC_tuple_tuple, isTC_tuple_dict, noOwn_tup, noOwn_lst, noOwn_int, noOwn_str, noOwn_bl, noOwn_non, noOwn_scr, noOwn_dct, noOwnL_nil, noOwnL_cons, canFz_tup, canFz_lst, canFz_int, canFz_str, canFz_bl, canFz_non, canFz_scr, canFzL_nil, canFzL_cons, fz_tup, fz_lst, fz_int, fz_str, fz_bl, fz_non, fz_scr, fzL_nil, fzL_cons, isTys, atI_0, atI_1, atI_2, atI_3, atI_4, ixN_0, ixN_1, ixN_2, eqD_int, Int.reduceLT, Int.reduceLE, Int.reduceNeg, Int.reduceAdd, Int.reduceSub, Int.reduceMul, Nat.reduceAdd, Nat.reduceLT, Nat.reduceLeDiff, Nat.reduceEqDiff, List.mem_cons, bindT, bindTs, Tg.slots, ownOk, wipeE, List.all_cons, List.all_nil, List.any_cons, List.any_nil, List.contains_eq_mem, List.not_mem_nil, List.length_cons, List.length_nil, List.set_cons_zero, List.set_cons_succ, List.cons_append, List.nil_append, Bool.not_true, Bool.not_false, Bool.and_true, Bool.true_and, Bool.and_false, Bool.false_and, Bool.or_true, Bool.true_or, Bool.or_false, Bool.false_or, Bool.and_self, Bool.or_self, Bool.and_eq_true, Bool.or_eq_true, Bool.not_eq_true', true_and, and_true, and_self, false_and, and_false, true_or, or_true, false_or, or_false, or_self, if_true, if_false, ite_true, ite_false, eq_self, Bool.false_eq_true, Option.map_some, Option.map_none, Option.bind_some, Option.some.injEq, decide_true, decide_false, decide_eq_true_eq, szOk_0, szOk_1, szOk_2, szOk_3, szOk_4, szOk_5, szOk_6, szOk_7, szOk_8, szOk_9, szOk_10, szOk_11, szOk_12, szOk_13, szOk_14, szOk_15, szOk_16, szOk_17, szOk_18, szOk_19, szOk_20, isScal_c0, isScal_c1, isScal_c2, isScal_c3, isScal_c4, isNonD_c0, b2_c0, b2_c1, b2_c2, b2_c3, b2_c4, b2_c5, b2_c6, b2_c7, b2_c8, b2_c9, b2_c10, b2_c11, b2_c12, b2_c13, b2_c14, b2_c15, b2_c16, c2_c0, c2_c1, c2_c2, c2_c3, c2_c4, c2_c5, c2_c6, c2_c7, ixS_c0, ixS_c1, ixS_c2, ixS_c3, slS_c0, slS_c1, slS_c2, slS_c3, f1S_c0, f1S_c1, f1S_c2, f1S_c3, f1S_c4, f1S_c5, f1S_c6, f1S_c7, f1S_c8, f1S_c9, f1S_c10, f1S_c11, f1S_c12, f1S_c13, f1S_c14, f1S_c15, f1S_c16, f2S_c0, f2S_c1, m1S_c0, m1S_c1, m1S_c2, m1S_c3, recvOk_c0, recvOk_c1, recvOk_c2, recvOk_c3, recvOk_c4, recvOk_c5, recvOk_c6, isOwnL_c0, mmS_c0, mmS_c1, mmS_c2, mmS_c3, itemsOf_c0, itemsOf_c1, itemsOf_c2, seqOf_c0, seqOf_c1, fd0, fd1, fd2, fd3, fd4, fd5, fd6, fd7, fd8, fd9, fd10, fd11, fd12, fd13, fd14, fd15, fd16, fd17, fd18, fd19, fd20, fd21, fd22, fd23, fd24, fd25, fd26, fd27, fd28, $[$es:term],*])
namespace K38
open PySem L2 PV
/-! ### what a deed changes -/
def chgS (fs : List Str) (w f : Int) (c : Ch) : Int := if c.1.tru fs w = true then (let g := Builtin.bitOr f (2 ^ plc c.2.1 fs); if c.2.2 = true then g else Builtin.bitXor g (2 ^ plc c.2.1 fs)) else f
def chg (fs : List Str) (w : Int) (y : List Ch) : Int := y.foldl (chgS fs w) w
theorem bit_bd {n i : Nat} (hi : i < n) {f : Int} (h : 0 ≤ f ∧ f < 2 ^ n) : (0 ≤ Builtin.bitOr f (2 ^ i) ∧ Builtin.bitOr f (2 ^ i) < 2 ^ n) ∧ (0 ≤ Builtin.bitXor f (2 ^ i) ∧ Builtin.bitXor f (2 ^ i) < 2 ^ n) := by
  have e1 : ((2 ^ i : Nat) : Int) = (2 : Int) ^ i := by simp
  have e2 : ((2 ^ n : Nat) : Int) = (2 : Int) ^ n := by simp
  have hp : (0 : Int) ≤ 2 ^ i := by have : 0 < 2 ^ i := Nat.two_pow_pos _; omega
  have hlt : 2 ^ i < 2 ^ n := Nat.pow_lt_pow_right (by omega) hi
  have hf : f.toNat < 2 ^ n := by omega
  have ht : ((2 : Int) ^ i).toNat = 2 ^ i := by omega
  rw [Bits.bitOr_pp h.1 hp, Bits.bitXor_pp h.1 hp, ht]
  have o := Nat.or_lt_two_pow hf hlt
  have x := Nat.xor_lt_two_pow hf hlt
  omega
theorem chg_bd {fs : List Str} {w : Int} (hw : 0 ≤ w ∧ w < 2 ^ fs.length) : ∀ (y : List Ch), (∀ c ∈ y, c.2.1 ∈ fs) → ∀ f : Int, 0 ≤ f ∧ f < 2 ^ fs.length → 0 ≤ y.foldl (chgS fs w) f ∧ y.foldl (chgS fs w) f < 2 ^ fs.length
  | [], _, f, h => h
  | c :: y, hc, f, h => by
    rw [List.foldl_cons]
    refine chg_bd hw y (fun c h => hc c (by simp [h])) _ ?_
    have hi := plc_lt (hc c (by simp))
    have h1 := bit_bd hi h
    have h2 := bit_bd hi h1.1
    unfold chgS
    split
    · simp only []
      split
      · exact h1.1
      · exact h2.2
    · exact h
section
variable {fs : List Str} {ds : List Dd} {ls : List Lk} {ws : List Int} {wish : Cd}
theorem changed_ok {k : Nat} (hk : 27 ≤ k) (hh : Hs fs ds ls ws wish) {y : List Ch} (hy : y.length ≤ 8 ∧ ∀ c ∈ y, Chg fs c) {w : Int} {Q : D → Option D → Prop} {X : Nat → Prop} (q : Q (.int (chg fs w y)) none) : wr (run lw.tb 1000 k 23 [hsF fs ds ls ws wish, wyD false y, .int w]) Q X := by
  obtain ⟨k, rfl⟩ : ∃ k', k = k' + 1 := ⟨k - 1, by omega⟩
  rw [wr_runE fd23 rfl rfl rfl]
  show xB (Wk k []) bo23 [some (hsF fs ds ls ws wish), some (.lst false (y.map chD)), some (.int w), none, none, none, none, none, none] _
  unfold bo23
  have yno := chs_no y
  have ycz := noOwnL_canFz yno
  have yfz := fzL_id yno
  exists at0, at1, at2, at3, at4, fF, hsF_no, hsF_cz, hsF_fz, no_fD, cz_fD, fz_fD, len_fD, noOwnL_ints, ints_cz, ints_fz, noOwnL_str, strs_cz, strs_fz, yno, ycz, yfz
  refine kFor_inv (fun i ρ => ∃ v5 v6 v7 v8, ρ = [some (hsF fs ds ls ws wish), some (.lst false (y.map chD)), some (.int w), some (fD fs), some (.int ((y.take i).foldl (chgS fs w) w)), v5, v6, v7, v8]) (by decide) ⟨none, none, none, none, rfl⟩ ?_ ?_
  · rintro i x ρ hx ⟨v5, v6, v7, v8, rfl⟩
    obtain ⟨c, hc, rfl⟩ : ∃ c, y[i]? = some c ∧ chD c = x := by
      simp only [List.getElem?_map, Option.map_eq_some_iff] at hx
      exact hx
    have hC := hy.2 c (List.mem_of_getElem? hc)
    have cn := cd_no c.1
    have hb : bindT (.tup [5, 6, 7]) (chD c) [some (hsF fs ds ls ws wish), some (.lst false (y.map chD)), some (.int w), some (fD fs), some (.int ((y.take i).foldl (chgS fs w) w)), v5, v6, v7, v8] = some [some (hsF fs ds ls ws wish), some (.lst false (y.map chD)), some (.int w), some (fD fs), some (.int ((y.take i).foldl (chgS fs w) w)), some c.1.toD, some (.str c.2.1), some (.bl c.2.2), v8] := by
      have h := chD_no c
      rw [chD, noOwn_tup] at h
      simp only [chD, bindT, seqOf, h, if_true]
      rfl
    rw [hb, oS_some]
    have et : (y.take (i + 1)).foldl (chgS fs w) w = chgS fs w ((y.take i).foldl (chgS fs w) w) c := by
      rw [List.take_succ, hc, List.foldl_append]; rfl
    generalize (y.take i).foldl (chgS fs w) w = f at et ⊢
    have e3 := index_fD hh.ff hC.fact
    have e4 : recvOk .index (fD fs) = true := rfl
    have hlt := plc_lt hC.fact
    have hfew := hh.ff.few
    have e5 : powOk 1 (plc c.2.1 fs : Nat) = true := by simp [powOk]; omega
    have e6 : (((plc c.2.1 fs : Nat) : Int)).toNat = plc c.2.1 fs := by omega
    have e7 : (1 : Int) * 2 ^ plc c.2.1 fs = 2 ^ plc c.2.1 fs := by omega
    exists if_true
    refine xE_callp (fd := _) fd17 rfl ?_
    exists at0, at1, at2, at3, at4, fF, hsF_no, hsF_cz, hsF_fz, no_fD, cz_fD, fz_fD, len_fD, noOwnL_ints, ints_cz, ints_fz, noOwnL_str, strs_cz, strs_fz, cn
    refine holds_ok hh.ff c.1 hC.over (k := k) (by have := hC.deep; omega) ?_
    simp only [chgS] at et
    cases h1 : c.1.tru fs w with
    | false =>
      rw [h1, if_neg (by simp)] at et
      exists if_true
      exact ⟨_, _, _, _, by rw [et]⟩
    | true =>
      rw [h1, if_pos rfl] at et
      exists e3, e4, e5, e6, e7, no_fD
      cases h2 : c.2.2 with
      | true =>
        rw [h2, if_pos rfl] at et
        exists if_true
        exact ⟨_, _, _, _, by rw [et]⟩
      | false =>
        rw [h2, if_neg (by simp)] at et
        exists if_true
        exact ⟨_, _, _, _, by rw [et]⟩
  · rintro ρ ⟨v5, v6, v7, v8, rfl⟩
    rw [List.length_map, List.take_length]
    exists if_true
    exact q
/-- the worlds behind, in a row as they come -/
def behL (fs : List Str) (ys : List (List Ch)) (ns : List Int) : List Int := ns.flatMap fun w => ys.map (chg fs w)
/-- .. rising, each once -/
def beh (fs : List Str) (ys : List (List Ch)) (ns : List Int) : List Int := usI (behL fs ys ns)
theorem beh_mem {ys : List (List Ch)} {ns : List Int} {x : Int} : x ∈ beh fs ys ns ↔ ∃ w ∈ ns, ∃ y ∈ ys, chg fs w y = x := by
  simp only [beh, mem_usI, behL, List.mem_flatMap, List.mem_map]
theorem sort_us {ms ns : List Int} (hd : ms.Nodup) (h : ∀ x, x ∈ ms ↔ x ∈ ns) : sortI ms = usI ns := by
  have p := sortI_perm ms
  refine up_uniq ?_ (up_usI ns) fun k => by rw [p.mem_iff, h, mem_usI]
  have h2 : (sortI ms).Nodup := p.nodup_iff.mpr hd
  exact ((sortI_le ms).and h2).imp fun h => by have := h.1; have := h.2; omega
theorem insD_len {x : Int} {ms : List Int} : (insD x ms).length ≤ ms.length + 1 := by
  unfold insD
  split <;> simp
theorem all_behind_ok {k : Nat} (hk : 29 ≤ k) (hh : Hs fs ds ls ws wish) {d : Dd} (hd : Deed fs d) {ns : List Int} (hl : ns.length ≤ 2000) {Q : D → Option D → Prop} {X : Nat → Prop} (q : Q (.tup ((beh fs d.2.2 ns).map .int)) none) : wr (run lw.tb 1000 k 16 [hsF fs ds ls ws wish, ddD false d, .tup (ns.map .int)]) Q X := by
  obtain ⟨k, rfl⟩ : ∃ k', k = k' + 1 := ⟨k - 1, by omega⟩
  rw [wr_runE fd16 rfl rfl rfl]
  show xB (Wk k []) bo16 [some (hsF fs ds ls ws wish), some (ddD false d), some (.tup (ns.map .int)), none, none, none] _
  unfold bo16
  have hn := ddF_no d
  have e2 : ∀ kt, ixS kt (ddD false d) (.int 2) = some (.lst false (d.2.2.map (wyD false))) := fun _ => rfl
  have wno := wysF_no d.2.2
  have wcz := noOwnL_canFz wno
  have wfz := fzL_id wno
  have hfew := hd.few
  exists at0, at1, at2, at3, at4, fF, hsF_no, hsF_cz, hsF_fz, no_fD, cz_fD, fz_fD, len_fD, noOwnL_ints, ints_cz, ints_fz, noOwnL_str, strs_cz, strs_fz
  refine kFor_inv (fun i ρ => ∃ (ms : List Int) (vs : List D) (v4 v5 : Option D), ρ = [some (hsF fs ds ls ws wish), some (ddD false d), some (.tup (ns.map .int)), some (.dct true false (ms.map .int) vs), v4, v5] ∧ ms.Nodup ∧ ms.length ≤ 8 * i ∧ ∀ x, x ∈ ms ↔ x ∈ behL fs d.2.2 (ns.take i)) (by decide) ⟨[], [], none, none, rfl, by simp, by simp, by simp [behL]⟩ ?_ ?_
  · rintro i x ρ hx ⟨ms, vs, v4, v5, rfl, hnd, hml, hms⟩
    obtain ⟨w, hw, rfl⟩ : ∃ w, ns[i]? = some w ∧ D.int w = x := by
      simp only [List.getElem?_map, Option.map_eq_some_iff] at hx
      exact hx
    have hi : i < ns.length := (List.getElem?_eq_some_iff.mp hw).1
    exists e2, hn, wno, wcz, wfz
    refine kFor_inv (fun j ρ => ∃ (ms : List Int) (vs : List D) (v5 : Option D), ρ = [some (hsF fs ds ls ws wish), some (ddD false d), some (.tup (ns.map .int)), some (.dct true false (ms.map .int) vs), some (.int w), v5] ∧ ms.Nodup ∧ ms.length ≤ 8 * i + j ∧ ∀ x, x ∈ ms ↔ x ∈ behL fs d.2.2 (ns.take i) ∨ x ∈ (d.2.2.take j).map (chg fs w)) (by decide) ⟨ms, vs, v5, rfl, hnd, by omega, by simpa using hms⟩ ?_ ?_
    · rintro j y ρ hy ⟨ms, vs, v5, rfl, hnd, hml, hms⟩
      obtain ⟨y, hyj, rfl⟩ : ∃ c, d.2.2[j]? = some c ∧ wyD false c = y := by
        simp only [List.getElem?_map, Option.map_eq_some_iff] at hy
        exact hy
      clear hy
      have hy := hyj
      have hj : j < d.2.2.length := (List.getElem?_eq_some_iff.mp hy).1
      have yn := wyF_no y
      exists if_true
      refine xE_callp (fd := _) fd23 rfl ?_
      exists at0, at1, at2, at3, at4, fF, hsF_no, hsF_cz, hsF_fz, no_fD, cz_fD, fz_fD, len_fD, noOwnL_ints, ints_cz, ints_fz, noOwnL_str, strs_cz, strs_fz, yn
      refine changed_ok (k := k) (by omega) hh (hd.way y (List.mem_of_getElem? hy)) ?_
      obtain ⟨vs', ep⟩ := putS_int (ms := ms) (vs := vs) (x := chg fs w y) (d := .bl true) (by omega)
      exists ep
      refine ⟨insD (chg fs w y) ms, vs', _, rfl, insD_nd hnd, by have := insD_len (x := chg fs w y) (ms := ms); omega, fun x => ?_⟩
      rw [insD_mem, hms, List.take_succ, hy, List.map_append, List.mem_append]
      simp only [Option.toList, List.map_cons, List.map_nil, List.mem_singleton]
      constructor
      · rintro (rfl | h | h)
        · exact .inr (.inr rfl)
        · exact .inl h
        · exact .inr (.inl h)
      · rintro (h | h | rfl)
        · exact .inr (.inl h)
        · exact .inr (.inr h)
        · exact .inl rfl
    · rintro ρ ⟨ms, vs, v5, rfl, hnd, hml, hms⟩
      rw [List.length_map] at hml hms
      exists if_true
      refine ⟨ms, vs, _, _, rfl, hnd, by omega, fun x => ?_⟩
      rw [hms, List.take_length, List.take_succ, hw]
      simp only [behL, List.flatMap_append, Option.toList, List.flatMap_cons, List.flatMap_nil, List.append_nil, List.mem_append]
  · rintro ρ ⟨ms, vs, v4, v5, rfl, hnd, hml, hms⟩
    rw [List.length_map, List.take_length] at hms
    exists sorted_d, noOwnL_ints, sort_us hnd hms
    exact q
theorem beh_crowd {d : Dd} (hd : Deed fs d) {ns : List Int} (hc : Crowd (2 ^ fs.length) ns) : Crowd (2 ^ fs.length) (beh fs d.2.2 ns) := by
  refine ⟨?_, fun x hx => ?_, up_usI _⟩
  · obtain ⟨y, hy⟩ := List.exists_mem_of_ne_nil _ (List.ne_nil_of_length_pos hd.pos)
    obtain ⟨w, hw⟩ := List.exists_mem_of_ne_nil _ hc.ne
    exact List.ne_nil_of_mem (beh_mem.mpr ⟨w, hw, y, hy, rfl⟩)
  · obtain ⟨w, hw, y, hy, rfl⟩ := beh_mem.mp hx
    exact chg_bd (hc.bd w hw) y (fun c h => ((hd.way y hy).2 c h).fact) w (hc.bd w hw)
theorem nodup_at {α β : Type} {xs : List α} {f : α → β} (h : (xs.map f).Nodup) {i : Nat} {x y : α} (hx : xs[i]? = some x) (hy : y ∈ xs) (e : f x = f y) : x = y := by
  obtain ⟨j, hj, ey⟩ := List.mem_iff_getElem.mp hy
  obtain ⟨hi, ex⟩ := List.getElem?_eq_some_iff.mp hx
  have := (List.pairwise_iff_getElem.mp h)
  by_cases hij : i = j
  · subst hij; rw [← ex, ← ey]
  · exfalso
    rcases Nat.lt_or_gt_of_ne hij with h1 | h1
    · exact this i j (by simpa using hi) (by simpa using hj) h1 (by simp [ex, ey, e])
    · exact this j i (by simpa using hj) (by simpa using hi) h1 (by simp [ex, ey, e])
theorem need_deed_ok {k : Nat} (hk : 1 ≤ k) (hh : Hs fs ds ls ws wish) {d : Dd} (hd : d ∈ ds) {Q : D → Option D → Prop} {X : Nat → Prop} (q : Q (ddD false d) none) : wr (run lw.tb 1000 k 22 [hsF fs ds ls ws wish, .str d.1]) Q X := by
  obtain ⟨k, rfl⟩ : ∃ k', k = k' + 1 := ⟨k - 1, by omega⟩
  rw [wr_runE fd22 rfl rfl rfl]
  show xB (Wk k []) bo22 [some (hsF fs ds ls ws wish), some (.str d.1), none] _
  unfold bo22
  have dno := ddsF_no ds
  have dcz := noOwnL_canFz dno
  have dfz := fzL_id dno
  have hnd := (List.nodup_append.mp hh.nms).1
  exists at0, at1, at2, at3, at4, fF, hsF_no, hsF_cz, hsF_fz, no_fD, cz_fD, fz_fD, len_fD, noOwnL_ints, ints_cz, ints_fz, noOwnL_str, strs_cz, strs_fz, dno, dcz, dfz
  refine kFor_inv (fun i ρ => (∃ v, ρ = [some (hsF fs ds ls ws wish), some (.str d.1), v]) ∧ ∀ j d', j < i → ds[j]? = some d' → d' ≠ d) (by decide) ⟨⟨none, rfl⟩, fun j l' h => absurd h (by omega)⟩ ?_ ?_
  · rintro i x ρ hx ⟨⟨v, rfl⟩, hi⟩
    obtain ⟨d', hd', rfl⟩ : ∃ d', ds[i]? = some d' ∧ ddD false d' = x := by
      simp only [List.getElem?_map, Option.map_eq_some_iff] at hx
      exact hx
    have hm := List.mem_of_getElem? hd'
    have ee := eqD_str2 (hh.dd d' hm).lay (hh.dd d hd).lay
    have el0 : ∀ kt, ixS kt (ddD false d') (.int 0) = some (.str d'.1) := fun _ => rfl
    have ln := ddF_no d'
    exists el0, ee, ln
    by_cases hb : (d'.1 == d.1) = true
    · have e : d' = d := nodup_at hnd hd' hd (by simpa using hb)
      rw [hb]
      exists if_true
      rw [e]
      exact q
    · rw [Bool.eq_false_iff.mpr hb]
      exists if_true
      refine ⟨⟨_, rfl⟩, fun j l2 hj h2 => ?_⟩
      by_cases h3 : j = i
      · subst h3
        rw [hd'] at h2
        cases h2
        intro e
        exact hb (by rw [e]; simp)
      · exact hi j l2 (by omega) h2
  · rintro ρ ⟨⟨v, rfl⟩, hi⟩
    rw [List.length_map] at hi
    obtain ⟨j, hj, e⟩ := List.mem_iff_getElem.mp hd
    exact absurd e (hi j _ hj (List.getElem?_eq_getElem hj))
end
end K38

end

section
open PySem L2 PV
open K38
local macro_rules
  | `(tactic| exists $es,*) => `(tactic| simp -implicitDefEqProofs only [xE_int, xE_str, xE_bl, xE_non, xE_fn, xE_glob, xE_var, xE_bin, xE_cmp, xE_isn, xE_not, xE_and, xE_or, xE_ife, xE_tup, xE_lst, xE_ix, xO_all, xOb_t, xOb_f, xE_slA, xE_chain, kCh1_ap, kCh2_ap, kCh3_f, kCh3_t, kCh4_ap, kXf_ap, xE_fr, xE_xis, kXis_ap, xOf_xc, noOwn_xc, xS_try1, kTry_ex, kTry_nx, kTry_rt, kTry_bk, kTry_ct, kTry2_t, kTry2_f, kUn_nx, kUn_rt, xSlot_s, xSlot_n, xFits_s, xFits_n, fits'_is, noXS_nil, noXS_s, noXS_n, noX_int, noX_str, noX_bl, noX_non, noX_scr, noX_tup, noX_lst, noX_dct, noXL_nil, noXL_cons, noXL_ints, noXL_strs, xE_dnw, xS_dput, kDp1_ap, kDp2_ap, kDp3_ap, isOwnD_d, xE_mmA, xE_vf, kVf_ap, xE_sset, kSset_ap, xE_trg, kTrg_i, trgD_t, trgD_f, xE_lc, unh_e, unh_rng1, unh_rng2, unh_enum, unh_zip, unh_hold, backS_nil, backS_cons, xE_rev, xE_f1, xE_f2, xE_isin, xE_m1, xE_neg, xL_nil, xL_cons, xA_nil, xA_cons, xP_nil, xP_cons, xT_e, xV_all, xVb_t, xVb_f, xVb_m, kMv_ap, kKeep_all, kKb_t, kKb_f, kFr0_s, kFr1_ap, kFr_ap, xF_e, xS_asg, xS_asgT, xS_aug, xS_setixA, xSb_t, xS_forA, xS_expr, xS_ret, xS_retn, xS_ife, xS_raise, xS_pass, xS_cont, xS_brk, xB_nil, xB_cons, xTst_all, xTb_t, xTb_f, xC1_s, xC2_v, xC2_t, xC2_a, isVar, xI_e, xI_rng1, xI_rng2, xI_enum, xI_zip, kSq_nx, kSq_rt, kSq_ex, kSq_bk, kSq_ct, kCond_t, kCond_f, kTurn_nx, kTurn_ct, kTurn_bk, kTurn_rt, kTurn_ex, kIf_t, kRet_ap, kB3_ap, kB2_ap, kB1_ap, kC4_ap, kC3_ap, kC2_ap, kC1_ap, kIsn_ap, kNot_ap, kBl_ap, kNo_ap, kTup_ap, kLst_ap, kX4_ap, kX3_ap, kX2_ap, kX1_ap, kSl3_ap, kSl2_ap, kSl1_ap, kF1_ap, kF22_ap, kF21_ap, kIsin_ap, kM2_ap, kM1_ap, kCons2_ap, kL1_ap, kA1_ap, kP2_ap, kP1_ap, kR_ap, kRX_ap, kCallp_ap, kRs_ap, kCallz_ap, kCalla_ap, kPut_ap, kRi_ap, kRXi_ap, kCi3_ap, kCi2_ap, kCi1_ap, kDrop_ap, kRt_ap, kCt2_ap, kCt1_ap, kAsg_ap, kAsgT_ap, kSet1_ap, kExpr_ap, kRtn_ap, kIt_ap, kItems_ap, kRng2_ap, kZip_ap, kFz_ap, hold_e, hold_rng1, hold_rng2, hold_enum, hold_zip, hold_hold, kAnd_t, kAnd_f, kOr_t, kOr_f, kIfe_t, kIfe_f, kO_i, kRev_l, kNeg_i, kTst_b, kAug_i, kAug1_i, kSet2_i, kSet3_l, kRng1_i, kRng22_i, kEnum_l, kZip2_l, kLcT_f, kLcT_t, kLcE_ap, fin_rt0, fin_nx0, fin_ex0, fin_rt1, fin_nx1, slot_0, slot_s, put_0, put_s, oS_some, wr_ok, PV.pure, pureEs, isMv, isNo, root, redo, B2.scal, F1.scal, M1.scal, fits, tcOf_non, tcOf_bool, tcOf_int, tcOf_str, tcOf_list, tcOf_tuple, isTC_bool_non, isTC_bool_bool, isTC_bool_int, isTC_bool_str, isTC_bool_list, isTC_bool_tuple, isTC_bool_dict, isTC_int_non, isTC_int_bool, isTC_int_int, isTC_int_str, isTC_int_list, isTC_int_tuple, isTC_int_dict, isTC_str_non, isTC_str_bool, isTC_str_int, isTC_str_str, isTC_str_list, isTC_str_tuple, isTC_str_dict, isTC_list_non, isTC_list_bool, isTC_list_int, isTC_list_str, isTC_list_list, isTC_list_tuple, isTC_list_dict, isTC_tuple_non, isTC_tuple_bool, isTC_tuple_int, isTC_tuple_str, isTC_tuple_list, isTC_tuple_tuple, isTC_tuple_dict, noOwn_tup, noOwn_lst, noOwn_int, noOwn_str, noOwn_bl, noOwn_non, noOwn_scr, noOwn_dct, noOwnL_nil, noOwnL_cons, canFz_tup, canFz_lst, canFz_int, canFz_str, canFz_bl, canFz_non, canFz_scr, canFzL_nil, canFzL_cons, fz_tup, fz_lst, fz_int, fz_str, fz_bl, fz_non, fz_scr, fzL_nil, fzL_cons, isTys, atI_0, atI_1, atI_2, atI_3, atI_4, ixN_0, ixN_1, ixN_2, eqD_int, Int.reduceLT, Int.reduceLE, Int.reduceNeg, Int.reduceAdd, Int.reduceSub, Int.reduceMul, Nat.reduceAdd, Nat.reduceLT, Nat.reduceLeDiff, Nat.reduceEqDiff, List.mem_cons, bindT, bindTs, Tg.slots, ownOk, wipeE, List.all_cons, List.all_nil, List.any_cons, List.any_nil, List.contains_eq_mem, List.not_mem_nil, List.length_cons, List.length_nil, List.set_cons_zero, List.set_cons_succ, List.cons_append, List.nil_append, Bool.not_true, Bool.not_false, Bool.and_true, Bool.true_and, Bool.and_false, Bool.false_and, Bool.or_true, Bool.true_or, Bool.or_false, Bool.false_or, Bool.and_self, Bool.or_self, Bool.and_eq_true, Bool.or_eq_true, Bool.not_eq_true', true_and, and_true, and_self, false_and, and_false, true_or, or_true, false_or, or_false, or_self, if_true, if_false, ite_true, ite_false, eq_self, Bool.false_eq_true, Option.map_some, Option.map_none, Option.bind_some, Option.some.injEq, decide_true, decide_false, decide_eq_true_eq, szOk_0, szOk_1, szOk_2, szOk_3, szOk_4, szOk_5, szOk_6, szOk_7, szOk_8, szOk_9, szOk_10, szOk_11, szOk_12, szOk_13, szOk_14, szOk_15, szOk_16, szOk_17, szOk_18, szOk_19, szOk_20, isScal_c0, isScal_c1, isScal_c2, isScal_c3, isScal_c4, isNonD_c0, b2_c0, b2_c1, b2_c2, b2_c3, b2_c4, b2_c5, b2_c6, b2_c7, b2_c8, b2_c9, b2_c10, b2_c11, b2_c12, b2_c13, b2_c14, b2_c15, b2_c16, c2_c0, c2_c1, c2_c2, c2_c3, c2_c4, c2_c5, c2_c6, c2_c7, ixS_c0, ixS_c1, ixS_c2, ixS_c3, slS_c0, slS_c1, slS_c2, slS_c3, f1S_c0, f1S_c1, f1S_c2, f1S_c3, f1S_c4, f1S_c5, f1S_c6, f1S_c7, f1S_c8, f1S_c9, f1S_c10, f1S_c11, f1S_c12, f1S_c13, f1S_c14, f1S_c15, f1S_c16, f2S_c0, f2S_c1, m1S_c0, m1S_c1, m1S_c2, m1S_c3, recvOk_c0, recvOk_c1, recvOk_c2, recvOk_c3, recvOk_c4, recvOk_c5, recvOk_c6, isOwnL_c0, mmS_c0, mmS_c1, mmS_c2, mmS_c3, itemsOf_c0, itemsOf_c1, itemsOf_c2, seqOf_c0, seqOf_c1, fd0, fd1, fd2, fd3, fd4, fd5, fd6, fd7, fd8, fd9, fd10, fd11, fd12, fd13, fd14, fd15, fd16, fd17, fd18, fd19, fd20, fd21, fd22, fd23, fd24, fd25, fd26, fd27, fd28, $[$es:term],*])
namespace K38
open PySem L2 PV
def nmD (d : Dd) : D := .str d.1
theorem nm_no (rs : List Dd) : noOwnL (rs.map nmD) = true := mapL_no fun _ => rfl
section
variable {fs : List Str} {ds : List Dd} {ls : List Lk} {ws : List Int} {wish : Cd}
theorem row_ok {k : Nat} (hk : 4 ≤ k) (hh : Hs fs ds ls ws wish) (hne : 0 < ds.length) {a b : Int} (ha : 0 ≤ a) (hb : 0 ≤ b) {m : Int} (m0 : 0 ≤ m) (m1 : m ≤ 200) {Q : D → Option D → Prop} {X : Nat → Prop} (q : ∀ (rs : List Dd) (a b : Int), (∀ d ∈ rs, d ∈ ds) → rs.length ≤ m.toNat → 0 ≤ a → 0 ≤ b → Q (.lst true (rs.map nmD)) (some (dk a b))) : wr (run lw.tb 1000 k 7 [dk a b, hsF fs ds ls ws wish, .int m]) Q X := by
  obtain ⟨k, rfl⟩ : ∃ k', k = k' + 1 := ⟨k - 1, by omega⟩
  rw [wr_runE fd7 rfl rfl rfl]
  show xB (Wk k [0]) bo7 [some (dk a b), some (hsF fs ds ls ws wish), some (.int m), none, none, none] _
  unfold bo7
  have dno := ddsF_no ds
  have dcz := noOwnL_canFz dno
  have dfz := fzL_id dno
  exists at1, hsF_no, dno, dcz, dfz
  refine kLc_map ds (ddD false) nmD (by simp) rfl ?_ (fun u _ => ddF_no u) (by have := hh.dfew; omega) ?_
  · intro d hd Q' hq
    have dn := ddF_no d
    have e0 : ∀ kt, ixS kt (ddD false d) (.int 0) = some (.str d.1) := fun _ => rfl
    simp only [xE_int, xE_str, xE_bl, xE_non, xE_fn, xE_glob, xE_var, xE_bin, xE_cmp, xE_isn, xE_not, xE_and, xE_or, xE_ife, xE_tup, xE_lst, xE_ix, xO_all, xOb_t, xOb_f, xE_slA, xE_chain, kCh1_ap, kCh2_ap, kCh3_f, kCh3_t, kCh4_ap, kXf_ap, xE_fr, xE_xis, kXis_ap, xOf_xc, noOwn_xc, xS_try1, kTry_ex, kTry_nx, kTry_rt, kTry_bk, kTry_ct, kTry2_t, kTry2_f, kUn_nx, kUn_rt, xSlot_s, xSlot_n, xFits_s, xFits_n, fits'_is, noXS_nil, noXS_s, noXS_n, noX_int, noX_str, noX_bl, noX_non, noX_scr, noX_tup, noX_lst, noX_dct, noXL_nil, noXL_cons, noXL_ints, noXL_strs, xE_dnw, xS_dput, kDp1_ap, kDp2_ap, kDp3_ap, isOwnD_d, xE_mmA, xE_vf, kVf_ap, xE_sset, kSset_ap, xE_trg, kTrg_i, trgD_t, trgD_f, xE_lc, unh_e, unh_rng1, unh_rng2, unh_enum, unh_zip, unh_hold, backS_nil, backS_cons, xE_rev, xE_f1, xE_f2, xE_isin, xE_m1, xE_neg, xL_nil, xL_cons, xA_nil, xA_cons, xP_nil, xP_cons, xT_e, xV_all, xVb_t, xVb_f, xVb_m, kMv_ap, kKeep_all, kKb_t, kKb_f, kFr0_s, kFr1_ap, kFr_ap, xF_e, xS_asg, xS_asgT, xS_aug, xS_setixA, xSb_t, xS_forA, xS_expr, xS_ret, xS_retn, xS_ife, xS_raise, xS_pass, xS_cont, xS_brk, xB_nil, xB_cons, xTst_all, xTb_t, xTb_f, xC1_s, xC2_v, xC2_t, xC2_a, isVar, xI_e, xI_rng1, xI_rng2, xI_enum, xI_zip, kSq_nx, kSq_rt, kSq_ex, kSq_bk, kSq_ct, kCond_t, kCond_f, kTurn_nx, kTurn_ct, kTurn_bk, kTurn_rt, kTurn_ex, kIf_t, kRet_ap, kB3_ap, kB2_ap, kB1_ap, kC4_ap, kC3_ap, kC2_ap, kC1_ap, kIsn_ap, kNot_ap, kBl_ap, kNo_ap, kTup_ap, kLst_ap, kX4_ap, kX3_ap, kX2_ap, kX1_ap, kSl3_ap, kSl2_ap, kSl1_ap, kF1_ap, kF22_ap, kF21_ap, kIsin_ap, kM2_ap, kM1_ap, kCons2_ap, kL1_ap, kA1_ap, kP2_ap, kP1_ap, kR_ap, kRX_ap, kCallp_ap, kRs_ap, kCallz_ap, kCalla_ap, kPut_ap, kRi_ap, kRXi_ap, kCi3_ap, kCi2_ap, kCi1_ap, kDrop_ap, kRt_ap, kCt2_ap, kCt1_ap, kAsg_ap, kAsgT_ap, kSet1_ap, kExpr_ap, kRtn_ap, kIt_ap, kItems_ap, kRng2_ap, kZip_ap, kFz_ap, hold_e, hold_rng1, hold_rng2, hold_enum, hold_zip, hold_hold, kAnd_t, kAnd_f, kOr_t, kOr_f, kIfe_t, kIfe_f, kO_i, kRev_l, kNeg_i, kTst_b, kAug_i, kAug1_i, kSet2_i, kSet3_l, kRng1_i, kRng22_i, kEnum_l, kZip2_l, kLcT_f, kLcT_t, kLcE_ap, fin_rt0, fin_nx0, fin_ex0, fin_rt1, fin_nx1, slot_0, slot_s, put_0, put_s, oS_some, wr_ok, PV.pure, pureEs, isMv, isNo, root, redo, B2.scal, F1.scal, M1.scal, fits, tcOf_non, tcOf_bool, tcOf_int, tcOf_str, tcOf_list, tcOf_tuple, isTC_bool_non, isTC_bool_bool, isTC_bool_int, isTC_bool_str, isTC_bool_list, isTC_bool_tuple, isTC_bool_dict, isTC_int_non, isTC_int_bool, isTC_int_int, isTC_int_str, isTC_int_list, isTC_int_tuple, isTC_int_dict, isTC_str_non, isTC_str_bool, isTC_str_int, isTC_str_str, isTC_str_list, isTC_str_tuple, isTC_str_dict, isTC_list_non, isTC_list_bool, isTC_list_int, isTC_list_str, isTC_list_list, isTC_list_tuple, isTC_list_dict, isTC_tuple_non, isTC_tuple_bool, isTC_tuple_int, isTC_tuple_str, isTC_tuple_list, isTC_tuple_tuple, isTC_tuple_dict, noOwn_tup, noOwn_lst, noOwn_int, noOwn_str, noOwn_bl, noOwn_non, noOwn_scr, noOwn_dct, noOwnL_nil, noOwnL_cons, canFz_tup, canFz_lst, canFz_int, canFz_str, canFz_bl, canFz_non, canFz_scr, canFzL_nil, canFzL_cons, fz_tup, fz_lst, fz_int, fz_str, fz_bl, fz_non, fz_scr, fzL_nil, fzL_cons, isTys, atI_0, atI_1, atI_2, atI_3, atI_4, ixN_0, ixN_1, ixN_2, eqD_int, Int.reduceLT, Int.reduceLE, Int.reduceNeg, Int.reduceAdd, Int.reduceSub, Int.reduceMul, Nat.reduceAdd, Nat.reduceLT, Nat.reduceLeDiff, Nat.reduceEqDiff, List.mem_cons, bindT, bindTs, Tg.slots, ownOk, wipeE, List.all_cons, List.all_nil, List.any_cons, List.any_nil, List.contains_eq_mem, List.not_mem_nil, List.length_cons, List.length_nil, List.set_cons_zero, List.set_cons_succ, List.cons_append, List.nil_append, Bool.not_true, Bool.not_false, Bool.and_true, Bool.true_and, Bool.and_false, Bool.false_and, Bool.or_true, Bool.true_or, Bool.or_false, Bool.false_or, Bool.and_self, Bool.or_self, Bool.and_eq_true, Bool.or_eq_true, Bool.not_eq_true', true_and, and_true, and_self, false_and, and_false, true_or, or_true, false_or, or_false, or_self, if_true, if_false, ite_true, ite_false, eq_self, Bool.false_eq_true, Option.map_some, Option.map_none, Option.bind_some, Option.some.injEq, decide_true, decide_false, decide_eq_true_eq, szOk_0, szOk_1, szOk_2, szOk_3, szOk_4, szOk_5, szOk_6, szOk_7, szOk_8, szOk_9, szOk_10, szOk_11, szOk_12, szOk_13, szOk_14, szOk_15, szOk_16, szOk_17, szOk_18, szOk_19, szOk_20, isScal_c0, isScal_c1, isScal_c2, isScal_c3, isScal_c4, isNonD_c0, b2_c0, b2_c1, b2_c2, b2_c3, b2_c4, b2_c5, b2_c6, b2_c7, b2_c8, b2_c9, b2_c10, b2_c11, b2_c12, b2_c13, b2_c14, b2_c15, b2_c16, c2_c0, c2_c1, c2_c2, c2_c3, c2_c4, c2_c5, c2_c6, c2_c7, ixS_c0, ixS_c1, ixS_c2, ixS_c3, slS_c0, slS_c1, slS_c2, slS_c3, f1S_c0, f1S_c1, f1S_c2, f1S_c3, f1S_c4, f1S_c5, f1S_c6, f1S_c7, f1S_c8, f1S_c9, f1S_c10, f1S_c11, f1S_c12, f1S_c13, f1S_c14, f1S_c15, f1S_c16, f2S_c0, f2S_c1, m1S_c0, m1S_c1, m1S_c2, m1S_c3, recvOk_c0, recvOk_c1, recvOk_c2, recvOk_c3, recvOk_c4, recvOk_c5, recvOk_c6, isOwnL_c0, mmS_c0, mmS_c1, mmS_c2, mmS_c3, itemsOf_c0, itemsOf_c1, itemsOf_c2, seqOf_c0, seqOf_c1, fd0, fd1, fd2, fd3, fd4, fd5, fd6, fd7, fd8, fd9, fd10, fd11, fd12, fd13, fd14, fd15, fd16, fd17, fd18, fd19, fd20, fd21, fd22, fd23, fd24, fd25, fd26, fd27, fd28, nmD] at hq
    exists e0, dn
    exact hq
  · exists if_true
    refine xC_ap ?_
    exists if_true
    refine take_ok (k := k) (by omega) ha hb (m := m + 1) (by omega) (by omega) fun r a1 b1 r0 r1 ha1 hb1 => ?_
    have hr : rngOk r = true := by simp [rngOk]; omega
    have nno := nm_no ds
    exists hr
    refine kLc_inv (fun n acc ρ => ∃ (a b : Int) (rs : List Dd), acc = rs.map nmD ∧ ρ = [some (dk a b), some (hsF fs ds ls ws wish), some (.int m), some (.lst true (ds.map nmD)), none, none] ∧ 0 ≤ a ∧ 0 ≤ b ∧ rs.length = n ∧ ∀ d ∈ rs, d ∈ ds) rfl ⟨a1, b1, [], rfl, rfl, ha1, hb1, rfl, by simp⟩ ?_ ?_
    · rintro i x acc ρ hx ⟨a2, b2, rs, rfl, rfl, ha2, hb2, hl, hrs⟩
      obtain ⟨hi, rfl⟩ := rngI_get hx
      have hz : szOk ((rs.map nmD).length + 1) = true := szOk_of (by simp; omega)
      exists if_true
      refine xC_ap ?_
      exists List.length_map
      have hdl : ds.length ≤ 120 := hh.dfew
      refine take_ok (k := k) (by omega) ha2 hb2 (m := (ds.length : Int)) (by omega) (by omega) fun t a3 b3 t0 t1 ha3 hb3 => ?_
      obtain ⟨d, hd, ed⟩ := at_map (us := ds) (f := nmD) t0 t1
      have dnn : noOwn (nmD d) = true := rfl
      exists ed, nno, hz, dnn
      refine ⟨a3, b3, rs ++ [d], by simp, rfl, ha3, hb3, by simp; omega, ?_⟩
      intro e he
      simp only [List.mem_append, List.mem_singleton] at he
      rcases he with he | rfl
      · exact hrs e he
      · exact hd
    · rintro acc ρ ⟨a2, b2, rs, rfl, rfl, ha2, hb2, hl, hrs⟩
      rw [rngI_len] at hl
      exists if_true
      exact q rs a2 b2 hrs (by omega) ha2 hb2
end
end K38

end

section
open PySem L2 PV
open K38
local macro_rules
  | `(tactic| exists $es,*) => `(tactic| simp -implicitDefEqProofs only [xE_int, xE_str, xE_bl, xE_non, xE_fn, xE_glob, xE_var, xE_bin, xE_cmp, xE_isn, xE_not, xE_and, xE_or, xE_ife, xE_tup, xE_lst, xE_ix, xO_all, xOb_t, xOb_f, xE_slA, xE_chain, kCh1_ap, kCh2_ap, kCh3_f, kCh3_t, kCh4_ap, kXf_ap, xE_fr, xE_xis, kXis_ap, xOf_xc, noOwn_xc, xS_try1, kTry_ex, kTry_nx, kTry_rt, kTry_bk, kTry_ct, kTry2_t, kTry2_f, kUn_nx, kUn_rt, xSlot_s, xSlot_n, xFits_s, xFits_n, fits'_is, noXS_nil, noXS_s, noXS_n, noX_int, noX_str, noX_bl, noX_non, noX_scr, noX_tup, noX_lst, noX_dct, noXL_nil, noXL_cons, noXL_ints, noXL_strs, xE_dnw, xS_dput, kDp1_ap, kDp2_ap, kDp3_ap, isOwnD_d, xE_mmA, xE_vf, kVf_ap, xE_sset, kSset_ap, xE_trg, kTrg_i, trgD_t, trgD_f, xE_lc, unh_e, unh_rng1, unh_rng2, unh_enum, unh_zip, unh_hold, backS_nil, backS_cons, xE_rev, xE_f1, xE_f2, xE_isin, xE_m1, xE_neg, xL_nil, xL_cons, xA_nil, xA_cons, xP_nil, xP_cons, xT_e, xV_all, xVb_t, xVb_f, xVb_m, kMv_ap, kKeep_all, kKb_t, kKb_f, kFr0_s, kFr1_ap, kFr_ap, xF_e, xS_asg, xS_asgT, xS_aug, xS_setixA, xSb_t, xS_forA, xS_expr, xS_ret, xS_retn, xS_ife, xS_raise, xS_pass, xS_cont, xS_brk, xB_nil, xB_cons, xTst_all, xTb_t, xTb_f, xC1_s, xC2_v, xC2_t, xC2_a, isVar, xI_e, xI_rng1, xI_rng2, xI_enum, xI_zip, kSq_nx, kSq_rt, kSq_ex, kSq_bk, kSq_ct, kCond_t, kCond_f, kTurn_nx, kTurn_ct, kTurn_bk, kTurn_rt, kTurn_ex, kIf_t, kRet_ap, kB3_ap, kB2_ap, kB1_ap, kC4_ap, kC3_ap, kC2_ap, kC1_ap, kIsn_ap, kNot_ap, kBl_ap, kNo_ap, kTup_ap, kLst_ap, kX4_ap, kX3_ap, kX2_ap, kX1_ap, kSl3_ap, kSl2_ap, kSl1_ap, kF1_ap, kF22_ap, kF21_ap, kIsin_ap, kM2_ap, kM1_ap, kCons2_ap, kL1_ap, kA1_ap, kP2_ap, kP1_ap, kR_ap, kRX_ap, kCallp_ap, kRs_ap, kCallz_ap, kCalla_ap, kPut_ap, kRi_ap, kRXi_ap, kCi3_ap, kCi2_ap, kCi1_ap, kDrop_ap, kRt_ap, kCt2_ap, kCt1_ap, kAsg_ap, kAsgT_ap, kSet1_ap, kExpr_ap, kRtn_ap, kIt_ap, kItems_ap, kRng2_ap, kZip_ap, kFz_ap, hold_e, hold_rng1, hold_rng2, hold_enum, hold_zip, hold_hold, kAnd_t, kAnd_f, kOr_t, kOr_f, kIfe_t, kIfe_f, kO_i, kRev_l, kNeg_i, kTst_b, kAug_i, kAug1_i, kSet2_i, kSet3_l, kRng1_i, kRng22_i, kEnum_l, kZip2_l, kLcT_f, kLcT_t, kLcE_ap, fin_rt0, fin_nx0, fin_ex0, fin_rt1, fin_nx1, slot_0, slot_s, put_0, put_s, oS_some, wr_ok, PV.pure, pureEs, isMv, isNo, root, redo, B2.scal, F1.scal, M1.scal, fits, tcOf_non, tcOf_bool, tcOf_int, tcOf_str, tcOf_list, tcOf_tuple, isTC_bool_non, isTC_bool_bool, isTC_bool_int, isTC_bool_str, isTC_bool_list, isTC_bool_tuple, isTC_bool_dict, isTC_int_non, isTC_int_bool, isTC_int_int, isTC_int_str, isTC_int_list, isTC_int_tuple, isTC_int_dict, isTC_str_non, isTC_str_bool, isTC_str_int, isTC_str_str, isTC_str_list, isTC_str_tuple, isTC_str_dict, isTC_list_non, isTC_list_bool, isTC_list_int, isTC_list_str, isTC_list_list, isTC_list_tuple, isTC_list_dict, isTC_tuple_non, isTC_tuple_bool, isTC_tuple_int, isTC_tuple_str, isTC_tuple_list, isTC_tuple_tuple, isTC_tuple_dict, noOwn_tup, noOwn_lst, noOwn_int, noOwn_str, noOwn_bl, noOwn_non, noOwn_scr, noOwn_dct, noOwnL_nil, noOwnL_cons, canFz_tup, canFz_lst, canFz_int, canFz_str, canFz_bl, canFz_non, canFz_scr, canFzL_nil, canFzL_cons, fz_tup, fz_lst, fz_int, fz_str, fz_bl, fz_non, fz_scr, fzL_nil, fzL_cons, isTys, atI_0, atI_1, atI_2, atI_3, atI_4, ixN_0, ixN_1, ixN_2, eqD_int, Int.reduceLT, Int.reduceLE, Int.reduceNeg, Int.reduceAdd, Int.reduceSub, Int.reduceMul, Nat.reduceAdd, Nat.reduceLT, Nat.reduceLeDiff, Nat.reduceEqDiff, List.mem_cons, bindT, bindTs, Tg.slots, ownOk, wipeE, List.all_cons, List.all_nil, List.any_cons, List.any_nil, List.contains_eq_mem, List.not_mem_nil, List.length_cons, List.length_nil, List.set_cons_zero, List.set_cons_succ, List.cons_append, List.nil_append, Bool.not_true, Bool.not_false, Bool.and_true, Bool.true_and, Bool.and_false, Bool.false_and, Bool.or_true, Bool.true_or, Bool.or_false, Bool.false_or, Bool.and_self, Bool.or_self, Bool.and_eq_true, Bool.or_eq_true, Bool.not_eq_true', true_and, and_true, and_self, false_and, and_false, true_or, or_true, false_or, or_false, or_self, if_true, if_false, ite_true, ite_false, eq_self, Bool.false_eq_true, Option.map_some, Option.map_none, Option.bind_some, Option.some.injEq, decide_true, decide_false, decide_eq_true_eq, szOk_0, szOk_1, szOk_2, szOk_3, szOk_4, szOk_5, szOk_6, szOk_7, szOk_8, szOk_9, szOk_10, szOk_11, szOk_12, szOk_13, szOk_14, szOk_15, szOk_16, szOk_17, szOk_18, szOk_19, szOk_20, isScal_c0, isScal_c1, isScal_c2, isScal_c3, isScal_c4, isNonD_c0, b2_c0, b2_c1, b2_c2, b2_c3, b2_c4, b2_c5, b2_c6, b2_c7, b2_c8, b2_c9, b2_c10, b2_c11, b2_c12, b2_c13, b2_c14, b2_c15, b2_c16, c2_c0, c2_c1, c2_c2, c2_c3, c2_c4, c2_c5, c2_c6, c2_c7, ixS_c0, ixS_c1, ixS_c2, ixS_c3, slS_c0, slS_c1, slS_c2, slS_c3, f1S_c0, f1S_c1, f1S_c2, f1S_c3, f1S_c4, f1S_c5, f1S_c6, f1S_c7, f1S_c8, f1S_c9, f1S_c10, f1S_c11, f1S_c12, f1S_c13, f1S_c14, f1S_c15, f1S_c16, f2S_c0, f2S_c1, m1S_c0, m1S_c1, m1S_c2, m1S_c3, recvOk_c0, recvOk_c1, recvOk_c2, recvOk_c3, recvOk_c4, recvOk_c5, recvOk_c6, isOwnL_c0, mmS_c0, mmS_c1, mmS_c2, mmS_c3, itemsOf_c0, itemsOf_c1, itemsOf_c2, seqOf_c0, seqOf_c1, fd0, fd1, fd2, fd3, fd4, fd5, fd6, fd7, fd8, fd9, fd10, fd11, fd12, fd13, fd14, fd15, fd16, fd17, fd18, fd19, fd20, fd21, fd22, fd23, fd24, fd25, fd26, fd27, fd28, $[$es:term],*])
namespace K38
open PySem L2 PV
/-! ### rows -/
theorem up_len {m : Int} : ∀ {ns : List Int} {a : Int}, ns.Pairwise (· < ·) → (∀ w ∈ ns, a ≤ w ∧ w < m) → ns.length ≤ (m - a).toNat
  | [], a, _, _ => by simp
  | x :: xs, a, hp, hb => by
    have h1 := hb x (by simp)
    have hp2 := List.pairwise_cons.mp hp
    have := up_len (ns := xs) (a := x + 1) hp2.2 fun w hw => ⟨by have := hp2.1 w hw; omega, (hb w (by simp [hw])).2⟩
    simp only [List.length_cons]
    omega
theorem crowd_len {m : Int} {ns : List Int} (h : Crowd m ns) : ns.length ≤ m.toNat := by
  have := up_len (a := 0) h.up h.bd
  simpa using this
theorem crowd_len2 {fs : List Str} (hf : Fs fs) {ns : List Int} (h : Crowd (2 ^ fs.length) ns) : ns.length ≤ 1024 := by
  have h1 := crowd_len h
  have h2 := pow_le hf
  omega
def tuD (u : List Int) : D := .tup (u.map .int)
theorem tuD_no (us : List (List Int)) : noOwnL (us.map tuD) = true := mapL_no fun u => by simp [tuD, noOwn_tup, noOwnL_ints]
/-- the least world in which it does not hold -/
def fail (fs : List Str) (c : Cd) (ns : List Int) : Option Int := ns.find? fun w => !c.tru fs w
def oiD : Option Int → D
  | none => .non
  | some w => .int w
inductive Rs
  | stuck (p : Nat) (w : Int)
  | ends (w : Int)
  | well (cs : List (List Int))
def rsD (o : Bool) : Rs → D
  | .stuck p w => .tup [.str "stuck", .int p, .int w]
  | .ends w => .tup [.str "ends", .int w]
  | .well cs => .tup [.str "well", .lst o (cs.map tuD)]
def Rs.pre (acc : List (List Int)) : Rs → Rs
  | .stuck p w => .stuck (acc.length + p) w
  | .ends w => .ends w
  | .well cs => .well (acc ++ cs)
def goes (fs : List Str) (wish : Cd) : List Dd → List Int → Rs
  | [], u => match fail fs wish u with
    | some w => .ends w
    | none => .well [u]
  | d :: rs, u => match fail fs d.2.1 u with
    | some w => .stuck 0 w
    | none => (goes fs wish rs (beh fs d.2.2 u)).pre [u]
theorem pre_pre {a b : List (List Int)} {r : Rs} : (r.pre b).pre a = r.pre (a ++ b) := by
  cases r <;> simp [Rs.pre] <;> omega
theorem pre_nil {r : Rs} : r.pre [] = r := by cases r <;> simp [Rs.pre]
theorem rs_fz {r : Rs} (o : Bool) : canFz (rsD o r) = true ∧ fz (rsD o r) = rsD false r := by
  cases r with
  | stuck p w => exact ⟨rfl, rfl⟩
  | ends w => exact ⟨rfl, rfl⟩
  | well cs =>
    have h := tuD_no cs
    simp only [rsD, canFz_tup, fz_tup, canFzL, fzL, canFz_str, fz_str, canFz_lst, fz_lst, noOwnL_canFz h, fzL_id h]
    exact ⟨rfl, trivial⟩
theorem rs_no {r : Rs} : noOwn (rsD false r) = true := by
  have := (rs_fz (r := r) false)
  rw [← this.2]; exact fz_noOwn this.1
section
variable {fs : List Str} {ds : List Dd} {ls : List Lk} {ws : List Int} {wish : Cd}
theorem fail_tru {c : Cd} {u : List Int} (h : fail fs c u = none) : ∀ w ∈ u, c.tru fs w = true := by
  intro w hw
  have := List.find?_eq_none.mp h w hw
  simpa using this
end
end K38

end

section
open PySem L2 PV
open K38
local macro_rules
  | `(tactic| exists $es,*) => `(tactic| simp -implicitDefEqProofs only [xE_int, xE_str, xE_bl, xE_non, xE_fn, xE_glob, xE_var, xE_bin, xE_cmp, xE_isn, xE_not, xE_and, xE_or, xE_ife, xE_tup, xE_lst, xE_ix, xO_all, xOb_t, xOb_f, xE_slA, xE_chain, kCh1_ap, kCh2_ap, kCh3_f, kCh3_t, kCh4_ap, kXf_ap, xE_fr, xE_xis, kXis_ap, xOf_xc, noOwn_xc, xS_try1, kTry_ex, kTry_nx, kTry_rt, kTry_bk, kTry_ct, kTry2_t, kTry2_f, kUn_nx, kUn_rt, xSlot_s, xSlot_n, xFits_s, xFits_n, fits'_is, noXS_nil, noXS_s, noXS_n, noX_int, noX_str, noX_bl, noX_non, noX_scr, noX_tup, noX_lst, noX_dct, noXL_nil, noXL_cons, noXL_ints, noXL_strs, xE_dnw, xS_dput, kDp1_ap, kDp2_ap, kDp3_ap, isOwnD_d, xE_mmA, xE_vf, kVf_ap, xE_sset, kSset_ap, xE_trg, kTrg_i, trgD_t, trgD_f, xE_lc, unh_e, unh_rng1, unh_rng2, unh_enum, unh_zip, unh_hold, backS_nil, backS_cons, xE_rev, xE_f1, xE_f2, xE_isin, xE_m1, xE_neg, xL_nil, xL_cons, xA_nil, xA_cons, xP_nil, xP_cons, xT_e, xV_all, xVb_t, xVb_f, xVb_m, kMv_ap, kKeep_all, kKb_t, kKb_f, kFr0_s, kFr1_ap, kFr_ap, xF_e, xS_asg, xS_asgT, xS_aug, xS_setixA, xSb_t, xS_forA, xS_expr, xS_ret, xS_retn, xS_ife, xS_raise, xS_pass, xS_cont, xS_brk, xB_nil, xB_cons, xTst_all, xTb_t, xTb_f, xC1_s, xC2_v, xC2_t, xC2_a, isVar, xI_e, xI_rng1, xI_rng2, xI_enum, xI_zip, kSq_nx, kSq_rt, kSq_ex, kSq_bk, kSq_ct, kCond_t, kCond_f, kTurn_nx, kTurn_ct, kTurn_bk, kTurn_rt, kTurn_ex, kIf_t, kRet_ap, kB3_ap, kB2_ap, kB1_ap, kC4_ap, kC3_ap, kC2_ap, kC1_ap, kIsn_ap, kNot_ap, kBl_ap, kNo_ap, kTup_ap, kLst_ap, kX4_ap, kX3_ap, kX2_ap, kX1_ap, kSl3_ap, kSl2_ap, kSl1_ap, kF1_ap, kF22_ap, kF21_ap, kIsin_ap, kM2_ap, kM1_ap, kCons2_ap, kL1_ap, kA1_ap, kP2_ap, kP1_ap, kR_ap, kRX_ap, kCallp_ap, kRs_ap, kCallz_ap, kCalla_ap, kPut_ap, kRi_ap, kRXi_ap, kCi3_ap, kCi2_ap, kCi1_ap, kDrop_ap, kRt_ap, kCt2_ap, kCt1_ap, kAsg_ap, kAsgT_ap, kSet1_ap, kExpr_ap, kRtn_ap, kIt_ap, kItems_ap, kRng2_ap, kZip_ap, kFz_ap, hold_e, hold_rng1, hold_rng2, hold_enum, hold_zip, hold_hold, kAnd_t, kAnd_f, kOr_t, kOr_f, kIfe_t, kIfe_f, kO_i, kRev_l, kNeg_i, kTst_b, kAug_i, kAug1_i, kSet2_i, kSet3_l, kRng1_i, kRng22_i, kEnum_l, kZip2_l, kLcT_f, kLcT_t, kLcE_ap, fin_rt0, fin_nx0, fin_ex0, fin_rt1, fin_nx1, slot_0, slot_s, put_0, put_s, oS_some, wr_ok, PV.pure, pureEs, isMv, isNo, root, redo, B2.scal, F1.scal, M1.scal, fits, tcOf_non, tcOf_bool, tcOf_int, tcOf_str, tcOf_list, tcOf_tuple, isTC_bool_non, isTC_bool_bool, isTC_bool_int, isTC_bool_str, isTC_bool_list, isTC_bool_tuple, isTC_bool_dict, isTC_int_non, isTC_int_bool, isTC_int_int, isTC_int_str, isTC_int_list, isTC_int_tuple, isTC_int_dict, isTC_str_non, isTC_str_bool, isTC_str_int, isTC_str_str, isTC_str_list, isTC_str_tuple, isTC_str_dict, isTC_list_non, isTC_list_bool, isTC_list_int, isTC_list_str, isTC_list_list, isTC_list_tuple, isTC_list_dict, isTC_tuple_non, isTC_tuple_bool, isTC_tuple_int, isTC_tuple_str, isTC_tuple_list, isTC_tuple_tuple, isTC_tuple_dict, noOwn_tup, noOwn_lst, noOwn_int, noOwn_str, noOwn_bl, noOwn_non, noOwn_scr, noOwn_dct, noOwnL_nil, noOwnL_cons, canFz_tup, canFz_lst, canFz_int, canFz_str, canFz_bl, canFz_non, canFz_scr, canFzL_nil, canFzL_cons, fz_tup, fz_lst, fz_int, fz_str, fz_bl, fz_non, fz_scr, fzL_nil, fzL_cons, isTys, atI_0, atI_1, atI_2, atI_3, atI_4, ixN_0, ixN_1, ixN_2, eqD_int, Int.reduceLT, Int.reduceLE, Int.reduceNeg, Int.reduceAdd, Int.reduceSub, Int.reduceMul, Nat.reduceAdd, Nat.reduceLT, Nat.reduceLeDiff, Nat.reduceEqDiff, List.mem_cons, bindT, bindTs, Tg.slots, ownOk, wipeE, List.all_cons, List.all_nil, List.any_cons, List.any_nil, List.contains_eq_mem, List.not_mem_nil, List.length_cons, List.length_nil, List.set_cons_zero, List.set_cons_succ, List.cons_append, List.nil_append, Bool.not_true, Bool.not_false, Bool.and_true, Bool.true_and, Bool.and_false, Bool.false_and, Bool.or_true, Bool.true_or, Bool.or_false, Bool.false_or, Bool.and_self, Bool.or_self, Bool.and_eq_true, Bool.or_eq_true, Bool.not_eq_true', true_and, and_true, and_self, false_and, and_false, true_or, or_true, false_or, or_false, or_self, if_true, if_false, ite_true, ite_false, eq_self, Bool.false_eq_true, Option.map_some, Option.map_none, Option.bind_some, Option.some.injEq, decide_true, decide_false, decide_eq_true_eq, szOk_0, szOk_1, szOk_2, szOk_3, szOk_4, szOk_5, szOk_6, szOk_7, szOk_8, szOk_9, szOk_10, szOk_11, szOk_12, szOk_13, szOk_14, szOk_15, szOk_16, szOk_17, szOk_18, szOk_19, szOk_20, isScal_c0, isScal_c1, isScal_c2, isScal_c3, isScal_c4, isNonD_c0, b2_c0, b2_c1, b2_c2, b2_c3, b2_c4, b2_c5, b2_c6, b2_c7, b2_c8, b2_c9, b2_c10, b2_c11, b2_c12, b2_c13, b2_c14, b2_c15, b2_c16, c2_c0, c2_c1, c2_c2, c2_c3, c2_c4, c2_c5, c2_c6, c2_c7, ixS_c0, ixS_c1, ixS_c2, ixS_c3, slS_c0, slS_c1, slS_c2, slS_c3, f1S_c0, f1S_c1, f1S_c2, f1S_c3, f1S_c4, f1S_c5, f1S_c6, f1S_c7, f1S_c8, f1S_c9, f1S_c10, f1S_c11, f1S_c12, f1S_c13, f1S_c14, f1S_c15, f1S_c16, f2S_c0, f2S_c1, m1S_c0, m1S_c1, m1S_c2, m1S_c3, recvOk_c0, recvOk_c1, recvOk_c2, recvOk_c3, recvOk_c4, recvOk_c5, recvOk_c6, isOwnL_c0, mmS_c0, mmS_c1, mmS_c2, mmS_c3, itemsOf_c0, itemsOf_c1, itemsOf_c2, seqOf_c0, seqOf_c1, fd0, fd1, fd2, fd3, fd4, fd5, fd6, fd7, fd8, fd9, fd10, fd11, fd12, fd13, fd14, fd15, fd16, fd17, fd18, fd19, fd20, fd21, fd22, fd23, fd24, fd25, fd26, fd27, fd28, $[$es:term],*])
namespace K38
open PySem L2 PV
/-! ### deeds by their names -/
section
variable {fs : List Str} {ds : List Dd} {ls : List Lk} {ws : List Int} {wish : Cd}
theorem holds_in_ok {k : Nat} (hk : 27 ≤ k) (hh : Hs fs ds ls ws wish) {c : Cd} (ho : c.over fs) (hd : c.deep ≤ 24) {w : Int} {Q : D → Option D → Prop} {X : Nat → Prop} (q : Q (.bl (c.tru fs w)) none) : wr (run lw.tb 1000 k 15 [hsF fs ds ls ws wish, c.toD, .int w]) Q X := by
  obtain ⟨k, rfl⟩ : ∃ k', k = k' + 1 := ⟨k - 1, by omega⟩
  rw [wr_runE fd15 rfl rfl rfl]
  show xB (Wk k []) bo15 [some (hsF fs ds ls ws wish), some c.toD, some (.int w)] _
  unfold bo15
  have cn := cd_no c
  exists if_true
  refine xE_callp (fd := _) fd17 rfl ?_
  exists at0, at1, at2, at3, at4, fF, hsF_no, hsF_cz, hsF_fz, no_fD, cz_fD, fz_fD, len_fD, noOwnL_ints, ints_cz, ints_fz, noOwnL_str, strs_cz, strs_fz, cn
  refine holds_ok hh.ff c ho (k := k) (by omega) ?_
  exists if_true
  exact q
theorem need_deeds_ok {k : Nat} (hk : 2 ≤ k) (hh : Hs fs ds ls ws wish) {rs : List Dd} (hr : ∀ d ∈ rs, d ∈ ds) (hl : rs.length ≤ 1000) {Q : D → Option D → Prop} {X : Nat → Prop} (q : Q (.lst true (rs.map (ddD false))) none) : wr (run lw.tb 1000 k 14 [hsF fs ds ls ws wish, .lst false (rs.map nmD)]) Q X := by
  obtain ⟨k, rfl⟩ : ∃ k', k = k' + 1 := ⟨k - 1, by omega⟩
  rw [wr_runE fd14 rfl rfl rfl]
  show xB (Wk k []) bo14 [some (hsF fs ds ls ws wish), some (.lst false (rs.map nmD)), none] _
  unfold bo14
  have rn : noOwnL (rs.map nmD) = true := nm_no rs
  have rz := noOwnL_canFz rn
  have rf := fzL_id rn
  exists rn, rz, rf
  refine kLc_map rs nmD (ddD false) (by simp) rfl ?_ (fun u _ => rfl) (by omega) ?_
  · intro d hd Q' hq
    have dn := ddF_no d
    have en : nmD d = .str d.1 := rfl
    rw [en] at hq ⊢
    simp only [xE_int, xE_str, xE_bl, xE_non, xE_fn, xE_glob, xE_var, xE_bin, xE_cmp, xE_isn, xE_not, xE_and, xE_or, xE_ife, xE_tup, xE_lst, xE_ix, xO_all, xOb_t, xOb_f, xE_slA, xE_chain, kCh1_ap, kCh2_ap, kCh3_f, kCh3_t, kCh4_ap, kXf_ap, xE_fr, xE_xis, kXis_ap, xOf_xc, noOwn_xc, xS_try1, kTry_ex, kTry_nx, kTry_rt, kTry_bk, kTry_ct, kTry2_t, kTry2_f, kUn_nx, kUn_rt, xSlot_s, xSlot_n, xFits_s, xFits_n, fits'_is, noXS_nil, noXS_s, noXS_n, noX_int, noX_str, noX_bl, noX_non, noX_scr, noX_tup, noX_lst, noX_dct, noXL_nil, noXL_cons, noXL_ints, noXL_strs, xE_dnw, xS_dput, kDp1_ap, kDp2_ap, kDp3_ap, isOwnD_d, xE_mmA, xE_vf, kVf_ap, xE_sset, kSset_ap, xE_trg, kTrg_i, trgD_t, trgD_f, xE_lc, unh_e, unh_rng1, unh_rng2, unh_enum, unh_zip, unh_hold, backS_nil, backS_cons, xE_rev, xE_f1, xE_f2, xE_isin, xE_m1, xE_neg, xL_nil, xL_cons, xA_nil, xA_cons, xP_nil, xP_cons, xT_e, xV_all, xVb_t, xVb_f, xVb_m, kMv_ap, kKeep_all, kKb_t, kKb_f, kFr0_s, kFr1_ap, kFr_ap, xF_e, xS_asg, xS_asgT, xS_aug, xS_setixA, xSb_t, xS_forA, xS_expr, xS_ret, xS_retn, xS_ife, xS_raise, xS_pass, xS_cont, xS_brk, xB_nil, xB_cons, xTst_all, xTb_t, xTb_f, xC1_s, xC2_v, xC2_t, xC2_a, isVar, xI_e, xI_rng1, xI_rng2, xI_enum, xI_zip, kSq_nx, kSq_rt, kSq_ex, kSq_bk, kSq_ct, kCond_t, kCond_f, kTurn_nx, kTurn_ct, kTurn_bk, kTurn_rt, kTurn_ex, kIf_t, kRet_ap, kB3_ap, kB2_ap, kB1_ap, kC4_ap, kC3_ap, kC2_ap, kC1_ap, kIsn_ap, kNot_ap, kBl_ap, kNo_ap, kTup_ap, kLst_ap, kX4_ap, kX3_ap, kX2_ap, kX1_ap, kSl3_ap, kSl2_ap, kSl1_ap, kF1_ap, kF22_ap, kF21_ap, kIsin_ap, kM2_ap, kM1_ap, kCons2_ap, kL1_ap, kA1_ap, kP2_ap, kP1_ap, kR_ap, kRX_ap, kCallp_ap, kRs_ap, kCallz_ap, kCalla_ap, kPut_ap, kRi_ap, kRXi_ap, kCi3_ap, kCi2_ap, kCi1_ap, kDrop_ap, kRt_ap, kCt2_ap, kCt1_ap, kAsg_ap, kAsgT_ap, kSet1_ap, kExpr_ap, kRtn_ap, kIt_ap, kItems_ap, kRng2_ap, kZip_ap, kFz_ap, hold_e, hold_rng1, hold_rng2, hold_enum, hold_zip, hold_hold, kAnd_t, kAnd_f, kOr_t, kOr_f, kIfe_t, kIfe_f, kO_i, kRev_l, kNeg_i, kTst_b, kAug_i, kAug1_i, kSet2_i, kSet3_l, kRng1_i, kRng22_i, kEnum_l, kZip2_l, kLcT_f, kLcT_t, kLcE_ap, fin_rt0, fin_nx0, fin_ex0, fin_rt1, fin_nx1, slot_0, slot_s, put_0, put_s, oS_some, wr_ok, PV.pure, pureEs, isMv, isNo, root, redo, B2.scal, F1.scal, M1.scal, fits, tcOf_non, tcOf_bool, tcOf_int, tcOf_str, tcOf_list, tcOf_tuple, isTC_bool_non, isTC_bool_bool, isTC_bool_int, isTC_bool_str, isTC_bool_list, isTC_bool_tuple, isTC_bool_dict, isTC_int_non, isTC_int_bool, isTC_int_int, isTC_int_str, isTC_int_list, isTC_int_tuple, isTC_int_dict, isTC_str_non, isTC_str_bool, isTC_str_int, isTC_str_str, isTC_str_list, isTC_str_tuple, isTC_str_dict, isTC_list_non, isTC_list_bool, isTC_list_int, isTC_list_str, isTC_list_list, isTC_list_tuple, isTC_list_dict, isTC_tuple_non, isTC_tuple_bool, isTC_tuple_int, isTC_tuple_str, isTC_tuple_list, isTC_tuple_tuple, isTC_tuple_dict, noOwn_tup, noOwn_lst, noOwn_int, noOwn_str, noOwn_bl, noOwn_non, noOwn_scr, noOwn_dct, noOwnL_nil, noOwnL_cons, canFz_tup, canFz_lst, canFz_int, canFz_str, canFz_bl, canFz_non, canFz_scr, canFzL_nil, canFzL_cons, fz_tup, fz_lst, fz_int, fz_str, fz_bl, fz_non, fz_scr, fzL_nil, fzL_cons, isTys, atI_0, atI_1, atI_2, atI_3, atI_4, ixN_0, ixN_1, ixN_2, eqD_int, Int.reduceLT, Int.reduceLE, Int.reduceNeg, Int.reduceAdd, Int.reduceSub, Int.reduceMul, Nat.reduceAdd, Nat.reduceLT, Nat.reduceLeDiff, Nat.reduceEqDiff, List.mem_cons, bindT, bindTs, Tg.slots, ownOk, wipeE, List.all_cons, List.all_nil, List.any_cons, List.any_nil, List.contains_eq_mem, List.not_mem_nil, List.length_cons, List.length_nil, List.set_cons_zero, List.set_cons_succ, List.cons_append, List.nil_append, Bool.not_true, Bool.not_false, Bool.and_true, Bool.true_and, Bool.and_false, Bool.false_and, Bool.or_true, Bool.true_or, Bool.or_false, Bool.false_or, Bool.and_self, Bool.or_self, Bool.and_eq_true, Bool.or_eq_true, Bool.not_eq_true', true_and, and_true, and_self, false_and, and_false, true_or, or_true, false_or, or_false, or_self, if_true, if_false, ite_true, ite_false, eq_self, Bool.false_eq_true, Option.map_some, Option.map_none, Option.bind_some, Option.some.injEq, decide_true, decide_false, decide_eq_true_eq, szOk_0, szOk_1, szOk_2, szOk_3, szOk_4, szOk_5, szOk_6, szOk_7, szOk_8, szOk_9, szOk_10, szOk_11, szOk_12, szOk_13, szOk_14, szOk_15, szOk_16, szOk_17, szOk_18, szOk_19, szOk_20, isScal_c0, isScal_c1, isScal_c2, isScal_c3, isScal_c4, isNonD_c0, b2_c0, b2_c1, b2_c2, b2_c3, b2_c4, b2_c5, b2_c6, b2_c7, b2_c8, b2_c9, b2_c10, b2_c11, b2_c12, b2_c13, b2_c14, b2_c15, b2_c16, c2_c0, c2_c1, c2_c2, c2_c3, c2_c4, c2_c5, c2_c6, c2_c7, ixS_c0, ixS_c1, ixS_c2, ixS_c3, slS_c0, slS_c1, slS_c2, slS_c3, f1S_c0, f1S_c1, f1S_c2, f1S_c3, f1S_c4, f1S_c5, f1S_c6, f1S_c7, f1S_c8, f1S_c9, f1S_c10, f1S_c11, f1S_c12, f1S_c13, f1S_c14, f1S_c15, f1S_c16, f2S_c0, f2S_c1, m1S_c0, m1S_c1, m1S_c2, m1S_c3, recvOk_c0, recvOk_c1, recvOk_c2, recvOk_c3, recvOk_c4, recvOk_c5, recvOk_c6, isOwnL_c0, mmS_c0, mmS_c1, mmS_c2, mmS_c3, itemsOf_c0, itemsOf_c1, itemsOf_c2, seqOf_c0, seqOf_c1, fd0, fd1, fd2, fd3, fd4, fd5, fd6, fd7, fd8, fd9, fd10, fd11, fd12, fd13, fd14, fd15, fd16, fd17, fd18, fd19, fd20, fd21, fd22, fd23, fd24, fd25, fd26, fd27, fd28] at hq
    exists if_true
    refine xE_callp (fd := _) fd22 rfl ?_
    exists hsF_no
    refine need_deed_ok (k := k) (by omega) hh (hr d hd) ?_
    exists dn
    exact hq
  · exists if_true
    exact q
end
end K38

end

section
open PySem L2 PV
open K38
local macro_rules
  | `(tactic| exists $es,*) => `(tactic| simp -implicitDefEqProofs only [xE_int, xE_str, xE_bl, xE_non, xE_fn, xE_glob, xE_var, xE_bin, xE_cmp, xE_isn, xE_not, xE_and, xE_or, xE_ife, xE_tup, xE_lst, xE_ix, xO_all, xOb_t, xOb_f, xE_slA, xE_chain, kCh1_ap, kCh2_ap, kCh3_f, kCh3_t, kCh4_ap, kXf_ap, xE_fr, xE_xis, kXis_ap, xOf_xc, noOwn_xc, xS_try1, kTry_ex, kTry_nx, kTry_rt, kTry_bk, kTry_ct, kTry2_t, kTry2_f, kUn_nx, kUn_rt, xSlot_s, xSlot_n, xFits_s, xFits_n, fits'_is, noXS_nil, noXS_s, noXS_n, noX_int, noX_str, noX_bl, noX_non, noX_scr, noX_tup, noX_lst, noX_dct, noXL_nil, noXL_cons, noXL_ints, noXL_strs, xE_dnw, xS_dput, kDp1_ap, kDp2_ap, kDp3_ap, isOwnD_d, xE_mmA, xE_vf, kVf_ap, xE_sset, kSset_ap, xE_trg, kTrg_i, trgD_t, trgD_f, xE_lc, unh_e, unh_rng1, unh_rng2, unh_enum, unh_zip, unh_hold, backS_nil, backS_cons, xE_rev, xE_f1, xE_f2, xE_isin, xE_m1, xE_neg, xL_nil, xL_cons, xA_nil, xA_cons, xP_nil, xP_cons, xT_e, xV_all, xVb_t, xVb_f, xVb_m, kMv_ap, kKeep_all, kKb_t, kKb_f, kFr0_s, kFr1_ap, kFr_ap, xF_e, xS_asg, xS_asgT, xS_aug, xS_setixA, xSb_t, xS_forA, xS_expr, xS_ret, xS_retn, xS_ife, xS_raise, xS_pass, xS_cont, xS_brk, xB_nil, xB_cons, xTst_all, xTb_t, xTb_f, xC1_s, xC2_v, xC2_t, xC2_a, isVar, xI_e, xI_rng1, xI_rng2, xI_enum, xI_zip, kSq_nx, kSq_rt, kSq_ex, kSq_bk, kSq_ct, kCond_t, kCond_f, kTurn_nx, kTurn_ct, kTurn_bk, kTurn_rt, kTurn_ex, kIf_t, kRet_ap, kB3_ap, kB2_ap, kB1_ap, kC4_ap, kC3_ap, kC2_ap, kC1_ap, kIsn_ap, kNot_ap, kBl_ap, kNo_ap, kTup_ap, kLst_ap, kX4_ap, kX3_ap, kX2_ap, kX1_ap, kSl3_ap, kSl2_ap, kSl1_ap, kF1_ap, kF22_ap, kF21_ap, kIsin_ap, kM2_ap, kM1_ap, kCons2_ap, kL1_ap, kA1_ap, kP2_ap, kP1_ap, kR_ap, kRX_ap, kCallp_ap, kRs_ap, kCallz_ap, kCalla_ap, kPut_ap, kRi_ap, kRXi_ap, kCi3_ap, kCi2_ap, kCi1_ap, kDrop_ap, kRt_ap, kCt2_ap, kCt1_ap, kAsg_ap, kAsgT_ap, kSet1_ap, kExpr_ap, kRtn_ap, kIt_ap, kItems_ap, kRng2_ap, kZip_ap, kFz_ap, hold_e, hold_rng1, hold_rng2, hold_enum, hold_zip, hold_hold, kAnd_t, kAnd_f, kOr_t, kOr_f, kIfe_t, kIfe_f, kO_i, kRev_l, kNeg_i, kTst_b, kAug_i, kAug1_i, kSet2_i, kSet3_l, kRng1_i, kRng22_i, kEnum_l, kZip2_l, kLcT_f, kLcT_t, kLcE_ap, fin_rt0, fin_nx0, fin_ex0, fin_rt1, fin_nx1, slot_0, slot_s, put_0, put_s, oS_some, wr_ok, PV.pure, pureEs, isMv, isNo, root, redo, B2.scal, F1.scal, M1.scal, fits, tcOf_non, tcOf_bool, tcOf_int, tcOf_str, tcOf_list, tcOf_tuple, isTC_bool_non, isTC_bool_bool, isTC_bool_int, isTC_bool_str, isTC_bool_list, isTC_bool_tuple, isTC_bool_dict, isTC_int_non, isTC_int_bool, isTC_int_int, isTC_int_str, isTC_int_list, isTC_int_tuple, isTC_int_dict, isTC_str_non, isTC_str_bool, isTC_str_int, isTC_str_str, isTC_str_list, isTC_str_tuple, isTC_str_dict, isTC_list_non, isTC_list_bool, isTC_list_int, isTC_list_str, isTC_list_list, isTC_list_tuple, isTC_list_dict, isTC_tuple_non, isTC_tuple_bool, isTC_tuple_int, isTC_tuple_str, isTC_tuple_list, isTC_tuple_tuple, isTC_tuple_dict, noOwn_tup, noOwn_lst, noOwn_int, noOwn_str, noOwn_bl, noOwn_non, noOwn_scr, noOwn_dct, noOwnL_nil, noOwnL_cons, canFz_tup, canFz_lst, canFz_int, canFz_str, canFz_bl, canFz_non, canFz_scr, canFzL_nil, canFzL_cons, fz_tup, fz_lst, fz_int, fz_str, fz_bl, fz_non, fz_scr, fzL_nil, fzL_cons, isTys, atI_0, atI_1, atI_2, atI_3, atI_4, ixN_0, ixN_1, ixN_2, eqD_int, Int.reduceLT, Int.reduceLE, Int.reduceNeg, Int.reduceAdd, Int.reduceSub, Int.reduceMul, Nat.reduceAdd, Nat.reduceLT, Nat.reduceLeDiff, Nat.reduceEqDiff, List.mem_cons, bindT, bindTs, Tg.slots, ownOk, wipeE, List.all_cons, List.all_nil, List.any_cons, List.any_nil, List.contains_eq_mem, List.not_mem_nil, List.length_cons, List.length_nil, List.set_cons_zero, List.set_cons_succ, List.cons_append, List.nil_append, Bool.not_true, Bool.not_false, Bool.and_true, Bool.true_and, Bool.and_false, Bool.false_and, Bool.or_true, Bool.true_or, Bool.or_false, Bool.false_or, Bool.and_self, Bool.or_self, Bool.and_eq_true, Bool.or_eq_true, Bool.not_eq_true', true_and, and_true, and_self, false_and, and_false, true_or, or_true, false_or, or_false, or_self, if_true, if_false, ite_true, ite_false, eq_self, Bool.false_eq_true, Option.map_some, Option.map_none, Option.bind_some, Option.some.injEq, decide_true, decide_false, decide_eq_true_eq, szOk_0, szOk_1, szOk_2, szOk_3, szOk_4, szOk_5, szOk_6, szOk_7, szOk_8, szOk_9, szOk_10, szOk_11, szOk_12, szOk_13, szOk_14, szOk_15, szOk_16, szOk_17, szOk_18, szOk_19, szOk_20, isScal_c0, isScal_c1, isScal_c2, isScal_c3, isScal_c4, isNonD_c0, b2_c0, b2_c1, b2_c2, b2_c3, b2_c4, b2_c5, b2_c6, b2_c7, b2_c8, b2_c9, b2_c10, b2_c11, b2_c12, b2_c13, b2_c14, b2_c15, b2_c16, c2_c0, c2_c1, c2_c2, c2_c3, c2_c4, c2_c5, c2_c6, c2_c7, ixS_c0, ixS_c1, ixS_c2, ixS_c3, slS_c0, slS_c1, slS_c2, slS_c3, f1S_c0, f1S_c1, f1S_c2, f1S_c3, f1S_c4, f1S_c5, f1S_c6, f1S_c7, f1S_c8, f1S_c9, f1S_c10, f1S_c11, f1S_c12, f1S_c13, f1S_c14, f1S_c15, f1S_c16, f2S_c0, f2S_c1, m1S_c0, m1S_c1, m1S_c2, m1S_c3, recvOk_c0, recvOk_c1, recvOk_c2, recvOk_c3, recvOk_c4, recvOk_c5, recvOk_c6, isOwnL_c0, mmS_c0, mmS_c1, mmS_c2, mmS_c3, itemsOf_c0, itemsOf_c1, itemsOf_c2, seqOf_c0, seqOf_c1, fd0, fd1, fd2, fd3, fd4, fd5, fd6, fd7, fd8, fd9, fd10, fd11, fd12, fd13, fd14, fd15, fd16, fd17, fd18, fd19, fd20, fd21, fd22, fd23, fd24, fd25, fd26, fd27, fd28, $[$es:term],*])
namespace K38
open PySem L2 PV
/-! ### the walk of a row -/
section
variable {fs : List Str} {ds : List Dd} {ls : List Lk} {ws : List Int} {wish : Cd}
theorem failing_ok {k : Nat} (hk : 28 ≤ k) (hh : Hs fs ds ls ws wish) {c : Cd} (ho : c.over fs) (hd : c.deep ≤ 24) {ns : List Int} {Q : D → Option D → Prop} {X : Nat → Prop} (q : Q (oiD (fail fs c ns)) none) : wr (run lw.tb 1000 k 21 [hsF fs ds ls ws wish, c.toD, .tup (ns.map .int)]) Q X := by
  obtain ⟨k, rfl⟩ : ∃ k', k = k' + 1 := ⟨k - 1, by omega⟩
  rw [wr_runE fd21 rfl rfl rfl]
  show xB (Wk k []) bo21 [some (hsF fs ds ls ws wish), some c.toD, some (.tup (ns.map .int)), none] _
  unfold bo21
  have cn := cd_no c
  exists noOwnL_ints, ints_cz, ints_fz
  refine kFor_inv (fun i ρ => ∃ v3, ρ = [some (hsF fs ds ls ws wish), some c.toD, some (.tup (ns.map .int)), v3] ∧ ∀ w ∈ ns.take i, c.tru fs w = true) (by decide) ⟨none, rfl, by simp⟩ ?_ ?_
  · rintro i x ρ hx ⟨v3, rfl, hall⟩
    obtain ⟨w, hw, rfl⟩ : ∃ w, ns[i]? = some w ∧ D.int w = x := by
      simp only [List.getElem?_map, Option.map_eq_some_iff] at hx
      exact hx
    have hi := (List.getElem?_eq_some_iff.mp hw).1
    exists if_true
    refine xE_callp (fd := _) fd15 rfl ?_
    exists hsF_no, cn
    refine holds_in_ok (k := k) (by omega) hh ho hd ?_
    cases ht : c.tru fs w with
    | true =>
      exists if_true
      refine ⟨_, rfl, ?_⟩
      intro y hy
      rw [List.take_succ, hw] at hy
      simp only [Option.toList_some, List.mem_append, List.mem_singleton] at hy
      rcases hy with hy | rfl
      · exact hall y hy
      · exact ht
    | false =>
      exists if_true
      have e : fail fs c ns = some w := by
        have hs : ns = ns.take i ++ w :: ns.drop (i + 1) := by
          have := List.getElem?_eq_some_iff.mp hw
          rw [← this.2, List.getElem_cons_drop, List.take_append_drop]
        unfold fail
        rw [hs, List.find?_append, List.find?_eq_none.mpr fun y hy => by simp [hall y hy]]
        simp [ht]
      rw [e] at q
      exact q
  · rintro ρ ⟨v3, rfl, hall⟩
    exists if_true
    have e : fail fs c ns = none := by
      unfold fail
      rw [List.find?_eq_none]
      intro y hy
      rw [List.length_map, List.take_length] at hall
      simp [hall y hy]
    rw [e] at q
    exact q
def goS : Ss := match bo11 with
  | .cons _ (.cons _ (.cons _ r)) => r
  | _ => .nil
def endS : Ss := match goS with
  | .cons _ r => r
  | _ => .nil
theorem endS_ok {k : Nat} (hk : 30 ≤ k) (hh : Hs fs ds ls ws wish) {acc : List (List Int)} {u : List Int} {v1 v2 v3 v5 v6 v7 : Option D} {Q : D → Option D → Prop} {X : Nat → Prop} (q : Q (rsD true ((match fail fs wish u with | some w => Rs.ends w | none => .well [u]).pre acc)) none) :
    xB (Wk k []) endS [some (hsF fs ds ls ws wish), v1, v2, v3, some (.lst true ((acc ++ [u]).map tuD)), v5, v6, v7] (fin false Q X) := by
  show xB (Wk k []) (.cons _ (.cons _ (.cons _ .nil))) _ _
  have cno := tuD_no (acc ++ [u])
  have a4 : ∀ kt, ixS kt (hsF fs ds ls ws wish) (.int 4) = some wish.toD := fun _ => rfl
  have wn := cd_no wish
  have al : atI ((acc ++ [u]).map tuD) (-1) = some (.tup (u.map .int)) := by
    have e1 : ixN ((acc ++ [u]).map tuD).length (-1) = some acc.length := by simp [ixN]; omega
    simp only [atI, e1]
    simp [tuD]
  exists if_true
  refine xE_callp (fd := _) fd21 rfl ?_
  exists a4, al, hsF_no, wn, cno, noOwnL_ints
  refine failing_ok (k := k) (by omega) hh hh.wo hh.wd ?_
  cases hf : fail fs wish u with
  | none =>
    rw [hf] at q
    have i1 : (true != true) = false := rfl
    have i2 : isNonD .non = true := rfl
    exists oiD, i1, i2
    exact q
  | some w =>
    rw [hf] at q
    have i1 : (true != isNonD (.int w)) = true := rfl
    exists oiD, i1
    exact q
theorem row_goes_ok {k : Nat} (hk : 32 ≤ k) (hh : Hs fs ds ls ws wish) {u : List Int} (hu : Crowd (2 ^ fs.length) u) {rs : List Dd} (hr : ∀ d ∈ rs, d ∈ ds) (hl : rs.length ≤ 1000) {Q : D → Option D → Prop} {X : Nat → Prop} (q : Q (rsD true (goes fs wish rs u)) none) : wr (run lw.tb 1000 k 11 [hsF fs ds ls ws wish, .tup (u.map .int), .lst false (rs.map nmD)]) Q X := by
  obtain ⟨k, rfl⟩ : ∃ k', k = k' + 1 := ⟨k - 1, by omega⟩
  rw [wr_runE fd11 rfl rfl rfl]
  show xB (Wk k []) (.cons _ (.cons _ (.cons _ (.cons _ endS)))) [some (hsF fs ds ls ws wish), some (.tup (u.map .int)), some (.lst false (rs.map nmD)), none, none, none, none, none] _
  have rn : noOwnL (rs.map nmD) = true := nm_no rs
  have rz := noOwnL_canFz rn
  have rf := fzL_id rn
  have dno := ddsF_no rs
  have dcz := noOwnL_canFz dno
  have dfz := fzL_id dno
  exists if_true
  refine xE_callp (fd := _) fd14 rfl ?_
  exists hsF_no, rn
  refine need_deeds_ok (k := k) (by omega) hh hr hl ?_
  exists if_true
  refine xE_callp (fd := _) fd20 rfl ?_
  exists hsF_no, noOwnL_ints
  refine need_crowd_ok (k := k) (by omega) hh hu (by have := crowd_len2 hh.ff hu; omega) ?_
  exists noOwnL_ints, dno, dcz, dfz
  refine kFor_inv (fun i ρ => ∃ (acc : List (List Int)) (c : List Int) (v5 v6 v7 : Option D), ρ = [some (hsF fs ds ls ws wish), none, some (.lst false (rs.map nmD)), some (.lst false (rs.map (ddD false))), some (.lst true ((acc ++ [c]).map tuD)), v5, v6, v7] ∧ acc.length = i ∧ Crowd (2 ^ fs.length) c ∧ goes fs wish rs u = (goes fs wish (rs.drop i) c).pre acc) (by decide) ⟨[], u, none, none, none, rfl, rfl, hu, by rw [List.drop_zero, pre_nil]⟩ ?_ ?_
  · rintro i x ρ hx ⟨acc, c, v5, v6, v7, rfl, hal, hc, hg⟩
    obtain ⟨d, hd, rfl⟩ := enums hx
    have hi := (List.getElem?_eq_some_iff.mp hd).1
    have hdm := hr d (List.mem_of_getElem? hd)
    have hD := hh.dd d hdm
    have dn := ddF_no d
    have dz := noOwn_canFz dn
    have dff := fz_id dn
    have nn := cd_no d.2.1
    have d1 : ∀ kt, ixS kt (ddD false d) (.int 1) = some d.2.1.toD := fun _ => rfl
    have cno := tuD_no (acc ++ [c])
    have al : atI ((acc ++ [c]).map tuD) (-1) = some (.tup (c.map .int)) := by
      have e1 : ixN ((acc ++ [c]).map tuD).length (-1) = some acc.length := by simp [ixN]; omega
      simp only [atI, e1]
      simp [tuD]
    have hdr : rs.drop i = d :: rs.drop (i + 1) := by
      have := List.getElem?_eq_some_iff.mp hd
      rw [← this.2, List.getElem_cons_drop]
    have e0 : 0 + i = i := by omega
    exists e0, dn
    refine xE_callp (fd := _) fd21 rfl ?_
    exists d1, al, hsF_no, dn, nn, cno, noOwnL_ints
    refine failing_ok (k := k) (by omega) hh hD.over hD.deep ?_
    rw [hdr] at hg
    cases hf : fail fs d.2.1 c with
    | some w =>
      simp only [goes, hf] at hg
      have i1 : (true != isNonD (.int w)) = true := rfl
      exists oiD, i1
      rw [hg] at q
      simp only [Rs.pre, rsD, Nat.add_zero, hal] at q
      exact q
    | none =>
      simp only [goes, hf, pre_pre] at hg
      have i1 : (true != true) = false := rfl
      have i2 : isNonD .non = true := rfl
      exists oiD, i1, i2
      refine xE_callp (fd := _) fd16 rfl ?_
      exists al, hsF_no, dn, cno, noOwnL_ints
      refine all_behind_ok (k := k) (by omega) hh hD (by have := crowd_len2 hh.ff hc; omega) ?_
      exists noOwnL_ints
      refine kMm_ap _ _ _ _ _ ((acc ++ [c]).map tuD) .non (((acc ++ [c]) ++ [beh fs d.2.2 c]).map tuD) rfl (by rw [PV.app_ok (by simp; omega)]; simp [tuD]) ?_
      exists if_true
      exact ⟨acc ++ [c], beh fs d.2.2 c, _, _, _, rfl, by simp; omega, beh_crowd hD hc, hg⟩
  · rintro ρ ⟨acc, c, v5, v6, v7, rfl, hal, hc, hg⟩
    rw [enum_len, List.length_map, List.drop_length] at hg
    rw [kSq_nx]
    refine endS_ok (by omega) hh ?_
    rw [hg] at q
    exact q
end
end K38

end

section
open PySem L2 PV
open K38
local macro_rules
  | `(tactic| exists $es,*) => `(tactic| simp -implicitDefEqProofs only [xE_int, xE_str, xE_bl, xE_non, xE_fn, xE_glob, xE_var, xE_bin, xE_cmp, xE_isn, xE_not, xE_and, xE_or, xE_ife, xE_tup, xE_lst, xE_ix, xO_all, xOb_t, xOb_f, xE_slA, xE_chain, kCh1_ap, kCh2_ap, kCh3_f, kCh3_t, kCh4_ap, kXf_ap, xE_fr, xE_xis, kXis_ap, xOf_xc, noOwn_xc, xS_try1, kTry_ex, kTry_nx, kTry_rt, kTry_bk, kTry_ct, kTry2_t, kTry2_f, kUn_nx, kUn_rt, xSlot_s, xSlot_n, xFits_s, xFits_n, fits'_is, noXS_nil, noXS_s, noXS_n, noX_int, noX_str, noX_bl, noX_non, noX_scr, noX_tup, noX_lst, noX_dct, noXL_nil, noXL_cons, noXL_ints, noXL_strs, xE_dnw, xS_dput, kDp1_ap, kDp2_ap, kDp3_ap, isOwnD_d, xE_mmA, xE_vf, kVf_ap, xE_sset, kSset_ap, xE_trg, kTrg_i, trgD_t, trgD_f, xE_lc, unh_e, unh_rng1, unh_rng2, unh_enum, unh_zip, unh_hold, backS_nil, backS_cons, xE_rev, xE_f1, xE_f2, xE_isin, xE_m1, xE_neg, xL_nil, xL_cons, xA_nil, xA_cons, xP_nil, xP_cons, xT_e, xV_all, xVb_t, xVb_f, xVb_m, kMv_ap, kKeep_all, kKb_t, kKb_f, kFr0_s, kFr1_ap, kFr_ap, xF_e, xS_asg, xS_asgT, xS_aug, xS_setixA, xSb_t, xS_forA, xS_expr, xS_ret, xS_retn, xS_ife, xS_raise, xS_pass, xS_cont, xS_brk, xB_nil, xB_cons, xTst_all, xTb_t, xTb_f, xC1_s, xC2_v, xC2_t, xC2_a, isVar, xI_e, xI_rng1, xI_rng2, xI_enum, xI_zip, kSq_nx, kSq_rt, kSq_ex, kSq_bk, kSq_ct, kCond_t, kCond_f, kTurn_nx, kTurn_ct, kTurn_bk, kTurn_rt, kTurn_ex, kIf_t, kRet_ap, kB3_ap, kB2_ap, kB1_ap, kC4_ap, kC3_ap, kC2_ap, kC1_ap, kIsn_ap, kNot_ap, kBl_ap, kNo_ap, kTup_ap, kLst_ap, kX4_ap, kX3_ap, kX2_ap, kX1_ap, kSl3_ap, kSl2_ap, kSl1_ap, kF1_ap, kF22_ap, kF21_ap, kIsin_ap, kM2_ap, kM1_ap, kCons2_ap, kL1_ap, kA1_ap, kP2_ap, kP1_ap, kR_ap, kRX_ap, kCallp_ap, kRs_ap, kCallz_ap, kCalla_ap, kPut_ap, kRi_ap, kRXi_ap, kCi3_ap, kCi2_ap, kCi1_ap, kDrop_ap, kRt_ap, kCt2_ap, kCt1_ap, kAsg_ap, kAsgT_ap, kSet1_ap, kExpr_ap, kRtn_ap, kIt_ap, kItems_ap, kRng2_ap, kZip_ap, kFz_ap, hold_e, hold_rng1, hold_rng2, hold_enum, hold_zip, hold_hold, kAnd_t, kAnd_f, kOr_t, kOr_f, kIfe_t, kIfe_f, kO_i, kRev_l, kNeg_i, kTst_b, kAug_i, kAug1_i, kSet2_i, kSet3_l, kRng1_i, kRng22_i, kEnum_l, kZip2_l, kLcT_f, kLcT_t, kLcE_ap, fin_rt0, fin_nx0, fin_ex0, fin_rt1, fin_nx1, slot_0, slot_s, put_0, put_s, oS_some, wr_ok, PV.pure, pureEs, isMv, isNo, root, redo, B2.scal, F1.scal, M1.scal, fits, tcOf_non, tcOf_bool, tcOf_int, tcOf_str, tcOf_list, tcOf_tuple, isTC_bool_non, isTC_bool_bool, isTC_bool_int, isTC_bool_str, isTC_bool_list, isTC_bool_tuple, isTC_bool_dict, isTC_int_non, isTC_int_bool, isTC_int_int, isTC_int_str, isTC_int_list, isTC_int_tuple, isTC_int_dict, isTC_str_non, isTC_str_bool, isTC_str_int, isTC_str_str, isTC_str_list, isTC_str_tuple, isTC_str_dict, isTC_list_non, isTC_list_bool, isTC_list_int, isTC_list_str, isTC_list_list, isTC_list_tuple, isTC_list_dict, isTC_tuple_non, isTC_tuple_bool, isTC_tuple_int, isTC_tuple_str, isTC_tuple_list, isTC_tuple_tuple, isTC_tuple_dict, noOwn_tup, noOwn_lst, noOwn_int, noOwn_str, noOwn_bl, noOwn_non, noOwn_scr, noOwn_dct, noOwnL_nil, noOwnL_cons, canFz_tup, canFz_lst, canFz_int, canFz_str, canFz_bl, canFz_non, canFz_scr, canFzL_nil, canFzL_cons, fz_tup, fz_lst, fz_int, fz_str, fz_bl, fz_non, fz_scr, fzL_nil, fzL_cons, isTys, atI_0, atI_1, atI_2, atI_3, atI_4, ixN_0, ixN_1, ixN_2, eqD_int, Int.reduceLT, Int.reduceLE, Int.reduceNeg, Int.reduceAdd, Int.reduceSub, Int.reduceMul, Nat.reduceAdd, Nat.reduceLT, Nat.reduceLeDiff, Nat.reduceEqDiff, List.mem_cons, bindT, bindTs, Tg.slots, ownOk, wipeE, List.all_cons, List.all_nil, List.any_cons, List.any_nil, List.contains_eq_mem, List.not_mem_nil, List.length_cons, List.length_nil, List.set_cons_zero, List.set_cons_succ, List.cons_append, List.nil_append, Bool.not_true, Bool.not_false, Bool.and_true, Bool.true_and, Bool.and_false, Bool.false_and, Bool.or_true, Bool.true_or, Bool.or_false, Bool.false_or, Bool.and_self, Bool.or_self, Bool.and_eq_true, Bool.or_eq_true, Bool.not_eq_true', true_and, and_true, and_self, false_and, and_false, true_or, or_true, false_or, or_false, or_self, if_true, if_false, ite_true, ite_false, eq_self, Bool.false_eq_true, Option.map_some, Option.map_none, Option.bind_some, Option.some.injEq, decide_true, decide_false, decide_eq_true_eq, szOk_0, szOk_1, szOk_2, szOk_3, szOk_4, szOk_5, szOk_6, szOk_7, szOk_8, szOk_9, szOk_10, szOk_11, szOk_12, szOk_13, szOk_14, szOk_15, szOk_16, szOk_17, szOk_18, szOk_19, szOk_20, isScal_c0, isScal_c1, isScal_c2, isScal_c3, isScal_c4, isNonD_c0, b2_c0, b2_c1, b2_c2, b2_c3, b2_c4, b2_c5, b2_c6, b2_c7, b2_c8, b2_c9, b2_c10, b2_c11, b2_c12, b2_c13, b2_c14, b2_c15, b2_c16, c2_c0, c2_c1, c2_c2, c2_c3, c2_c4, c2_c5, c2_c6, c2_c7, ixS_c0, ixS_c1, ixS_c2, ixS_c3, slS_c0, slS_c1, slS_c2, slS_c3, f1S_c0, f1S_c1, f1S_c2, f1S_c3, f1S_c4, f1S_c5, f1S_c6, f1S_c7, f1S_c8, f1S_c9, f1S_c10, f1S_c11, f1S_c12, f1S_c13, f1S_c14, f1S_c15, f1S_c16, f2S_c0, f2S_c1, m1S_c0, m1S_c1, m1S_c2, m1S_c3, recvOk_c0, recvOk_c1, recvOk_c2, recvOk_c3, recvOk_c4, recvOk_c5, recvOk_c6, isOwnL_c0, mmS_c0, mmS_c1, mmS_c2, mmS_c3, itemsOf_c0, itemsOf_c1, itemsOf_c2, seqOf_c0, seqOf_c1, fd0, fd1, fd2, fd3, fd4, fd5, fd6, fd7, fd8, fd9, fd10, fd11, fd12, fd13, fd14, fd15, fd16, fd17, fd18, fd19, fd20, fd21, fd22, fd23, fd24, fd25, fd26, fd27, fd28, $[$es:term],*])
namespace K38
open PySem L2 PV
theorem lit3 : PyData.canLay0 (.str "well") = true ∧ PyData.canLay0 (.str "stuck") = true ∧ PyData.canLay0 (.str "ends") = true := by decide +kernel
theorem tus_dat (us : List (List Int)) : datL 1 (us.map tuD) = true := datL_map fun u _ => by simp [tuD, dat, datL_ints]
theorem rs_dat {o : Bool} {r : Rs} : dat 3 (rsD o r) = true := by
  obtain ⟨l1, l2, l3⟩ := lit3
  cases r with
  | stuck p w => simp [rsD, dat, datL, l2]
  | ends w => simp [rsD, dat, datL, l3]
  | well cs => simp [rsD, dat, datL, l1, tus_dat]
theorem rs_same {o o' : Bool} {r : Rs} : eqD (rsD o r) (rsD o' r) = some true := eqD_same rs_dat (by omega) rs_dat (by omega) (by rw [(rs_fz o).2, (rs_fz o').2])
def rsS : Rs → Str
  | .stuck _ _ => "stuck"
  | .ends _ => "ends"
  | .well _ => "well"
theorem rs_0 {kt o : Bool} {r : Rs} : ixS kt (rsD o r) (.int 0) = some (.str (rsS r)) := by cases r <;> rfl
theorem fail_yes {fs : List Str} {u : List Int} : fail fs .yes u = none := by
  unfold fail
  rw [List.find?_eq_none]
  intro w _
  simp [Cd.tru]
section
variable {fs : List Str} {ds : List Dd} {ls : List Lk} {ws : List Int} {wish : Cd}
theorem hs_yes (hh : Hs fs ds ls ws wish) : Hs fs ds ls ws .yes := ⟨hh.ff, hh.dd, hh.ll, hh.dfew, hh.lfew, hh.ww, hh.wfew, trivial, by simp [Cd.deep], hh.nms⟩
theorem goes_app (hh : Hs fs ds ls ws wish) {ms : List Dd} : ∀ {rs : List Dd} {u : List Int}, (∀ d ∈ rs, d ∈ ds) → Crowd (2 ^ fs.length) u →
    (∃ p w, goes fs .yes rs u = .stuck p w ∧ goes fs wish (rs ++ ms) u = .stuck p w) ∨ (∃ acc c, goes fs .yes rs u = .well (acc ++ [c]) ∧ acc.length = rs.length ∧ Crowd (2 ^ fs.length) c ∧ goes fs wish (rs ++ ms) u = (goes fs wish ms c).pre acc)
  | [], u, _, hu => .inr ⟨[], u, by simp [goes, fail_yes], rfl, hu, by rw [pre_nil]; rfl⟩
  | d :: rs, u, hr, hu => by
    have hD := hh.dd d (hr d (by simp))
    simp only [List.cons_append, goes]
    cases hf : fail fs d.2.1 u with
    | some w => exact .inl ⟨0, w, rfl, rfl⟩
    | none =>
      rcases goes_app hh (ms := ms) (rs := rs) (u := beh fs d.2.2 u) (fun e he => hr e (by simp [he])) (beh_crowd hD hu) with ⟨p, w, h1, h2⟩ | ⟨acc, c, h1, h2, h3, h4⟩
      · refine .inl ⟨1 + p, w, ?_, ?_⟩
        · simp only [h1, Rs.pre]; rfl
        · simp only [h2, Rs.pre]; rfl
      · refine .inr ⟨u :: acc, c, ?_, by simp [h2], h3, ?_⟩
        · simp only [h1, Rs.pre]; rfl
        · simp only [h4, pre_pre]; rfl
theorem goes_len {fs : List Str} {w : Cd} : ∀ {rs : List Dd} {u : List Int} {cs : List (List Int)}, goes fs w rs u = .well cs → cs.length = rs.length + 1
  | [], u, cs, h => by
    simp only [goes] at h
    cases hf : fail fs w u with
    | some y => rw [hf] at h; cases h
    | none =>
      rw [hf] at h
      simp only [Rs.well.injEq] at h
      subst h; rfl
  | d :: rs, u, cs, h => by
    simp only [goes] at h
    cases hf : fail fs d.2.1 u with
    | some y => rw [hf] at h; cases h
    | none =>
      rw [hf] at h
      cases hg : goes fs w rs (beh fs d.2.2 u) with
      | stuck p z => simp only [hg, Rs.pre] at h; cases h
      | ends z => simp only [hg, Rs.pre] at h; cases h
      | well cs0 =>
        simp only [hg, Rs.pre, Rs.well.injEq] at h
        have := goes_len hg
        subst h
        simp [this]
theorem cut_but {us : List (List Int)} {c : List Int} : cutD ((us ++ [c]).map tuD) none (some (-1)) = us.map tuD := by
  have e : HT.sIx ((us ++ [c]).map tuD).length 0 none = 0 := rfl
  have e2 : HT.sIx ((us ++ [c]).map tuD).length ((us ++ [c]).map tuD).length (some (-1)) = us.length := by
    simp [HT.sIx]
    omega
  simp only [cutD, e, e2, List.drop_zero, Nat.sub_zero]
  simp
theorem at_lastT {us : List (List Int)} {c : List Int} : atI ((us ++ [c]).map tuD) (-1) = some (.tup (c.map .int)) := by
  have e1 : ixN ((us ++ [c]).map tuD).length (-1) = some us.length := by simp [ixN]; omega
  simp only [atI, e1]
  simp [tuD]
theorem eq_str {a b : Str} (h : (PyData.canLay0 (.str a) && PyData.canLay0 (.str b)) = true) : eqD (.str a) (.str b) = some (a == b) := by
  rw [Bool.and_eq_true] at h
  exact eqD_str2 h.1 h.2
theorem sw1 : eqD (.str "stuck") (.str "well") = some false := by decide +kernel
theorem sw2 : eqD (.str "well") (.str "well") = some true := by decide +kernel
theorem sw3 : eqD (.str "ends") (.str "well") = some false := by decide +kernel
theorem sw4 : eqD (.str "stuck") (.str "stuck") = some true := by decide +kernel
theorem sw5 : eqD (.str "ends") (.str "stuck") = some false := by decide +kernel
theorem sw6 : eqD (.str "well") (.str "stuck") = some false := by decide +kernel
end
theorem goes_end {fs : List Str} {w : Cd} : ∀ {rs : List Dd} {u : List Int} {cs : List (List Int)}, goes fs w rs u = .well cs → ∃ acc c, cs = acc ++ [c] ∧ fail fs w c = none
  | [], u, cs, h => by
    simp only [goes] at h
    cases hf : fail fs w u with
    | some y => rw [hf] at h; cases h
    | none =>
      rw [hf] at h
      simp only [Rs.well.injEq] at h
      exact ⟨[], u, h.symm, hf⟩
  | d :: rs, u, cs, h => by
    simp only [goes] at h
    cases hf : fail fs d.2.1 u with
    | some y => rw [hf] at h; cases h
    | none =>
      rw [hf] at h
      cases hg : goes fs w rs (beh fs d.2.2 u) with
      | stuck p z => simp only [hg, Rs.pre] at h; cases h
      | ends z => simp only [hg, Rs.pre] at h; cases h
      | well cs0 =>
        simp only [hg, Rs.pre, Rs.well.injEq] at h
        obtain ⟨acc, c, h1, h2⟩ := goes_end hg
        exact ⟨u :: acc, c, by rw [← h, h1]; rfl, h2⟩
theorem goes_cr {fs : List Str} {ds : List Dd} {w : Cd} (hdd : ∀ d ∈ ds, Deed fs d) : ∀ {rs : List Dd} {u : List Int} {cs : List (List Int)}, (∀ d ∈ rs, d ∈ ds) → Crowd (2 ^ fs.length) u → goes fs w rs u = .well cs → (∀ c ∈ cs, Crowd (2 ^ fs.length) c) ∧ cs.length = rs.length + 1
  | [], u, cs, hr, hu, h => by
    simp only [goes] at h
    cases hf : fail fs w u with
    | some y => rw [hf] at h; cases h
    | none =>
      rw [hf] at h
      simp only [Rs.well.injEq] at h
      subst h
      exact ⟨by simpa using hu, rfl⟩
  | d :: rs, u, cs, hr, hu, h => by
    simp only [goes] at h
    cases hf : fail fs d.2.1 u with
    | some y => rw [hf] at h; cases h
    | none =>
      rw [hf] at h
      have hD := hdd d (hr d (by simp))
      cases hg : goes fs w rs (beh fs d.2.2 u) with
      | stuck p z => simp only [hg, Rs.pre] at h; cases h
      | ends z => simp only [hg, Rs.pre] at h; cases h
      | well cs0 =>
        simp only [hg, Rs.pre, Rs.well.injEq] at h
        obtain ⟨h1, h2⟩ := goes_cr hdd (fun e he => hr e (by simp [he])) (beh_crowd hD hu) hg
        subst h
        refine ⟨?_, by simp [h2]⟩
        intro c hc
        simp only [List.cons_append, List.nil_append, List.mem_cons] at hc
        rcases hc with rfl | hc
        · exact hu
        · exact h1 c hc
end K38

end

section
open PySem L2 PV
open K38
local macro_rules
  | `(tactic| exists $es,*) => `(tactic| simp -implicitDefEqProofs only [xE_int, xE_str, xE_bl, xE_non, xE_fn, xE_glob, xE_var, xE_bin, xE_cmp, xE_isn, xE_not, xE_and, xE_or, xE_ife, xE_tup, xE_lst, xE_ix, xO_all, xOb_t, xOb_f, xE_slA, xE_chain, kCh1_ap, kCh2_ap, kCh3_f, kCh3_t, kCh4_ap, kXf_ap, xE_fr, xE_xis, kXis_ap, xOf_xc, noOwn_xc, xS_try1, kTry_ex, kTry_nx, kTry_rt, kTry_bk, kTry_ct, kTry2_t, kTry2_f, kUn_nx, kUn_rt, xSlot_s, xSlot_n, xFits_s, xFits_n, fits'_is, noXS_nil, noXS_s, noXS_n, noX_int, noX_str, noX_bl, noX_non, noX_scr, noX_tup, noX_lst, noX_dct, noXL_nil, noXL_cons, noXL_ints, noXL_strs, xE_dnw, xS_dput, kDp1_ap, kDp2_ap, kDp3_ap, isOwnD_d, xE_mmA, xE_vf, kVf_ap, xE_sset, kSset_ap, xE_trg, kTrg_i, trgD_t, trgD_f, xE_lc, unh_e, unh_rng1, unh_rng2, unh_enum, unh_zip, unh_hold, backS_nil, backS_cons, xE_rev, xE_f1, xE_f2, xE_isin, xE_m1, xE_neg, xL_nil, xL_cons, xA_nil, xA_cons, xP_nil, xP_cons, xT_e, xV_all, xVb_t, xVb_f, xVb_m, kMv_ap, kKeep_all, kKb_t, kKb_f, kFr0_s, kFr1_ap, kFr_ap, xF_e, xS_asg, xS_asgT, xS_aug, xS_setixA, xSb_t, xS_forA, xS_expr, xS_ret, xS_retn, xS_ife, xS_raise, xS_pass, xS_cont, xS_brk, xB_nil, xB_cons, xTst_all, xTb_t, xTb_f, xC1_s, xC2_v, xC2_t, xC2_a, isVar, xI_e, xI_rng1, xI_rng2, xI_enum, xI_zip, kSq_nx, kSq_rt, kSq_ex, kSq_bk, kSq_ct, kCond_t, kCond_f, kTurn_nx, kTurn_ct, kTurn_bk, kTurn_rt, kTurn_ex, kIf_t, kRet_ap, kB3_ap, kB2_ap, kB1_ap, kC4_ap, kC3_ap, kC2_ap, kC1_ap, kIsn_ap, kNot_ap, kBl_ap, kNo_ap, kTup_ap, kLst_ap, kX4_ap, kX3_ap, kX2_ap, kX1_ap, kSl3_ap, kSl2_ap, kSl1_ap, kF1_ap, kF22_ap, kF21_ap, kIsin_ap, kM2_ap, kM1_ap, kCons2_ap, kL1_ap, kA1_ap, kP2_ap, kP1_ap, kR_ap, kRX_ap, kCallp_ap, kRs_ap, kCallz_ap, kCalla_ap, kPut_ap, kRi_ap, kRXi_ap, kCi3_ap, kCi2_ap, kCi1_ap, kDrop_ap, kRt_ap, kCt2_ap, kCt1_ap, kAsg_ap, kAsgT_ap, kSet1_ap, kExpr_ap, kRtn_ap, kIt_ap, kItems_ap, kRng2_ap, kZip_ap, kFz_ap, hold_e, hold_rng1, hold_rng2, hold_enum, hold_zip, hold_hold, kAnd_t, kAnd_f, kOr_t, kOr_f, kIfe_t, kIfe_f, kO_i, kRev_l, kNeg_i, kTst_b, kAug_i, kAug1_i, kSet2_i, kSet3_l, kRng1_i, kRng22_i, kEnum_l, kZip2_l, kLcT_f, kLcT_t, kLcE_ap, fin_rt0, fin_nx0, fin_ex0, fin_rt1, fin_nx1, slot_0, slot_s, put_0, put_s, oS_some, wr_ok, PV.pure, pureEs, isMv, isNo, root, redo, B2.scal, F1.scal, M1.scal, fits, tcOf_non, tcOf_bool, tcOf_int, tcOf_str, tcOf_list, tcOf_tuple, isTC_bool_non, isTC_bool_bool, isTC_bool_int, isTC_bool_str, isTC_bool_list, isTC_bool_tuple, isTC_bool_dict, isTC_int_non, isTC_int_bool, isTC_int_int, isTC_int_str, isTC_int_list, isTC_int_tuple, isTC_int_dict, isTC_str_non, isTC_str_bool, isTC_str_int, isTC_str_str, isTC_str_list, isTC_str_tuple, isTC_str_dict, isTC_list_non, isTC_list_bool, isTC_list_int, isTC_list_str, isTC_list_list, isTC_list_tuple, isTC_list_dict, isTC_tuple_non, isTC_tuple_bool, isTC_tuple_int, isTC_tuple_str, isTC_tuple_list, isTC_tuple_tuple, isTC_tuple_dict, noOwn_tup, noOwn_lst, noOwn_int, noOwn_str, noOwn_bl, noOwn_non, noOwn_scr, noOwn_dct, noOwnL_nil, noOwnL_cons, canFz_tup, canFz_lst, canFz_int, canFz_str, canFz_bl, canFz_non, canFz_scr, canFzL_nil, canFzL_cons, fz_tup, fz_lst, fz_int, fz_str, fz_bl, fz_non, fz_scr, fzL_nil, fzL_cons, isTys, atI_0, atI_1, atI_2, atI_3, atI_4, ixN_0, ixN_1, ixN_2, eqD_int, Int.reduceLT, Int.reduceLE, Int.reduceNeg, Int.reduceAdd, Int.reduceSub, Int.reduceMul, Nat.reduceAdd, Nat.reduceLT, Nat.reduceLeDiff, Nat.reduceEqDiff, List.mem_cons, bindT, bindTs, Tg.slots, ownOk, wipeE, List.all_cons, List.all_nil, List.any_cons, List.any_nil, List.contains_eq_mem, List.not_mem_nil, List.length_cons, List.length_nil, List.set_cons_zero, List.set_cons_succ, List.cons_append, List.nil_append, Bool.not_true, Bool.not_false, Bool.and_true, Bool.true_and, Bool.and_false, Bool.false_and, Bool.or_true, Bool.true_or, Bool.or_false, Bool.false_or, Bool.and_self, Bool.or_self, Bool.and_eq_true, Bool.or_eq_true, Bool.not_eq_true', true_and, and_true, and_self, false_and, and_false, true_or, or_true, false_or, or_false, or_self, if_true, if_false, ite_true, ite_false, eq_self, Bool.false_eq_true, Option.map_some, Option.map_none, Option.bind_some, Option.some.injEq, decide_true, decide_false, decide_eq_true_eq, szOk_0, szOk_1, szOk_2, szOk_3, szOk_4, szOk_5, szOk_6, szOk_7, szOk_8, szOk_9, szOk_10, szOk_11, szOk_12, szOk_13, szOk_14, szOk_15, szOk_16, szOk_17, szOk_18, szOk_19, szOk_20, isScal_c0, isScal_c1, isScal_c2, isScal_c3, isScal_c4, isNonD_c0, b2_c0, b2_c1, b2_c2, b2_c3, b2_c4, b2_c5, b2_c6, b2_c7, b2_c8, b2_c9, b2_c10, b2_c11, b2_c12, b2_c13, b2_c14, b2_c15, b2_c16, c2_c0, c2_c1, c2_c2, c2_c3, c2_c4, c2_c5, c2_c6, c2_c7, ixS_c0, ixS_c1, ixS_c2, ixS_c3, slS_c0, slS_c1, slS_c2, slS_c3, f1S_c0, f1S_c1, f1S_c2, f1S_c3, f1S_c4, f1S_c5, f1S_c6, f1S_c7, f1S_c8, f1S_c9, f1S_c10, f1S_c11, f1S_c12, f1S_c13, f1S_c14, f1S_c15, f1S_c16, f2S_c0, f2S_c1, m1S_c0, m1S_c1, m1S_c2, m1S_c3, recvOk_c0, recvOk_c1, recvOk_c2, recvOk_c3, recvOk_c4, recvOk_c5, recvOk_c6, isOwnL_c0, mmS_c0, mmS_c1, mmS_c2, mmS_c3, itemsOf_c0, itemsOf_c1, itemsOf_c2, seqOf_c0, seqOf_c1, fd0, fd1, fd2, fd3, fd4, fd5, fd6, fd7, fd8, fd9, fd10, fd11, fd12, fd13, fd14, fd15, fd16, fd17, fd18, fd19, fd20, fd21, fd22, fd23, fd24, fd25, fd26, fd27, fd28, $[$es:term],*])
namespace K38
open PySem L2 PV
theorem eqv_ints : ∀ {a b : List Int}, PyData.eqvAll (a.map PyData.int) (b.map PyData.int) = decide (a = b)
  | [], [] => rfl
  | [], _ :: _ => rfl
  | _ :: _, [] => rfl
  | x :: xs, y :: ys => by
    show (PyData.eqv (.int x) (.int y) && PyData.eqvAll (xs.map PyData.int) (ys.map PyData.int)) = _
    rw [eqv_ints (a := xs) (b := ys)]
    have : PyData.eqv (.int x) (.int y) = (x == y) := rfl
    rw [this]
    by_cases h : x = y
    · subst h
      by_cases h2 : xs = ys <;> simp [h2]
    · simp [h]
/-- ints, as tuples -/
theorem eqD_tints {a b : List Int} : eqD (.tup (a.map .int)) (.tup (b.map .int)) = some (decide (a = b)) := by
  obtain ⟨x, y, h1, h2, h3⟩ := eqD_dat (n := 1) (m := 1) (a := .tup (a.map .int)) (b := .tup (b.map .int)) (by simp [dat, datL_ints]) (by omega) (by simp [dat, datL_ints]) (by omega)
  rw [h3]
  simp only [py, pyL_ints, Option.map_some, Option.some.injEq] at h1 h2
  subst h1 h2
  exact congrArg some eqv_ints
theorem eqD_lints {o o2 : Bool} {a b : List Int} : eqD (.lst o (a.map .int)) (.lst o2 (b.map .int)) = some (decide (a = b)) := by
  obtain ⟨x, y, h1, h2, h3⟩ := eqD_dat (n := 1) (m := 1) (a := .lst o (a.map .int)) (b := .lst o2 (b.map .int)) (by simp [dat, datL_ints]) (by omega) (by simp [dat, datL_ints]) (by omega)
  rw [h3]
  simp only [py, pyL_ints, Option.map_some, Option.some.injEq] at h1 h2
  subst h1 h2
  exact congrArg some eqv_ints
theorem tup_nil {a : List Int} : eqD (.tup (a.map .int)) (.tup []) = some (decide (a = [])) := eqD_tints (b := [])
end K38

end

section
open PySem L2 PV
open K38
local macro_rules
  | `(tactic| exists $es,*) => `(tactic| simp -implicitDefEqProofs only [xE_int, xE_str, xE_bl, xE_non, xE_fn, xE_glob, xE_var, xE_bin, xE_cmp, xE_isn, xE_not, xE_and, xE_or, xE_ife, xE_tup, xE_lst, xE_ix, xO_all, xOb_t, xOb_f, xE_slA, xE_chain, kCh1_ap, kCh2_ap, kCh3_f, kCh3_t, kCh4_ap, kXf_ap, xE_fr, xE_xis, kXis_ap, xOf_xc, noOwn_xc, xS_try1, kTry_ex, kTry_nx, kTry_rt, kTry_bk, kTry_ct, kTry2_t, kTry2_f, kUn_nx, kUn_rt, xSlot_s, xSlot_n, xFits_s, xFits_n, fits'_is, noXS_nil, noXS_s, noXS_n, noX_int, noX_str, noX_bl, noX_non, noX_scr, noX_tup, noX_lst, noX_dct, noXL_nil, noXL_cons, noXL_ints, noXL_strs, xE_dnw, xS_dput, kDp1_ap, kDp2_ap, kDp3_ap, isOwnD_d, xE_mmA, xE_vf, kVf_ap, xE_sset, kSset_ap, xE_trg, kTrg_i, trgD_t, trgD_f, xE_lc, unh_e, unh_rng1, unh_rng2, unh_enum, unh_zip, unh_hold, backS_nil, backS_cons, xE_rev, xE_f1, xE_f2, xE_isin, xE_m1, xE_neg, xL_nil, xL_cons, xA_nil, xA_cons, xP_nil, xP_cons, xT_e, xV_all, xVb_t, xVb_f, xVb_m, kMv_ap, kKeep_all, kKb_t, kKb_f, kFr0_s, kFr1_ap, kFr_ap, xF_e, xS_asg, xS_asgT, xS_aug, xS_setixA, xSb_t, xS_forA, xS_expr, xS_ret, xS_retn, xS_ife, xS_raise, xS_pass, xS_cont, xS_brk, xB_nil, xB_cons, xTst_all, xTb_t, xTb_f, xC1_s, xC2_v, xC2_t, xC2_a, isVar, xI_e, xI_rng1, xI_rng2, xI_enum, xI_zip, kSq_nx, kSq_rt, kSq_ex, kSq_bk, kSq_ct, kCond_t, kCond_f, kTurn_nx, kTurn_ct, kTurn_bk, kTurn_rt, kTurn_ex, kIf_t, kRet_ap, kB3_ap, kB2_ap, kB1_ap, kC4_ap, kC3_ap, kC2_ap, kC1_ap, kIsn_ap, kNot_ap, kBl_ap, kNo_ap, kTup_ap, kLst_ap, kX4_ap, kX3_ap, kX2_ap, kX1_ap, kSl3_ap, kSl2_ap, kSl1_ap, kF1_ap, kF22_ap, kF21_ap, kIsin_ap, kM2_ap, kM1_ap, kCons2_ap, kL1_ap, kA1_ap, kP2_ap, kP1_ap, kR_ap, kRX_ap, kCallp_ap, kRs_ap, kCallz_ap, kCalla_ap, kPut_ap, kRi_ap, kRXi_ap, kCi3_ap, kCi2_ap, kCi1_ap, kDrop_ap, kRt_ap, kCt2_ap, kCt1_ap, kAsg_ap, kAsgT_ap, kSet1_ap, kExpr_ap, kRtn_ap, kIt_ap, kItems_ap, kRng2_ap, kZip_ap, kFz_ap, hold_e, hold_rng1, hold_rng2, hold_enum, hold_zip, hold_hold, kAnd_t, kAnd_f, kOr_t, kOr_f, kIfe_t, kIfe_f, kO_i, kRev_l, kNeg_i, kTst_b, kAug_i, kAug1_i, kSet2_i, kSet3_l, kRng1_i, kRng22_i, kEnum_l, kZip2_l, kLcT_f, kLcT_t, kLcE_ap, fin_rt0, fin_nx0, fin_ex0, fin_rt1, fin_nx1, slot_0, slot_s, put_0, put_s, oS_some, wr_ok, PV.pure, pureEs, isMv, isNo, root, redo, B2.scal, F1.scal, M1.scal, fits, tcOf_non, tcOf_bool, tcOf_int, tcOf_str, tcOf_list, tcOf_tuple, isTC_bool_non, isTC_bool_bool, isTC_bool_int, isTC_bool_str, isTC_bool_list, isTC_bool_tuple, isTC_bool_dict, isTC_int_non, isTC_int_bool, isTC_int_int, isTC_int_str, isTC_int_list, isTC_int_tuple, isTC_int_dict, isTC_str_non, isTC_str_bool, isTC_str_int, isTC_str_str, isTC_str_list, isTC_str_tuple, isTC_str_dict, isTC_list_non, isTC_list_bool, isTC_list_int, isTC_list_str, isTC_list_list, isTC_list_tuple, isTC_list_dict, isTC_tuple_non, isTC_tuple_bool, isTC_tuple_int, isTC_tuple_str, isTC_tuple_list, isTC_tuple_tuple, isTC_tuple_dict, noOwn_tup, noOwn_lst, noOwn_int, noOwn_str, noOwn_bl, noOwn_non, noOwn_scr, noOwn_dct, noOwnL_nil, noOwnL_cons, canFz_tup, canFz_lst, canFz_int, canFz_str, canFz_bl, canFz_non, canFz_scr, canFzL_nil, canFzL_cons, fz_tup, fz_lst, fz_int, fz_str, fz_bl, fz_non, fz_scr, fzL_nil, fzL_cons, isTys, atI_0, atI_1, atI_2, atI_3, atI_4, ixN_0, ixN_1, ixN_2, eqD_int, Int.reduceLT, Int.reduceLE, Int.reduceNeg, Int.reduceAdd, Int.reduceSub, Int.reduceMul, Nat.reduceAdd, Nat.reduceLT, Nat.reduceLeDiff, Nat.reduceEqDiff, List.mem_cons, bindT, bindTs, Tg.slots, ownOk, wipeE, List.all_cons, List.all_nil, List.any_cons, List.any_nil, List.contains_eq_mem, List.not_mem_nil, List.length_cons, List.length_nil, List.set_cons_zero, List.set_cons_succ, List.cons_append, List.nil_append, Bool.not_true, Bool.not_false, Bool.and_true, Bool.true_and, Bool.and_false, Bool.false_and, Bool.or_true, Bool.true_or, Bool.or_false, Bool.false_or, Bool.and_self, Bool.or_self, Bool.and_eq_true, Bool.or_eq_true, Bool.not_eq_true', true_and, and_true, and_self, false_and, and_false, true_or, or_true, false_or, or_false, or_self, if_true, if_false, ite_true, ite_false, eq_self, Bool.false_eq_true, Option.map_some, Option.map_none, Option.bind_some, Option.some.injEq, decide_true, decide_false, decide_eq_true_eq, szOk_0, szOk_1, szOk_2, szOk_3, szOk_4, szOk_5, szOk_6, szOk_7, szOk_8, szOk_9, szOk_10, szOk_11, szOk_12, szOk_13, szOk_14, szOk_15, szOk_16, szOk_17, szOk_18, szOk_19, szOk_20, isScal_c0, isScal_c1, isScal_c2, isScal_c3, isScal_c4, isNonD_c0, b2_c0, b2_c1, b2_c2, b2_c3, b2_c4, b2_c5, b2_c6, b2_c7, b2_c8, b2_c9, b2_c10, b2_c11, b2_c12, b2_c13, b2_c14, b2_c15, b2_c16, c2_c0, c2_c1, c2_c2, c2_c3, c2_c4, c2_c5, c2_c6, c2_c7, ixS_c0, ixS_c1, ixS_c2, ixS_c3, slS_c0, slS_c1, slS_c2, slS_c3, f1S_c0, f1S_c1, f1S_c2, f1S_c3, f1S_c4, f1S_c5, f1S_c6, f1S_c7, f1S_c8, f1S_c9, f1S_c10, f1S_c11, f1S_c12, f1S_c13, f1S_c14, f1S_c15, f1S_c16, f2S_c0, f2S_c1, m1S_c0, m1S_c1, m1S_c2, m1S_c3, recvOk_c0, recvOk_c1, recvOk_c2, recvOk_c3, recvOk_c4, recvOk_c5, recvOk_c6, isOwnL_c0, mmS_c0, mmS_c1, mmS_c2, mmS_c3, itemsOf_c0, itemsOf_c1, itemsOf_c2, seqOf_c0, seqOf_c1, fd0, fd1, fd2, fd3, fd4, fd5, fd6, fd7, fd8, fd9, fd10, fd11, fd12, fd13, fd14, fd15, fd16, fd17, fd18, fd19, fd20, fd21, fd22, fd23, fd24, fd25, fd26, fd27, fd28, $[$es:term],*])
namespace K38
open PySem L2 PV
/-- refused for the need alone -/
def due4 : D := .lst true [.bl false, .bl false, .bl false, .bl true, .bl false, .bl false, .bl false]
theorem due_map : (List.range 7).map (fun i : Nat => D.bl (decide (0 + (i : Int) = 3))) = [.bl false, .bl false, .bl false, .bl true, .bl false, .bl false, .bl false] := by rfl
theorem due_eq : eqD due4 due4 = some true := by decide +kernel
section
variable {fs : List Str} {ds : List Dd} {ls : List Lk} {ws : List Int} {wish : Cd}
theorem hs_noX {a b c d : Bool} (hh : Hs fs ds ls ws wish) : noX (hsG a b c d fs ds ls ws wish) = true := dat_noX (hs_dat hh)
theorem enumd : ∀ {us : List Dd} {k i : Nat} {x : D}, (enumI k (us.map (ddD false)))[i]? = some x → ∃ u, us[i]? = some u ∧ x = .tup [.int ((k + i : Nat) : Int), ddD false u]
  | [], k, i, x, h => by simp [enumI] at h
  | y :: ys, k, 0, x, h => by
    simp [enumI] at h
    exact ⟨y, rfl, by rw [← h]; rfl⟩
  | y :: ys, k, i + 1, x, h => by
    simp [enumI] at h
    obtain ⟨s, h1, h2⟩ := enumd (k := k + 1) h
    exact ⟨s, by simpa using h1, by rw [h2]; congr 3; omega⟩
theorem cando_1 {c : Cd} {w : Int} : cando fs c [w] = c.tru fs w := by
  unfold cando
  cases h : c.tru fs w <;> simp [h]
end
end K38

end

section
open PySem L2 PV
open K38
local macro_rules
  | `(tactic| exists $es,*) => `(tactic| simp -implicitDefEqProofs only [xE_int, xE_str, xE_bl, xE_non, xE_fn, xE_glob, xE_var, xE_bin, xE_cmp, xE_isn, xE_not, xE_and, xE_or, xE_ife, xE_tup, xE_lst, xE_ix, xO_all, xOb_t, xOb_f, xE_slA, xE_chain, kCh1_ap, kCh2_ap, kCh3_f, kCh3_t, kCh4_ap, kXf_ap, xE_fr, xE_xis, kXis_ap, xOf_xc, noOwn_xc, xS_try1, kTry_ex, kTry_nx, kTry_rt, kTry_bk, kTry_ct, kTry2_t, kTry2_f, kUn_nx, kUn_rt, xSlot_s, xSlot_n, xFits_s, xFits_n, fits'_is, noXS_nil, noXS_s, noXS_n, noX_int, noX_str, noX_bl, noX_non, noX_scr, noX_tup, noX_lst, noX_dct, noXL_nil, noXL_cons, noXL_ints, noXL_strs, xE_dnw, xS_dput, kDp1_ap, kDp2_ap, kDp3_ap, isOwnD_d, xE_mmA, xE_vf, kVf_ap, xE_sset, kSset_ap, xE_trg, kTrg_i, trgD_t, trgD_f, xE_lc, unh_e, unh_rng1, unh_rng2, unh_enum, unh_zip, unh_hold, backS_nil, backS_cons, xE_rev, xE_f1, xE_f2, xE_isin, xE_m1, xE_neg, xL_nil, xL_cons, xA_nil, xA_cons, xP_nil, xP_cons, xT_e, xV_all, xVb_t, xVb_f, xVb_m, kMv_ap, kKeep_all, kKb_t, kKb_f, kFr0_s, kFr1_ap, kFr_ap, xF_e, xS_asg, xS_asgT, xS_aug, xS_setixA, xSb_t, xS_forA, xS_expr, xS_ret, xS_retn, xS_ife, xS_raise, xS_pass, xS_cont, xS_brk, xB_nil, xB_cons, xTst_all, xTb_t, xTb_f, xC1_s, xC2_v, xC2_t, xC2_a, isVar, xI_e, xI_rng1, xI_rng2, xI_enum, xI_zip, kSq_nx, kSq_rt, kSq_ex, kSq_bk, kSq_ct, kCond_t, kCond_f, kTurn_nx, kTurn_ct, kTurn_bk, kTurn_rt, kTurn_ex, kIf_t, kRet_ap, kB3_ap, kB2_ap, kB1_ap, kC4_ap, kC3_ap, kC2_ap, kC1_ap, kIsn_ap, kNot_ap, kBl_ap, kNo_ap, kTup_ap, kLst_ap, kX4_ap, kX3_ap, kX2_ap, kX1_ap, kSl3_ap, kSl2_ap, kSl1_ap, kF1_ap, kF22_ap, kF21_ap, kIsin_ap, kM2_ap, kM1_ap, kCons2_ap, kL1_ap, kA1_ap, kP2_ap, kP1_ap, kR_ap, kRX_ap, kCallp_ap, kRs_ap, kCallz_ap, kCalla_ap, kPut_ap, kRi_ap, kRXi_ap, kCi3_ap, kCi2_ap, kCi1_ap, kDrop_ap, kRt_ap, kCt2_ap, kCt1_ap, kAsg_ap, kAsgT_ap, kSet1_ap, kExpr_ap, kRtn_ap, kIt_ap, kItems_ap, kRng2_ap, kZip_ap, kFz_ap, hold_e, hold_rng1, hold_rng2, hold_enum, hold_zip, hold_hold, kAnd_t, kAnd_f, kOr_t, kOr_f, kIfe_t, kIfe_f, kO_i, kRev_l, kNeg_i, kTst_b, kAug_i, kAug1_i, kSet2_i, kSet3_l, kRng1_i, kRng22_i, kEnum_l, kZip2_l, kLcT_f, kLcT_t, kLcE_ap, fin_rt0, fin_nx0, fin_ex0, fin_rt1, fin_nx1, slot_0, slot_s, put_0, put_s, oS_some, wr_ok, PV.pure, pureEs, isMv, isNo, root, redo, B2.scal, F1.scal, M1.scal, fits, tcOf_non, tcOf_bool, tcOf_int, tcOf_str, tcOf_list, tcOf_tuple, isTC_bool_non, isTC_bool_bool, isTC_bool_int, isTC_bool_str, isTC_bool_list, isTC_bool_tuple, isTC_bool_dict, isTC_int_non, isTC_int_bool, isTC_int_int, isTC_int_str, isTC_int_list, isTC_int_tuple, isTC_int_dict, isTC_str_non, isTC_str_bool, isTC_str_int, isTC_str_str, isTC_str_list, isTC_str_tuple, isTC_str_dict, isTC_list_non, isTC_list_bool, isTC_list_int, isTC_list_str, isTC_list_list, isTC_list_tuple, isTC_list_dict, isTC_tuple_non, isTC_tuple_bool, isTC_tuple_int, isTC_tuple_str, isTC_tuple_list, isTC_tuple_tuple, isTC_tuple_dict, noOwn_tup, noOwn_lst, noOwn_int, noOwn_str, noOwn_bl, noOwn_non, noOwn_scr, noOwn_dct, noOwnL_nil, noOwnL_cons, canFz_tup, canFz_lst, canFz_int, canFz_str, canFz_bl, canFz_non, canFz_scr, canFzL_nil, canFzL_cons, fz_tup, fz_lst, fz_int, fz_str, fz_bl, fz_non, fz_scr, fzL_nil, fzL_cons, isTys, atI_0, atI_1, atI_2, atI_3, atI_4, ixN_0, ixN_1, ixN_2, eqD_int, Int.reduceLT, Int.reduceLE, Int.reduceNeg, Int.reduceAdd, Int.reduceSub, Int.reduceMul, Nat.reduceAdd, Nat.reduceLT, Nat.reduceLeDiff, Nat.reduceEqDiff, List.mem_cons, bindT, bindTs, Tg.slots, ownOk, wipeE, List.all_cons, List.all_nil, List.any_cons, List.any_nil, List.contains_eq_mem, List.not_mem_nil, List.length_cons, List.length_nil, List.set_cons_zero, List.set_cons_succ, List.cons_append, List.nil_append, Bool.not_true, Bool.not_false, Bool.and_true, Bool.true_and, Bool.and_false, Bool.false_and, Bool.or_true, Bool.true_or, Bool.or_false, Bool.false_or, Bool.and_self, Bool.or_self, Bool.and_eq_true, Bool.or_eq_true, Bool.not_eq_true', true_and, and_true, and_self, false_and, and_false, true_or, or_true, false_or, or_false, or_self, if_true, if_false, ite_true, ite_false, eq_self, Bool.false_eq_true, Option.map_some, Option.map_none, Option.bind_some, Option.some.injEq, decide_true, decide_false, decide_eq_true_eq, szOk_0, szOk_1, szOk_2, szOk_3, szOk_4, szOk_5, szOk_6, szOk_7, szOk_8, szOk_9, szOk_10, szOk_11, szOk_12, szOk_13, szOk_14, szOk_15, szOk_16, szOk_17, szOk_18, szOk_19, szOk_20, isScal_c0, isScal_c1, isScal_c2, isScal_c3, isScal_c4, isNonD_c0, b2_c0, b2_c1, b2_c2, b2_c3, b2_c4, b2_c5, b2_c6, b2_c7, b2_c8, b2_c9, b2_c10, b2_c11, b2_c12, b2_c13, b2_c14, b2_c15, b2_c16, c2_c0, c2_c1, c2_c2, c2_c3, c2_c4, c2_c5, c2_c6, c2_c7, ixS_c0, ixS_c1, ixS_c2, ixS_c3, slS_c0, slS_c1, slS_c2, slS_c3, f1S_c0, f1S_c1, f1S_c2, f1S_c3, f1S_c4, f1S_c5, f1S_c6, f1S_c7, f1S_c8, f1S_c9, f1S_c10, f1S_c11, f1S_c12, f1S_c13, f1S_c14, f1S_c15, f1S_c16, f2S_c0, f2S_c1, m1S_c0, m1S_c1, m1S_c2, m1S_c3, recvOk_c0, recvOk_c1, recvOk_c2, recvOk_c3, recvOk_c4, recvOk_c5, recvOk_c6, isOwnL_c0, mmS_c0, mmS_c1, mmS_c2, mmS_c3, itemsOf_c0, itemsOf_c1, itemsOf_c2, seqOf_c0, seqOf_c1, fd0, fd1, fd2, fd3, fd4, fd5, fd6, fd7, fd8, fd9, fd10, fd11, fd12, fd13, fd14, fd15, fd16, fd17, fd18, fd19, fd20, fd21, fd22, fd23, fd24, fd25, fd26, fd27, fd28, $[$es:term],*])
namespace K38
open PySem L2 PV
section
variable {fs : List Str} {ds : List Dd} {ls : List Lk} {ws : List Int} {wish : Cd}
theorem need_world_ok {k : Nat} (hk : 2 ≤ k) (hh : Hs fs ds ls ws wish) {w : Int} (h0 : 0 ≤ w) (h1 : w < 2 ^ fs.length) {Q : D → Option D → Prop} {X : Nat → Prop} (q : Q .non none) : wr (run lw.tb 1000 k 24 [hsF fs ds ls ws wish, .int w]) Q X := by
  obtain ⟨k, rfl⟩ : ∃ k', k = k' + 1 := ⟨k - 1, by omega⟩
  rw [wr_runE fd24 rfl rfl rfl]
  show xB (Wk k []) bo24 [some (hsF fs ds ls ws wish), some (.int w)] _
  unfold bo24
  exists decide_eq_true h0
  refine xE_callp (fd := _) fd18 rfl ?_
  exists at0, at1, at2, at3, at4, fF, hsF_no, hsF_cz, hsF_fz, no_fD, cz_fD, fz_fD, len_fD, noOwnL_ints, ints_cz, ints_fz, noOwnL_str, strs_cz, strs_fz
  refine many_ok (k := k) (by omega) hh.ff ?_
  exists decide_eq_true h1
  exact q
theorem behind_by_ok {k : Nat} (hk : 30 ≤ k) (hh : Hs fs ds ls ws wish) {d : Dd} (hd : Deed fs d) {w : Int} {Q : D → Option D → Prop} {X : Nat → Prop} (q : Q (.lst true ((beh fs d.2.2 [w]).map .int)) none) : wr (run lw.tb 1000 k 25 [hsF fs ds ls ws wish, ddD false d, .int w]) Q X := by
  obtain ⟨k, rfl⟩ : ∃ k', k = k' + 1 := ⟨k - 1, by omega⟩
  rw [wr_runE fd25 rfl rfl rfl]
  show xB (Wk k []) bo25 [some (hsF fs ds ls ws wish), some (ddD false d), some (.int w)] _
  unfold bo25
  have hn := ddF_no d
  have hz := noOwn_canFz hn
  have hf := fz_id hn
  exists if_true
  refine xC_ap ?_
  exists at0, at1, at2, at3, at4, fF, hsF_no, hsF_cz, hsF_fz, no_fD, cz_fD, fz_fD, len_fD, noOwnL_ints, ints_cz, ints_fz, noOwnL_str, strs_cz, strs_fz, hn, hz, hf
  refine all_behind_ok (k := k) (by omega) hh hd (ns := [w]) (by simp) ?_
  exists noOwnL_ints
  exact q
theorem worlds_behind_ok {k : Nat} (hk : 32 ≤ k) (hh : Hs fs ds ls ws wish) {d : Dd} (hd : d ∈ ds) {w : Int} (h0 : 0 ≤ w) (h1 : w < 2 ^ fs.length) {Q : D → Option D → Prop} {X : Nat → Prop} (q : cando fs d.2.1 [w] = true → Q (.lst true ((beh fs d.2.2 [w]).map .int)) none) (x : cando fs d.2.1 [w] = false → X 2) : wr (run lw.tb 1000 k 19 [hsF fs ds ls ws wish, .str d.1, .int w]) Q X := by
  obtain ⟨k, rfl⟩ : ∃ k', k = k' + 1 := ⟨k - 1, by omega⟩
  rw [wr_runE fd19 rfl rfl rfl]
  show xB (Wk k []) bo19 [some (hsF fs ds ls ws wish), some (.str d.1), some (.int w), none] _
  unfold bo19
  have hn := ddF_no d
  have hz := noOwn_canFz hn
  have hf := fz_id hn
  have hD := hh.dd d hd
  exists if_true
  refine xE_callp (fd := _) fd22 rfl ?_
  exists at0, at1, at2, at3, at4, fF, hsF_no, hsF_cz, hsF_fz, no_fD, cz_fD, fz_fD, len_fD, noOwnL_ints, ints_cz, ints_fz, noOwnL_str, strs_cz, strs_fz
  refine need_deed_ok (k := k) (by omega) hh hd ?_
  exists hn
  refine xE_callp (fd := _) fd24 rfl ?_
  exists at0, at1, at2, at3, at4, fF, hsF_no, hsF_cz, hsF_fz, no_fD, cz_fD, fz_fD, len_fD, noOwnL_ints, ints_cz, ints_fz, noOwnL_str, strs_cz, strs_fz
  refine need_world_ok (k := k) (by omega) hh h0 h1 ?_
  exists if_true
  refine xC_ap ?_
  exists at0, at1, at2, at3, at4, fF, hsF_no, hsF_cz, hsF_fz, no_fD, cz_fD, fz_fD, len_fD, noOwnL_ints, ints_cz, ints_fz, noOwnL_str, strs_cz, strs_fz, hn, hz, hf
  refine can_ok (k := k) hh hD (by omega) (ns := [w]) (by simp) ?_
  cases hc : cando fs d.2.1 [w] with
  | false =>
    exists if_true
    exact x hc
  | true =>
    exists if_true
    refine xE_callp (fd := _) fd25 rfl ?_
    exists at0, at1, at2, at3, at4, fF, hsF_no, hsF_cz, hsF_fz, no_fD, cz_fD, fz_fD, len_fD, noOwnL_ints, ints_cz, ints_fz, noOwnL_str, strs_cz, strs_fz, hn
    refine behind_by_ok (k := k) (by omega) hh hD ?_
    exists if_true
    exact q hc
end
end K38

end

section
open PySem L2 PV
open K38
local macro_rules
  | `(tactic| exists $es,*) => `(tactic| simp -implicitDefEqProofs only [xE_int, xE_str, xE_bl, xE_non, xE_fn, xE_glob, xE_var, xE_bin, xE_cmp, xE_isn, xE_not, xE_and, xE_or, xE_ife, xE_tup, xE_lst, xE_ix, xO_all, xOb_t, xOb_f, xE_slA, xE_chain, kCh1_ap, kCh2_ap, kCh3_f, kCh3_t, kCh4_ap, kXf_ap, xE_fr, xE_xis, kXis_ap, xOf_xc, noOwn_xc, xS_try1, kTry_ex, kTry_nx, kTry_rt, kTry_bk, kTry_ct, kTry2_t, kTry2_f, kUn_nx, kUn_rt, xSlot_s, xSlot_n, xFits_s, xFits_n, fits'_is, noXS_nil, noXS_s, noXS_n, noX_int, noX_str, noX_bl, noX_non, noX_scr, noX_tup, noX_lst, noX_dct, noXL_nil, noXL_cons, noXL_ints, noXL_strs, xE_dnw, xS_dput, kDp1_ap, kDp2_ap, kDp3_ap, isOwnD_d, xE_mmA, xE_vf, kVf_ap, xE_sset, kSset_ap, xE_trg, kTrg_i, trgD_t, trgD_f, xE_lc, unh_e, unh_rng1, unh_rng2, unh_enum, unh_zip, unh_hold, backS_nil, backS_cons, xE_rev, xE_f1, xE_f2, xE_isin, xE_m1, xE_neg, xL_nil, xL_cons, xA_nil, xA_cons, xP_nil, xP_cons, xT_e, xV_all, xVb_t, xVb_f, xVb_m, kMv_ap, kKeep_all, kKb_t, kKb_f, kFr0_s, kFr1_ap, kFr_ap, xF_e, xS_asg, xS_asgT, xS_aug, xS_setixA, xSb_t, xS_forA, xS_expr, xS_ret, xS_retn, xS_ife, xS_raise, xS_pass, xS_cont, xS_brk, xB_nil, xB_cons, xTst_all, xTb_t, xTb_f, xC1_s, xC2_v, xC2_t, xC2_a, isVar, xI_e, xI_rng1, xI_rng2, xI_enum, xI_zip, kSq_nx, kSq_rt, kSq_ex, kSq_bk, kSq_ct, kCond_t, kCond_f, kTurn_nx, kTurn_ct, kTurn_bk, kTurn_rt, kTurn_ex, kIf_t, kRet_ap, kB3_ap, kB2_ap, kB1_ap, kC4_ap, kC3_ap, kC2_ap, kC1_ap, kIsn_ap, kNot_ap, kBl_ap, kNo_ap, kTup_ap, kLst_ap, kX4_ap, kX3_ap, kX2_ap, kX1_ap, kSl3_ap, kSl2_ap, kSl1_ap, kF1_ap, kF22_ap, kF21_ap, kIsin_ap, kM2_ap, kM1_ap, kCons2_ap, kL1_ap, kA1_ap, kP2_ap, kP1_ap, kR_ap, kRX_ap, kCallp_ap, kRs_ap, kCallz_ap, kCalla_ap, kPut_ap, kRi_ap, kRXi_ap, kCi3_ap, kCi2_ap, kCi1_ap, kDrop_ap, kRt_ap, kCt2_ap, kCt1_ap, kAsg_ap, kAsgT_ap, kSet1_ap, kExpr_ap, kRtn_ap, kIt_ap, kItems_ap, kRng2_ap, kZip_ap, kFz_ap, hold_e, hold_rng1, hold_rng2, hold_enum, hold_zip, hold_hold, kAnd_t, kAnd_f, kOr_t, kOr_f, kIfe_t, kIfe_f, kO_i, kRev_l, kNeg_i, kTst_b, kAug_i, kAug1_i, kSet2_i, kSet3_l, kRng1_i, kRng22_i, kEnum_l, kZip2_l, kLcT_f, kLcT_t, kLcE_ap, fin_rt0, fin_nx0, fin_ex0, fin_rt1, fin_nx1, slot_0, slot_s, put_0, put_s, oS_some, wr_ok, PV.pure, pureEs, isMv, isNo, root, redo, B2.scal, F1.scal, M1.scal, fits, tcOf_non, tcOf_bool, tcOf_int, tcOf_str, tcOf_list, tcOf_tuple, isTC_bool_non, isTC_bool_bool, isTC_bool_int, isTC_bool_str, isTC_bool_list, isTC_bool_tuple, isTC_bool_dict, isTC_int_non, isTC_int_bool, isTC_int_int, isTC_int_str, isTC_int_list, isTC_int_tuple, isTC_int_dict, isTC_str_non, isTC_str_bool, isTC_str_int, isTC_str_str, isTC_str_list, isTC_str_tuple, isTC_str_dict, isTC_list_non, isTC_list_bool, isTC_list_int, isTC_list_str, isTC_list_list, isTC_list_tuple, isTC_list_dict, isTC_tuple_non, isTC_tuple_bool, isTC_tuple_int, isTC_tuple_str, isTC_tuple_list, isTC_tuple_tuple, isTC_tuple_dict, noOwn_tup, noOwn_lst, noOwn_int, noOwn_str, noOwn_bl, noOwn_non, noOwn_scr, noOwn_dct, noOwnL_nil, noOwnL_cons, canFz_tup, canFz_lst, canFz_int, canFz_str, canFz_bl, canFz_non, canFz_scr, canFzL_nil, canFzL_cons, fz_tup, fz_lst, fz_int, fz_str, fz_bl, fz_non, fz_scr, fzL_nil, fzL_cons, isTys, atI_0, atI_1, atI_2, atI_3, atI_4, ixN_0, ixN_1, ixN_2, eqD_int, Int.reduceLT, Int.reduceLE, Int.reduceNeg, Int.reduceAdd, Int.reduceSub, Int.reduceMul, Nat.reduceAdd, Nat.reduceLT, Nat.reduceLeDiff, Nat.reduceEqDiff, List.mem_cons, bindT, bindTs, Tg.slots, ownOk, wipeE, List.all_cons, List.all_nil, List.any_cons, List.any_nil, List.contains_eq_mem, List.not_mem_nil, List.length_cons, List.length_nil, List.set_cons_zero, List.set_cons_succ, List.cons_append, List.nil_append, Bool.not_true, Bool.not_false, Bool.and_true, Bool.true_and, Bool.and_false, Bool.false_and, Bool.or_true, Bool.true_or, Bool.or_false, Bool.false_or, Bool.and_self, Bool.or_self, Bool.and_eq_true, Bool.or_eq_true, Bool.not_eq_true', true_and, and_true, and_self, false_and, and_false, true_or, or_true, false_or, or_false, or_self, if_true, if_false, ite_true, ite_false, eq_self, Bool.false_eq_true, Option.map_some, Option.map_none, Option.bind_some, Option.some.injEq, decide_true, decide_false, decide_eq_true_eq, szOk_0, szOk_1, szOk_2, szOk_3, szOk_4, szOk_5, szOk_6, szOk_7, szOk_8, szOk_9, szOk_10, szOk_11, szOk_12, szOk_13, szOk_14, szOk_15, szOk_16, szOk_17, szOk_18, szOk_19, szOk_20, isScal_c0, isScal_c1, isScal_c2, isScal_c3, isScal_c4, isNonD_c0, b2_c0, b2_c1, b2_c2, b2_c3, b2_c4, b2_c5, b2_c6, b2_c7, b2_c8, b2_c9, b2_c10, b2_c11, b2_c12, b2_c13, b2_c14, b2_c15, b2_c16, c2_c0, c2_c1, c2_c2, c2_c3, c2_c4, c2_c5, c2_c6, c2_c7, ixS_c0, ixS_c1, ixS_c2, ixS_c3, slS_c0, slS_c1, slS_c2, slS_c3, f1S_c0, f1S_c1, f1S_c2, f1S_c3, f1S_c4, f1S_c5, f1S_c6, f1S_c7, f1S_c8, f1S_c9, f1S_c10, f1S_c11, f1S_c12, f1S_c13, f1S_c14, f1S_c15, f1S_c16, f2S_c0, f2S_c1, m1S_c0, m1S_c1, m1S_c2, m1S_c3, recvOk_c0, recvOk_c1, recvOk_c2, recvOk_c3, recvOk_c4, recvOk_c5, recvOk_c6, isOwnL_c0, mmS_c0, mmS_c1, mmS_c2, mmS_c3, itemsOf_c0, itemsOf_c1, itemsOf_c2, seqOf_c0, seqOf_c1, fd0, fd1, fd2, fd3, fd4, fd5, fd6, fd7, fd8, fd9, fd10, fd11, fd12, fd13, fd14, fd15, fd16, fd17, fd18, fd19, fd20, fd21, fd22, fd23, fd24, fd25, fd26, fd27, fd28, $[$es:term],*])
namespace K38
open PySem L2 PV
theorem putD_int {ms : List Int} {vs : List D} {x : Int} {d : D} : ∃ vs', putD (ms.map .int) vs (.int x) d = ((insD x ms).map .int, vs') := by
  unfold insD putD
  rw [any_int]
  by_cases c : x ∈ ms
  · rw [if_pos (decide_eq_true c), if_pos c]
    exact ⟨_, rfl⟩
  · rw [if_neg (by simpa using c), if_neg c, List.map_append]
    exact ⟨_, rfl⟩
def prD (w : Int) : D := .tup [.int w, .bl true]
theorem dmk_int : ∀ {xs ms : List Int} {vs : List D}, ms.Nodup → ∃ (ms' : List Int) (vs' : List D), dmk (ms.map .int, vs) (xs.map prD) = some (ms'.map .int, vs') ∧ ms'.Nodup ∧ ms'.length ≤ ms.length + xs.length ∧ ∀ x, x ∈ ms' ↔ x ∈ ms ∨ x ∈ xs
  | [], ms, vs, hd => ⟨ms, vs, rfl, hd, by simp, by simp⟩
  | x :: xs, ms, vs, hd => by
    obtain ⟨vs1, e1⟩ := putD_int (ms := ms) (vs := vs) (x := x) (d := .bl true)
    obtain ⟨ms', vs', h1, h2, h3, h4⟩ := dmk_int (xs := xs) (vs := vs1) (insD_nd (x := x) hd)
    refine ⟨ms', vs', ?_, h2, by have := insD_len (x := x) (ms := ms); simp; omega, fun y => ?_⟩
    · have hk : (keyOf (.int x)).isSome = true := rfl
      simp only [List.map_cons, prD, dmk, hk, if_true, e1]
      exact h1
    · rw [h4, insD_mem]
      simp only [List.mem_cons]
      constructor
      · rintro ((rfl | h) | h)
        · exact .inr (.inl rfl)
        · exact .inl h
        · exact .inr (.inr h)
      · rintro (h | rfl | h)
        · exact .inl (.inr h)
        · exact .inl (.inl rfl)
        · exact .inr h
/-! ### the worlds from which a row goes well -/
def gdP (fs : List Str) (w : Cd) : List Dd → Int → Bool
  | [], x => w.tru fs x
  | d :: rs, x => d.2.1.tru fs x && (beh fs d.2.2 [x]).all (gdP fs w rs)
def wl (m : Int) : List Int := (List.range m.toNat).map fun i => (0 + (i : Nat) : Int)
def gd (fs : List Str) (w : Cd) (rs : List Dd) : List Int := (wl (2 ^ fs.length)).filter (gdP fs w rs)
theorem wl_mem {m x : Int} : x ∈ wl m ↔ 0 ≤ x ∧ x < m := by
  simp only [wl, List.mem_map, List.mem_range]
  constructor
  · rintro ⟨i, hi, rfl⟩; omega
  · rintro ⟨h1, h2⟩; exact ⟨x.toNat, by omega, by omega⟩
theorem wl_up {m : Int} : (wl m).Pairwise (· < ·) := by
  unfold wl
  rw [List.pairwise_map]
  exact List.Pairwise.imp (R := fun a b : Nat => a < b) (fun h => by omega) List.pairwise_lt_range
theorem wl_len {m : Int} : (wl m).length = m.toNat := by simp [wl]
theorem rng_wl (m : Int) : rngI 0 m.toNat = (wl m).map .int := by unfold wl; rw [List.map_map]; rfl
theorem gd_mem {fs : List Str} {w : Cd} {rs : List Dd} {x : Int} : x ∈ gd fs w rs ↔ (0 ≤ x ∧ x < 2 ^ fs.length) ∧ gdP fs w rs x = true := by
  unfold gd
  rw [List.mem_filter, wl_mem]
theorem gd_up {fs : List Str} {w : Cd} {rs : List Dd} : (gd fs w rs).Pairwise (· < ·) := wl_up.sublist List.filter_sublist
theorem bools_map {α : Type} (us : List α) (p : α → Bool) : boolsOf (us.map fun u => D.bl (p u)) = some (us.map p) := by
  induction us with
  | nil => rfl
  | cons u us ih => simp only [List.map_cons, boolsOf, ih, Option.map_some]
theorem all_map {α : Type} (us : List α) (p : α → Bool) (o : Bool) : f1S .all (.lst o (us.map fun u => D.bl (p u))) = some (.bl (us.all p)) := by
  simp [f1S, bools_map]
section
variable {fs : List Str} {ds : List Dd} {ls : List Lk} {ws : List Int} {wish : Cd}
theorem one_crowd {w : Int} (h : 0 ≤ w ∧ w < 2 ^ fs.length) : Crowd (2 ^ fs.length) [w] := ⟨by simp, by simpa using h, by simp⟩
theorem sort_gd {ms : List Int} {w : Cd} {rs : List Dd} (hn : ms.Nodup) (h : ∀ x, x ∈ ms ↔ (0 ≤ x ∧ x < 2 ^ fs.length) ∧ gdP fs w rs x = true) : sortI ms = gd fs w rs := by
  rw [sort_us hn (ns := gd fs w rs) fun x => by rw [h, gd_mem]]
  exact up_uniq (up_usI _) gd_up fun k => mem_usI
def gwS : Ss := match bo5 with
  | .cons _ (.cons _ (.cons _ (.cons (.for _ _ _ _ (.cons _ b)) _))) => b
  | _ => .nil
def giS : Ss := match gwS with
  | .cons (.for _ _ _ _ b) _ => b
  | _ => .nil
theorem giS_ok {k : Nat} (hk : 40 ≤ k) (hh : Hs fs ds ls ws wish) {d : Dd} (hdm : d ∈ ds) {w : Cd} {rs : List Dd} {ms : List Int} {vs : List D} (hms : ∀ x, x ∈ ms ↔ (0 ≤ x ∧ x < 2 ^ fs.length) ∧ gdP fs w rs x = true) {x : Int} (hx : 0 ≤ x ∧ x < 2 ^ fs.length) {as : List Int} {us : List D} (hl : as.length ≤ 9999) {v1 v2 v3 : Option D} {Q : Fl → Prop}
    (q : ∀ us', Q (.nx [some (hsF fs ds ls ws wish), v1, v2, v3, some (.dct true false (ms.map .int) vs), some (ddD false d), some (.dct true false ((if gdP fs w (d :: rs) x = true then insD x as else as).map .int) us'), some (.int x), none])) :
    xB (Wk k []) giS [some (hsF fs ds ls ws wish), v1, v2, v3, some (.dct true false (ms.map .int) vs), some (ddD false d), some (.dct true false (as.map .int) us), some (.int x), none] Q := by
  show xB (Wk k []) (.cons _ .nil) _ _
  have hD := hh.dd d hdm
  have dn := ddF_no d
  have nn := cd_no d.2.1
  have d1 : ∀ kt, ixS kt (ddD false d) (.int 1) = some d.2.1.toD := fun _ => rfl
  exists if_true
  refine xE_callp (fd := _) fd15 rfl ?_
  exists hsF_no, d1, dn, nn
  refine holds_in_ok (k := k) (by omega) hh hD.over hD.deep ?_
  cases ht : d.2.1.tru fs x with
  | false =>
    have e : gdP fs w (d :: rs) x = false := by simp [gdP, ht]
    exists if_true
    have q1 := q us
    rw [if_neg (by rw [e]; simp)] at q1
    exact q1
  | true =>
    exists if_true
    refine xC_ap ?_
    have dz := noOwn_canFz dn
    have df := fz_id dn
    exists hsF_no, hsF_cz, hsF_fz, dn, dz, df
    refine all_behind_ok (k := k) (by omega) hh hD (ns := [x]) (by simp) ?_
    have hc := beh_crowd hD (one_crowd hx)
    have hcl := crowd_len2 hh.ff hc
    exists noOwnL_ints, ints_cz, ints_fz
    refine kLc_map (beh fs d.2.2 [x]) D.int (fun y => D.bl (decide (y ∈ ms))) (by simp) rfl ?_ (fun u _ => rfl) (by omega) ?_
    · intro y hy Q' hq
      simp only [xE_int, xE_str, xE_bl, xE_non, xE_fn, xE_glob, xE_var, xE_bin, xE_cmp, xE_isn, xE_not, xE_and, xE_or, xE_ife, xE_tup, xE_lst, xE_ix, xO_all, xOb_t, xOb_f, xE_slA, xE_chain, kCh1_ap, kCh2_ap, kCh3_f, kCh3_t, kCh4_ap, kXf_ap, xE_fr, xE_xis, kXis_ap, xOf_xc, noOwn_xc, xS_try1, kTry_ex, kTry_nx, kTry_rt, kTry_bk, kTry_ct, kTry2_t, kTry2_f, kUn_nx, kUn_rt, xSlot_s, xSlot_n, xFits_s, xFits_n, fits'_is, noXS_nil, noXS_s, noXS_n, noX_int, noX_str, noX_bl, noX_non, noX_scr, noX_tup, noX_lst, noX_dct, noXL_nil, noXL_cons, noXL_ints, noXL_strs, xE_dnw, xS_dput, kDp1_ap, kDp2_ap, kDp3_ap, isOwnD_d, xE_mmA, xE_vf, kVf_ap, xE_sset, kSset_ap, xE_trg, kTrg_i, trgD_t, trgD_f, xE_lc, unh_e, unh_rng1, unh_rng2, unh_enum, unh_zip, unh_hold, backS_nil, backS_cons, xE_rev, xE_f1, xE_f2, xE_isin, xE_m1, xE_neg, xL_nil, xL_cons, xA_nil, xA_cons, xP_nil, xP_cons, xT_e, xV_all, xVb_t, xVb_f, xVb_m, kMv_ap, kKeep_all, kKb_t, kKb_f, kFr0_s, kFr1_ap, kFr_ap, xF_e, xS_asg, xS_asgT, xS_aug, xS_setixA, xSb_t, xS_forA, xS_expr, xS_ret, xS_retn, xS_ife, xS_raise, xS_pass, xS_cont, xS_brk, xB_nil, xB_cons, xTst_all, xTb_t, xTb_f, xC1_s, xC2_v, xC2_t, xC2_a, isVar, xI_e, xI_rng1, xI_rng2, xI_enum, xI_zip, kSq_nx, kSq_rt, kSq_ex, kSq_bk, kSq_ct, kCond_t, kCond_f, kTurn_nx, kTurn_ct, kTurn_bk, kTurn_rt, kTurn_ex, kIf_t, kRet_ap, kB3_ap, kB2_ap, kB1_ap, kC4_ap, kC3_ap, kC2_ap, kC1_ap, kIsn_ap, kNot_ap, kBl_ap, kNo_ap, kTup_ap, kLst_ap, kX4_ap, kX3_ap, kX2_ap, kX1_ap, kSl3_ap, kSl2_ap, kSl1_ap, kF1_ap, kF22_ap, kF21_ap, kIsin_ap, kM2_ap, kM1_ap, kCons2_ap, kL1_ap, kA1_ap, kP2_ap, kP1_ap, kR_ap, kRX_ap, kCallp_ap, kRs_ap, kCallz_ap, kCalla_ap, kPut_ap, kRi_ap, kRXi_ap, kCi3_ap, kCi2_ap, kCi1_ap, kDrop_ap, kRt_ap, kCt2_ap, kCt1_ap, kAsg_ap, kAsgT_ap, kSet1_ap, kExpr_ap, kRtn_ap, kIt_ap, kItems_ap, kRng2_ap, kZip_ap, kFz_ap, hold_e, hold_rng1, hold_rng2, hold_enum, hold_zip, hold_hold, kAnd_t, kAnd_f, kOr_t, kOr_f, kIfe_t, kIfe_f, kO_i, kRev_l, kNeg_i, kTst_b, kAug_i, kAug1_i, kSet2_i, kSet3_l, kRng1_i, kRng22_i, kEnum_l, kZip2_l, kLcT_f, kLcT_t, kLcE_ap, fin_rt0, fin_nx0, fin_ex0, fin_rt1, fin_nx1, slot_0, slot_s, put_0, put_s, oS_some, wr_ok, PV.pure, pureEs, isMv, isNo, root, redo, B2.scal, F1.scal, M1.scal, fits, tcOf_non, tcOf_bool, tcOf_int, tcOf_str, tcOf_list, tcOf_tuple, isTC_bool_non, isTC_bool_bool, isTC_bool_int, isTC_bool_str, isTC_bool_list, isTC_bool_tuple, isTC_bool_dict, isTC_int_non, isTC_int_bool, isTC_int_int, isTC_int_str, isTC_int_list, isTC_int_tuple, isTC_int_dict, isTC_str_non, isTC_str_bool, isTC_str_int, isTC_str_str, isTC_str_list, isTC_str_tuple, isTC_str_dict, isTC_list_non, isTC_list_bool, isTC_list_int, isTC_list_str, isTC_list_list, isTC_list_tuple, isTC_list_dict, isTC_tuple_non, isTC_tuple_bool, isTC_tuple_int, isTC_tuple_str, isTC_tuple_list, isTC_tuple_tuple, isTC_tuple_dict, noOwn_tup, noOwn_lst, noOwn_int, noOwn_str, noOwn_bl, noOwn_non, noOwn_scr, noOwn_dct, noOwnL_nil, noOwnL_cons, canFz_tup, canFz_lst, canFz_int, canFz_str, canFz_bl, canFz_non, canFz_scr, canFzL_nil, canFzL_cons, fz_tup, fz_lst, fz_int, fz_str, fz_bl, fz_non, fz_scr, fzL_nil, fzL_cons, isTys, atI_0, atI_1, atI_2, atI_3, atI_4, ixN_0, ixN_1, ixN_2, eqD_int, Int.reduceLT, Int.reduceLE, Int.reduceNeg, Int.reduceAdd, Int.reduceSub, Int.reduceMul, Nat.reduceAdd, Nat.reduceLT, Nat.reduceLeDiff, Nat.reduceEqDiff, List.mem_cons, bindT, bindTs, Tg.slots, ownOk, wipeE, List.all_cons, List.all_nil, List.any_cons, List.any_nil, List.contains_eq_mem, List.not_mem_nil, List.length_cons, List.length_nil, List.set_cons_zero, List.set_cons_succ, List.cons_append, List.nil_append, Bool.not_true, Bool.not_false, Bool.and_true, Bool.true_and, Bool.and_false, Bool.false_and, Bool.or_true, Bool.true_or, Bool.or_false, Bool.false_or, Bool.and_self, Bool.or_self, Bool.and_eq_true, Bool.or_eq_true, Bool.not_eq_true', true_and, and_true, and_self, false_and, and_false, true_or, or_true, false_or, or_false, or_self, if_true, if_false, ite_true, ite_false, eq_self, Bool.false_eq_true, Option.map_some, Option.map_none, Option.bind_some, Option.some.injEq, decide_true, decide_false, decide_eq_true_eq, szOk_0, szOk_1, szOk_2, szOk_3, szOk_4, szOk_5, szOk_6, szOk_7, szOk_8, szOk_9, szOk_10, szOk_11, szOk_12, szOk_13, szOk_14, szOk_15, szOk_16, szOk_17, szOk_18, szOk_19, szOk_20, isScal_c0, isScal_c1, isScal_c2, isScal_c3, isScal_c4, isNonD_c0, b2_c0, b2_c1, b2_c2, b2_c3, b2_c4, b2_c5, b2_c6, b2_c7, b2_c8, b2_c9, b2_c10, b2_c11, b2_c12, b2_c13, b2_c14, b2_c15, b2_c16, c2_c0, c2_c1, c2_c2, c2_c3, c2_c4, c2_c5, c2_c6, c2_c7, ixS_c0, ixS_c1, ixS_c2, ixS_c3, slS_c0, slS_c1, slS_c2, slS_c3, f1S_c0, f1S_c1, f1S_c2, f1S_c3, f1S_c4, f1S_c5, f1S_c6, f1S_c7, f1S_c8, f1S_c9, f1S_c10, f1S_c11, f1S_c12, f1S_c13, f1S_c14, f1S_c15, f1S_c16, f2S_c0, f2S_c1, m1S_c0, m1S_c1, m1S_c2, m1S_c3, recvOk_c0, recvOk_c1, recvOk_c2, recvOk_c3, recvOk_c4, recvOk_c5, recvOk_c6, isOwnL_c0, mmS_c0, mmS_c1, mmS_c2, mmS_c3, itemsOf_c0, itemsOf_c1, itemsOf_c2, seqOf_c0, seqOf_c1, fd0, fd1, fd2, fd3, fd4, fd5, fd6, fd7, fd8, fd9, fd10, fd11, fd12, fd13, fd14, fd15, fd16, fd17, fd18, fd19, fd20, fd21, fd22, fd23, fd24, fd25, fd26, fd27, fd28] at hq
      exists inD_int
      exact hq
    · have eb : ((beh fs d.2.2 [x]).all fun y => decide (y ∈ ms)) = gdP fs w (d :: rs) x := by
        simp only [gdP, ht, Bool.true_and]
        rw [Bool.eq_iff_iff, List.all_eq_true, List.all_eq_true]
        constructor
        · intro h y hy
          have := h y hy
          rw [decide_eq_true_eq, hms] at this
          exact this.2
        · intro h y hy
          rw [decide_eq_true_eq, hms]
          exact ⟨hc.bd y hy, h y hy⟩
      have eb2 : (((beh fs d.2.2 [x]).map fun y => decide (y ∈ ms)).all id) = gdP fs w (d :: rs) x := by
        rw [List.all_map]; exact eb
      exists bools_map, eb2
      cases hg : gdP fs w (d :: rs) x with
      | false =>
        exists if_true
        have q1 := q us
        rw [if_neg (by rw [hg]; simp)] at q1
        exact q1
      | true =>
        obtain ⟨us', ep⟩ := putS_int (ms := as) (vs := us) (x := x) (d := .bl true) (by omega)
        exists ep
        have q1 := q us'
        rw [if_pos hg] at q1
        exact q1
theorem good_ok {k : Nat} (hk : 42 ≤ k) (hh : Hs fs ds ls ws wish) {rs : List Dd} (hr : ∀ d ∈ rs, d ∈ ds) (hl : rs.length ≤ 1000) {Q : D → Option D → Prop} {X : Nat → Prop} (q : Q (.lst true ((gd fs wish rs).map .int)) none) : wr (run lw.tb 1000 k 5 [hsF fs ds ls ws wish, .lst false (rs.map nmD)]) Q X := by
  obtain ⟨k, rfl⟩ : ∃ k', k = k' + 1 := ⟨k - 1, by omega⟩
  rw [wr_runE fd5 rfl rfl rfl]
  show xB (Wk k []) (.cons _ (.cons _ (.cons _ (.cons (.for _ _ _ _ (.cons _ (.cons (.for _ _ _ _ giS) _))) (.cons _ .nil))))) [some (hsF fs ds ls ws wish), some (.lst false (rs.map nmD)), none, none, none, none, none, none, none] _
  have rn := nm_no rs
  have dno := ddsF_no rs
  have rvno := ddsF_no rs.reverse
  have rvcz := noOwnL_canFz rvno
  have rvfz := fzL_id rvno
  have hp := pow_le hh.ff
  have hp2 : (2 : Int) ^ fs.length ≤ 1000000 := by omega
  have hp1 : (0 : Int) ≤ 2 ^ fs.length := by omega
  have a4 : ∀ kt, ixS kt (hsF fs ds ls ws wish) (.int 4) = some wish.toD := fun _ => rfl
  have wn := cd_no wish
  have hwl := wl_len (m := (2 : Int) ^ fs.length)
  have rvm : (rs.map (ddD false)).reverse = rs.reverse.map (ddD false) := by rw [List.map_reverse]
  exists if_true
  refine xE_callp (fd := _) fd14 rfl ?_
  exists hsF_no, rn
  refine need_deeds_ok (k := k) (by omega) hh hr hl ?_
  exists at0, fF, hsF_no, no_fD, len_fD, pow_ok hh.ff, pow_is, hp2, hp1, rng_wl, noOwnL_ints, ints_cz, ints_fz
  refine kLc_fm (wl (2 ^ fs.length)) D.int (fun x => wish.tru fs x) prD (by simp) rfl ?_ ?_ (fun u _ => rfl) (by omega) ?_
  · intro x hx Q' hq
    simp only [xE_int, xE_str, xE_bl, xE_non, xE_fn, xE_glob, xE_var, xE_bin, xE_cmp, xE_isn, xE_not, xE_and, xE_or, xE_ife, xE_tup, xE_lst, xE_ix, xO_all, xOb_t, xOb_f, xE_slA, xE_chain, kCh1_ap, kCh2_ap, kCh3_f, kCh3_t, kCh4_ap, kXf_ap, xE_fr, xE_xis, kXis_ap, xOf_xc, noOwn_xc, xS_try1, kTry_ex, kTry_nx, kTry_rt, kTry_bk, kTry_ct, kTry2_t, kTry2_f, kUn_nx, kUn_rt, xSlot_s, xSlot_n, xFits_s, xFits_n, fits'_is, noXS_nil, noXS_s, noXS_n, noX_int, noX_str, noX_bl, noX_non, noX_scr, noX_tup, noX_lst, noX_dct, noXL_nil, noXL_cons, noXL_ints, noXL_strs, xE_dnw, xS_dput, kDp1_ap, kDp2_ap, kDp3_ap, isOwnD_d, xE_mmA, xE_vf, kVf_ap, xE_sset, kSset_ap, xE_trg, kTrg_i, trgD_t, trgD_f, xE_lc, unh_e, unh_rng1, unh_rng2, unh_enum, unh_zip, unh_hold, backS_nil, backS_cons, xE_rev, xE_f1, xE_f2, xE_isin, xE_m1, xE_neg, xL_nil, xL_cons, xA_nil, xA_cons, xP_nil, xP_cons, xT_e, xV_all, xVb_t, xVb_f, xVb_m, kMv_ap, kKeep_all, kKb_t, kKb_f, kFr0_s, kFr1_ap, kFr_ap, xF_e, xS_asg, xS_asgT, xS_aug, xS_setixA, xSb_t, xS_forA, xS_expr, xS_ret, xS_retn, xS_ife, xS_raise, xS_pass, xS_cont, xS_brk, xB_nil, xB_cons, xTst_all, xTb_t, xTb_f, xC1_s, xC2_v, xC2_t, xC2_a, isVar, xI_e, xI_rng1, xI_rng2, xI_enum, xI_zip, kSq_nx, kSq_rt, kSq_ex, kSq_bk, kSq_ct, kCond_t, kCond_f, kTurn_nx, kTurn_ct, kTurn_bk, kTurn_rt, kTurn_ex, kIf_t, kRet_ap, kB3_ap, kB2_ap, kB1_ap, kC4_ap, kC3_ap, kC2_ap, kC1_ap, kIsn_ap, kNot_ap, kBl_ap, kNo_ap, kTup_ap, kLst_ap, kX4_ap, kX3_ap, kX2_ap, kX1_ap, kSl3_ap, kSl2_ap, kSl1_ap, kF1_ap, kF22_ap, kF21_ap, kIsin_ap, kM2_ap, kM1_ap, kCons2_ap, kL1_ap, kA1_ap, kP2_ap, kP1_ap, kR_ap, kRX_ap, kCallp_ap, kRs_ap, kCallz_ap, kCalla_ap, kPut_ap, kRi_ap, kRXi_ap, kCi3_ap, kCi2_ap, kCi1_ap, kDrop_ap, kRt_ap, kCt2_ap, kCt1_ap, kAsg_ap, kAsgT_ap, kSet1_ap, kExpr_ap, kRtn_ap, kIt_ap, kItems_ap, kRng2_ap, kZip_ap, kFz_ap, hold_e, hold_rng1, hold_rng2, hold_enum, hold_zip, hold_hold, kAnd_t, kAnd_f, kOr_t, kOr_f, kIfe_t, kIfe_f, kO_i, kRev_l, kNeg_i, kTst_b, kAug_i, kAug1_i, kSet2_i, kSet3_l, kRng1_i, kRng22_i, kEnum_l, kZip2_l, kLcT_f, kLcT_t, kLcE_ap, fin_rt0, fin_nx0, fin_ex0, fin_rt1, fin_nx1, slot_0, slot_s, put_0, put_s, oS_some, wr_ok, PV.pure, pureEs, isMv, isNo, root, redo, B2.scal, F1.scal, M1.scal, fits, tcOf_non, tcOf_bool, tcOf_int, tcOf_str, tcOf_list, tcOf_tuple, isTC_bool_non, isTC_bool_bool, isTC_bool_int, isTC_bool_str, isTC_bool_list, isTC_bool_tuple, isTC_bool_dict, isTC_int_non, isTC_int_bool, isTC_int_int, isTC_int_str, isTC_int_list, isTC_int_tuple, isTC_int_dict, isTC_str_non, isTC_str_bool, isTC_str_int, isTC_str_str, isTC_str_list, isTC_str_tuple, isTC_str_dict, isTC_list_non, isTC_list_bool, isTC_list_int, isTC_list_str, isTC_list_list, isTC_list_tuple, isTC_list_dict, isTC_tuple_non, isTC_tuple_bool, isTC_tuple_int, isTC_tuple_str, isTC_tuple_list, isTC_tuple_tuple, isTC_tuple_dict, noOwn_tup, noOwn_lst, noOwn_int, noOwn_str, noOwn_bl, noOwn_non, noOwn_scr, noOwn_dct, noOwnL_nil, noOwnL_cons, canFz_tup, canFz_lst, canFz_int, canFz_str, canFz_bl, canFz_non, canFz_scr, canFzL_nil, canFzL_cons, fz_tup, fz_lst, fz_int, fz_str, fz_bl, fz_non, fz_scr, fzL_nil, fzL_cons, isTys, atI_0, atI_1, atI_2, atI_3, atI_4, ixN_0, ixN_1, ixN_2, eqD_int, Int.reduceLT, Int.reduceLE, Int.reduceNeg, Int.reduceAdd, Int.reduceSub, Int.reduceMul, Nat.reduceAdd, Nat.reduceLT, Nat.reduceLeDiff, Nat.reduceEqDiff, List.mem_cons, bindT, bindTs, Tg.slots, ownOk, wipeE, List.all_cons, List.all_nil, List.any_cons, List.any_nil, List.contains_eq_mem, List.not_mem_nil, List.length_cons, List.length_nil, List.set_cons_zero, List.set_cons_succ, List.cons_append, List.nil_append, Bool.not_true, Bool.not_false, Bool.and_true, Bool.true_and, Bool.and_false, Bool.false_and, Bool.or_true, Bool.true_or, Bool.or_false, Bool.false_or, Bool.and_self, Bool.or_self, Bool.and_eq_true, Bool.or_eq_true, Bool.not_eq_true', true_and, and_true, and_self, false_and, and_false, true_or, or_true, false_or, or_false, or_self, if_true, if_false, ite_true, ite_false, eq_self, Bool.false_eq_true, Option.map_some, Option.map_none, Option.bind_some, Option.some.injEq, decide_true, decide_false, decide_eq_true_eq, szOk_0, szOk_1, szOk_2, szOk_3, szOk_4, szOk_5, szOk_6, szOk_7, szOk_8, szOk_9, szOk_10, szOk_11, szOk_12, szOk_13, szOk_14, szOk_15, szOk_16, szOk_17, szOk_18, szOk_19, szOk_20, isScal_c0, isScal_c1, isScal_c2, isScal_c3, isScal_c4, isNonD_c0, b2_c0, b2_c1, b2_c2, b2_c3, b2_c4, b2_c5, b2_c6, b2_c7, b2_c8, b2_c9, b2_c10, b2_c11, b2_c12, b2_c13, b2_c14, b2_c15, b2_c16, c2_c0, c2_c1, c2_c2, c2_c3, c2_c4, c2_c5, c2_c6, c2_c7, ixS_c0, ixS_c1, ixS_c2, ixS_c3, slS_c0, slS_c1, slS_c2, slS_c3, f1S_c0, f1S_c1, f1S_c2, f1S_c3, f1S_c4, f1S_c5, f1S_c6, f1S_c7, f1S_c8, f1S_c9, f1S_c10, f1S_c11, f1S_c12, f1S_c13, f1S_c14, f1S_c15, f1S_c16, f2S_c0, f2S_c1, m1S_c0, m1S_c1, m1S_c2, m1S_c3, recvOk_c0, recvOk_c1, recvOk_c2, recvOk_c3, recvOk_c4, recvOk_c5, recvOk_c6, isOwnL_c0, mmS_c0, mmS_c1, mmS_c2, mmS_c3, itemsOf_c0, itemsOf_c1, itemsOf_c2, seqOf_c0, seqOf_c1, fd0, fd1, fd2, fd3, fd4, fd5, fd6, fd7, fd8, fd9, fd10, fd11, fd12, fd13, fd14, fd15, fd16, fd17, fd18, fd19, fd20, fd21, fd22, fd23, fd24, fd25, fd26, fd27, fd28] at hq
    exists isNo
    refine xE_callp (fd := _) fd15 rfl ?_
    exists hsF_no, a4, wn
    refine holds_in_ok (k := k) (by omega) hh hh.wo hh.wd ?_
    exists if_true
    exact hq
  · intro x hx _ Q' hq
    simp only [xE_int, xE_str, xE_bl, xE_non, xE_fn, xE_glob, xE_var, xE_bin, xE_cmp, xE_isn, xE_not, xE_and, xE_or, xE_ife, xE_tup, xE_lst, xE_ix, xO_all, xOb_t, xOb_f, xE_slA, xE_chain, kCh1_ap, kCh2_ap, kCh3_f, kCh3_t, kCh4_ap, kXf_ap, xE_fr, xE_xis, kXis_ap, xOf_xc, noOwn_xc, xS_try1, kTry_ex, kTry_nx, kTry_rt, kTry_bk, kTry_ct, kTry2_t, kTry2_f, kUn_nx, kUn_rt, xSlot_s, xSlot_n, xFits_s, xFits_n, fits'_is, noXS_nil, noXS_s, noXS_n, noX_int, noX_str, noX_bl, noX_non, noX_scr, noX_tup, noX_lst, noX_dct, noXL_nil, noXL_cons, noXL_ints, noXL_strs, xE_dnw, xS_dput, kDp1_ap, kDp2_ap, kDp3_ap, isOwnD_d, xE_mmA, xE_vf, kVf_ap, xE_sset, kSset_ap, xE_trg, kTrg_i, trgD_t, trgD_f, xE_lc, unh_e, unh_rng1, unh_rng2, unh_enum, unh_zip, unh_hold, backS_nil, backS_cons, xE_rev, xE_f1, xE_f2, xE_isin, xE_m1, xE_neg, xL_nil, xL_cons, xA_nil, xA_cons, xP_nil, xP_cons, xT_e, xV_all, xVb_t, xVb_f, xVb_m, kMv_ap, kKeep_all, kKb_t, kKb_f, kFr0_s, kFr1_ap, kFr_ap, xF_e, xS_asg, xS_asgT, xS_aug, xS_setixA, xSb_t, xS_forA, xS_expr, xS_ret, xS_retn, xS_ife, xS_raise, xS_pass, xS_cont, xS_brk, xB_nil, xB_cons, xTst_all, xTb_t, xTb_f, xC1_s, xC2_v, xC2_t, xC2_a, isVar, xI_e, xI_rng1, xI_rng2, xI_enum, xI_zip, kSq_nx, kSq_rt, kSq_ex, kSq_bk, kSq_ct, kCond_t, kCond_f, kTurn_nx, kTurn_ct, kTurn_bk, kTurn_rt, kTurn_ex, kIf_t, kRet_ap, kB3_ap, kB2_ap, kB1_ap, kC4_ap, kC3_ap, kC2_ap, kC1_ap, kIsn_ap, kNot_ap, kBl_ap, kNo_ap, kTup_ap, kLst_ap, kX4_ap, kX3_ap, kX2_ap, kX1_ap, kSl3_ap, kSl2_ap, kSl1_ap, kF1_ap, kF22_ap, kF21_ap, kIsin_ap, kM2_ap, kM1_ap, kCons2_ap, kL1_ap, kA1_ap, kP2_ap, kP1_ap, kR_ap, kRX_ap, kCallp_ap, kRs_ap, kCallz_ap, kCalla_ap, kPut_ap, kRi_ap, kRXi_ap, kCi3_ap, kCi2_ap, kCi1_ap, kDrop_ap, kRt_ap, kCt2_ap, kCt1_ap, kAsg_ap, kAsgT_ap, kSet1_ap, kExpr_ap, kRtn_ap, kIt_ap, kItems_ap, kRng2_ap, kZip_ap, kFz_ap, hold_e, hold_rng1, hold_rng2, hold_enum, hold_zip, hold_hold, kAnd_t, kAnd_f, kOr_t, kOr_f, kIfe_t, kIfe_f, kO_i, kRev_l, kNeg_i, kTst_b, kAug_i, kAug1_i, kSet2_i, kSet3_l, kRng1_i, kRng22_i, kEnum_l, kZip2_l, kLcT_f, kLcT_t, kLcE_ap, fin_rt0, fin_nx0, fin_ex0, fin_rt1, fin_nx1, slot_0, slot_s, put_0, put_s, oS_some, wr_ok, PV.pure, pureEs, isMv, isNo, root, redo, B2.scal, F1.scal, M1.scal, fits, tcOf_non, tcOf_bool, tcOf_int, tcOf_str, tcOf_list, tcOf_tuple, isTC_bool_non, isTC_bool_bool, isTC_bool_int, isTC_bool_str, isTC_bool_list, isTC_bool_tuple, isTC_bool_dict, isTC_int_non, isTC_int_bool, isTC_int_int, isTC_int_str, isTC_int_list, isTC_int_tuple, isTC_int_dict, isTC_str_non, isTC_str_bool, isTC_str_int, isTC_str_str, isTC_str_list, isTC_str_tuple, isTC_str_dict, isTC_list_non, isTC_list_bool, isTC_list_int, isTC_list_str, isTC_list_list, isTC_list_tuple, isTC_list_dict, isTC_tuple_non, isTC_tuple_bool, isTC_tuple_int, isTC_tuple_str, isTC_tuple_list, isTC_tuple_tuple, isTC_tuple_dict, noOwn_tup, noOwn_lst, noOwn_int, noOwn_str, noOwn_bl, noOwn_non, noOwn_scr, noOwn_dct, noOwnL_nil, noOwnL_cons, canFz_tup, canFz_lst, canFz_int, canFz_str, canFz_bl, canFz_non, canFz_scr, canFzL_nil, canFzL_cons, fz_tup, fz_lst, fz_int, fz_str, fz_bl, fz_non, fz_scr, fzL_nil, fzL_cons, isTys, atI_0, atI_1, atI_2, atI_3, atI_4, ixN_0, ixN_1, ixN_2, eqD_int, Int.reduceLT, Int.reduceLE, Int.reduceNeg, Int.reduceAdd, Int.reduceSub, Int.reduceMul, Nat.reduceAdd, Nat.reduceLT, Nat.reduceLeDiff, Nat.reduceEqDiff, List.mem_cons, bindT, bindTs, Tg.slots, ownOk, wipeE, List.all_cons, List.all_nil, List.any_cons, List.any_nil, List.contains_eq_mem, List.not_mem_nil, List.length_cons, List.length_nil, List.set_cons_zero, List.set_cons_succ, List.cons_append, List.nil_append, Bool.not_true, Bool.not_false, Bool.and_true, Bool.true_and, Bool.and_false, Bool.false_and, Bool.or_true, Bool.true_or, Bool.or_false, Bool.false_or, Bool.and_self, Bool.or_self, Bool.and_eq_true, Bool.or_eq_true, Bool.not_eq_true', true_and, and_true, and_self, false_and, and_false, true_or, or_true, false_or, or_false, or_self, if_true, if_false, ite_true, ite_false, eq_self, Bool.false_eq_true, Option.map_some, Option.map_none, Option.bind_some, Option.some.injEq, decide_true, decide_false, decide_eq_true_eq, szOk_0, szOk_1, szOk_2, szOk_3, szOk_4, szOk_5, szOk_6, szOk_7, szOk_8, szOk_9, szOk_10, szOk_11, szOk_12, szOk_13, szOk_14, szOk_15, szOk_16, szOk_17, szOk_18, szOk_19, szOk_20, isScal_c0, isScal_c1, isScal_c2, isScal_c3, isScal_c4, isNonD_c0, b2_c0, b2_c1, b2_c2, b2_c3, b2_c4, b2_c5, b2_c6, b2_c7, b2_c8, b2_c9, b2_c10, b2_c11, b2_c12, b2_c13, b2_c14, b2_c15, b2_c16, c2_c0, c2_c1, c2_c2, c2_c3, c2_c4, c2_c5, c2_c6, c2_c7, ixS_c0, ixS_c1, ixS_c2, ixS_c3, slS_c0, slS_c1, slS_c2, slS_c3, f1S_c0, f1S_c1, f1S_c2, f1S_c3, f1S_c4, f1S_c5, f1S_c6, f1S_c7, f1S_c8, f1S_c9, f1S_c10, f1S_c11, f1S_c12, f1S_c13, f1S_c14, f1S_c15, f1S_c16, f2S_c0, f2S_c1, m1S_c0, m1S_c1, m1S_c2, m1S_c3, recvOk_c0, recvOk_c1, recvOk_c2, recvOk_c3, recvOk_c4, recvOk_c5, recvOk_c6, isOwnL_c0, mmS_c0, mmS_c1, mmS_c2, mmS_c3, itemsOf_c0, itemsOf_c1, itemsOf_c2, seqOf_c0, seqOf_c1, fd0, fd1, fd2, fd3, fd4, fd5, fd6, fd7, fd8, fd9, fd10, fd11, fd12, fd13, fd14, fd15, fd16, fd17, fd18, fd19, fd20, fd21, fd22, fd23, fd24, fd25, fd26, fd27, fd28, prD] at hq
    exists if_true
    exact hq
  · obtain ⟨ms, vs, em, hmn, hml, hmm⟩ := dmk_int (xs := (wl (2 ^ fs.length)).filter fun x => wish.tru fs x) (ms := []) (vs := []) (by simp)
    have em2 : f1S .dict (.lst true (((wl (2 ^ fs.length)).filter fun x => wish.tru fs x).map prD)) = some (.dct true false (ms.map .int) vs) := by
      have hno : noOwnL (((wl (2 ^ fs.length)).filter fun x => wish.tru fs x).map prD) = true := mapL_no fun _ => rfl
      have em : dmk ([], []) (((wl (2 ^ fs.length)).filter fun x => wish.tru fs x).map prD) = some (ms.map .int, vs) := em
      simp only [f1S, hno, if_true, em, Option.map_some]
    exists em2, rvm, dno, rvno, rvcz, rvfz
    refine kFor_inv (fun i ρ => ∃ (ms : List Int) (vs : List D) (v5 v6 v7 : Option D), ρ = [some (hsF fs ds ls ws wish), some (.lst false (rs.map nmD)), some (.lst true (rs.map (ddD false))), some (.lst false ((wl (2 ^ fs.length)).map .int)), some (.dct true false (ms.map .int) vs), v5, v6, v7, none] ∧ ms.Nodup ∧ ∀ x, x ∈ ms ↔ (0 ≤ x ∧ x < 2 ^ fs.length) ∧ gdP fs wish (rs.drop (rs.length - i)) x = true) (by decide) ⟨ms, vs, none, none, none, rfl, hmn, fun x => by rw [hmm]; simp [wl_mem, gdP]⟩ ?_ ?_
    · rintro i y ρ hy ⟨ms, vs, v5, v6, v7, rfl, hmn, hms⟩
      obtain ⟨d, hd, rfl⟩ : ∃ d, rs.reverse[i]? = some d ∧ ddD false d = y := by
        simp only [List.getElem?_map, Option.map_eq_some_iff] at hy
        exact hy
      have hi0 := (List.getElem?_eq_some_iff.mp hd).1
      have hi : i < rs.length := by simpa using hi0
      have hd2 : rs[rs.length - 1 - i]? = some d := by rw [List.getElem?_reverse hi] at hd; exact hd
      have hdm := hr d (List.mem_of_getElem? hd2)
      have hdrop : rs.drop (rs.length - (i + 1)) = d :: rs.drop (rs.length - i) := by
        have h := List.getElem?_eq_some_iff.mp hd2
        have e1 : rs.length - (i + 1) = rs.length - 1 - i := by omega
        have e2 : rs.length - i = rs.length - 1 - i + 1 := by omega
        rw [e1, e2, ← h.2, List.getElem_cons_drop]
      have dn := ddF_no d
      have hb : bindT (.nm 5) (ddD false d) [some (hsF fs ds ls ws wish), some (.lst false (rs.map nmD)), some (.lst true (rs.map (ddD false))), some (.lst false ((wl (2 ^ fs.length)).map .int)), some (.dct true false (ms.map .int) vs), v5, v6, v7, none] = some [some (hsF fs ds ls ws wish), some (.lst false (rs.map nmD)), some (.lst true (rs.map (ddD false))), some (.lst false ((wl (2 ^ fs.length)).map .int)), some (.dct true false (ms.map .int) vs), some (ddD false d), v6, v7, none] := rfl
      rw [hb, oS_some]
      exists noOwnL_ints, ints_cz, ints_fz
      refine kFor_inv (fun j ρ => ∃ (as : List Int) (us : List D) (v7 : Option D), ρ = [some (hsF fs ds ls ws wish), some (.lst false (rs.map nmD)), some (.lst true (rs.map (ddD false))), some (.lst false ((wl (2 ^ fs.length)).map .int)), some (.dct true false (ms.map .int) vs), some (ddD false d), some (.dct true false (as.map .int) us), v7, none] ∧ as.Nodup ∧ as.length ≤ j ∧ ∀ x, x ∈ as ↔ x ∈ (wl (2 ^ fs.length)).take j ∧ gdP fs wish (d :: rs.drop (rs.length - i)) x = true) (by decide) ⟨[], [], v7, rfl, by simp, by simp, by simp⟩ ?_ ?_
      · rintro j z ρ hz ⟨as, us, v7, rfl, han, hal, has⟩
        obtain ⟨x, hxj, rfl⟩ : ∃ w, (wl (2 ^ fs.length))[j]? = some w ∧ D.int w = z := by
          simp only [List.getElem?_map, Option.map_eq_some_iff] at hz
          exact hz
        have hx := wl_mem.mp (List.mem_of_getElem? hxj)
        have hj := (List.getElem?_eq_some_iff.mp hxj).1
        have hb : bindT (.nm 7) (.int x) [some (hsF fs ds ls ws wish), some (.lst false (rs.map nmD)), some (.lst true (rs.map (ddD false))), some (.lst false ((wl (2 ^ fs.length)).map .int)), some (.dct true false (ms.map .int) vs), some (ddD false d), some (.dct true false (as.map .int) us), v7, none] = some [some (hsF fs ds ls ws wish), some (.lst false (rs.map nmD)), some (.lst true (rs.map (ddD false))), some (.lst false ((wl (2 ^ fs.length)).map .int)), some (.dct true false (ms.map .int) vs), some (ddD false d), some (.dct true false (as.map .int) us), some (.int x), none] := rfl
        rw [hb, oS_some]
        refine giS_ok (by omega) hh hdm hms hx (by omega) fun us' => ?_
        rw [kTurn_nx]
        have et : (wl (2 ^ fs.length)).take (j + 1) = (wl (2 ^ fs.length)).take j ++ [x] := by rw [List.take_succ, hxj]; rfl
        refine ⟨_, us', _, rfl, ?_, ?_, ?_⟩
        · split
          · exact insD_nd han
          · exact han
        · split
          · have := insD_len (x := x) (ms := as); omega
          · omega
        · intro y
          rw [et, List.mem_append, List.mem_singleton]
          split
          · rename_i hg
            rw [insD_mem, has]
            constructor
            · rintro (rfl | ⟨h1, h2⟩)
              · exact ⟨.inr rfl, hg⟩
              · exact ⟨.inl h1, h2⟩
            · rintro ⟨h1 | rfl, h2⟩
              · exact .inr ⟨h1, h2⟩
              · exact .inl rfl
          · rename_i hg
            rw [has]
            constructor
            · rintro ⟨h1, h2⟩; exact ⟨.inl h1, h2⟩
            · rintro ⟨h1 | rfl, h2⟩
              · exact ⟨h1, h2⟩
              · exact absurd h2 hg
      · rintro ρ ⟨as, us, v7, rfl, han, hal, has⟩
        rw [List.length_map, List.take_length] at has
        exists if_true
        refine ⟨as, us, _, _, _, rfl, han, fun x => ?_⟩
        rw [has, wl_mem, hdrop]
    · rintro ρ ⟨ms, vs, v5, v6, v7, rfl, hmn, hms⟩
      rw [List.length_map, List.length_reverse, Nat.sub_self, List.drop_zero] at hms
      exists sorted_d, sort_gd hmn hms
      exact q
end
end K38

end

section
open PySem L2 PV
open K38
local macro_rules
  | `(tactic| exists $es,*) => `(tactic| simp -implicitDefEqProofs only [xE_int, xE_str, xE_bl, xE_non, xE_fn, xE_glob, xE_var, xE_bin, xE_cmp, xE_isn, xE_not, xE_and, xE_or, xE_ife, xE_tup, xE_lst, xE_ix, xO_all, xOb_t, xOb_f, xE_slA, xE_chain, kCh1_ap, kCh2_ap, kCh3_f, kCh3_t, kCh4_ap, kXf_ap, xE_fr, xE_xis, kXis_ap, xOf_xc, noOwn_xc, xS_try1, kTry_ex, kTry_nx, kTry_rt, kTry_bk, kTry_ct, kTry2_t, kTry2_f, kUn_nx, kUn_rt, xSlot_s, xSlot_n, xFits_s, xFits_n, fits'_is, noXS_nil, noXS_s, noXS_n, noX_int, noX_str, noX_bl, noX_non, noX_scr, noX_tup, noX_lst, noX_dct, noXL_nil, noXL_cons, noXL_ints, noXL_strs, xE_dnw, xS_dput, kDp1_ap, kDp2_ap, kDp3_ap, isOwnD_d, xE_mmA, xE_vf, kVf_ap, xE_sset, kSset_ap, xE_trg, kTrg_i, trgD_t, trgD_f, xE_lc, unh_e, unh_rng1, unh_rng2, unh_enum, unh_zip, unh_hold, backS_nil, backS_cons, xE_rev, xE_f1, xE_f2, xE_isin, xE_m1, xE_neg, xL_nil, xL_cons, xA_nil, xA_cons, xP_nil, xP_cons, xT_e, xV_all, xVb_t, xVb_f, xVb_m, kMv_ap, kKeep_all, kKb_t, kKb_f, kFr0_s, kFr1_ap, kFr_ap, xF_e, xS_asg, xS_asgT, xS_aug, xS_setixA, xSb_t, xS_forA, xS_expr, xS_ret, xS_retn, xS_ife, xS_raise, xS_pass, xS_cont, xS_brk, xB_nil, xB_cons, xTst_all, xTb_t, xTb_f, xC1_s, xC2_v, xC2_t, xC2_a, isVar, xI_e, xI_rng1, xI_rng2, xI_enum, xI_zip, kSq_nx, kSq_rt, kSq_ex, kSq_bk, kSq_ct, kCond_t, kCond_f, kTurn_nx, kTurn_ct, kTurn_bk, kTurn_rt, kTurn_ex, kIf_t, kRet_ap, kB3_ap, kB2_ap, kB1_ap, kC4_ap, kC3_ap, kC2_ap, kC1_ap, kIsn_ap, kNot_ap, kBl_ap, kNo_ap, kTup_ap, kLst_ap, kX4_ap, kX3_ap, kX2_ap, kX1_ap, kSl3_ap, kSl2_ap, kSl1_ap, kF1_ap, kF22_ap, kF21_ap, kIsin_ap, kM2_ap, kM1_ap, kCons2_ap, kL1_ap, kA1_ap, kP2_ap, kP1_ap, kR_ap, kRX_ap, kCallp_ap, kRs_ap, kCallz_ap, kCalla_ap, kPut_ap, kRi_ap, kRXi_ap, kCi3_ap, kCi2_ap, kCi1_ap, kDrop_ap, kRt_ap, kCt2_ap, kCt1_ap, kAsg_ap, kAsgT_ap, kSet1_ap, kExpr_ap, kRtn_ap, kIt_ap, kItems_ap, kRng2_ap, kZip_ap, kFz_ap, hold_e, hold_rng1, hold_rng2, hold_enum, hold_zip, hold_hold, kAnd_t, kAnd_f, kOr_t, kOr_f, kIfe_t, kIfe_f, kO_i, kRev_l, kNeg_i, kTst_b, kAug_i, kAug1_i, kSet2_i, kSet3_l, kRng1_i, kRng22_i, kEnum_l, kZip2_l, kLcT_f, kLcT_t, kLcE_ap, fin_rt0, fin_nx0, fin_ex0, fin_rt1, fin_nx1, slot_0, slot_s, put_0, put_s, oS_some, wr_ok, PV.pure, pureEs, isMv, isNo, root, redo, B2.scal, F1.scal, M1.scal, fits, tcOf_non, tcOf_bool, tcOf_int, tcOf_str, tcOf_list, tcOf_tuple, isTC_bool_non, isTC_bool_bool, isTC_bool_int, isTC_bool_str, isTC_bool_list, isTC_bool_tuple, isTC_bool_dict, isTC_int_non, isTC_int_bool, isTC_int_int, isTC_int_str, isTC_int_list, isTC_int_tuple, isTC_int_dict, isTC_str_non, isTC_str_bool, isTC_str_int, isTC_str_str, isTC_str_list, isTC_str_tuple, isTC_str_dict, isTC_list_non, isTC_list_bool, isTC_list_int, isTC_list_str, isTC_list_list, isTC_list_tuple, isTC_list_dict, isTC_tuple_non, isTC_tuple_bool, isTC_tuple_int, isTC_tuple_str, isTC_tuple_list, isTC_tuple_tuple, isTC_tuple_dict, noOwn_tup, noOwn_lst, noOwn_int, noOwn_str, noOwn_bl, noOwn_non, noOwn_scr, noOwn_dct, noOwnL_nil, noOwnL_cons, canFz_tup, canFz_lst, canFz_int, canFz_str, canFz_bl, canFz_non, canFz_scr, canFzL_nil, canFzL_cons, fz_tup, fz_lst, fz_int, fz_str, fz_bl, fz_non, fz_scr, fzL_nil, fzL_cons, isTys, atI_0, atI_1, atI_2, atI_3, atI_4, ixN_0, ixN_1, ixN_2, eqD_int, Int.reduceLT, Int.reduceLE, Int.reduceNeg, Int.reduceAdd, Int.reduceSub, Int.reduceMul, Nat.reduceAdd, Nat.reduceLT, Nat.reduceLeDiff, Nat.reduceEqDiff, List.mem_cons, bindT, bindTs, Tg.slots, ownOk, wipeE, List.all_cons, List.all_nil, List.any_cons, List.any_nil, List.contains_eq_mem, List.not_mem_nil, List.length_cons, List.length_nil, List.set_cons_zero, List.set_cons_succ, List.cons_append, List.nil_append, Bool.not_true, Bool.not_false, Bool.and_true, Bool.true_and, Bool.and_false, Bool.false_and, Bool.or_true, Bool.true_or, Bool.or_false, Bool.false_or, Bool.and_self, Bool.or_self, Bool.and_eq_true, Bool.or_eq_true, Bool.not_eq_true', true_and, and_true, and_self, false_and, and_false, true_or, or_true, false_or, or_false, or_self, if_true, if_false, ite_true, ite_false, eq_self, Bool.false_eq_true, Option.map_some, Option.map_none, Option.bind_some, Option.some.injEq, decide_true, decide_false, decide_eq_true_eq, szOk_0, szOk_1, szOk_2, szOk_3, szOk_4, szOk_5, szOk_6, szOk_7, szOk_8, szOk_9, szOk_10, szOk_11, szOk_12, szOk_13, szOk_14, szOk_15, szOk_16, szOk_17, szOk_18, szOk_19, szOk_20, isScal_c0, isScal_c1, isScal_c2, isScal_c3, isScal_c4, isNonD_c0, b2_c0, b2_c1, b2_c2, b2_c3, b2_c4, b2_c5, b2_c6, b2_c7, b2_c8, b2_c9, b2_c10, b2_c11, b2_c12, b2_c13, b2_c14, b2_c15, b2_c16, c2_c0, c2_c1, c2_c2, c2_c3, c2_c4, c2_c5, c2_c6, c2_c7, ixS_c0, ixS_c1, ixS_c2, ixS_c3, slS_c0, slS_c1, slS_c2, slS_c3, f1S_c0, f1S_c1, f1S_c2, f1S_c3, f1S_c4, f1S_c5, f1S_c6, f1S_c7, f1S_c8, f1S_c9, f1S_c10, f1S_c11, f1S_c12, f1S_c13, f1S_c14, f1S_c15, f1S_c16, f2S_c0, f2S_c1, m1S_c0, m1S_c1, m1S_c2, m1S_c3, recvOk_c0, recvOk_c1, recvOk_c2, recvOk_c3, recvOk_c4, recvOk_c5, recvOk_c6, isOwnL_c0, mmS_c0, mmS_c1, mmS_c2, mmS_c3, itemsOf_c0, itemsOf_c1, itemsOf_c2, seqOf_c0, seqOf_c1, fd0, fd1, fd2, fd3, fd4, fd5, fd6, fd7, fd8, fd9, fd10, fd11, fd12, fd13, fd14, fd15, fd16, fd17, fd18, fd19, fd20, fd21, fd22, fd23, fd24, fd25, fd26, fd27, fd28, $[$es:term],*])
namespace K38
open PySem L2 PV
section
variable {fs : List Str} {ds : List Dd} {ls : List Lk} {ws : List Int} {wish : Cd}
theorem where_ok {k : Nat} (hk : 28 ≤ k) (hh : Hs fs ds ls ws wish) {c : Cd} (ho : c.over fs) (hd : c.deep ≤ 24) {Q : D → Option D → Prop} {X : Nat → Prop} (q : Q (.lst true (((wl (2 ^ fs.length)).filter fun x => c.tru fs x).map .int)) none) : wr (run lw.tb 1000 k 6 [hsF fs ds ls ws wish, c.toD]) Q X := by
  obtain ⟨k, rfl⟩ : ∃ k', k = k' + 1 := ⟨k - 1, by omega⟩
  rw [wr_runE fd6 rfl rfl rfl]
  show xB (Wk k []) bo6 [some (hsF fs ds ls ws wish), some c.toD, none] _
  unfold bo6
  have cn := cd_no c
  have hp := pow_le hh.ff
  have hwl := wl_len (m := (2 : Int) ^ fs.length)
  have hr : rngOk ((2 : Int) ^ fs.length) = true := by simp [rngOk]; omega
  exists if_true
  refine xE_callp (fd := _) fd18 rfl ?_
  exists at0, at1, at2, at3, at4, fF, hsF_no, hsF_cz, hsF_fz, no_fD, cz_fD, fz_fD, len_fD, noOwnL_ints, ints_cz, ints_fz, noOwnL_str, strs_cz, strs_fz
  refine many_ok (k := k) (by omega) hh.ff ?_
  exists hr, rng_wl
  refine kLc_filter (wl (2 ^ fs.length)) D.int (fun x => c.tru fs x) (by simp) rfl ?_ (fun u _ => rfl) (by omega) ?_
  · intro x hx Q' hq
    simp only [xE_int, xE_str, xE_bl, xE_non, xE_fn, xE_glob, xE_var, xE_bin, xE_cmp, xE_isn, xE_not, xE_and, xE_or, xE_ife, xE_tup, xE_lst, xE_ix, xO_all, xOb_t, xOb_f, xE_slA, xE_chain, kCh1_ap, kCh2_ap, kCh3_f, kCh3_t, kCh4_ap, kXf_ap, xE_fr, xE_xis, kXis_ap, xOf_xc, noOwn_xc, xS_try1, kTry_ex, kTry_nx, kTry_rt, kTry_bk, kTry_ct, kTry2_t, kTry2_f, kUn_nx, kUn_rt, xSlot_s, xSlot_n, xFits_s, xFits_n, fits'_is, noXS_nil, noXS_s, noXS_n, noX_int, noX_str, noX_bl, noX_non, noX_scr, noX_tup, noX_lst, noX_dct, noXL_nil, noXL_cons, noXL_ints, noXL_strs, xE_dnw, xS_dput, kDp1_ap, kDp2_ap, kDp3_ap, isOwnD_d, xE_mmA, xE_vf, kVf_ap, xE_sset, kSset_ap, xE_trg, kTrg_i, trgD_t, trgD_f, xE_lc, unh_e, unh_rng1, unh_rng2, unh_enum, unh_zip, unh_hold, backS_nil, backS_cons, xE_rev, xE_f1, xE_f2, xE_isin, xE_m1, xE_neg, xL_nil, xL_cons, xA_nil, xA_cons, xP_nil, xP_cons, xT_e, xV_all, xVb_t, xVb_f, xVb_m, kMv_ap, kKeep_all, kKb_t, kKb_f, kFr0_s, kFr1_ap, kFr_ap, xF_e, xS_asg, xS_asgT, xS_aug, xS_setixA, xSb_t, xS_forA, xS_expr, xS_ret, xS_retn, xS_ife, xS_raise, xS_pass, xS_cont, xS_brk, xB_nil, xB_cons, xTst_all, xTb_t, xTb_f, xC1_s, xC2_v, xC2_t, xC2_a, isVar, xI_e, xI_rng1, xI_rng2, xI_enum, xI_zip, kSq_nx, kSq_rt, kSq_ex, kSq_bk, kSq_ct, kCond_t, kCond_f, kTurn_nx, kTurn_ct, kTurn_bk, kTurn_rt, kTurn_ex, kIf_t, kRet_ap, kB3_ap, kB2_ap, kB1_ap, kC4_ap, kC3_ap, kC2_ap, kC1_ap, kIsn_ap, kNot_ap, kBl_ap, kNo_ap, kTup_ap, kLst_ap, kX4_ap, kX3_ap, kX2_ap, kX1_ap, kSl3_ap, kSl2_ap, kSl1_ap, kF1_ap, kF22_ap, kF21_ap, kIsin_ap, kM2_ap, kM1_ap, kCons2_ap, kL1_ap, kA1_ap, kP2_ap, kP1_ap, kR_ap, kRX_ap, kCallp_ap, kRs_ap, kCallz_ap, kCalla_ap, kPut_ap, kRi_ap, kRXi_ap, kCi3_ap, kCi2_ap, kCi1_ap, kDrop_ap, kRt_ap, kCt2_ap, kCt1_ap, kAsg_ap, kAsgT_ap, kSet1_ap, kExpr_ap, kRtn_ap, kIt_ap, kItems_ap, kRng2_ap, kZip_ap, kFz_ap, hold_e, hold_rng1, hold_rng2, hold_enum, hold_zip, hold_hold, kAnd_t, kAnd_f, kOr_t, kOr_f, kIfe_t, kIfe_f, kO_i, kRev_l, kNeg_i, kTst_b, kAug_i, kAug1_i, kSet2_i, kSet3_l, kRng1_i, kRng22_i, kEnum_l, kZip2_l, kLcT_f, kLcT_t, kLcE_ap, fin_rt0, fin_nx0, fin_ex0, fin_rt1, fin_nx1, slot_0, slot_s, put_0, put_s, oS_some, wr_ok, PV.pure, pureEs, isMv, isNo, root, redo, B2.scal, F1.scal, M1.scal, fits, tcOf_non, tcOf_bool, tcOf_int, tcOf_str, tcOf_list, tcOf_tuple, isTC_bool_non, isTC_bool_bool, isTC_bool_int, isTC_bool_str, isTC_bool_list, isTC_bool_tuple, isTC_bool_dict, isTC_int_non, isTC_int_bool, isTC_int_int, isTC_int_str, isTC_int_list, isTC_int_tuple, isTC_int_dict, isTC_str_non, isTC_str_bool, isTC_str_int, isTC_str_str, isTC_str_list, isTC_str_tuple, isTC_str_dict, isTC_list_non, isTC_list_bool, isTC_list_int, isTC_list_str, isTC_list_list, isTC_list_tuple, isTC_list_dict, isTC_tuple_non, isTC_tuple_bool, isTC_tuple_int, isTC_tuple_str, isTC_tuple_list, isTC_tuple_tuple, isTC_tuple_dict, noOwn_tup, noOwn_lst, noOwn_int, noOwn_str, noOwn_bl, noOwn_non, noOwn_scr, noOwn_dct, noOwnL_nil, noOwnL_cons, canFz_tup, canFz_lst, canFz_int, canFz_str, canFz_bl, canFz_non, canFz_scr, canFzL_nil, canFzL_cons, fz_tup, fz_lst, fz_int, fz_str, fz_bl, fz_non, fz_scr, fzL_nil, fzL_cons, isTys, atI_0, atI_1, atI_2, atI_3, atI_4, ixN_0, ixN_1, ixN_2, eqD_int, Int.reduceLT, Int.reduceLE, Int.reduceNeg, Int.reduceAdd, Int.reduceSub, Int.reduceMul, Nat.reduceAdd, Nat.reduceLT, Nat.reduceLeDiff, Nat.reduceEqDiff, List.mem_cons, bindT, bindTs, Tg.slots, ownOk, wipeE, List.all_cons, List.all_nil, List.any_cons, List.any_nil, List.contains_eq_mem, List.not_mem_nil, List.length_cons, List.length_nil, List.set_cons_zero, List.set_cons_succ, List.cons_append, List.nil_append, Bool.not_true, Bool.not_false, Bool.and_true, Bool.true_and, Bool.and_false, Bool.false_and, Bool.or_true, Bool.true_or, Bool.or_false, Bool.false_or, Bool.and_self, Bool.or_self, Bool.and_eq_true, Bool.or_eq_true, Bool.not_eq_true', true_and, and_true, and_self, false_and, and_false, true_or, or_true, false_or, or_false, or_self, if_true, if_false, ite_true, ite_false, eq_self, Bool.false_eq_true, Option.map_some, Option.map_none, Option.bind_some, Option.some.injEq, decide_true, decide_false, decide_eq_true_eq, szOk_0, szOk_1, szOk_2, szOk_3, szOk_4, szOk_5, szOk_6, szOk_7, szOk_8, szOk_9, szOk_10, szOk_11, szOk_12, szOk_13, szOk_14, szOk_15, szOk_16, szOk_17, szOk_18, szOk_19, szOk_20, isScal_c0, isScal_c1, isScal_c2, isScal_c3, isScal_c4, isNonD_c0, b2_c0, b2_c1, b2_c2, b2_c3, b2_c4, b2_c5, b2_c6, b2_c7, b2_c8, b2_c9, b2_c10, b2_c11, b2_c12, b2_c13, b2_c14, b2_c15, b2_c16, c2_c0, c2_c1, c2_c2, c2_c3, c2_c4, c2_c5, c2_c6, c2_c7, ixS_c0, ixS_c1, ixS_c2, ixS_c3, slS_c0, slS_c1, slS_c2, slS_c3, f1S_c0, f1S_c1, f1S_c2, f1S_c3, f1S_c4, f1S_c5, f1S_c6, f1S_c7, f1S_c8, f1S_c9, f1S_c10, f1S_c11, f1S_c12, f1S_c13, f1S_c14, f1S_c15, f1S_c16, f2S_c0, f2S_c1, m1S_c0, m1S_c1, m1S_c2, m1S_c3, recvOk_c0, recvOk_c1, recvOk_c2, recvOk_c3, recvOk_c4, recvOk_c5, recvOk_c6, isOwnL_c0, mmS_c0, mmS_c1, mmS_c2, mmS_c3, itemsOf_c0, itemsOf_c1, itemsOf_c2, seqOf_c0, seqOf_c1, fd0, fd1, fd2, fd3, fd4, fd5, fd6, fd7, fd8, fd9, fd10, fd11, fd12, fd13, fd14, fd15, fd16, fd17, fd18, fd19, fd20, fd21, fd22, fd23, fd24, fd25, fd26, fd27, fd28] at hq
    exists isNo
    refine xE_callp (fd := _) fd17 rfl ?_
    exists at0, at1, at2, at3, at4, fF, hsF_no, hsF_cz, hsF_fz, no_fD, cz_fD, fz_fD, len_fD, noOwnL_ints, ints_cz, ints_fz, noOwnL_str, strs_cz, strs_fz, cn
    refine holds_ok hh.ff c ho (k := k) (by omega) ?_
    exists if_true
    exact hq
  · exists if_true
    exact q
end
end K38

end

section
open PySem L2 PV
open K38
local macro_rules
  | `(tactic| exists $es,*) => `(tactic| simp -implicitDefEqProofs only [xE_int, xE_str, xE_bl, xE_non, xE_fn, xE_glob, xE_var, xE_bin, xE_cmp, xE_isn, xE_not, xE_and, xE_or, xE_ife, xE_tup, xE_lst, xE_ix, xO_all, xOb_t, xOb_f, xE_slA, xE_chain, kCh1_ap, kCh2_ap, kCh3_f, kCh3_t, kCh4_ap, kXf_ap, xE_fr, xE_xis, kXis_ap, xOf_xc, noOwn_xc, xS_try1, kTry_ex, kTry_nx, kTry_rt, kTry_bk, kTry_ct, kTry2_t, kTry2_f, kUn_nx, kUn_rt, xSlot_s, xSlot_n, xFits_s, xFits_n, fits'_is, noXS_nil, noXS_s, noXS_n, noX_int, noX_str, noX_bl, noX_non, noX_scr, noX_tup, noX_lst, noX_dct, noXL_nil, noXL_cons, noXL_ints, noXL_strs, xE_dnw, xS_dput, kDp1_ap, kDp2_ap, kDp3_ap, isOwnD_d, xE_mmA, xE_vf, kVf_ap, xE_sset, kSset_ap, xE_trg, kTrg_i, trgD_t, trgD_f, xE_lc, unh_e, unh_rng1, unh_rng2, unh_enum, unh_zip, unh_hold, backS_nil, backS_cons, xE_rev, xE_f1, xE_f2, xE_isin, xE_m1, xE_neg, xL_nil, xL_cons, xA_nil, xA_cons, xP_nil, xP_cons, xT_e, xV_all, xVb_t, xVb_f, xVb_m, kMv_ap, kKeep_all, kKb_t, kKb_f, kFr0_s, kFr1_ap, kFr_ap, xF_e, xS_asg, xS_asgT, xS_aug, xS_setixA, xSb_t, xS_forA, xS_expr, xS_ret, xS_retn, xS_ife, xS_raise, xS_pass, xS_cont, xS_brk, xB_nil, xB_cons, xTst_all, xTb_t, xTb_f, xC1_s, xC2_v, xC2_t, xC2_a, isVar, xI_e, xI_rng1, xI_rng2, xI_enum, xI_zip, kSq_nx, kSq_rt, kSq_ex, kSq_bk, kSq_ct, kCond_t, kCond_f, kTurn_nx, kTurn_ct, kTurn_bk, kTurn_rt, kTurn_ex, kIf_t, kRet_ap, kB3_ap, kB2_ap, kB1_ap, kC4_ap, kC3_ap, kC2_ap, kC1_ap, kIsn_ap, kNot_ap, kBl_ap, kNo_ap, kTup_ap, kLst_ap, kX4_ap, kX3_ap, kX2_ap, kX1_ap, kSl3_ap, kSl2_ap, kSl1_ap, kF1_ap, kF22_ap, kF21_ap, kIsin_ap, kM2_ap, kM1_ap, kCons2_ap, kL1_ap, kA1_ap, kP2_ap, kP1_ap, kR_ap, kRX_ap, kCallp_ap, kRs_ap, kCallz_ap, kCalla_ap, kPut_ap, kRi_ap, kRXi_ap, kCi3_ap, kCi2_ap, kCi1_ap, kDrop_ap, kRt_ap, kCt2_ap, kCt1_ap, kAsg_ap, kAsgT_ap, kSet1_ap, kExpr_ap, kRtn_ap, kIt_ap, kItems_ap, kRng2_ap, kZip_ap, kFz_ap, hold_e, hold_rng1, hold_rng2, hold_enum, hold_zip, hold_hold, kAnd_t, kAnd_f, kOr_t, kOr_f, kIfe_t, kIfe_f, kO_i, kRev_l, kNeg_i, kTst_b, kAug_i, kAug1_i, kSet2_i, kSet3_l, kRng1_i, kRng22_i, kEnum_l, kZip2_l, kLcT_f, kLcT_t, kLcE_ap, fin_rt0, fin_nx0, fin_ex0, fin_rt1, fin_nx1, slot_0, slot_s, put_0, put_s, oS_some, wr_ok, PV.pure, pureEs, isMv, isNo, root, redo, B2.scal, F1.scal, M1.scal, fits, tcOf_non, tcOf_bool, tcOf_int, tcOf_str, tcOf_list, tcOf_tuple, isTC_bool_non, isTC_bool_bool, isTC_bool_int, isTC_bool_str, isTC_bool_list, isTC_bool_tuple, isTC_bool_dict, isTC_int_non, isTC_int_bool, isTC_int_int, isTC_int_str, isTC_int_list, isTC_int_tuple, isTC_int_dict, isTC_str_non, isTC_str_bool, isTC_str_int, isTC_str_str, isTC_str_list, isTC_str_tuple, isTC_str_dict, isTC_list_non, isTC_list_bool, isTC_list_int, isTC_list_str, isTC_list_list, isTC_list_tuple, isTC_list_dict, isTC_tuple_non, isTC_tuple_bool, isTC_tuple_int, isTC_tuple_str, isTC_tuple_list, isTC_tuple_tuple, isTC_tuple_dict, noOwn_tup, noOwn_lst, noOwn_int, noOwn_str, noOwn_bl, noOwn_non, noOwn_scr, noOwn_dct, noOwnL_nil, noOwnL_cons, canFz_tup, canFz_lst, canFz_int, canFz_str, canFz_bl, canFz_non, canFz_scr, canFzL_nil, canFzL_cons, fz_tup, fz_lst, fz_int, fz_str, fz_bl, fz_non, fz_scr, fzL_nil, fzL_cons, isTys, atI_0, atI_1, atI_2, atI_3, atI_4, ixN_0, ixN_1, ixN_2, eqD_int, Int.reduceLT, Int.reduceLE, Int.reduceNeg, Int.reduceAdd, Int.reduceSub, Int.reduceMul, Nat.reduceAdd, Nat.reduceLT, Nat.reduceLeDiff, Nat.reduceEqDiff, List.mem_cons, bindT, bindTs, Tg.slots, ownOk, wipeE, List.all_cons, List.all_nil, List.any_cons, List.any_nil, List.contains_eq_mem, List.not_mem_nil, List.length_cons, List.length_nil, List.set_cons_zero, List.set_cons_succ, List.cons_append, List.nil_append, Bool.not_true, Bool.not_false, Bool.and_true, Bool.true_and, Bool.and_false, Bool.false_and, Bool.or_true, Bool.true_or, Bool.or_false, Bool.false_or, Bool.and_self, Bool.or_self, Bool.and_eq_true, Bool.or_eq_true, Bool.not_eq_true', true_and, and_true, and_self, false_and, and_false, true_or, or_true, false_or, or_false, or_self, if_true, if_false, ite_true, ite_false, eq_self, Bool.false_eq_true, Option.map_some, Option.map_none, Option.bind_some, Option.some.injEq, decide_true, decide_false, decide_eq_true_eq, szOk_0, szOk_1, szOk_2, szOk_3, szOk_4, szOk_5, szOk_6, szOk_7, szOk_8, szOk_9, szOk_10, szOk_11, szOk_12, szOk_13, szOk_14, szOk_15, szOk_16, szOk_17, szOk_18, szOk_19, szOk_20, isScal_c0, isScal_c1, isScal_c2, isScal_c3, isScal_c4, isNonD_c0, b2_c0, b2_c1, b2_c2, b2_c3, b2_c4, b2_c5, b2_c6, b2_c7, b2_c8, b2_c9, b2_c10, b2_c11, b2_c12, b2_c13, b2_c14, b2_c15, b2_c16, c2_c0, c2_c1, c2_c2, c2_c3, c2_c4, c2_c5, c2_c6, c2_c7, ixS_c0, ixS_c1, ixS_c2, ixS_c3, slS_c0, slS_c1, slS_c2, slS_c3, f1S_c0, f1S_c1, f1S_c2, f1S_c3, f1S_c4, f1S_c5, f1S_c6, f1S_c7, f1S_c8, f1S_c9, f1S_c10, f1S_c11, f1S_c12, f1S_c13, f1S_c14, f1S_c15, f1S_c16, f2S_c0, f2S_c1, m1S_c0, m1S_c1, m1S_c2, m1S_c3, recvOk_c0, recvOk_c1, recvOk_c2, recvOk_c3, recvOk_c4, recvOk_c5, recvOk_c6, isOwnL_c0, mmS_c0, mmS_c1, mmS_c2, mmS_c3, itemsOf_c0, itemsOf_c1, itemsOf_c2, seqOf_c0, seqOf_c1, fd0, fd1, fd2, fd3, fd4, fd5, fd6, fd7, fd8, fd9, fd10, fd11, fd12, fd13, fd14, fd15, fd16, fd17, fd18, fd19, fd20, fd21, fd22, fd23, fd24, fd25, fd26, fd27, fd28, $[$es:term],*])
namespace K38
open PySem L2 PV
def isW : Rs → Bool
  | .well _ => true
  | _ => false
theorem rs_w {r : Rs} : eqD (.str (rsS r)) (.str "well") = some (isW r) := by
  cases r with
  | stuck p w => exact sw1
  | ends w => exact sw3
  | well cs => exact sw2
theorem isW_pre {r : Rs} {acc : List (List Int)} : isW (r.pre acc) = isW r := by cases r <;> rfl
theorem fail_all {fs : List Str} {c : Cd} {u : List Int} : fail fs c u = none ↔ ∀ x ∈ u, c.tru fs x = true := by
  constructor
  · exact fail_tru
  · intro h
    unfold fail
    rw [List.find?_eq_none]
    intro x hx
    simp [h x hx]
theorem beh_one {fs : List Str} {ys : List (List Ch)} {u : List Int} {y : Int} : y ∈ beh fs ys u ↔ ∃ x ∈ u, y ∈ beh fs ys [x] := by
  rw [beh_mem]
  constructor
  · rintro ⟨w, hw, z, hz, e⟩
    exact ⟨w, hw, beh_mem.mpr ⟨w, by simp, z, hz, e⟩⟩
  · rintro ⟨x, hx, h⟩
    obtain ⟨w, hw, z, hz, e⟩ := beh_mem.mp h
    simp only [List.mem_singleton] at hw
    subst hw
    exact ⟨w, hx, z, hz, e⟩
theorem goes_gd {fs : List Str} {w : Cd} : ∀ {rs : List Dd} {u : List Int}, isW (goes fs w rs u) = true ↔ ∀ x ∈ u, gdP fs w rs x = true
  | [], u => by
    simp only [goes, gdP]
    rw [← fail_all]
    cases fail fs w u <;> simp [isW]
  | d :: rs, u => by
    simp only [goes, gdP, Bool.and_eq_true, List.all_eq_true]
    cases hf : fail fs d.2.1 u with
    | some y =>
      constructor
      · intro h; cases h
      · intro h
        have := fail_all.mpr fun x hx => (h x hx).1
        rw [hf] at this; cases this
    | none =>
      have ht := fail_all.mp hf
      simp only [isW_pre]
      rw [goes_gd]
      constructor
      · intro h x hx
        exact ⟨ht x hx, fun y hy => h y (beh_one.mpr ⟨x, hx, hy⟩)⟩
      · intro h y hy
        obtain ⟨x, hx, hy⟩ := beh_one.mp hy
        exact (h x hx).2 y hy
theorem gdP_both {fs : List Str} {a b : Cd} : ∀ {rs : List Dd} {x : Int}, gdP fs (.both a b) rs x = (gdP fs a rs x && gdP fs b rs x)
  | [], x => rfl
  | d :: rs, x => by
    simp only [gdP]
    have e : (fun y => gdP fs (.both a b) rs y) = fun y => gdP fs a rs y && gdP fs b rs y := funext fun y => gdP_both
    rw [show (beh fs d.2.2 [x]).all (gdP fs (.both a b) rs) = (beh fs d.2.2 [x]).all fun y => gdP fs a rs y && gdP fs b rs y from by rw [← e]]
    rw [Bool.eq_iff_iff]
    simp only [Bool.and_eq_true, List.all_eq_true]
    constructor
    · rintro ⟨h1, h2⟩; exact ⟨⟨h1, fun y hy => (h2 y hy).1⟩, h1, fun y hy => (h2 y hy).2⟩
    · rintro ⟨⟨h1, h2⟩, _, h3⟩; exact ⟨h1, fun y hy => ⟨h2 y hy, h3 y hy⟩⟩
theorem gd_both {fs : List Str} {a b : Cd} {rs : List Dd} : gd fs (.both a b) rs = (gd fs a rs).filter fun x => decide (x ∈ gd fs b rs) := by
  unfold gd
  rw [List.filter_filter]
  refine List.filter_congr fun x hx => ?_
  have hm : decide (x ∈ (wl (2 ^ fs.length)).filter (gdP fs b rs)) = gdP fs b rs x := by
    rw [Bool.eq_iff_iff, decide_eq_true_eq, List.mem_filter]
    simp [hx]
  rw [hm, gdP_both, Bool.and_comm]
section
variable {fs : List Str} {ds : List Dd} {ls : List Lk} {ws : List Int} {wish : Cd}
theorem gd_len (hf : Fs fs) {w : Cd} {rs : List Dd} : (gd fs w rs).length ≤ 1024 := by
  have h1 : (gd fs w rs).length ≤ (wl (2 ^ fs.length)).length := List.length_filter_le _ _
  have h2 := pow_le hf
  rw [wl_len] at h1
  omega
def ahS : Ss := match bo9 with
  | .cons _ (.cons _ (.cons (.for _ _ _ _ b) _)) => b
  | _ => .nil
theorem ahead_ok {k : Nat} (hk : 50 ≤ k) (hh : Hs fs ds ls ws wish) {d : Dd} (hd : d ∈ ds) {rs : List Dd} (hr : ∀ d ∈ rs, d ∈ ds) (hl : rs.length ≤ 100) {Q : D → Option D → Prop} {X : Nat → Prop} (q : Q (.bl true) none) : wr (run lw.tb 1000 k 9 [hsF fs ds ls ws wish, ddD false d, .lst false (rs.map nmD)]) Q X := by
  obtain ⟨k, rfl⟩ : ∃ k', k = k' + 1 := ⟨k - 1, by omega⟩
  rw [wr_runE fd9 rfl rfl rfl]
  show xB (Wk k []) (.cons _ (.cons _ (.cons (.for _ _ _ _ ahS) (.cons _ .nil)))) [some (hsF fs ds ls ws wish), some (ddD false d), some (.lst false (rs.map nmD)), none, none, none, none] _
  have rn := nm_no rs
  have rz := noOwnL_canFz rn
  have rf := fzL_id rn
  have hD := hh.dd d hd
  have dn := ddF_no d
  have dz := noOwn_canFz dn
  have df := fz_id dn
  have nn := cd_no d.2.1
  have d1 : ∀ kt, ixS kt (ddD false d) (.int 1) = some d.2.1.toD := fun _ => rfl
  have d0 : ∀ kt, ixS kt (ddD false d) (.int 0) = some (.str d.1) := fun _ => rfl
  have hgl := gd_len hh.ff (w := wish) (rs := rs)
  have hp := pow_le hh.ff
  have hwl := wl_len (m := (2 : Int) ^ fs.length)
  let P : Int → Bool := fun x => decide ((beh fs d.2.2 [x]).filter (fun y => !decide (y ∈ gd fs wish rs)) = [])
  let N : List Int := (wl (2 ^ fs.length)).filter fun x => d.2.1.tru fs x
  have hN : N.length ≤ 1024 := by
    have : N.length ≤ (wl (2 ^ fs.length)).length := List.length_filter_le _ _
    omega
  have hNP : N.filter P = gd fs wish (d :: rs) := by
    show ((wl (2 ^ fs.length)).filter fun x => d.2.1.tru fs x).filter P = (wl (2 ^ fs.length)).filter (gdP fs wish (d :: rs))
    rw [List.filter_filter]
    refine List.filter_congr fun x hx => ?_
    have hx2 := wl_mem.mp hx
    have hc := beh_crowd hD (one_crowd hx2)
    have e : P x = (beh fs d.2.2 [x]).all (gdP fs wish rs) := by
      show decide _ = _
      rw [Bool.eq_iff_iff, decide_eq_true_eq, List.filter_eq_nil_iff, List.all_eq_true]
      constructor
      · intro h y hy
        have := h y hy
        simp only [Bool.not_eq_true', decide_eq_false_iff_not, Classical.not_not, Bool.not_eq_true] at this
        have h2 : y ∈ gd fs wish rs := by simpa using this
        exact (gd_mem.mp h2).2
      · intro h y hy
        have h2 : y ∈ gd fs wish rs := gd_mem.mpr ⟨hc.bd y hy, h y hy⟩
        simp [h2]
    rw [e, gdP, Bool.and_comm]
  exists if_true
  refine xC_ap ?_
  exists hsF_no, hsF_cz, hsF_fz, rn, rz, rf
  refine good_ok (k := k) (by omega) hh hr (by omega) ?_
  exists if_true
  refine xE_callp (fd := _) fd6 rfl ?_
  exists hsF_no, d1, dn, nn
  refine where_ok (k := k) (by omega) hh hD.over hD.deep ?_
  show _
  have eN : (wl (2 ^ fs.length)).filter (fun x => d.2.1.tru fs x) = N := rfl
  rw [eN]
  exists noOwnL_ints, ints_cz, ints_fz
  refine kFor_inv (fun i ρ => ∃ v5, ρ = [some (hsF fs ds ls ws wish), some (ddD false d), some (.lst false (rs.map nmD)), some (.lst true ((gd fs wish rs).map .int)), some (.lst true (((N.take i).filter P).map .int)), v5, none]) (by decide) ⟨none, rfl⟩ ?_ ?_
  · rintro i x ρ hx ⟨v5, rfl⟩
    obtain ⟨x, hxi, rfl⟩ : ∃ w, N[i]? = some w ∧ D.int w = x := by
      simp only [List.getElem?_map, Option.map_eq_some_iff] at hx
      exact hx
    have hm := List.mem_filter.mp (List.mem_of_getElem? hxi)
    have hx2 := wl_mem.mp hm.1
    have hi := (List.getElem?_eq_some_iff.mp hxi).1
    have hc := beh_crowd hD (one_crowd hx2)
    have hcl := crowd_len2 hh.ff hc
    have hcan : cando fs d.2.1 [x] = true := by rw [cando_1]; exact hm.2
    have et : (N.take (i + 1)).filter P = (N.take i).filter P ++ [x].filter P := by
      rw [List.take_succ, hxi, List.filter_append]; rfl
    have hfl2 : ((N.take i).filter P).length ≤ 1024 := by
      have h1 : ((N.take i).filter P).length ≤ (N.take i).length := List.length_filter_le _ _
      have h2 : (N.take i).length ≤ N.length := by simp; omega
      omega
    show xB (Wk k []) (.cons _ .nil) _ _
    exists if_true
    refine xE_callp (fd := _) fd19 rfl ?_
    exists hsF_no, d0, dn
    refine worlds_behind_ok (k := k) (by omega) hh hd hx2.1 hx2.2 (fun _ => ?_) (fun h => by rw [hcan] at h; cases h)
    exists noOwnL_ints, ints_cz, ints_fz
    refine kLc_filter (beh fs d.2.2 [x]) D.int (fun y => !decide (y ∈ gd fs wish rs)) (by simp) rfl ?_ (fun u _ => rfl) (by omega) ?_
    · intro y hy Q' hq
      simp only [xE_int, xE_str, xE_bl, xE_non, xE_fn, xE_glob, xE_var, xE_bin, xE_cmp, xE_isn, xE_not, xE_and, xE_or, xE_ife, xE_tup, xE_lst, xE_ix, xO_all, xOb_t, xOb_f, xE_slA, xE_chain, kCh1_ap, kCh2_ap, kCh3_f, kCh3_t, kCh4_ap, kXf_ap, xE_fr, xE_xis, kXis_ap, xOf_xc, noOwn_xc, xS_try1, kTry_ex, kTry_nx, kTry_rt, kTry_bk, kTry_ct, kTry2_t, kTry2_f, kUn_nx, kUn_rt, xSlot_s, xSlot_n, xFits_s, xFits_n, fits'_is, noXS_nil, noXS_s, noXS_n, noX_int, noX_str, noX_bl, noX_non, noX_scr, noX_tup, noX_lst, noX_dct, noXL_nil, noXL_cons, noXL_ints, noXL_strs, xE_dnw, xS_dput, kDp1_ap, kDp2_ap, kDp3_ap, isOwnD_d, xE_mmA, xE_vf, kVf_ap, xE_sset, kSset_ap, xE_trg, kTrg_i, trgD_t, trgD_f, xE_lc, unh_e, unh_rng1, unh_rng2, unh_enum, unh_zip, unh_hold, backS_nil, backS_cons, xE_rev, xE_f1, xE_f2, xE_isin, xE_m1, xE_neg, xL_nil, xL_cons, xA_nil, xA_cons, xP_nil, xP_cons, xT_e, xV_all, xVb_t, xVb_f, xVb_m, kMv_ap, kKeep_all, kKb_t, kKb_f, kFr0_s, kFr1_ap, kFr_ap, xF_e, xS_asg, xS_asgT, xS_aug, xS_setixA, xSb_t, xS_forA, xS_expr, xS_ret, xS_retn, xS_ife, xS_raise, xS_pass, xS_cont, xS_brk, xB_nil, xB_cons, xTst_all, xTb_t, xTb_f, xC1_s, xC2_v, xC2_t, xC2_a, isVar, xI_e, xI_rng1, xI_rng2, xI_enum, xI_zip, kSq_nx, kSq_rt, kSq_ex, kSq_bk, kSq_ct, kCond_t, kCond_f, kTurn_nx, kTurn_ct, kTurn_bk, kTurn_rt, kTurn_ex, kIf_t, kRet_ap, kB3_ap, kB2_ap, kB1_ap, kC4_ap, kC3_ap, kC2_ap, kC1_ap, kIsn_ap, kNot_ap, kBl_ap, kNo_ap, kTup_ap, kLst_ap, kX4_ap, kX3_ap, kX2_ap, kX1_ap, kSl3_ap, kSl2_ap, kSl1_ap, kF1_ap, kF22_ap, kF21_ap, kIsin_ap, kM2_ap, kM1_ap, kCons2_ap, kL1_ap, kA1_ap, kP2_ap, kP1_ap, kR_ap, kRX_ap, kCallp_ap, kRs_ap, kCallz_ap, kCalla_ap, kPut_ap, kRi_ap, kRXi_ap, kCi3_ap, kCi2_ap, kCi1_ap, kDrop_ap, kRt_ap, kCt2_ap, kCt1_ap, kAsg_ap, kAsgT_ap, kSet1_ap, kExpr_ap, kRtn_ap, kIt_ap, kItems_ap, kRng2_ap, kZip_ap, kFz_ap, hold_e, hold_rng1, hold_rng2, hold_enum, hold_zip, hold_hold, kAnd_t, kAnd_f, kOr_t, kOr_f, kIfe_t, kIfe_f, kO_i, kRev_l, kNeg_i, kTst_b, kAug_i, kAug1_i, kSet2_i, kSet3_l, kRng1_i, kRng22_i, kEnum_l, kZip2_l, kLcT_f, kLcT_t, kLcE_ap, fin_rt0, fin_nx0, fin_ex0, fin_rt1, fin_nx1, slot_0, slot_s, put_0, put_s, oS_some, wr_ok, PV.pure, pureEs, isMv, isNo, root, redo, B2.scal, F1.scal, M1.scal, fits, tcOf_non, tcOf_bool, tcOf_int, tcOf_str, tcOf_list, tcOf_tuple, isTC_bool_non, isTC_bool_bool, isTC_bool_int, isTC_bool_str, isTC_bool_list, isTC_bool_tuple, isTC_bool_dict, isTC_int_non, isTC_int_bool, isTC_int_int, isTC_int_str, isTC_int_list, isTC_int_tuple, isTC_int_dict, isTC_str_non, isTC_str_bool, isTC_str_int, isTC_str_str, isTC_str_list, isTC_str_tuple, isTC_str_dict, isTC_list_non, isTC_list_bool, isTC_list_int, isTC_list_str, isTC_list_list, isTC_list_tuple, isTC_list_dict, isTC_tuple_non, isTC_tuple_bool, isTC_tuple_int, isTC_tuple_str, isTC_tuple_list, isTC_tuple_tuple, isTC_tuple_dict, noOwn_tup, noOwn_lst, noOwn_int, noOwn_str, noOwn_bl, noOwn_non, noOwn_scr, noOwn_dct, noOwnL_nil, noOwnL_cons, canFz_tup, canFz_lst, canFz_int, canFz_str, canFz_bl, canFz_non, canFz_scr, canFzL_nil, canFzL_cons, fz_tup, fz_lst, fz_int, fz_str, fz_bl, fz_non, fz_scr, fzL_nil, fzL_cons, isTys, atI_0, atI_1, atI_2, atI_3, atI_4, ixN_0, ixN_1, ixN_2, eqD_int, Int.reduceLT, Int.reduceLE, Int.reduceNeg, Int.reduceAdd, Int.reduceSub, Int.reduceMul, Nat.reduceAdd, Nat.reduceLT, Nat.reduceLeDiff, Nat.reduceEqDiff, List.mem_cons, bindT, bindTs, Tg.slots, ownOk, wipeE, List.all_cons, List.all_nil, List.any_cons, List.any_nil, List.contains_eq_mem, List.not_mem_nil, List.length_cons, List.length_nil, List.set_cons_zero, List.set_cons_succ, List.cons_append, List.nil_append, Bool.not_true, Bool.not_false, Bool.and_true, Bool.true_and, Bool.and_false, Bool.false_and, Bool.or_true, Bool.true_or, Bool.or_false, Bool.false_or, Bool.and_self, Bool.or_self, Bool.and_eq_true, Bool.or_eq_true, Bool.not_eq_true', true_and, and_true, and_self, false_and, and_false, true_or, or_true, false_or, or_false, or_self, if_true, if_false, ite_true, ite_false, eq_self, Bool.false_eq_true, Option.map_some, Option.map_none, Option.bind_some, Option.some.injEq, decide_true, decide_false, decide_eq_true_eq, szOk_0, szOk_1, szOk_2, szOk_3, szOk_4, szOk_5, szOk_6, szOk_7, szOk_8, szOk_9, szOk_10, szOk_11, szOk_12, szOk_13, szOk_14, szOk_15, szOk_16, szOk_17, szOk_18, szOk_19, szOk_20, isScal_c0, isScal_c1, isScal_c2, isScal_c3, isScal_c4, isNonD_c0, b2_c0, b2_c1, b2_c2, b2_c3, b2_c4, b2_c5, b2_c6, b2_c7, b2_c8, b2_c9, b2_c10, b2_c11, b2_c12, b2_c13, b2_c14, b2_c15, b2_c16, c2_c0, c2_c1, c2_c2, c2_c3, c2_c4, c2_c5, c2_c6, c2_c7, ixS_c0, ixS_c1, ixS_c2, ixS_c3, slS_c0, slS_c1, slS_c2, slS_c3, f1S_c0, f1S_c1, f1S_c2, f1S_c3, f1S_c4, f1S_c5, f1S_c6, f1S_c7, f1S_c8, f1S_c9, f1S_c10, f1S_c11, f1S_c12, f1S_c13, f1S_c14, f1S_c15, f1S_c16, f2S_c0, f2S_c1, m1S_c0, m1S_c1, m1S_c2, m1S_c3, recvOk_c0, recvOk_c1, recvOk_c2, recvOk_c3, recvOk_c4, recvOk_c5, recvOk_c6, isOwnL_c0, mmS_c0, mmS_c1, mmS_c2, mmS_c3, itemsOf_c0, itemsOf_c1, itemsOf_c2, seqOf_c0, seqOf_c1, fd0, fd1, fd2, fd3, fd4, fd5, fd6, fd7, fd8, fd9, fd10, fd11, fd12, fd13, fd14, fd15, fd16, fd17, fd18, fd19, fd20, fd21, fd22, fd23, fd24, fd25, fd26, fd27, fd28] at hq
      exists isNo, inD_ints
      exact hq
    · have hn : ∀ o o2, eqD (.lst o (((beh fs d.2.2 [x]).filter fun y => !decide (y ∈ gd fs wish rs)).map .int)) (.lst o2 []) = some (P x) := fun o o2 => ints_nil _
      exists hn
      cases hP : P x with
      | true =>
        exists if_true
        refine kMm_ap _ _ _ _ _ (((N.take i).filter P).map .int) .non (((N.take i).filter P ++ [x]).map .int) rfl (by rw [PV.app_ok (by simp; omega)]; simp) ?_
        exists if_true
        refine ⟨none, ?_⟩
        rw [et, List.filter_cons_of_pos hP, List.filter_nil]
      | false =>
        exists if_true
        have e9 : (N.take (i + 1)).filter P = (N.take i).filter P := by rw [et, List.filter_cons_of_neg (by rw [hP]; simp), List.filter_nil, List.append_nil]
        exact ⟨_, by rw [e9]⟩
  · rintro ρ ⟨v5, rfl⟩
    rw [List.length_map, List.take_length, hNP]
    have e1 : [D.str d.1] ++ rs.map nmD = (d :: rs).map nmD := rfl
    have en := nm_no (d :: rs)
    have ez := noOwnL_canFz en
    have ef := fzL_id en
    have hz : szOk (0 + 1 + (rs.map nmD).length) = true := szOk_of (by simp; omega)
    have hz2 : szOk (1 + rs.length) = true := szOk_of (by omega)
    have hz3 : szOk (0 + 1 + rs.length) = true := szOk_of (by omega)
    have hrd : ∀ e ∈ d :: rs, e ∈ ds := fun e he => by
      rcases List.mem_cons.mp he with rfl | he
      · exact hd
      · exact hr e he
    have e2 : D.str d.1 :: rs.map nmD = (d :: rs).map nmD := rfl
    have heq : eqD (.lst true ((gd fs wish (d :: rs)).map .int)) (.lst true ((gd fs wish (d :: rs)).map .int)) = some true := by rw [eqD_lints]; simp
    exists if_true
    refine xC_ap ?_
    exists d0, dn, hsF_no, hsF_cz, hsF_fz, rn, rz, rf, hz, hz2, hz3, List.length_map, e2, en, ez, ef
    refine good_ok (k := k) (by omega) hh hrd (by simp; omega) ?_
    exists heq
    exact q
end
end K38

end

section
open PySem L2 PV
open K38
local macro_rules
  | `(tactic| exists $es,*) => `(tactic| simp -implicitDefEqProofs only [xE_int, xE_str, xE_bl, xE_non, xE_fn, xE_glob, xE_var, xE_bin, xE_cmp, xE_isn, xE_not, xE_and, xE_or, xE_ife, xE_tup, xE_lst, xE_ix, xO_all, xOb_t, xOb_f, xE_slA, xE_chain, kCh1_ap, kCh2_ap, kCh3_f, kCh3_t, kCh4_ap, kXf_ap, xE_fr, xE_xis, kXis_ap, xOf_xc, noOwn_xc, xS_try1, kTry_ex, kTry_nx, kTry_rt, kTry_bk, kTry_ct, kTry2_t, kTry2_f, kUn_nx, kUn_rt, xSlot_s, xSlot_n, xFits_s, xFits_n, fits'_is, noXS_nil, noXS_s, noXS_n, noX_int, noX_str, noX_bl, noX_non, noX_scr, noX_tup, noX_lst, noX_dct, noXL_nil, noXL_cons, noXL_ints, noXL_strs, xE_dnw, xS_dput, kDp1_ap, kDp2_ap, kDp3_ap, isOwnD_d, xE_mmA, xE_vf, kVf_ap, xE_sset, kSset_ap, xE_trg, kTrg_i, trgD_t, trgD_f, xE_lc, unh_e, unh_rng1, unh_rng2, unh_enum, unh_zip, unh_hold, backS_nil, backS_cons, xE_rev, xE_f1, xE_f2, xE_isin, xE_m1, xE_neg, xL_nil, xL_cons, xA_nil, xA_cons, xP_nil, xP_cons, xT_e, xV_all, xVb_t, xVb_f, xVb_m, kMv_ap, kKeep_all, kKb_t, kKb_f, kFr0_s, kFr1_ap, kFr_ap, xF_e, xS_asg, xS_asgT, xS_aug, xS_setixA, xSb_t, xS_forA, xS_expr, xS_ret, xS_retn, xS_ife, xS_raise, xS_pass, xS_cont, xS_brk, xB_nil, xB_cons, xTst_all, xTb_t, xTb_f, xC1_s, xC2_v, xC2_t, xC2_a, isVar, xI_e, xI_rng1, xI_rng2, xI_enum, xI_zip, kSq_nx, kSq_rt, kSq_ex, kSq_bk, kSq_ct, kCond_t, kCond_f, kTurn_nx, kTurn_ct, kTurn_bk, kTurn_rt, kTurn_ex, kIf_t, kRet_ap, kB3_ap, kB2_ap, kB1_ap, kC4_ap, kC3_ap, kC2_ap, kC1_ap, kIsn_ap, kNot_ap, kBl_ap, kNo_ap, kTup_ap, kLst_ap, kX4_ap, kX3_ap, kX2_ap, kX1_ap, kSl3_ap, kSl2_ap, kSl1_ap, kF1_ap, kF22_ap, kF21_ap, kIsin_ap, kM2_ap, kM1_ap, kCons2_ap, kL1_ap, kA1_ap, kP2_ap, kP1_ap, kR_ap, kRX_ap, kCallp_ap, kRs_ap, kCallz_ap, kCalla_ap, kPut_ap, kRi_ap, kRXi_ap, kCi3_ap, kCi2_ap, kCi1_ap, kDrop_ap, kRt_ap, kCt2_ap, kCt1_ap, kAsg_ap, kAsgT_ap, kSet1_ap, kExpr_ap, kRtn_ap, kIt_ap, kItems_ap, kRng2_ap, kZip_ap, kFz_ap, hold_e, hold_rng1, hold_rng2, hold_enum, hold_zip, hold_hold, kAnd_t, kAnd_f, kOr_t, kOr_f, kIfe_t, kIfe_f, kO_i, kRev_l, kNeg_i, kTst_b, kAug_i, kAug1_i, kSet2_i, kSet3_l, kRng1_i, kRng22_i, kEnum_l, kZip2_l, kLcT_f, kLcT_t, kLcE_ap, fin_rt0, fin_nx0, fin_ex0, fin_rt1, fin_nx1, slot_0, slot_s, put_0, put_s, oS_some, wr_ok, PV.pure, pureEs, isMv, isNo, root, redo, B2.scal, F1.scal, M1.scal, fits, tcOf_non, tcOf_bool, tcOf_int, tcOf_str, tcOf_list, tcOf_tuple, isTC_bool_non, isTC_bool_bool, isTC_bool_int, isTC_bool_str, isTC_bool_list, isTC_bool_tuple, isTC_bool_dict, isTC_int_non, isTC_int_bool, isTC_int_int, isTC_int_str, isTC_int_list, isTC_int_tuple, isTC_int_dict, isTC_str_non, isTC_str_bool, isTC_str_int, isTC_str_str, isTC_str_list, isTC_str_tuple, isTC_str_dict, isTC_list_non, isTC_list_bool, isTC_list_int, isTC_list_str, isTC_list_list, isTC_list_tuple, isTC_list_dict, isTC_tuple_non, isTC_tuple_bool, isTC_tuple_int, isTC_tuple_str, isTC_tuple_list, isTC_tuple_tuple, isTC_tuple_dict, noOwn_tup, noOwn_lst, noOwn_int, noOwn_str, noOwn_bl, noOwn_non, noOwn_scr, noOwn_dct, noOwnL_nil, noOwnL_cons, canFz_tup, canFz_lst, canFz_int, canFz_str, canFz_bl, canFz_non, canFz_scr, canFzL_nil, canFzL_cons, fz_tup, fz_lst, fz_int, fz_str, fz_bl, fz_non, fz_scr, fzL_nil, fzL_cons, isTys, atI_0, atI_1, atI_2, atI_3, atI_4, ixN_0, ixN_1, ixN_2, eqD_int, Int.reduceLT, Int.reduceLE, Int.reduceNeg, Int.reduceAdd, Int.reduceSub, Int.reduceMul, Nat.reduceAdd, Nat.reduceLT, Nat.reduceLeDiff, Nat.reduceEqDiff, List.mem_cons, bindT, bindTs, Tg.slots, ownOk, wipeE, List.all_cons, List.all_nil, List.any_cons, List.any_nil, List.contains_eq_mem, List.not_mem_nil, List.length_cons, List.length_nil, List.set_cons_zero, List.set_cons_succ, List.cons_append, List.nil_append, Bool.not_true, Bool.not_false, Bool.and_true, Bool.true_and, Bool.and_false, Bool.false_and, Bool.or_true, Bool.true_or, Bool.or_false, Bool.false_or, Bool.and_self, Bool.or_self, Bool.and_eq_true, Bool.or_eq_true, Bool.not_eq_true', true_and, and_true, and_self, false_and, and_false, true_or, or_true, false_or, or_false, or_self, if_true, if_false, ite_true, ite_false, eq_self, Bool.false_eq_true, Option.map_some, Option.map_none, Option.bind_some, Option.some.injEq, decide_true, decide_false, decide_eq_true_eq, szOk_0, szOk_1, szOk_2, szOk_3, szOk_4, szOk_5, szOk_6, szOk_7, szOk_8, szOk_9, szOk_10, szOk_11, szOk_12, szOk_13, szOk_14, szOk_15, szOk_16, szOk_17, szOk_18, szOk_19, szOk_20, isScal_c0, isScal_c1, isScal_c2, isScal_c3, isScal_c4, isNonD_c0, b2_c0, b2_c1, b2_c2, b2_c3, b2_c4, b2_c5, b2_c6, b2_c7, b2_c8, b2_c9, b2_c10, b2_c11, b2_c12, b2_c13, b2_c14, b2_c15, b2_c16, c2_c0, c2_c1, c2_c2, c2_c3, c2_c4, c2_c5, c2_c6, c2_c7, ixS_c0, ixS_c1, ixS_c2, ixS_c3, slS_c0, slS_c1, slS_c2, slS_c3, f1S_c0, f1S_c1, f1S_c2, f1S_c3, f1S_c4, f1S_c5, f1S_c6, f1S_c7, f1S_c8, f1S_c9, f1S_c10, f1S_c11, f1S_c12, f1S_c13, f1S_c14, f1S_c15, f1S_c16, f2S_c0, f2S_c1, m1S_c0, m1S_c1, m1S_c2, m1S_c3, recvOk_c0, recvOk_c1, recvOk_c2, recvOk_c3, recvOk_c4, recvOk_c5, recvOk_c6, isOwnL_c0, mmS_c0, mmS_c1, mmS_c2, mmS_c3, itemsOf_c0, itemsOf_c1, itemsOf_c2, seqOf_c0, seqOf_c1, fd0, fd1, fd2, fd3, fd4, fd5, fd6, fd7, fd8, fd9, fd10, fd11, fd12, fd13, fd14, fd15, fd16, fd17, fd18, fd19, fd20, fd21, fd22, fd23, fd24, fd25, fd26, fd27, fd28, $[$es:term],*])
namespace K38
open PySem L2 PV
section
variable {fs : List Str} {ds : List Dd} {ls : List Lk} {ws : List Int} {wish : Cd}
theorem sl4_ok : slS (hsF fs ds ls ws wish) none (some 4) = some (.tup [.lst false (fs.map .str), .lst false (ds.map (ddD false)), .lst false (ls.map lkD), .lst false (ws.map .int)]) := by
  have h : noOwnL [D.lst false (fs.map .str), .lst false (ds.map (ddD false)), .lst false (ls.map lkD), .lst false (ws.map .int), wish.toD] = true := by
    have := hsF_no (fs := fs) (ds := ds) (ls := ls) (ws := ws) (wish := wish)
    rw [hsF, hsG, noOwn_tup] at this
    exact this
  have e : slS (hsF fs ds ls ws wish) none (some 4) = if noOwnL [D.lst false (fs.map .str), .lst false (ds.map (ddD false)), .lst false (ls.map lkD), .lst false (ws.map .int), wish.toD] = true then some (.tup [.lst false (fs.map .str), .lst false (ds.map (ddD false)), .lst false (ls.map lkD), .lst false (ws.map .int)]) else none := rfl
  rw [e, if_pos h]
end
end K38

end

section
open PySem L2 PV
open K38
local macro_rules
  | `(tactic| exists $es,*) => `(tactic| simp -implicitDefEqProofs only [xE_int, xE_str, xE_bl, xE_non, xE_fn, xE_glob, xE_var, xE_bin, xE_cmp, xE_isn, xE_not, xE_and, xE_or, xE_ife, xE_tup, xE_lst, xE_ix, xO_all, xOb_t, xOb_f, xE_slA, xE_chain, kCh1_ap, kCh2_ap, kCh3_f, kCh3_t, kCh4_ap, kXf_ap, xE_fr, xE_xis, kXis_ap, xOf_xc, noOwn_xc, xS_try1, kTry_ex, kTry_nx, kTry_rt, kTry_bk, kTry_ct, kTry2_t, kTry2_f, kUn_nx, kUn_rt, xSlot_s, xSlot_n, xFits_s, xFits_n, fits'_is, noXS_nil, noXS_s, noXS_n, noX_int, noX_str, noX_bl, noX_non, noX_scr, noX_tup, noX_lst, noX_dct, noXL_nil, noXL_cons, noXL_ints, noXL_strs, xE_dnw, xS_dput, kDp1_ap, kDp2_ap, kDp3_ap, isOwnD_d, xE_mmA, xE_vf, kVf_ap, xE_sset, kSset_ap, xE_trg, kTrg_i, trgD_t, trgD_f, xE_lc, unh_e, unh_rng1, unh_rng2, unh_enum, unh_zip, unh_hold, backS_nil, backS_cons, xE_rev, xE_f1, xE_f2, xE_isin, xE_m1, xE_neg, xL_nil, xL_cons, xA_nil, xA_cons, xP_nil, xP_cons, xT_e, xV_all, xVb_t, xVb_f, xVb_m, kMv_ap, kKeep_all, kKb_t, kKb_f, kFr0_s, kFr1_ap, kFr_ap, xF_e, xS_asg, xS_asgT, xS_aug, xS_setixA, xSb_t, xS_forA, xS_expr, xS_ret, xS_retn, xS_ife, xS_raise, xS_pass, xS_cont, xS_brk, xB_nil, xB_cons, xTst_all, xTb_t, xTb_f, xC1_s, xC2_v, xC2_t, xC2_a, isVar, xI_e, xI_rng1, xI_rng2, xI_enum, xI_zip, kSq_nx, kSq_rt, kSq_ex, kSq_bk, kSq_ct, kCond_t, kCond_f, kTurn_nx, kTurn_ct, kTurn_bk, kTurn_rt, kTurn_ex, kIf_t, kRet_ap, kB3_ap, kB2_ap, kB1_ap, kC4_ap, kC3_ap, kC2_ap, kC1_ap, kIsn_ap, kNot_ap, kBl_ap, kNo_ap, kTup_ap, kLst_ap, kX4_ap, kX3_ap, kX2_ap, kX1_ap, kSl3_ap, kSl2_ap, kSl1_ap, kF1_ap, kF22_ap, kF21_ap, kIsin_ap, kM2_ap, kM1_ap, kCons2_ap, kL1_ap, kA1_ap, kP2_ap, kP1_ap, kR_ap, kRX_ap, kCallp_ap, kRs_ap, kCallz_ap, kCalla_ap, kPut_ap, kRi_ap, kRXi_ap, kCi3_ap, kCi2_ap, kCi1_ap, kDrop_ap, kRt_ap, kCt2_ap, kCt1_ap, kAsg_ap, kAsgT_ap, kSet1_ap, kExpr_ap, kRtn_ap, kIt_ap, kItems_ap, kRng2_ap, kZip_ap, kFz_ap, hold_e, hold_rng1, hold_rng2, hold_enum, hold_zip, hold_hold, kAnd_t, kAnd_f, kOr_t, kOr_f, kIfe_t, kIfe_f, kO_i, kRev_l, kNeg_i, kTst_b, kAug_i, kAug1_i, kSet2_i, kSet3_l, kRng1_i, kRng22_i, kEnum_l, kZip2_l, kLcT_f, kLcT_t, kLcE_ap, fin_rt0, fin_nx0, fin_ex0, fin_rt1, fin_nx1, slot_0, slot_s, put_0, put_s, oS_some, wr_ok, PV.pure, pureEs, isMv, isNo, root, redo, B2.scal, F1.scal, M1.scal, fits, tcOf_non, tcOf_bool, tcOf_int, tcOf_str, tcOf_list, tcOf_tuple, isTC_bool_non, isTC_bool_bool, isTC_bool_int, isTC_bool_str, isTC_bool_list, isTC_bool_tuple, isTC_bool_dict, isTC_int_non, isTC_int_bool, isTC_int_int, isTC_int_str, isTC_int_list, isTC_int_tuple, isTC_int_dict, isTC_str_non, isTC_str_bool, isTC_str_int, isTC_str_str, isTC_str_list, isTC_str_tuple, isTC_str_dict, isTC_list_non, isTC_list_bool, isTC_list_int, isTC_list_str, isTC_list_list, isTC_list_tuple, isTC_list_dict, isTC_tuple_non, isTC_tuple_bool, isTC_tuple_int, isTC_tuple_str, isTC_tuple_list, isTC_tuple_tuple, isTC_tuple_dict, noOwn_tup, noOwn_lst, noOwn_int, noOwn_str, noOwn_bl, noOwn_non, noOwn_scr, noOwn_dct, noOwnL_nil, noOwnL_cons, canFz_tup, canFz_lst, canFz_int, canFz_str, canFz_bl, canFz_non, canFz_scr, canFzL_nil, canFzL_cons, fz_tup, fz_lst, fz_int, fz_str, fz_bl, fz_non, fz_scr, fzL_nil, fzL_cons, isTys, atI_0, atI_1, atI_2, atI_3, atI_4, ixN_0, ixN_1, ixN_2, eqD_int, Int.reduceLT, Int.reduceLE, Int.reduceNeg, Int.reduceAdd, Int.reduceSub, Int.reduceMul, Nat.reduceAdd, Nat.reduceLT, Nat.reduceLeDiff, Nat.reduceEqDiff, List.mem_cons, bindT, bindTs, Tg.slots, ownOk, wipeE, List.all_cons, List.all_nil, List.any_cons, List.any_nil, List.contains_eq_mem, List.not_mem_nil, List.length_cons, List.length_nil, List.set_cons_zero, List.set_cons_succ, List.cons_append, List.nil_append, Bool.not_true, Bool.not_false, Bool.and_true, Bool.true_and, Bool.and_false, Bool.false_and, Bool.or_true, Bool.true_or, Bool.or_false, Bool.false_or, Bool.and_self, Bool.or_self, Bool.and_eq_true, Bool.or_eq_true, Bool.not_eq_true', true_and, and_true, and_self, false_and, and_false, true_or, or_true, false_or, or_false, or_self, if_true, if_false, ite_true, ite_false, eq_self, Bool.false_eq_true, Option.map_some, Option.map_none, Option.bind_some, Option.some.injEq, decide_true, decide_false, decide_eq_true_eq, szOk_0, szOk_1, szOk_2, szOk_3, szOk_4, szOk_5, szOk_6, szOk_7, szOk_8, szOk_9, szOk_10, szOk_11, szOk_12, szOk_13, szOk_14, szOk_15, szOk_16, szOk_17, szOk_18, szOk_19, szOk_20, isScal_c0, isScal_c1, isScal_c2, isScal_c3, isScal_c4, isNonD_c0, b2_c0, b2_c1, b2_c2, b2_c3, b2_c4, b2_c5, b2_c6, b2_c7, b2_c8, b2_c9, b2_c10, b2_c11, b2_c12, b2_c13, b2_c14, b2_c15, b2_c16, c2_c0, c2_c1, c2_c2, c2_c3, c2_c4, c2_c5, c2_c6, c2_c7, ixS_c0, ixS_c1, ixS_c2, ixS_c3, slS_c0, slS_c1, slS_c2, slS_c3, f1S_c0, f1S_c1, f1S_c2, f1S_c3, f1S_c4, f1S_c5, f1S_c6, f1S_c7, f1S_c8, f1S_c9, f1S_c10, f1S_c11, f1S_c12, f1S_c13, f1S_c14, f1S_c15, f1S_c16, f2S_c0, f2S_c1, m1S_c0, m1S_c1, m1S_c2, m1S_c3, recvOk_c0, recvOk_c1, recvOk_c2, recvOk_c3, recvOk_c4, recvOk_c5, recvOk_c6, isOwnL_c0, mmS_c0, mmS_c1, mmS_c2, mmS_c3, itemsOf_c0, itemsOf_c1, itemsOf_c2, seqOf_c0, seqOf_c1, fd0, fd1, fd2, fd3, fd4, fd5, fd6, fd7, fd8, fd9, fd10, fd11, fd12, fd13, fd14, fd15, fd16, fd17, fd18, fd19, fd20, fd21, fd22, fd23, fd24, fd25, fd26, fd27, fd28, $[$es:term],*])
namespace K38
open PySem L2 PV
def turnS : Ss := match bo28 with
  | .cons _ (.cons _ (.cons _ (.cons _ (.cons _ (.cons (.for _ _ _ _ b) _))))) => b
  | _ => .nil
def agS : Ss := match turnS with
  | .cons _ (.cons _ r) => r
  | _ => .nil
def chS : Ss := match agS with
  | .cons (.for _ _ _ _ b) _ => b
  | _ => .nil
def otS : Ss := match agS with
  | .cons _ r => r
  | _ => .nil
section
variable {fs : List Str} {ds : List Dd} {ls : List Lk} {ws : List Int} {wish : Cd}
theorem chS_ok {k : Nat} (hk : 50 ≤ k) (hh : Hs fs ds ls ws wish) {a b : Int} (ha : 0 ≤ a) (hb : 0 ≤ b) {rs : List Dd} (hr : ∀ d ∈ rs, d ∈ ds) (hl : rs.length ≤ 100) {i : Nat} (hi : i < 4) {v0 v4 v8 v9 v10 v11 v12 : Option D} {Q : Fl → Prop}
    (q : ∀ a b v8 v9, 0 ≤ a → 0 ≤ b → Q (.nx [v0, some (dk a b), some (.int (fs.length : Nat)), some (hsF fs ds ls ws wish), v4, some (.lst false (rs.map nmD)), some (.lst true ((gd fs wish rs).map .int)), some (.int (0 + (i : Nat))), v8, v9, v10, v11, v12, none])) :
    xB (Wk k []) chS [v0, some (dk a b), some (.int (fs.length : Nat)), some (hsF fs ds ls ws wish), v4, some (.lst false (rs.map nmD)), some (.lst true ((gd fs wish rs).map .int)), some (.int (0 + (i : Nat))), v8, v9, v10, v11, v12, none] Q := by
  show xB (Wk k []) (.cons _ (.cons _ (.cons _ .nil))) _ _
  have hp := pow_le hh.ff
  have rn := nm_no rs
  obtain ⟨m, hm, em⟩ : ∃ m : Int, (1 ≤ m ∧ m ≤ 6) ∧ atI [D.int 1, D.int 2, D.int 6, D.int 3] (0 + (i : Nat)) = some (.int m) := by
    have h4 : i = 0 ∨ i = 1 ∨ i = 2 ∨ i = 3 := by omega
    rcases h4 with h | h | h | h <;> subst h
    · exact ⟨1, by omega, rfl⟩
    · exact ⟨2, by omega, rfl⟩
    · exact ⟨6, by omega, rfl⟩
    · exact ⟨3, by omega, rfl⟩
  exists if_true
  refine xC_ap ?_
  exists pow_ok hh.ff, pow_is, em
  refine crowd_ok (k := k) (by omega) ha hb (m := 2 ^ fs.length) (mo := m) (by omega) (by omega) (by omega) (by omega) fun u a2 b2 ha2 hb2 hu hul => ?_
  have hul2 := crowd_len2 hh.ff hu
  exists noOwnL_ints, ints_cz, ints_fz
  refine kLc_filter u D.int (fun y => !decide (y ∈ gd fs wish rs)) (by simp) rfl ?_ (fun u _ => rfl) (by omega) ?_
  · intro y hy Q' hq
    simp only [xE_int, xE_str, xE_bl, xE_non, xE_fn, xE_glob, xE_var, xE_bin, xE_cmp, xE_isn, xE_not, xE_and, xE_or, xE_ife, xE_tup, xE_lst, xE_ix, xO_all, xOb_t, xOb_f, xE_slA, xE_chain, kCh1_ap, kCh2_ap, kCh3_f, kCh3_t, kCh4_ap, kXf_ap, xE_fr, xE_xis, kXis_ap, xOf_xc, noOwn_xc, xS_try1, kTry_ex, kTry_nx, kTry_rt, kTry_bk, kTry_ct, kTry2_t, kTry2_f, kUn_nx, kUn_rt, xSlot_s, xSlot_n, xFits_s, xFits_n, fits'_is, noXS_nil, noXS_s, noXS_n, noX_int, noX_str, noX_bl, noX_non, noX_scr, noX_tup, noX_lst, noX_dct, noXL_nil, noXL_cons, noXL_ints, noXL_strs, xE_dnw, xS_dput, kDp1_ap, kDp2_ap, kDp3_ap, isOwnD_d, xE_mmA, xE_vf, kVf_ap, xE_sset, kSset_ap, xE_trg, kTrg_i, trgD_t, trgD_f, xE_lc, unh_e, unh_rng1, unh_rng2, unh_enum, unh_zip, unh_hold, backS_nil, backS_cons, xE_rev, xE_f1, xE_f2, xE_isin, xE_m1, xE_neg, xL_nil, xL_cons, xA_nil, xA_cons, xP_nil, xP_cons, xT_e, xV_all, xVb_t, xVb_f, xVb_m, kMv_ap, kKeep_all, kKb_t, kKb_f, kFr0_s, kFr1_ap, kFr_ap, xF_e, xS_asg, xS_asgT, xS_aug, xS_setixA, xSb_t, xS_forA, xS_expr, xS_ret, xS_retn, xS_ife, xS_raise, xS_pass, xS_cont, xS_brk, xB_nil, xB_cons, xTst_all, xTb_t, xTb_f, xC1_s, xC2_v, xC2_t, xC2_a, isVar, xI_e, xI_rng1, xI_rng2, xI_enum, xI_zip, kSq_nx, kSq_rt, kSq_ex, kSq_bk, kSq_ct, kCond_t, kCond_f, kTurn_nx, kTurn_ct, kTurn_bk, kTurn_rt, kTurn_ex, kIf_t, kRet_ap, kB3_ap, kB2_ap, kB1_ap, kC4_ap, kC3_ap, kC2_ap, kC1_ap, kIsn_ap, kNot_ap, kBl_ap, kNo_ap, kTup_ap, kLst_ap, kX4_ap, kX3_ap, kX2_ap, kX1_ap, kSl3_ap, kSl2_ap, kSl1_ap, kF1_ap, kF22_ap, kF21_ap, kIsin_ap, kM2_ap, kM1_ap, kCons2_ap, kL1_ap, kA1_ap, kP2_ap, kP1_ap, kR_ap, kRX_ap, kCallp_ap, kRs_ap, kCallz_ap, kCalla_ap, kPut_ap, kRi_ap, kRXi_ap, kCi3_ap, kCi2_ap, kCi1_ap, kDrop_ap, kRt_ap, kCt2_ap, kCt1_ap, kAsg_ap, kAsgT_ap, kSet1_ap, kExpr_ap, kRtn_ap, kIt_ap, kItems_ap, kRng2_ap, kZip_ap, kFz_ap, hold_e, hold_rng1, hold_rng2, hold_enum, hold_zip, hold_hold, kAnd_t, kAnd_f, kOr_t, kOr_f, kIfe_t, kIfe_f, kO_i, kRev_l, kNeg_i, kTst_b, kAug_i, kAug1_i, kSet2_i, kSet3_l, kRng1_i, kRng22_i, kEnum_l, kZip2_l, kLcT_f, kLcT_t, kLcE_ap, fin_rt0, fin_nx0, fin_ex0, fin_rt1, fin_nx1, slot_0, slot_s, put_0, put_s, oS_some, wr_ok, PV.pure, pureEs, isMv, isNo, root, redo, B2.scal, F1.scal, M1.scal, fits, tcOf_non, tcOf_bool, tcOf_int, tcOf_str, tcOf_list, tcOf_tuple, isTC_bool_non, isTC_bool_bool, isTC_bool_int, isTC_bool_str, isTC_bool_list, isTC_bool_tuple, isTC_bool_dict, isTC_int_non, isTC_int_bool, isTC_int_int, isTC_int_str, isTC_int_list, isTC_int_tuple, isTC_int_dict, isTC_str_non, isTC_str_bool, isTC_str_int, isTC_str_str, isTC_str_list, isTC_str_tuple, isTC_str_dict, isTC_list_non, isTC_list_bool, isTC_list_int, isTC_list_str, isTC_list_list, isTC_list_tuple, isTC_list_dict, isTC_tuple_non, isTC_tuple_bool, isTC_tuple_int, isTC_tuple_str, isTC_tuple_list, isTC_tuple_tuple, isTC_tuple_dict, noOwn_tup, noOwn_lst, noOwn_int, noOwn_str, noOwn_bl, noOwn_non, noOwn_scr, noOwn_dct, noOwnL_nil, noOwnL_cons, canFz_tup, canFz_lst, canFz_int, canFz_str, canFz_bl, canFz_non, canFz_scr, canFzL_nil, canFzL_cons, fz_tup, fz_lst, fz_int, fz_str, fz_bl, fz_non, fz_scr, fzL_nil, fzL_cons, isTys, atI_0, atI_1, atI_2, atI_3, atI_4, ixN_0, ixN_1, ixN_2, eqD_int, Int.reduceLT, Int.reduceLE, Int.reduceNeg, Int.reduceAdd, Int.reduceSub, Int.reduceMul, Nat.reduceAdd, Nat.reduceLT, Nat.reduceLeDiff, Nat.reduceEqDiff, List.mem_cons, bindT, bindTs, Tg.slots, ownOk, wipeE, List.all_cons, List.all_nil, List.any_cons, List.any_nil, List.contains_eq_mem, List.not_mem_nil, List.length_cons, List.length_nil, List.set_cons_zero, List.set_cons_succ, List.cons_append, List.nil_append, Bool.not_true, Bool.not_false, Bool.and_true, Bool.true_and, Bool.and_false, Bool.false_and, Bool.or_true, Bool.true_or, Bool.or_false, Bool.false_or, Bool.and_self, Bool.or_self, Bool.and_eq_true, Bool.or_eq_true, Bool.not_eq_true', true_and, and_true, and_self, false_and, and_false, true_or, or_true, false_or, or_false, or_self, if_true, if_false, ite_true, ite_false, eq_self, Bool.false_eq_true, Option.map_some, Option.map_none, Option.bind_some, Option.some.injEq, decide_true, decide_false, decide_eq_true_eq, szOk_0, szOk_1, szOk_2, szOk_3, szOk_4, szOk_5, szOk_6, szOk_7, szOk_8, szOk_9, szOk_10, szOk_11, szOk_12, szOk_13, szOk_14, szOk_15, szOk_16, szOk_17, szOk_18, szOk_19, szOk_20, isScal_c0, isScal_c1, isScal_c2, isScal_c3, isScal_c4, isNonD_c0, b2_c0, b2_c1, b2_c2, b2_c3, b2_c4, b2_c5, b2_c6, b2_c7, b2_c8, b2_c9, b2_c10, b2_c11, b2_c12, b2_c13, b2_c14, b2_c15, b2_c16, c2_c0, c2_c1, c2_c2, c2_c3, c2_c4, c2_c5, c2_c6, c2_c7, ixS_c0, ixS_c1, ixS_c2, ixS_c3, slS_c0, slS_c1, slS_c2, slS_c3, f1S_c0, f1S_c1, f1S_c2, f1S_c3, f1S_c4, f1S_c5, f1S_c6, f1S_c7, f1S_c8, f1S_c9, f1S_c10, f1S_c11, f1S_c12, f1S_c13, f1S_c14, f1S_c15, f1S_c16, f2S_c0, f2S_c1, m1S_c0, m1S_c1, m1S_c2, m1S_c3, recvOk_c0, recvOk_c1, recvOk_c2, recvOk_c3, recvOk_c4, recvOk_c5, recvOk_c6, isOwnL_c0, mmS_c0, mmS_c1, mmS_c2, mmS_c3, itemsOf_c0, itemsOf_c1, itemsOf_c2, seqOf_c0, seqOf_c1, fd0, fd1, fd2, fd3, fd4, fd5, fd6, fd7, fd8, fd9, fd10, fd11, fd12, fd13, fd14, fd15, fd16, fd17, fd18, fd19, fd20, fd21, fd22, fd23, fd24, fd25, fd26, fd27, fd28] at hq
    exists isNo, inD_ints
    exact hq
  · have hn : ∀ o o2, eqD (.lst o ((u.filter fun y => !decide (y ∈ gd fs wish rs)).map .int)) (.lst o2 []) = some (isW (goes fs wish rs u)) := fun o o2 => by
      rw [ints_nil, Option.some.injEq, Bool.eq_iff_iff, decide_eq_true_eq, List.filter_eq_nil_iff, goes_gd]
      constructor
      · intro h x hx
        have := h x hx
        have h2 : x ∈ gd fs wish rs := by simpa using this
        exact (gd_mem.mp h2).2
      · intro h x hx
        have h2 : x ∈ gd fs wish rs := gd_mem.mpr ⟨hu.bd x hx, h x hx⟩
        simp [h2]
    have hs : ∀ b : Bool, eqD (.bl b) (.bl b) = some true := fun b => by cases b <;> rfl
    exists hn
    refine xE_callp (fd := _) fd11 rfl ?_
    exists hsF_no, noOwnL_ints, rn
    refine row_goes_ok (k := k) (by omega) hh hu hr (by omega) ?_
    exists rs_0, rs_w, hs
    exact q _ _ _ _ ha2 hb2
theorem otS_ok {k : Nat} (hk : 60 ≤ k) (hh : Hs fs ds ls ws wish) (hwd : wish.deep ≤ 3) (hne : 0 < ds.length) {a b : Int} (ha : 0 ≤ a) (hb : 0 ≤ b) {rs : List Dd} (hr : ∀ d ∈ rs, d ∈ ds) (hl : rs.length ≤ 90) {v0 v2 v4 v7 v8 v9 v10 v11 v12 : Option D} {Q : Fl → Prop}
    (q : ∀ a b v10 v11 v12, 0 ≤ a → 0 ≤ b → Q (.nx [v0, some (dk a b), v2, some (hsF fs ds ls ws wish), v4, some (.lst false (rs.map nmD)), some (.lst false ((gd fs wish rs).map .int)), v7, v8, v9, v10, v11, v12, none])) :
    xB (Wk k []) otS [v0, some (dk a b), v2, some (hsF fs ds ls ws wish), v4, some (.lst false (rs.map nmD)), some (.lst true ((gd fs wish rs).map .int)), v7, v8, v9, v10, v11, v12, none] Q := by
  show xB (Wk k []) (.cons _ (.cons _ (.cons _ (.cons _ (.cons _ .nil))))) _ _
  have rn := nm_no rs
  have fno := noOwnL_str fs
  have dno := ddsF_no ds
  have lno := lks_no ls
  have wno := noOwnL_ints ws
  have wn := cd_no wish
  have sl4 := fun c => sl4_ok (fs := fs) (ds := ds) (ls := ls) (ws := ws) (wish := c)
  have sl4w := sl4 wish
  have hz : szOk (4 + 1) = true := by decide
  have a0 : ∀ kt, ixS kt (hsF fs ds ls ws wish) (.int 0) = some (.lst false (fs.map .str)) := fun _ => rfl
  have h1x : ∀ kt, ixS kt (hsF fs ds ls ws wish) (.int 1) = some (.lst false (ds.map (ddD false))) := fun _ => rfl
  have a4 : ∀ kt c, ixS kt (hsF fs ds ls ws c) (.int 4) = some c.toD := fun _ _ => rfl
  have eH : ∀ c : Cd, D.tup [fD fs, .lst false (ds.map (ddD false)), .lst false (ls.map lkD), .lst false (ws.map .int), c.toD] = hsF fs ds ls ws c := fun _ => rfl
  have eB : ∀ c : Cd, D.tup [fD fs, .lst false (ds.map (ddD false)), .lst false (ls.map lkD), .lst false (ws.map .int), .tup [.str "both", wish.toD, c.toD]] = hsF fs ds ls ws (.both wish c) := fun _ => rfl
  have hgl := gd_len hh.ff (w := wish) (rs := rs)
  exists hsF_no, sl4w, a0, fno, strs_cz, strs_fz
  refine xC_ap ?_
  exists hsF_no, a0, fno, strs_cz, strs_fz, fF, no_fD, cz_fD, fz_fD
  refine cond_ok 1 (k := k) (by omega) ha hb hh.ff fun c a1 b1 oc dc ha1 hb1 => ?_
  have cn := cd_no c
  have hh2 : Hs fs ds ls ws c := ⟨hh.ff, hh.dd, hh.ll, hh.dfew, hh.lfew, hh.ww, hh.wfew, oc, by omega, hh.nms⟩
  have hh3 : Hs fs ds ls ws (.both wish c) := ⟨hh.ff, hh.dd, hh.ll, hh.dfew, hh.lfew, hh.ww, hh.wfew, ⟨hh.wo, oc⟩, by simp only [Cd.deep]; omega, hh.nms⟩
  exists cn, no_fD, dno, lno, wno, eH, hsF_no, sl4w, a4, wn, fF, eB, hz
  have dcz := noOwnL_canFz dno
  have dfz := fzL_id dno
  have hdl : ds.length ≤ 120 := hh.dfew
  have heq : eqD (.lst true ((gd fs (.both wish c) rs).map .int)) (.lst true (((gd fs wish rs).filter fun x => decide (x ∈ gd fs c rs)).map .int)) = some true := by rw [eqD_lints, gd_both]; simp
  refine xE_callp (fd := _) fd5 rfl ?_
  exists hsF_no, rn
  refine good_ok (k := k) (by omega) hh2 hr (by omega) ?_
  exists if_true
  refine xE_callp (fd := _) fd5 rfl ?_
  exists hsF_no, rn
  refine good_ok (k := k) (by omega) hh3 hr (by omega) ?_
  exists noOwnL_ints, ints_cz, ints_fz
  refine kLc_filter (gd fs wish rs) D.int (fun x => decide (x ∈ gd fs c rs)) (by simp) rfl ?_ (fun u _ => rfl) (by omega) ?_
  · intro y hy Q' hq
    simp only [xE_int, xE_str, xE_bl, xE_non, xE_fn, xE_glob, xE_var, xE_bin, xE_cmp, xE_isn, xE_not, xE_and, xE_or, xE_ife, xE_tup, xE_lst, xE_ix, xO_all, xOb_t, xOb_f, xE_slA, xE_chain, kCh1_ap, kCh2_ap, kCh3_f, kCh3_t, kCh4_ap, kXf_ap, xE_fr, xE_xis, kXis_ap, xOf_xc, noOwn_xc, xS_try1, kTry_ex, kTry_nx, kTry_rt, kTry_bk, kTry_ct, kTry2_t, kTry2_f, kUn_nx, kUn_rt, xSlot_s, xSlot_n, xFits_s, xFits_n, fits'_is, noXS_nil, noXS_s, noXS_n, noX_int, noX_str, noX_bl, noX_non, noX_scr, noX_tup, noX_lst, noX_dct, noXL_nil, noXL_cons, noXL_ints, noXL_strs, xE_dnw, xS_dput, kDp1_ap, kDp2_ap, kDp3_ap, isOwnD_d, xE_mmA, xE_vf, kVf_ap, xE_sset, kSset_ap, xE_trg, kTrg_i, trgD_t, trgD_f, xE_lc, unh_e, unh_rng1, unh_rng2, unh_enum, unh_zip, unh_hold, backS_nil, backS_cons, xE_rev, xE_f1, xE_f2, xE_isin, xE_m1, xE_neg, xL_nil, xL_cons, xA_nil, xA_cons, xP_nil, xP_cons, xT_e, xV_all, xVb_t, xVb_f, xVb_m, kMv_ap, kKeep_all, kKb_t, kKb_f, kFr0_s, kFr1_ap, kFr_ap, xF_e, xS_asg, xS_asgT, xS_aug, xS_setixA, xSb_t, xS_forA, xS_expr, xS_ret, xS_retn, xS_ife, xS_raise, xS_pass, xS_cont, xS_brk, xB_nil, xB_cons, xTst_all, xTb_t, xTb_f, xC1_s, xC2_v, xC2_t, xC2_a, isVar, xI_e, xI_rng1, xI_rng2, xI_enum, xI_zip, kSq_nx, kSq_rt, kSq_ex, kSq_bk, kSq_ct, kCond_t, kCond_f, kTurn_nx, kTurn_ct, kTurn_bk, kTurn_rt, kTurn_ex, kIf_t, kRet_ap, kB3_ap, kB2_ap, kB1_ap, kC4_ap, kC3_ap, kC2_ap, kC1_ap, kIsn_ap, kNot_ap, kBl_ap, kNo_ap, kTup_ap, kLst_ap, kX4_ap, kX3_ap, kX2_ap, kX1_ap, kSl3_ap, kSl2_ap, kSl1_ap, kF1_ap, kF22_ap, kF21_ap, kIsin_ap, kM2_ap, kM1_ap, kCons2_ap, kL1_ap, kA1_ap, kP2_ap, kP1_ap, kR_ap, kRX_ap, kCallp_ap, kRs_ap, kCallz_ap, kCalla_ap, kPut_ap, kRi_ap, kRXi_ap, kCi3_ap, kCi2_ap, kCi1_ap, kDrop_ap, kRt_ap, kCt2_ap, kCt1_ap, kAsg_ap, kAsgT_ap, kSet1_ap, kExpr_ap, kRtn_ap, kIt_ap, kItems_ap, kRng2_ap, kZip_ap, kFz_ap, hold_e, hold_rng1, hold_rng2, hold_enum, hold_zip, hold_hold, kAnd_t, kAnd_f, kOr_t, kOr_f, kIfe_t, kIfe_f, kO_i, kRev_l, kNeg_i, kTst_b, kAug_i, kAug1_i, kSet2_i, kSet3_l, kRng1_i, kRng22_i, kEnum_l, kZip2_l, kLcT_f, kLcT_t, kLcE_ap, fin_rt0, fin_nx0, fin_ex0, fin_rt1, fin_nx1, slot_0, slot_s, put_0, put_s, oS_some, wr_ok, PV.pure, pureEs, isMv, isNo, root, redo, B2.scal, F1.scal, M1.scal, fits, tcOf_non, tcOf_bool, tcOf_int, tcOf_str, tcOf_list, tcOf_tuple, isTC_bool_non, isTC_bool_bool, isTC_bool_int, isTC_bool_str, isTC_bool_list, isTC_bool_tuple, isTC_bool_dict, isTC_int_non, isTC_int_bool, isTC_int_int, isTC_int_str, isTC_int_list, isTC_int_tuple, isTC_int_dict, isTC_str_non, isTC_str_bool, isTC_str_int, isTC_str_str, isTC_str_list, isTC_str_tuple, isTC_str_dict, isTC_list_non, isTC_list_bool, isTC_list_int, isTC_list_str, isTC_list_list, isTC_list_tuple, isTC_list_dict, isTC_tuple_non, isTC_tuple_bool, isTC_tuple_int, isTC_tuple_str, isTC_tuple_list, isTC_tuple_tuple, isTC_tuple_dict, noOwn_tup, noOwn_lst, noOwn_int, noOwn_str, noOwn_bl, noOwn_non, noOwn_scr, noOwn_dct, noOwnL_nil, noOwnL_cons, canFz_tup, canFz_lst, canFz_int, canFz_str, canFz_bl, canFz_non, canFz_scr, canFzL_nil, canFzL_cons, fz_tup, fz_lst, fz_int, fz_str, fz_bl, fz_non, fz_scr, fzL_nil, fzL_cons, isTys, atI_0, atI_1, atI_2, atI_3, atI_4, ixN_0, ixN_1, ixN_2, eqD_int, Int.reduceLT, Int.reduceLE, Int.reduceNeg, Int.reduceAdd, Int.reduceSub, Int.reduceMul, Nat.reduceAdd, Nat.reduceLT, Nat.reduceLeDiff, Nat.reduceEqDiff, List.mem_cons, bindT, bindTs, Tg.slots, ownOk, wipeE, List.all_cons, List.all_nil, List.any_cons, List.any_nil, List.contains_eq_mem, List.not_mem_nil, List.length_cons, List.length_nil, List.set_cons_zero, List.set_cons_succ, List.cons_append, List.nil_append, Bool.not_true, Bool.not_false, Bool.and_true, Bool.true_and, Bool.and_false, Bool.false_and, Bool.or_true, Bool.true_or, Bool.or_false, Bool.false_or, Bool.and_self, Bool.or_self, Bool.and_eq_true, Bool.or_eq_true, Bool.not_eq_true', true_and, and_true, and_self, false_and, and_false, true_or, or_true, false_or, or_false, or_self, if_true, if_false, ite_true, ite_false, eq_self, Bool.false_eq_true, Option.map_some, Option.map_none, Option.bind_some, Option.some.injEq, decide_true, decide_false, decide_eq_true_eq, szOk_0, szOk_1, szOk_2, szOk_3, szOk_4, szOk_5, szOk_6, szOk_7, szOk_8, szOk_9, szOk_10, szOk_11, szOk_12, szOk_13, szOk_14, szOk_15, szOk_16, szOk_17, szOk_18, szOk_19, szOk_20, isScal_c0, isScal_c1, isScal_c2, isScal_c3, isScal_c4, isNonD_c0, b2_c0, b2_c1, b2_c2, b2_c3, b2_c4, b2_c5, b2_c6, b2_c7, b2_c8, b2_c9, b2_c10, b2_c11, b2_c12, b2_c13, b2_c14, b2_c15, b2_c16, c2_c0, c2_c1, c2_c2, c2_c3, c2_c4, c2_c5, c2_c6, c2_c7, ixS_c0, ixS_c1, ixS_c2, ixS_c3, slS_c0, slS_c1, slS_c2, slS_c3, f1S_c0, f1S_c1, f1S_c2, f1S_c3, f1S_c4, f1S_c5, f1S_c6, f1S_c7, f1S_c8, f1S_c9, f1S_c10, f1S_c11, f1S_c12, f1S_c13, f1S_c14, f1S_c15, f1S_c16, f2S_c0, f2S_c1, m1S_c0, m1S_c1, m1S_c2, m1S_c3, recvOk_c0, recvOk_c1, recvOk_c2, recvOk_c3, recvOk_c4, recvOk_c5, recvOk_c6, isOwnL_c0, mmS_c0, mmS_c1, mmS_c2, mmS_c3, itemsOf_c0, itemsOf_c1, itemsOf_c2, seqOf_c0, seqOf_c1, fd0, fd1, fd2, fd3, fd4, fd5, fd6, fd7, fd8, fd9, fd10, fd11, fd12, fd13, fd14, fd15, fd16, fd17, fd18, fd19, fd20, fd21, fd22, fd23, fd24, fd25, fd26, fd27, fd28] at hq
    exists isNo, inD_ints
    exact hq
  · have ct : cutD (rs.map nmD) none (some 4) = (rs.take 4).map nmD := by
      have e : HT.sIx (rs.map nmD).length 0 none = 0 := rfl
      have e4 : HT.sIx (rs.map nmD).length (rs.map nmD).length (some 4) = min 4 (rs.map nmD).length := HT.sIx_nat ..
      simp only [cutD, e, e4, List.drop_zero, Nat.sub_zero, List.map_take]
      rw [List.take_eq_take_iff]
      simp
    have tn := nm_no (rs.take 4)
    have tz := noOwnL_canFz tn
    have tf := fzL_id tn
    exists heq
    refine xC_ap ?_
    exists hsF_no, hsF_cz, hsF_fz, h1x, dno, List.length_map
    refine xC_ap ?_
    exists hsF_no, hsF_cz, hsF_fz, h1x, dno, List.length_map
    refine take_ok (k := k) (by omega) ha1 hb1 (m := (ds.length : Int)) (by omega) (by omega) fun t a2 b2 t0 t1 ha2 hb2 => ?_
    obtain ⟨d, hd, ed⟩ := at_map (us := ds) (f := ddD false) t0 t1
    have dn := ddF_no d
    have dz := noOwn_canFz dn
    have df := fz_id dn
    exists h1x, hsF_no, dno, ed, dn, dz, df, rn, ct, tn, tz, tf
    refine ahead_ok (k := k) (by omega) hh hd (rs := rs.take 4) (fun e he => hr e (List.mem_of_mem_take he)) (by simp; omega) ?_
    exists if_true
    exact q _ _ _ _ _ ha2 hb2
end
theorem plainK {k : Nat} (hk : 70 ≤ k) {ns : List Int} (hn : ns.length ≤ 63) {Q : D → Option D → Prop} {X : Nat → Prop} (q : Q (.bl true) none) : wr (run lw.tb 1000 (k + 1) 28 [.scr ns]) Q X := by
  rw [wr_runE fd28 rfl rfl rfl]
  show xB (Wk k []) (.cons _ (.cons _ (.cons _ (.cons _ (.cons _ (.cons (.for _ _ _ _ (.cons _ (.cons _ (.cons (.for _ _ _ _ chS) otS)))) (.cons _ .nil))))))) [some (.scr ns), none, none, none, none, none, none, none, none, none, none, none, none, none] _
  exists if_true
  refine xC_ap ?_
  exists if_true
  refine xE_callp (fd := _) fd2 rfl ?_
  exists if_true
  refine cell_ok (k := k) (j := 0) (by omega) hn (by decide) fun c0 => ?_
  exists if_true
  refine reel_ok (k := k) (by omega) fun a b ha hb => ?_
  exists if_true
  refine xC_ap ?_
  exists if_true
  refine take_ok (k := k) (by omega) ha hb (by decide) (by decide) fun n a1 b1 n0 n1 ha1 hb1 => ?_
  obtain ⟨f, hf⟩ : ∃ f : Nat, 1 + n = (f : Nat) := ⟨(1 + n).toNat, by omega⟩
  exists hf
  refine xC_ap ?_
  exists if_true
  rw [xC2_t rfl]
  exists if_true
  refine xE_callp (fd := _) fd4 rfl ?_
  exists if_true
  refine cells_ok (k := k) (a := 2) (m := 5) (by omega) hn (by decide) (by decide) fun cs c1 c2 => ?_
  exists noOwnL_ints, ints_cz, ints_fz
  refine house_ok (k := k) (by omega) ha1 hb1 (n := f) (by omega) (by omega) (by omega) (by decide) (by decide) fun fs ds ls ws wish a2 b2 hh hwd hfl hdl _ _ ha2 hb2 => ?_
  obtain ⟨z1, z2⟩ := hs_fz (fs := fs) (ds := ds) (ls := ls) (ws := ws) (wish := wish) false true true true
  subst hfl
  have a4 : ∀ kt, ixS kt (hsF fs ds ls ws wish) (.int 4) = some wish.toD := fun _ => rfl
  have wn := cd_no wish
  have hne : 0 < ds.length := by omega
  have r4 : rngOk 4 = true := by decide
  have r6 : rngOk 6 = true := by decide
  exists z1, z2
  refine xC_ap ?_
  exists if_true
  refine xE_callp (fd := _) fd2 rfl ?_
  exists if_true
  refine cell_ok (k := k) (j := 1) (by omega) hn (by decide) fun c0 => ?_
  exists if_true
  refine reel_ok (k := k) (by omega) fun a b ha hb => ?_
  exists if_true
  refine xC_ap ?_
  exists hsF_no, hsF_cz, hsF_fz
  refine good_ok (k := k) (by omega) hh (rs := []) (by simp) (by simp) ?_
  exists if_true
  refine xE_callp (fd := _) fd6 rfl ?_
  exists hsF_no, a4, wn
  refine where_ok (k := k) (by omega) hh hh.wo hh.wd ?_
  have heq : eqD (.lst true ((gd fs wish []).map .int)) (.lst true (((wl (2 ^ fs.length)).filter fun x => wish.tru fs x).map .int)) = some true := by
    rw [eqD_lints]
    have : gd fs wish [] = (wl (2 ^ fs.length)).filter fun x => wish.tru fs x := rfl
    rw [this]; simp
  exists heq, r6
  refine kFor_inv (fun i ρ => ∃ (a b : Int) (v4 v5 v6 v7 v8 v9 v10 v11 v12 : Option D), ρ = [some (.scr ns), some (dk a b), some (.int (fs.length : Nat)), some (hsF fs ds ls ws wish), v4, v5, v6, v7, v8, v9, v10, v11, v12, none] ∧ 0 ≤ a ∧ 0 ≤ b) (by decide) ⟨a, b, _, _, _, _, _, _, _, _, _, rfl, ha, hb⟩ ?_ ?_
  · rintro i x ρ hx ⟨a3, b3, v4, v5, v6, v7, v8, v9, v10, v11, v12, rfl, ha3, hb3⟩
    obtain ⟨hi, ex⟩ := rngI_get hx
    clear hx
    subst ex
    exists if_true
    refine xC_ap ?_
    exists hsF_no, hsF_cz, hsF_fz
    refine row_ok (k := k) (by omega) hh hne ha3 hb3 (m := 6) (by decide) (by decide) fun rs a4' b4 hr hrl ha4 hb4 => ?_
    have hrl : rs.length ≤ 6 := hrl
    have rn := nm_no rs
    have rz := noOwnL_canFz rn
    have rf := fzL_id rn
    exists if_true
    refine xE_callf (fd := _) fd5 rfl [hsF fs ds ls ws wish, .lst true (rs.map nmD)] ?_ ?_ ?_
    · exists if_true
    · simp only [noOwnL, noOwn, Bool.not_true, Bool.and_false, Bool.false_and]
    exists hsF_fz, rf
    refine good_ok (k := k) (by omega) hh hr (by omega) ?_
    refine ⟨rfl, ?_⟩
    exists hsF_no, hsF_cz, hsF_fz, rn, rz, rf, r4
    refine kFor_inv (fun _ ρ => ∃ (a b : Int) (v7 v8 v9 : Option D), ρ = [some (.scr ns), some (dk a b), some (.int (fs.length : Nat)), some (hsF fs ds ls ws wish), some (.int (0 + (i : Nat))), some (.lst false (rs.map nmD)), some (.lst true ((gd fs wish rs).map .int)), v7, v8, v9, v10, v11, v12, none] ∧ 0 ≤ a ∧ 0 ≤ b) (by decide) ⟨_, _, _, _, _, rfl, ha4, hb4⟩ ?_ ?_
    · rintro j y ρ hy ⟨a5, b5, v7, v8, v9, rfl, ha5, hb5⟩
      obtain ⟨hj, rfl⟩ := rngI_get hy
      exists if_true
      exact chS_ok (k := k) (by omega) hh ha5 hb5 hr (by omega) hj fun a6 b6 v8 v9 ha6 hb6 => ⟨_, _, _, _, _, rfl, ha6, hb6⟩
    · rintro ρ ⟨a5, b5, v7, v8, v9, rfl, ha5, hb5⟩
      rw [kSq_nx]
      exact otS_ok (k := k) (by omega) hh hwd hne ha5 hb5 hr (by omega) fun a6 b6 v10 v11 v12 ha6 hb6 => ⟨_, _, _, _, _, _, _, _, _, _, _, rfl, ha6, hb6⟩
  · rintro ρ ⟨a3, b3, v4, v5, v6, v7, v8, v9, v10, v11, v12, rfl, ha3, hb3⟩
    exists if_true
    exact q
theorem plain : ∀ ns : List Int, ns.length ≤ 63 → run lw.tb 1000 100 28 [.scr ns] = .ok (.bl true) none := by
  intro ns hn
  exact wr_get (plainK (k := 99) (by decide) hn ⟨rfl, rfl⟩)
end K38

end

open PySem PySem.W PyProof.Rows in
set_option maxRecDepth 100000 in
set_option maxHeartbeats 0 in
theorem PySem.Challenge.cw_sureplans_k38_whole_well_off_together_holds : PySem.Challenge.rw_sureplans_k38_whole_well_off_together.Holds := by
  w_on; o_law; k_head; (case hw => w_witness2)
  k_fill
  refine PV.walkL (k := 100) (l := PySem.Challenge.rw_sureplans_k38_whole_well_off_together) rfl rfl ⟨rfl, by decide, by decide⟩ (fun w h Y => PySem.W.kIn_of Y) ?F
  case F =>
    intro w mg fa h KX G hmg
    refine PV.law_ok (l := K38.lw) (L := 1000) (k := 100) (i := 28) K38.lw_ok ?H KX G rfl rfl rfl K38.plain hmg
    case H =>
      refine ⟨⟨?_, ?_, ?_, ?_, ?_, ?_, ?_, ?_, ?_, ?_, ?_, ?_, ?_, ?_, ?_, ?_, ?_, ?_, ?_, ?_, ?_, ?_, ?_, ?_, ?_, ?_, ?_, ?_, ?_, trivial⟩, ⟨?_, ?_, ?_, trivial⟩, trivial, ⟨?_, ?_, ?_, ?_, ?_, ?_, ?_, ?_, ?_, ?_, ?_, ?_, ?_, ?_, ?_, ?_, ?_, ?_, ?_, trivial⟩, trivial, trivial, trivial⟩
      · refine' PV.def_mk ?a (fun us hl => match us, hl with | [_], _ => rfl) ?l ?c ?k
        (case a => k_is); (case l => k_is); (case c => k_is); (case k => k_is)
      · refine' PV.def_mk ?a (fun us hl => match us, hl with | [_, _, _, _], _ => rfl) ?l ?c ?k
        (case a => k_is); (case l => k_is); (case c => k_is); (case k => k_is)
      · refine' PV.def_mk ?a (fun us hl => match us, hl with | [_, _], _ => rfl) ?l ?c ?k
        (case a => k_is); (case l => k_is); (case c => k_is); (case k => k_is)
      · refine' PV.def_mk ?a (fun us hl => match us, hl with | [_, _], _ => rfl) ?l ?c ?k
        (case a => k_is); (case l => k_is); (case c => k_is); (case k => k_is)
      · refine' PV.def_mk ?a (fun us hl => match us, hl with | [_, _, _], _ => rfl) ?l ?c ?k
        (case a => k_is); (case l => k_is); (case c => k_is); (case k => k_is)
      · refine' PV.def_mk ?a (fun us hl => match us, hl with | [_, _], _ => rfl) ?l ?c ?k
        (case a => k_is); (case l => k_is); (case c => k_is); (case k => k_is)
      · refine' PV.def_mk ?a (fun us hl => match us, hl with | [_, _], _ => rfl) ?l ?c ?k
        (case a => k_is); (case l => k_is); (case c => k_is); (case k => k_is)
      · refine' PV.def_mk ?a (fun us hl => match us, hl with | [_, _, _], _ => rfl) ?l ?c ?k
        (case a => k_is); (case l => k_is); (case c => k_is); (case k => k_is)
      · refine' PV.def_mk ?a (fun us hl => match us, hl with | [_, _, _], _ => rfl) ?l ?c ?k
        (case a => k_is); (case l => k_is); (case c => k_is); (case k => k_is)
      · refine' PV.def_mk ?a (fun us hl => match us, hl with | [_, _, _], _ => rfl) ?l ?c ?k
        (case a => k_is); (case l => k_is); (case c => k_is); (case k => k_is)
      · refine' PV.def_mk ?a (fun us hl => match us, hl with | [_, _, _], _ => rfl) ?l ?c ?k
        (case a => k_is); (case l => k_is); (case c => k_is); (case k => k_is)
      · refine' PV.def_mk ?a (fun us hl => match us, hl with | [_, _, _], _ => rfl) ?l ?c ?k
        (case a => k_is); (case l => k_is); (case c => k_is); (case k => k_is)
      · refine' PV.def_mk ?a (fun us hl => match us, hl with | [_, _], _ => rfl) ?l ?c ?k
        (case a => k_is); (case l => k_is); (case c => k_is); (case k => k_is)
      · refine' PV.def_mk ?a (fun us hl => match us, hl with | [_, _, _, _], _ => rfl) ?l ?c ?k
        (case a => k_is); (case l => k_is); (case c => k_is); (case k => k_is)
      · refine' PV.def_mk ?a (fun us hl => match us, hl with | [_, _], _ => rfl) ?l ?c ?k
        (case a => k_is); (case l => k_is); (case c => k_is); (case k => k_is)
      · refine' PV.def_mk ?a (fun us hl => match us, hl with | [_, _, _], _ => rfl) ?l ?c ?k
        (case a => k_is); (case l => k_is); (case c => k_is); (case k => k_is)
      · refine' PV.def_mk ?a (fun us hl => match us, hl with | [_, _, _], _ => rfl) ?l ?c ?k
        (case a => k_is); (case l => k_is); (case c => k_is); (case k => k_is)
      · refine' PV.def_mk ?a (fun us hl => match us, hl with | [_, _, _], _ => rfl) ?l ?c ?k
        (case a => k_is); (case l => k_is); (case c => k_is); (case k => k_is)
      · refine' PV.def_mk ?a (fun us hl => match us, hl with | [_], _ => rfl) ?l ?c ?k
        (case a => k_is); (case l => k_is); (case c => k_is); (case k => k_is)
      · refine' PV.def_mk ?a (fun us hl => match us, hl with | [_, _, _], _ => rfl) ?l ?c ?k
        (case a => k_is); (case l => k_is); (case c => k_is); (case k => k_is)
      · refine' PV.def_mk ?a (fun us hl => match us, hl with | [_, _], _ => rfl) ?l ?c ?k
        (case a => k_is); (case l => k_is); (case c => k_is); (case k => k_is)
      · refine' PV.def_mk ?a (fun us hl => match us, hl with | [_, _, _], _ => rfl) ?l ?c ?k
        (case a => k_is); (case l => k_is); (case c => k_is); (case k => k_is)
      · refine' PV.def_mk ?a (fun us hl => match us, hl with | [_, _], _ => rfl) ?l ?c ?k
        (case a => k_is); (case l => k_is); (case c => k_is); (case k => k_is)
      · refine' PV.def_mk ?a (fun us hl => match us, hl with | [_, _, _], _ => rfl) ?l ?c ?k
        (case a => k_is); (case l => k_is); (case c => k_is); (case k => k_is)
      · refine' PV.def_mk ?a (fun us hl => match us, hl with | [_, _], _ => rfl) ?l ?c ?k
        (case a => k_is); (case l => k_is); (case c => k_is); (case k => k_is)
      · refine' PV.def_mk ?a (fun us hl => match us, hl with | [_, _, _], _ => rfl) ?l ?c ?k
        (case a => k_is); (case l => k_is); (case c => k_is); (case k => k_is)
      · refine' PV.def_mk ?a (fun us hl => match us, hl with | [_, _, _], _ => rfl) ?l ?c ?k
        (case a => k_is); (case l => k_is); (case c => k_is); (case k => k_is)
      · refine' PV.def_mk ?a (fun us hl => match us, hl with | [_, _], _ => rfl) ?l ?c ?k
        (case a => k_is); (case l => k_is); (case c => k_is); (case k => k_is)
      · refine' PV.def_mk ?a (fun us hl => match us, hl with | [_], _ => rfl) ?l ?c ?k
        (case a => k_is); (case l => k_is); (case c => k_is); (case k => k_is)
      · refine' PV.ex_mk PySem.F.excBase_ValueError ?xa ?xq ?xk ?xs ?xt
        (case xa => k_is); (case xq => k_exc); (case xk => k_is); (case xs => k_is); (case xt => k_is)
      · refine' PV.ex_mk PySem.F.excBase_ValueError ?xa ?xq ?xk ?xs ?xt
        (case xa => k_is); (case xq => k_exc); (case xk => k_is); (case xs => k_is); (case xt => k_is)
      · refine' PV.ex_mk PySem.F.excBase_ValueError ?xa ?xq ?xk ?xs ?xt
        (case xa => k_is); (case xq => k_exc); (case xk => k_is); (case xs => k_is); (case xt => k_is)
      · show PySem.W.nsIn _ _ _ = _; k_is
      · show PySem.W.nsIn _ _ _ = _; k_is
      · show PySem.W.nsIn _ _ _ = _; k_is
      · show PySem.W.nsIn _ _ _ = _; k_is
      · show PySem.W.nsIn _ _ _ = _; k_is
      · show PySem.W.nsIn _ _ _ = _; k_is
      · show PySem.W.nsIn _ _ _ = _; k_is
      · show PySem.W.nsIn _ _ _ = _; k_is
      · show PySem.W.nsIn _ _ _ = _; k_is
      · show PySem.W.nsIn _ _ _ = _; k_is
      · show PySem.W.nsIn _ _ _ = _; k_is
      · show PySem.W.nsIn _ _ _ = _; k_is
      · show PySem.W.nsIn _ _ _ = _; k_is
      · show PySem.W.nsIn _ _ _ = _; k_is
      · show PySem.W.nsIn _ _ _ = _; k_is
      · show PySem.W.nsIn _ _ _ = _; k_is
      · show PySem.W.nsIn _ _ _ = _; k_is
      · show PySem.W.nsIn _ _ _ = _; k_is
      · show PySem.W.nsIn _ _ _ = _; k_is
