import PyProof.Rows.All
import Wide.All
import OpenK.AllK
import Wide.FinOn
import HandS.ForMost
import HandS.Conv
import HandS.SetKeys
import KE.KDictKeyed
import KE.KDictPairs
import KE.KEqDict
import PyProof.DictMoreH
import HandS.Strs
import HandS.SetFor
import HandS.Sort
import HandS.SortRule
import HandS.Ends
import HandS.Defaults
import KE.GoesMore
import KE.GoesEnum
import PyProof.ReprReads
import PyProof.Draws
import PySem.Challenge.RW_wholefetch_k24_whole_what_can_be_kept
import KE.KStateDown
import Lean
import HandS.Head0
import HandS.Head1
import HandS.Head2
import HandS.HeadEnd
import HandS.HeadHook1
import HandS.HeadHook2
import HandS.IsInst
import HandS.TupAny
import HandS.Deep
import HandS.Wide
import HandS.Flow
import HandS.Codes
import HandS.TryOnly
import HandS.Walk
import HandS.Head3
set_option Elab.async false
set_option linter.all false
set_option maxRecDepth 100000
/-! M1: plain mathematics: association lists, reach, the law's own gaps. -/
set_option maxHeartbeats 4000000
namespace W24

/-! ### association lists keyed by pairs -/
abbrev AL (β : Type) := List ((Nat × Nat) × β)
def getA {β : Type} (al : AL β) (k : Nat × Nat) : Option β := (al.find? fun kv => decide (kv.1 = k)).map (·.2)
def putA {β : Type} (al : AL β) (k : Nat × Nat) (v : β) : AL β :=
  if (al.any fun kv => decide (kv.1 = k)) = true then al.map (fun kv => if kv.1 = k then (kv.1, v) else kv) else al ++ [(k, v)]

section
variable {β : Type}
theorem getA_nil (k : Nat × Nat) : getA ([] : AL β) k = none := rfl
theorem getA_pos {p : (Nat × Nat) × β} {r : AL β} {k : Nat × Nat} (e : p.1 = k) : getA (p :: r) k = some p.2 := by simp [getA, List.find?_cons, e]
theorem getA_neg {p : (Nat × Nat) × β} {r : AL β} {k : Nat × Nat} (e : ¬ p.1 = k) : getA (p :: r) k = getA r k := by simp [getA, List.find?_cons, e]
theorem getA_any (k : Nat × Nat) : ∀ al : AL β, (al.any fun kv => decide (kv.1 = k)) = (getA al k).isSome
  | [] => rfl
  | p :: r => by
    rw [List.any_cons]
    by_cases e : p.1 = k
    · simp only [getA_pos e, decide_eq_true e, Bool.true_or, Option.isSome_some]
    · rw [getA_neg e, decide_eq_false e, Bool.false_or]; exact getA_any k r
theorem getA_map (k j : Nat × Nat) (y : β) : ∀ al : AL β, getA (al.map fun kv => if kv.1 = k then (kv.1, y) else kv) j = (getA al j).map fun x => if j = k then y else x
  | [] => rfl
  | p :: r => by
    have ih := getA_map k j y r
    rw [List.map_cons]
    by_cases h : p.1 = k
    · rw [if_pos h]
      by_cases e : p.1 = j
      · rw [getA_pos (p := (p.1, y)) e, getA_pos e, Option.map_some, if_pos (e.symm.trans h)]
      · rw [getA_neg (p := (p.1, y)) e, getA_neg e, ih]
    · rw [if_neg h]
      by_cases e : p.1 = j
      · rw [getA_pos (p := p) e, getA_pos e, Option.map_some, if_neg (fun z => h (e.trans z))]
      · rw [getA_neg (p := p) e, getA_neg e, ih]
theorem getA_snoc (k j : Nat × Nat) (y : β) : ∀ al : AL β, getA al k = none → getA (al ++ [(k, y)]) j = if j = k then some y else getA al j
  | [], _ => by
    by_cases e : k = j
    · rw [if_pos e.symm]; exact getA_pos (p := (k, y)) e
    · rw [if_neg (fun z => e z.symm)]; exact getA_neg (p := (k, y)) e
  | p :: r, hn => by
    rw [List.cons_append]
    have hk : ¬ p.1 = k := fun z => by rw [getA_pos z] at hn; cases hn
    rw [getA_neg hk] at hn
    have ih := getA_snoc k j y r hn
    by_cases e : p.1 = j
    · rw [getA_pos e, getA_pos e, if_neg (fun z => hk (e.trans z))]
    · rw [getA_neg e, getA_neg e, ih]
theorem getA_put (al : AL β) (k j : Nat × Nat) (y : β) : getA (putA al k y) j = if j = k then some y else getA al j := by
  unfold putA
  by_cases a : (al.any fun kv => decide (kv.1 = k)) = true
  · rw [if_pos a, getA_map]
    rw [getA_any] at a
    by_cases e : j = k
    · obtain ⟨x, hx⟩ := Option.isSome_iff_exists.mp a
      rw [if_pos e, e, hx, Option.map_some, if_pos rfl]
    · rw [if_neg e]
      cases getA al j with
      | none => rfl
      | some x => rw [Option.map_some, if_neg e]
  · rw [if_neg a]
    refine getA_snoc k j y al ?_
    rw [getA_any] at a
    cases q : getA al k with
    | none => rfl
    | some x => rw [q] at a; exact (a rfl).elim
theorem getA_mem {al : AL β} {k : Nat × Nat} (h : k ∈ al.map (·.1)) : ∃ v, getA al k = some v := by
  induction al with
  | nil => cases h
  | cons p r ih =>
    by_cases e : p.1 = k
    · exact ⟨p.2, getA_pos e⟩
    · rw [getA_neg e]
      rw [List.map_cons, List.mem_cons] at h
      rcases h with h | h
      · exact absurd h.symm e
      · exact ih h
theorem mem_of_getA {al : AL β} {k : Nat × Nat} {v : β} (h : getA al k = some v) : k ∈ al.map (·.1) := by
  induction al with
  | nil => cases h
  | cons p r ih =>
    by_cases e : p.1 = k
    · rw [List.map_cons, e]; exact List.mem_cons_self
    · rw [getA_neg e] at h
      rw [List.map_cons]
      exact List.mem_cons_of_mem _ (ih h)
theorem mem_of_getA2 {al : AL β} {k : Nat × Nat} {v : β} (h : getA al k = some v) : (k, v) ∈ al := by
  induction al with
  | nil => cases h
  | cons p r ih =>
    by_cases e : p.1 = k
    · rw [getA_pos e] at h
      have e2 := Option.some.inj h
      have : p = (k, v) := by rw [← e, ← e2]
      rw [this]; exact List.mem_cons_self
    · rw [getA_neg e] at h
      exact List.mem_cons_of_mem _ (ih h)
theorem getA_of_mem {al : AL β} (nd : (al.map (·.1)).Nodup) {k : Nat × Nat} {v : β} (h : (k, v) ∈ al) : getA al k = some v := by
  induction al with
  | nil => cases h
  | cons p r ih =>
    rw [List.map_cons, List.nodup_cons] at nd
    rcases List.mem_cons.mp h with h | h
    · rw [← h]; exact getA_pos rfl
    · have : ¬ p.1 = k := fun e => nd.1 (by rw [e]; exact List.mem_map.mpr ⟨(k, v), h, rfl⟩)
      rw [getA_neg this]
      exact ih nd.2 h
theorem put_keys_there {al : AL β} {k : Nat × Nat} {y : β} (h : (al.any fun kv => decide (kv.1 = k)) = true) : (putA al k y).map (·.1) = al.map (·.1) := by
  unfold putA
  rw [if_pos h, List.map_map]
  apply List.map_congr_left
  intro p _
  show (if p.1 = k then (p.1, y) else p).1 = p.1
  split <;> rfl
theorem put_keys_new {al : AL β} {k : Nat × Nat} {y : β} (h : ¬ (al.any fun kv => decide (kv.1 = k)) = true) : (putA al k y).map (·.1) = al.map (·.1) ++ [k] := by
  unfold putA
  rw [if_neg h, List.map_append]
  rfl
theorem put_nodup {al : AL β} {k : Nat × Nat} {y : β} (nd : (al.map (·.1)).Nodup) : ((putA al k y).map (·.1)).Nodup := by
  by_cases h : (al.any fun kv => decide (kv.1 = k)) = true
  · rw [put_keys_there h]; exact nd
  · rw [put_keys_new h]
    rw [List.nodup_append]
    refine ⟨nd, by simp, fun a ha b hb e => ?_⟩
    have hb' : b = k := by simpa using hb
    subst hb'
    subst e
    obtain ⟨v, hv⟩ := getA_mem ha
    rw [getA_any, hv] at h
    exact h rfl
theorem put_keys_mem {al : AL β} {k : Nat × Nat} {y : β} {p : Nat × Nat} (h : p ∈ (putA al k y).map (·.1)) : p = k ∨ p ∈ al.map (·.1) := by
  by_cases a : (al.any fun kv => decide (kv.1 = k)) = true
  · rw [put_keys_there a] at h; exact .inr h
  · rw [put_keys_new a] at h
    rcases List.mem_append.mp h with h | h
    · exact .inr h
    · exact .inl (by simpa using h)
end

/-! ### reach -/
inductive Reach (by_ : Nat → Nat → Option Bool) : Nat → Nat → Prop
  | refl (i : Nat) : Reach by_ i i
  | step {i m k : Nat} {s : Bool} : Reach by_ i m → by_ m k = some s → Reach by_ i k
theorem Reach.trans {by_ : Nat → Nat → Option Bool} {i j : Nat} (a : Reach by_ i j) : ∀ {k : Nat}, Reach by_ j k → Reach by_ i k := by
  intro k b
  induction b with
  | refl => exact a
  | step _ h ih => exact .step ih h
theorem Reach.mono {by1 by2 : Nat → Nat → Option Bool} (h : ∀ i j, (by1 i j).isSome = true → (by2 i j).isSome = true) {i j : Nat} (a : Reach by1 i j) : Reach by2 i j := by
  induction a with
  | refl => exact .refl _
  | step _ hs ih =>
    have := h _ _ (by rw [hs]; rfl)
    obtain ⟨s, e⟩ := Option.isSome_iff_exists.mp this
    exact .step ih e
theorem Reach.lt {by_ : Nat → Nat → Option Bool} {n : Nat} (hb : ∀ i j s, by_ i j = some s → i < n ∧ j < n) {i j : Nat} (a : Reach by_ i j) (hi : i < n) : j < n := by
  induction a with
  | refl => exact hi
  | step _ hs _ => exact (hb _ _ _ hs).2

/-! ### the law's gaps -/
section
variable (by_ : Nat → Nat → Option Bool) (n : Nat)
def relax (i m : Nat) (acc : AL Nat) (k : Nat) : AL Nat :=
  match by_ m k with
  | none => acc
  | some s => putA acc (i, k) (max ((getA acc (i, m)).getD 0 + s.toNat) ((getA acc (i, k)).getD 0))
def relaxAll (acc : AL Nat) (im : Nat × Nat) : AL Nat := (List.range n).foldl (relax by_ im.1 im.2) acc
def round (g : AL Nat) : AL Nat := (g.map (·.1)).foldl (relaxAll by_ n) g
def sameAL (g h : AL Nat) : Bool := g.length == h.length && g.all fun kv => getA h kv.1 == some kv.2
def loopG : Nat → AL Nat → Option (AL Nat)
  | 0, _ => none
  | t + 1, g => if sameAL g (round by_ n g) = true then some (round by_ n g) else loopG t (round by_ n g)
def initG : AL Nat := (List.range n).map fun k => ((k, k), 0)
def gapsL : Option (AL Nat) := loopG by_ n (n + 1) (initG n)
end

section
variable {by_ : Nat → Nat → Option Bool} {n : Nat}
/-- values only rise -/
def Up (g h : AL Nat) : Prop := ∀ p v, getA g p = some v → ∃ v', getA h p = some v' ∧ v ≤ v'
theorem Up.refl (g : AL Nat) : Up g g := fun _ v h => ⟨v, h, Nat.le_refl _⟩
theorem Up.trans {g h k : AL Nat} (a : Up g h) (b : Up h k) : Up g k := fun p v e =>
  let ⟨v', e', l⟩ := a p v e
  let ⟨v2, e2, l2⟩ := b p v' e'
  ⟨v2, e2, Nat.le_trans l l2⟩
theorem relax_up (i m : Nat) (acc : AL Nat) (k : Nat) : Up acc (relax by_ i m acc k) := by
  unfold relax
  cases by_ m k with
  | none => exact Up.refl _
  | some s =>
    intro p v e
    show ∃ v', getA (putA acc (i, k) _) p = some v' ∧ v ≤ v'
    rw [getA_put]
    by_cases h : p = (i, k)
    · rw [if_pos h]
      subst h
      refine ⟨_, rfl, ?_⟩
      rw [e]
      exact Nat.le_max_right _ _
    · rw [if_neg h]
      exact ⟨v, e, Nat.le_refl _⟩
theorem foldl_up {α : Type} {f : AL Nat → α → AL Nat} (h : ∀ acc a, Up acc (f acc a)) : ∀ (l : List α) (acc : AL Nat), Up acc (l.foldl f acc)
  | [], acc => Up.refl _
  | a :: l, acc => (h acc a).trans (foldl_up h l (f acc a))
theorem relaxAll_up (acc : AL Nat) (im : Nat × Nat) : Up acc (relaxAll by_ n acc im) := foldl_up (fun acc k => relax_up _ _ acc k) _ _
theorem round_up (g : AL Nat) : Up g (round by_ n g) := foldl_up (fun acc im => relaxAll_up acc im) _ _

theorem relax_nd {i m : Nat} {acc : AL Nat} {k : Nat} (nd : (acc.map (·.1)).Nodup) : ((relax by_ i m acc k).map (·.1)).Nodup := by
  unfold relax
  cases by_ m k with
  | none => exact nd
  | some s => exact put_nodup nd
theorem foldl_inv {α β : Type} {P : β → Prop} {f : β → α → β} : ∀ (l : List α) (b : β), P b → (∀ b a, a ∈ l → P b → P (f b a)) → P (l.foldl f b)
  | [], b, h, _ => h
  | a :: l, b, h, hs => foldl_inv l (f b a) (hs b a List.mem_cons_self h) fun b' a' m hb => hs b' a' (List.mem_cons_of_mem _ m) hb
theorem relaxAll_nd {acc : AL Nat} {im : Nat × Nat} (nd : (acc.map (·.1)).Nodup) : ((relaxAll by_ n acc im).map (·.1)).Nodup :=
  foldl_inv (P := fun acc : AL Nat => (acc.map (·.1)).Nodup) _ _ nd fun _ _ _ h => relax_nd h
theorem round_nd {g : AL Nat} (nd : (g.map (·.1)).Nodup) : ((round by_ n g).map (·.1)).Nodup :=
  foldl_inv (P := fun acc : AL Nat => (acc.map (·.1)).Nodup) _ _ nd fun _ _ _ h => relaxAll_nd h
theorem initG_nd : ((initG n).map (·.1)).Nodup := by
  unfold initG
  rw [List.map_map]
  have : List.Nodup (List.range n) := List.nodup_range
  refine List.Pairwise.map _ (fun a b (h : a ≠ b) e => h (by simpa using congrArg Prod.fst e)) this

/-- what is in all the tables: keys within, each reached -/
def Snd (by_ : Nat → Nat → Option Bool) (n : Nat) (g : AL Nat) : Prop := ∀ p ∈ g.map (·.1), p.1 < n ∧ p.2 < n ∧ Reach by_ p.1 p.2
theorem relax_snd (hb : ∀ i j s, by_ i j = some s → i < n ∧ j < n) {i m : Nat} {acc : AL Nat} {k : Nat} (hi : i < n) (hr : Reach by_ i m) (h : Snd by_ n acc) : Snd by_ n (relax by_ i m acc k) := by
  unfold relax
  cases e : by_ m k with
  | none => exact h
  | some s =>
    intro p hp
    rcases put_keys_mem hp with q | q
    · subst q
      exact ⟨hi, (hb _ _ _ e).2, .step hr e⟩
    · exact h p q
theorem relaxAll_snd (hb : ∀ i j s, by_ i j = some s → i < n ∧ j < n) {acc : AL Nat} {im : Nat × Nat} (hi : im.1 < n) (hr : Reach by_ im.1 im.2) (h : Snd by_ n acc) : Snd by_ n (relaxAll by_ n acc im) :=
  foldl_inv (P := Snd by_ n) _ _ h fun _ _ _ q => relax_snd hb hi hr q
theorem round_snd (hb : ∀ i j s, by_ i j = some s → i < n ∧ j < n) {g : AL Nat} (h : Snd by_ n g) : Snd by_ n (round by_ n g) :=
  foldl_inv (P := Snd by_ n) _ _ h fun _ im m q => relaxAll_snd hb (h im m).1 (h im m).2.2 q
theorem initG_snd : Snd by_ n (initG n) := by
  intro p hp
  unfold initG at hp
  rw [List.map_map] at hp
  obtain ⟨k, hk, e⟩ := List.mem_map.mp hp
  have e' : (k, k) = p := e
  subst e'
  have := List.mem_range.mp hk
  exact ⟨this, this, .refl _⟩
theorem initG_get {k : Nat} (h : k < n) : ∃ v, getA (initG n) (k, k) = some v := by
  apply getA_mem
  unfold initG
  rw [List.map_map]
  exact List.mem_map.mpr ⟨k, List.mem_range.mpr h, rfl⟩

/-- one key's turn brings the arrows' rises -/
theorem relaxAll_hit {acc : AL Nat} {i m k v : Nat} {s : Bool} (hk : k < n) (he : by_ m k = some s) (hv : getA acc (i, m) = some v) :
    ∃ v', getA (relaxAll by_ n acc (i, m)) (i, k) = some v' ∧ v + s.toNat ≤ v' := by
  unfold relaxAll
  show ∃ v', getA ((List.range n).foldl (relax by_ i m) acc) (i, k) = some v' ∧ v + s.toNat ≤ v'
  have main : ∀ (l : List Nat) (acc : AL Nat) (v : Nat), k ∈ l → getA acc (i, m) = some v → ∃ v', getA (l.foldl (relax by_ i m) acc) (i, k) = some v' ∧ v + s.toNat ≤ v' := by
    intro l
    induction l with
    | nil => intro acc v hm _; cases hm
    | cons a l ih =>
      intro acc v hm hv
      obtain ⟨v1, e1, l1⟩ := relax_up (by_ := by_) i m acc a _ _ hv
      rcases List.mem_cons.mp hm with h | h
      · subst h
        have : getA (relax by_ i m acc k) (i, k) = some (max ((getA acc (i, m)).getD 0 + s.toNat) ((getA acc (i, k)).getD 0)) := by
          unfold relax
          rw [he]
          show getA (putA acc (i, k) _) (i, k) = _
          rw [getA_put, if_pos rfl]
        obtain ⟨v2, e2, l2⟩ := foldl_up (fun acc k => relax_up (by_ := by_) i m acc k) l _ _ _ this
        refine ⟨v2, e2, Nat.le_trans ?_ l2⟩
        rw [hv]
        exact Nat.le_max_left _ _
      · obtain ⟨v2, e2, l2⟩ := ih _ _ h e1
        exact ⟨v2, e2, by omega⟩
  exact main _ _ _ (List.mem_range.mpr hk) hv
theorem round_hit {g : AL Nat} {i m k v : Nat} {s : Bool} (hk : k < n) (he : by_ m k = some s) (hv : getA g (i, m) = some v) :
    ∃ v', getA (round by_ n g) (i, k) = some v' ∧ v + s.toNat ≤ v' := by
  unfold round
  have main : ∀ (l : List (Nat × Nat)) (acc : AL Nat) (v : Nat), (i, m) ∈ l → getA acc (i, m) = some v → ∃ v', getA (l.foldl (relaxAll by_ n) acc) (i, k) = some v' ∧ v + s.toNat ≤ v' := by
    intro l
    induction l with
    | nil => intro acc v hm _; cases hm
    | cons a l ih =>
      intro acc v hm hv
      rcases List.mem_cons.mp hm with h | h
      · subst h
        obtain ⟨v1, e1, l1⟩ := relaxAll_hit (n := n) hk he hv
        obtain ⟨v2, e2, l2⟩ := foldl_up (fun acc im => relaxAll_up (by_ := by_) (n := n) acc im) l _ _ _ e1
        exact ⟨v2, e2, by omega⟩
      · obtain ⟨v1, e1, l1⟩ := relaxAll_up (by_ := by_) (n := n) acc a _ _ hv
        obtain ⟨v2, e2, l2⟩ := ih _ _ h e1
        exact ⟨v2, e2, by omega⟩
  exact main _ _ _ (mem_of_getA hv) hv

/-- g is closed under the arrows -/
def Clo (by_ : Nat → Nat → Option Bool) (n : Nat) (g : AL Nat) : Prop := ∀ i m k v s, getA g (i, m) = some v → by_ m k = some s → ∃ v', getA g (i, k) = some v' ∧ v + s.toNat ≤ v'
theorem sameAL_get {g h : AL Nat} (nd : (g.map (·.1)).Nodup) (nd2 : (h.map (·.1)).Nodup) (e : sameAL g h = true) : ∀ p, getA g p = getA h p := by
  unfold sameAL at e
  rw [Bool.and_eq_true] at e
  obtain ⟨e1, e2⟩ := e
  have el : g.length = h.length := by simpa using e1
  have ea : ∀ p v, getA g p = some v → getA h p = some v := fun p v hv => by
    have := List.all_eq_true.mp e2 _ (mem_of_getA2 hv)
    simpa using this
  intro p
  cases q : getA g p with
  | some v => exact (ea p v q).symm
  | none =>
    cases r : getA h p with
    | none => rfl
    | some v =>
      exfalso
      -- p is a key of h, not of g: but the keys of g lie among those of h without p
      have sub : ∀ k ∈ g.map (·.1), k ∈ (h.map (·.1)).erase p := fun k hk => by
        obtain ⟨v', hv'⟩ := getA_mem hk
        have hne : k ≠ p := fun z => by rw [z, q] at hv'; cases hv'
        exact (List.mem_erase_of_ne hne).mpr (mem_of_getA (ea _ _ hv'))
      have hl : (g.map (·.1)).length ≤ ((h.map (·.1)).erase p).length := List.Nodup.length_le_of_subset nd sub
      rw [List.length_erase_of_mem (mem_of_getA r), List.length_map, List.length_map] at hl
      have : 0 < h.length := by
        cases h with
        | nil => cases r
        | cons _ _ => simp
      omega
structure GoodG (by_ : Nat → Nat → Option Bool) (n : Nat) (g : AL Nat) : Prop where
  nd : (g.map (·.1)).Nodup
  snd : Snd by_ n g
  clo : Clo by_ n g
  diag : ∀ k, k < n → ∃ v, getA g (k, k) = some v
theorem loopG_good (hb : ∀ i j s, by_ i j = some s → i < n ∧ j < n) : ∀ (t : Nat) (g h : AL Nat), (g.map (·.1)).Nodup → Snd by_ n g → (∀ k, k < n → ∃ v, getA g (k, k) = some v) → loopG by_ n t g = some h → GoodG by_ n h
  | 0, _, _, _, _, _, e => by cases e
  | t + 1, g, h, nd, sn, dg, e => by
    have nd2 := round_nd (by_ := by_) (n := n) nd
    have sn2 := round_snd hb sn
    have dg2 : ∀ k, k < n → ∃ v, getA (round by_ n g) (k, k) = some v := fun k hk => by
      obtain ⟨v, hv⟩ := dg k hk
      obtain ⟨v', hv', _⟩ := round_up (by_ := by_) (n := n) g _ _ hv
      exact ⟨v', hv'⟩
    unfold loopG at e
    by_cases c : sameAL g (round by_ n g) = true
    · rw [if_pos c] at e
      have e' := Option.some.inj e
      subst e'
      have same := sameAL_get nd nd2 c
      refine ⟨nd2, sn2, fun i m k v s hv he => ?_, dg2⟩
      rw [← same] at hv
      exact round_hit (hb _ _ _ he).2 he hv
    · rw [if_neg c] at e
      exact loopG_good hb t _ h nd2 sn2 dg2 e
theorem gapsL_good (hb : ∀ i j s, by_ i j = some s → i < n ∧ j < n) {g : AL Nat} (e : gapsL by_ n = some g) : GoodG by_ n g :=
  loopG_good hb _ _ _ initG_nd initG_snd (fun _ h => initG_get h) e
theorem GoodG.reach {g : AL Nat} (G : GoodG by_ n g) {i j : Nat} (hi : i < n) : (getA g (i, j)).isSome = true ↔ Reach by_ i j := by
  constructor
  · intro h
    obtain ⟨v, e⟩ := Option.isSome_iff_exists.mp h
    exact (G.snd _ (mem_of_getA e)).2.2
  · intro h
    induction h with
    | refl =>
      obtain ⟨v, e⟩ := G.diag _ hi
      rw [e]; rfl
    | step _ hs ih =>
      obtain ⟨v, e⟩ := Option.isSome_iff_exists.mp ih
      obtain ⟨v', e', _⟩ := G.clo _ _ _ _ _ e hs
      rw [e']; rfl
end
end W24
/-! M2: plain mathematics: without a strict arrow the law's gaps come to an end; the program's table. -/
set_option maxHeartbeats 4000000
namespace W24

/-! ### no strict arrow: the law's gaps end -/
section
variable {by_ : Nat → Nat → Option Bool} {n : Nat}
/-- all values are zero -/
def Zer (g : AL Nat) : Prop := ∀ p v, getA g p = some v → v = 0
theorem relax_zer (ns : ∀ i j, by_ i j ≠ some true) {i m : Nat} {acc : AL Nat} {k : Nat} (h : Zer acc) : Zer (relax by_ i m acc k) := by
  unfold relax
  cases e : by_ m k with
  | none => exact h
  | some s =>
    have es : s = false := by
      cases s with
      | false => rfl
      | true => exact absurd e (ns m k)
    subst es
    intro p v hv
    have hv' : getA (putA acc (i, k) (max ((getA acc (i, m)).getD 0 + 0) ((getA acc (i, k)).getD 0))) p = some v := hv
    rw [getA_put] at hv'
    have z : ∀ q, (getA acc q).getD 0 = 0 := fun q => by
      cases c : getA acc q with
      | none => rfl
      | some x => exact h q x c
    by_cases hp : p = (i, k)
    · rw [if_pos hp, z, z] at hv'
      exact (Option.some.inj hv').symm
    · rw [if_neg hp] at hv'
      exact h p v hv'
theorem round_zer (ns : ∀ i j, by_ i j ≠ some true) {g : AL Nat} (h : Zer g) : Zer (round by_ n g) :=
  foldl_inv (P := Zer) _ _ h fun _ _ _ q => foldl_inv (P := Zer) _ _ q fun _ _ _ q => relax_zer ns q
theorem initG_zer : Zer (initG n) := by
  intro p v h
  have := mem_of_getA2 h
  unfold initG at this
  obtain ⟨k, _, e⟩ := List.mem_map.mp this
  exact (Prod.mk.inj e).2.symm
/-- the keys of a round: those, and what an arrow leads to -/
theorem relax_key {i m : Nat} {acc : AL Nat} {k : Nat} {p : Nat × Nat} (h : p ∈ (relax by_ i m acc k).map (·.1)) : p ∈ acc.map (·.1) ∨ (p = (i, k) ∧ (by_ m k).isSome = true) := by
  unfold relax at h
  cases e : by_ m k with
  | none => rw [e] at h; exact .inl h
  | some s =>
    rw [e] at h
    rcases put_keys_mem h with q | q
    · exact .inr ⟨q, rfl⟩
    · exact .inl q
theorem round_key {g : AL Nat} {p : Nat × Nat} (h : p ∈ (round by_ n g).map (·.1)) : p ∈ g.map (·.1) ∨ ∃ m, (p.1, m) ∈ g.map (·.1) ∧ (by_ m p.2).isSome = true := by
  have := foldl_inv (P := fun acc : AL Nat => ∀ p ∈ acc.map (·.1), p ∈ g.map (·.1) ∨ ∃ m, (p.1, m) ∈ g.map (·.1) ∧ (by_ m p.2).isSome = true) (f := relaxAll by_ n) (g.map (·.1)) g (fun p hp => .inl hp)
    (fun acc im him hacc => by
      refine foldl_inv (P := fun acc : AL Nat => ∀ p ∈ acc.map (·.1), p ∈ g.map (·.1) ∨ ∃ m, (p.1, m) ∈ g.map (·.1) ∧ (by_ m p.2).isSome = true) _ _ hacc fun acc2 k _ h2 p hp => ?_
      rcases relax_key hp with q | ⟨q, e⟩
      · exact h2 p q
      · subst q
        exact .inr ⟨im.2, him, e⟩)
  exact this p h
/-- a row's keys, counted -/
def cnt (n : Nat) (g : AL Nat) (i : Nat) : Nat := ((List.range n).filter fun j => (getA g (i, j)).isSome).length
def CloR (by_ : Nat → Nat → Option Bool) (g : AL Nat) (i : Nat) : Prop := ∀ m k, (getA g (i, m)).isSome = true → (by_ m k).isSome = true → (getA g (i, k)).isSome = true
theorem isSome_iff_key {β : Type} {g : AL β} {p : Nat × Nat} : (getA g p).isSome = true ↔ p ∈ g.map (·.1) := by
  constructor
  · intro h
    obtain ⟨v, e⟩ := Option.isSome_iff_exists.mp h
    exact mem_of_getA e
  · intro h
    obtain ⟨v, e⟩ := getA_mem h
    rw [e]; rfl
theorem round_row {g : AL Nat} {i : Nat} (h : CloR by_ g i) (k : Nat) : (getA (round by_ n g) (i, k)).isSome = (getA g (i, k)).isSome := by
  cases c : (getA g (i, k)).isSome with
  | true =>
    obtain ⟨v, e⟩ := Option.isSome_iff_exists.mp c
    obtain ⟨v', e', _⟩ := round_up (by_ := by_) (n := n) g _ _ e
    rw [e']; rfl
  | false =>
    cases c2 : (getA (round by_ n g) (i, k)).isSome with
    | false => rfl
    | true =>
      rcases round_key (isSome_iff_key.mp c2) with q | ⟨m, hm, hb⟩
      · rw [isSome_iff_key.mpr q] at c; cases c
      · rw [h m k (isSome_iff_key.mpr hm) hb] at c; cases c
theorem filter_le {α : Type} {p q : α → Bool} (h : ∀ a, p a = true → q a = true) : ∀ l : List α, (l.filter p).length ≤ (l.filter q).length
  | [] => Nat.le_refl _
  | a :: l => by
    have ih := filter_le h l
    rw [List.filter_cons, List.filter_cons]
    cases e : p a with
    | true => rw [h a e]; simp only [if_true, List.length_cons]; omega
    | false =>
      cases q a with
      | true => simp only [if_true, List.length_cons]; simp; omega
      | false => simpa using ih
theorem filter_lt {α : Type} {p q : α → Bool} (h : ∀ a, p a = true → q a = true) {x : α} (hp : p x = false) (hq : q x = true) : ∀ l : List α, x ∈ l → (l.filter p).length < (l.filter q).length
  | [], m => by cases m
  | a :: l, m => by
    rw [List.filter_cons, List.filter_cons]
    rcases List.mem_cons.mp m with e | m
    · subst e
      rw [hp, hq]
      have := filter_le h l
      simp only [if_true, List.length_cons]; simp; omega
    · have ih := filter_lt h hp hq l m
      cases e : p a with
      | true => rw [h a e]; simp only [if_true, List.length_cons]; omega
      | false =>
        cases q a with
        | true => simp only [if_true, List.length_cons]; simp; omega
        | false => simpa using ih
theorem round_cnt (hb : ∀ i j s, by_ i j = some s → i < n ∧ j < n) {g : AL Nat} {i : Nat} (h : ¬ CloR by_ g i) : cnt n g i < cnt n (round by_ n g) i := by
  unfold CloR at h
  have : ∃ m k, (getA g (i, m)).isSome = true ∧ (by_ m k).isSome = true ∧ ¬ (getA g (i, k)).isSome = true := by
    apply Classical.byContradiction
    intro q
    apply h
    intro m k h1 h2
    apply Classical.byContradiction
    intro h3
    exact q ⟨m, k, h1, h2, h3⟩
  obtain ⟨m, k, h1, h2, h3⟩ := this
  obtain ⟨v, ev⟩ := Option.isSome_iff_exists.mp h1
  obtain ⟨s, es⟩ := Option.isSome_iff_exists.mp h2
  have hk : k < n := (hb _ _ _ es).2
  obtain ⟨v', e', _⟩ := round_hit hk es ev
  unfold cnt
  refine filter_lt (x := k) (fun j hj => ?_) (by simpa using h3) (by rw [e']; rfl) _ (List.mem_range.mpr hk)
  obtain ⟨u, eu⟩ := Option.isSome_iff_exists.mp hj
  obtain ⟨u', eu', _⟩ := round_up (by_ := by_) (n := n) g _ _ eu
  rw [eu']; rfl
theorem cnt_le (g : AL Nat) (i : Nat) : cnt n g i ≤ n := by
  unfold cnt
  have := List.length_filter_le (fun j => (getA g (i, j)).isSome) (List.range n)
  rw [List.length_range] at this
  exact this
theorem filter_all {α : Type} {p : α → Bool} : ∀ l : List α, l.length ≤ (l.filter p).length → ∀ x ∈ l, p x = true
  | [], _, x, h => by cases h
  | a :: l, h, x, hx => by
    rw [List.filter_cons] at h
    have hl := List.length_filter_le p l
    cases e : p a with
    | false =>
      rw [e] at h
      simp only [List.length_cons] at h
      have h' : l.length + 1 ≤ (l.filter p).length := h
      omega
    | true =>
      rw [e] at h
      simp only [if_true, List.length_cons] at h
      rcases List.mem_cons.mp hx with q | q
      · rw [q]; exact e
      · exact filter_all l (by omega) x q
theorem cnt_full {g : AL Nat} {i : Nat} (h : n ≤ cnt n g i) (k : Nat) (hk : k < n) : (getA g (i, k)).isSome = true := by
  unfold cnt at h
  exact filter_all (p := fun j => (getA g (i, j)).isSome) (List.range n) (by rw [List.length_range]; exact h) k (List.mem_range.mpr hk)
theorem closed_same (hb : ∀ i j s, by_ i j = some s → i < n ∧ j < n) (ns : ∀ i j, by_ i j ≠ some true) {g : AL Nat} (nd : (g.map (·.1)).Nodup) (z : Zer g) (sn : Snd by_ n g) (h : ∀ i, i < n → CloR by_ g i) : sameAL g (round by_ n g) = true := by
  have keys : ∀ p, (getA (round by_ n g) p).isSome = (getA g p).isSome := by
    intro p
    by_cases hp : p.1 < n
    · exact round_row (h p.1 hp) p.2
    · have h1 : ∀ g', Snd by_ n g' → (getA g' p).isSome = false := fun g' s' => by
        cases c : (getA g' p).isSome with
        | false => rfl
        | true => exact absurd (s' p (isSome_iff_key.mp c)).1 hp
      rw [h1 _ sn, h1 _ (round_snd hb sn)]
  have z2 := round_zer (n := n) ns z
  have nd2 := round_nd (by_ := by_) (n := n) nd
  have get : ∀ p, getA (round by_ n g) p = getA g p := fun p => by
    have := keys p
    cases a : getA g p with
    | none =>
      rw [a] at this
      cases b : getA (round by_ n g) p with
      | none => rfl
      | some x => rw [b] at this; cases this
    | some x =>
      rw [a] at this
      cases b : getA (round by_ n g) p with
      | none => rw [b] at this; cases this
      | some y => rw [z _ _ a, z2 _ _ b]
  unfold sameAL
  rw [Bool.and_eq_true]
  constructor
  · have sub1 : (g.map (·.1)).length ≤ ((round by_ n g).map (·.1)).length := List.Nodup.length_le_of_subset nd fun k hk => isSome_iff_key.mp (by rw [keys]; exact isSome_iff_key.mpr hk)
    have sub2 : ((round by_ n g).map (·.1)).length ≤ (g.map (·.1)).length := List.Nodup.length_le_of_subset nd2 fun k hk => isSome_iff_key.mp (by rw [← keys]; exact isSome_iff_key.mpr hk)
    rw [List.length_map, List.length_map] at sub1 sub2
    have : g.length = (round by_ n g).length := Nat.le_antisymm sub1 sub2
    simp [this]
  · apply List.all_eq_true.mpr
    intro kv hkv
    rw [get, getA_of_mem nd (k := kv.1) (v := kv.2) hkv]
    simp
theorem loopG_some (hb : ∀ i j s, by_ i j = some s → i < n ∧ j < n) (ns : ∀ i j, by_ i j ≠ some true) : ∀ (t c : Nat) (g : AL Nat), n < t + c → (g.map (·.1)).Nodup → Zer g → Snd by_ n g → (∀ i, i < n → CloR by_ g i ∨ c ≤ cnt n g i) → 0 < t → (loopG by_ n t g).isSome = true
  | 0, _, _, _, _, _, _, _, h => absurd h (Nat.lt_irrefl _)
  | t + 1, c, g, hc, nd, z, sn, hr, _ => by
    unfold loopG
    by_cases q : sameAL g (round by_ n g) = true
    · rw [if_pos q]; rfl
    · rw [if_neg q]
      have hnot : ¬ ∀ i, i < n → CloR by_ g i := fun h => q (closed_same hb ns nd z sn h)
      have ht : 0 < t := by
        rcases Nat.eq_zero_or_pos t with e | e
        · subst e
          exfalso
          apply hnot
          intro i hi
          rcases hr i hi with h | h
          · exact h
          · refine fun m k h1 h2 => ?_
            obtain ⟨s, es⟩ := Option.isSome_iff_exists.mp h2
            have hk := (hb _ _ _ es).2
            exact cnt_full (n := n) (by omega) k hk
        · exact e
      refine loopG_some hb ns t (c + 1) _ (by omega) (round_nd nd) (round_zer ns z) (round_snd hb sn) (fun i hi => ?_) ht
      rcases Classical.em (CloR by_ g i) with h | h
      · refine .inl fun m k h1 h2 => ?_
        rw [round_row h] at h1 ⊢
        exact h m k h1 h2
      · rcases hr i hi with h' | h'
        · exact absurd h' h
        · have := round_cnt hb h
          exact .inr (by omega)
theorem gapsL_some (hb : ∀ i j s, by_ i j = some s → i < n ∧ j < n) (ns : ∀ i j, by_ i j ≠ some true) : (gapsL by_ n).isSome = true :=
  loopG_some hb ns (n + 1) 0 _ (by omega) initG_nd initG_zer initG_snd (fun _ _ => .inr (Nat.zero_le _)) (Nat.succ_pos _)
end

/-! ### the program's table -/
abbrev Tab := Nat → Nat → Option Nat
def updT (f : Tab) (i j : Nat) (v : Option Nat) : Tab := fun a b => if a = i ∧ b = j then v else f a b
theorem updT_same (f : Tab) (i j : Nat) (v : Option Nat) : updT f i j v i j = v := if_pos ⟨rfl, rfl⟩
theorem updT_ne {f : Tab} {i j a b : Nat} {v : Option Nat} (h : ¬ (a = i ∧ b = j)) : updT f i j v a b = f a b := if_neg h
def tab0 : Tab := fun i j => if i = j then some 0 else none
def tabArrow (f : Tab) (x : Nat × Nat × Bool) : Tab := updT f x.1 x.2.1 (some (max ((f x.1 x.2.1).getD 0) x.2.2.toNat))
def tabIn (m i : Nat) (f : Tab) (j : Nat) : Tab := if (f m j).isSome = true then updT f i j (some (max ((f i j).getD 0) ((f i m).getD 0 + (f m j).getD 0))) else f
def tabOne (n m : Nat) (f : Tab) (i : Nat) : Tab := if (f i m).isSome = true then (List.range n).foldl (tabIn m i) f else f
def tabMid (n : Nat) (f : Tab) (m : Nat) : Tab := (List.range n).foldl (tabOne n m) f
def tabAll (n : Nat) (f : Tab) : Tab := (List.range n).foldl (tabMid n) f
def tabOf (n : Nat) (L : List (Nat × Nat × Bool)) : Tab := tabAll n (L.foldl tabArrow tab0)

/-- f's values are ways by which g rises -/
def Ris (n : Nat) (g f : Tab) : Prop := ∀ i j v, f i j = some v → ∀ s p, g s i = some p → ∃ q, g s j = some q ∧ p + v ≤ q
section
variable {g : Tab} {n : Nat}
theorem ris0 : Ris n g tab0 := by
  intro i j v h s p hp
  unfold tab0 at h
  by_cases e : i = j
  · rw [if_pos e] at h
    subst e
    exact ⟨p, hp, by have := Option.some.inj h; omega⟩
  · rw [if_neg e] at h; cases h
theorem ris_upd {f : Tab} (h : Ris n g f) {i j : Nat} {v : Nat} (hv : ∀ s p, g s i = some p → ∃ q, g s j = some q ∧ p + v ≤ q) : Ris n g (updT f i j (some (max ((f i j).getD 0) v))) := by
  intro a b u hu s p hp
  by_cases e : a = i ∧ b = j
  · obtain ⟨rfl, rfl⟩ := e
    rw [updT_same] at hu
    have hu := Option.some.inj hu
    obtain ⟨q, hq, l⟩ := hv s p hp
    refine ⟨q, hq, ?_⟩
    cases c : f a b with
    | none => rw [c] at hu; simp only [Option.getD_none] at hu; omega
    | some w =>
      obtain ⟨q', hq', l'⟩ := h a b w c s p hp
      rw [hq] at hq'
      have := Option.some.inj hq'
      rw [c] at hu
      simp only [Option.getD_some] at hu
      omega
  · rw [updT_ne e] at hu
    exact h a b u hu s p hp
theorem risArrow {f : Tab} (h : Ris n g f) {x : Nat × Nat × Bool} (hx : ∀ s p, g s x.1 = some p → ∃ q, g s x.2.1 = some q ∧ p + x.2.2.toNat ≤ q) : Ris n g (tabArrow f x) := ris_upd h hx
theorem risIn {f : Tab} (h : Ris n g f) {m i j : Nat} (him : (f i m).isSome = true) : Ris n g (tabIn m i f j) ∧ ((tabIn m i f j) i m).isSome = true := by
  unfold tabIn
  by_cases c : (f m j).isSome = true
  · rw [if_pos c]
    obtain ⟨a, ea⟩ := Option.isSome_iff_exists.mp him
    obtain ⟨b, eb⟩ := Option.isSome_iff_exists.mp c
    refine ⟨ris_upd h fun s p hp => ?_, ?_⟩
    · obtain ⟨q, hq, l⟩ := h i m a ea s p hp
      obtain ⟨r, hr, l2⟩ := h m j b eb s q hq
      refine ⟨r, hr, ?_⟩
      rw [ea, eb]
      simp only [Option.getD_some]
      omega
    · by_cases e : i = i ∧ m = j
      · obtain ⟨_, rfl⟩ := e
        rw [updT_same]; rfl
      · rw [updT_ne e]; exact him
  · rw [if_neg c]; exact ⟨h, him⟩
theorem risOne {f : Tab} (h : Ris n g f) {m i : Nat} : Ris n g (tabOne n m f i) := by
  unfold tabOne
  by_cases c : (f i m).isSome = true
  · rw [if_pos c]
    exact (foldl_inv (P := fun f => Ris n g f ∧ (f i m).isSome = true) _ _ ⟨h, c⟩ fun _ _ _ q => risIn q.1 q.2).1
  · rw [if_neg c]; exact h
theorem risAll {f : Tab} (h : Ris n g f) : Ris n g (tabAll n f) :=
  foldl_inv (P := Ris n g) _ _ h fun _ _ _ q => foldl_inv (P := Ris n g) _ _ q fun _ _ _ q => risOne q
theorem risOf {L : List (Nat × Nat × Bool)} (hL : ∀ x ∈ L, ∀ s p, g s x.1 = some p → ∃ q, g s x.2.1 = some q ∧ p + x.2.2.toNat ≤ q) : Ris n g (tabOf n L) :=
  risAll (foldl_inv (P := Ris n g) _ _ ris0 fun _ x hx q => risArrow q (hL x hx))
end

/-! the marks that stand: they stay -/
def Sub (f h : Tab) : Prop := ∀ i j, (f i j).isSome = true → (h i j).isSome = true
theorem Sub.refl (f : Tab) : Sub f f := fun _ _ h => h
theorem Sub.trans {f g h : Tab} (a : Sub f g) (b : Sub g h) : Sub f h := fun i j q => b i j (a i j q)
theorem sub_upd (f : Tab) (i j v : Nat) : Sub f (updT f i j (some v)) := fun a b h => by
  by_cases e : a = i ∧ b = j
  · obtain ⟨rfl, rfl⟩ := e
    rw [updT_same]; rfl
  · rw [updT_ne e]; exact h
theorem sub_fold {α : Type} {s : Tab → α → Tab} (h : ∀ f a, Sub f (s f a)) : ∀ (l : List α) (f : Tab), Sub f (l.foldl s f)
  | [], f => Sub.refl f
  | a :: l, f => (h f a).trans (sub_fold h l (s f a))
theorem sub_in (m i : Nat) (f : Tab) (j : Nat) : Sub f (tabIn m i f j) := by
  unfold tabIn
  by_cases c : (f m j).isSome = true
  · rw [if_pos c]; exact sub_upd f i j _
  · rw [if_neg c]; exact Sub.refl f
theorem sub_one (n m : Nat) (f : Tab) (i : Nat) : Sub f (tabOne n m f i) := by
  unfold tabOne
  by_cases c : (f i m).isSome = true
  · rw [if_pos c]; exact sub_fold (fun f j => sub_in m i f j) _ _
  · rw [if_neg c]; exact Sub.refl f
theorem sub_mid (n : Nat) (f : Tab) (m : Nat) : Sub f (tabMid n f m) := sub_fold (fun f i => sub_one n m f i) _ _
theorem sub_all (n : Nat) (f : Tab) : Sub f (tabAll n f) := sub_fold (fun f m => sub_mid n f m) _ _
/-- one step of the middle: row m and column m's marks are as they were -/
structure Mid (m : Nat) (f0 f : Tab) : Prop where
  sub : Sub f0 f
  back : ∀ i j, (f i j).isSome = true → (f0 i j).isSome = true ∨ ((f0 i m).isSome = true ∧ (f0 m j).isSome = true)
theorem Mid.col {m : Nat} {f0 f : Tab} (h : Mid m f0 f) (i : Nat) : (f i m).isSome = true ↔ (f0 i m).isSome = true :=
  ⟨fun q => (h.back i m q).elim id fun z => z.1, h.sub i m⟩
theorem Mid.row {m : Nat} {f0 f : Tab} (h : Mid m f0 f) (j : Nat) : (f m j).isSome = true ↔ (f0 m j).isSome = true :=
  ⟨fun q => (h.back m j q).elim id fun z => z.2, h.sub m j⟩
theorem mid_in {m i j : Nat} {f0 f : Tab} (h : Mid m f0 f) (him : (f0 i m).isSome = true) : Mid m f0 (tabIn m i f j) := by
  refine ⟨h.sub.trans (sub_in m i f j), fun a b q => ?_⟩
  unfold tabIn at q
  by_cases c : (f m j).isSome = true
  · rw [if_pos c] at q
    by_cases e : a = i ∧ b = j
    · obtain ⟨rfl, rfl⟩ := e
      exact .inr ⟨him, (h.row b).mp c⟩
    · rw [updT_ne e] at q; exact h.back a b q
  · rw [if_neg c] at q; exact h.back a b q
theorem mid_one {n m i : Nat} {f0 f : Tab} (h : Mid m f0 f) : Mid m f0 (tabOne n m f i) := by
  unfold tabOne
  by_cases c : (f i m).isSome = true
  · rw [if_pos c]
    exact foldl_inv (P := Mid m f0) _ _ h fun _ _ _ q => mid_in q ((h.col i).mp c)
  · rw [if_neg c]; exact h
theorem mid_mid {n m : Nat} (f0 : Tab) : Mid m f0 (tabMid n f0 m) :=
  foldl_inv (P := Mid m f0) _ _ ⟨Sub.refl _, fun _ _ q => .inl q⟩ fun _ _ _ q => mid_one q
theorem in_hit {m i : Nat} : ∀ (l : List Nat) (f : Tab) (j : Nat), j ∈ l → (f m j).isSome = true → ((l.foldl (tabIn m i) f) i j).isSome = true
  | [], _, _, h, _ => by cases h
  | a :: l, f, j, h, hm => by
    rcases List.mem_cons.mp h with e | h
    · subst e
      have : ((tabIn m i f j) i j).isSome = true := by
        unfold tabIn
        rw [if_pos hm, updT_same]; rfl
      exact sub_fold (fun f j => sub_in m i f j) l _ _ _ this
    · exact in_hit l _ j h (sub_in m i f a _ _ hm)
theorem one_hit {n m : Nat} {f0 : Tab} : ∀ (l : List Nat) (f : Tab) (i j : Nat), i ∈ l → j < n → Mid m f0 f → (f0 i m).isSome = true → (f0 m j).isSome = true → ((l.foldl (tabOne n m) f) i j).isSome = true
  | [], _, _, _, h, _, _, _, _ => by cases h
  | a :: l, f, i, j, h, hj, M, h1, h2 => by
    rcases List.mem_cons.mp h with e | h
    · subst e
      have : ((tabOne n m f i) i j).isSome = true := by
        unfold tabOne
        rw [if_pos ((M.col i).mpr h1)]
        exact in_hit _ _ _ (List.mem_range.mpr hj) ((M.row j).mpr h2)
      exact sub_fold (fun f i => sub_one n m f i) l _ _ _ this
    · exact one_hit l _ i j h hj (mid_one M) h1 h2
theorem mid_hit {n m i j : Nat} {f0 : Tab} (hi : i < n) (hj : j < n) (h1 : (f0 i m).isSome = true) (h2 : (f0 m j).isSome = true) : ((tabMid n f0 m) i j).isSome = true :=
  one_hit _ _ _ _ (List.mem_range.mpr hi) hj ⟨Sub.refl _, fun _ _ q => .inl q⟩ h1 h2
/-- behind the first k middles: what leads over them is marked -/
theorem warshall {n : Nat} (f0 : Tab) : ∀ k, k ≤ n → ∀ i j m, i < n → j < n → m < k → (((List.range k).foldl (tabMid n) f0) i m).isSome = true → (((List.range k).foldl (tabMid n) f0) m j).isSome = true → (((List.range k).foldl (tabMid n) f0) i j).isSome = true
  | 0, _, _, _, _, _, _, h, _, _ => absurd h (Nat.not_lt_zero _)
  | k + 1, hk, i, j, m, hi, hj, hm, h1, h2 => by
    have ih := warshall (n := n) f0 k (by omega)
    have hkn : k < n := by omega
    rw [List.range_succ, List.foldl_append] at h1 h2 ⊢
    simp only [List.foldl_cons, List.foldl_nil] at h1 h2 ⊢
    generalize (List.range k).foldl (tabMid n) f0 = f at ih h1 h2 ⊢
    have M := mid_mid (n := n) (m := k) f
    have S := M.sub
    by_cases e : m = k
    · subst e
      exact mid_hit hi hj ((M.col i).mp h1) ((M.row j).mp h2)
    · have hmk : m < k := by omega
      have hmn : m < n := by omega
      rcases M.back i m h1 with a | ⟨a1, a2⟩ <;> rcases M.back m j h2 with b | ⟨b1, b2⟩
      · exact S _ _ (ih i j m hi hj hmk a b)
      · exact mid_hit hi hj (ih i k m hi hkn hmk a b1) b2
      · exact mid_hit hi hj a1 (ih k j m hkn hj hmk a2 b)
      · exact mid_hit hi hj a1 b2
theorem tabAll_trans {n : Nat} (f0 : Tab) {i j m : Nat} (hi : i < n) (hj : j < n) (hm : m < n) (h1 : ((tabAll n f0) i m).isSome = true) (h2 : ((tabAll n f0) m j).isSome = true) : ((tabAll n f0) i j).isSome = true :=
  warshall f0 n (Nat.le_refl _) i j m hi hj hm h1 h2
theorem arrow_hit : ∀ (L : List (Nat × Nat × Bool)) (f : Tab) (x : Nat × Nat × Bool), x ∈ L → ((L.foldl tabArrow f) x.1 x.2.1).isSome = true
  | [], _, _, h => by cases h
  | a :: L, f, x, h => by
    rcases List.mem_cons.mp h with e | h
    · subst e
      have : ((tabArrow f x) x.1 x.2.1).isSome = true := by unfold tabArrow; rw [updT_same]; rfl
      exact sub_fold (fun f x => sub_upd f x.1 x.2.1 _) L _ _ _ this
    · exact arrow_hit L _ x h

/-- THE TABLE: with a closed g as the law has it, the diagonal is zero and the marks are reach -/
theorem table_right {by_ : Nat → Nat → Option Bool} {n : Nat} {g : AL Nat} (G : GoodG by_ n g) (hb : ∀ i j s, by_ i j = some s → i < n ∧ j < n) {L : List (Nat × Nat × Bool)} (hL : ∀ i j s, (i, j, s) ∈ L ↔ by_ i j = some s) :
    (∀ i, i < n → tabOf n L i i = some 0) ∧ ∀ i j, i < n → j < n → ((tabOf n L i j).isSome = true ↔ Reach by_ i j) := by
  have R : Ris n (fun i j => getA g (i, j)) (tabOf n L) := risOf fun x hx s p hp => by
    obtain ⟨i, j, t⟩ := x
    exact G.clo s i j p t hp ((hL i j t).mp hx)
  have S0 : Sub tab0 (tabOf n L) := (sub_fold (fun f x => sub_upd f x.1 x.2.1 _) L _).trans (sub_all n _)
  have diag : ∀ i, (tabOf n L i i).isSome = true := fun i => S0 i i (by unfold tab0; rw [if_pos rfl]; rfl)
  refine ⟨fun i hi => ?_, fun i j hi hj => ⟨fun h => ?_, fun h => ?_⟩⟩
  · obtain ⟨v, e⟩ := Option.isSome_iff_exists.mp (diag i)
    obtain ⟨p, hp⟩ := G.diag i hi
    obtain ⟨q, hq, l⟩ := R i i v e i p hp
    have hq' : getA g (i, i) = some q := hq
    rw [hp] at hq'
    have := Option.some.inj hq'
    rw [e]
    have : v = 0 := by omega
    rw [this]
  · obtain ⟨v, e⟩ := Option.isSome_iff_exists.mp h
    obtain ⟨p, hp⟩ := G.diag i hi
    obtain ⟨q, hq, _⟩ := R i j v e i p hp
    exact (G.reach hi).mp (by rw [show getA g (i, j) = some q from hq]; rfl)
  · induction h with
    | refl => exact diag _
    | step hr hs ih =>
      have hm := hr.lt hb hi
      have hk := (hb _ _ _ hs).2
      refine tabAll_trans _ hi hk hm (ih hm) ?_
      exact sub_all n _ _ _ (arrow_hit L tab0 (_, _, _) ((hL _ _ _).mpr hs))
end W24
set_option maxHeartbeats 4000000
/-! K24Rules1: rules that the layer lacks: tuples whose object is known, dict(tuple), dicts with tuple keys made, copied, compared, setdefault. -/
namespace L2
open PySem PySem.Spec PyProof.Rows
section
variable {X : Cx}
/-- (a, b): the new tuple's object is known (it has no own dict) -/
def tTupF (t : TA) : TE := fun σ H Q => t σ H fun xs H1 => xs.length ≤ sizeLine ∧ ∀ p o, H1 p = none → o.dict = none → Q (.ref p) (upd H1 p (.frz o (.tup xs)))
theorem pe_tupF {es : List Expr} {t : TA} {pos : Pos} {x1} (h : PA X es t) : PE X (.Tuple es x1 pos) (tTupF t) := by
  refine ⟨fun pins s σ H Q I hq => ?_⟩
  refine wpAny_Tuple_spliced (thn (h.run pos pins s σ H _ I hq) fun us s1 ⟨xs, H1, I1, r, z, q⟩ => ⟨by rw [← r.length]; exact z, ?_⟩)
  have hf : H1 s1.heap.objs.size = none := I1.hok.fresh (Nat.le_refl _)
  have hg : (s1.heap.push { cls := .type "tuple", data := .seq us.toArray }).get? s1.heap.objs.size = some { cls := .type "tuple", data := .seq us.toArray } := Heap.get?_push_size _ rfl
  refine ⟨.ref s1.heap.objs.size, upd H1 s1.heap.objs.size (.frz { cls := .type "tuple", data := .seq us.toArray } (.tup xs)), I1.laid (t' := s1.toks) (fun b u e => Heap.get?_push_of_some _ e) (Nat.le_refl _) ?_, rfl, q _ _ hf rfl⟩
  exact ⟨hg, z, us, r, ⟨_, hg, rfl, _, rfl⟩⟩

/-- dict(t), t a tuple (its object known) of pairs (key, value): later pairs win -/
theorem call_dictTK (hcalm : X.calm = true) : CallR X (.type "dict") (fun xs H Q => ∃ (a : Addr) (o : Obj) (ps : List Addr) (kvs : List (Key × V)), xs = [.ref a] ∧ H a = some (.frz o (.tup (ps.map V.ref))) ∧ o.dict = none ∧ Paired (fun p kv => SqT X.K H p [kV kv.1, kv.2]) ps kvs ∧
    ∀ p, H p = none → Q (.ref p) (upd H p (.dK (mergeK [] kvs)))) := by
  intro pins s σ H xs us Q I r q
  obtain ⟨a, o, ps, kvs, ex, hq, hod, hp, q⟩ := q
  subst ex
  obtain ⟨u, eu, rx⟩ := vals1 r
  subst eu
  cases rx
  obtain ⟨ho, hz, its, rv, ⟨o', ho', hc, n, hdat⟩⟩ := (show ObjOk X.prog X.w H s.heap a (.frz o (.tup (ps.map V.ref))) from I.hok a _ hq)
  rw [ho] at ho'
  cases ho'
  have ei := refs_at rv
  subst ei
  rw [List.length_map] at hz
  obtain ⟨prs, rel, hl, hpr⟩ := pairs_of I hp
  have hz2 : prs.length ≤ sizeLine := by rw [hl]; exact hz
  -- the pairs by their addresses
  have hkey : ∀ (j : Nat) (q : Key × Value), prs[j]? = some q → ∃ (b : Addr) (u : Value), ps[j]? = some b ∧ IsTup s.heap b #[u, q.2] ∧ keyIs q.1 u = true := hpr
  let us : List (Value × Value) := (List.range prs.length).map fun j => match prs[j]? with
    | some q => (match ps[j]? with
      | some b => (match s.heap.get? b with
        | some ⟨_, _, .seq it _, _⟩ => (it.getD 0 .none, q.2)
        | _ => (.none, .none))
      | none => (.none, .none))
    | none => (.none, .none)
  have hul : us.length = prs.length := by simp [us]
  have hu : ∀ (j : Nat) (q : Key × Value) (b : Addr) (u : Value), prs[j]? = some q → ps[j]? = some b → IsTup s.heap b #[u, q.2] → us[j]? = some (u, q.2) := fun j q b u e1 e2 e3 => by
    obtain ⟨ob, h1, h2, m, h3⟩ := e3
    have hj : j < prs.length := (List.getElem?_eq_some_iff.mp e1).1
    have : us[j]? = some (match prs[j]? with
      | some q => (match ps[j]? with
        | some b => (match s.heap.get? b with
          | some ⟨_, _, .seq it _, _⟩ => (it.getD 0 .none, q.2)
          | _ => (.none, .none))
        | none => (.none, .none))
      | none => (.none, .none)) := by
      show ((List.range prs.length).map _)[j]? = _
      rw [List.getElem?_map, List.getElem?_range hj]
      rfl
    rw [this, e1, e2]
    dsimp only
    rw [h1]
    obtain ⟨c, d, dt, sl⟩ := ob
    dsimp only at h3
    subst h3
    rfl
  let Ts : Nat → Addr := fun j => ps.getD j 0
  have hpi : PairItems s.heap (ps.map Value.ref).toArray Ts us := by
    refine ⟨by simp [hul, hl], fun j k v hj => ?_⟩
    have hjl : j < prs.length := by
      have := (List.getElem?_eq_some_iff.mp hj).1
      omega
    obtain ⟨b, u, e1, e2, e3⟩ := hkey j prs[j] (List.getElem?_eq_getElem hjl)
    have e4 := hu j prs[j] b u (List.getElem?_eq_getElem hjl) e1 e2
    rw [hj] at e4
    have e5 : (k, v) = (u, prs[j].2) := Option.some.inj e4
    obtain ⟨rfl, rfl⟩ := Prod.mk.inj e5
    have eT : Ts j = b := by simp [Ts, e1]
    rw [eT]
    obtain ⟨ob, h1, h2, m, h3⟩ := e2
    refine ⟨by simp [e1], .inl ⟨ob, h1, h2, m, h3⟩⟩
  refine PySem.call_dict_pairs (knd := mixKind X.prog X.w) (kvs := prs) (PairArg.tuple a (ps.map Value.ref).toArray Ts us) (I.ok.hd hcalm) ⟨⟨o, n, ho, hc, hod, hdat⟩, hpi⟩ ⟨hul.symm, fun i key v e => ?_⟩ (by rw [hul]; exact hz2) fun h' tk hd' k => ?_
  · have hjl : i < prs.length := by
      have := (List.getElem?_eq_some_iff.mp (show us[i]? = some (key, v) from e)).1
      omega
    obtain ⟨b, u, e1, e2, e3⟩ := hkey i prs[i] (List.getElem?_eq_getElem hjl)
    have e4 := hu i prs[i] b u (List.getElem?_eq_getElem hjl) e1 e2
    rw [show us[i]? = some (key, v) from e] at e4
    have e5 : (key, v) = (u, prs[i].2) := Option.some.inj e4
    obtain ⟨rfl, rfl⟩ := Prod.mk.inj e5
    exact ⟨prs[i].1, List.getElem?_eq_getElem hjl, e3⟩
  · have hm : (s.heap.objs.size == sysModules) = false := beq_eq_false_iff_ne.mpr (Nat.ne_of_gt I.big)
    have hlen : (mergeK [] kvs).length ≤ sizeLine := by
      refine Nat.le_trans (length_mergeK kvs []) ?_
      rw [List.length_nil, Nat.zero_add, rel.length, hl]
      exact hz
    exact ⟨.ref s.heap.objs.size, upd H s.heap.objs.size (.dK (mergeK [] kvs)), I.laid (t' := tk) (fun b o e => k b o (by simp) e) (Nat.le_refl _) (show ObjOk X.prog X.w _ _ _ (.dK (mergeK [] kvs)) from ⟨hlen, hm, merged [] prs, KV.merge rel .nil, hd'⟩), rfl, q _ (I.hok.fresh (Nat.le_refl _))⟩
end
end L2
set_option maxHeartbeats 4000000
/-! K24Rules2: dicts with tuple keys: setdefault, made of a list of pairs, copied, compared. -/
namespace PySem.W
open PySem PySem.Calls PyProof.Rows PySem.Spec
section
variable {prog : Program} {w : World} {K : Type} [DecidableEq K] {knd : HeapKind prog w K} {A : Around} {E : Value → Shared → Prop} {s : Shared}
/-- what the turns of a comparison of two dicts meet -/
inductive HitsT {K : Type} [DecidableEq K] (A : Around) (s : Shared) (kb : List (K × Addr × Value)) : List (K × Addr × Value) → Bool → Prop
  | nil : HitsT A s kb [] true
  | miss {x : K × Addr × Value} {r : List (K × Addr × Value)} : atKey kb x.1 = none → HitsT A s kb (x :: r) false
  | hit {x : K × Addr × Value} {p : Addr × Value} {r : List (K × Addr × Value)} {e b : Bool} : atKey kb x.1 = some p → SeqAt.EqAt A s x.2.2 p.2 e → HitsT A s kb r b → HitsT A s kb (x :: r) (e && b)
theorem HitsT.inv {kb : List (K × Addr × Value)} {x : K × Addr × Value} {r : List (K × Addr × Value)} {b : Bool} (h : HitsT A s kb (x :: r) b) :
    (atKey kb x.1 = none ∧ b = false) ∨ ∃ p e b', atKey kb x.1 = some p ∧ SeqAt.EqAt A s x.2.2 p.2 e ∧ HitsT A s kb r b' ∧ b = (e && b') := by
  cases h with
  | miss hn => exact .inl ⟨hn, rfl⟩
  | hit hp he hr => exact .inr ⟨_, _, _, hp, he, hr, rfl⟩
theorem samePairsT {nm : String} {a b : Addr} {ka kb : List (K × Addr × Value)} {r : Bool} {Q : Bool → Shared → Prop} (hu : knd.room A) (ha : (a == sysModules) = false) (hb : (b == sysModules) = false)
    (da : s.heap.DictOfH knd a ka) (db : s.heap.DictOfH knd b kb) (hits : ka.length = kb.length → HitsT A s kb ka r) (h : Q (ka.length == kb.length && r) s) :
    wpAny (model prog w) A (Builtin.Dict.samePairs nm a b) Q E s := by
  obtain ⟨oa, es, ep, hoa, _, hda, hea, hisa, _⟩ := da
  obtain ⟨ob, fs, fp, hob, _, hdb, heb, hisb, hnb⟩ := db
  have hla : es.size = ka.length := size_of_entries hea
  have hlb : fs.size = kb.length := size_of_entries heb
  unfold Builtin.Dict.samePairs Builtin.Dict.showsAll
  rw [if_neg (show ¬ (a == sysModules) = true by rw [ha]; exact Bool.false_ne_true), if_neg (show ¬ (b == sysModules) = true by rw [hb]; exact Bool.false_ne_true)]
  refine wpAny_bind (wpAny_pure (wpAny_bind (wpAny_pure ?_)))
  refine wpAny_bind (wpAny_dictEntries hoa hda ?_)
  dsimp only
  refine wpAny_bind (wpAny_dictEntries hob hdb ?_)
  by_cases hsz : ka.length = kb.length
  case neg =>
    have hne : ¬ es.size = fs.size := by omega
    rw [if_pos (by simpa using hne)]
    have hbf : (ka.length == kb.length) = false := by simpa using hsz
    rw [hbf, Bool.false_and] at h
    exact wpAny_bind (wpAny_rule (wpAny_pure h))
  case pos =>
    have h' : Q r s := by simpa [hsz] using h
    have hits' := hits hsz
    rw [if_neg (by rw [hla, hlb, hsz]; simp)]
    refine wpAny_bind (wpAny_dictEpoch hoa hda ?_)
    refine wpAny_bind ?_
    rw [Std.Legacy.Range.forIn_eq_forIn_range']
    simp only [Std.Legacy.Range.size, Nat.sub_zero, Nat.add_sub_cancel, Nat.div_one]
    refine wpAny_forIn_list _
      (fun rest q s' => s' = s ∧ q = (none, ()) ∧ ∃ i, rest = List.range' i (es.size - i) ∧ i ≤ es.size ∧ HitsT A s kb (ka.drop i) r)
      _ ?_ ?_ _ _ ⟨rfl, rfl, 0, by simp, Nat.zero_le _, hits'⟩
    · rintro z rest q s' ⟨rfl, rfl, i, hr, hi, hpre⟩
      have hlt : i < es.size := by
        rcases Nat.lt_or_ge i es.size with h | h
        · exact h
        · rw [Nat.sub_eq_zero_of_le h] at hr; simp at hr
      obtain ⟨rfl, hrest⟩ : z = i ∧ rest = List.range' (i + 1) (es.size - (i + 1)) := by
        have e : es.size - i = (es.size - (i + 1)) + 1 := by omega
        rw [e, List.range'_succ] at hr
        injection hr with h1 h2
        exact ⟨h1, h2⟩
      have hlk : z < ka.length := by omega
      have hent : es[z] = entryOfKey knd ka[z] := by
        have e := entry_at hea z
        rw [Array.getElem?_eq_getElem hlt, List.getElem?_eq_getElem hlk] at e
        exact Option.some.inj e
      have hdrop : ka.drop z = ka[z] :: ka.drop (z + 1) := List.drop_eq_getElem_cons hlk
      have hisz := hisa ka[z] (List.getElem_mem hlk)
      rw [hdrop] at hpre
      refine wpAny_bind (wpAny_dictEntries hoa hda ?_)
      rw [Array.getElem?_eq_getElem hlt]
      show wpAny _ _ (holding [es[z].key, es[z].val] _ >>= _) _ _ _
      rw [hent]
      refine wpAny_bind (wpAny_holding (wpAny_bind ?_))
      refine wpAny_dictFind_heap hu hisz hob hdb heb hisb hnb (fun hno => ?_) fun j p hj => ?_
      · have hn : atKey kb ka[z].1 = none := atKey_none_of_get hno
        rcases hpre.inv with ⟨_, er⟩ | ⟨p, _, _, hp, _⟩
        · rw [er] at h'
          refine wpAny_pure ?_
          show wpAny _ _ (if (!false) = true then _ else _) _ _ _
          rw [if_pos (by decide)]
          exact wpAny_pure (wpAny_pure h')
        · rw [hn] at hp; exact nomatch hp
      · have hat : atKey kb ka[z].1 = some p := atKey_of_get hnb hj
        have hfj : fs[j]? = some (entryOfKey knd (ka[z].1, p)) := by rw [entry_at heb j, hj]; rfl
        refine wpAny_bind (wpAny_dictEntries hob hdb ?_)
        rw [hfj]
        rcases hpre.inv with ⟨hn, _⟩ | ⟨p', e, b', hp', he, hrr, er⟩
        · rw [hat] at hn; exact nomatch hn
        · rw [hat] at hp'
          cases hp'
          refine wpAny_holding (he prog w _ _ ?_)
          cases e with
          | false =>
            rw [er, Bool.false_and] at h'
            show wpAny _ _ (if (!false) = true then _ else _) _ _ _
            rw [if_pos (by decide)]
            exact wpAny_pure (wpAny_pure h')
          | true =>
            rw [Bool.true_and] at er
            rw [← er] at hrr
            show wpAny _ _ (if (!true) = true then _ else _) _ _ _
            rw [if_neg (by decide)]
            refine wpAny_bind (wpAny_dictEpoch hoa hda ?_)
            rw [if_neg (by simp)]
            exact wpAny_pure ⟨rfl, rfl, z + 1, hrest, hlt, hrr⟩
    · rintro q s' ⟨rfl, rfl, i, hr, hi, hpre⟩
      have hin : i = es.size := by
        rcases Nat.lt_or_ge i es.size with h | h
        · have e : es.size - i = (es.size - (i + 1)) + 1 := by omega
          rw [e, List.range'_succ] at hr; exact nomatch hr
        · exact Nat.le_antisymm hi h
      refine wpAny_pure ?_
      rw [hin, hla, List.drop_length] at hpre
      cases hpre
      exact h'
theorem eqDictT {a b : Addr} {ka kb : List (K × Addr × Value)} {r : Bool} {Q : Value → Shared → Prop} (hk : knd.room A.in1) (ha : (a == sysModules) = false) (hb : (b == sysModules) = false)
    (da : s.heap.DictOfH knd a ka) (db : s.heap.DictOfH knd b kb) (hu : A.units < cLine) (hits : ka.length = kb.length → HitsT A.in1 s kb ka r) (h : Q (.bool (ka.length == kb.length && r)) s) :
    wpAny (model prog w) A (compareOp .Eq (.ref a) (.ref b)) Q E s := by
  refine wpAny_richCompare_same_room (op := .Eq) da.typeIs db.typeIs PySem.F.slot_dict_eq (wpAny_call_entry PySem.F.slot_dict_eq da.typeIs PySem.F.entry_dict_eq ?_ (PySem.F.args_dict_eq_2 _ _)) hu
  show wpAny _ _ (Builtin.Dict.dictSlotArgs "__eq__" ⟨[.ref a, .ref b], []⟩ >>= _) _ _ s
  refine wpAny_bind ?_
  unfold Builtin.Dict.dictSlotArgs
  refine wpAny_bind (wpAny_notOrdered_dict da.typeIs ?_)
  show wpAny _ _ (pure (Value.ref a, Value.ref b)) _ _ s
  refine wpAny_pure ?_
  refine wpAny_bind (wpAny_isInstance (T := "dict") db.typeIs PySem.F.sub_dict_dict ?_)
  simp only [Bool.not_true, Bool.false_eq_true, if_false]
  refine wpAny_bind (wpAny_pure (wpAny_bind (wpAny_pure ?_)))
  refine wpAny_bind (samePairsT hk ha hb da db hits ?_)
  refine wpAny_pure ⟨_, rfl, ?_, ?_⟩
  · exact fun x => nomatch x
  · simpa using h
/-- dict(d) of a dict whose keys are tuples -/
theorem dict_copyT {o : Addr} {more : List (K × Addr × Value)} {Q : Value → Shared → Prop} (st : knd.Stays) (hu : knd.room A.in1.in1) (hoS : (o == sysModules) = false)
    (ho : s.heap.DictOfH knd o more) (hap : (more.map fun x => knd.hash x.1).Nodup) (hsz : more.length ≤ sizeLine)
    (h : ∀ h', h'.DictOfH knd s.heap.objs.size more → (∀ b ob, s.heap.get? b = some ob → h'.get? b = some ob) → Q (.ref s.heap.objs.size) { s with heap := h' }) :
    wpAny (model prog w) A (call (.type "dict") [.ref o]) Q E s := by
  refine callType_codes (Q₁ := fun obj s₁ => obj = .ref s.heap.objs.size ∧ s₁ = { s with heap := s.heap.push { cls := .type "dict", data := .dict #[] } }) PySem.F.kt_called_dict (PySem.F.kt_typeCall_dict_1 _) PySem.F.entry_dict_init (kt_code_dict_new _ ⟨rfl, rfl⟩) ?_
  rintro obj s₁ ⟨rfl, rfl⟩
  have hT : Shared.TypeIs { s with heap := s.heap.push { cls := .type "dict", data := .dict #[] } } (.ref s.heap.objs.size) "dict" := ⟨_, Heap.get?_push_size _ rfl, rfl⟩
  refine ⟨hT, PySem.F.args_dict_init_2 _ _, ?_⟩
  unfold Builtin.«dict.__init__»
  refine wpAny_bind ?_
  unfold Builtin.Dict.selfAndRest
  refine wpAny_bind (wpAny_notOrdered_dict hT ?_)
  show wpAny _ _ (pure (s.heap.objs.size, [Value.ref o])) _ _ _
  refine wpAny_pure ?_
  have hlt : o < s.heap.objs.size := ho.lt_size
  have kp : ∀ b ob, s.heap.get? b = some ob → (s.heap.push { cls := .type "dict", data := .dict #[] }).get? b = some ob := fun b ob e => Heap.get?_push_of_some _ e
  have ho1 : (s.heap.push { cls := .type "dict", data := .dict #[] }).DictOfH knd o more := by
    obtain ⟨oo, es, ep, h1, h2, h3, h4, h5, h6⟩ := ho
    exact ⟨oo, es, ep, kp _ _ h1, h2, h3, h4, fun x hx => st.stays (fun b o _ _ e _ => kp b o e) (h5 x hx), h6⟩
  have hno := ho.nodup
  have hty : ∀ x ∈ more, Shared.TypeIs { s with heap := s.heap.push { cls := .type "dict", data := .dict #[] } } (.ref x.2.1) "tuple" := by
    obtain ⟨oo, es, ep, h1, h2, h3, h4, h5, h6⟩ := ho1
    exact fun x hx => st.tuple (h5 x hx)
  refine PySem.updateFrom_dictH (A := A.in1) (R := wants (fun r s₂ => r = .none ∧ Q (.ref s.heap.objs.size) s₂) E) .none hu (Nat.ne_of_gt hlt) hoS (Heap.DictOfH.new s.heap) ho1 (.inr ⟨hty, hap⟩) (by simpa using hsz) fun h' hd' ho' hs' => ?_
  rw [storedAllH_nil_of_nodup more hno] at hd'
  exact ⟨rfl, h h' hd' fun b ob e => (hs'.2 b (Nat.ne_of_lt (Heap.lt_size e))).trans (kp _ _ e)⟩
end
end PySem.W

namespace L2
open PySem PySem.Spec PyProof.Rows
/-- the dict kvs with tuple keys is what the heap shows -/
theorem dt_new {P : Program} {w : World} {H : Hp} {h' : Heap} {a : Addr} {kvs : List (List Key × V)} {xs : List (List Key × Addr × Value)} (z : kvs.length ≤ sizeLine) (hd : (a == sysModules) = false) (rel : KT H kvs xs) (dd : h'.DictOfH (tupleKind (mixKind P w)) a xs) :
    ObjOk P w H h' a (.dT kvs) := by
  obtain ⟨o, es, ep, h1, h2, h3, h4, _, h5⟩ := dd
  exact ⟨z, hd, xs, rel, o, es, ep, h1, h2, h3, h4, h5⟩
theorem KT.keys {H : Hp} {kvs : List (List Key × V)} {xs : List (List Key × Addr × Value)} (r : KT H kvs xs) : kvs.map (·.1) = xs.map (·.1) := by
  induction r with
  | nil => rfl
  | cons h t ih => rw [List.map_cons, List.map_cons, ih, h.1]
/-- the hashes of the keys -/
def hashT (P : Program) (w : World) (k : List Key) : Int := tupleKeyHash (mixKind P w) k
section
variable {X : Cx}
/-- dict(d), d with tuple keys: a copy -/
theorem call_dictDT {k : Nat} (hr : Room k X.A) : CallR X (.type "dict") (fun xs H Q => ∃ (a : Addr) (kvs : List (List Key × V)), xs = [.ref a] ∧ H a = some (.dT kvs) ∧ (kvs.map fun p => hashT X.prog X.w p.1).Nodup ∧ ∀ p, H p = none → Q (.ref p) (upd H p (.dT kvs))) := by
  intro pins s σ H xs us Q I r q
  obtain ⟨a, kvs, ex, ha, hn, q⟩ := q
  subst ex
  obtain ⟨u, eu, rx⟩ := vals1 r
  subst eu
  cases rx
  obtain ⟨z, hd, xs, rel, dd⟩ := dt_of I.hok ha
  have hu := hr.units
  have hf := I.hok.fresh (Nat.le_refl s.heap.objs.size)
  have hap : (xs.map fun x => (tupleKind (mixKind X.prog X.w)).hash x.1).Nodup := by
    have e : (xs.map fun x => (tupleKind (mixKind X.prog X.w)).hash x.1) = kvs.map fun p => hashT X.prog X.w p.1 := by
      have e1 := congrArg (List.map (tupleKeyHash (mixKind X.prog X.w))) rel.keys
      rw [List.map_map, List.map_map] at e1
      exact e1.symm
    rw [e]
    exact hn
  refine PySem.W.dict_copyT tupleKind_stays (show X.A.in1.in1.units < cLine by show X.A.units + 1 + 1 < cLine; omega) hd dd hap (by rw [← Paired.length rel]; exact z) fun h' dd' k => ?_
  refine ⟨.ref s.heap.objs.size, upd H s.heap.objs.size (.dT kvs), I.laid (t' := s.toks) k (Nat.le_refl _) (dt_new z (beq_eq_false_iff_ne.mpr (Nat.ne_of_gt I.big)) (rel.keeps fun b ys e => ?_) dd'), rfl, q _ hf⟩
  rw [upd_ne (ne_of_none e hf)]
  exact e
/-- a == b, dicts with tuple keys whose values are ints -/
def eqDT (ks ls : List (List Key × V)) : Bool := ks.length == ls.length && ks.all fun p => decide (valV ls p.1 = some p.2)
def rEqDT : R2 := fun x y H Q => ∃ a b ks ls, x = .ref a ∧ y = .ref b ∧ H a = some (.dT ks) ∧ H b = some (.dT ls) ∧ (∀ p ∈ ks, ∃ i, p.2 = V.int i) ∧ (∀ p ∈ ls, ∃ i, p.2 = V.int i) ∧ Q (.bl (eqDT ks ls)) H
theorem hitsT_of {A : Around} {s : Shared} {H : Hp} {ls : List (List Key × V)} {ys : List (List Key × Addr × Value)} (rl : KT H ls ys) (hl : ∀ p ∈ ls, ∃ i, p.2 = V.int i) : ∀ {ks : List (List Key × V)} {xs : List (List Key × Addr × Value)}, KT H ks xs → (∀ p ∈ ks, ∃ i, p.2 = V.int i) →
    PySem.W.HitsT A s ys xs (ks.all fun p => decide (valV ls p.1 = some p.2))
  | _, _, .nil, _ => .nil
  | _, _, .cons (a := p) (b := x) (l₁ := ks) (l₂ := xs) h t, hk => by
    have ih := hitsT_of (A := A) (s := s) rl hl t fun q m => hk q (List.mem_cons_of_mem _ m)
    obtain ⟨i, hi⟩ := hk p List.mem_cons_self
    obtain ⟨h1, _, h2⟩ := h
    rw [List.all_cons]
    have rv := rl.val p.1
    cases c : valV ls p.1 with
    | none =>
      rw [c] at rv
      have hn : atKey ys x.1 = none := by
        rw [← h1]
        cases c2 : atKey ys p.1 with
        | none => rfl
        | some q => rw [c2] at rv; exact (show False from rv).elim
      have e : (decide ((none : Option V) = some p.2) && ks.all fun p => decide (valV ls p.1 = some p.2)) = false := by simp
      rw [e]
      exact .miss hn
    | some y =>
      rw [c] at rv
      have hy : ∃ j, y = V.int j := by
        have : ∃ q ∈ ls, q.2 = y := by
          unfold valV at c
          obtain ⟨q, hq, e⟩ := Option.map_eq_some_iff.mp c
          exact ⟨q, List.mem_of_find?_eq_some hq, e⟩
        obtain ⟨q, hq, e⟩ := this
        obtain ⟨j, hj⟩ := hl q hq
        exact ⟨j, by rw [← e, hj]⟩
      obtain ⟨j, rfl⟩ := hy
      cases c2 : atKey ys p.1 with
      | none => rw [c2] at rv; exact (show False from rv).elim
      | some q =>
        rw [c2] at rv
        obtain ⟨t2, e2⟩ : ∃ t, q.2 = Value.int j t := rv
        rw [hi] at h2
        obtain ⟨t1, e1⟩ : ∃ t, x.2.2 = Value.int i t := h2
        have hd : decide (some (V.int j) = some p.2) = (i == j) := by
          rw [hi]
          by_cases e : i = j
          · subst e; simp
          · have : ¬ j = i := fun z => e z.symm
            simp [e, this]
        rw [hd]
        refine .hit (p := q) (by rw [← h1]; exact c2) ?_ ih
        rw [e1, e2]
        exact SeqAt.EqAt.int_int i t1 j t2
theorem op_eqDT {k : Nat} (hr : Room k X.A) : OpR X (compareOp .Eq) rEqDT := by
  intro pins s σ H x y v u Q I rx ry h
  obtain ⟨a, b, ks, ls, rfl, rfl, ea, eb, hk, hl, q⟩ := h
  obtain rfl : v = Value.ref a := rx
  obtain rfl : u = Value.ref b := ry
  obtain ⟨_, ya, xs, ra, da⟩ := dt_of I.hok ea
  obtain ⟨_, yb, ys, rb, db⟩ := dt_of I.hok eb
  have hu := hr.units
  refine PySem.W.eqDictT (r := ks.all fun p => decide (valV ls p.1 = some p.2)) (show X.A.in1.units < cLine by show X.A.units + 1 < cLine; omega) ya yb da db hr.units0 (fun _ => hitsT_of rb hl ra hk) ?_
  have e : (xs.length == ys.length && ks.all fun p => decide (valV ls p.1 = some p.2)) = eqDT ks ls := by
    unfold eqDT
    rw [Paired.length ra, Paired.length rb]
  rw [e]
  exact ⟨.bl (eqDT ks ls), H, I, rfl, q⟩
/-- dict(l), l a list of pairs (a tuple, a value), no key twice -/
theorem call_dictLT (hcalm : X.calm = true) {k : Nat} (hr : Room k X.A) : CallR X (.type "dict") (fun xs H Q => ∃ (a : Addr) (ps : List Addr) (kvs : List (List Key × V)), xs = [.ref a] ∧ H a = some (.lst (ps.map V.ref)) ∧
    Paired (fun p kv => ∃ t, H p = some (.tup [.ref t, kv.2]) ∧ H t = some (.tup (kv.1.map kV))) ps kvs ∧ (kvs.map (·.1)).Nodup ∧ ∀ p, H p = none → Q (.ref p) (upd H p (.dT kvs))) := by
  intro pins s σ H xs us Q I r q
  obtain ⟨a, ps, kvs, ex, hq, hp, hnd, q⟩ := q
  subst ex
  obtain ⟨u, eu, rx⟩ := vals1 r
  subst eu
  cases rx
  obtain ⟨hz, its, n, rv, hoa⟩ := (show ObjOk X.prog X.w H s.heap a (.lst (ps.map V.ref)) from I.hok a _ hq)
  have ei := refs_at rv
  subst ei
  rw [List.length_map] at hz
  -- the pairs as the heap has them
  have hpairs : ∀ {ps : List Addr} {kvs : List (List Key × V)}, Paired (fun p kv => ∃ t, H p = some (.tup [.ref t, kv.2]) ∧ H t = some (.tup (kv.1.map kV))) ps kvs →
      ∃ xs : List (List Key × Addr × Value), KT H kvs xs ∧ xs.length = ps.length ∧ ∀ (j : Nat) (x : List Key × Addr × Value), xs[j]? = some x → ∃ b, ps[j]? = some b ∧ IsTup s.heap b #[.ref x.2.1, x.2.2] := by
    intro ps kvs h
    induction h with
    | nil => exact ⟨[], .nil, rfl, fun j x e => by simp at e⟩
    | @cons p kv ps kvs h t ih =>
      obtain ⟨xs, r, hl, hx⟩ := ih
      obtain ⟨t, ht, hk⟩ := h
      obtain ⟨_, its, rv, htup⟩ := (show ObjOk X.prog X.w H s.heap p (.tup [.ref t, kv.2]) from I.hok p _ ht)
      obtain ⟨u, y, ei, ru, ry⟩ := vals2 rv
      subst ei
      obtain rfl : u = Value.ref t := ru
      refine ⟨(kv.1, t, y) :: xs, .cons ⟨rfl, hk, ry⟩ r, by rw [List.length_cons, List.length_cons, hl], fun j x e => ?_⟩
      cases j with
      | zero =>
        have e' : (kv.1, t, y) = x := Option.some.inj e
        subst e'
        exact ⟨p, rfl, htup⟩
      | succ j =>
        obtain ⟨b, e1, e2⟩ := hx j x (by simpa using e)
        exact ⟨b, by simpa using e1, e2⟩
  obtain ⟨xs, rel, hl, hx⟩ := hpairs hp
  let us : List (Value × Value) := xs.map fun x => (.ref x.2.1, x.2.2)
  let Ts : Nat → Addr := fun j => ps.getD j 0
  have hul : us.length = xs.length := by simp [us]
  have hpi : PairItems s.heap (ps.map Value.ref).toArray Ts us := by
    refine ⟨by simp [us, hl], fun j k v hj => ?_⟩
    have hj' : (xs.map fun x => ((Value.ref x.2.1, x.2.2) : Value × Value))[j]? = some (k, v) := hj
    rw [List.getElem?_map] at hj'
    obtain ⟨x, e1, e2⟩ := Option.map_eq_some_iff.mp hj'
    obtain ⟨rfl, rfl⟩ := Prod.mk.inj e2
    obtain ⟨b, e3, ob, h1, h2, m, h3⟩ := hx j x e1
    have eT : Ts j = b := by simp [Ts, e3]
    rw [eT]
    exact ⟨by simp [e3], .inl ⟨ob, h1, h2, m, h3⟩⟩
  have hnx : (xs.map (·.1)).Nodup := by rw [← rel.keys]; exact hnd
  have his : ∀ x ∈ xs, (tupleKind (mixKind X.prog X.w)).is s.heap x.1 x.2.1 := by
    have all : ∀ {l : List (List Key × V)} {m : List (List Key × Addr × Value)}, KT H l m → ∀ x ∈ m, (tupleKind (mixKind X.prog X.w)).is s.heap x.1 x.2.1 := by
      intro l m h
      induction h with
      | nil => intro x hx; cases hx
      | @cons p q ps qs hq t ih =>
        intro x hx
        rcases List.mem_cons.mp hx with e | hx
        · subst e
          exact key_of I.hok (by rw [← hq.1]; exact hq.2.1)
        · exact ih x hx
    exact all rel
  have hu := hr.units
  have hf := I.hok.fresh (Nat.le_refl s.heap.objs.size)
  refine PySem.call_dict_pairsH (knd := tupleKind (mixKind X.prog X.w)) (ps := xs) (PairArg.list a (ps.map Value.ref).toArray Ts us) (I.ok.hd hcalm) (show X.A.in1.in1.units < cLine by show X.A.units + 1 + 1 < cLine; omega) ⟨⟨_, n, hoa, rfl, rfl, rfl⟩, hpi⟩ ⟨hul.symm, fun i key v e => ?_⟩ (fun h' hk x hx' => ?_) (by rw [hul, hl]; exact hz) fun h' tk hd' k => ?_
  · have hj' : (xs.map fun x => ((Value.ref x.2.1, x.2.2) : Value × Value))[i]? = some (key, v) := e
    rw [List.getElem?_map] at hj'
    obtain ⟨x, e1, e2⟩ := Option.map_eq_some_iff.mp hj'
    obtain ⟨rfl, rfl⟩ := Prod.mk.inj e2
    exact ⟨x.1, x.2.1, e1, rfl⟩
  · exact tupleKind_stays.stays (fun b o _ _ e _ => hk b o (Nat.ne_of_lt (Heap.lt_size e)) (by simp) e) (his x hx')
  · rw [storedAllH_nil_of_nodup xs hnx] at hd'
    have hlen : kvs.length ≤ sizeLine := by rw [Paired.length rel, hl]; exact hz
    refine ⟨.ref s.heap.objs.size, upd H s.heap.objs.size (.dT kvs), I.laid (t' := tk) (fun b o e => k b o (by simp) e) (Nat.le_refl _) (dt_new hlen (beq_eq_false_iff_ne.mpr (Nat.ne_of_gt I.big)) (rel.keeps fun b ys e => ?_) hd'), rfl, q _ hf⟩
    rw [upd_ne (ne_of_none e hf)]
    exact e
/-- d.setdefault((a, b), z), d with tuple keys -/
def tDSetT (td ty tx : TE) : TE := fun σ H Q => td σ H fun x H1 => ∃ a, x = .ref a ∧ IsD H1 a ∧ ty σ H1 fun y H2 => tx σ H2 fun z H3 => ∃ (kvs : List (List Key × V)) (k : List Key) (b : Addr), H3 a = some (.dT kvs) ∧ y = .ref b ∧ H3 b = some (.tup (k.map kV)) ∧ kvs.length < sizeLine ∧
  (∀ v, valV kvs k = some v → Q v H3) ∧ (valV kvs k = none → Q z (upd H3 a (.dT (putK kvs k z))))
theorem pe_dsetT {o e f : Expr} {td ty tx : TE} {apos cpos : Pos} {j : Nat} (hr : Room j X.A) (ho : PE X o td) (he : PE X e ty) (hf : PE X f tx) (m : M2 X o "setdefault" apos e f cpos) : PE X (.Call (.Attribute o "setdefault" apos) [e, f] [] cpos) (tDSetT td ty tx) := by
  refine ⟨fun pins s σ H Q I h => ?_⟩
  refine wpAny_Call_method m.base m.few m.line PySem.F.plainAttrs_dict PySem.F.slot_dict_setdefault PySem.F.type_dict_setdefault (thn (ho.run pins s σ H _ I h) fun u s1 ⟨x, H1, I1, rx, a, ex, d, q1⟩ => ?_)
  subst ex
  obtain rfl : u = Value.ref a := rx
  obtain ⟨t1, t2, _⟩ := isD_at I1 d
  refine ⟨t1, t2, ?_⟩
  rw [m.trees]
  refine Calls.callWith_builtin rfl (Calls.evalArgs_plain (Calls.spliced_cons (thn (he.run pins s1 σ H1 _ I1 q1) fun iv s2 ⟨y, H2, I2, ry, q2⟩ =>
    Calls.spliced_cons (thn (hf.run pins s2 σ H2 _ I2 q2) fun fv s3 ⟨z, H3, I3, rz, kvs, k, b, ea, ey, eb, hl, q3, q4⟩ => Calls.spliced_nil ?_))))
  subst ey
  obtain rfl : iv = Value.ref b := ry
  obtain ⟨zz, hd, xs, rel, dd⟩ := dt_of I3.hok ea
  have hu := hr.units
  refine call_setdefault_heap (tupleKind_room_in1 (by omega)) (key_of I3.hok eb) hd dd (fun p hp => ?_) (fun hn h' dd' hs => ?_) (by rw [← Paired.length rel]; exact zz)
  · have rv := rel.val k
    rw [hp] at rv
    cases c : valV kvs k with
    | none => rw [c] at rv; exact (show False from rv).elim
    | some v =>
      rw [c] at rv
      exact ⟨v, H3, I3.tok _, rv, q3 v c⟩
  · have rv := rel.val k
    rw [hn] at rv
    cases c : valV kvs k with
    | some v => rw [c] at rv; exact (show False from rv).elim
    | none =>
      have hl2 : (putK kvs k z).length ≤ sizeLine := by have := length_putK kvs k z; omega
      obtain ⟨q, es, ep, hq, h2, h3, h4, h6, h5⟩ := dd'
      refine ⟨z, _, d_write (t' := s3.toks + _) I3 (by rw [ea]; exact True.intro) hs ⟨q, hq⟩ (dt_new hl2 hd ((rel.put k eb rz).keeps fun c ys ec => ?_) ⟨q, es, ep, hq, h2, h3, h4, h6, h5⟩), rz, q4 c⟩
      rw [upd_ne (ne_of ec ea (fun z => nomatch z))]
      exact ec
end
end L2
set_option maxHeartbeats 4000000
/-! K24Rules3: enumerate of a tuple, sorted of a dict's tuple keys, set of a tuple, repr of data, promises under empty guards. -/
namespace PySem
open Sem (wp)
set_option maxHeartbeats 1000000 in
/-- enumerate(v) with one argument, v told by how its iterator begins -/
theorem meets_enumerate_newO {v : Value} {o : Obj} {H : Heap → Prop} (B : Begins v o H) :
    Meets (Builtin.«enumerate.__new__» ⟨[.type "enumerate", v], []⟩) (fun _ R s => H s.heap ∧
      R (.ok (.ret (.ref (s.heap.push o).objs.size))) { s with heap := (s.heap.push o).push { cls := .type "enumerate", data := .fields #[.none, .bool false, .ref s.heap.objs.size, rawInt 0, .none, .none] } }) :=
  .of_wp fun prog w A R s h => by
    obtain ⟨hp, g, d, tk, os⟩ := s; obtain ⟨h1, h⟩ := h
    have hsub := sub_enumerate
    have q1 : ∀ {A' : Around} {E : Value → Shared → Prop} {Q : Value → Shared → Prop}, Q (.ref hp.objs.size) ⟨hp.push o, g, d, tk, os⟩ → wpAny (model prog w) A' (pyIter v) Q E ⟨hp, g, d, tk, os⟩ :=
      fun q => B.iter prog w _ _ ⟨hp, g, d, tk, os⟩ _ h1 q
    wp_walk using q1
    refine wpAny_stack_any fun st => wpAny_pure ?_
    split
    · rename_i c _ _ _ _ _
      cases (c == Value.type "enumerate")
      · wp_walk using q1
        exact ⟨_, rfl, h⟩
      · wp_walk using q1
        exact ⟨_, rfl, h⟩
    · wp_walk using q1
      exact ⟨_, rfl, h⟩
section
variable {prog : Program} {w : World} {A : Around} {E : Value → Shared → Prop} {s : Shared}
theorem call_enumerate_one {v : Value} {o : Obj} {H : Heap → Prop} {Q : Value → Shared → Prop} (B : Begins v o H) (h1 : H s.heap)
    (h : ∀ h', IsEnum h' (s.heap.objs.size + 1) s.heap.objs.size 0 .none → h'.get? s.heap.objs.size = some o → h'.objs.size = s.heap.objs.size + 2 →
      (∀ b o, s.heap.get? b = some o → h'.get? b = some o) → Q (.ref (s.heap.objs.size + 1)) { s with heap := h' }) :
    wpAny (model prog w) A (call (.type "enumerate") [v]) Q E s := by
  refine callType_new F.called_enumerate (by decide) (F.typeCall_enumerate_1 _) (F.newCall_enumerate_1 _) (fun obj => F.args_object_init_2 obj _) F.entry_enumerate_new
    (meets_enumerate_newO B) ⟨h1, ?_⟩
  have hz : (s.heap.push o).objs.size = s.heap.objs.size + 1 := Heap.size_push ..
  show _ ∧ _
  rw [hz]
  have he : IsEnum ((s.heap.push o).push { cls := .type "enumerate", data := .fields #[.none, .bool false, .ref s.heap.objs.size, rawInt 0, .none, .none] }) (s.heap.objs.size + 1) s.heap.objs.size 0 .none := by
    have q := Heap.get?_push_size (s.heap.push o) (o := { cls := .type "enumerate", data := .fields #[.none, .bool false, .ref s.heap.objs.size, rawInt 0, .none, .none] }) rfl
    rw [hz] at q; exact q
  refine ⟨⟨_, he, rfl⟩, h _ he (Heap.get?_push_of_some _ (Heap.get?_push_size _ B.free)) (by rw [Heap.size_push, hz]) fun b o x => Heap.get?_push_of_some _ (Heap.get?_push_of_some _ x)⟩
/-- repr of a list of data, not empty -/
theorem call_repr_list {a : Addr} {xs : List PyData} {as : List Addr} {Q : Value → Shared → Prop} (r : Reads s.heap (.ref a) (.list xs) as) (hne : xs ≠ []) (hs : (PyData.list xs).showable = true) (hd : (PyData.list xs).hasDict = false) (hz : (PyData.list xs).shown.length ≤ sizeLine) (hg : A.guards = some []) (hu : A.units + (PyData.list xs).depth + 8 < cLine)
    (h : ∀ h' u tk, (∀ b o, s.heap.get? b = some o → h'.get? b = some o) → Q (.str (PyData.list xs).shown u) { s with heap := h', toks := tk }) :
    wpAny (model prog w) A (call (.builtin "repr") [.ref a]) Q E s := by
  cases r with
  | list h1 h2 h3 h4 =>
    rename_i o vs n as'
    have r0 : Reads s.heap (.ref a) (.list xs) (a :: as') := .list h1 h2 h3 h4
    have hz' : (listText (PyData.shownAll xs)).length ≤ sizeLine := by simpa only [PyData.shown] using hz
    have hd' : PyData.hasDictAll xs = false := by simpa only [PyData.hasDict] using hd
    obtain ⟨bs, hb, hk⟩ := ReprAllK.of_readsAll (prog := prog) (w := w) h4 (by simpa [PyData.showable] using hs) (fun hx => by rw [hd'] at hx; cases hx) (fun t ht => Nat.le_trans (listText_mem_le ht) hz')
    have hna : a ∉ bs := not_mem_of_deeper r0 (by simp only [PyData.depth]; omega) hb
    simp only [PyData.depth] at hu
    simp only [PyData.shown] at h
    obtain ⟨l⟩ := vs
    cases l with
    | nil =>
      have h4' : ReadsAll s.heap [] xs as' := h4
      cases h4'
      exact absurd rfl hne
    | cons x l =>
      have hTy : s.TypeIs (.ref a) "list" := ⟨_, h1, h2⟩
      refine Calls.call_function_entry F.kind_repr F.plain_repr F.entry_repr (F.args_repr1 _) ?_
      unfold Builtin.«repr»
      refine wpAny_bind (m := oneArg "repr" _) (wpAny_pure ?_)
      refine wpAny_bind (wpAny_cRoomFor (by show A.units + 1 < cLine; omega) ?_)
      refine wpAny_bind (wpAny_specialOf (name := Str.ofString "__repr__") hTy F.slot_list_repr.lookup ?_)
      refine wpAny_bind (m := callSpecialIfBound? (.ref a) (Str.ofString "__repr__")) (wpAny_callSpecialIfBound?_slot (name := Str.ofString "__repr__") hTy F.slot_list_repr
        (call_list_reprK h1 h2 h3 hna (by simpa using hk.length_eq) (fun i y e => hk.item i y (by simpa using e)) (by show A.guards = some []; exact hg) (fun b _ => Clear.nil b) (by show A.units + 1 + (_ + 1) < cLine; omega) (fun _ _ e => e) (fun h' u tk hk' => ?_) hz'))
      exact wpAny_bind (wpAny_isInstance (T := "str") (b := true) rfl isSubtype_str_str (wpAny_pure ⟨_, rfl, h h' u tk hk'⟩))
end
end PySem

namespace L2
open PySem PySem.Spec PyProof.Rows
/-! ### enumerate of a tuple -/
/-- the tuple at a as it stands at each turn, each item in a new pair -/
def IteT (K : PySem.W.Frag) (a : Addr) : It :=
  ⟨fun i H => ∃ (xs : List V) (x : V), SqT K H a xs ∧ xs[i]? = some x, fun i H v H' => ∃ T x, v = .ref T ∧ H T = none ∧ H' = upd H T (.tup [.int (i : Nat), x]) ∧ ∀ xs, SqT K H a xs → xs[i]? = some x, fun i H => ∃ xs : List V, SqT K H a xs ∧ xs.length = i⟩
theorem turn_enumT {P : Program} {w : World} {K : PySem.W.Frag} {elts : List Expr} {kk : Nat} {tpos : Pos} (a e it : Addr) :
    Turn P w K (.Tuple elts kk tpos) (IteT K a) [e, it] e (fun i h => (∃ old, IsEnum h e it ((i : Nat) : Int) old) ∧ h.IsTupleIter it a i ∧ e ≠ it ∧ a ≠ it) where
  mem := by simp
  obj := fun i h st b hb => by
    obtain ⟨⟨old, he⟩, ⟨o, ho, hc, hd⟩, _⟩ := st
    have e' : b = e ∨ b = it := by simpa using hb
    rcases e' with z | z
    · rw [z]; exact ⟨_, he, fun v q => nomatch q⟩
    · rw [z]; exact ⟨o, ho, fun v q => by rw [hd] at q; cases q⟩
  keep := fun i h h' st k => let ⟨⟨old, he⟩, hi, hne⟩ := st; ⟨⟨old, k e (by simp) _ he⟩, hi.at fun o q => k it (by simp) o q, hne⟩
  item := by
    intro X hP hw hK hc i pins s σ H E I hf st hg
    subst hP hw hK
    obtain ⟨⟨old, he⟩, hit, hne, hai⟩ := st
    obtain ⟨xs, x, hq, hx⟩ := hg
    obtain ⟨its, rv, p, hz⟩ := I.tuple hq
    obtain ⟨u, hu, ru⟩ := rv.get hx
    have hel : e < s.heap.objs.size := Heap.lt_size he
    have hil : it < s.heap.objs.size := by obtain ⟨_, q, _⟩ := hit; exact Heap.lt_size q
    have hlt : i < its.toArray.size := by
      have := (List.getElem?_eq_some_iff.mp hu).1
      simpa using this
    have hei : e ∉ [it, a] := by
      intro hm
      rcases List.mem_cons.mp hm with z | z
      · exact hne z
      · have z' : e = a := by simpa using z
        obtain ⟨oo, ho, hcl, _⟩ := p
        rw [← z', he] at ho
        cases ho
        exact absurd (Value.type.inj hcl) (by decide)
    have Dr := (Draws.tuple (prog := X.prog) (w := X.w) (A := X.A.in1) (I.ok.hd hc) it a hai its.toArray)
    refine wpAny_pyNext_enum_itemD Dr he ⟨hit, p⟩ hlt hne hei fun y h' tk hy ho hst hT hsz hk => ?_
    have ey : y = u := by
      have : its.toArray[i]? = some y := hy
      have h2 : its.toArray[i]? = some u := by simpa using hu
      rw [h2] at this
      exact (Option.some.inj this).symm
    subst ey
    refine ⟨_, rfl, wpAny_letOwnedTupleGo_enum (s := { s with heap := h', toks := tk + 1 }) ho fun h'' he' sb => ?_⟩
    have hT2 : h''.get? s.heap.objs.size = some { cls := .type "tuple", data := .seq #[.int i tk, y] } := (sb.2 _ (Nat.ne_of_gt hel)).trans hT
    have new : ObjOk X.prog X.w (upd H s.heap.objs.size (.tup [.int (i : Nat), x])) h'' s.heap.objs.size (.tup [.int (i : Nat), x]) :=
      ⟨by show 2 ≤ sizeLine; decide, [.int i tk, y], .cons ⟨_, rfl⟩ (.cons ru .nil), ⟨_, hT2, rfl, _, rfl⟩⟩
    have I1 : Inv X pins σ (upd H s.heap.objs.size (.tup [.int (i : Nat), x])) { s with heap := h'', toks := tk + 1 } :=
      I.turnedNew (ch := [e, it]) (fun b ob hb q => (sb.2 b (fun z => hb (by simp [z]))).trans (hk b ob (fun z => hb (by simp [z])) (fun z => hb (by simp [z])) q)) hf (Nat.le_refl _) new
    refine ⟨.ref s.heap.objs.size, _, I1, rfl, ⟨_, x, rfl, I.hok.fresh (Nat.le_refl _), rfl, fun ys hy => by rw [I.tuple_inj hy hq]; exact hx⟩, ⟨⟨y, ?_⟩, hst.1.at fun o q => (sb.2 it (Ne.symm hne)).trans q, hne, hai⟩, fun b hb => ?_⟩
    · have e1 : ((i + 1 : Nat) : Int) = (i : Int) + 1 := by omega
      rw [e1]; exact he'
    · have hb' : b < s.heap.objs.size := by
        have e' : b = e ∨ b = it := by simpa using hb
        rcases e' with z | z
        · rw [z]; exact hel
        · rw [z]; exact hil
      rw [upd_ne (Nat.ne_of_lt hb')]
      exact (hf b hb).1
  done := by
    intro X hP hw hK hc i pins s σ H E I hf st hg
    subst hP hw hK
    obtain ⟨⟨old, he⟩, hit, hne, hai⟩ := st
    obtain ⟨xs, hq, hx⟩ := hg
    obtain ⟨its, rv, p, hz⟩ := I.tuple hq
    obtain ⟨f0, f1, f2, f3, f4, f5⟩ := hf it (by simp)
    have hl := rv.length
    have Dr := (Draws.tuple (prog := X.prog) (w := X.w) (A := X.A.in1) (I.ok.hd hc) it a hai its.toArray)
    have hi : its.toArray.size = i := by simp; omega
    rw [hi] at Dr
    exact wpAny_pyNext_enum_endD Dr he ⟨hit, p⟩ fun h' eb => ⟨rfl, I.turned (t' := s.toks) (fun b o hb q => eb b o hb q) f0 f1 f3 f4 f5⟩
  self := fun A i s Q E st h => let ⟨⟨_, he⟩, _⟩ := st; wpAny_pyIter_enum he h
def iEnumT (K : PySem.W.Frag) (ta : TA) : TI := fun σ H R => ta σ H fun vs H1 => ∃ a xs, vs = [.ref a] ∧ SqT K H1 a xs ∧ R (IteT K a) H1
theorem pi_enumT {X : Cx} {e : Expr} {ta : TA} {p pos tpos : Pos} {elts : List Expr} {kk : Nat} (hg : Gl X "enumerate") (hm : X.mg "enumerate" = none) (ha : PA X [e] ta) (hs : starEach [e] X.env = [(false, eval e X.env)] := by rfl) :
    PI X (.Tuple elts kk tpos) (.Call (.Name "enumerate" p) [e] [] pos) (iEnumT X.K ta) := by
  refine ⟨fun pins s σ H R I h => ?_⟩
  refine Call_ (ld_blt I hg hm boot_enumerate (PyProof.Rows.callWith_type1 (thn (ha.run pos pins s σ H _ I h) fun us s1 ⟨vs, H1, I1, r1, q1⟩ => ?_) hs rfl))
  obtain ⟨a, xs, ex, hq, q⟩ := q1
  subst ex
  cases r1 with
  | cons r rr =>
    cases rr
    cases r
    obtain ⟨its, rv, p', hz⟩ := I1.tuple hq
    refine call_enumerate_one (begins_tuple a its.toArray) p' fun h' he hit hsz hk => wpAny_pyIter_enum he ?_
    have I2 : Inv X pins σ H1 { s1 with heap := h' } := I1.kept (t' := s1.toks) hk
    have hal : a < s1.heap.objs.size := p'.lt
    refine ⟨s1.heap.objs.size + 1, [s1.heap.objs.size + 1, s1.heap.objs.size], _, _, H1, rfl, I2, turn_enumT a (s1.heap.objs.size + 1) s1.heap.objs.size, ⟨⟨.none, he⟩, ⟨_, hit, rfl, rfl⟩, Nat.succ_ne_self _, Nat.ne_of_lt hal⟩, fun b hb => ?_, q⟩
    have e' : b = s1.heap.objs.size + 1 ∨ b = s1.heap.objs.size := by simpa using hb
    have hle : s1.heap.objs.size ≤ b := by
      rcases e' with z | z
      · rw [z]; exact Nat.le_add_right _ _
      · rw [z]; exact Nat.le_refl _
    exact I1.fpOk hle (I1.hok.fresh hle)
/-- for j, x in enumerate(t), t a tuple that stands: the pair is new each turn -/
theorem for_enumT {K : PySem.W.Frag} {a : Addr} {xs : List V} {g : TG} {tb : TS} {D : Ends} {σ : L2.St} {H : Hp} (Pv : Nat → L2.St → Hp → Prop) (h0 : Pv 0 σ H) (hl : ∀ i σ H, i ≤ xs.length → Pv i σ H → SqT K H a xs)
    (hs : ∀ i x σ H T, xs[i]? = some x → Pv i σ H → H T = none → g (.ref T) σ (upd H T (.tup [.int (i : Nat), x])) fun σ2 H2 => tb { D with nx := Pv (i + 1), ct := Pv (i + 1), bk := D.nx } σ2 H2) (hd : ∀ σ H, Pv xs.length σ H → D.nx σ H) :
    ∃ W : Nat → Nat → L2.St → Hp → Prop, (∃ m, W 0 m σ H) ∧ ∀ i m σ H, W i m σ H → ((IteT K a).stop i H ∧ D.nx σ H) ∨ ((IteT K a).go i H ∧ ∃ Nx : L2.St → Hp → Prop, (∀ σ' H', Nx σ' H' → ∃ m', m' < m ∧ W (i + 1) m' σ' H') ∧
      ∀ x H', (IteT K a).yld i H x H' → g x σ H' fun σ2 H2 => tb { D with nx := Nx, ct := Nx, bk := D.nx } σ2 H2) := by
  refine ⟨fun i m σ H => m = xs.length - i ∧ i ≤ xs.length ∧ Pv i σ H, ⟨xs.length, by simp, Nat.zero_le _, h0⟩, ?_⟩
  rintro i m σ H ⟨rfl, hi, p⟩
  have q := hl i σ H hi p
  by_cases hlt : i < xs.length
  · refine .inr ⟨⟨xs, xs[i], q, by simp [hlt]⟩, Pv (i + 1), fun σ' H' p' => ⟨xs.length - (i + 1), by omega, rfl, hlt, p'⟩, fun x H' y => ?_⟩
    obtain ⟨T, z, rfl, hT, rfl, hz⟩ := y
    exact hs i z σ H T (hz xs q) p hT
  · have e : i = xs.length := by omega
    subst e
    exact .inl ⟨⟨xs, q, rfl⟩, hd σ H p⟩

/-! ### sorted(d), d a dict whose keys are pairs of ints -/
theorem call_sortedDT {X : Cx} (hcalm : X.calm = true) : CallR X (.builtin "sorted") (fun xs H Q => ∃ (a : Addr) (kvs : List (List Key × V)), xs = [.ref a] ∧ H a = some (.dT kvs) ∧ (∀ p ∈ kvs, ∃ i j : Int, p.1 = [Sum.inl i, Sum.inl j]) ∧
    ∀ (p : Addr) (bs ys : List Addr), H p = none → IsKeys H kvs bs → ys.Perm bs → Q (.ref p) (upd H p (.lst (ys.map V.ref)))) := by
  intro pins s σ H xs us Q I r q
  obtain ⟨d, kvs, rfl, hd, hk2, q⟩ := q
  obtain ⟨u, rfl, rx⟩ := r.one
  cases rx
  obtain ⟨z, hsm, ks, pr, o, es, ep, ho, hx, hdt, he, hn⟩ := (show ObjOk X.prog X.w H s.heap d (.dT kvs) from I.hok d _ hd)
  have l1 : es.size = ks.length := size_of_entries he
  have l2 : kvs.length = ks.length := Paired.length pr
  refine Calls.call_function_entry PyProof.Rows.kind_sorted PyProof.Rows.plain_sorted PyProof.Rows.entry_sorted (PyProof.Rows.args_sorted1 _) ?_
  unfold Builtin.«sorted»
  refine wpAny_bind (m := checkCount "sorted" 1 1 _) (wpAny_pure ?_)
  refine wpAny_bind (PySem.W.kdu_collect (A := X.A.in1) (kdl_raw hsm hx hdt) (I.ok.hd hcalm) ho (by omega) fun h' tk acc kp it => ?_)
  have ea : acc.toList = ks.map fun x => Value.ref x.2.1 := by
    have hl : acc.toList.length = ks.length := by rw [Array.length_toList, it.1]; exact l1
    apply List.ext_getElem?
    intro j
    rw [List.getElem?_map]
    cases hj : acc.toList[j]? with
    | none =>
      have h1 := List.getElem?_eq_none_iff.mp hj
      rw [List.getElem?_eq_none (by omega)]
      all_goals rfl
    | some v =>
      obtain ⟨en, hen, hv⟩ := it.2 j v (by rw [← Array.getElem?_toList]; exact hj)
      have qe := entry_at he j
      rw [hen] at qe
      cases hb : ks[j]? with
      | none =>
        rw [hb] at qe
        exact nomatch (show some en = none from qe)
      | some b =>
        rw [hb] at qe
        have e2 : en = entryOfKey (tupleKind (mixKind X.prog X.w)) b := Option.some.inj qe
        rw [hv, e2]
        all_goals rfl
  have eb : acc.toList = (ks.map fun x => x.2.1).map Value.ref := by rw [ea, List.map_map]; all_goals rfl
  have I1 : Inv X pins σ H { s with heap := h', toks := tk } := I.kept kp
  have hlen : acc.toList.length ≤ sizeLine := by rw [eb, List.length_map, List.length_map]; omega
  refine wpAny_bind (wpAny_newList ?_ hlen)
  have hoL : (h'.push (seqObj "list" acc.toList.toArray 0)).get? h'.objs.size = some (seqObj "list" acc.toList.toArray 0) := Heap.get?_push_size _ rfl
  show wpAny _ _ _ _ _ { s with heap := h'.push (seqObj "list" acc.toList.toArray 0), toks := tk }
  -- the items are pairs of ints
  have hpair : ∀ v ∈ acc.toList, ∃ x y, Srt.IsPair h' v x y := by
    have all : ∀ {l : List (List Key × V)} {m : List (List Key × Addr × Value)}, KT H l m → (∀ p ∈ l, ∃ i j : Int, p.1 = [Sum.inl i, Sum.inl j]) → ∀ v ∈ m.map (fun x => Value.ref x.2.1), ∃ x y, Srt.IsPair h' v x y := by
      intro l m h
      induction h with
      | nil => intro _ v hv; cases hv
      | @cons p q ps qs hq t ih =>
        intro hk v hv
        rcases List.mem_cons.mp hv with e | hv
        · subst e
          obtain ⟨i, j, e1⟩ := hk p List.mem_cons_self
          have ht := hq.2.1
          rw [e1] at ht
          obtain ⟨_, its2, r2, ob, hob, hc, n, hd2⟩ := I1.hok _ _ ht
          obtain ⟨u1, u2, rfl, ri, rj⟩ := vals2 r2
          obtain ⟨t1, rfl⟩ := ri
          obtain ⟨t2, rfl⟩ := rj
          exact ⟨i, j, q.2.1, ob, t1, t2, n, rfl, hob, hc, hd2⟩
        · exact ih (fun p hp => hk p (List.mem_cons_of_mem _ hp)) v hv
    rw [ea]
    exact all pr hk2
  refine wpAny_bind (wpAny_holding (wpAny_call_entry PyProof.Rows.slot_list_sort ⟨_, hoL, rfl⟩ PyProof.Rows.entry_list_sort
    (Srt.list_sort_any (s := { s with heap := h'.push (seqObj "list" acc.toList.toArray 0), toks := tk }) hoL hlen (fun h2 => ?_) fun out hp => ⟨_, rfl, ?_⟩) (PyProof.Rows.args_list_sort _)))
  · refine Srt.pairs_sortable (s := { s with heap := h'.push (seqObj "list" acc.toList.toArray 0), toks := tk }) (by omega) (fun v hm => ?_) fun o e => ?_
    · obtain ⟨x, y, p⟩ := hpair v hm
      exact ⟨x, y, p.keeps fun b o e _ => Heap.get?_push_of_some _ e⟩
    · have e' : some o = some (seqObj "list" acc.toList.toArray 0) := e.symm.trans hoL
      cases e'
      intro c
      exact absurd (Value.type.inj c) (by decide)
  · obtain ⟨e', he'⟩ := PyProof.Rows.sortedHeap_at (vs := acc.toList) (out := out.toArray) hoL
    have hrefs : ∃ ys : List Addr, out = ys.map Value.ref ∧ ys.Perm (ks.map fun x => x.2.1) := by
      rw [eb] at hp
      refine ⟨out.map fun v => (match v with | .ref a => a | _ => 0), ?_, ?_⟩
      · rw [List.map_map]
        have : ∀ v ∈ out, (Value.ref ∘ fun v => (match v with | .ref a => a | _ => 0)) v = v := fun v hv => by
          obtain ⟨b, _, e⟩ := List.mem_map.mp (hp.mem_iff.mp hv)
          subst e
          rfl
        conv => lhs; rw [← List.map_id out]
        exact (List.map_congr_left this).symm
      · have := hp.map fun v : Value => (match v with | .ref a => a | _ => 0)
        rw [List.map_map] at this
        have e : (List.map ((fun v : Value => (match v with | .ref a => a | _ => 0)) ∘ Value.ref) (ks.map fun x => x.2.1)) = ks.map fun x => x.2.1 := by
          conv => rhs; rw [← List.map_id (ks.map fun x => x.2.1)]
          exact List.map_congr_left fun _ _ => rfl
        rw [e] at this
        exact this
    obtain ⟨ys, eo, hys⟩ := hrefs
    have hlo : (ys.map V.ref).length ≤ sizeLine := by
      rw [List.length_map, hys.length_eq, List.length_map]
      omega
    refine wpAny_pure ⟨_, rfl, .ref h'.objs.size, upd H h'.objs.size (.lst (ys.map V.ref)), I1.laid (t' := tk) (fun b u e => ?_) (Nat.le_refl _)
      (show ObjOk X.prog X.w _ _ _ (.lst (ys.map V.ref)) from ⟨hlo, out, e', by rw [eo]; exact vals_refs _, he'⟩), rfl, q _ _ ys (I1.hok.fresh (Nat.le_refl _)) (isKeys_of pr) hys⟩
    have hb : b < h'.objs.size := Heap.lt_size e
    rw [PyProof.Rows.sortedHeap_old (Nat.ne_of_lt hb) (by rw [size_push']; exact Nat.lt_succ_of_lt hb)]
    exact Heap.get?_push_of_some _ e

/-! ### set(t), t a tuple of ints -/
theorem call_setT {X : Cx} (hcalm : X.calm = true) : CallR X (.type "set") (fun xs H Q => ∃ (a : Addr) (ns : List Int), xs = [.ref a] ∧ SqT X.K H a (ns.map V.int) ∧ ns.length ≤ 60 ∧ ∀ p c, H p = none → c ≤ ns.length → Q (.ref p) (upd H p (SetO X.w p (fun j => decide (j ∈ ns)) c))) := by
  intro pins s σ H xs us Q I r q
  obtain ⟨a, ns, rfl, hq, hl, q⟩ := q
  obtain ⟨u, rfl, rx⟩ := r.one
  cases rx
  obtain ⟨its, rv, pt, hz⟩ := I.tuple hq
  refine call_set_tupI ns (I.ok.hd hcalm) (show s.heap.IsTuple a its.toArray from pt) (ints_of_vals rv) (by unfold scanBound; omega) fun h' tk c R1 hcn k => ?_
  exact ⟨.ref s.heap.objs.size, upd H s.heap.objs.size (SetO X.w s.heap.objs.size (fun j => decide (j ∈ ns)) c), I.laid (t' := tk) k (Nat.le_refl _) (setO_new R1), rfl, q _ _ (I.hok.fresh (Nat.le_refl _)) hcn⟩

/-! ### repr of a list of data -/
theorem call_reprL {X : Cx} {k : Nat} (hr : Room k X.A) (hg : X.A.guards = some []) : CallR X (.builtin "repr") (fun xs H Q => ∃ (v : V) (ds : List PyData), xs = [v] ∧ Dp X.K H v (.list ds) ∧ ds ≠ [] ∧ (PyData.list ds).showable = true ∧ (PyData.list ds).hasDict = false ∧ (PyData.list ds).shown.length ≤ sizeLine ∧ (PyData.list ds).depth ≤ 8 ∧
    Q (.str (PyData.list ds).shown) H) := by
  intro pins s σ H xs us Q I r q
  obtain ⟨v, ds, rfl, hdp, hne, hs, hd, hz, hdep, q⟩ := q
  obtain ⟨u, rfl, rx⟩ := r.one
  obtain ⟨as, hrd⟩ := Dp.reads I (.list ds) v u hdp rx
  cases hdp with
  | lst hq hall =>
    cases rx
    have hu := hr.units
    exact call_repr_list hrd hne hs hd hz hg (by omega) fun h' u tk k => ⟨.str _, H, I.kept (t' := tk) k, ⟨_, rfl⟩, q⟩

/-! ### promises under empty guards -/
/-- a def's promise where nothing is under way around it -/
structure FnOkG (P : Program) (w : World) (K : PySem.W.Frag) (mg : Str → Option Value) (base : Heap) (k : Nat) (f : Addr) (fd : FuncData) (ps : List Str) (sp : Sp) : Prop where
  len : ∀ vs H Q E, sp vs H Q E → vs.length = ps.length
  run : ∀ (A : Around) (outer : List Env) (s : Shared) (H : Hp) (args : Args) (us : List Value) (vs : List V) (Q : VK) (E : XK), A.guards = some [] → Room k A → Env0 P w K mg base A outer s H → BindsTo s fd args (ps.zip us) → Vals vs us → sp vs H Q E →
    codeAny (model P w) A (.call (.ref f) args) (CR CX0 outer P w H s Q E) s
theorem fnG_of {P : Program} {w : World} {K : PySem.W.Frag} {mg : Str → Option Value} {base : Heap} {k : Nat} {f : Addr} {x qual : Str} {params : Arguments} {body : List Stmt} {scope : Scope} {dvs : List V} {kws : List (Str × V)} {fd : FuncData} {N ps : List Str} {sp : Sp}
    (F : FunD K x qual params body scope dvs kws f fd) (S : FnScope N ps scope) (len : ∀ vs H Q E, sp vs H Q E → vs.length = ps.length)
    (hbody : ∀ (cdv : Value) (A : Around) (outer : List Env) (s : Shared) (H : Hp) (vs : List V) (Q : VK) (E : XK), (A.deeper (envOfC qual scope s.heap.objs.size f cdv)).guards = some [] → Room k (A.deeper (envOfC qual scope s.heap.objs.size f cdv)) → sp vs H Q E →
      ∃ t, PSs (cxOf CX0 P w K mg base N qual scope f cdv A outer s H E).nox body t ∧ t { nx := fun _ H' => Q .non H', rt := Q } (start N vs) H) : FnOkG P w K mg base (k + 1) f fd ps sp := by
  refine ⟨len, fun A outer s H args us vs Q E hg hr e0 hb r hsp => ?_⟩
  obtain ⟨oc, od, dV, kV, doc, pm, an, cdv, ct, osl, rfl, lk, hcd, _, _⟩ := F.ex
  have hl := len _ _ _ _ hsp
  have KX : K.In s.heap := e0.mod.kin.keeps fun b o e => (e0.bs b o e).1
  have lim : s.heap.NoLimit := e0.mod.nolimit.keeps fun b o e => (e0.bs b o e).1
  have hkind : ∀ y ∈ ps.zip us, scope.names.lookup y.1 = some .local ∨ (scope.names.lookup y.1 = some .cell ∧ ((cellsFrom (s.heap.objs.size + 1) scope.names []).lookup y.1).isSome = true) := fun ⟨n, v⟩ hy => by
    rcases S.par n (List.of_mem_zip hy).1 with q | q
    · exact .inl q
    · exact .inr ⟨q, PySem.W.cellsFrom_some _ _ _ (.inl q)⟩
  refine codeAny_call_function hr.depth (KX _ _ lk) rfl S.co S.gen rfl (PySem.W.codeRec_of KX hcd) (hb _ _ _ _ ?_)
  refine wpAny_newFunctionEnv_cells S.kind hkind fun env he s1 x => ?_
  subst he
  refine ⟨lim.keeps x.toInCall.keep, codeAny_func ?_⟩
  obtain ⟨t, ht0, hq⟩ := hbody cdv A outer s H vs Q E hg (hr.deeper _) hsp
  have ht := ht0.nox
  have I : Inv (cxOf CX0 P w K mg base N qual scope f cdv A outer s H E) [] (start N vs) H s1 := inv_start S hr.hd e0 hl r x
  refine wpAny_mono (ht.run [] s1 (start N vs) H _ I hq) (fun fl s' hs => ?_) fun e s' hs => hs
  have fin : ∀ {σ' : St} {H' : Hp} {v : V} {u : Value}, Inv (cxOf CX0 P w K mg base N qual scope f cdv A outer s H E) [] σ' H' s' → RelV v u → Q v H' → CE outer P w H s Q u s' :=
    fun {σ' H' v u} J rv q => ⟨v, H', J.os, J.bare, J.base, J.hok, rv, q⟩
  cases fl with
  | ret u =>
    obtain ⟨v, σ', H', J, rv, q⟩ := hs
    exact fin J rv q
  | next =>
    obtain ⟨σ', H', J, q⟩ := hs
    exact fin (v := V.non) (u := Value.none) J rfl q
  | brk =>
    obtain ⟨_, _, _, q⟩ := hs
    exact False.elim q
  | cont =>
    obtain ⟨_, _, _, q⟩ := hs
    exact False.elim q
section
variable {X : Cx} {k : Nat} {f : Addr} {fd : FuncData} {ps : List Str} {sp : Sp} {x : Str} {p pos : Pos} {e : Expr} {es : List Expr} {t : TA}
/-- f(..), f's promise one under empty guards -/
theorem pe_callG0 (F : FnOkG X.prog X.w X.K X.mg X.base k f fd ps sp) (hG : X.A.guards = some []) (hr : Room k X.A) (hg : Gl X x) (hm : X.mg x = some (.ref f)) (hk : PySem.W.keepIn X.K (.ref f) = true) (hb : Binds X.K fd ps [])
    (ha : PA X (e :: es) t) (hdb : (x == ("__debug__" : Str)) = false := by decide) (he : starEach (e :: es) X.env = (false, eval e X.env) :: starEach es X.env := by rfl) (hpl : (backTo pos (starEach es X.env)).any (·.1) = false := by rfl) :
    PE X (.Call (.Name x p) (e :: es) [] pos) (tCall sp [] E0 t) := by
  refine ⟨fun pins s σ H Q I h => ?_⟩
  refine wpAny_Call_Name_kw (ld_glob I hg hm ?_ hdb)
  refine PySem.W.callWith_K (h₀ := X.base) I.ok.mod.kin hk (thn (ha.run pos pins s σ H _ I h) fun us s1 ⟨vs, H1, I1, r, q⟩ => ⟨I1.kIn, ?_⟩) he hpl
  have q' : sp vs H1 Q E0 := by
    have q0 : sp (vs ++ []) H1 Q E0 := q
    rw [List.append_nil] at q0
    exact q0
  have hl : (us ++ []).length = ps.length := by rw [List.append_nil, ← r.length]; exact F.len _ _ _ _ q'
  have hb2 := hb s1 us I1.kIn hl
  rw [List.append_nil] at hb2
  refine wpAny_call (codeAny_mono (F.run X.A X.stack s1 H1 ⟨us, []⟩ us vs Q E0 hG hr I1.env0 hb2 r q') fun r s' hq => ?_)
  cases r with
  | error e => exact (show False from hq).elim
  | ok fl =>
    cases fl with
    | ret u => exact I1.after hq
    | next => exact False.elim hq
    | brk => exact False.elim hq
    | cont => exact False.elim hq
end
end L2
set_option maxHeartbeats 4000000
/-! K24Text: where the defs of the text stand. Printed by gen_text.py. -/
namespace W24
open PySem PySem.Spec PyProof.Rows L2
def topS (i : Nat) : Stmt := PySem.Challenge.pw_wholefetch_k24_whole_what_can_be_kept.main.body.getD i (.Pass ⟨0, 0, 0, 0⟩)
abbrev s_is_whole_houses : Stmt := topS 9
abbrev s_is_place : Stmt := topS 11
abbrev s_is_pair : Stmt := topS 12
abbrev s_places_in : Stmt := topS 13
abbrev s_come_to : Stmt := topS 14
abbrev s_goes_back : Stmt := topS 15
abbrev s_house_fault : Stmt := topS 16
abbrev s_is_read : Stmt := topS 26
abbrev s_is_check : Stmt := topS 27
abbrev s_need_reads : Stmt := topS 28
abbrev s_need_checks : Stmt := topS 29
abbrev s_need_fetch : Stmt := topS 30
abbrev s_arrows_by : Stmt := topS 31
abbrev s_arrows_in : Stmt := topS 32
abbrev s_table_of : Stmt := topS 34
abbrev s_gaps_in : Stmt := topS 35
abbrev s_need_possible : Stmt := topS 36
abbrev s_go_together : Stmt := topS 38
abbrev s_classes_of : Stmt := topS 39
abbrev s_need_glue : Stmt := topS 41
abbrev s_cover_in : Stmt := topS 43
abbrev s_many_in : Stmt := topS 44
abbrev s_best_in : Stmt := topS 45
abbrev s_gaps_between : Stmt := topS 46
abbrev s_cover : Stmt := topS 47
abbrev s_most_kept : Stmt := topS 48
abbrev s_best : Stmt := topS 49
abbrev s_missing : Stmt := topS 50
abbrev s_is_whole_kept : Stmt := topS 51
abbrev s_law_mixed : Stmt := topS 54
abbrev s_law_begin : Stmt := topS 55
abbrev s_law_draw : Stmt := topS 56
abbrev s_law_house : Stmt := topS 57
abbrev s_law_read : Stmt := topS 58
abbrev s_law_test : Stmt := topS 59
abbrev s_law_fetch : Stmt := topS 60
abbrev s_law_under : Stmt := topS 61
abbrev s_law_arrows : Stmt := topS 62
abbrev s_law_gaps : Stmt := topS 63
abbrev s_law_mild : Stmt := topS 64
abbrev s_law_groups : Stmt := topS 65
abbrev s_law_bytes : Stmt := topS 66
abbrev s_law_runs : Stmt := topS 67
abbrev s_law_right : Stmt := topS 68
abbrev s_law : Stmt := topS 69
abbrev FnP (K : PySem.W.Frag) (x : Str) (st : Stmt) (f : Addr) (fd : FuncData) : Prop := FunD K x x (defArgs st) (defBody st) (defScope st) [] [] f fd
end W24
set_option maxHeartbeats 0
/-! K24Head: the facts of the top, its run. Printed by gen_text.py. -/
namespace W24
open PySem PySem.Spec PyProof.Rows L2
def d_is_whole_houses : He.DefD := ⟨("is_whole_houses", none), "is_whole", "is_whole", defArgs s_is_whole_houses, defBody s_is_whole_houses, defScope s_is_whole_houses, [], []⟩
def d_is_place : He.DefD := ⟨("is_place", none), "is_place", "is_place", defArgs s_is_place, defBody s_is_place, defScope s_is_place, [], []⟩
def d_is_pair : He.DefD := ⟨("is_pair", none), "is_pair", "is_pair", defArgs s_is_pair, defBody s_is_pair, defScope s_is_pair, [], []⟩
def d_places_in : He.DefD := ⟨("places_in", none), "places_in", "places_in", defArgs s_places_in, defBody s_places_in, defScope s_places_in, [], []⟩
def d_come_to : He.DefD := ⟨("come_to", none), "come_to", "come_to", defArgs s_come_to, defBody s_come_to, defScope s_come_to, [], []⟩
def d_goes_back : He.DefD := ⟨("goes_back", none), "goes_back", "goes_back", defArgs s_goes_back, defBody s_goes_back, defScope s_goes_back, [], []⟩
def d_house_fault : He.DefD := ⟨("house_fault", none), "house_fault", "house_fault", defArgs s_house_fault, defBody s_house_fault, defScope s_house_fault, [], []⟩
def d_is_read : He.DefD := ⟨("is_read", none), "is_read", "is_read", defArgs s_is_read, defBody s_is_read, defScope s_is_read, [], []⟩
def d_is_check : He.DefD := ⟨("is_check", none), "is_check", "is_check", defArgs s_is_check, defBody s_is_check, defScope s_is_check, [], []⟩
def d_need_reads : He.DefD := ⟨("need_reads", none), "need_reads", "need_reads", defArgs s_need_reads, defBody s_need_reads, defScope s_need_reads, [], []⟩
def d_need_checks : He.DefD := ⟨("need_checks", none), "need_checks", "need_checks", defArgs s_need_checks, defBody s_need_checks, defScope s_need_checks, [], []⟩
def d_need_fetch : He.DefD := ⟨("need_fetch", none), "need_fetch", "need_fetch", defArgs s_need_fetch, defBody s_need_fetch, defScope s_need_fetch, [], []⟩
def d_arrows_by : He.DefD := ⟨("arrows_by", none), "arrows_by", "arrows_by", defArgs s_arrows_by, defBody s_arrows_by, defScope s_arrows_by, [], []⟩
def d_arrows_in : He.DefD := ⟨("arrows_in", none), "arrows_in", "arrows_in", defArgs s_arrows_in, defBody s_arrows_in, defScope s_arrows_in, [], []⟩
def d_table_of : He.DefD := ⟨("table_of", none), "table_of", "table_of", defArgs s_table_of, defBody s_table_of, defScope s_table_of, [], []⟩
def d_gaps_in : He.DefD := ⟨("gaps_in", none), "gaps_in", "gaps_in", defArgs s_gaps_in, defBody s_gaps_in, defScope s_gaps_in, [], []⟩
def d_need_possible : He.DefD := ⟨("need_possible", none), "need_possible", "need_possible", defArgs s_need_possible, defBody s_need_possible, defScope s_need_possible, [], []⟩
def d_go_together : He.DefD := ⟨("go_together", none), "go_together", "go_together", defArgs s_go_together, defBody s_go_together, defScope s_go_together, [], []⟩
def d_classes_of : He.DefD := ⟨("classes_of", none), "classes_of", "classes_of", defArgs s_classes_of, defBody s_classes_of, defScope s_classes_of, [], []⟩
def d_need_glue : He.DefD := ⟨("need_glue", none), "need_glue", "need_glue", defArgs s_need_glue, defBody s_need_glue, defScope s_need_glue, [], []⟩
def d_cover_in : He.DefD := ⟨("cover_in", none), "cover_in", "cover_in", defArgs s_cover_in, defBody s_cover_in, defScope s_cover_in, [], []⟩
def d_many_in : He.DefD := ⟨("many_in", none), "many_in", "many_in", defArgs s_many_in, defBody s_many_in, defScope s_many_in, [], []⟩
def d_best_in : He.DefD := ⟨("best_in", none), "best_in", "best_in", defArgs s_best_in, defBody s_best_in, defScope s_best_in, [], []⟩
def d_gaps_between : He.DefD := ⟨("gaps_between", none), "gaps_between", "gaps_between", defArgs s_gaps_between, defBody s_gaps_between, defScope s_gaps_between, [], []⟩
def d_cover : He.DefD := ⟨("cover", none), "cover", "cover", defArgs s_cover, defBody s_cover, defScope s_cover, [], []⟩
def d_most_kept : He.DefD := ⟨("most_kept", none), "most_kept", "most_kept", defArgs s_most_kept, defBody s_most_kept, defScope s_most_kept, [], []⟩
def d_best : He.DefD := ⟨("best", none), "best", "best", defArgs s_best, defBody s_best, defScope s_best, [], []⟩
def d_missing : He.DefD := ⟨("missing", none), "missing", "missing", defArgs s_missing, defBody s_missing, defScope s_missing, [], []⟩
def d_is_whole_kept : He.DefD := ⟨("is_whole_kept", none), "is_whole", "is_whole", defArgs s_is_whole_kept, defBody s_is_whole_kept, defScope s_is_whole_kept, [], []⟩
def d_law_mixed : He.DefD := ⟨("_law_mixed", none), "_law_mixed", "_law_mixed", defArgs s_law_mixed, defBody s_law_mixed, defScope s_law_mixed, [], []⟩
def d_law_begin : He.DefD := ⟨("_law_begin", none), "_law_begin", "_law_begin", defArgs s_law_begin, defBody s_law_begin, defScope s_law_begin, [], []⟩
def d_law_draw : He.DefD := ⟨("_law_draw", none), "_law_draw", "_law_draw", defArgs s_law_draw, defBody s_law_draw, defScope s_law_draw, [], []⟩
def d_law_house : He.DefD := ⟨("_law_house", none), "_law_house", "_law_house", defArgs s_law_house, defBody s_law_house, defScope s_law_house, [], []⟩
def d_law_read : He.DefD := ⟨("_law_read", none), "_law_read", "_law_read", defArgs s_law_read, defBody s_law_read, defScope s_law_read, [], []⟩
def d_law_test : He.DefD := ⟨("_law_test", none), "_law_test", "_law_test", defArgs s_law_test, defBody s_law_test, defScope s_law_test, [], []⟩
def d_law_fetch : He.DefD := ⟨("_law_fetch", none), "_law_fetch", "_law_fetch", defArgs s_law_fetch, defBody s_law_fetch, defScope s_law_fetch, [], []⟩
def d_law_under : He.DefD := ⟨("_law_under", none), "_law_under", "_law_under", defArgs s_law_under, defBody s_law_under, defScope s_law_under, [], []⟩
def d_law_arrows : He.DefD := ⟨("_law_arrows", none), "_law_arrows", "_law_arrows", defArgs s_law_arrows, defBody s_law_arrows, defScope s_law_arrows, [], []⟩
def d_law_gaps : He.DefD := ⟨("_law_gaps", none), "_law_gaps", "_law_gaps", defArgs s_law_gaps, defBody s_law_gaps, defScope s_law_gaps, [], []⟩
def d_law_mild : He.DefD := ⟨("_law_mild", none), "_law_mild", "_law_mild", defArgs s_law_mild, defBody s_law_mild, defScope s_law_mild, [], []⟩
def d_law_groups : He.DefD := ⟨("_law_groups", none), "_law_groups", "_law_groups", defArgs s_law_groups, defBody s_law_groups, defScope s_law_groups, [], []⟩
def d_law_bytes : He.DefD := ⟨("_law_bytes", none), "_law_bytes", "_law_bytes", defArgs s_law_bytes, defBody s_law_bytes, defScope s_law_bytes, [], []⟩
def d_law_runs : He.DefD := ⟨("_law_runs", none), "_law_runs", "_law_runs", defArgs s_law_runs, defBody s_law_runs, defScope s_law_runs, [], []⟩
def d_law_right : He.DefD := ⟨("_law_right", none), "_law_right", "_law_right", defArgs s_law_right, defBody s_law_right, defScope s_law_right, [], []⟩
def d_law : He.DefD := ⟨("law", none), "law", "law", defArgs s_law, defBody s_law, defScope s_law, [], []⟩
def fnL : List He.DefD := [d_is_whole_houses, d_is_place, d_is_pair, d_places_in, d_come_to, d_goes_back, d_house_fault, d_is_read, d_is_check, d_need_reads, d_need_checks, d_need_fetch, d_arrows_by, d_arrows_in, d_table_of, d_gaps_in, d_need_possible, d_go_together, d_classes_of, d_need_glue, d_cover_in, d_many_in, d_best_in, d_gaps_between, d_cover] ++ [d_most_kept, d_best, d_missing, d_is_whole_kept, d_law_mixed, d_law_begin, d_law_draw, d_law_house, d_law_read, d_law_test, d_law_fetch, d_law_under, d_law_arrows, d_law_gaps, d_law_mild, d_law_groups, d_law_bytes, d_law_runs, d_law_right, d_law]
def faL : List He.Fa := ([.glo "is_whole_houses", .glo "is_place", .glo "is_pair", .glo "places_in", .glo "come_to", .glo "goes_back", .glo "house_fault", .glo "is_read", .glo "is_check", .glo "need_reads", .glo "need_checks", .glo "need_fetch", .glo "arrows_by", .glo "arrows_in", .glo "table_of", .glo "gaps_in", .glo "need_possible", .glo "go_together", .glo "classes_of", .glo "need_glue", .glo "cover_in", .glo "many_in", .glo "best_in", .glo "gaps_between", .glo "cover", .glo "most_kept", .glo "best", .glo "missing", .glo "is_whole_kept", .glo "_law_mixed"] : List He.Fa) ++ ([.glo "_law_begin", .glo "_law_draw", .glo "_law_house", .glo "_law_read", .glo "_law_test", .glo "_law_fetch", .glo "_law_under", .glo "_law_arrows", .glo "_law_gaps", .glo "_law_mild", .glo "_law_groups", .glo "_law_bytes", .glo "_law_runs", .glo "_law_right", .glo "law", .free "isinstance", .free "int", .free "bool", .free "str", .free "tuple", .free "len", .free "all", .free "dict", .free "range", .free "enumerate", .free "sorted", .free "list", .free "set", .free "max", .free "min"] : List He.Fa) ++ ([.free "sum", .free "repr", .glo "WORDS", .int "MOST_LETTERS" 8, .int "MOST_PLACES" 4, .int "MOST_MOMENT" 9999, .int "MOST_SIZE" 1000000000, .int "MOST_READS" 12, .int "MOST_CHECKS" 24, .str "LETTERS" "abcdefghijklmnopqrstuvwxyz", .str "SAME" "same", .str "UPTO" "upto", .str "NEWER" "newer"] : List He.Fa)
def looseL : List PySem.Str := (["FetchError", "BadFetch", "BadGlue", "BadQuestion", "LETTERS", "MOST_LETTERS", "MOST_PLACES", "is_whole", "is_whole_houses", "is_place", "is_pair", "places_in", "come_to", "goes_back", "house_fault", "MOST_MOMENT", "MOST_SIZE", "MOST_READS", "MOST_CHECKS", "SAME", "UPTO", "NEWER", "WORDS", "is_read", "is_check", "need_reads", "need_checks", "need_fetch", "arrows_by", "arrows_in"] : List PySem.Str) ++ (["table_of", "gaps_in", "need_possible", "go_together", "classes_of", "need_glue", "cover_in", "many_in", "best_in", "gaps_between", "cover", "most_kept", "best", "missing", "is_whole_kept", "_law_mixed", "_law_begin", "_law_draw", "_law_house", "_law_read", "_law_test", "_law_fetch", "_law_under", "_law_arrows", "_law_gaps", "_law_mild", "_law_groups", "_law_bytes", "_law_runs", "_law_right"] : List PySem.Str)
def wordsB (K : PySem.W.Frag) : Bool := He.tupB K "WORDS" [.str "same", .str "upto", .str "newer"]
def sayW (n : Nat) (g : PySem.Addr → Option PySem.Obj) : He.AlD × Bool := (He.obsD faL fnL (He.frG g (He.asD g n)), wordsB (He.frG g (He.asD g n)))
abbrev R24 : PySem.W.OpenRow := PySem.W.OpenLaw.row PySem.Challenge.rw_wholefetch_k24_whole_what_can_be_kept
/-- the hook: the facts of the defs, and the tuple of the words -/
def hkW : PySem.W.Hook where
  α := He.AlD × Bool
  obs := fun st => sayW 4 st.heap.get?
  val := fun _ => (He.valD fnL, true)
  says := fun _ hp => ∃ K : PySem.W.Frag, K.In hp ∧ He.SaysD faL fnL K ∧ wordsB K = true
  of := fun _ _ eq => ⟨_, He.frG_in, congrArg Prod.fst eq, congrArg Prod.snd eq⟩
  keeps := fun _ _ _ ⟨K, inK, sK, wK⟩ kp => ⟨K, PySem.W.Frag.In.keeps inK kp, sK, wK⟩
def obW (st : PySem.W.SharedT) : He.AlD × Bool := sayW 4 (HandSHeadRun.getT st)
theorem obW_eq (st : PySem.W.SharedT) : obW st = hkW.obs st.abs := by
  show sayW 4 (HandSHeadRun.getT st) = sayW 4 st.abs.heap.get?
  rw [show HandSHeadRun.getT st = st.abs.heap.get? from funext (HandSHeadRun.getT_eq st)]
theorem runW (w : World) : HandSHeadRun.RunEq R24 (PySem.W.view R24.prog [69]) hkW obW 3000 looseL w := by
  intro os
  kernel_rfl
end W24
set_option maxHeartbeats 4000000
/-! K24Base: the facts of the top that the walks lean on, calls by name, the data and how it lies in the heap. -/
namespace W24
open PySem PySem.Spec PyProof.Rows L2

/-! ### what the top has left -/
structure Txt (K : PySem.W.Frag) (mg : Str → Option Value) : Prop where
  isinstance : mg "isinstance" = none
  int : mg "int" = none
  bool : mg "bool" = none
  str : mg "str" = none
  tuple : mg "tuple" = none
  len : mg "len" = none
  all : mg "all" = none
  dict : mg "dict" = none
  range : mg "range" = none
  enumerate : mg "enumerate" = none
  sorted : mg "sorted" = none
  list : mg "list" = none
  set : mg "set" = none
  max : mg "max" = none
  min : mg "min" = none
  sum : mg "sum" = none
  repr : mg "repr" = none
  mLET : ∃ t, mg "LETTERS" = some (.str "abcdefghijklmnopqrstuvwxyz" t)
  mML : ∃ t, mg "MOST_LETTERS" = some (.int 8 t)
  mMP : ∃ t, mg "MOST_PLACES" = some (.int 4 t)
  mMM : ∃ t, mg "MOST_MOMENT" = some (.int 9999 t)
  mMS : ∃ t, mg "MOST_SIZE" = some (.int 1000000000 t)
  mMR : ∃ t, mg "MOST_READS" = some (.int 12 t)
  mMC : ∃ t, mg "MOST_CHECKS" = some (.int 24 t)
  mSAME : ∃ t, mg "SAME" = some (.str "same" t)
  mUPTO : ∃ t, mg "UPTO" = some (.str "upto" t)
  mNEWER : ∃ t, mg "NEWER" = some (.str "newer" t)
  mWORDS : ∃ a, mg "WORDS" = some (.ref a) ∧ ∀ H, SqT K H a [.str "same", .str "upto", .str "newer"]

/-! ### calls by name -/
def Cal (P : Program) (w : World) (K : PySem.W.Frag) (mg : Str → Option Value) (base : Heap) (k : Nat) (x : Str) (ps : List Str) (sp : Sp) : Prop :=
  ∃ f fd, mg x = some (.ref f) ∧ PySem.W.keepIn K (.ref f) = true ∧ Binds K fd ps [] ∧ FnOk P w K mg base CX0 k f fd ps sp
section
variable {X : Cx} {k : Nat} {x : Str} {ps : List Str} {sp : Sp} {p pos : Pos} {e : Expr} {es : List Expr} {t : TA}
def tCal (sp : Sp) (t : TA) : TE := fun σ H Q => t σ H fun vs H1 => sp vs H1 Q E0
theorem pe_cal (C : Cal X.prog X.w X.K X.mg X.base k x ps sp) (hr : Room k X.A) (ha : PA X (e :: es) t) (hg : Gl X x := by rfl)
    (hdb : (x == ("__debug__" : Str)) = false := by decide) (he : starEach (e :: es) X.env = (false, eval e X.env) :: starEach es X.env := by rfl) (hpl : (backTo pos (starEach es X.env)).any (·.1) = false := by rfl) :
    PE X (.Call (.Name x p) (e :: es) [] pos) (tCal sp t) := by
  obtain ⟨f, fd, hm, hk, hb, F⟩ := C
  have q := pe_call (p := p) (pos := pos) F hr hg hm hk hb .nil pass0 ha hdb he hpl
  have e : tCall sp [] E0 t = tCal sp t := by
    funext σ H Q
    unfold tCall tCal
    simp only [List.append_nil]
  rw [← e]
  exact q
end
/-- a def's promise, its text an FnP -/
theorem FnP.okP {P : Program} {w : World} {K : PySem.W.Frag} {mg : Str → Option Value} {base : Heap} {x : Str} {st : Stmt} {f : Addr} {fd : FuncData} {N ps : List Str} {k : Nat} {sp : Sp} (F : FnP K x st f fd) (S : FnScope N ps (defScope st)) (len : ∀ vs H Q E, sp vs H Q E → vs.length = ps.length)
    (hbody : ∀ (cdv : Value) (A : Around) (outer : List Env) (s : Shared) (H : Hp) (vs : List V) (Q : VK) (E : XK), Room k (A.deeper (envOfC x (defScope st) s.heap.objs.size f cdv)) → sp vs H Q E →
      ∃ t, PSs (cxOf CX0 P w K mg base N x (defScope st) f cdv A outer s H E).nox (defBody st) t ∧ t { nx := fun _ H' => Q .non H', rt := Q } (start N vs) H) : FnOk P w K mg base CX0 (k + 1) f fd ps sp :=
  FunD.ok F S len fun cdv A outer s H vs Q E hr h => by
    obtain ⟨t, q, r⟩ := hbody cdv A outer s H vs Q E hr h
    exact ⟨t, q.nox, r⟩
/-- what the head tells of a def -/
def Dfn (K : PySem.W.Frag) (mg : Str → Option Value) (at_ nm : Str) (st : Stmt) : Prop := ∃ f fd, FnP K nm st f fd ∧ mg at_ = some (.ref f)
theorem Dfn.cal {P : Program} {w : World} {K : PySem.W.Frag} {mg : Str → Option Value} {base : Heap} {at_ nm : Str} {st : Stmt} {k : Nat} {ps : List Str} {sp : Sp} (D : Dfn K mg at_ nm st) (ok : ∀ f fd, FnP K nm st f fd → FnOk P w K mg base CX0 k f fd ps sp)
    (hb : ∀ (kV doc pm : Value) (an : Option Addr) (cdv ct : Value) (us : List Value), us.length = ps.length → bindArgs (PySem.W.fnOf nm nm (defArgs st) (defBody st) (defScope st) .none kV doc pm an cdv ct) ⟨us, []⟩ = pure (ps.zip us)) :
    Cal P w K mg base k at_ ps sp := by
  obtain ⟨f, fd, F, hm⟩ := D
  exact ⟨f, fd, hm, F.kp, FunD.bindsN F hb, ok f fd F⟩

/-! ### short rules -/
section
variable {X : Cx} {x : Str} {pos p p2 : Pos} {e : Expr} {te : TE}
theorem pe_gI {i : Int} (h : ∃ t, X.mg x = some (.int i t)) (hg : Gl X x := by rfl) (hd : (x == ("__debug__" : Str)) = false := by decide) : PE X (.Name x pos) (tC (.int i)) := by
  obtain ⟨t, h⟩ := h
  exact pe_glob hg h ⟨t, rfl⟩ hd
theorem pe_gS {z : Str} (h : ∃ t, X.mg x = some (.str z t)) (hg : Gl X x := by rfl) (hd : (x == ("__debug__" : Str)) = false := by decide) : PE X (.Name x pos) (tC (.str z)) := by
  obtain ⟨t, h⟩ := h
  exact pe_glob hg h ⟨t, rfl⟩ hd
/-- isinstance(e, T), T the name of a built-in class -/
def rIsiN (K : PySem.W.Frag) (n : String) : List V → Hp → VK → Prop := fun xs H Q => ∃ (y : V) (a : String) (b : Bool), xs = [y, .ty n] ∧ TyX K H y (.type a) ∧ kitB a n = some b ∧ Q (.bl b) H
theorem call_isiN (n : String) : CallR X (.builtin "isinstance") (rIsiN X.K n) := by
  intro pins s σ H xs us Q I r h
  obtain ⟨y, a, b, rfl, ty, hk, q⟩ := h
  exact call_isi pins s σ H _ us Q I r ⟨y, .ty n, .type a, .type n, b, rfl, .ty n, ty, kit_ty hk, q⟩
theorem pe_isi (n : String) {nm : Str} (hi : X.mg "isinstance" = none) (hm : X.mg nm = none) (hv : bootBuiltins nm = some (.type n)) (he : PE X e te)
    (hg1 : Gl X "isinstance" := by rfl) (hg2 : Gl X nm := by rfl) (hn : nm ≠ "__name__" := by decide) (hd : (nm == ("__debug__" : Str)) = false := by decide)
    (hs1 : starEach (e :: [.Name nm p2]) X.env = (false, eval e X.env) :: starEach [.Name nm p2] X.env := by rfl) (hs2 : starEach [.Name nm p2] X.env = (false, eval (.Name nm p2) X.env) :: starEach [] X.env := by rfl)
    (hpl : (backTo pos (starEach [.Name nm p2] X.env)).any (·.1) = false := by rfl) :
    PE X (.Call (.Name "isinstance" p) [e, .Name nm p2] [] pos) (tCB (rIsiN X.K n) (tCons te (tCons (tC (.ty n)) tNil))) :=
  pe_callB (call_isiN n) hg1 hi (by decide +kernel) (pa_cons he (pa_cons (pe_bltn (v := .ty n) hg2 hm hv rfl hn hd) pa_nil hs2) hs1) (by decide) (by decide) hs1 hpl
end

/-! ### heaps -/
theorem Same.new {H : Hp} {p : Addr} {o : HO} (h : H p = none) : Same H (upd H p o) := fun a u e => by
  rw [upd_ne (ne_of_none e h)]
  exact e
theorem Same.mut {H H' : Hp} {p : Addr} {o : HO} (e : Same H H') (h : H p = none) : Same H (upd H' p o) := fun a u ha => by
  rw [upd_ne (ne_of_none ha h)]
  exact e a u ha
theorem Same.sqt {K : PySem.W.Frag} {H H' : Hp} {a : Addr} {xs : List V} (e : Same H H') (h : SqT K H a xs) : SqT K H' a xs := by
  rcases h with (h | ⟨o, h⟩) | h
  · exact .inl (.inl (e _ _ h))
  · exact .inl (.inr ⟨o, e _ _ h⟩)
  · exact .inr h
theorem Same.get {H H' : Hp} (e : Same H H') {a : Addr} {o : HO} (h : H a = some o) : H' a = some o := e a o h
theorem small {n : Nat} (h : n ≤ 1000) : n ≤ sizeLine := Nat.le_trans h (by decide)
/-! ### lists side by side -/
section
variable {α β : Type} {F G : α → β → Prop}
theorem pr_len : ∀ {l : List α} {m : List β}, Paired F l m → l.length = m.length
  | _, _, .nil => rfl
  | _, _, .cons _ t => by rw [List.length_cons, List.length_cons, pr_len t]
theorem pr_get : ∀ {l : List α} {m : List β} {i : Nat} {x : α}, Paired F l m → l[i]? = some x → ∃ y, m[i]? = some y ∧ F x y
  | _, _, _, _, .nil, e => by simp at e
  | _, _, 0, _, .cons r _, e => by simp at e; subst e; exact ⟨_, rfl, r⟩
  | _, _, i + 1, x, .cons _ t, e => by
    obtain ⟨y, h1, h2⟩ := pr_get (i := i) (x := x) t (by simpa using e)
    exact ⟨y, by simpa using h1, h2⟩
theorem pr_get2 : ∀ {l : List α} {m : List β} {i : Nat} {y : β}, Paired F l m → m[i]? = some y → ∃ x, l[i]? = some x ∧ F x y
  | _, _, _, _, .nil, e => by simp at e
  | _, _, 0, _, .cons r _, e => by simp at e; subst e; exact ⟨_, rfl, r⟩
  | _, _, i + 1, y, .cons _ t, e => by
    obtain ⟨x, h1, h2⟩ := pr_get2 (i := i) (y := y) t (by simpa using e)
    exact ⟨x, by simpa using h1, h2⟩
theorem pr_mono (f : ∀ a b, F a b → G a b) : ∀ {l : List α} {m : List β}, Paired F l m → Paired G l m
  | _, _, .nil => .nil
  | _, _, .cons r t => .cons (f _ _ r) (pr_mono f t)
theorem pr_snoc {a : α} {b : β} (h : F a b) : ∀ {l : List α} {m : List β}, Paired F l m → Paired F (l ++ [a]) (m ++ [b])
  | _, _, .nil => .cons h .nil
  | _, _, .cons r t => .cons r (pr_snoc h t)
theorem pr_app : ∀ {l l' : List α} {m m' : List β}, Paired F l m → Paired F l' m' → Paired F (l ++ l') (m ++ m')
  | _, _, _, _, .nil, h => h
  | _, _, _, _, .cons r t, h => .cons r (pr_app t h)
theorem pr_of {l : List α} {m : List β} (hl : l.length = m.length) (h : ∀ (i : Nat) a b, l[i]? = some a → m[i]? = some b → F a b) : Paired F l m := by
  induction l generalizing m with
  | nil =>
    cases m with
    | nil => exact .nil
    | cons _ _ => cases hl
  | cons x l ih =>
    cases m with
    | nil => cases hl
    | cons y m =>
      refine .cons (h 0 x y rfl rfl) (ih (by simpa using hl) fun i a b e1 e2 => h (i + 1) a b (by simpa using e1) (by simpa using e2))
end

/-! ### the data -/
abbrev House := List (Str × Option Str)
structure Rd5 where
  p : Str
  b : Nat
  e : Nat
  f : Nat
  t : Nat
structure Ck3 where
  a : Nat
  w : Str
  o : Nat
structure Ft where
  h : House
  size : Nat
  rs : List Rd5
  cs : List Ck3
def optV : Option Str → V
  | none => .non
  | some z => .str z
def rdV (r : Rd5) : List V := [.str r.p, .int r.b, .int r.e, .int r.f, .int r.t]
def ckV (c : Ck3) : List V := [.int c.a, .str c.w, .int c.o]
/-- the house at v: a tuple, its object known, of pairs -/
def HouseAt (H : Hp) (v : V) (h : House) : Prop := ∃ (a : Addr) (o : Obj) (ps : List Addr), v = .ref a ∧ H a = some (.frz o (.tup (ps.map V.ref))) ∧ o.dict = none ∧ Paired (fun p (x : Str × Option Str) => H p = some (.tup [.str x.1, optV x.2])) ps h
def RdsAt (H : Hp) (v : V) (rs : List Rd5) : Prop := ∃ (a : Addr) (ps : List Addr), v = .ref a ∧ H a = some (.tup (ps.map V.ref)) ∧ Paired (fun p r => H p = some (.tup (rdV r))) ps rs
def CksAt (H : Hp) (v : V) (cs : List Ck3) : Prop := ∃ (a : Addr) (ps : List Addr), v = .ref a ∧ H a = some (.tup (ps.map V.ref)) ∧ Paired (fun p c => H p = some (.tup (ckV c))) ps cs
def FtAt (H : Hp) (v : V) (F : Ft) : Prop := ∃ (a : Addr) (vh vr vc : V), v = .ref a ∧ H a = some (.tup [vh, .int F.size, vr, vc]) ∧ HouseAt H vh F.h ∧ RdsAt H vr F.rs ∧ CksAt H vc F.cs
theorem HouseAt.same {H H' : Hp} {v : V} {h : House} (s : Same H H') (x : HouseAt H v h) : HouseAt H' v h := by
  obtain ⟨a, o, ps, e, h1, h2, h3⟩ := x
  exact ⟨a, o, ps, e, s _ _ h1, h2, pr_mono (fun _ _ q => s _ _ q) h3⟩
theorem RdsAt.same {H H' : Hp} {v : V} {h : List Rd5} (s : Same H H') (x : RdsAt H v h) : RdsAt H' v h := by
  obtain ⟨a, ps, e, h1, h3⟩ := x
  exact ⟨a, ps, e, s _ _ h1, pr_mono (fun _ _ q => s _ _ q) h3⟩
theorem CksAt.same {H H' : Hp} {v : V} {h : List Ck3} (s : Same H H') (x : CksAt H v h) : CksAt H' v h := by
  obtain ⟨a, ps, e, h1, h3⟩ := x
  exact ⟨a, ps, e, s _ _ h1, pr_mono (fun _ _ q => s _ _ q) h3⟩
theorem FtAt.same {H H' : Hp} {v : V} {F : Ft} (s : Same H H') (x : FtAt H v F) : FtAt H' v F := by
  obtain ⟨a, vh, vr, vc, e, h1, h2, h3, h4⟩ := x
  exact ⟨a, vh, vr, vc, e, s _ _ h1, h2.same s, h3.same s, h4.same s⟩

/-! ### houses -/
def H4 : List House := [[("a", none)], [("a", none), ("b", none)], [("a", none), ("b", some "a")], [("a", some "b"), ("b", none), ("c", some "a")]]
def look (h : House) (p : Str) : Option (Option Str) := (h.find? fun x => decide (x.1 = p)).map (·.2)
def upsN : Nat → House → Str → List Str
  | 0, _, p => [p]
  | n + 1, h, p => match look h p with
    | some (some q) => p :: upsN n h q
    | _ => [p]
def ups (h : House) (p : Str) : List Str := upsN 4 h p
def places (h : House) : List Str := h.map (·.1)
def houseK (h : House) : List (Key × V) := h.map fun x => (Sum.inr x.1, optV x.2)
/-- all that is asked of a house, by looking -/
def houseOk (h : House) : Bool := decide (1 ≤ h.length ∧ h.length ≤ 4) &&
  (h.all fun x => decide (valV (mergeK [] (houseK h)) (Sum.inr x.1) = (look h x.1).map optV) &&
    (let u := ups h x.1
     decide (u.length ≤ 3) && decide (u.length ≠ 0) && (u.all fun y => decide (y ∈ places h)) &&
     ((List.range (u.length - 1)).all fun i => decide (look h (u.getD i "") = some (some (u.getD (i + 1) ""))) && !(u.take (i + 1)).contains (u.getD (i + 1) "")) &&
     decide (look h (u.getD (u.length - 1) "") = some none)))
theorem houses_ok : H4.all houseOk = true := by decide +kernel
end W24
set_option maxHeartbeats 4000000
/-! K24Short: rules with the top's own K in plain sight (for blocks of comprehensions), the built-ins by name. -/
namespace W24
open PySem PySem.Spec PyProof.Rows L2
theorem b_len : bootBuiltins "len" = some (.builtin "len") := by decide +kernel
theorem b_all : bootBuiltins "all" = some (.builtin "all") := by decide +kernel
theorem b_sorted : bootBuiltins "sorted" = some (.builtin "sorted") := by decide +kernel
theorem b_max : bootBuiltins "max" = some (.builtin "max") := by decide +kernel
theorem b_min : bootBuiltins "min" = some (.builtin "min") := by decide +kernel
theorem b_sum : bootBuiltins "sum" = some (.builtin "sum") := by decide +kernel
theorem b_repr : bootBuiltins "repr" = some (.builtin "repr") := by decide +kernel
theorem b_int : bootBuiltins "int" = some (.type "int") := by decide +kernel
theorem b_dict : bootBuiltins "dict" = some (.type "dict") := by decide +kernel
theorem b_list : bootBuiltins "list" = some (.type "list") := by decide +kernel
theorem b_tuple : bootBuiltins "tuple" = some (.type "tuple") := by decide +kernel
theorem b_set : bootBuiltins "set" = some (.type "set") := by decide +kernel
theorem Room65 {k : Nat} {A : Around} (hr : Room k A) : A.units + 65 < cLine := by have := hr.un; omega
section
variable {X : Cx}
theorem ixL (K : PySem.W.Frag) (h : X.K = K := by rfl) : IxR X (rIxL K) := h ▸ ix_list
theorem ixT (K : PySem.W.Frag) (h : X.K = K := by rfl) : IxR X (rIxT K) := h ▸ ix_tup
def rLenQ (K : PySem.W.Frag) : List V → Hp → VK → Prop := fun xs H Q => ∃ p ys, xs = [.ref p] ∧ (SqL K H p ys ∨ SqT K H p ys) ∧ Q (.int ys.length) H
theorem lenQ (K : PySem.W.Frag) (h : X.K = K := by rfl) : CallR X (.builtin "len") (rLenQ K) := h ▸ call_len_seq
theorem inQ (K : PySem.W.Frag) (h : X.K = K := by rfl) : OpR X (compareOp .In) (rIn K false) := h ▸ op_in_seq
theorem ninQ (K : PySem.W.Frag) (h : X.K = K := by rfl) : OpR X (compareOp .NotIn) (rIn K true) := h ▸ op_notIn_seq
theorem piL (K : PySem.W.Frag) {tg l : Expr} {tl : TE} (hl : PE X l tl) (h : X.K = K := by rfl) : PI X tg l (iList K tl) := h ▸ pi_list hl
theorem piT (K : PySem.W.Frag) {tg l : Expr} {tl : TE} (hl : PE X l tl) (h : X.K = K := by rfl) : PI X tg l (iTup K tl) := h ▸ pi_tup hl
theorem pgT (K : PySem.W.Frag) {es : List Expr} {k : Nat} {pos : Pos} {t : TGs} {n : Nat} (hc : X.calm = true) (h : PGs X es t)
    (hk : X.K = K := by rfl) (hn : (assignEach es X.env).length = n := by rfl) (hst : (assignEach es X.env).findIdx? (·.1) = none := by rfl) : PG X (.Tuple es k pos) (gTup K n t) := hk ▸ pg_tup hc h hn hst
theorem pgL (K : PySem.W.Frag) {es : List Expr} {k : Nat} {pos : Pos} {t : TGs} {n : Nat} (hc : X.calm = true) (h : PGs X es t)
    (hk : X.K = K := by rfl) (hn : (assignEach es X.env).length = n := by rfl) (hst : (assignEach es X.env).findIdx? (·.1) = none := by rfl) : PG X (.Tuple es k pos) (gLst K n t) := hk ▸ pg_lst hc h hn hst
end
end W24
set_option maxHeartbeats 4000000
/-! K24Loops: what a comprehension has built so far, as invariants. -/
namespace W24
open PySem PySem.Spec PyProof.Rows L2
theorem sz {n : Nat} (h : n < 60000) : n < sizeLine := Nat.lt_of_lt_of_le h (by decide)
theorem szl {n : Nat} (h : n < 60000) : n ≤ sizeLine := Nat.le_of_lt (sz h)
/-- values by the turn's number -/
def Cv (H1 : Hp) (D : Addr) (v : Nat → V) (i : Nat) (H : Hp) : Prop := H1 D = none ∧ Same H1 H ∧ H D = some (.lst ((List.range i).map v))
theorem cv0 {H1 : Hp} {D : Addr} {v : Nat → V} (h : H1 D = none) : Cv H1 D v 0 (upd H1 D (.lst [])) := ⟨h, Same.new h, upd_same⟩
theorem cv_step {H1 H H4 : Hp} {D : Addr} {v : Nat → V} {i : Nat} {y : V} (p : Cv H1 D v i H) (e : Same H H4) (hi : i < 50000) (hv : y = v i) :
    ∃ acc, H4 D = some (.lst acc) ∧ acc.length < sizeLine ∧ Cv H1 D v (i + 1) (upd H4 D (.lst (acc ++ [y]))) := by
  obtain ⟨p1, p2, p3⟩ := p
  refine ⟨_, e _ _ p3, by rw [List.length_map, List.length_range]; exact sz (by omega), p1, Same.mut (p2.trans e) p1, ?_⟩
  rw [upd_same, List.range_succ, List.map_append, hv]
  rfl
/-- values, some turns left out -/
def Cf (H1 : Hp) (D : Addr) (f : Nat → Bool) (v : Nat → V) (i : Nat) (H : Hp) : Prop := H1 D = none ∧ Same H1 H ∧ H D = some (.lst (((List.range i).filter f).map v))
theorem cf0 {H1 : Hp} {D : Addr} {f : Nat → Bool} {v : Nat → V} (h : H1 D = none) : Cf H1 D f v 0 (upd H1 D (.lst [])) := ⟨h, Same.new h, upd_same⟩
theorem cf_yes {H1 H H4 : Hp} {D : Addr} {f : Nat → Bool} {v : Nat → V} {i : Nat} {y : V} (p : Cf H1 D f v i H) (e : Same H H4) (hi : i < 50000) (hf : f i = true) (hv : y = v i) :
    ∃ acc, H4 D = some (.lst acc) ∧ acc.length < sizeLine ∧ Cf H1 D f v (i + 1) (upd H4 D (.lst (acc ++ [y]))) := by
  obtain ⟨p1, p2, p3⟩ := p
  refine ⟨_, e _ _ p3, ?_, p1, Same.mut (p2.trans e) p1, ?_⟩
  · rw [List.length_map]
    have := List.length_filter_le f (List.range i)
    rw [List.length_range] at this
    exact sz (by omega)
  · rw [upd_same, List.range_succ, List.filter_append, List.map_append, List.filter_cons, if_pos hf, hv]
    rfl
theorem cf_no {H1 H H4 : Hp} {D : Addr} {f : Nat → Bool} {v : Nat → V} {i : Nat} (p : Cf H1 D f v i H) (e : Same H H4) (hf : f i = false) : Cf H1 D f v (i + 1) H4 := by
  obtain ⟨p1, p2, p3⟩ := p
  refine ⟨p1, p2.trans e, ?_⟩
  rw [List.range_succ, List.filter_append, List.map_append, List.filter_cons, if_neg (by rw [hf]; decide)]
  show H4 D = some (.lst (_ ++ []))
  rw [List.append_nil]
  exact e _ _ p3
/-- new tuples -/
def Ct (H1 : Hp) (D : Addr) (c : Nat → List V) (i : Nat) (H : Hp) : Prop := H1 D = none ∧ Same H1 H ∧ ∃ ps : List Addr, H D = some (.lst (ps.map V.ref)) ∧ ps.length = i ∧ ∀ j p, ps[j]? = some p → H1 p = none ∧ H p = some (.tup (c j))
theorem ct0 {H1 : Hp} {D : Addr} {c : Nat → List V} (h : H1 D = none) : Ct H1 D c 0 (upd H1 D (.lst [])) := ⟨h, Same.new h, [], upd_same, rfl, fun j p e => by simp at e⟩
theorem ct_step {H1 H H4 : Hp} {D q : Addr} {c : Nat → List V} {i : Nat} (p : Ct H1 D c i H) (e : Same H H4) (hi : i < 50000) (hn : H1 q = none) (hq : H4 q = some (.tup (c i))) :
    ∃ acc, H4 D = some (.lst acc) ∧ acc.length < sizeLine ∧ Ct H1 D c (i + 1) (upd H4 D (.lst (acc ++ [.ref q]))) := by
  obtain ⟨p1, p2, ps, p3, p4, p5⟩ := p
  have hD := e _ _ p3
  refine ⟨_, hD, by rw [List.length_map, p4]; exact sz (by omega), p1, Same.mut (p2.trans e) p1, ps ++ [q], ?_, by simp [p4], fun j p hj => ?_⟩
  · rw [upd_same, List.map_append]
    rfl
  · have aux : ∀ a cc, H4 a = some (HO.tup cc) → upd H4 D (.lst (ps.map V.ref ++ [.ref q])) a = some (.tup cc) := fun a cc ha => by
      rw [upd_ne (ne_of ha hD (by intro z; cases z))]
      exact ha
    by_cases hlt : j < ps.length
    · rw [List.getElem?_append_left hlt] at hj
      obtain ⟨a, b⟩ := p5 j p hj
      exact ⟨a, aux _ _ (e _ _ b)⟩
    · rw [List.getElem?_append_right (by omega)] at hj
      have e0 : j - ps.length = 0 := by
        cases hk : j - ps.length with
        | zero => rfl
        | succ m => rw [hk] at hj; simp at hj
      rw [e0] at hj
      have : p = q := by simpa using hj.symm
      subst this
      have ej : j = i := by omega
      subst ej
      exact ⟨hn, aux _ _ hq⟩
theorem map_range_get {α β : Type} (xs : List α) (f : α → β) (g : Nat → β) (h : ∀ i x, xs[i]? = some x → g i = f x) : (List.range xs.length).map g = xs.map f := by
  refine List.ext_getElem? fun i => ?_
  rw [List.getElem?_map, List.getElem?_map]
  by_cases hi : i < xs.length
  · rw [List.getElem?_range hi]
    have : xs[i]? = some xs[i] := by simp [hi]
    rw [this]
    simp [h i _ this]
  · rw [List.getElem?_eq_none (by simpa using hi), List.getElem?_eq_none (by omega)]
    rfl
theorem Dp.same {K : PySem.W.Frag} {H H' : Hp} (e : Same H H') : ∀ (d : PyData) (v : V), Dp K H v d → Dp K H' v d
  | .none, _, h => by cases h; exact .non
  | .bool _, _, h => by cases h; exact .bl _
  | .int _, _, h => by cases h; exact .int _
  | .str _, _, h => by cases h; exact .str _
  | .list ds, _, h => by
    cases h with
    | lst hs ha => exact .lst (e.seq hs) (all ds _ ha)
  | .tuple ds, _, h => by
    cases h with
    | tup hs ha => exact .tup (Same.sqt e hs) (all ds _ ha)
  | .dict _, _, h => by cases h
where all : ∀ (ds : List PyData) (vs : List V), DpAll K H vs ds → DpAll K H' vs ds
  | [], _, h => by cases h; exact .nil
  | d :: ds, _, h => by
    cases h with
    | cons h1 h2 => exact .cons (Dp.same e d _ h1) (all ds _ h2)
end W24
namespace W24
open PySem PySem.Spec PyProof.Rows L2
theorem walk_enumT {K : PySem.W.Frag} {a : Addr} {xs : List V} : Walk (IteT K a) xs.length (fun H => SqT K H a xs) (YPair (fun i => some (.int (i : Nat))) (fun i => xs[i]?)) := by
  refine ⟨fun i _ hi q => ⟨xs, xs[i], q, by simp [hi]⟩, fun _ q => ⟨xs, q, rfl⟩, fun i H v H' _ q y => ?_⟩
  obtain ⟨T, x, h1, h2, h3, h4⟩ := y
  exact ⟨T, .int (i : Nat), x, h1, h2, h3, rfl, h4 xs q⟩
theorem inV_str (y : Str) (l : List Str) : inV (.str y) (l.map V.str) = decide (y ∈ l) := by
  induction l with
  | nil => rfl
  | cons a l ih =>
    show ((a == y) || inV (.str y) (l.map V.str)) = _
    rw [ih]
    by_cases h : a = y
    · subst h; simp
    · have : y ≠ a := fun e => h e.symm
      simp [h, this]
theorem flat_str (l : List Str) : (l.map V.str).all flatV = true := by
  rw [List.all_eq_true]
  intro x hx
  obtain ⟨y, _, rfl⟩ := List.mem_map.mp hx
  rfl
theorem flat_int (l : List Int) : (l.map V.int).all flatV = true := by
  rw [List.all_eq_true]
  intro x hx
  obtain ⟨y, _, rfl⟩ := List.mem_map.mp hx
  rfl
theorem h4_all {f : House → Bool} (hf : H4.all f = true) {h : House} (m : h ∈ H4) : f h = true := List.all_eq_true.mp hf h m
theorem HouseAt.get {H : Hp} {v : V} {h : House} (x : HouseAt H v h) (K : PySem.W.Frag) : ∃ (a : Addr) (ps : List Addr), v = .ref a ∧ SqT K H a (ps.map V.ref) ∧ Paired (fun p (x : Str × Option Str) => H p = some (.tup [.str x.1, optV x.2])) ps h := by
  obtain ⟨a, o, ps, e, h1, h2, h3⟩ := x
  exact ⟨a, ps, e, .inl (.inr ⟨o, h1⟩), h3⟩
/-- the place's sequence of ups, by number -/
def upAt (h : House) (p : Str) (i : Nat) : V := match (ups h p)[i]? with
  | some q => .str q
  | none => .non
end W24
set_option maxHeartbeats 4000000
/-! M3: the arrows of a fetch as a function; dicts keyed by pairs of numbers as association lists. -/
namespace W24
open PySem PySem.Spec PyProof.Rows L2
/-! ### dicts -/
def kk (p : Nat × Nat) : List Key := [Sum.inl (p.1 : Int), Sum.inl (p.2 : Int)]
theorem kk_inj {p q : Nat × Nat} (h : kk p = kk q) : p = q := by
  obtain ⟨a, b⟩ := p
  obtain ⟨c, d⟩ := q
  simp only [kk, List.cons.injEq, Sum.inl.injEq, and_true] at h
  have h1 : a = c := by omega
  have h2 : b = d := by omega
  rw [h1, h2]
theorem kk_dec (p q : Nat × Nat) : decide (kk p = kk q) = decide (p = q) := by
  by_cases h : p = q
  · rw [decide_eq_true h, decide_eq_true (congrArg kk h)]
  · rw [decide_eq_false h, decide_eq_false fun e => h (kk_inj e)]
def kvsOf {β : Type} (f : β → V) (al : AL β) : List (List Key × V) := al.map fun p => (kk p.1, f p.2)
section
variable {β : Type} (f : β → V)
theorem valV_kvs (al : AL β) (p : Nat × Nat) : valV (kvsOf f al) (kk p) = (getA al p).map f := by
  induction al with
  | nil => rfl
  | cons a r ih =>
    show valV ((kk a.1, f a.2) :: kvsOf f r) (kk p) = _
    by_cases h : a.1 = p
    · rw [valV_pos (p := (kk a.1, f a.2)) (congrArg kk h), getA_pos h]
      rfl
    · rw [valV_neg (p := (kk a.1, f a.2)) (fun e => h (kk_inj e)), getA_neg h, ih]
theorem any_kvs (al : AL β) (p : Nat × Nat) : ((kvsOf f al).any fun kv => decide (kv.1 = kk p)) = al.any fun kv => decide (kv.1 = p) := by
  induction al with
  | nil => rfl
  | cons a r ih =>
    show (decide (kk a.1 = kk p) || (kvsOf f r).any _) = _
    rw [ih, kk_dec]
    rfl
theorem putK_kvs (al : AL β) (p : Nat × Nat) (v : β) : putK (kvsOf f al) (kk p) (f v) = kvsOf f (putA al p v) := by
  unfold putK putA
  rw [any_kvs]
  by_cases h : (al.any fun kv => decide (kv.1 = p)) = true
  · rw [if_pos h, if_pos h]
    unfold kvsOf
    rw [List.map_map, List.map_map]
    refine List.map_congr_left fun a _ => ?_
    show (if kk a.1 = kk p then (kk a.1, f v) else (kk a.1, f a.2)) = (fun p => (kk p.1, f p.2)) (if a.1 = p then (a.1, v) else a)
    by_cases e : a.1 = p
    · rw [if_pos e, if_pos (congrArg kk e)]
    · rw [if_neg e, if_neg fun z => e (kk_inj z)]
  · rw [if_neg h, if_neg h]
    unfold kvsOf
    rw [List.map_append]
    rfl
theorem len_kvs (al : AL β) : (kvsOf f al).length = al.length := List.length_map ..
end
theorem nodup_le {α : Type} [DecidableEq α] : ∀ (l m : List α), l.Nodup → (∀ x ∈ l, x ∈ m) → l.length ≤ m.length
  | [], _, _, _ => Nat.zero_le _
  | x :: t, m, nd, h => by
    rw [List.nodup_cons] at nd
    have hx : x ∈ m := h x List.mem_cons_self
    have ih := nodup_le t (m.erase x) nd.2 fun y hy => (List.mem_erase_of_ne (fun e : y = x => nd.1 (e ▸ hy))).mpr (h y (List.mem_cons_of_mem _ hy))
    rw [List.length_erase_of_mem hx] at ih
    have : 0 < m.length := List.length_pos_of_mem hx
    rw [List.length_cons]
    omega
def grid : List (Nat × Nat) := (List.range 8).flatMap fun i => (List.range 8).map fun j => (i, j)
theorem al_len {β : Type} {al : AL β} {n : Nat} (nd : (al.map (·.1)).Nodup) (hk : ∀ p ∈ al.map (·.1), p.1 < n ∧ p.2 < n) (hn : n ≤ 8) : al.length ≤ 64 := by
  have h := nodup_le (al.map (·.1)) grid nd fun p hp => by
    obtain ⟨a, b⟩ := hk p hp
    unfold grid
    rw [List.mem_flatMap]
    exact ⟨p.1, List.mem_range.mpr (by omega), List.mem_map.mpr ⟨p.2, List.mem_range.mpr (by omega), rfl⟩⟩
  have e : grid.length = 64 := by decide
  rw [List.length_map, e] at h
  exact h
/-! ### arrows -/
abbrev Arr := Nat → Nat → Option Bool
def putR (A : Arr) (i j : Nat) (b : Bool) : Arr := fun a c => if a = i ∧ c = j then some b else A a c
def sdR (A : Arr) (i j : Nat) : Arr := putR A i j ((A i j).getD false)
def ckR (A : Arr) (c : Ck3) : Arr := if c.w = "same" then sdR (sdR A c.o c.a) c.a c.o else if c.w = "upto" then sdR A c.a c.o else putR A c.o c.a true
def rArr (F : Ft) (i j : Nat) : Bool := match F.rs[i]?, F.rs[j]? with
  | some x, some y => !decide (i = j) && decide (x.e ≤ y.b) && decide (y.p ∈ ups F.h x.p)
  | _, _ => false
def arr0 (F : Ft) : Arr := fun i j => if rArr F i j = true then some false else none
def arr (F : Ft) : Arr := F.cs.foldl ckR (arr0 F)
def arrTo (F : Ft) (i j : Nat) : Arr := fun a b => if (a < i ∨ (a = i ∧ b < j)) ∧ rArr F a b = true then some false else none
theorem rArr_lt {F : Ft} {i j : Nat} (h : rArr F i j = true) : i < F.rs.length ∧ j < F.rs.length := by
  unfold rArr at h
  cases hi : F.rs[i]? with
  | none => rw [hi] at h; cases h
  | some x =>
    cases hj : F.rs[j]? with
    | none => rw [hi, hj] at h; cases h
    | some y => exact ⟨(List.getElem?_eq_some_iff.mp hi).1, (List.getElem?_eq_some_iff.mp hj).1⟩
theorem arrTo_zero (F : Ft) : arrTo F 0 0 = fun _ _ => none := by
  funext a b
  unfold arrTo
  rw [if_neg]
  rintro ⟨h | h, _⟩ <;> omega
theorem arrTo_yes {F : Ft} {i j : Nat} (h : rArr F i j = true) : putR (arrTo F i j) i j false = arrTo F i (j + 1) := by
  funext a b
  unfold putR arrTo
  by_cases e : a = i ∧ b = j
  · rw [if_pos e]
    obtain ⟨rfl, rfl⟩ := e
    rw [if_pos ⟨Or.inr ⟨rfl, Nat.lt_succ_self _⟩, h⟩]
  · rw [if_neg e]
    by_cases c : (a < i ∨ (a = i ∧ b < j)) ∧ rArr F a b = true
    · rw [if_pos c, if_pos ⟨c.1.imp id fun z => ⟨z.1, by omega⟩, c.2⟩]
    · rw [if_neg c, if_neg]
      rintro ⟨d, d2⟩
      refine c ⟨d.imp id fun z => ⟨z.1, ?_⟩, d2⟩
      have : b ≠ j := fun z2 => e ⟨z.1, z2⟩
      omega
theorem arrTo_no {F : Ft} {i j : Nat} (h : rArr F i j = false) : arrTo F i (j + 1) = arrTo F i j := by
  funext a b
  unfold arrTo
  by_cases c : (a < i ∨ (a = i ∧ b < j)) ∧ rArr F a b = true
  · rw [if_pos c, if_pos ⟨c.1.imp id fun z => ⟨z.1, by omega⟩, c.2⟩]
  · rw [if_neg c, if_neg]
    rintro ⟨d, d2⟩
    refine c ⟨d.imp id fun z => ⟨z.1, ?_⟩, d2⟩
    have : b ≠ j := fun z2 => by
      rw [z.1, z2] at d2
      rw [h] at d2
      cases d2
    omega
theorem arrTo_next (F : Ft) (i : Nat) : arrTo F i F.rs.length = arrTo F (i + 1) 0 := by
  funext a b
  unfold arrTo
  by_cases c : (a < i ∨ (a = i ∧ b < F.rs.length)) ∧ rArr F a b = true
  · rw [if_pos c, if_pos ⟨Or.inl (by rcases c.1 with d | d <;> omega), c.2⟩]
  · rw [if_neg c, if_neg]
    rintro ⟨d, d2⟩
    have := rArr_lt d2
    refine c ⟨?_, d2⟩
    rcases d with d | d <;> omega
theorem arrTo_all (F : Ft) : arrTo F F.rs.length 0 = arr0 F := by
  funext a b
  unfold arrTo arr0
  by_cases c : rArr F a b = true
  · rw [if_pos c, if_pos ⟨Or.inl (rArr_lt c).1, c⟩]
  · rw [if_neg c, if_neg fun z => c z.2]
theorem sdR_some {A : Arr} {i j : Nat} {b : Bool} (h : A i j = some b) : sdR A i j = A := by
  funext a c
  unfold sdR putR
  by_cases e : a = i ∧ c = j
  · rw [if_pos e, e.1, e.2, h]
    rfl
  · rw [if_neg e]
theorem sdR_none {A : Arr} {i j : Nat} (h : A i j = none) : sdR A i j = putR A i j false := by
  unfold sdR
  rw [h]
  rfl
theorem sdR_comm (A : Arr) (i j k l : Nat) : sdR (sdR A i j) k l = sdR (sdR A k l) i j := by
  funext a c
  unfold sdR putR
  by_cases h1 : a = i ∧ c = j
  · by_cases h2 : a = k ∧ c = l
    · obtain ⟨rfl, rfl⟩ := h1
      obtain ⟨rfl, rfl⟩ := h2
      rfl
    · have h3 : ¬ (i = k ∧ j = l) := fun z => h2 ⟨h1.1.trans z.1, h1.2.trans z.2⟩
      simp only [if_pos h1, if_neg h2, if_neg h3]
  · by_cases h2 : a = k ∧ c = l
    · have h3 : ¬ (k = i ∧ l = j) := fun z => h1 ⟨h2.1.trans z.1, h2.2.trans z.2⟩
      simp only [if_pos h2, if_neg h1, if_neg h3]
    · simp only [if_neg h1, if_neg h2]
structure RepA (al : AL Bool) (A : Arr) (n : Nat) : Prop where
  get : ∀ i j, getA al (i, j) = A i j
  nd : (al.map (·.1)).Nodup
  lt : ∀ p ∈ al.map (·.1), p.1 < n ∧ p.2 < n
theorem RepA.put {al : AL Bool} {A : Arr} {n i j : Nat} (h : RepA al A n) (hi : i < n) (hj : j < n) (b : Bool) : RepA (putA al (i, j) b) (putR A i j b) n := by
  refine ⟨fun a c => ?_, put_nodup h.nd, fun p hp => ?_⟩
  · rw [getA_put]
    unfold putR
    by_cases e : a = i ∧ c = j
    · rw [if_pos e, if_pos (by rw [e.1, e.2])]
    · rw [if_neg e, if_neg (fun z => e ⟨congrArg Prod.fst z, congrArg Prod.snd z⟩), h.get]
  · rcases put_keys_mem hp with rfl | q
    · exact ⟨hi, hj⟩
    · exact h.lt p q
theorem RepA.nil (n : Nat) : RepA [] (fun _ _ => none) n := ⟨fun _ _ => rfl, List.nodup_nil, fun p hp => by cases hp⟩
theorem RepA.bd {al : AL Bool} {A : Arr} {n : Nat} (h : RepA al A n) : ∀ i j s, A i j = some s → i < n ∧ j < n := fun i j s e => by
  rw [← h.get] at e
  exact h.lt _ (mem_of_getA e)
/-- the dict of arrows, new since H0 -/
structure DA (H0 : Hp) (d : Addr) (A : Arr) (n : Nat) (H : Hp) : Prop where
  nw : H0 d = none
  sm : Same H0 H
  di : ∃ al, H d = some (.dT (kvsOf V.bl al)) ∧ RepA al A n
theorem DA.same {H0 H H' : Hp} {d : Addr} {A : Arr} {n : Nat} (h : DA H0 d A n H) (e : Same H H') : DA H0 d A n H' := by
  obtain ⟨al, h1, h2⟩ := h.di
  exact ⟨h.nw, h.sm.trans e, al, e _ _ h1, h2⟩
theorem DA.put {H0 H : Hp} {d t : Addr} {A : Arr} {n i j : Nat} (h : DA H0 d A n H) (hn : n ≤ 8) (hi : i < n) (hj : j < n) (ht : H t = some (.tup [.int (i : Int), .int (j : Int)])) (b : Bool) :
    ∃ H4, DPut H d (.ref t) (.bl b) H4 ∧ DA H0 d (putR A i j b) n H4 := by
  obtain ⟨al, h1, h2⟩ := h.di
  refine ⟨_, DPut.t (k := kk (i, j)) (v := .bl b) h1 ht ?_, h.nw, Same.mut h.sm h.nw, putA al (i, j) b, ?_, h2.put hi hj b⟩
  · rw [len_kvs]
    exact Nat.lt_of_le_of_lt (al_len h2.nd h2.lt hn) (by decide)
  · rw [upd_same]
    exact congrArg (fun x => some (HO.dT x)) (putK_kvs V.bl al (i, j) b)
theorem DA.get {H0 H : Hp} {d t : Addr} {A : Arr} {n i j : Nat} (h : DA H0 d A n H) (ht : H t = some (.tup [.int (i : Int), .int (j : Int)])) : DGet H d (.ref t) ((A i j).map V.bl) := by
  obtain ⟨al, h1, h2⟩ := h.di
  have := DGet.t (k := kk (i, j)) h1 ht
  rw [valV_kvs, h2.get] at this
  exact this
theorem DA.isD {H0 H : Hp} {d : Addr} {A : Arr} {n : Nat} (h : DA H0 d A n H) : IsD H d := by
  obtain ⟨al, h1, h2⟩ := h.di
  exact .inr ⟨_, .inl h1⟩
theorem DA.setd {H0 H : Hp} {d t : Addr} {A : Arr} {n i j : Nat} (h : DA H0 d A n H) (hn : n ≤ 8) (hi : i < n) (hj : j < n) (ht : H t = some (.tup [.int (i : Int), .int (j : Int)])) {Q : VK} (q : ∀ v H', DA H0 d (sdR A i j) n H' → Q v H') :
    ∃ (kvs : List (List Key × V)) (k : List Key) (b : Addr), H d = some (.dT kvs) ∧ V.ref t = V.ref b ∧ H b = some (.tup (k.map kV)) ∧ kvs.length < sizeLine ∧ (∀ v, valV kvs k = some v → Q v H) ∧ (valV kvs k = none → Q (.bl false) (upd H d (.dT (putK kvs k (.bl false))))) := by
  obtain ⟨al, h1, h2⟩ := h.di
  refine ⟨_, kk (i, j), t, h1, rfl, ht, ?_, fun v e => ?_, fun e => ?_⟩
  · rw [len_kvs]
    exact Nat.lt_of_le_of_lt (al_len h2.nd h2.lt hn) (by decide)
  · rw [valV_kvs, h2.get] at e
    cases ea : A i j with
    | none => rw [ea] at e; cases e
    | some b => exact q v H (by rw [sdR_some ea]; exact h)
  · rw [valV_kvs, h2.get] at e
    cases ea : A i j with
    | some b => rw [ea] at e; cases e
    | none =>
      refine q _ _ ?_
      rw [sdR_none ea]
      refine ⟨h.nw, Same.mut h.sm h.nw, putA al (i, j) false, ?_, h2.put hi hj false⟩
      rw [upd_same]
      exact congrArg (fun x => some (HO.dT x)) (putK_kvs V.bl al (i, j) false)
end W24
set_option maxHeartbeats 4000000
/-! M4: plain mathematics: classes by a relation of equals; runs of bytes, their normal form, gaps, sums. -/
namespace W24
/-! ### classes -/
def addTo (e : Nat → Nat → Bool) (k : Nat) : List (List Nat) → List (List Nat)
  | [] => [[k]]
  | c :: r => if e (c.headD 0) k = true then (c ++ [k]) :: r else c :: addTo e k r
def classesL (e : Nat → Nat → Bool) (n : Nat) : List (List Nat) := (List.range n).foldl (fun cs k => addTo e k cs) []
def matesL (e : Nat → Nat → Bool) (n k : Nat) : List Nat := (List.range n).filter fun j => e j k
def groupsL (e : Nat → Nat → Bool) (n m : Nat) : List (List Nat) := (List.range m).foldl (fun gs k => if matesL e n k ∈ gs then gs else gs ++ [matesL e n k]) []
structure Eqv (e : Nat → Nat → Bool) (n : Nat) : Prop where
  rf : ∀ i, i < n → e i i = true
  sy : ∀ i j, e i j = e j i
  tr : ∀ i j k, i < n → j < n → k < n → e i j = true → e j k = true → e i k = true
def least (e : Nat → Nat → Bool) (j : Nat) : Bool := (List.range j).all fun i => !e i j
def repsL (e : Nat → Nat → Bool) (k : Nat) : List Nat := (List.range k).filter (least e)
section
variable {e : Nat → Nat → Bool} {n : Nat}
theorem least_iff {j : Nat} : least e j = true ↔ ∀ i, i < j → e i j = false := by
  unfold least
  rw [List.all_eq_true]
  constructor
  · intro h i hi
    have := h i (List.mem_range.mpr hi)
    simpa using this
  · intro h i hi
    rw [h i (List.mem_range.mp hi)]
    rfl
theorem reps_mem {k j : Nat} : j ∈ repsL e k ↔ j < k ∧ least e j = true := by
  unfold repsL
  rw [List.mem_filter, List.mem_range]
theorem reps_succ (k : Nat) : repsL e (k + 1) = repsL e k ++ if least e k = true then [k] else [] := by
  unfold repsL
  rw [List.range_succ, List.filter_append]
  congr 1
  by_cases h : least e k = true
  · rw [if_pos h, List.filter_cons_of_pos h]
    rfl
  · rw [if_neg h, List.filter_cons_of_neg h]
    rfl
theorem has_least : ∀ (k : Nat), (∃ i, i < k ∧ e i k = true) → ∃ i, i < k ∧ e i k = true ∧ ∀ j, j < i → e j k = false := by
  intro k ⟨i, hi, h⟩
  induction i using Nat.strongRecOn with
  | ind i ih =>
    by_cases c : ∃ j, j < i ∧ e j k = true
    · obtain ⟨j, hj, h2⟩ := c
      exact ih j hj (by omega) h2
    · refine ⟨i, hi, h, fun j hj => ?_⟩
      cases x : e j k with
      | false => rfl
      | true => exact absurd ⟨j, hj, x⟩ c
/-- k has an equal below it iff a representative below is equal to it -/
theorem rep_of (E : Eqv e n) {k : Nat} (hk : k < n) (h : least e k = false) : ∃ j, j ∈ repsL e k ∧ e j k = true := by
  have hx : ∃ i, i < k ∧ e i k = true := by
    refine Classical.byContradiction fun c => ?_
    have : least e k = true := least_iff.mpr fun i hi => by
      cases x : e i k with
      | false => rfl
      | true => exact absurd ⟨i, hi, x⟩ c
    rw [h] at this
    cases this
  obtain ⟨i, hi, h1, h2⟩ := has_least k hx
  refine ⟨i, reps_mem.mpr ⟨hi, least_iff.mpr fun j hj => ?_⟩, h1⟩
  cases x : e j i with
  | false => rfl
  | true =>
    have := E.tr j i k (by omega) (by omega) hk x h1
    rw [h2 j hj] at this
    cases this
theorem rep_uniq (E : Eqv e n) {k i j : Nat} (hk : k ≤ n) (hi : i ∈ repsL e k) (hj : j ∈ repsL e k) (h : e i j = true) : i = j := by
  obtain ⟨a, b⟩ := reps_mem.mp hi
  obtain ⟨c, d⟩ := reps_mem.mp hj
  rcases Nat.lt_trichotomy i j with l | l | l
  · rw [least_iff.mp d i l] at h
    cases h
  · exact l
  · rw [E.sy, least_iff.mp b j l] at h
    cases h
def partC (e : Nat → Nat → Bool) (k j : Nat) : List Nat := (List.range k).filter fun i => e i j
theorem part_succ (k j : Nat) : partC e (k + 1) j = partC e k j ++ if e k j = true then [k] else [] := by
  unfold partC
  rw [List.range_succ, List.filter_append]
  congr 1
  by_cases h : e k j = true
  · rw [if_pos h, List.filter_cons_of_pos (p := fun i => e i j) h]
    rfl
  · rw [if_neg h, List.filter_cons_of_neg (p := fun i => e i j) h]
    rfl
theorem part_head (E : Eqv e n) {k j : Nat} (hk : k ≤ n) (hj : j ∈ repsL e k) : (partC e k j).headD 0 = j := by
  obtain ⟨a, b⟩ := reps_mem.mp hj
  have h : ∀ m, j < m → m ≤ k → (partC e m j).headD 0 = j := by
    intro m
    induction m with
    | zero => intro h; omega
    | succ m ih =>
      intro h1 h2
      rw [part_succ]
      by_cases c : j < m
      · have := ih c (by omega)
        have ne : partC e m j ≠ [] := fun z => by
          have : j ∈ partC e m j := by
            unfold partC
            rw [List.mem_filter]
            exact ⟨List.mem_range.mpr c, E.rf j (by omega)⟩
          rw [z] at this
          cases this
        cases hp : partC e m j with
        | nil => exact absurd hp ne
        | cons x r =>
          rw [hp] at this
          exact this
      · have hm : m = j := by omega
        subst hm
        have : partC e m m = [] := by
          unfold partC
          rw [List.filter_eq_nil_iff]
          intro i hi
          rw [least_iff.mp b i (List.mem_range.mp hi)]
          decide
        rw [this, if_pos (E.rf m (by omega))]
        rfl
  exact h k a (Nat.le_refl _)
theorem addTo_map (E : Eqv e n) {k : Nat} (hk : k < n) : ∀ (R : List Nat), (∀ j ∈ R, j < k ∧ (partC e k j).headD 0 = j) → R.Pairwise (fun i j => e i j = false) →
    addTo e k (R.map (partC e k)) = R.map (partC e (k + 1)) ++ if (R.any fun j => e j k) = true then [] else [[k]]
  | [], _, _ => rfl
  | j :: R, h, pw => by
    rw [List.pairwise_cons] at pw
    obtain ⟨hj, hh⟩ := h j List.mem_cons_self
    show (if e ((partC e k j).headD 0) k = true then (partC e k j ++ [k]) :: R.map (partC e k) else partC e k j :: addTo e k (R.map (partC e k))) = _
    rw [hh]
    by_cases c : e j k = true
    · rw [if_pos c, List.any_cons, c, Bool.true_or, if_pos rfl, List.append_nil, List.map_cons, part_succ, if_pos (by rw [E.sy]; exact c)]
      congr 1
      refine List.map_congr_left fun i hi => ?_
      rw [part_succ]
      have : e k i = false := by
        cases x : e k i with
        | false => rfl
        | true =>
          have := E.tr j k i (by omega) hk (by have := (h i (List.mem_cons_of_mem _ hi)).1; omega) c x
          rw [pw.1 i hi] at this
          cases this
      rw [this]
      simp
    · rw [if_neg c, addTo_map E hk R (fun i hi => h i (List.mem_cons_of_mem _ hi)) pw.2, List.any_cons]
      have c' : e j k = false := by
        cases x : e j k with
        | false => rfl
        | true => exact absurd x c
      have c2 : e k j = false := by rw [E.sy]; exact c'
      rw [c', Bool.false_or, List.map_cons, show partC e (k + 1) j = partC e k j by rw [part_succ, c2]; simp]
      rfl
theorem reps_pw (E : Eqv e n) {k : Nat} (hk : k ≤ n) : (repsL e k).Pairwise fun i j => e i j = false := by
  have nd : (repsL e k).Nodup := List.Nodup.sublist (List.filter_sublist) List.nodup_range
  refine List.Pairwise.imp_of_mem (R := fun a b => a ≠ b) (fun {a b} ha hb hne => ?_) nd
  cases x : e a b with
  | false => rfl
  | true => exact absurd (rep_uniq E hk ha hb x) hne
theorem any_rep (E : Eqv e n) {k : Nat} (hk : k < n) : ((repsL e k).any fun j => e j k) = !least e k := by
  cases h : least e k with
  | false =>
    obtain ⟨j, a, b⟩ := rep_of E hk h
    rw [List.any_eq_true.mpr ⟨j, a, b⟩]
    rfl
  | true =>
    rw [show ((repsL e k).any fun j => e j k) = false from List.any_eq_false.mpr fun j hj => by
      rw [least_iff.mp h j (reps_mem.mp hj).1]
      decide]
    rfl
theorem classes_eq (E : Eqv e n) : ∀ k, k ≤ n → (List.range k).foldl (fun cs k => addTo e k cs) [] = (repsL e k).map (partC e k)
  | 0, _ => rfl
  | k + 1, hk => by
    rw [List.range_succ, List.foldl_append, classes_eq E k (by omega)]
    show addTo e k ((repsL e k).map (partC e k)) = _
    rw [addTo_map E (by omega) _ (fun j hj => ⟨(reps_mem.mp hj).1, part_head E (by omega) hj⟩) (reps_pw E (by omega)), any_rep E (by omega), reps_succ, List.map_append]
    congr 1
    cases h : least e k with
    | false => rfl
    | true =>
      show [[k]] = [partC e (k + 1) k]
      rw [part_succ, if_pos (E.rf k (by omega))]
      have : partC e k k = [] := by
        unfold partC
        rw [List.filter_eq_nil_iff]
        intro i hi
        rw [least_iff.mp h i (List.mem_range.mp hi)]
        decide
      rw [this]
      rfl
theorem mates_mem {k j : Nat} : j ∈ matesL e n k ↔ j < n ∧ e j k = true := by
  unfold matesL
  rw [List.mem_filter, List.mem_range]
theorem mates_same (E : Eqv e n) {i j : Nat} (hi : i < n) (hj : j < n) : matesL e n i = matesL e n j ↔ e i j = true := by
  constructor
  · intro h
    have : i ∈ matesL e n i := mates_mem.mpr ⟨hi, E.rf i hi⟩
    rw [h] at this
    exact (mates_mem.mp this).2
  · intro h
    unfold matesL
    refine List.filter_congr fun a ha => ?_
    have ha := List.mem_range.mp ha
    cases x : e a i with
    | true => rw [E.tr a i j ha hi hj x h]
    | false =>
      cases y : e a j with
      | false => rfl
      | true =>
        rw [E.tr a j i ha hj hi y (by rw [E.sy]; exact h)] at x
        cases x
theorem groups_eq (E : Eqv e n) : ∀ k, k ≤ n → groupsL e n k = (repsL e k).map (matesL e n)
  | 0, _ => rfl
  | k + 1, hk => by
    have ih := groups_eq E k (by omega)
    unfold groupsL at ih ⊢
    rw [List.range_succ, List.foldl_append, ih]
    show (if matesL e n k ∈ (repsL e k).map (matesL e n) then (repsL e k).map (matesL e n) else (repsL e k).map (matesL e n) ++ [matesL e n k]) = _
    rw [reps_succ, List.map_append]
    cases h : least e k with
    | false =>
      obtain ⟨j, a, b⟩ := rep_of E (by omega) h
      rw [if_pos (List.mem_map.mpr ⟨j, a, (mates_same E (by have := (reps_mem.mp a).1; omega) (by omega)).mpr b⟩)]
      simp
    | true =>
      rw [if_neg]
      · rfl
      · intro hm
        obtain ⟨j, a, b⟩ := List.mem_map.mp hm
        have := (reps_mem.mp a).1
        have b := (mates_same E (by omega) (by omega)).mp b
        rw [least_iff.mp h j this] at b
        cases b
/-- THE CLASSES: the program's and the law's are the same list -/
theorem classes_groups (E : Eqv e n) : classesL e n = groupsL e n n := by
  unfold classesL
  rw [classes_eq E n (Nat.le_refl _), groups_eq E n (Nat.le_refl _)]
  rfl
theorem groups_has (E : Eqv e n) {k : Nat} (hk : k < n) : matesL e n k ∈ groupsL e n n := by
  rw [groups_eq E n (Nat.le_refl _), List.mem_map]
  cases h : least e k with
  | true => exact ⟨k, reps_mem.mpr ⟨hk, h⟩, rfl⟩
  | false =>
    obtain ⟨j, a, b⟩ := rep_of E hk h
    obtain ⟨c, d⟩ := reps_mem.mp a
    exact ⟨j, reps_mem.mpr ⟨by omega, d⟩, (mates_same E (by omega) hk).mpr b⟩
theorem groups_of (E : Eqv e n) {g : List Nat} (h : g ∈ groupsL e n n) : ∃ k, k < n ∧ g = matesL e n k := by
  rw [groups_eq E n (Nat.le_refl _), List.mem_map] at h
  obtain ⟨k, a, b⟩ := h
  exact ⟨k, (reps_mem.mp a).1, b.symm⟩
theorem groups_len (E : Eqv e n) : (groupsL e n n).length ≤ n := by
  rw [groups_eq E n (Nat.le_refl _), List.length_map]
  have := List.length_filter_le (least e) (List.range n)
  rw [List.length_range] at this
  exact this
theorem groups_ne (E : Eqv e n) (hn : 0 < n) : groupsL e n n ≠ [] := fun h => by
  have := groups_has E hn
  rw [h] at this
  cases this
theorem mates_len (k : Nat) : (matesL e n k).length ≤ n := by
  have := List.length_filter_le (fun j => e j k) (List.range n)
  rw [List.length_range] at this
  exact this
theorem classes_congr {e' : Nat → Nat → Bool} (h : ∀ i j, i < n → j < n → e i j = e' i j) : ∀ k, k ≤ n → (List.range k).foldl (fun cs k => addTo e k cs) [] = (List.range k).foldl (fun cs k => addTo e' k cs) [] ∧ ∀ c ∈ (List.range k).foldl (fun cs k => addTo e k cs) [], c ≠ [] ∧ ∀ x ∈ c, x < k
  | 0, _ => ⟨rfl, fun c hc => by cases hc⟩
  | k + 1, hk => by
    obtain ⟨h1, h2⟩ := classes_congr h k (by omega)
    rw [List.range_succ, List.foldl_append, List.foldl_append, ← h1]
    generalize (List.range k).foldl (fun cs k => addTo e k cs) [] = cs at h2
    have aux : ∀ cs : List (List Nat), (∀ c ∈ cs, c ≠ [] ∧ ∀ x ∈ c, x < k) → addTo e k cs = addTo e' k cs ∧ ∀ c ∈ addTo e k cs, c ≠ [] ∧ ∀ x ∈ c, x < k + 1 := by
      intro cs
      induction cs with
      | nil =>
        intro _
        refine ⟨rfl, fun c hc => ?_⟩
        have : c = [k] := by simpa [addTo] using hc
        subst this
        exact ⟨by simp, fun x hx => by have : x = k := by simpa using hx
                                       omega⟩
      | cons c r ih =>
        intro hc
        obtain ⟨a, b⟩ := ih fun d hd => hc d (List.mem_cons_of_mem _ hd)
        obtain ⟨c1, c2⟩ := hc c List.mem_cons_self
        have hd : c.headD 0 < k := by
          cases c with
          | nil => exact absurd rfl c1
          | cons x t => exact c2 x List.mem_cons_self
        unfold addTo
        rw [h _ k (by omega) (by omega), a]
        refine ⟨rfl, fun d hd => ?_⟩
        by_cases z : e' (c.headD 0) k = true
        · rw [if_pos z] at hd
          rcases List.mem_cons.mp hd with rfl | hd
          · refine ⟨by simp, fun x hx => ?_⟩
            rcases List.mem_append.mp hx with q | q
            · have := c2 x q; omega
            · have : x = k := by simpa using q
              omega
          · obtain ⟨q1, q2⟩ := hc d (List.mem_cons_of_mem _ hd)
            exact ⟨q1, fun x hx => by have := q2 x hx; omega⟩
        · rw [if_neg z, ← a] at hd
          rcases List.mem_cons.mp hd with rfl | hd
          · exact ⟨c1, fun x hx => by have := c2 x hx; omega⟩
          · exact b d hd
    exact aux cs h2
end
/-! ### runs -/
abbrev Prs := List (Nat × Nat)
def Nrm (l : Prs) : Prop := l.Pairwise (fun x y => x.2 < y.1) ∧ ∀ x ∈ l, x.1 < x.2
def cov (l : Prs) (k : Nat) : Bool := l.any fun p => decide (p.1 ≤ k) && decide (k < p.2)
def stepR (p : Nat → Bool) (acc : Prs) (k : Nat) : Prs := if (p k && (k == 0 || !p (k - 1))) = true then acc ++ [(k, k + 1)] else if p k = true then acc.dropLast ++ [((acc.getLastD (0, 0)).1, k + 1)] else acc
def runsL (p : Nat → Bool) (n : Nat) : Prs := (List.range n).foldl (stepR p) []
def sumP (l : Prs) : Nat := (l.map fun p => p.2 - p.1).sum
theorem cov_append (l m : Prs) (k : Nat) : cov (l ++ m) k = (cov l k || cov m k) := List.any_append
theorem cov_cons (x : Nat × Nat) (l : Prs) (k : Nat) : cov (x :: l) k = ((decide (x.1 ≤ k) && decide (k < x.2)) || cov l k) := rfl
theorem cov_iff {l : Prs} {k : Nat} : cov l k = true ↔ ∃ x ∈ l, x.1 ≤ k ∧ k < x.2 := by
  unfold cov
  rw [List.any_eq_true]
  simp
theorem cov_no {l : Prs} {k : Nat} (h : ∀ x ∈ l, k < x.1 ∨ x.2 ≤ k) : cov l k = false := by
  cases c : cov l k with
  | false => rfl
  | true =>
    obtain ⟨x, hx, a, b⟩ := cov_iff.mp c
    rcases h x hx with z | z <;> omega
theorem nrm_tail {x : Nat × Nat} {l : Prs} (h : Nrm (x :: l)) : Nrm l ∧ x.1 < x.2 ∧ ∀ y ∈ l, x.2 < y.1 := by
  obtain ⟨a, b⟩ := h
  rw [List.pairwise_cons] at a
  exact ⟨⟨a.2, fun y hy => b y (List.mem_cons_of_mem _ hy)⟩, b x List.mem_cons_self, a.1⟩
theorem nrm_uniq : ∀ (l m : Prs), Nrm l → Nrm m → (∀ k, cov l k = cov m k) → l = m
  | [], [], _, _, _ => rfl
  | [], y :: m, _, hm, h => by
    obtain ⟨_, a, _⟩ := nrm_tail hm
    have := h y.1
    rw [cov_cons, decide_eq_true (Nat.le_refl _), decide_eq_true a] at this
    cases this
  | x :: l, [], hl, _, h => by
    obtain ⟨_, a, _⟩ := nrm_tail hl
    have := h x.1
    rw [cov_cons, decide_eq_true (Nat.le_refl _), decide_eq_true a] at this
    cases this
  | x :: l, y :: m, hl, hm, h => by
    obtain ⟨l1, l2, l3⟩ := nrm_tail hl
    obtain ⟨m1, m2, m3⟩ := nrm_tail hm
    have k1 : ∀ k, k < x.1 ∨ k = x.2 → cov (x :: l) k = false := fun k hk => cov_no fun z hz => by
      rcases List.mem_cons.mp hz with rfl | hz
      · omega
      · have := l3 z hz; omega
    have k2 : ∀ k, k < y.1 ∨ k = y.2 → cov (y :: m) k = false := fun k hk => cov_no fun z hz => by
      rcases List.mem_cons.mp hz with rfl | hz
      · omega
      · have := m3 z hz; omega
    have k3 : ∀ k, x.1 ≤ k → k < x.2 → cov (x :: l) k = true := fun k a b => cov_iff.mpr ⟨x, List.mem_cons_self, a, b⟩
    have k4 : ∀ k, y.1 ≤ k → k < y.2 → cov (y :: m) k = true := fun k a b => cov_iff.mpr ⟨y, List.mem_cons_self, a, b⟩
    have e1 : x.1 = y.1 := by
      rcases Nat.lt_trichotomy x.1 y.1 with c | c | c
      · have := h x.1
        rw [k3 _ (Nat.le_refl _) l2, k2 _ (.inl c)] at this
        cases this
      · exact c
      · have := h y.1
        rw [k4 _ (Nat.le_refl _) m2, k1 _ (.inl c)] at this
        cases this
    have e2 : x.2 = y.2 := by
      rcases Nat.lt_trichotomy x.2 y.2 with c | c | c
      · have := h x.2
        rw [k1 _ (.inr rfl), k4 _ (by omega) c] at this
        cases this
      · exact c
      · have := h y.2
        rw [k2 _ (.inr rfl), k3 _ (by omega) c] at this
        cases this
    have exy : x = y := by
      obtain ⟨x1, x2⟩ := x
      obtain ⟨y1, y2⟩ := y
      simp only at e1 e2
      rw [e1, e2]
    subst exy
    rw [nrm_uniq l m l1 m1 fun k => ?_]
    by_cases c : x.2 ≤ k
    · have := h k
      rw [cov_cons, cov_cons, decide_eq_false (p := k < x.2) (by omega), Bool.and_false, Bool.false_or, Bool.false_or] at this
      exact this
    · rw [cov_no fun z hz => .inl (by have := l3 z hz; omega), cov_no fun z hz => .inl (by have := m3 z hz; omega)]
structure RunF (p : Nat → Bool) (n : Nat) (l : Prs) : Prop where
  nrm : Nrm l
  cv : ∀ k, cov l k = (decide (k < n) && p k)
  le : ∀ x ∈ l, x.2 ≤ n
  last : 0 < n → p (n - 1) = true → ∃ ys b, l = ys ++ [(b, n)]
  str : (n = 0 ∨ p (n - 1) = false) → ∀ x ∈ l, x.2 < n
  sum : sumP l = ((List.range n).filter p).length
theorem sumP_append (l m : Prs) : sumP (l ++ m) = sumP l + sumP m := by
  unfold sumP
  rw [List.map_append, List.sum_append]
theorem runs_ok (p : Nat → Bool) : ∀ n, RunF p n (runsL p n)
  | 0 => ⟨⟨List.Pairwise.nil, fun x hx => (by cases hx)⟩, fun k => rfl, fun x hx => (by cases hx), fun h => (by omega), fun _ x hx => (by cases hx), rfl⟩
  | n + 1 => by
    obtain ⟨h1, h2, h3, h4, h5, h6⟩ := runs_ok p n
    have e : runsL p (n + 1) = stepR p (runsL p n) n := by
      unfold runsL
      rw [List.range_succ, List.foldl_append]
      rfl
    rw [e]
    generalize runsL p n = l at *
    have hcount : ((List.range (n + 1)).filter p).length = ((List.range n).filter p).length + if p n = true then 1 else 0 := by
      rw [List.range_succ, List.filter_append, List.length_append]
      by_cases c : p n = true
      · rw [List.filter_cons_of_pos c, if_pos c]
        rfl
      · rw [List.filter_cons_of_neg c, if_neg c]
        rfl
    have hlt : ∀ k, k ≠ n → decide (k < n + 1) = decide (k < n) := fun k hk => by
      by_cases c : k < n
      · rw [decide_eq_true c, decide_eq_true (by omega)]
      · rw [decide_eq_false c, decide_eq_false (by omega)]
    cases hp : p n with
    | false =>
      have : stepR p l n = l := by
        unfold stepR
        rw [hp]
        rfl
      rw [this]
      refine ⟨h1, fun k => ?_, fun x hx => by have := h3 x hx; omega, fun _ z => ?_, fun _ x hx => by have := h3 x hx; omega, by rw [hcount, hp, h6]; rfl⟩
      · rw [h2]
        by_cases c : k = n
        · subst c
          rw [hp, Bool.and_false, Bool.and_false]
        · rw [hlt k c]
      · have z : p n = true := z
        rw [hp] at z
        cases z
    | true =>
      by_cases c : n = 0 ∨ p (n - 1) = false
      · have : stepR p l n = l ++ [(n, n + 1)] := by
          unfold stepR
          rw [if_pos]
          rw [hp]
          rcases c with c | c
          · subst c; rfl
          · rw [c]; simp
        rw [this]
        have s := h5 c
        refine ⟨⟨List.pairwise_append.mpr ⟨h1.1, List.pairwise_singleton _ _, fun x hx y hy => ?_⟩, fun x hx => ?_⟩, fun k => ?_, fun x hx => ?_, fun _ _ => ⟨l, n, rfl⟩, fun z => ?_, ?_⟩
        · rw [List.mem_singleton] at hy
          subst hy
          exact s x hx
        · rcases List.mem_append.mp hx with hx | hx
          · exact h1.2 x hx
          · rw [List.mem_singleton] at hx
            subst hx
            exact Nat.lt_succ_self _
        · rw [cov_append, h2]
          by_cases ck : k = n
          · subst ck
            rw [hp, decide_eq_true (Nat.lt_succ_self _), Bool.and_true]
            rw [cov_iff.mpr ⟨_, List.mem_singleton.mpr rfl, Nat.le_refl _, Nat.lt_succ_self _⟩, Bool.or_true]
            rfl
          · rw [hlt k ck, cov_no (l := [(n, n + 1)]) (fun x hx => by rw [List.mem_singleton] at hx; subst hx; show k < n ∨ n + 1 ≤ k; omega), Bool.or_false]
        · rcases List.mem_append.mp hx with hx | hx
          · have := h3 x hx; omega
          · rw [List.mem_singleton] at hx
            subst hx
            exact Nat.le_refl _
        · rcases z with z | z
          · omega
          · have z : p n = false := z
            rw [hp] at z
            cases z
        · rw [sumP_append, h6, hcount, if_pos hp]
          show _ + (n + 1 - n + 0) = _
          omega
      · have n0 : 0 < n := Nat.pos_of_ne_zero fun z => c (.inl z)
        have pn : p (n - 1) = true := by
          cases z : p (n - 1) with
          | true => rfl
          | false => exact absurd (.inr z) c
        obtain ⟨ys, b, rfl⟩ := h4 n0 pn
        have : stepR p (ys ++ [(b, n)]) n = ys ++ [(b, n + 1)] := by
          unfold stepR
          rw [if_neg (by rw [hp, pn]; simp; omega), if_pos hp, List.dropLast_concat, List.getLastD_concat]
        rw [this]
        have pw := List.pairwise_append.mp h1.1
        refine ⟨⟨List.pairwise_append.mpr ⟨pw.1, List.pairwise_singleton _ _, fun x hx y hy => ?_⟩, fun x hx => ?_⟩, fun k => ?_, fun x hx => ?_, fun _ _ => ⟨ys, b, rfl⟩, fun z => ?_, ?_⟩
        · rw [List.mem_singleton] at hy
          subst hy
          exact pw.2.2 x hx (b, n) (List.mem_singleton.mpr rfl)
        · rcases List.mem_append.mp hx with hx' | hx'
          · exact h1.2 x (List.mem_append_left _ hx')
          · rw [List.mem_singleton] at hx'
            subst hx'
            have := h1.2 (b, n) (List.mem_append_right _ (List.mem_singleton.mpr rfl))
            exact Nat.lt_succ_of_lt this
        · have hb : b < n := h1.2 (b, n) (List.mem_append_right _ (List.mem_singleton.mpr rfl))
          have a := h2 k
          rw [cov_append] at a ⊢
          by_cases ck : k = n
          · subst ck
            rw [hp, decide_eq_true (Nat.lt_succ_self _), Bool.and_true]
            rw [cov_iff.mpr ⟨_, List.mem_singleton.mpr rfl, Nat.le_of_lt hb, Nat.lt_succ_self _⟩, Bool.or_true]
          · rw [hlt k ck, ← a]
            congr 1
            show ((decide (b ≤ k) && decide (k < n + 1)) || false) = ((decide (b ≤ k) && decide (k < n)) || false)
            rw [hlt k ck]
        · rcases List.mem_append.mp hx with hx | hx
          · have := h3 x (List.mem_append_left _ hx); omega
          · rw [List.mem_singleton] at hx
            subst hx
            exact Nat.le_refl _
        · rcases z with z | z
          · omega
          · have z : p n = false := z
            rw [hp] at z
            cases z
        · have hb : b < n := h1.2 (b, n) (List.mem_append_right _ (List.mem_singleton.mpr rfl))
          rw [sumP_append] at h6 ⊢
          rw [hcount, if_pos hp, ← h6]
          show _ + (n + 1 - b + 0) = _ + (n - b + 0) + 1
          omega
/-- what is normal and covers just that is the runs -/
theorem runs_uniq {p : Nat → Bool} {n : Nat} {l : Prs} (h : Nrm l) (c : ∀ k, cov l k = (decide (k < n) && p k)) : l = runsL p n :=
  nrm_uniq _ _ h (runs_ok p n).nrm fun k => by rw [c, (runs_ok p n).cv]
/-! ### the program's merging -/
def mergeP (acc : Prs) (x : Nat × Nat) : Prs := if acc ≠ [] ∧ x.1 ≤ (acc.getLastD (0, 0)).2 then acc.dropLast ++ [((acc.getLastD (0, 0)).1, max (acc.getLastD (0, 0)).2 x.2)] else acc ++ [x]
theorem snoc_cases {α : Type} (l : List α) : l = [] ∨ ∃ ys y, l = ys ++ [y] := by
  rcases l.eq_nil_or_concat with h | ⟨ys, y, h⟩
  · exact .inl h
  · exact .inr ⟨ys, y, by rw [h, List.concat_eq_append]⟩
structure MrgF (done acc : Prs) : Prop where
  nrm : Nrm acc
  cv : ∀ k, cov acc k = cov done k
  lo : ∀ ys y, acc = ys ++ [y] → ∃ x ∈ done, x.1 = y.1 ∨ x.1 ≥ y.1
  ge : ∀ ys y, acc = ys ++ [y] → ∃ x ∈ done, y.1 ≤ x.1
theorem merge_step {done acc : Prs} {x : Nat × Nat} (h : Nrm acc) (cv : ∀ k, cov acc k = cov done k) (hx : x.1 < x.2) (srt : ∀ y ∈ acc, y.1 ≤ x.1) :
    Nrm (mergeP acc x) ∧ (∀ k, cov (mergeP acc x) k = cov (done ++ [x]) k) ∧ ∀ y ∈ mergeP acc x, y.1 ≤ x.1 := by
  rcases snoc_cases acc with rfl | ⟨ys, y, rfl⟩
  · have : mergeP [] x = [x] := by
      unfold mergeP
      rw [if_neg (fun z => z.1 rfl)]
      rfl
    rw [this]
    refine ⟨⟨List.pairwise_singleton _ _, fun z hz => ?_⟩, fun k => ?_, fun z hz => ?_⟩
    · rw [List.mem_singleton] at hz; subst hz; exact hx
    · rw [cov_append, ← cv k]; rfl
    · rw [List.mem_singleton] at hz; subst hz; exact Nat.le_refl _
  · have pw := List.pairwise_append.mp h.1
    have hy := h.2 y (List.mem_append_right _ (List.mem_singleton.mpr rfl))
    have sy := srt y (List.mem_append_right _ (List.mem_singleton.mpr rfl))
    unfold mergeP
    rw [List.getLastD_concat, List.dropLast_concat]
    by_cases c : x.1 ≤ y.2
    · rw [if_pos ⟨by simp, c⟩]
      refine ⟨⟨List.pairwise_append.mpr ⟨pw.1, List.pairwise_singleton _ _, fun a ha b hb => ?_⟩, fun a ha => ?_⟩, fun k => ?_, fun a ha => ?_⟩
      · rw [List.mem_singleton] at hb
        subst hb
        exact pw.2.2 a ha y (List.mem_singleton.mpr rfl)
      · rcases List.mem_append.mp ha with ha | ha
        · exact h.2 a (List.mem_append_left _ ha)
        · rw [List.mem_singleton] at ha
          subst ha
          show y.1 < max y.2 x.2
          omega
      · rw [cov_append, cov_append, ← cv k, cov_append, Bool.or_assoc]
        congr 1
        show ((decide (y.1 ≤ k) && decide (k < max y.2 x.2)) || false) = (((decide (y.1 ≤ k) && decide (k < y.2)) || false) || ((decide (x.1 ≤ k) && decide (k < x.2)) || false))
        by_cases a1 : y.1 ≤ k
        · by_cases a2 : k < y.2
          · simp [a1, a2]; omega
          · by_cases a3 : k < x.2
            · simp [a1, a2, a3]; omega
            · simp [a1, a2, a3]
              omega
        · simp [a1]
          omega
      · rcases List.mem_append.mp ha with ha | ha
        · exact srt a (List.mem_append_left _ ha)
        · rw [List.mem_singleton] at ha
          subst ha
          exact sy
    · rw [if_neg fun z => c z.2]
      refine ⟨⟨List.pairwise_append.mpr ⟨h.1, List.pairwise_singleton _ _, fun a ha b hb => ?_⟩, fun a ha => ?_⟩, fun k => ?_, fun a ha => ?_⟩
      · rw [List.mem_singleton] at hb
        subst hb
        rcases List.mem_append.mp ha with ha | ha
        · have := pw.2.2 a ha y (List.mem_singleton.mpr rfl)
          omega
        · rw [List.mem_singleton] at ha
          subst ha
          omega
      · rcases List.mem_append.mp ha with ha | ha
        · exact h.2 a ha
        · rw [List.mem_singleton] at ha; subst ha; exact hx
      · rw [cov_append (ys ++ [y]), cov_append done, cv k]
      · rcases List.mem_append.mp ha with ha | ha
        · exact srt a ha
        · rw [List.mem_singleton] at ha; subst ha; exact Nat.le_refl _
theorem merge_all : ∀ (todo done acc : Prs), Nrm acc → (∀ k, cov acc k = cov done k) → (∀ x ∈ todo, x.1 < x.2) → todo.Pairwise (fun x y => x.1 ≤ y.1) → (∀ y ∈ acc, ∀ x ∈ todo, y.1 ≤ x.1) →
    Nrm (todo.foldl mergeP acc) ∧ ∀ k, cov (todo.foldl mergeP acc) k = cov (done ++ todo) k
  | [], done, acc, h, cv, _, _, _ => ⟨h, fun k => by rw [List.append_nil]; exact cv k⟩
  | x :: todo, done, acc, h, cv, hx, pw, srt => by
    rw [List.pairwise_cons] at pw
    obtain ⟨a, b, c⟩ := merge_step h cv (hx x List.mem_cons_self) fun y hy => srt y hy x List.mem_cons_self
    have := merge_all todo (done ++ [x]) (mergeP acc x) a b (fun z hz => hx z (List.mem_cons_of_mem _ hz)) pw.2 fun y hy z hz => Nat.le_trans (c y hy) (pw.1 z hz)
    rw [List.append_assoc] at this
    exact this
/-- the program's cover of pairs in order -/
theorem merge_runs {l : Prs} {p : Nat → Bool} {n : Nat} (hx : ∀ x ∈ l, x.1 < x.2) (pw : l.Pairwise fun x y => x.1 ≤ y.1) (c : ∀ k, cov l k = (decide (k < n) && p k)) : l.foldl mergeP [] = runsL p n := by
  obtain ⟨a, b⟩ := merge_all l [] [] ⟨List.Pairwise.nil, fun x hx => by cases hx⟩ (fun _ => rfl) hx pw (fun y hy => by cases hy)
  exact runs_uniq a fun k => by rw [b]; exact c k
/-! ### gaps -/
def gB (size : Nat) : Nat → Prs → Prs
  | at_, [] => if at_ < size then [(at_, size)] else []
  | at_, x :: r => (if at_ < x.1 then [(at_, x.1)] else []) ++ gB size x.2 r
theorem gB_ok (size : Nat) : ∀ (l : Prs) (at_ : Nat), Nrm l → at_ ≤ size → (∀ x ∈ l, at_ ≤ x.1 ∧ x.2 ≤ size) → Nrm (gB size at_ l) ∧ (∀ x ∈ gB size at_ l, at_ ≤ x.1) ∧ ∀ k, cov (gB size at_ l) k = (decide (at_ ≤ k) && (decide (k < size) && !cov l k))
  | [], at_, _, ha, _ => by
    unfold gB
    by_cases c : at_ < size
    · rw [if_pos c]
      refine ⟨⟨List.pairwise_singleton _ _, fun x hx => ?_⟩, fun x hx => ?_, fun k => ?_⟩
      · rw [List.mem_singleton] at hx; subst hx; exact c
      · rw [List.mem_singleton] at hx; subst hx; exact Nat.le_refl _
      · show ((decide (at_ ≤ k) && decide (k < size)) || false) = _
        rw [Bool.or_false, show cov [] k = false from rfl, Bool.not_false, Bool.and_true]
    · rw [if_neg c]
      refine ⟨⟨List.Pairwise.nil, fun x hx => by cases hx⟩, fun x hx => (by cases hx), fun k => ?_⟩
      show false = _
      by_cases a : at_ ≤ k
      · rw [decide_eq_false (p := k < size) (by omega), Bool.false_and, Bool.and_false]
      · rw [decide_eq_false a, Bool.false_and]
  | x :: r, at_, h, ha, hb => by
    obtain ⟨h1, h2, h3⟩ := nrm_tail h
    obtain ⟨b1, b2⟩ := hb x List.mem_cons_self
    obtain ⟨i1, i2, i3⟩ := gB_ok size r x.2 h1 b2 fun y hy => ⟨Nat.le_of_lt (h3 y hy), (hb y (List.mem_cons_of_mem _ hy)).2⟩
    unfold gB
    have hr : ∀ k, k < x.2 → cov (gB size x.2 r) k = false := fun k hk => by rw [i3, decide_eq_false (by omega), Bool.false_and]
    have hcr : ∀ k, k ≤ x.2 → cov r k = false := fun k hk => cov_no fun y hy => .inl (by have := h3 y hy; omega)
    by_cases c : at_ < x.1
    · rw [if_pos c]
      refine ⟨⟨List.pairwise_append.mpr ⟨List.pairwise_singleton _ _, i1.1, fun a ha b hb => ?_⟩, fun a ha => ?_⟩, fun a ha => ?_, fun k => ?_⟩
      · rw [List.mem_singleton] at ha
        subst ha
        have := i2 b hb
        show x.1 < b.1
        omega
      · rcases List.mem_append.mp ha with ha | ha
        · rw [List.mem_singleton] at ha; subst ha; exact c
        · exact i1.2 a ha
      · rcases List.mem_append.mp ha with ha | ha
        · rw [List.mem_singleton] at ha; subst ha; exact Nat.le_refl _
        · have := i2 a ha; omega
      · rw [cov_append, cov_cons x r]
        show (((decide (at_ ≤ k) && decide (k < x.1)) || false) || cov (gB size x.2 r) k) = _
        by_cases d : k < x.2
        · rw [hr k d, hcr k (by omega)]
          by_cases a1 : at_ ≤ k
          · by_cases a2 : k < x.1
            · simp [a1, a2]; omega
            · simp [a1, a2, d]; omega
          · simp [a1]
        · rw [i3]
          simp [d, show x.2 ≤ k by omega, show at_ ≤ k by omega, show ¬ k < x.1 by omega]
    · rw [if_neg c]
      refine ⟨by simpa using i1, fun a ha => ?_, fun k => ?_⟩
      · have := i2 a (by simpa using ha); omega
      · rw [List.nil_append, cov_cons x r]
        by_cases d : k < x.2
        · rw [hr k d]
          by_cases a1 : at_ ≤ k
          · simp [a1, d, show x.1 ≤ k by omega]
          · simp [a1]
        · rw [i3]
          simp [d, show x.2 ≤ k by omega, show at_ ≤ k by omega]
/-- the gaps between the runs are the runs of the rest -/
theorem gaps_runs (p : Nat → Bool) (size : Nat) : gB size 0 (runsL p size) = runsL (fun k => !p k) size := by
  have R := runs_ok p size
  obtain ⟨a, _, c⟩ := gB_ok size (runsL p size) 0 R.nrm (Nat.zero_le _) fun x hx => ⟨Nat.zero_le _, R.le x hx⟩
  refine runs_uniq a fun k => ?_
  rw [c, R.cv]
  by_cases d : k < size
  · simp [d]
  · simp [d]
theorem runs_len (p : Nat → Bool) : ∀ n, (runsL p n).length ≤ n
  | 0 => Nat.le_refl _
  | n + 1 => by
    have e : runsL p (n + 1) = stepR p (runsL p n) n := by
      unfold runsL
      rw [List.range_succ, List.foldl_append]
      rfl
    have ih := runs_len p n
    rw [e]
    unfold stepR
    split
    · rw [List.length_append, List.length_singleton]; omega
    · split
      · rw [List.length_append, List.length_singleton, List.length_dropLast]; omega
      · omega
end W24
set_option maxHeartbeats 4000000
/-! M5: numbers, pairs and lists of them as data and in the heap. -/
namespace W24
open PySem PySem.Spec PyProof.Rows L2
def inum (l : List Nat) : List V := l.map fun i : Nat => V.int (i : Int)
def dNums (l : List Nat) : List PyData := l.map fun i : Nat => PyData.int (i : Int)
def dPairs (l : Prs) : List PyData := l.map fun x => PyData.tuple [.int (x.1 : Int), .int (x.2 : Int)]
def dTups (l : List (List Nat)) : List PyData := l.map fun c => PyData.tuple (dNums c)
def dLsts (l : List (List Nat)) : List PyData := l.map fun c => PyData.list (dNums c)
theorem lay_map {α : Type} (f : α → PyData) (h : ∀ a, (f a).canLay0 = true) (l : List α) : PyData.canLayAll0 (l.map f) = true := by
  induction l with
  | nil => rfl
  | cons a l ih =>
    show (PyData.canLay0 (f a) && PyData.canLayAll0 (l.map f)) = true
    rw [h, ih]
    rfl
theorem dep_map {α : Type} (f : α → PyData) {n : Nat} (h : ∀ a, (f a).depth ≤ n) (l : List α) : PyData.depthAll (l.map f) ≤ n := by
  induction l with
  | nil => exact Nat.zero_le _
  | cons a l ih =>
    show max (PyData.depth (f a)) (PyData.depthAll (l.map f)) ≤ n
    have := h a
    omega
theorem eqv_map {α : Type} [DecidableEq α] (f : α → PyData) (h : ∀ a b, PyData.eqv (f a) (f b) = decide (a = b)) : ∀ (l m : List α), PyData.eqvAll (l.map f) (m.map f) = decide (l = m)
  | [], [] => rfl
  | [], _ :: _ => rfl
  | _ :: _, [] => rfl
  | a :: l, b :: m => by
    show (PyData.eqv (f a) (f b) && PyData.eqvAll (l.map f) (m.map f)) = _
    rw [h, eqv_map f h l m]
    by_cases e1 : a = b
    · by_cases e2 : l = m
      · rw [decide_eq_true e1, decide_eq_true e2, decide_eq_true (by rw [e1, e2])]
        rfl
      · rw [decide_eq_false e2, Bool.and_false, decide_eq_false fun z => e2 (List.cons.inj z).2]
    · rw [decide_eq_false e1, Bool.false_and, decide_eq_false fun z => e1 (List.cons.inj z).1]
theorem eqv_i (a b : Nat) : PyData.eqv (.int (a : Int)) (.int (b : Int)) = decide (a = b) := by
  show ((a : Int) == (b : Int)) = _
  by_cases e : a = b
  · subst e; simp
  · rw [decide_eq_false e]
    exact beq_eq_false_iff_ne.mpr fun z => e (by omega)
theorem eqv_nums (l m : List Nat) : PyData.eqvAll (dNums l) (dNums m) = decide (l = m) := eqv_map _ eqv_i l m
theorem lay_nums (l : List Nat) : PyData.canLayAll0 (dNums l) = true := lay_map _ (fun _ => rfl) l
theorem dep_nums (l : List Nat) : PyData.depthAll (dNums l) ≤ 0 := dep_map (fun i : Nat => PyData.int (i : Int)) (fun _ => Nat.le_refl 0) l
theorem eqv_pairs (l m : Prs) : PyData.eqvAll (dPairs l) (dPairs m) = decide (l = m) := eqv_map _ (fun a b => by
  show (PyData.eqv (.int (a.1 : Int)) (.int (b.1 : Int)) && (PyData.eqv (.int (a.2 : Int)) (.int (b.2 : Int)) && true)) = _
  rw [eqv_i, eqv_i, Bool.and_true]
  obtain ⟨a1, a2⟩ := a
  obtain ⟨b1, b2⟩ := b
  by_cases e1 : a1 = b1
  · by_cases e2 : a2 = b2
    · subst e1 e2; simp
    · simp [e1, e2]
  · simp [e1]) l m
theorem lay_pairs (l : Prs) : PyData.canLayAll0 (dPairs l) = true := lay_map _ (fun _ => rfl) l
theorem dep_pairs (l : Prs) : PyData.depthAll (dPairs l) ≤ 1 := dep_map _ (fun _ => by show max 0 (max 0 0) + 1 ≤ 1; omega) l
theorem eqv_tups (l m : List (List Nat)) : PyData.eqvAll (dTups l) (dTups m) = decide (l = m) := eqv_map (fun c => PyData.tuple (dNums c)) (fun a b => eqv_nums a b) l m
theorem lay_tups (l : List (List Nat)) : PyData.canLayAll0 (dTups l) = true := lay_map (fun c => PyData.tuple (dNums c)) (fun a => lay_nums a) l
theorem dep_tups (l : List (List Nat)) : PyData.depthAll (dTups l) ≤ 1 := dep_map _ (fun a => by show PyData.depthAll (dNums a) + 1 ≤ 1; have := dep_nums a; omega) l
theorem lay_lsts (l : List (List Nat)) : PyData.canLayAll0 (dLsts l) = true := lay_map (fun c => PyData.list (dNums c)) (fun a => lay_nums a) l
theorem dep_lsts (l : List (List Nat)) : PyData.depthAll (dLsts l) ≤ 1 := dep_map _ (fun a => by show PyData.depthAll (dNums a) + 1 ≤ 1; have := dep_nums a; omega) l
theorem shp {ds : List PyData} {n : Nat} (h1 : PyData.canLayAll0 ds = true) (h2 : PyData.depthAll ds ≤ n) (hn : n ≤ 8) : SeqAt.shaped (.list ds) = true ∧ SeqAt.shaped (.tuple ds) = true := by
  have e : decide (PyData.depthAll ds + 1 ≤ 64) = true := decide_eq_true (by omega)
  have h : (PyData.canLayAll0 ds && decide (PyData.depthAll ds + 1 ≤ 64)) = true := by rw [h1, e]; rfl
  exact ⟨h, h⟩
theorem eqv_nil (ds : List PyData) : PyData.eqvAll ds [] = ds.isEmpty := by
  cases ds with
  | nil => rfl
  | cons a l => rfl
section
variable {K : PySem.W.Frag} {H : Hp}
theorem dp_nums (l : List Nat) : DpAll K H (inum l) (dNums l) := by
  induction l with
  | nil => exact .nil
  | cons a l ih => exact .cons (.int _) ih
theorem dp_pairs {ps : List Addr} {l : Prs} (h : Paired (fun p (x : Nat × Nat) => H p = some (.tup [.int (x.1 : Int), .int (x.2 : Int)])) ps l) : DpAll K H (ps.map V.ref) (dPairs l) := by
  induction h with
  | nil => exact .nil
  | cons r _ ih => exact .cons (.tup (SqT.of r) (.cons (.int _) (.cons (.int _) .nil))) ih
theorem dp_lsts {ps : List Addr} {l : List (List Nat)} (h : Paired (fun p (c : List Nat) => H p = some (.lst (inum c))) ps l) : DpAll K H (ps.map V.ref) (dLsts l) := by
  induction h with
  | nil => exact .nil
  | cons r _ ih => exact .cons (.lst (SqL.of r) (dp_nums _)) ih
theorem dp_tups {ps : List Addr} {l : List (List Nat)} (h : Paired (fun p (c : List Nat) => H p = some (.tup (inum c))) ps l) : DpAll K H (ps.map V.ref) (dTups l) := by
  induction h with
  | nil => exact .nil
  | cons r _ ih => exact .cons (.tup (SqT.of r) (dp_nums _)) ih
end
/-- pairs in a list, in a tuple -/
def PairsL (H : Hp) (v : V) (l : Prs) : Prop := ∃ (a : Addr) (ps : List Addr), v = .ref a ∧ H a = some (.lst (ps.map V.ref)) ∧ Paired (fun p (x : Nat × Nat) => H p = some (.tup [.int (x.1 : Int), .int (x.2 : Int)])) ps l
def PairsT (H : Hp) (v : V) (l : Prs) : Prop := ∃ (a : Addr) (ps : List Addr), v = .ref a ∧ H a = some (.tup (ps.map V.ref)) ∧ Paired (fun p (x : Nat × Nat) => H p = some (.tup [.int (x.1 : Int), .int (x.2 : Int)])) ps l
theorem PairsL.same {H H' : Hp} {v : V} {l : Prs} (h : PairsL H v l) (e : Same H H') : PairsL H' v l := by
  obtain ⟨a, ps, h1, h2, h3⟩ := h
  exact ⟨a, ps, h1, e _ _ h2, pr_mono (fun _ _ q => e _ _ q) h3⟩
theorem PairsT.same {H H' : Hp} {v : V} {l : Prs} (h : PairsT H v l) (e : Same H H') : PairsT H' v l := by
  obtain ⟨a, ps, h1, h2, h3⟩ := h
  exact ⟨a, ps, h1, e _ _ h2, pr_mono (fun _ _ q => e _ _ q) h3⟩
theorem PairsL.dp {K : PySem.W.Frag} {H : Hp} {v : V} {l : Prs} (h : PairsL H v l) : Dp K H v (.list (dPairs l)) := by
  obtain ⟨a, ps, rfl, h2, h3⟩ := h
  exact .lst (SqL.of h2) (dp_pairs h3)
theorem PairsT.dp {K : PySem.W.Frag} {H : Hp} {v : V} {l : Prs} (h : PairsT H v l) : Dp K H v (.tuple (dPairs l)) := by
  obtain ⟨a, ps, rfl, h2, h3⟩ := h
  exact .tup (SqT.of h2) (dp_pairs h3)
/-- the classes -/
def ClsAt (H : Hp) (v : V) (cs : List (List Nat)) : Prop := ∃ (a : Addr) (ps : List Addr), v = .ref a ∧ H a = some (.lst (ps.map V.ref)) ∧ Paired (fun p (c : List Nat) => H p = some (.lst (inum c))) ps cs
theorem ClsAt.same {H H' : Hp} {v : V} {l : List (List Nat)} (h : ClsAt H v l) (e : Same H H') : ClsAt H' v l := by
  obtain ⟨a, ps, h1, h2, h3⟩ := h
  exact ⟨a, ps, h1, e _ _ h2, pr_mono (fun _ _ q => e _ _ q) h3⟩
theorem inum_len (l : List Nat) : (inum l).length = l.length := List.length_map ..
theorem inum_get {l : List Nat} {i k : Nat} (h : l[i]? = some k) : (inum l)[i]? = some (.int (k : Int)) := by
  unfold inum
  rw [List.getElem?_map, h]
  rfl
end W24
set_option maxHeartbeats 4000000
/-! M6: the hashes of pairs of small numbers differ. -/
namespace W24
open PySem PySem.Spec PyProof.Rows L2
def hG (p : Nat × Nat) : Int := reduceHash (Builtin.Tuple.tupleHashOf [hashInt (p.1 : Int), hashInt (p.2 : Int)])
theorem hash_kk (P : Program) (w : World) (p : Nat × Nat) : hashT P w (kk p) = hG p := rfl
theorem grid_nd : (grid.map hG).Nodup := by decide +kernel
theorem nd_inj {α β : Type} {f : α → β} : ∀ {l : List α}, (l.map f).Nodup → ∀ x ∈ l, ∀ y ∈ l, f x = f y → x = y
  | [], _, x, hx, _, _, _ => by cases hx
  | a :: l, h, x, hx, y, hy, e => by
    rw [List.map_cons, List.nodup_cons] at h
    rcases List.mem_cons.mp hx with ex | hx' <;> rcases List.mem_cons.mp hy with ey | hy'
    · rw [ex, ey]
    · rw [ex] at e
      exact absurd (List.mem_map.mpr ⟨y, hy', e.symm⟩) h.1
    · rw [ey] at e
      exact absurd (List.mem_map.mpr ⟨x, hx', e⟩) h.1
    · exact nd_inj h.2 x hx' y hy' e
theorem mem_grid {p : Nat × Nat} (h1 : p.1 < 8) (h2 : p.2 < 8) : p ∈ grid := by
  unfold grid
  rw [List.mem_flatMap]
  exact ⟨p.1, List.mem_range.mpr h1, List.mem_map.mpr ⟨p.2, List.mem_range.mpr h2, rfl⟩⟩
theorem hash_nd {β : Type} (P : Program) (w : World) (f : β → V) {al : AL β} (nd : (al.map (·.1)).Nodup) (hk : ∀ p ∈ al.map (·.1), p.1 < 8 ∧ p.2 < 8) : ((kvsOf f al).map fun p => hashT P w p.1).Nodup := by
  have e : ((kvsOf f al).map fun p => hashT P w p.1) = (al.map (·.1)).map hG := by
    unfold kvsOf
    rw [List.map_map, List.map_map]
    rfl
  rw [e]
  refine List.pairwise_map.mpr ?_
  refine List.Pairwise.imp_of_mem (fun {a b} ha hb hne z => hne ?_) nd
  obtain ⟨a1, a2⟩ := hk a ha
  obtain ⟨b1, b2⟩ := hk b hb
  exact nd_inj grid_nd a (mem_grid a1 a2) b (mem_grid b1 b2) z
end W24
set_option maxHeartbeats 4000000
/-! M7: how long the texts of small data are. -/
namespace W24
open PySem PySem.Spec PyProof.Rows L2
theorem strLen (a b : Str) : (a ++ b).length = a.length + b.length := by
  show (a ++ b).cps.size = _
  rw [Str.cps_append, Array.size_append]
  rfl
theorem from_le (m : Nat) : ∀ (ts : List Str) (k : Nat) (acc : Str), (∀ t ∈ ts, t.length ≤ m) → (textFrom k acc ts).length ≤ acc.length + ts.length * (m + 2)
  | [], _, acc, _ => by show acc.length ≤ _; omega
  | t :: ts, k, acc, h => by
    have ih := from_le m ts (k + 1) (acc ++ (if k > 0 then ", " else "" : String) ++ t) fun x hx => h x (List.mem_cons_of_mem _ hx)
    have ht := h t List.mem_cons_self
    have hs : ((if k > 0 then ", " else "" : String) : Str).length ≤ 2 := by
      split <;> decide
    rw [strLen, strLen] at ih
    show (textFrom (k + 1) (acc ++ (if k > 0 then ", " else "" : String) ++ t) ts).length ≤ _
    rw [List.length_cons, Nat.add_mul]
    omega
theorem list_le {m : Nat} {ts : List Str} (h : ∀ t ∈ ts, t.length ≤ m) : (listText ts).length ≤ 2 + ts.length * (m + 2) := by
  unfold listText
  rw [strLen]
  have := from_le m ts 0 "[" h
  have e1 : ("[" : Str).length = 1 := by decide
  have e2 : ("]" : Str).length = 1 := by decide
  omega
theorem join_le (m : Nat) : ∀ (ts : List Str), (∀ t ∈ ts, t.length ≤ m) → (Str.join ", " ts).length ≤ ts.length * (m + 2)
  | [], _ => by show (0 : Nat) ≤ _; omega
  | [x], h => by
    have := h x List.mem_cons_self
    show x.length ≤ 1 * (m + 2)
    omega
  | x :: y :: r, h => by
    have ih := join_le m (y :: r) fun t ht => h t (List.mem_cons_of_mem _ ht)
    have hx := h x List.mem_cons_self
    show (x ++ ", " ++ Str.join ", " (y :: r)).length ≤ _
    rw [strLen, strLen]
    have e : (", " : Str).length = 2 := by decide
    rw [List.length_cons, Nat.add_mul]
    omega
theorem tup_le {m : Nat} {ts : List Str} (h : ∀ t ∈ ts, t.length ≤ m) : (tupleText ts).length ≤ 3 + ts.length * (m + 2) := by
  unfold tupleText
  rw [strLen, strLen]
  have := join_le m ts h
  have e1 : ("(" : Str).length = 1 := by decide
  have e2 : ((if ts.length == 1 then ",)" else ")" : String) : Str).length ≤ 2 := by
    split <;> decide
  omega
theorem all_mem : ∀ (ds : List PyData) (t : Str), t ∈ PyData.shownAll ds → ∃ d ∈ ds, t = d.shown
  | [], t, h => by cases h
  | d :: ds, t, h => by
    rcases List.mem_cons.mp h with e | h
    · exact ⟨d, List.mem_cons_self, e⟩
    · obtain ⟨x, a, b⟩ := all_mem ds t h
      exact ⟨x, List.mem_cons_of_mem _ a, b⟩
theorem all_len : ∀ (ds : List PyData), (PyData.shownAll ds).length = ds.length
  | [] => rfl
  | d :: ds => by
    show (PyData.shownAll ds).length + 1 = _
    rw [all_len ds]
    rfl
/-- small: shown in at most m signs, showable -/
def Sm (m : Nat) (d : PyData) : Prop := d.shown.length ≤ m ∧ d.showable = true
theorem showAll {m : Nat} : ∀ {ds : List PyData}, (∀ d ∈ ds, Sm m d) → PyData.showableAll ds = true
  | [], _ => rfl
  | d :: ds, h => by
    show (d.showable && PyData.showableAll ds) = true
    rw [(h d List.mem_cons_self).2, showAll fun x hx => h x (List.mem_cons_of_mem _ hx)]
    rfl
theorem Sm.mono {m n : Nat} {d : PyData} (h : Sm m d) (l : m ≤ n) : Sm n d := ⟨Nat.le_trans h.1 l, h.2⟩
theorem sm_tup {m k : Nat} {ds : List PyData} (h : ∀ d ∈ ds, Sm m d) (hk : ds.length ≤ k) : Sm (3 + k * (m + 2)) (.tuple ds) := by
  refine ⟨?_, showAll h⟩
  have := tup_le (m := m) (ts := PyData.shownAll ds) fun t ht => by
    obtain ⟨d, a, rfl⟩ := all_mem ds t ht
    exact (h d a).1
  rw [all_len] at this
  have h2 : ds.length * (m + 2) ≤ k * (m + 2) := Nat.mul_le_mul_right _ hk
  show (tupleText (PyData.shownAll ds)).length ≤ _
  omega
theorem sm_list {m k : Nat} {ds : List PyData} (h : ∀ d ∈ ds, Sm m d) (hk : ds.length ≤ k) : Sm (2 + k * (m + 2)) (.list ds) := by
  refine ⟨?_, showAll h⟩
  have := list_le (m := m) (ts := PyData.shownAll ds) fun t ht => by
    obtain ⟨d, a, rfl⟩ := all_mem ds t ht
    exact (h d a).1
  rw [all_len] at this
  have h2 : ds.length * (m + 2) ≤ k * (m + 2) := Nat.mul_le_mul_right _ hk
  show (listText (PyData.shownAll ds)).length ≤ _
  omega
theorem int_small : ∀ i, i < 21 → ((PyData.shown (.int (i : Nat))).length ≤ 2 ∧ PyData.showable (.int (i : Nat)) = true) := by decide +kernel
theorem sm_int {i : Nat} (h : i ≤ 20) : Sm 2 (.int (i : Int)) := int_small i (by omega)
theorem sm_bool (b : Bool) : Sm 5 (.bool b) := by
  cases b <;> exact ⟨by decide +kernel, rfl⟩
theorem sm_nums {l : List Nat} (h : ∀ i ∈ l, i ≤ 20) (hl : l.length ≤ 20) : Sm 100 (.tuple (dNums l)) :=
  (sm_tup (m := 2) (k := 20) (fun d hd => by
    obtain ⟨i, hi, rfl⟩ := List.mem_map.mp hd
    exact sm_int (h i hi)) (by unfold dNums; rw [List.length_map]; exact hl)).mono (by decide)
theorem sm_pairs {l : Prs} (h : ∀ x ∈ l, x.1 ≤ 20 ∧ x.2 ≤ 20) (hl : l.length ≤ 20) : Sm 500 (.tuple (dPairs l)) :=
  (sm_tup (m := 11) (k := 20) (fun d hd => by
    obtain ⟨x, hx, rfl⟩ := List.mem_map.mp hd
    obtain ⟨a, b⟩ := h x hx
    refine (sm_tup (m := 2) (k := 2) (fun d hd => ?_) (Nat.le_refl _)).mono (by decide)
    rcases List.mem_cons.mp hd with rfl | hd
    · exact sm_int a
    · rcases List.mem_cons.mp hd with rfl | hd
      · exact sm_int b
      · cases hd) (by unfold dPairs; rw [List.length_map]; exact hl)).mono (by decide)
/-- what repr asks of a list of small data -/
theorem repr_ok {ds : List PyData} (h : ∀ d ∈ ds, Sm 500 d) (hl : ds.length ≤ 4) (lay : PyData.canLayAll0 ds = true) (dep : PyData.depthAll ds ≤ 4) :
    (PyData.list ds).showable = true ∧ (PyData.list ds).hasDict = false ∧ (PyData.list ds).shown.length ≤ sizeLine ∧ (PyData.list ds).depth ≤ 8 := by
  obtain ⟨a, b⟩ := sm_list h hl
  refine ⟨b, PyData.hasDict_of_canLay (.list ds) lay, Nat.le_trans a (by decide), ?_⟩
  show PyData.depthAll ds + 1 ≤ 8
  omega
end W24
set_option maxHeartbeats 4000000
/-! W1: the walks of houses.py. -/
namespace W24
open PySem PySem.Spec PyProof.Rows L2
section
variable {P : Program} {w : World} {K : PySem.W.Frag} {mg : Str → Option Value} {base : Heap}
/-! ### is_whole -/
theorem sc_is_whole_houses : FnScope ["thing", "least", "most"] ["thing", "least", "most"] (defScope s_is_whole_houses) := ⟨rfl, rfl, rfl, by decide +kernel, rfl, by decide +kernel, by decide +kernel⟩
def spWhole : Sp := fun vs H Q _ => ∃ i a b : Int, vs = [.int i, .int a, .int b] ∧ Q (.bl (decide (a ≤ i) && decide (i ≤ b))) H
theorem ok_whole {f : Addr} {fd : FuncData} (T : Txt K mg) (F : FnP K "is_whole" s_is_whole_houses f fd) : FnOk P w K mg base CX0 1 f fd ["thing", "least", "most"] spWhole := by
  refine FnP.okP F sc_is_whole_houses (fun vs H Q E h => ?_) (fun cdv A outer s H vs Q E hr h => ?_)
  · obtain ⟨i, a, b, rfl, _⟩ := h
    rfl
  · obtain ⟨i, a, b, rfl, q⟩ := h
    refine ⟨_, (pss_one (ps_ret (pe_and (pe_isi "int" T.isinstance T.int (by decide +kernel) (pv 0)) (pe_and (pe_not (pe_isi "bool" T.isinstance T.bool (by decide +kernel) (pv 0))) (pe_one (pe_chain op_le op_le (pv 1) (pv 0) (pv 2))))))), ?_⟩
    refine ⟨_, rfl, _, "int", true, rfl, .base (.int _), by decide +kernel, true, rfl, iteT ?_⟩
    refine ⟨_, rfl, _, "int", false, rfl, .base (.int _), by decide +kernel, false, rfl, true, rfl, iteT ?_⟩
    refine ⟨_, rfl, _, rfl, _, _, rfl, rfl, _, rfl, ?_⟩
    by_cases h1 : a ≤ i
    · rw [decide_eq_true h1]
      refine iteT ⟨_, rfl, _, _, rfl, rfl, ?_⟩
      rw [decide_eq_true h1, Bool.true_and] at q
      exact q
    · rw [decide_eq_false h1]
      refine iteF ?_
      rw [decide_eq_false h1, Bool.false_and] at q
      exact q
/-! ### is_place -/
def placeOk (z : Str) : Bool := decide (1 ≤ z.length) && decide (z.length ≤ 8) && z.cps.toList.all fun c => decide (c ∈ ("abcdefghijklmnopqrstuvwxyz" : Str).cps.toList)
theorem sc_is_place : FnScope ["thing", "sign"] ["thing"] (defScope s_is_place) := ⟨rfl, rfl, rfl, by decide +kernel, rfl, by decide +kernel, by decide +kernel⟩
def spPlace : Sp := fun vs H Q _ => ∃ z : Str, vs = [.str z] ∧ placeOk z = true ∧ ∀ H', Same H H' → Q (.bl true) H'
theorem ok_place {f : Addr} {fd : FuncData} (T : Txt K mg) (F : FnP K "is_place" s_is_place f fd) : FnOk P w K mg base CX0 1 f fd ["thing"] spPlace := by
  refine FnP.okP F sc_is_place (fun vs H Q E h => ?_) (fun cdv A outer s H vs Q E hr h => ?_)
  · obtain ⟨z, rfl, _⟩ := h
    rfl
  · obtain ⟨z, rfl, hz, q⟩ := h
    unfold placeOk at hz
    rw [Bool.and_eq_true, Bool.and_eq_true, decide_eq_true_eq, decide_eq_true_eq] at hz
    obtain ⟨⟨h1, h2⟩, h3⟩ := hz
    have hsz : z.cps.size = z.length := rfl
    refine ⟨_, (pss_cons (ps_if (PW.pt (pw_or (pt_not (pt_val (pe_isi "str" T.isinstance T.str (by decide +kernel) (pv 0)))) (pw_or1 (pt_not (pt_chain op_le op_le pe_int (pe_callB call_len_str (by rfl) T.len b_len (pa_cons (pv 0) pa_nil)) (pe_gI T.mML)))))) (pss_one (ps_ret pe_bl)) pss_nil)
      (pss_one (ps_ret (pe_callB (cr_all rfl) (by rfl) T.all b_all (pa_cons (pe_lc (own := [("sign", 1)]) (g := gName 1) (tt := tYes) rfl sc_is_place.nd (pi_str (pv 0)) (blkOk_by (own := [("sign", 1)]) (N := ["thing", "sign"]) (sc := (defScope s_is_place)) (by decide +kernel)) (fun _ _ _ _ _ => (pg_name (i := 1) sc_is_place.nd rfl (by first | exact Or.inl rfl | exact Or.inr rfl) (by first | exact Or.inl rfl | exact Or.inr rfl))) (fun _ _ _ _ _ => pts_nil) (fun _ _ _ _ _ => (pe_cmpR op_in_sign (pv 1) (pe_gS T.mLET) rfl))) pa_nil))))), ?_⟩
    refine ⟨_, rfl, _, "str", true, rfl, .base (.str _), by decide +kernel, true, rfl, iteF ?_⟩
    refine ⟨_, rfl, z, rfl, small (by omega), _, _, rfl, rfl, true, congrArg V.bl (decide_eq_true (show (1 : Int) ≤ (z.length : Int) by omega)), iteT ⟨_, _, rfl, rfl, true, congrArg V.bl (decide_eq_true (show (z.length : Int) ≤ 8 by omega)), iteF ?_⟩⟩
    refine ⟨_, rfl, z, rfl, fun D hD => ?_⟩
    refine lc_it walk_str (Cv H D fun _ => .bl true) (cv0 hD) (fun _ _ _ _ => trivial) (fun i x H2 H3 hi p y => ?_) (fun H2 p => ?_)
    · obtain ⟨rfl, c, hc, rfl⟩ := y
      refine ⟨rfl, _, rfl, c, _, rfl, rfl, cv_step p (Same.refl _) (by omega) ?_⟩
      have hm : c ∈ z.cps.toList := by
        rw [← Array.getElem?_toList] at hc
        exact List.mem_of_getElem? hc
      exact congrArg V.bl (List.all_eq_true.mp h3 c hm)
    · obtain ⟨p1, p2, p3⟩ := p
      refine ⟨D, List.replicate z.cps.size true, rfl, SqL.of (p3.trans ?_), ?_⟩
      · rw [List.map_replicate, List.map_const', List.length_range]
      · have : (List.replicate z.cps.size true).all id = true := by simp
        rw [this]
        exact q _ p2
/-! ### is_pair -/
theorem sc_is_pair : FnScope ["thing"] ["thing"] (defScope s_is_pair) := ⟨rfl, rfl, rfl, by decide +kernel, rfl, by decide +kernel, by decide +kernel⟩
def spPair : Sp := fun vs H Q _ => ∃ (p : Addr) (x : Str) (y : Option Str), vs = [.ref p] ∧ H p = some (.tup [.str x, optV y]) ∧ placeOk x = true ∧ (∀ z, y = some z → placeOk z = true) ∧ ∀ H', Same H H' → Q (.bl true) H'
theorem ok_pair {f : Addr} {fd : FuncData} (T : Txt K mg) (c_is_place : Cal P w K mg base 1 "is_place" ["thing"] spPlace) (F : FnP K "is_pair" s_is_pair f fd) : FnOk P w K mg base CX0 2 f fd ["thing"] spPair := by
  refine FnP.okP F sc_is_pair (fun vs H Q E h => ?_) (fun cdv A outer s H vs Q E hr h => ?_)
  · obtain ⟨p, x, y, rfl, _⟩ := h
    rfl
  · obtain ⟨p, x, y, rfl, hp, hx, hy, q⟩ := h
    refine ⟨_, (pss_cons (ps_if (PW.pt (pw_or (pt_not (pt_val (pe_isi "tuple" T.isinstance T.tuple (by decide +kernel) (pv 0)))) (pw_or1 (pt_cmpR op_ne (pe_callB (lenQ K) (by rfl) T.len b_len (pa_cons (pv 0) pa_nil)) pe_int (nomark _))))) (pss_one (ps_ret pe_bl)) pss_nil)
      (pss_one (ps_ret (pe_and (pe_cal c_is_place (hr.mono (by decide)) (pa_cons (pe_ix (ixT K) (pv 0) pe_int (fun _ _ => rfl)) pa_nil)) (pe_one (pe_or (pe_cmpR op_isN (pe_ix (ixT K) (pv 0) pe_int (fun _ _ => rfl)) pe_non (nomark _)) (pe_one (pe_cal c_is_place (hr.mono (by decide)) (pa_cons (pe_ix (ixT K) (pv 0) pe_int (fun _ _ => rfl)) pa_nil))))))))), ?_⟩
    refine ⟨_, rfl, _, "tuple", true, rfl, .base (.tup hp), by decide +kernel, true, rfl, iteF ?_⟩
    refine ⟨_, rfl, p, _, rfl, .inr (SqT.of hp), rfl, false, rfl, iteF ?_⟩
    refine ⟨_, rfl, p, _, _, _, rfl, rfl, SqT.of hp, atI_nat (j := 0) rfl, x, rfl, hx, fun H1 e1 => ⟨_, rfl, iteT ?_⟩⟩
    refine ⟨_, rfl, p, _, _, _, rfl, rfl, SqT.of (e1 _ _ hp), atI_nat (j := 1) rfl, rfl, ?_⟩
    cases y with
    | none => exact ⟨true, rfl, iteT (q _ e1)⟩
    | some z =>
      refine ⟨false, rfl, iteF ?_⟩
      exact ⟨_, rfl, p, _, _, _, rfl, rfl, SqT.of (e1 _ _ hp), atI_nat (j := 1) rfl, z, rfl, hy z rfl, fun H2 e2 => q _ (e1.trans e2)⟩
/-! ### places_in -/
theorem sc_places_in : FnScope ["house", "place", "above"] ["house"] (defScope s_places_in) := ⟨rfl, rfl, rfl, by decide +kernel, rfl, by decide +kernel, by decide +kernel⟩
def spPlaces : Sp := fun vs H Q _ => ∃ (v : V) (h : House), vs = [v] ∧ HouseAt H v h ∧ h.length ≤ 4 ∧ ∀ l H', Same H H' → H l = none → H' l = some (.lst ((places h).map V.str)) → Q (.ref l) H'
theorem ok_places {f : Addr} {fd : FuncData} (T : Txt K mg) (F : FnP K "places_in" s_places_in f fd) : FnOk P w K mg base CX0 1 f fd ["house"] spPlaces := by
  refine FnP.okP F sc_places_in (fun vs H Q E h => ?_) (fun cdv A outer s H vs Q E hr h => ?_)
  · obtain ⟨v, h, rfl, _⟩ := h
    rfl
  · obtain ⟨v, h, rfl, hh, hl, q⟩ := h
    obtain ⟨a, ps, rfl, ht, hp⟩ := hh.get K
    have hlen := pr_len hp
    refine ⟨_, (pss_one (ps_ret (pe_lc (own := [("place", 1), ("above", 2)]) (g := gTup K 2 (gCons (gName 1) (gCons (gName 2) gNil))) (tt := tYes) rfl sc_places_in.nd (piT K (pv 0)) (blkOk_by (own := [("place", 1), ("above", 2)]) (N := ["house", "place", "above"]) (sc := (defScope s_places_in)) (by decide +kernel)) (fun _ _ _ _ _ => (pgT K rfl (pgs_cons (pg_name (i := 1) sc_places_in.nd rfl (by first | exact Or.inl rfl | exact Or.inr rfl) (by first | exact Or.inl rfl | exact Or.inr rfl)) (pgs_cons (pg_name (i := 2) sc_places_in.nd rfl (by first | exact Or.inl rfl | exact Or.inr rfl) (by first | exact Or.inl rfl | exact Or.inr rfl)) pgs_nil)))) (fun _ _ _ _ _ => pts_nil) (fun _ _ _ _ _ => (pv 1))))), ?_⟩
    refine ⟨_, rfl, a, rfl, ⟨_, ht⟩, fun D hD => ?_⟩
    refine lc_it walk_tup (Cv H D fun i => .str ((places h).getD i "")) (cv0 hD) (fun i H2 _ p => Same.sqt p.2.1 ht) (fun i x H2 H3 hi p y => ?_) (fun H2 p => ?_)
    · obtain ⟨rfl, hx⟩ := y
      rw [List.getElem?_map] at hx
      rw [List.length_map] at hi
      have hg : ps[i]? = some ps[i] := by simp [hi]
      obtain ⟨x2, e2, hx2⟩ := pr_get hp hg
      rw [hg] at hx
      obtain rfl : x = V.ref ps[i] := (Option.some.inj hx).symm
      refine ⟨ps[i], _, rfl, SqT.of (p.2.1 _ _ hx2), rfl, _, _, rfl, _, _, rfl, rfl, rfl, _, rfl, ?_⟩
      refine cv_step p (Same.refl _) (by omega) ?_
      show V.str x2.1 = V.str ((h.map (·.1)).getD i "")
      simp [List.getD, e2]
    · obtain ⟨p1, p2, p3⟩ := p
      refine q D H2 p2 p1 (p3.trans ?_)
      rw [List.length_map, hlen, ← map_range_get (places h) V.str fun i => V.str ((places h).getD i "")]
      · unfold places
        rw [List.length_map]
      · intro i x e
        simp [List.getD, e]
end
end W24
set_option maxHeartbeats 4000000
/-! W2: come_to, goes_back, house_fault; the law's under. -/
namespace W24
open PySem PySem.Spec PyProof.Rows L2
theorem pr_mapR {α β γ : Type} {F : α → β → Prop} {G : α → γ → Prop} (f : β → γ) (h : ∀ a b, F a b → G a (f b)) : ∀ {l : List α} {m : List β}, Paired F l m → Paired G l (m.map f)
  | _, _, .nil => .nil
  | _, _, .cons r t => .cons (h _ _ r) (pr_mapR f h t)
def upOk (h : House) : Bool := h.all fun x => decide (0 < (ups h x.1).length ∧ (ups h x.1).length ≤ 3) && decide ((ups h x.1).getD 0 "" = x.1) &&
  (List.range 3).all fun i => decide (i < (ups h x.1).length → valV (mergeK [] (houseK h)) (Sum.inr ((ups h x.1).getD i "")) = some (upAt h x.1 (i + 1)) ∧ (i + 1 < (ups h x.1).length → (ups h x.1).getD (i + 1) "" ∉ (ups h x.1).take (i + 1)))
theorem up_ok : H4.all upOk = true := by decide +kernel
structure UpF (h : House) (p : Str) : Prop where
  pos : 0 < (ups h p).length
  few : (ups h p).length ≤ 3
  zero : (ups h p).getD 0 "" = p
  step : ∀ i, i < (ups h p).length → valV (mergeK [] (houseK h)) (Sum.inr ((ups h p).getD i "")) = some (upAt h p (i + 1))
  new : ∀ i, i + 1 < (ups h p).length → (ups h p).getD (i + 1) "" ∉ (ups h p).take (i + 1)
theorem up_facts {h : House} {p : Str} (m : h ∈ H4) (hp : p ∈ places h) : UpF h p := by
  have a := h4_all up_ok m
  unfold upOk at a
  obtain ⟨x, hx, rfl⟩ := List.mem_map.mp hp
  have b := List.all_eq_true.mp a x hx
  rw [Bool.and_eq_true, Bool.and_eq_true, decide_eq_true_eq, decide_eq_true_eq, List.all_eq_true] at b
  obtain ⟨⟨⟨b1, b2⟩, b3⟩, b4⟩ := b
  have c : ∀ i, i < (ups h x.1).length → _ := fun i hi => (of_decide_eq_true (b4 i (List.mem_range.mpr (by omega)))) hi
  exact ⟨b1, b2, b3, fun i hi => (c i hi).1, fun i hi => (c i (by omega)).2 hi⟩
theorem upAt_in {h : House} {p : Str} {i : Nat} (hi : i < (ups h p).length) : upAt h p i = .str ((ups h p).getD i "") := by
  unfold upAt
  rw [List.getD, List.getElem?_eq_getElem hi]
  rfl
theorem upAt_out {h : House} {p : Str} {i : Nat} (hi : ¬ i < (ups h p).length) : upAt h p i = .non := by
  unfold upAt
  rw [List.getElem?_eq_none (by omega)]
theorem take_last (u : List Str) (i : Nat) (hi : i < u.length) : u.take (i + 1) = u.take i ++ [u.getD i ""] := by
  rw [List.take_succ, List.getD, List.getElem?_eq_getElem hi]
  rfl
theorem up_last (u : List Str) (i : Nat) (hi : i < u.length) : atI ((u.take (i + 1)).map V.str) (-1) = some (.str (u.getD i "")) := by
  rw [take_last u i hi, List.map_append]
  exact atI_last _ _
section
variable {P : Program} {w : World} {K : PySem.W.Frag} {mg : Str → Option Value} {base : Heap}
theorem HouseAt.dict {H : Hp} {v : V} {h : House} (x : HouseAt H v h) : ∃ (a : Addr) (o : Obj) (ps : List Addr), v = .ref a ∧ H a = some (.frz o (.tup (ps.map V.ref))) ∧ o.dict = none ∧ Paired (fun p (kv : Key × V) => SqT K H p [kV kv.1, kv.2]) ps (houseK h) := by
  obtain ⟨a, o, ps, e, h1, h2, h3⟩ := x
  exact ⟨a, o, ps, e, h1, h2, pr_mapR (fun x : Str × Option Str => ((Sum.inr x.1 : Key), optV x.2)) (fun p x e => SqT.of e) h3⟩
/-- what stands while one goes up -/
structure Going (h : House) (p : Str) (vh : V) (d l : Addr) (H0 : Hp) (i : Nat) (σ : L2.St) (H : Hp) : Prop where
  lt : i < (ups h p).length
  sg : σ = [some vh, some (.str p), some (.ref d), some (.ref l)]
  sm : Same H0 H
  dn : H0 d = none
  ln : H0 l = none
  dict : H d = some (.dK (mergeK [] (houseK h)))
  lst : H l = some (.lst (((ups h p).take (i + 1)).map V.str))
theorem Going.up {h : House} {p : Str} {vh : V} {d l : Addr} {H0 H : Hp} {i : Nat} {σ : L2.St} (G : Going h p vh d l H0 i σ H) (U : UpF h p) {Q : VK} (q : Q (upAt h p (i + 1)) H) :
    tDGet (tVar 2) (tOp (rIxL K) (tVar 3) (tUn (rU fun i => .int (-i)) (tC (.int 1)))) σ H Q := by
  obtain ⟨h1, rfl, h3, _, _, h4, h5⟩ := G
  refine ⟨_, rfl, _, rfl, 1, rfl, l, _, _, _, rfl, rfl, SqL.of h5, up_last _ _ h1, d, _, rfl, ?_, q⟩
  have := DGet.k (k := Sum.inr ((ups h p).getD i "")) h4
  rw [U.step i h1] at this
  exact this
theorem Going.add {h : House} {p : Str} {vh : V} {d l : Addr} {H0 H : Hp} {i : Nat} {σ : L2.St} (G : Going h p vh d l H0 i σ H) (hi : i + 1 < (ups h p).length) : Going h p vh d l H0 (i + 1) σ (upd H l (.lst (((ups h p).take (i + 1)).map V.str ++ [upAt h p (i + 1)]))) := by
  obtain ⟨h1, h2, h3, h4, h5, h6, h7⟩ := G
  refine ⟨hi, h2, Same.mut h3 h5, h4, h5, ?_, ?_⟩
  · rw [upd_ne (ne_of h6 h7 (by intro z; cases z))]
    exact h6
  · rw [upd_same, take_last _ (i + 1) hi, List.map_append, upAt_in hi]
    rfl
theorem Going.end_ {h : House} {p : Str} {vh : V} {d l : Addr} {H0 H : Hp} {i : Nat} {σ : L2.St} (G : Going h p vh d l H0 i σ H) (hi : ¬ i + 1 < (ups h p).length) : H l = some (.lst ((ups h p).map V.str)) := by
  have := G.lst
  rw [List.take_of_length_le (by omega)] at this
  exact this
def spUp : Sp := fun vs H Q _ => ∃ (v : V) (h : House) (p : Str), vs = [v, .str p] ∧ HouseAt H v h ∧ h ∈ H4 ∧ p ∈ places h ∧ ∀ l H', Same H H' → H l = none → H' l = some (.lst ((ups h p).map V.str)) → Q (.ref l) H'
/-! ### come_to -/
theorem sc_come_to : FnScope ["house", "place", "above", "found"] ["house", "place"] (defScope s_come_to) := ⟨rfl, rfl, rfl, by decide +kernel, rfl, by decide +kernel, by decide +kernel⟩
theorem ok_come_to {f : Addr} {fd : FuncData} (T : Txt K mg) (F : FnP K "come_to" s_come_to f fd) : FnOk P w K mg base CX0 1 f fd ["house", "place"] spUp := by
  refine FnP.okP F sc_come_to (fun vs H Q E h => ?_) (fun cdv A outer s H vs Q E hr h => ?_)
  · obtain ⟨v, h, p, rfl, _⟩ := h
    rfl
  · obtain ⟨vh, h, p, rfl, hh, hm, hp, q⟩ := h
    have U := up_facts hm hp
    obtain ⟨a, o, ps, rfl, ha, ho, hpr⟩ := hh.dict (K := K)
    have hu := hu_of hr
    refine ⟨_, (pss_cons (ps_par (i := 2) (j := 3) rfl sc_come_to.nd rfl rfl (by decide) rfl rfl (pa_cons (pe_callTy (call_dictTK rfl) (by rfl) T.dict b_dict (pa_cons (pv 0) pa_nil)) (pa_cons (pe_lst (pa_cons (pv 1) pa_nil)) pa_nil)) (by rfl))
      (pss_cons (ps_while PassesOwn.never (PW.pt (pw_and (pt_cmpR op_notN (pe_dget hu (pv 2) (pe_ix (ixL K) (pv 3) (pe_un un_neg pe_int) (fun _ _ => rfl)) (fun _ _ => rfl)) pe_non (nomark _)) (pw_and1 (pt_cmpR (ninQ K) (pe_dget hu (pv 2) (pe_ix (ixL K) (pv 3) (pe_un un_neg pe_int) (fun _ _ => rfl)) (fun _ _ => rfl)) (pv 3) rfl)))) (pss_one (ps_expr (pe_bm PySem.F.plainAttrs_list PySem.F.slot_list_append PySem.F.type_list_append mt_append (pv 3) (pa_cons (pe_dget hu (pv 2) (pe_ix (ixL K) (pv 3) (pe_un un_neg pe_int) (fun _ _ => rfl)) (fun _ _ => rfl)) pa_nil)))))
      (pss_one (ps_ret (pv 3))))), ?_⟩
    refine ⟨_, rfl, a, o, ps, _, rfl, ha, ho, hpr, fun d hd => ⟨_, rfl, by show 1 ≤ sizeLine; decide, fun l hl => ⟨_, _, rfl, ?_⟩⟩⟩
    have hld : l ≠ d := fun e => by
      subst e
      rw [upd_same] at hl
      cases hl
    have hl0 : H l = none := by rwa [upd_ne hld] at hl
    refine ⟨fun m σ' H' => ∃ i, m + i = 4 ∧ Going h p (.ref a) d l H i σ' H', ⟨4, 0, rfl, U.pos, rfl, Same.mut (Same.new hd) hl0, hd, hl0, ?_, ?_⟩, ?_⟩
    · rw [upd_ne (fun e => hld e.symm)]
      exact upd_same
    · rw [upd_same, take_last _ 0 U.pos, U.zero]
      rfl
    · rintro m σ' H' ⟨i, hmi, G⟩
      refine G.up U ?_
      refine ⟨rfl, ?_⟩
      by_cases hi : i + 1 < (ups h p).length
      · have hne : (!decide (upAt h p (i + 1) = V.non)) = true := by rw [upAt_in hi]; rfl
        refine ⟨true, congrArg V.bl hne, iteT ?_⟩
        refine G.up U ?_
        have hs := G.sg
        refine ⟨V.ref l, by rw [hs]; rfl, l, _, rfl, .inl (SqL.of G.lst), by rw [upAt_in hi]; rfl, flat_str _, true, ?_, iteT ?_⟩
        · rw [upAt_in hi, inV_str]
          show V.bl (!decide _) = _
          rw [decide_eq_false (U.new i hi)]
          rfl
        · refine ⟨fun σ2 H2 => σ2 = σ' ∧ Going h p (.ref a) d l H (i + 1) σ2 H2, fun σ2 H2 g => ⟨m - 1, by have := U.few; omega, i + 1, by have := U.few; omega, g.2⟩, ?_⟩
          refine ⟨V.ref l, by rw [hs]; rfl, .inl ⟨rfl, _, SqL.of G.lst⟩, ?_⟩
          refine G.up U ?_
          exact ⟨l, _, _, rfl, rfl, G.lst, by rw [List.length_map, List.length_take]; exact sz (by have := U.few; omega), rfl, G.add hi⟩
      · have hne : (!decide (upAt h p (i + 1) = V.non)) = false := by rw [upAt_out hi]; rfl
        refine ⟨false, congrArg V.bl hne, iteF ?_⟩
        refine iteF ⟨V.ref l, by rw [G.sg]; rfl, q l H' G.sm hl0 (G.end_ hi)⟩
/-! ### the law's own -/
theorem sc_law_under : FnScope ["house", "place", "by", "found"] ["house", "place"] (defScope s_law_under) := ⟨rfl, rfl, rfl, by decide +kernel, rfl, by decide +kernel, by decide +kernel⟩
theorem ok_law_under {f : Addr} {fd : FuncData} (T : Txt K mg) (F : FnP K "_law_under" s_law_under f fd) : FnOk P w K mg base CX0 1 f fd ["house", "place"] spUp := by
  refine FnP.okP F sc_law_under (fun vs H Q E h => ?_) (fun cdv A outer s H vs Q E hr h => ?_)
  · obtain ⟨v, h, p, rfl, _⟩ := h
    rfl
  · obtain ⟨vh, h, p, rfl, hh, hm, hp, q⟩ := h
    have U := up_facts hm hp
    obtain ⟨a, o, ps, rfl, ha, ho, hpr⟩ := hh.dict (K := K)
    have hu := hu_of hr
    refine ⟨_, (pss_cons (ps_par (i := 2) (j := 3) rfl sc_law_under.nd rfl rfl (by decide) rfl rfl (pa_cons (pe_callTy (call_dictTK rfl) (by rfl) T.dict b_dict (pa_cons (pv 0) pa_nil)) (pa_cons (pe_lst (pa_cons (pv 1) pa_nil)) pa_nil)) (by rfl))
      (pss_cons (ps_while PassesOwn.never (pt_cmpR op_notN (pe_dget hu (pv 2) (pe_ix (ixL K) (pv 3) (pe_un un_neg pe_int) (fun _ _ => rfl)) (fun _ _ => rfl)) pe_non (nomark _)) (pss_one (ps_expr (pe_bm PySem.F.plainAttrs_list PySem.F.slot_list_append PySem.F.type_list_append mt_append (pv 3) (pa_cons (pe_dget hu (pv 2) (pe_ix (ixL K) (pv 3) (pe_un un_neg pe_int) (fun _ _ => rfl)) (fun _ _ => rfl)) pa_nil)))))
      (pss_one (ps_ret (pv 3))))), ?_⟩
    refine ⟨_, rfl, a, o, ps, _, rfl, ha, ho, hpr, fun d hd => ⟨_, rfl, by show 1 ≤ sizeLine; decide, fun l hl => ⟨_, _, rfl, ?_⟩⟩⟩
    have hld : l ≠ d := fun e => by
      subst e
      rw [upd_same] at hl
      cases hl
    have hl0 : H l = none := by rwa [upd_ne hld] at hl
    refine ⟨fun m σ' H' => ∃ i, m + i = 4 ∧ Going h p (.ref a) d l H i σ' H', ⟨4, 0, rfl, U.pos, rfl, Same.mut (Same.new hd) hl0, hd, hl0, ?_, ?_⟩, ?_⟩
    · rw [upd_ne (fun e => hld e.symm)]
      exact upd_same
    · rw [upd_same, take_last _ 0 U.pos, U.zero]
      rfl
    · rintro m σ' H' ⟨i, hmi, G⟩
      refine G.up U ?_
      refine ⟨rfl, ?_⟩
      by_cases hi : i + 1 < (ups h p).length
      · have hne : (!decide (upAt h p (i + 1) = V.non)) = true := by rw [upAt_in hi]; rfl
        refine ⟨true, congrArg V.bl hne, iteT ?_⟩
        have hs := G.sg
        refine ⟨fun σ2 H2 => σ2 = σ' ∧ Going h p (.ref a) d l H (i + 1) σ2 H2, fun σ2 H2 g => ⟨m - 1, by have := U.few; omega, i + 1, by have := U.few; omega, g.2⟩, ?_⟩
        refine ⟨V.ref l, by rw [hs]; rfl, .inl ⟨rfl, _, SqL.of G.lst⟩, ?_⟩
        refine G.up U ?_
        exact ⟨l, _, _, rfl, rfl, G.lst, by rw [List.length_map, List.length_take]; exact sz (by have := U.few; omega), rfl, G.add hi⟩
      · have hne : (!decide (upAt h p (i + 1) = V.non)) = false := by rw [upAt_out hi]; rfl
        refine ⟨false, congrArg V.bl hne, iteF ?_⟩
        exact ⟨V.ref l, by rw [G.sg]; rfl, q l H' G.sm hl0 (G.end_ hi)⟩
/-! ### goes_back -/
theorem sc_goes_back : FnScope ["house", "place", "above", "now", "turn"] ["house", "place"] (defScope s_goes_back) := ⟨rfl, rfl, rfl, by decide +kernel, rfl, by decide +kernel, by decide +kernel⟩
def spBack : Sp := fun vs H Q _ => ∃ (v : V) (h : House) (p : Str), vs = [v, .str p] ∧ HouseAt H v h ∧ h ∈ H4 ∧ p ∈ places h ∧ ∀ H', Same H H' → Q (.bl false) H'
theorem ok_goes_back {f : Addr} {fd : FuncData} (T : Txt K mg) (F : FnP K "goes_back" s_goes_back f fd) : FnOk P w K mg base CX0 1 f fd ["house", "place"] spBack := by
  refine FnP.okP F sc_goes_back (fun vs H Q E h => ?_) (fun cdv A outer s H vs Q E hr h => ?_)
  · obtain ⟨v, h, p, rfl, _⟩ := h
    rfl
  · obtain ⟨vh, h, p, rfl, hh, hm, hp, q⟩ := h
    have U := up_facts hm hp
    obtain ⟨a, o, ps, rfl, ha, ho, hpr⟩ := hh.dict (K := K)
    have hlen : ps.length = h.length := by rw [pr_len hpr]; exact List.length_map ..
    have h4 : h.length ≤ 4 := by
      have := h4_all (f := fun h => decide (h.length ≤ 4)) (by decide +kernel) hm
      exact of_decide_eq_true this
    have hu := hu_of hr
    refine ⟨_, (pss_cons (ps_par (i := 2) (j := 3) rfl sc_goes_back.nd rfl rfl (by decide) rfl rfl (pa_cons (pe_callTy (call_dictTK rfl) (by rfl) T.dict b_dict (pa_cons (pv 0) pa_nil)) (pa_cons (pv 1) pa_nil)) (by rfl))
      (pss_cons (ps_for PassesOwn.never rfl (pi_range1 (by rfl) T.range (pa_cons (pe_callB (lenQ K) (by rfl) T.len b_len (pa_cons (pv 0) pa_nil)) pa_nil)) (pg_name (i := 4) sc_goes_back.nd rfl (by first | exact Or.inl rfl | exact Or.inr rfl) (by first | exact Or.inl rfl | exact Or.inr rfl)) (pss_cons (ps_set (i := 3) sc_goes_back.nd rfl (by first | exact Or.inl rfl | exact Or.inr rfl) (pe_ifExp (pt_cmpR op_notN (pv 3) pe_non (nomark _)) (pe_dget hu (pv 2) (pv 3) (fun _ _ => rfl)) pe_non))
      (pss_one (ps_if (pt_cmpR op_eq (pv 3) (pv 1) (nomark _)) (pss_one (ps_ret pe_bl)) pss_nil))))
      (pss_one (ps_ret pe_bl)))), ?_⟩
    refine ⟨_, rfl, a, o, ps, _, rfl, ha, ho, hpr, fun d hd => ⟨_, rfl, _, _, rfl, ?_⟩⟩
    have had : (upd H d (.dK (mergeK [] (houseK h)))) a = some (.frz o (.tup (ps.map V.ref))) := by
      rw [upd_ne (ne_of_none ha hd)]
      exact ha
    refine ⟨_, rfl, a, _, rfl, .inr (.inl (.inr ⟨o, had⟩)), _, rfl, by rw [List.length_map]; omega, by rw [List.length_map]; omega, ?_⟩
    refine for_range (fun i σ' H' => H' = upd H d (.dK (mergeK [] (houseK h))) ∧ ∃ x, σ' = [some (.ref a), some (.str p), some (.ref d), some (upAt h p i), x]) ⟨rfl, none, ?_⟩ (fun i σ' H' hi g => ?_) (fun σ' H' g => ?_)
    · rw [upAt_in U.pos, U.zero]
      rfl
    · obtain ⟨rfl, x, rfl⟩ := g
      by_cases hlt : i < (ups h p).length
      · refine ⟨_, rfl, rfl, true, by rw [upAt_in hlt]; rfl, iteT ⟨_, rfl, _, rfl, d, upAt h p (i + 1), rfl, ?_, ?_⟩⟩
        · have := DGet.k (k := Sum.inr ((ups h p).getD i "")) (upd_same (H := H) (a := d) (o := .dK (mergeK [] (houseK h))))
          rw [U.step i hlt] at this
          rw [upAt_in hlt]
          exact this
        · have hne : decide (upAt h p (i + 1) = V.str p) = false := by
            refine decide_eq_false fun e => ?_
            by_cases hn : i + 1 < (ups h p).length
            · rw [upAt_in hn] at e
              have e2 : (ups h p).getD (i + 1) "" = p := V.str.inj e
              refine U.new i hn ?_
              rw [e2]
              have z := U.zero
              rw [List.getD, List.getElem?_eq_getElem U.pos] at z
              have : (ups h p)[0] = p := z
              rw [List.mem_iff_getElem]
              exact ⟨0, by rw [List.length_take]; omega, by rw [List.getElem_take]; exact this⟩
            · rw [upAt_out hn] at e
              cases e
          refine ⟨_, rfl, _, rfl, ?_, false, congrArg V.bl hne, iteF ⟨rfl, _, rfl⟩⟩
          unfold upAt
          split <;> rfl
      · refine ⟨_, rfl, rfl, false, by rw [upAt_out hlt]; rfl, iteF ?_⟩
        refine ⟨_, rfl, _, rfl, rfl, false, rfl, iteF ⟨rfl, some (.int (0 + (i : Int))), ?_⟩⟩
        rw [upAt_out (i := i + 1) (by omega)]
        rfl
    · obtain ⟨rfl, x, rfl⟩ := g
      exact q _ (Same.new hd)
end
end W24
set_option maxHeartbeats 4000000
/-! W3: house_fault. -/
namespace W24
open PySem PySem.Spec PyProof.Rows L2
def houseA (h : House) : Bool := decide (1 ≤ h.length) && decide (h.length ≤ 4) && (h.all fun x => placeOk x.1 && (match x.2 with | none => true | some y => placeOk y && decide (y ∈ places h))) &&
  (List.range h.length).all fun i => i == 0 || decide ((h.getD (i - 1) ("", none)).1.cps.toList < (h.getD i ("", none)).1.cps.toList)
theorem house_a : H4.all houseA = true := by decide +kernel
structure HouF (h : House) : Prop where
  pos : 1 ≤ h.length
  few : h.length ≤ 4
  own : ∀ x ∈ h, placeOk x.1 = true
  abv : ∀ x ∈ h, ∀ y, x.2 = some y → placeOk y = true ∧ y ∈ places h
  srt : ∀ i (x y : Str × Option Str), 0 < i → h[i - 1]? = some x → h[i]? = some y → x.1.cps.toList < y.1.cps.toList
theorem hou_facts {h : House} (m : h ∈ H4) : HouF h := by
  have a := h4_all house_a m
  unfold houseA at a
  rw [Bool.and_eq_true, Bool.and_eq_true, Bool.and_eq_true, decide_eq_true_eq, decide_eq_true_eq, List.all_eq_true, List.all_eq_true] at a
  obtain ⟨⟨⟨a1, a2⟩, a3⟩, a4⟩ := a
  refine ⟨a1, a2, fun x hx => ?_, fun x hx y e => ?_, fun i x y hi e1 e2 => ?_⟩
  · exact ((Bool.and_eq_true _ _).mp (a3 x hx)).1
  · have b := ((Bool.and_eq_true _ _).mp (a3 x hx)).2
    rw [e] at b
    have c := (Bool.and_eq_true _ _).mp b
    exact ⟨c.1, of_decide_eq_true c.2⟩
  · have hl : i < h.length := (List.getElem?_eq_some_iff.mp e2).1
    have b := a4 i (List.mem_range.mpr hl)
    rw [Bool.or_eq_true] at b
    rcases b with b | b
    · have : i = 0 := by simpa using b
      omega
    · have c := of_decide_eq_true b
      rw [List.getD, List.getD, e1, e2] at c
      exact c
section
variable {P : Program} {w : World} {K : PySem.W.Frag} {mg : Str → Option Value} {base : Heap}
theorem sc_house_fault : FnScope ["thing", "number", "pair", "known", "wrong"] ["thing"] (defScope s_house_fault) := ⟨rfl, rfl, rfl, by decide +kernel, rfl, by decide +kernel, by decide +kernel⟩
def spFault : Sp := fun vs H Q _ => ∃ (v : V) (h : House), vs = [v] ∧ HouseAt H v h ∧ h ∈ H4 ∧ ∀ l H', Same H H' → H' l = some (.lst []) → Q (.ref l) H'
theorem ok_house_fault {f : Addr} {fd : FuncData} (T : Txt K mg) (c_is_pair : Cal P w K mg base 2 "is_pair" ["thing"] spPair) (c_goes_back : Cal P w K mg base 1 "goes_back" ["house", "place"] spBack)
    (c_places_in : Cal P w K mg base 1 "places_in" ["house"] spPlaces) (F : FnP K "house_fault" s_house_fault f fd) : FnOk P w K mg base CX0 3 f fd ["thing"] spFault := by
  refine FnP.okP F sc_house_fault (fun vs H Q E h => ?_) (fun cdv A outer s H vs Q E hr h => ?_)
  · obtain ⟨v, h, rfl, _⟩ := h
    rfl
  · obtain ⟨vh, h, rfl, hh, hm, q⟩ := h
    have U := hou_facts hm
    have hh0 := hh
    obtain ⟨a, oh, ps, rfl, hfz, _, hp⟩ := hh
    have ht : SqT K H a (ps.map V.ref) := .inl (.inr ⟨oh, hfz⟩)
    have hlen := pr_len hp
    have hl := U.few
    have hl1 := U.pos
    have item : ∀ (i : Nat) (x : V), (ps.map V.ref)[i]? = some x → ∃ p y, x = .ref p ∧ ps[i]? = some p ∧ h[i]? = some y ∧ H p = some (.tup [.str y.1, optV y.2]) := fun i x e => by
      rw [List.getElem?_map] at e
      cases e0 : ps[i]? with
      | none => rw [e0] at e; cases e
      | some p =>
        rw [e0] at e
        obtain ⟨y, e2, e3⟩ := pr_get hp e0
        exact ⟨p, y, (Option.some.inj e).symm, rfl, e2, e3⟩
    have hlp : (ps.map V.ref).length = h.length := by rw [List.length_map, hlen]
    refine ⟨_, (pss_cons (ps_if (PW.pt (pw_or (pt_not (pt_val (pe_isi "tuple" T.isinstance T.tuple (by decide +kernel) (pv 0)))) (pw_or1 (pt_not (pt_chain op_le op_le pe_int (pe_callB (lenQ K) (by rfl) T.len b_len (pa_cons (pv 0) pa_nil)) (pe_gI T.mMP)))))) (pss_one (ps_ret (pe_lst (pa_cons pe_non pa_nil)))) pss_nil)
      (pss_cons (ps_for PassesOwn.never rfl (pi_enumT (by rfl) T.enumerate (pa_cons (pv 0) pa_nil)) (pgT K rfl (pgs_cons (pg_name (i := 1) sc_house_fault.nd rfl (by first | exact Or.inl rfl | exact Or.inr rfl) (by first | exact Or.inl rfl | exact Or.inr rfl)) (pgs_cons (pg_name (i := 2) sc_house_fault.nd rfl (by first | exact Or.inl rfl | exact Or.inr rfl) (by first | exact Or.inl rfl | exact Or.inr rfl)) pgs_nil))) (pss_one (ps_if (PW.pt (pw_or (pt_not (pt_val (pe_cal c_is_pair (hr.mono (by decide)) (pa_cons (pv 2) pa_nil)))) (pw_or1 (PW.pt (pw_and (pt_cmpR op_gt (pv 1) pe_int (nomark _)) (pw_and1 (pt_cmpR op_le_str (pe_ix (ixT K) (pv 2) pe_int (fun _ _ => rfl)) (pe_ix (ixT K) (pe_ix (ixT K) (pv 0) (pe_op op_sub (pv 1) pe_int) (fun _ _ => rfl)) pe_int (fun _ _ => rfl)) (nomark _)))))))) (pss_one (ps_ret (pe_lst (pa_cons (pv 1) pa_nil)))) pss_nil)))
      (pss_cons (ps_set (i := 3) sc_house_fault.nd rfl (by first | exact Or.inr rfl | exact Or.inl rfl) (pe_cal c_places_in (hr.mono (by decide)) (pa_cons (pv 0) pa_nil)))
      (pss_cons (ps_setLc (i := 4) (own := [("number", 1), ("pair", 2)]) (g := gTup K 2 (gCons (gName 1) (gCons (gName 2) gNil))) rfl sc_house_fault.nd rfl rfl (sw_true rfl rfl rfl (by decide +kernel)) (pi_enumT (by rfl) T.enumerate (pa_cons (pv 0) pa_nil)) (blkOk_by (own := [("number", 1), ("pair", 2)]) (N := ["thing", "number", "pair", "known", "wrong"]) (sc := (defScope s_house_fault)) (by decide +kernel)) (fun _ _ _ _ _ => (pgT K rfl (pgs_cons (pg_name (i := 1) sc_house_fault.nd rfl (by first | exact Or.inl rfl | exact Or.inr rfl) (by first | exact Or.inl rfl | exact Or.inr rfl)) (pgs_cons (pg_name (i := 2) sc_house_fault.nd rfl (by first | exact Or.inl rfl | exact Or.inr rfl) (by first | exact Or.inl rfl | exact Or.inr rfl)) pgs_nil)))) (fun _ _ _ _ _ => (pts_one (PW.pt (pw_and (pt_cmpR op_notN (pe_ix (ixT K) (pv 2) pe_int (fun _ _ => rfl)) pe_non (nomark _)) (pw_and1 (pt_cmpR (ninQ K) (pe_ix (ixT K) (pv 2) pe_int (fun _ _ => rfl)) (pv 3) rfl)))))) (fun _ _ _ _ _ => (pv 1)))
      (pss_cons (ps_if (pt_cmpR (op_neD hr.units) (pv 4) (pe_lst pa_nil) (nomark _)) (pss_one (ps_ret (pe_slice sl_list (pv 4) po_none (po_some pe_int)))) pss_nil)
      (pss_one (ps_ret (pe_slice sl_list (pe_lc (own := [("number", 1), ("pair", 2)]) (g := gTup K 2 (gCons (gName 1) (gCons (gName 2) gNil))) rfl sc_house_fault.nd (pi_enumT (by rfl) T.enumerate (pa_cons (pv 0) pa_nil)) (blkOk_by (own := [("number", 1), ("pair", 2)]) (N := ["thing", "number", "pair", "known", "wrong"]) (sc := (defScope s_house_fault)) (by decide +kernel)) (fun _ _ _ _ _ => (pgT K rfl (pgs_cons (pg_name (i := 1) sc_house_fault.nd rfl (by first | exact Or.inl rfl | exact Or.inr rfl) (by first | exact Or.inl rfl | exact Or.inr rfl)) (pgs_cons (pg_name (i := 2) sc_house_fault.nd rfl (by first | exact Or.inl rfl | exact Or.inr rfl) (by first | exact Or.inl rfl | exact Or.inr rfl)) pgs_nil)))) (fun _ _ _ _ _ => (pts_one (pt_val (pe_cal c_goes_back (hr.mono (by decide)) (pa_cons (pv 0) (pa_cons (pe_ix (ixT K) (pv 2) pe_int (fun _ _ => rfl)) pa_nil)))))) (fun _ _ _ _ _ => (pv 1))) po_none (po_some pe_int))))))))), ?_⟩
    refine ⟨_, rfl, _, "tuple", true, rfl, .fTuple hfz, by decide +kernel, true, rfl, iteF ?_⟩
    refine ⟨_, rfl, a, _, rfl, .inr ht, _, _, rfl, rfl, true, congrArg V.bl (decide_eq_true (by rw [hlp]; omega)), iteT ⟨_, _, rfl, rfl, true, congrArg V.bl (decide_eq_true (by rw [hlp]; omega)), iteF ?_⟩⟩
    refine ⟨_, rfl, a, _, rfl, ht, ?_⟩
    refine for_enumT (xs := ps.map V.ref) (fun i σ' H' => ∃ x1 x2, σ' = [some (.ref a), x1, x2, none, none] ∧ Same H H') ⟨_, _, rfl, Same.refl _⟩ (fun i σ' H' _ g => ?_) (fun i x σ' H' TT hx g hT => ?_) (fun σ' H' g => ?_)
    · obtain ⟨x1, x2, _, e⟩ := g
      exact Same.sqt e ht
    · obtain ⟨x1, x2, rfl, e⟩ := g
      obtain ⟨p, y, rfl, hpi, hy, hpy⟩ := item i x hx
      have eT := Same.new (o := .tup [.int (i : Nat), .ref p]) hT
      have e1 := e.trans eT
      refine ⟨TT, _, rfl, SqT.of upd_same, rfl, _, _, rfl, _, _, rfl, rfl, ?_⟩
      have ym := List.mem_of_getElem? hy
      refine ⟨_, rfl, p, y.1, y.2, rfl, e1 _ _ hpy, U.own y ym, fun z ez => (U.abv y ym z ez).1, fun H2 e2 => ⟨true, rfl, iteF ?_⟩⟩
      have e3 := e1.trans e2
      refine ⟨_, rfl, _, _, rfl, rfl, _, rfl, ?_⟩
      by_cases hi : 0 < i
      · rw [decide_eq_true (show (0 : Int) < (i : Int) by omega)]
        have hi2 : i - 1 < ps.length := by
          have := (List.getElem?_eq_some_iff.mp hpi).1
          omega
        obtain ⟨y0, hy0, hpy0⟩ := pr_get hp (List.getElem?_eq_getElem hi2)
        refine iteT ⟨_, rfl, p, _, _, _, rfl, rfl, SqT.of (e3 _ _ hpy), atI_nat (j := 0) rfl, ?_⟩
        refine ⟨_, rfl, _, rfl, _, _, rfl, rfl, a, _, _, _, rfl, rfl, Same.sqt e3 ht, ?_, ps[i - 1], _, _, _, rfl, rfl, SqT.of (e3 _ _ hpy0), atI_nat (j := 0) rfl, _, _, rfl, rfl, false, ?_, iteF ⟨_, _, rfl, e3⟩⟩
        · rw [show ((i : Nat) : Int) - 1 = ((i - 1 : Nat) : Int) by omega]
          exact atI_nat (by rw [List.getElem?_map, List.getElem?_eq_getElem hi2]; rfl)
        · show V.bl (!decide (y0.1.cps.toList < y.1.cps.toList)) = _
          rw [decide_eq_true (U.srt i y0 y hi hy0 hy)]
          rfl
      · rw [decide_eq_false (show ¬ (0 : Int) < (i : Int) by omega)]
        exact iteF (iteF ⟨_, _, rfl, e3⟩)
    · obtain ⟨x1, x2, rfl, e⟩ := g
      refine ⟨_, rfl, _, h, rfl, hh0.same e, hl, fun l H1 e1 hl0 hk => ?_⟩
      have eA := e.trans e1
      refine ⟨_, rfl, a, _, rfl, Same.sqt eA ht, fun D hD => ?_⟩
      refine lc_it (walk_enumT (xs := ps.map V.ref)) (Cf H1 D (fun _ => false) fun _ => .non) (cf0 hD) (fun i H2 _ p => Same.sqt (eA.trans p.2.1) ht) (fun i x H2 H3 hi g y => ?_) (fun H2 g => ?_)
      · obtain ⟨TT, x0, x, rfl, hT, rfl, e0, hx⟩ := y
        cases e0
        obtain ⟨p, y, rfl, hpi, hy, hpy⟩ := item i x hx
        have ym := List.mem_of_getElem? hy
        have e3 := g.2.1.trans (Same.new (o := .tup [.int (i : Nat), .ref p]) hT)
        refine ⟨TT, _, rfl, SqT.of upd_same, rfl, _, _, rfl, _, _, rfl, rfl, rfl, ?_⟩
        refine ⟨_, rfl, p, _, _, _, rfl, rfl, SqT.of (e3 _ _ (eA _ _ hpy)), atI_nat (j := 1) rfl, rfl, ?_⟩
        cases ey : y.2 with
        | none => exact ⟨false, rfl, iteF (iteF (cf_no g (Same.new hT) rfl))⟩
        | some z =>
          refine ⟨true, rfl, iteT ⟨_, rfl, p, _, _, _, rfl, rfl, SqT.of (e3 _ _ (eA _ _ hpy)), atI_nat (j := 1) rfl, ?_⟩⟩
          rw [ey]
          refine ⟨_, rfl, l, _, rfl, .inl (SqL.of (e3 _ _ hk)), rfl, flat_str _, false, ?_, iteF (cf_no g (Same.new hT) rfl)⟩
          show V.bl (!inV (.str z) ((places h).map V.str)) = _
          rw [inV_str, decide_eq_true (U.abv y ym z ey).2]
          rfl
      · obtain ⟨g1, g2, g3⟩ := g
        have g3' : H2 D = some (.lst []) := by
          rw [g3]
          simp
        refine ⟨_, rfl, by show 0 ≤ sizeLine; exact Nat.zero_le _, fun l2 hl2 => ?_⟩
        refine ⟨.list [], .list [], .lst (SqL.of (by rw [upd_ne (ne_of_none g3' hl2)]; exact g3')) .nil, .lst (SqL.of upd_same) .nil, rfl, rfl, false, rfl, iteF ?_⟩
        have eB := (eA.trans g2).trans (Same.new (o := .lst []) hl2)
        refine ⟨_, rfl, a, _, rfl, Same.sqt eB ht, fun D2 hD2 => ?_⟩
        refine lc_it (walk_enumT (xs := ps.map V.ref)) (Cf _ D2 (fun _ => false) fun _ => .non) (cf0 hD2) (fun i H2 _ p => Same.sqt (eB.trans p.2.1) ht) (fun i x H4 H3 hi g y => ?_) (fun H4 g => ?_)
        · obtain ⟨TT, x0, x, rfl, hT, rfl, e0, hx⟩ := y
          cases e0
          obtain ⟨p, y, rfl, hpi, hy, hpy⟩ := item i x hx
          have ym := List.mem_of_getElem? hy
          have e3 := g.2.1.trans (Same.new (o := .tup [.int (i : Nat), .ref p]) hT)
          refine ⟨TT, _, rfl, SqT.of upd_same, rfl, _, _, rfl, _, _, rfl, rfl, rfl, ?_⟩
          refine ⟨_, rfl, _, rfl, p, _, _, _, rfl, rfl, SqT.of (e3 _ _ (eB _ _ hpy)), atI_nat (j := 0) rfl, ?_⟩
          exact ⟨_, h, y.1, rfl, hh0.same (eB.trans e3), hm, List.mem_map.mpr ⟨y, ym, rfl⟩, fun H5 e5 => ⟨false, rfl, iteF (cf_no g ((Same.new hT).trans e5) rfl)⟩⟩
        · obtain ⟨f1, f2, f3⟩ := g
          refine ⟨1, rfl, D2, [], rfl, SqL.of (by rw [f3]; simp), fun l3 hl3 => ?_⟩
          exact q l3 _ ((eB.trans f2).trans (Same.new hl3)) upd_same
end
end W24
set_option maxHeartbeats 4000000
/-! W4: is_read, is_check, need_reads, need_checks, need_fetch. -/
namespace W24
open PySem PySem.Spec PyProof.Rows L2
theorem pr_item {β : Type} {F : Addr → β → Prop} {ps : List Addr} {l : List β} (hp : Paired F ps l) {i : Nat} {x : V} (e : (ps.map V.ref)[i]? = some x) : ∃ p y, x = .ref p ∧ ps[i]? = some p ∧ l[i]? = some y ∧ F p y := by
  rw [List.getElem?_map] at e
  cases e0 : ps[i]? with
  | none => rw [e0] at e; cases e
  | some p =>
    rw [e0] at e
    obtain ⟨y, e2, e3⟩ := pr_get hp e0
    exact ⟨p, y, (Option.some.inj e).symm, rfl, e2, e3⟩
structure GoodR (h : House) (size : Nat) (r : Rd5) : Prop where
  p : r.p ∈ places h
  be : r.b < r.e
  e : r.e ≤ 100
  ft : r.f < r.t
  t : r.t ≤ size
structure GoodC (n : Nat) (c : Ck3) : Prop where
  a : c.a < n
  o : c.o < n
  ne : c.a ≠ c.o
  w : c.w = "same" ∨ c.w = "upto" ∨ c.w = "newer"
structure GoodF (F : Ft) : Prop where
  hm : F.h ∈ H4
  s1 : 1 ≤ F.size
  s2 : F.size ≤ 10
  r1 : 1 ≤ F.rs.length
  r2 : F.rs.length ≤ 8
  rd : ∀ r ∈ F.rs, GoodR F.h F.size r
  c2 : F.cs.length ≤ 6
  ck : ∀ c ∈ F.cs, GoodC F.rs.length c
theorem dTrue {p : Prop} [Decidable p] (h : p) : V.bl (decide p) = V.bl true := congrArg V.bl (decide_eq_true h)
theorem dFalse {p : Prop} [Decidable p] (h : ¬ p) : V.bl (decide p) = V.bl false := congrArg V.bl (decide_eq_false h)
section
variable {P : Program} {w : World} {K : PySem.W.Frag} {mg : Str → Option Value} {base : Heap}
theorem wt {i a b : Int} (h1 : a ≤ i) (h2 : i ≤ b) : V.bl (decide (a ≤ i) && decide (i ≤ b)) = V.bl true := by
  rw [decide_eq_true h1, decide_eq_true h2]
  rfl
theorem wtQ {i a b : Int} {Q : VK} {H : Hp} (h1 : a ≤ i) (h2 : i ≤ b) (q : Q (.bl true) H) : Q (V.bl (decide (a ≤ i) && decide (i ≤ b))) H := by
  rw [wt h1 h2]
  exact q
/-! ### is_read -/
theorem sc_is_read : FnScope ["house", "size", "thing"] ["house", "size", "thing"] (defScope s_is_read) := ⟨rfl, rfl, rfl, by decide +kernel, rfl, by decide +kernel, by decide +kernel⟩
def spRead : Sp := fun vs H Q _ => ∃ (v : V) (h : House) (size : Nat) (p : Addr) (r : Rd5), vs = [v, .int size, .ref p] ∧ HouseAt H v h ∧ h ∈ H4 ∧ H p = some (.tup (rdV r)) ∧ GoodR h size r ∧ ∀ H', Same H H' → Q (.bl true) H'
theorem ok_is_read {f : Addr} {fd : FuncData} (T : Txt K mg) (c_is_whole_houses : Cal P w K mg base 1 "is_whole_houses" ["thing", "least", "most"] spWhole) (c_is_place : Cal P w K mg base 1 "is_place" ["thing"] spPlace)
    (c_places_in : Cal P w K mg base 1 "places_in" ["house"] spPlaces) (F : FnP K "is_read" s_is_read f fd) : FnOk P w K mg base CX0 2 f fd ["house", "size", "thing"] spRead := by
  refine FnP.okP F sc_is_read (fun vs H Q E h => ?_) (fun cdv A outer s H vs Q E hr h => ?_)
  · obtain ⟨v, h, size, p, r, rfl, _⟩ := h
    rfl
  · obtain ⟨v, h, size, p, r, rfl, hh, hm, hp, g, q⟩ := h
    have U := hou_facts hm
    obtain ⟨y, ym, ye⟩ := List.mem_map.mp g.p
    have hpl : placeOk r.p = true := by rw [← ye]; exact U.own y ym
    have g1 := g.be
    have g2 := g.e
    have g3 := g.ft
    have g4 := g.t
    refine ⟨_, (pss_cons (ps_if (PW.pt (pw_or (pt_not (pt_val (pe_isi "tuple" T.isinstance T.tuple (by decide +kernel) (pv 2)))) (pw_or1 (pt_cmpR op_ne (pe_callB (lenQ K) (by rfl) T.len b_len (pa_cons (pv 2) pa_nil)) pe_int (nomark _))))) (pss_one (ps_ret pe_bl)) pss_nil)
      (pss_cons (ps_if (PW.pt (pw_or (pt_not (pt_val (pe_cal c_is_place (hr.mono (by decide)) (pa_cons (pe_ix (ixT K) (pv 2) pe_int (fun _ _ => rfl)) pa_nil)))) (pw_or1 (pt_cmpR (ninQ K) (pe_ix (ixT K) (pv 2) pe_int (fun _ _ => rfl)) (pe_cal c_places_in (hr.mono (by decide)) (pa_cons (pv 0) pa_nil)) rfl)))) (pss_one (ps_ret pe_bl)) pss_nil)
      (pss_cons (ps_if (PW.pt (pw_or (pt_not (pt_val (pe_cal c_is_whole_houses (hr.mono (by decide)) (pa_cons (pe_ix (ixT K) (pv 2) pe_int (fun _ _ => rfl)) (pa_cons pe_int (pa_cons (pe_gI T.mMM) pa_nil)))))) (pw_or1 (pt_not (pt_val (pe_cal c_is_whole_houses (hr.mono (by decide)) (pa_cons (pe_ix (ixT K) (pv 2) pe_int (fun _ _ => rfl)) (pa_cons (pe_op op_add (pe_ix (ixT K) (pv 2) pe_int (fun _ _ => rfl)) pe_int) (pa_cons (pe_gI T.mMM) pa_nil))))))))) (pss_one (ps_ret pe_bl)) pss_nil)
      (pss_one (ps_ret (pe_and (pe_cal c_is_whole_houses (hr.mono (by decide)) (pa_cons (pe_ix (ixT K) (pv 2) pe_int (fun _ _ => rfl)) (pa_cons pe_int (pa_cons (pv 1) pa_nil)))) (pe_one (pe_cal c_is_whole_houses (hr.mono (by decide)) (pa_cons (pe_ix (ixT K) (pv 2) pe_int (fun _ _ => rfl)) (pa_cons (pe_op op_add (pe_ix (ixT K) (pv 2) pe_int (fun _ _ => rfl)) pe_int) (pa_cons (pv 1) pa_nil))))))))))), ?_⟩
    refine ⟨_, rfl, _, "tuple", true, rfl, .base (.tup hp), by decide +kernel, true, rfl, iteF ?_⟩
    refine ⟨_, rfl, p, _, rfl, .inr (SqT.of hp), rfl, false, rfl, iteF ?_⟩
    refine ⟨_, rfl, p, _, _, _, rfl, rfl, SqT.of hp, atI_nat (j := 0) rfl, r.p, rfl, hpl, fun H1 e1 => ⟨true, rfl, iteF ?_⟩⟩
    refine ⟨_, rfl, p, _, _, _, rfl, rfl, SqT.of (e1 _ _ hp), atI_nat (j := 0) rfl, _, rfl, v, h, rfl, hh.same e1, U.few, fun l H2 e2 _ hl => ?_⟩
    refine ⟨l, _, rfl, .inl (SqL.of hl), rfl, flat_str _, false, ?_, iteF ?_⟩
    · show V.bl (!inV (.str r.p) ((places h).map V.str)) = _
      rw [inV_str, decide_eq_true g.p]
      rfl
    have e3 := e1.trans e2
    have hp3 := e3 _ _ hp
    refine ⟨_, rfl, p, _, _, _, rfl, rfl, SqT.of hp3, atI_nat (j := 1) rfl, _, _, _, rfl, true, wt (by omega) (by omega), iteF ?_⟩
    refine ⟨_, rfl, p, _, _, _, rfl, rfl, SqT.of hp3, atI_nat (j := 2) rfl, _, rfl, p, _, _, _, rfl, rfl, SqT.of hp3, atI_nat (j := 1) rfl, _, _, rfl, rfl, _, _, _, rfl, true, wt (by omega) (by omega), iteF ?_⟩
    refine ⟨_, rfl, p, _, _, _, rfl, rfl, SqT.of hp3, atI_nat (j := 3) rfl, _, rfl, _, _, _, rfl, true, wt (by omega) (by omega), iteT ?_⟩
    refine ⟨_, rfl, p, _, _, _, rfl, rfl, SqT.of hp3, atI_nat (j := 4) rfl, _, rfl, p, _, _, _, rfl, rfl, SqT.of hp3, atI_nat (j := 3) rfl, _, _, rfl, rfl, _, rfl, _, _, _, rfl, wtQ (by omega) (by omega) (q _ e3)⟩
/-! ### is_check -/
theorem sc_is_check : FnScope ["many", "thing"] ["many", "thing"] (defScope s_is_check) := ⟨rfl, rfl, rfl, by decide +kernel, rfl, by decide +kernel, by decide +kernel⟩
def spCheck : Sp := fun vs H Q _ => ∃ (n : Nat) (p : Addr) (c : Ck3), vs = [.int n, .ref p] ∧ H p = some (.tup (ckV c)) ∧ GoodC n c ∧ Q (.bl true) H
theorem ok_is_check {f : Addr} {fd : FuncData} (T : Txt K mg) (c_is_whole_houses : Cal P w K mg base 1 "is_whole_houses" ["thing", "least", "most"] spWhole)
    (F : FnP K "is_check" s_is_check f fd) : FnOk P w K mg base CX0 2 f fd ["many", "thing"] spCheck := by
  refine FnP.okP F sc_is_check (fun vs H Q E h => ?_) (fun cdv A outer s H vs Q E hr h => ?_)
  · obtain ⟨n, p, r, rfl, _⟩ := h
    rfl
  · obtain ⟨n, p, c, rfl, hp, g, q⟩ := h
    have g1 := g.a
    have g2 := g.o
    obtain ⟨aW, hW, hWs⟩ := T.mWORDS
    refine ⟨_, (pss_cons (ps_if (PW.pt (pw_or (pt_not (pt_val (pe_isi "tuple" T.isinstance T.tuple (by decide +kernel) (pv 1)))) (pw_or (pt_cmpR op_ne (pe_callB (lenQ K) (by rfl) T.len b_len (pa_cons (pv 1) pa_nil)) pe_int (nomark _)) (pw_or (pt_not (pt_val (pe_isi "str" T.isinstance T.str (by decide +kernel) (pe_ix (ixT K) (pv 1) pe_int (fun _ _ => rfl))))) (pw_or1 (pt_cmpR (ninQ K) (pe_ix (ixT K) (pv 1) pe_int (fun _ _ => rfl)) (pe_glob (v := .ref aW) (by rfl) hW rfl) rfl)))))) (pss_one (ps_ret pe_bl)) pss_nil)
      (pss_cons (ps_if (PW.pt (pw_or (pt_not (pt_val (pe_cal c_is_whole_houses (hr.mono (by decide)) (pa_cons (pe_ix (ixT K) (pv 1) pe_int (fun _ _ => rfl)) (pa_cons pe_int (pa_cons (pe_op op_sub (pv 0) pe_int) pa_nil)))))) (pw_or1 (pt_not (pt_val (pe_cal c_is_whole_houses (hr.mono (by decide)) (pa_cons (pe_ix (ixT K) (pv 1) pe_int (fun _ _ => rfl)) (pa_cons pe_int (pa_cons (pe_op op_sub (pv 0) pe_int) pa_nil))))))))) (pss_one (ps_ret pe_bl)) pss_nil)
      (pss_one (ps_ret (pe_cmpR op_ne (pe_ix (ixT K) (pv 1) pe_int (fun _ _ => rfl)) (pe_ix (ixT K) (pv 1) pe_int (fun _ _ => rfl)) (nomark _)))))), ?_⟩
    refine ⟨_, rfl, _, "tuple", true, rfl, .base (.tup hp), by decide +kernel, true, rfl, iteF ?_⟩
    refine ⟨_, rfl, p, _, rfl, .inr (SqT.of hp), rfl, false, rfl, iteF ?_⟩
    refine ⟨_, rfl, p, _, _, _, rfl, rfl, SqT.of hp, atI_nat (j := 1) rfl, _, "str", true, rfl, .base (.str _), by decide +kernel, true, rfl, iteF ?_⟩
    refine ⟨_, rfl, p, _, _, _, rfl, rfl, SqT.of hp, atI_nat (j := 1) rfl, aW, _, rfl, .inr (hWs H), rfl, rfl, false, ?_, iteF ?_⟩
    · rcases g.w with e | e | e <;> rw [e] <;> decide +kernel
    refine ⟨_, rfl, p, _, _, _, rfl, rfl, SqT.of hp, atI_nat (j := 0) rfl, _, rfl, _, _, rfl, rfl, _, _, _, rfl, true, wt (by omega) (by omega), iteF ?_⟩
    refine ⟨_, rfl, p, _, _, _, rfl, rfl, SqT.of hp, atI_nat (j := 2) rfl, _, rfl, _, _, rfl, rfl, _, _, _, rfl, true, wt (by omega) (by omega), iteF ?_⟩
    refine ⟨_, rfl, p, _, _, _, rfl, rfl, SqT.of hp, atI_nat (j := 0) rfl, _, rfl, p, _, _, _, rfl, rfl, SqT.of hp, atI_nat (j := 2) rfl, rfl, ?_⟩
    have : (!decide (V.int (c.a : Int) = V.int (c.o : Int))) = true := by
      rw [decide_eq_false fun e => g.ne (by have := V.int.inj e; omega)]
      rfl
    rw [this]
    exact q
/-! ### need_reads -/
theorem sc_need_reads : FnScope ["house", "size", "reads", "number", "read"] ["house", "size", "reads"] (defScope s_need_reads) := ⟨rfl, rfl, rfl, by decide +kernel, rfl, by decide +kernel, by decide +kernel⟩
def spNReads : Sp := fun vs H Q _ => ∃ (v : V) (h : House) (size : Nat) (vr : V) (rs : List Rd5), vs = [v, .int size, vr] ∧ HouseAt H v h ∧ h ∈ H4 ∧ RdsAt H vr rs ∧ 1 ≤ rs.length ∧ rs.length ≤ 8 ∧ (∀ r ∈ rs, GoodR h size r) ∧ ∀ H', Same H H' → Q .non H'
theorem ok_need_reads {f : Addr} {fd : FuncData} (T : Txt K mg) (c_is_read : Cal P w K mg base 2 "is_read" ["house", "size", "thing"] spRead)
    (F : FnP K "need_reads" s_need_reads f fd) : FnOk P w K mg base CX0 3 f fd ["house", "size", "reads"] spNReads := by
  refine FnP.okP F sc_need_reads (fun vs H Q E h => ?_) (fun cdv A outer s H vs Q E hr h => ?_)
  · obtain ⟨v, h, size, vr, rs, rfl, _⟩ := h
    rfl
  · obtain ⟨v, h, size, vr, rs, rfl, hh, hm, ⟨a, ps, rfl, ha, hp⟩, l1, l2, gr, q⟩ := h
    have hlp : (ps.map V.ref).length = rs.length := by rw [List.length_map, pr_len hp]
    refine ⟨_, (pss_cons (ps_if (PW.pt (pw_or (pt_not (pt_val (pe_isi "tuple" T.isinstance T.tuple (by decide +kernel) (pv 2)))) (pw_or1 (pt_not (pt_chain op_le op_le pe_int (pe_callB (lenQ K) (by rfl) T.len b_len (pa_cons (pv 2) pa_nil)) (pe_gI T.mMR)))))) (pss_one ps_never) pss_nil)
      (pss_one (ps_for PassesOwn.never rfl (pi_enumT (by rfl) T.enumerate (pa_cons (pv 2) pa_nil)) (pgT K rfl (pgs_cons (pg_name (i := 3) sc_need_reads.nd rfl (by first | exact Or.inl rfl | exact Or.inr rfl) (by first | exact Or.inl rfl | exact Or.inr rfl)) (pgs_cons (pg_name (i := 4) sc_need_reads.nd rfl (by first | exact Or.inl rfl | exact Or.inr rfl) (by first | exact Or.inl rfl | exact Or.inr rfl)) pgs_nil))) (pss_one (ps_if (pt_not (pt_val (pe_cal c_is_read (hr.mono (by decide)) (pa_cons (pv 0) (pa_cons (pv 1) (pa_cons (pv 4) pa_nil)))))) (pss_one ps_never) pss_nil))))), ?_⟩
    refine ⟨_, rfl, _, "tuple", true, rfl, .base (.tup ha), by decide +kernel, true, rfl, iteF ?_⟩
    refine ⟨_, rfl, a, _, rfl, .inr (SqT.of ha), _, _, rfl, rfl, true, dTrue (by rw [hlp]; omega), iteT ⟨_, _, rfl, rfl, true, dTrue (by rw [hlp]; omega), iteF ?_⟩⟩
    refine ⟨_, rfl, a, _, rfl, SqT.of ha, ?_⟩
    refine for_enumT (xs := ps.map V.ref) (fun i σ' H' => ∃ x1 x2, σ' = [some v, some (.int size), some (.ref a), x1, x2] ∧ Same H H') ⟨_, _, rfl, Same.refl _⟩ (fun i σ' H' _ g => ?_) (fun i x σ' H' TT hx g hT => ?_) (fun σ' H' g => ?_)
    · obtain ⟨x1, x2, _, e⟩ := g
      exact SqT.of (e _ _ ha)
    · obtain ⟨x1, x2, rfl, e⟩ := g
      obtain ⟨p, r, rfl, hpi, hri, hpr⟩ := pr_item hp hx
      have e1 := e.trans (Same.new (o := .tup [.int (i : Nat), .ref p]) hT)
      refine ⟨TT, _, rfl, SqT.of upd_same, rfl, _, _, rfl, _, _, rfl, rfl, ?_⟩
      exact ⟨_, rfl, _, rfl, _, rfl, v, h, size, p, r, rfl, hh.same e1, hm, e1 _ _ hpr, gr r (List.mem_of_getElem? hri), fun H2 e2 => ⟨true, rfl, iteF ⟨_, _, rfl, e1.trans e2⟩⟩⟩
    · obtain ⟨x1, x2, rfl, e⟩ := g
      exact q _ e
/-! ### need_checks -/
theorem sc_need_checks : FnScope ["many", "checks", "number", "check"] ["many", "checks"] (defScope s_need_checks) := ⟨rfl, rfl, rfl, by decide +kernel, rfl, by decide +kernel, by decide +kernel⟩
def spNChecks : Sp := fun vs H Q _ => ∃ (n : Nat) (vc : V) (cs : List Ck3), vs = [.int n, vc] ∧ CksAt H vc cs ∧ cs.length ≤ 7 ∧ (∀ c ∈ cs, GoodC n c) ∧ ∀ H', Same H H' → Q .non H'
theorem ok_need_checks {f : Addr} {fd : FuncData} (T : Txt K mg) (c_is_check : Cal P w K mg base 2 "is_check" ["many", "thing"] spCheck)
    (F : FnP K "need_checks" s_need_checks f fd) : FnOk P w K mg base CX0 3 f fd ["many", "checks"] spNChecks := by
  refine FnP.okP F sc_need_checks (fun vs H Q E h => ?_) (fun cdv A outer s H vs Q E hr h => ?_)
  · obtain ⟨n, vc, cs, rfl, _⟩ := h
    rfl
  · obtain ⟨n, vc, cs, rfl, ⟨a, ps, rfl, ha, hp⟩, l2, gc, q⟩ := h
    have hlp : (ps.map V.ref).length = cs.length := by rw [List.length_map, pr_len hp]
    refine ⟨_, (pss_cons (ps_if (PW.pt (pw_or (pt_not (pt_val (pe_isi "tuple" T.isinstance T.tuple (by decide +kernel) (pv 1)))) (pw_or1 (pt_cmpR op_gt (pe_callB (lenQ K) (by rfl) T.len b_len (pa_cons (pv 1) pa_nil)) (pe_gI T.mMC) (nomark _))))) (pss_one ps_never) pss_nil)
      (pss_one (ps_for PassesOwn.never rfl (pi_enumT (by rfl) T.enumerate (pa_cons (pv 1) pa_nil)) (pgT K rfl (pgs_cons (pg_name (i := 2) sc_need_checks.nd rfl (by first | exact Or.inl rfl | exact Or.inr rfl) (by first | exact Or.inl rfl | exact Or.inr rfl)) (pgs_cons (pg_name (i := 3) sc_need_checks.nd rfl (by first | exact Or.inl rfl | exact Or.inr rfl) (by first | exact Or.inl rfl | exact Or.inr rfl)) pgs_nil))) (pss_one (ps_if (pt_not (pt_val (pe_cal c_is_check (hr.mono (by decide)) (pa_cons (pv 0) (pa_cons (pv 3) pa_nil))))) (pss_one ps_never) pss_nil))))), ?_⟩
    refine ⟨_, rfl, _, "tuple", true, rfl, .base (.tup ha), by decide +kernel, true, rfl, iteF ?_⟩
    refine ⟨_, rfl, a, _, rfl, .inr (SqT.of ha), _, _, rfl, rfl, false, dFalse (by rw [hlp]; omega), iteF ?_⟩
    refine ⟨_, rfl, a, _, rfl, SqT.of ha, ?_⟩
    refine for_enumT (xs := ps.map V.ref) (fun i σ' H' => ∃ x1 x2, σ' = [some (.int n), some (.ref a), x1, x2] ∧ Same H H') ⟨_, _, rfl, Same.refl _⟩ (fun i σ' H' _ g => ?_) (fun i x σ' H' TT hx g hT => ?_) (fun σ' H' g => ?_)
    · obtain ⟨x1, x2, _, e⟩ := g
      exact SqT.of (e _ _ ha)
    · obtain ⟨x1, x2, rfl, e⟩ := g
      obtain ⟨p, c, rfl, hpi, hri, hpr⟩ := pr_item hp hx
      have e1 := e.trans (Same.new (o := .tup [.int (i : Nat), .ref p]) hT)
      refine ⟨TT, _, rfl, SqT.of upd_same, rfl, _, _, rfl, _, _, rfl, rfl, ?_⟩
      exact ⟨_, rfl, _, rfl, n, p, c, rfl, e1 _ _ hpr, gc c (List.mem_of_getElem? hri), true, rfl, iteF ⟨_, _, rfl, e1⟩⟩
    · obtain ⟨x1, x2, rfl, e⟩ := g
      exact q _ e
/-! ### need_fetch -/
theorem sc_need_fetch : FnScope ["thing", "house", "size", "reads", "checks", "number"] ["thing"] (defScope s_need_fetch) := ⟨rfl, rfl, rfl, by decide +kernel, rfl, by decide +kernel, by decide +kernel⟩
def spNFetch : Sp := fun vs H Q _ => ∃ (v : V) (F : Ft), vs = [v] ∧ FtAt H v F ∧ GoodF F ∧ ∀ H', Same H H' → Q v H'
theorem ok_need_fetch {f : Addr} {fd : FuncData} (T : Txt K mg) (c_house_fault : Cal P w K mg base 3 "house_fault" ["thing"] spFault) (c_is_whole_houses : Cal P w K mg base 1 "is_whole_houses" ["thing", "least", "most"] spWhole)
    (c_need_reads : Cal P w K mg base 3 "need_reads" ["house", "size", "reads"] spNReads) (c_need_checks : Cal P w K mg base 3 "need_checks" ["many", "checks"] spNChecks)
    (F : FnP K "need_fetch" s_need_fetch f fd) : FnOk P w K mg base CX0 4 f fd ["thing"] spNFetch := by
  refine FnP.okP F sc_need_fetch (fun vs H Q E h => ?_) (fun cdv A outer s H vs Q E hr h => ?_)
  · obtain ⟨v, F, rfl, _⟩ := h
    rfl
  · obtain ⟨v, F, rfl, ⟨a, vh, vr, vc, rfl, ha, h1, h2, h3⟩, g, q⟩ := h
    have g1 := g.s1
    have g2 := g.s2
    refine ⟨_, (pss_cons (ps_if (PW.pt (pw_or (pt_not (pt_val (pe_isi "tuple" T.isinstance T.tuple (by decide +kernel) (pv 0)))) (pw_or1 (pt_cmpR op_ne (pe_callB (lenQ K) (by rfl) T.len b_len (pa_cons (pv 0) pa_nil)) pe_int (nomark _))))) (pss_one ps_never) pss_nil)
      (pss_cons (ps_asg (pv 0) (pgT K rfl (pgs_cons (pg_name (i := 1) sc_need_fetch.nd rfl (by first | exact Or.inl rfl | exact Or.inr rfl) (by first | exact Or.inl rfl | exact Or.inr rfl)) (pgs_cons (pg_name (i := 2) sc_need_fetch.nd rfl (by first | exact Or.inl rfl | exact Or.inr rfl) (by first | exact Or.inl rfl | exact Or.inr rfl)) (pgs_cons (pg_name (i := 3) sc_need_fetch.nd rfl (by first | exact Or.inl rfl | exact Or.inr rfl) (by first | exact Or.inl rfl | exact Or.inr rfl)) (pgs_cons (pg_name (i := 4) sc_need_fetch.nd rfl (by first | exact Or.inl rfl | exact Or.inr rfl) (by first | exact Or.inl rfl | exact Or.inr rfl)) pgs_nil))))))
      (pss_cons (ps_for PassesOwn.never rfl (piL K (pe_cal c_house_fault (hr.mono (by decide)) (pa_cons (pv 1) pa_nil))) (pg_name (i := 5) sc_need_fetch.nd rfl (by first | exact Or.inl rfl | exact Or.inr rfl) (by first | exact Or.inl rfl | exact Or.inr rfl)) (pss_one ps_never))
      (pss_cons (ps_if (pt_not (pt_val (pe_cal c_is_whole_houses (hr.mono (by decide)) (pa_cons (pv 2) (pa_cons pe_int (pa_cons (pe_gI T.mMS) pa_nil)))))) (pss_one ps_never) pss_nil)
      (pss_cons (ps_expr (pe_cal c_need_reads (hr.mono (by decide)) (pa_cons (pv 1) (pa_cons (pv 2) (pa_cons (pv 3) pa_nil)))))
      (pss_cons (ps_expr (pe_cal c_need_checks (hr.mono (by decide)) (pa_cons (pe_callB (lenQ K) (by rfl) T.len b_len (pa_cons (pv 3) pa_nil)) (pa_cons (pv 4) pa_nil))))
      (pss_one (ps_ret (pv 0))))))))), ?_⟩
    refine ⟨_, rfl, _, "tuple", true, rfl, .base (.tup ha), by decide +kernel, true, rfl, iteF ?_⟩
    refine ⟨_, rfl, a, _, rfl, .inr (SqT.of ha), rfl, false, rfl, iteF ?_⟩
    refine ⟨_, rfl, a, _, rfl, SqT.of ha, rfl, _, _, rfl, _, _, rfl, _, _, rfl, _, _, rfl, rfl, ?_⟩
    refine ⟨_, rfl, vh, F.h, rfl, h1, g.hm, fun l H1 e1 hl => ?_⟩
    refine ⟨l, rfl, ⟨_, SqL.of hl⟩, ?_⟩
    refine for_list (xs := []) (fun _ σ' H' => σ' = [some (.ref a), some vh, some (.int F.size), some vr, some vc, none] ∧ H' = H1) ⟨rfl, rfl⟩ (fun i σ' H' _ g => ?_) (fun i x σ' H' hx g => ?_) (fun σ' H' g0 => ?_)
    · rw [g.2]
      exact SqL.of hl
    · cases hx
    · obtain ⟨rfl, rfl⟩ := g0
      refine ⟨_, rfl, _, _, _, rfl, true, wt (by omega) (by omega), iteF ?_⟩
      refine ⟨_, rfl, _, rfl, _, rfl, vh, F.h, F.size, vr, F.rs, rfl, h1.same e1, g.hm, h2.same e1, g.r1, g.r2, g.rd, fun H2 e2 => ?_⟩
      obtain ⟨b, ps, rfl, hb, hp⟩ := h2.same (e1.trans e2)
      refine ⟨_, rfl, b, _, rfl, .inr (SqT.of hb), _, rfl, F.rs.length, vc, F.cs, ?_, h3.same (e1.trans e2), Nat.le_trans g.c2 (by decide), g.ck, fun H3 e3 => ?_⟩
      · rw [List.length_map, pr_len hp]
      · exact ⟨_, rfl, q _ ((e1.trans e2).trans e3)⟩
end
end W24
set_option maxHeartbeats 4000000
/-! W5: arrows_by; the law's arrows. -/
namespace W24
open PySem PySem.Spec PyProof.Rows L2
section
variable {P : Program} {w : World} {K : PySem.W.Frag} {mg : Str → Option Value} {base : Heap}
def spArrows : Sp := fun vs H Q _ => ∃ (v : V) (F : Ft), vs = [v] ∧ FtAt H v F ∧ GoodF F ∧ ∀ d H', DA H d (arr F) F.rs.length H' → Q (.ref d) H'
theorem rArr_at {F : Ft} {i j : Nat} {x y : Rd5} (hi : F.rs[i]? = some x) (hj : F.rs[j]? = some y) : rArr F i j = (!decide (i = j) && decide (x.e ≤ y.b) && decide (y.p ∈ ups F.h x.p)) := by
  unfold rArr
  rw [hi, hj]
theorem word_eq {c : Ck3} {n : Nat} (g : GoodC n c) : (c.w = "same" ∧ ∀ A, ckR A c = sdR (sdR A c.o c.a) c.a c.o) ∨ (c.w = "upto" ∧ ∀ A, ckR A c = sdR A c.a c.o) ∨ (c.w = "newer" ∧ ∀ A, ckR A c = putR A c.o c.a true) := by
  rcases g.w with e | e | e
  · exact .inl ⟨e, fun A => by unfold ckR; rw [if_pos e]⟩
  · exact .inr (.inl ⟨e, fun A => by unfold ckR; rw [if_neg (by rw [e]; decide), if_pos e]⟩)
  · exact .inr (.inr ⟨e, fun A => by unfold ckR; rw [if_neg (by rw [e]; decide), if_neg (by rw [e]; decide)]⟩)
theorem take_snoc {α : Type} {l : List α} {i : Nat} {x : α} (h : l[i]? = some x) : l.take (i + 1) = l.take i ++ [x] := by
  rw [List.take_succ, h]
  rfl
theorem sc_arrows_by : FnScope ["fetch", "house", "size", "reads", "checks", "found", "one", "first", "above", "other", "second", "word"] ["fetch"] (defScope s_arrows_by) := ⟨rfl, rfl, rfl, by decide +kernel, rfl, by decide +kernel, by decide +kernel⟩
theorem ok_arrows_by {f : Addr} {fd : FuncData} (T : Txt K mg) (c_come_to : Cal P w K mg base 1 "come_to" ["house", "place"] spUp)
    (F : FnP K "arrows_by" s_arrows_by f fd) : FnOk P w K mg base CX0 2 f fd ["fetch"] spArrows := by
  refine FnP.okP F sc_arrows_by (fun vs H Q E h => ?_) (fun cdv A outer s H vs Q E hr h => ?_)
  · obtain ⟨v, F, rfl, _⟩ := h
    rfl
  · obtain ⟨v, F, rfl, ⟨a, vh, vr, vc, rfl, ha, hh, ⟨ar, pr, rfl, har, hpr⟩, ⟨ac, pc, rfl, hac, hpc⟩⟩, g, q⟩ := h
    have hu := hu_of hr
    have hn := g.r2
    have hlr : (pr.map V.ref).length = F.rs.length := by rw [List.length_map, pr_len hpr]
    have hlc : (pc.map V.ref).length = F.cs.length := by rw [List.length_map, pr_len hpc]
    refine ⟨_, (pss_cons (ps_asg (pv 0) (pgT K rfl (pgs_cons (pg_name (i := 1) sc_arrows_by.nd rfl (by first | exact Or.inl rfl | exact Or.inr rfl) (by first | exact Or.inl rfl | exact Or.inr rfl)) (pgs_cons (pg_name (i := 2) sc_arrows_by.nd rfl (by first | exact Or.inl rfl | exact Or.inr rfl) (by first | exact Or.inl rfl | exact Or.inr rfl)) (pgs_cons (pg_name (i := 3) sc_arrows_by.nd rfl (by first | exact Or.inl rfl | exact Or.inr rfl) (by first | exact Or.inl rfl | exact Or.inr rfl)) (pgs_cons (pg_name (i := 4) sc_arrows_by.nd rfl (by first | exact Or.inl rfl | exact Or.inr rfl) (by first | exact Or.inl rfl | exact Or.inr rfl)) pgs_nil))))))
      (pss_cons (ps_set (i := 5) sc_arrows_by.nd rfl (by first | exact Or.inl rfl | exact Or.inr rfl) pe_dnewT)
      (pss_cons (ps_for PassesOwn.never rfl (pi_enumT (by rfl) T.enumerate (pa_cons (pv 3) pa_nil)) (pgT K rfl (pgs_cons (pg_name (i := 6) sc_arrows_by.nd rfl (by first | exact Or.inl rfl | exact Or.inr rfl) (by first | exact Or.inl rfl | exact Or.inr rfl)) (pgs_cons (pg_name (i := 7) sc_arrows_by.nd rfl (by first | exact Or.inl rfl | exact Or.inr rfl) (by first | exact Or.inl rfl | exact Or.inr rfl)) pgs_nil))) (pss_cons (ps_set (i := 8) sc_arrows_by.nd rfl (by first | exact Or.inl rfl | exact Or.inr rfl) (pe_cal c_come_to (hr.mono (by decide)) (pa_cons (pv 1) (pa_cons (pe_ix (ixT K) (pv 7) pe_int (fun _ _ => rfl)) pa_nil))))
      (pss_one (ps_for PassesOwn.never rfl (pi_enumT (by rfl) T.enumerate (pa_cons (pv 3) pa_nil)) (pgT K rfl (pgs_cons (pg_name (i := 9) sc_arrows_by.nd rfl (by first | exact Or.inl rfl | exact Or.inr rfl) (by first | exact Or.inl rfl | exact Or.inr rfl)) (pgs_cons (pg_name (i := 10) sc_arrows_by.nd rfl (by first | exact Or.inl rfl | exact Or.inr rfl) (by first | exact Or.inl rfl | exact Or.inr rfl)) pgs_nil))) (pss_one (ps_if (PW.pt (pw_and (pt_cmpR op_ne (pv 6) (pv 9) (nomark _)) (pw_and (pt_cmpR op_le (pe_ix (ixT K) (pv 7) pe_int (fun _ _ => rfl)) (pe_ix (ixT K) (pv 10) pe_int (fun _ _ => rfl)) (nomark _)) (pw_and1 (pt_cmpR (inQ K) (pe_ix (ixT K) (pv 10) pe_int (fun _ _ => rfl)) (pv 8) rfl))))) (pss_one (ps_dput hu (pv 5) (pe_tup (pa_cons (pv 6) (pa_cons (pv 9) pa_nil))) pe_bl rfl)) pss_nil))))))
      (pss_cons (ps_for PassesOwn.never rfl (piT K (pv 4)) (pgT K rfl (pgs_cons (pg_name (i := 6) sc_arrows_by.nd rfl (by first | exact Or.inl rfl | exact Or.inr rfl) (by first | exact Or.inl rfl | exact Or.inr rfl)) (pgs_cons (pg_name (i := 11) sc_arrows_by.nd rfl (by first | exact Or.inl rfl | exact Or.inr rfl) (by first | exact Or.inl rfl | exact Or.inr rfl)) (pgs_cons (pg_name (i := 9) sc_arrows_by.nd rfl (by first | exact Or.inl rfl | exact Or.inr rfl) (by first | exact Or.inl rfl | exact Or.inr rfl)) pgs_nil)))) (pss_cons (ps_if (pt_cmpR op_eq (pv 11) (pe_gS T.mSAME) (nomark _)) (pss_one (ps_expr (pe_dsetT hr (pv 5) (pe_tup (pa_cons (pv 9) (pa_cons (pv 6) pa_nil))) pe_bl ⟨rfl, rfl, rfl, rfl⟩))) pss_nil)
      (pss_one (ps_if (pt_cmpR (inQ K) (pv 11) (pe_tup (pa_cons (pe_gS T.mSAME) (pa_cons (pe_gS T.mUPTO) pa_nil))) rfl) (pss_one (ps_expr (pe_dsetT hr (pv 5) (pe_tup (pa_cons (pv 6) (pa_cons (pv 9) pa_nil))) pe_bl ⟨rfl, rfl, rfl, rfl⟩))) (pss_one (ps_dput hu (pv 5) (pe_tup (pa_cons (pv 9) (pa_cons (pv 6) pa_nil))) pe_bl rfl))))))
      (pss_one (ps_ret (pv 5))))))), ?_⟩
    refine ⟨_, rfl, a, _, rfl, SqT.of ha, rfl, _, _, rfl, _, _, rfl, _, _, rfl, _, _, rfl, rfl, fun d hd => ?_⟩
    refine ⟨_, rfl, ar, _, rfl, SqT.of ((Same.new hd) _ _ har), ?_⟩
    refine for_enumT (xs := pr.map V.ref) (fun i σ' H' => ∃ x1 x2 x3 x4 x5, σ' = [some (.ref a), some vh, some (.int F.size), some (.ref ar), some (.ref ac), some (.ref d), x1, x2, x3, x4, x5, none] ∧ DA H d (arrTo F i 0) F.rs.length H') ⟨_, _, _, _, _, rfl, hd, Same.new hd, [], upd_same, ?_⟩ (fun i σ' H' _ g => ?_) (fun i x σ' H' TT hx gg hT => ?_) (fun σ' H' gg => ?_)
    · rw [arrTo_zero]
      exact RepA.nil _
    · obtain ⟨_, _, _, _, _, _, e⟩ := g
      exact SqT.of (e.sm _ _ har)
    · obtain ⟨x1, x2, x3, x4, x5, rfl, D⟩ := gg
      obtain ⟨p, r, rfl, hpi, hri, hp⟩ := pr_item hpr hx
      have hi := (List.getElem?_eq_some_iff.mp hri).1
      have D1 := D.same (Same.new (o := .tup [.int (i : Nat), .ref p]) hT)
      refine ⟨TT, _, rfl, SqT.of upd_same, rfl, _, _, rfl, _, _, rfl, rfl, ?_⟩
      refine ⟨_, rfl, _, rfl, p, _, _, _, rfl, rfl, SqT.of (D1.sm _ _ hp), atI_nat (j := 0) rfl, vh, F.h, r.p, rfl, hh.same D1.sm, g.hm, (g.rd r (List.mem_of_getElem? hri)).p, fun l H2 e2 hl0 hl => ?_⟩
      have D2 := D1.same e2
      refine ⟨_, rfl, ar, _, rfl, SqT.of (D2.sm _ _ har), ?_⟩
      refine for_enumT (xs := pr.map V.ref) (fun j σ' H' => ∃ x4 x5, σ' = [some (.ref a), some vh, some (.int F.size), some (.ref ar), some (.ref ac), some (.ref d), some (.int (i : Nat)), some (.ref p), some (.ref l), x4, x5, none] ∧ DA H d (arrTo F i j) F.rs.length H' ∧ H' l = some (.lst ((ups F.h r.p).map V.str))) ⟨_, _, rfl, D2, hl⟩ (fun i σ' H' _ g => ?_) (fun j x σ' H' TT hx gg hT => ?_) (fun σ' H' gg => ?_)
      · obtain ⟨_, _, _, e, _⟩ := g
        exact SqT.of (e.sm _ _ har)
      · obtain ⟨x4, x5, rfl, D3, hl3⟩ := gg
        obtain ⟨p2, r2, rfl, hpj, hrj, hp2⟩ := pr_item hpr hx
        have hj := (List.getElem?_eq_some_iff.mp hrj).1
        have eT := Same.new (o := .tup [.int (j : Nat), .ref p2]) hT
        have D4 := D3.same eT
        have hl4 := eT _ _ hl3
        have hR := rArr_at hri hrj
        refine ⟨TT, _, rfl, SqT.of upd_same, rfl, _, _, rfl, _, _, rfl, rfl, ?_⟩
        refine ⟨_, rfl, _, rfl, rfl, !decide (i = j), ?_, ?_⟩
        · refine congrArg (fun b => V.bl (!b)) ?_
          by_cases e : i = j
          · rw [decide_eq_true e, decide_eq_true (by rw [e])]
          · rw [decide_eq_false e, decide_eq_false fun z => e (by have := V.int.inj z; omega)]
        · by_cases e1 : i = j
          · rw [decide_eq_true e1, Bool.not_true, Bool.false_and, Bool.false_and] at hR
            rw [decide_eq_true e1]
            refine iteF (iteF ⟨_, _, rfl, ?_, hl4⟩)
            rw [arrTo_no hR]
            exact D4
          · rw [decide_eq_false e1, Bool.not_false, Bool.true_and] at hR
            rw [decide_eq_false e1]
            refine iteT ⟨_, rfl, p, _, _, _, rfl, rfl, SqT.of (D4.sm _ _ hp), atI_nat (j := 2) rfl, _, rfl, p2, _, _, _, rfl, rfl, SqT.of (D4.sm _ _ hp2), atI_nat (j := 1) rfl, _, _, rfl, rfl, decide (r.e ≤ r2.b), ?_, ?_⟩
            · refine congrArg V.bl ?_
              by_cases e : r.e ≤ r2.b
              · rw [decide_eq_true e, decide_eq_true (by omega)]
              · rw [decide_eq_false e, decide_eq_false (by omega)]
            · by_cases e2 : r.e ≤ r2.b
              · rw [decide_eq_true e2, Bool.true_and] at hR
                rw [decide_eq_true e2]
                refine iteT ⟨_, rfl, p2, _, _, _, rfl, rfl, SqT.of (D4.sm _ _ hp2), atI_nat (j := 0) rfl, _, rfl, l, _, rfl, .inl (SqL.of hl4), rfl, flat_str _, decide (r2.p ∈ ups F.h r.p), ?_, ?_⟩
                · show V.bl (inV (.str r2.p) ((ups F.h r.p).map V.str)) = _
                  rw [inV_str]
                · by_cases e3 : r2.p ∈ ups F.h r.p
                  · rw [decide_eq_true e3] at hR ⊢
                    refine iteT ⟨_, rfl, _, rfl, _, rfl, by show 2 ≤ sizeLine; decide, fun t ht => ?_⟩
                    have eU := Same.new (o := .tup [.int (i : Nat), .int (j : Nat)]) ht
                    obtain ⟨H5, hput, D5⟩ := (D4.same eU).put (t := t) hn hi hj upd_same false
                    refine ⟨d, H5, rfl, hput, _, _, rfl, ?_, ?_⟩
                    · rw [← arrTo_yes hR]
                      exact D5
                    · have h6 := eU _ _ hl4
                      obtain ⟨al, z1, z2⟩ := (D4.same eU).di
                      rcases hput with ⟨kvs, k, w1, w2, w3, w4⟩ | ⟨kvs, k, b, w1, w2, w3, w4, w5⟩
                      · rw [z1] at w1; cases w1
                      · rw [w5, upd_ne (ne_of h6 w1 (by intro z; cases z))]
                        exact h6
                  · rw [decide_eq_false e3] at hR ⊢
                    refine iteF ⟨_, _, rfl, ?_, hl4⟩
                    rw [arrTo_no hR]
                    exact D4
              · rw [decide_eq_false e2, Bool.false_and] at hR
                rw [decide_eq_false e2]
                refine iteF (iteF ⟨_, _, rfl, ?_, hl4⟩)
                rw [arrTo_no hR]
                exact D4
      · obtain ⟨x4, x5, rfl, D3, _⟩ := gg
        refine ⟨_, _, _, _, _, rfl, ?_⟩
        rw [← arrTo_next]
        rw [hlr] at D3
        exact D3
    · obtain ⟨x1, x2, x3, x4, x5, rfl, D⟩ := gg
      rw [hlr, arrTo_all] at D
      refine ⟨_, rfl, ac, rfl, ⟨_, SqT.of (D.sm _ _ hac)⟩, ?_⟩
      refine for_tup (xs := pc.map V.ref) (fun i σ' H' => ∃ x1 x2 x3 x4 x5 x6, σ' = [some (.ref a), some vh, some (.int F.size), some (.ref ar), some (.ref ac), some (.ref d), x1, x2, x3, x4, x5, x6] ∧ DA H d ((F.cs.take i).foldl ckR (arr0 F)) F.rs.length H') ⟨_, _, _, _, _, _, rfl, D⟩ (fun i σ' H' _ g => ?_) (fun i x σ' H' hx gg => ?_) (fun σ' H' gg => ?_)
      · obtain ⟨_, _, _, _, _, _, _, e⟩ := g
        exact SqT.of (e.sm _ _ hac)
      · obtain ⟨x1, x2, x3, x4, x5, x6, rfl, D⟩ := gg
        obtain ⟨p, c, rfl, hpi, hci, hp⟩ := pr_item hpc hx
        have gc := g.ck c (List.mem_of_getElem? hci)
        refine ⟨p, _, rfl, SqT.of (D.sm _ _ hp), rfl, _, _, rfl, _, _, rfl, _, _, rfl, rfl, ?_⟩
        rw [take_snoc hci, List.foldl_append]
        generalize (F.cs.take i).foldl ckR (arr0 F) = A at D ⊢
        show tSeq _ _ _ _ _
        rcases word_eq gc with ⟨e, hA⟩ | ⟨e, hA⟩ | ⟨e, hA⟩
        · refine ⟨_, rfl, rfl, true, dTrue (congrArg V.str e), iteT ?_⟩
          refine ⟨_, rfl, d, rfl, D.isD, _, rfl, _, rfl, by show 2 ≤ sizeLine; decide, fun t ht => ?_⟩
          refine (D.same (Same.new ht)).setd hn gc.o gc.a upd_same fun v H5 D5 => ?_
          refine ⟨_, rfl, by show 2 ≤ sizeLine; decide, fun t2 ht2 => ⟨t2, _, rfl, .inr (SqT.of upd_same), rfl, rfl, true, by rw [e]; decide +kernel, iteT ?_⟩⟩
          refine ⟨_, rfl, d, rfl, (D5.same (Same.new ht2)).isD, _, rfl, _, rfl, by show 2 ≤ sizeLine; decide, fun t3 ht3 => ?_⟩
          refine ((D5.same (Same.new ht2)).same (Same.new ht3)).setd hn gc.a gc.o upd_same fun v H6 D6 => ⟨_, _, _, _, _, _, rfl, ?_⟩
          show DA H d (ckR A c) _ _
          rw [hA]
          exact D6
        · refine ⟨_, rfl, rfl, false, dFalse (fun z => by have := V.str.inj z; rw [e] at this; revert this; decide), iteF ?_⟩
          refine ⟨_, rfl, by show 2 ≤ sizeLine; decide, fun t2 ht2 => ⟨t2, _, rfl, .inr (SqT.of upd_same), rfl, rfl, true, by rw [e]; decide +kernel, iteT ?_⟩⟩
          refine ⟨_, rfl, d, rfl, (D.same (Same.new ht2)).isD, _, rfl, _, rfl, by show 2 ≤ sizeLine; decide, fun t3 ht3 => ?_⟩
          refine ((D.same (Same.new ht2)).same (Same.new ht3)).setd hn gc.a gc.o upd_same fun v H6 D6 => ⟨_, _, _, _, _, _, rfl, ?_⟩
          show DA H d (ckR A c) _ _
          rw [hA]
          exact D6
        · refine ⟨_, rfl, rfl, false, dFalse (fun z => by have := V.str.inj z; rw [e] at this; revert this; decide), iteF ?_⟩
          refine ⟨_, rfl, by show 2 ≤ sizeLine; decide, fun t2 ht2 => ⟨t2, _, rfl, .inr (SqT.of upd_same), rfl, rfl, false, by rw [e]; decide +kernel, iteF ?_⟩⟩
          refine ⟨_, rfl, _, rfl, _, rfl, by show 2 ≤ sizeLine; decide, fun t3 ht3 => ?_⟩
          obtain ⟨H6, hput, D6⟩ := ((D.same (Same.new ht2)).same (Same.new ht3)).put (t := t3) hn gc.o gc.a upd_same true
          refine ⟨d, H6, rfl, hput, _, _, _, _, _, _, rfl, ?_⟩
          show DA H d (ckR A c) _ _
          rw [hA]
          exact D6
      · obtain ⟨x1, x2, x3, x4, x5, x6, rfl, D⟩ := gg
        rw [hlc, List.take_length] at D
        exact ⟨_, rfl, q d _ D⟩
end
end W24
set_option maxHeartbeats 4000000
/-! W6: the law's arrows. -/
namespace W24
open PySem PySem.Spec PyProof.Rows L2
section
variable {P : Program} {w : World} {K : PySem.W.Frag} {mg : Str → Option Value} {base : Heap}
theorem law_put {H0 H : Hp} {d t : Addr} {A : Arr} {n i j : Nat} {σ : L2.St} {D : Ends} {wd : Str} (h : DA H0 d A n H) (hn : n ≤ 8) (hi : i < n) (hj : j < n) (ht : H t = some (.tup [.int (i : Int), .int (j : Int)]))
    (s5 : σ[5]? = some (some (.ref d))) (s12 : σ[12]? = some (some (.ref t))) (s10 : σ[10]? = some (some (.str wd))) (q : ∀ H', DA H0 d (putR A i j ((A i j).getD false || decide (wd = "newer"))) n H' → (∀ l xs, H l = some (.lst xs) → H' l = some (.lst xs)) → (∀ l xs, H l = some (.tup xs) → H' l = some (.tup xs)) → D.nx σ H') :
    sDPut (tVar 5) (tVar 12) (tOrV (tDGet2 (tVar 5) (tVar 12) (tC (.bl false))) (tOp rEq (tVar 10) (tC (.str "newer")))) D σ H := by
  have fin : ∀ b : Bool, b = ((A i j).getD false || decide (wd = "newer")) → ∃ a H4, V.ref d = V.ref a ∧ DPut H a (.ref t) (.bl b) H4 ∧ D.nx σ H4 := fun b e => by
    obtain ⟨H5, hput, D5⟩ := h.put (t := t) hn hi hj ht b
    obtain ⟨al, z1, z2⟩ := h.di
    refine ⟨d, H5, rfl, hput, q H5 (by rw [← e]; exact D5) (fun l xs hl => ?_) (fun l xs hl => ?_)⟩
    · rcases hput with ⟨kvs, k, w1, w2, w3, w4⟩ | ⟨kvs, k, b, w1, w2, w3, w4, w5⟩
      · rw [z1] at w1; cases w1
      · rw [w5, upd_ne (ne_of hl w1 (by intro z; cases z))]
        exact hl
    · rcases hput with ⟨kvs, k, w1, w2, w3, w4⟩ | ⟨kvs, k, b, w1, w2, w3, w4, w5⟩
      · rw [z1] at w1; cases w1
      · rw [w5, upd_ne (ne_of hl w1 (by intro z; cases z))]
        exact hl
  refine ⟨_, s5, d, rfl, h.isD, _, s12, _, h.get ht, ?_⟩
  cases e : A i j with
  | none =>
    refine ⟨false, rfl, iteF ⟨_, s10, rfl, _, s5, _, s12, ?_⟩⟩
    rw [dec_str]
    refine fin _ ?_
    rw [e]
    show _ = decide _
    by_cases z : wd = "newer"
    · rw [z]; decide
    · rw [decide_eq_false z]
      exact beq_eq_false_iff_ne.mpr z
  | some b =>
    cases b with
    | true => exact ⟨true, rfl, iteT ⟨_, s5, _, s12, fin true (by rw [e]; rfl)⟩⟩
    | false =>
      refine ⟨false, rfl, iteF ⟨_, s10, rfl, _, s5, _, s12, ?_⟩⟩
      rw [dec_str]
      refine fin _ ?_
      rw [e]
      show _ = decide _
      by_cases z : wd = "newer"
      · rw [z]; decide
      · rw [decide_eq_false z]
        exact beq_eq_false_iff_ne.mpr z
theorem sc_law_arrows : FnScope ["fetch", "house", "size", "reads", "tests", "found", "j", "one", "k", "other", "word", "pairs", "pair"] ["fetch"] (defScope s_law_arrows) := ⟨rfl, rfl, rfl, by decide +kernel, rfl, by decide +kernel, by decide +kernel⟩
theorem ok_law_arrows {f : Addr} {fd : FuncData} (T : Txt K mg) (c_law_under : Cal P w K mg base 1 "_law_under" ["house", "place"] spUp)
    (F : FnP K "_law_arrows" s_law_arrows f fd) : FnOk P w K mg base CX0 2 f fd ["fetch"] spArrows := by
  refine FnP.okP F sc_law_arrows (fun vs H Q E h => ?_) (fun cdv A outer s H vs Q E hr h => ?_)
  · obtain ⟨v, F, rfl, _⟩ := h
    rfl
  · obtain ⟨v, F, rfl, ⟨a, vh, vr, vc, rfl, ha, hh, ⟨ar, pr, rfl, har, hpr⟩, ⟨ac, pc, rfl, hac, hpc⟩⟩, g, q⟩ := h
    have hu := hu_of hr
    have hn := g.r2
    have hlr : (pr.map V.ref).length = F.rs.length := by rw [List.length_map, pr_len hpr]
    have hlc : (pc.map V.ref).length = F.cs.length := by rw [List.length_map, pr_len hpc]
    refine ⟨_, (pss_cons (ps_asg (pv 0) (pgT K rfl (pgs_cons (pg_name (i := 1) sc_law_arrows.nd rfl (by first | exact Or.inl rfl | exact Or.inr rfl) (by first | exact Or.inl rfl | exact Or.inr rfl)) (pgs_cons (pg_name (i := 2) sc_law_arrows.nd rfl (by first | exact Or.inl rfl | exact Or.inr rfl) (by first | exact Or.inl rfl | exact Or.inr rfl)) (pgs_cons (pg_name (i := 3) sc_law_arrows.nd rfl (by first | exact Or.inl rfl | exact Or.inr rfl) (by first | exact Or.inl rfl | exact Or.inr rfl)) (pgs_cons (pg_name (i := 4) sc_law_arrows.nd rfl (by first | exact Or.inl rfl | exact Or.inr rfl) (by first | exact Or.inl rfl | exact Or.inr rfl)) pgs_nil))))))
      (pss_cons (ps_set (i := 5) sc_law_arrows.nd rfl (by first | exact Or.inl rfl | exact Or.inr rfl) pe_dnewT)
      (pss_cons (ps_for PassesOwn.never rfl (pi_enumT (by rfl) T.enumerate (pa_cons (pv 3) pa_nil)) (pgT K rfl (pgs_cons (pg_name (i := 6) sc_law_arrows.nd rfl (by first | exact Or.inl rfl | exact Or.inr rfl) (by first | exact Or.inl rfl | exact Or.inr rfl)) (pgs_cons (pg_name (i := 7) sc_law_arrows.nd rfl (by first | exact Or.inl rfl | exact Or.inr rfl) (by first | exact Or.inl rfl | exact Or.inr rfl)) pgs_nil))) (pss_one (ps_for PassesOwn.never rfl (pi_enumT (by rfl) T.enumerate (pa_cons (pv 3) pa_nil)) (pgT K rfl (pgs_cons (pg_name (i := 8) sc_law_arrows.nd rfl (by first | exact Or.inl rfl | exact Or.inr rfl) (by first | exact Or.inl rfl | exact Or.inr rfl)) (pgs_cons (pg_name (i := 9) sc_law_arrows.nd rfl (by first | exact Or.inl rfl | exact Or.inr rfl) (by first | exact Or.inl rfl | exact Or.inr rfl)) pgs_nil))) (pss_one (ps_if (PW.pt (pw_and (pt_cmpR op_ne (pv 6) (pv 8) (nomark _)) (pw_and (pt_cmpR op_le (pe_ix (ixT K) (pv 7) pe_int (fun _ _ => rfl)) (pe_ix (ixT K) (pv 9) pe_int (fun _ _ => rfl)) (nomark _)) (pw_and1 (pt_cmpR (inQ K) (pe_ix (ixT K) (pv 9) pe_int (fun _ _ => rfl)) (pe_cal c_law_under (hr.mono (by decide)) (pa_cons (pv 1) (pa_cons (pe_ix (ixT K) (pv 7) pe_int (fun _ _ => rfl)) pa_nil))) rfl))))) (pss_one (ps_dput hu (pv 5) (pe_tup (pa_cons (pv 6) (pa_cons (pv 8) pa_nil))) pe_bl rfl)) pss_nil)))))
      (pss_cons (ps_for PassesOwn.never rfl (piT K (pv 4)) (pgT K rfl (pgs_cons (pg_name (i := 7) sc_law_arrows.nd rfl (by first | exact Or.inl rfl | exact Or.inr rfl) (by first | exact Or.inl rfl | exact Or.inr rfl)) (pgs_cons (pg_name (i := 10) sc_law_arrows.nd rfl (by first | exact Or.inl rfl | exact Or.inr rfl) (by first | exact Or.inl rfl | exact Or.inr rfl)) (pgs_cons (pg_name (i := 9) sc_law_arrows.nd rfl (by first | exact Or.inl rfl | exact Or.inr rfl) (by first | exact Or.inl rfl | exact Or.inr rfl)) pgs_nil)))) (pss_cons (ps_set (i := 11) sc_law_arrows.nd rfl (by first | exact Or.inl rfl | exact Or.inr rfl) (pe_ifExp (pt_cmpR op_eq (pv 10) pe_str (nomark _)) (pe_lst (pa_cons (pe_tup (pa_cons (pv 7) (pa_cons (pv 9) pa_nil))) (pa_cons (pe_tup (pa_cons (pv 9) (pa_cons (pv 7) pa_nil))) pa_nil))) (pe_lst (pa_cons (pe_tup (pa_cons (pv 7) (pa_cons (pv 9) pa_nil))) pa_nil))))
      (pss_one (ps_for PassesOwn.never rfl (piL K (pe_ifExp (pt_cmpR op_eq (pv 10) pe_str (nomark _)) (pe_lst (pa_cons (pe_tup (pa_cons (pv 9) (pa_cons (pv 7) pa_nil))) pa_nil)) (pv 11))) (pg_name (i := 12) sc_law_arrows.nd rfl (by first | exact Or.inl rfl | exact Or.inr rfl) (by first | exact Or.inl rfl | exact Or.inr rfl)) (pss_one (ps_dput hu (pv 5) (pv 12) (pe_or (pe_dget2 hu (pv 5) (pv 12) pe_bl ⟨rfl, rfl, rfl, rfl⟩) (pe_one (pe_cmpR op_eq (pv 10) pe_str (nomark _)))) rfl))))))
      (pss_one (ps_ret (pv 5))))))), ?_⟩
    refine ⟨_, rfl, a, _, rfl, SqT.of ha, rfl, _, _, rfl, _, _, rfl, _, _, rfl, _, _, rfl, rfl, fun d hd => ?_⟩
    refine ⟨_, rfl, ar, _, rfl, SqT.of ((Same.new hd) _ _ har), ?_⟩
    refine for_enumT (xs := pr.map V.ref) (fun i σ' H' => ∃ x1 x2 x3 x4, σ' = [some (.ref a), some vh, some (.int F.size), some (.ref ar), some (.ref ac), some (.ref d), x1, x2, x3, x4, none, none, none] ∧ DA H d (arrTo F i 0) F.rs.length H') ⟨_, _, _, _, rfl, hd, Same.new hd, [], upd_same, ?_⟩ (fun i σ' H' _ g => ?_) (fun i x σ' H' TT hx gg hT => ?_) (fun σ' H' gg => ?_)
    · rw [arrTo_zero]
      exact RepA.nil _
    · obtain ⟨_, _, _, _, _, e⟩ := g
      exact SqT.of (e.sm _ _ har)
    · obtain ⟨x1, x2, x3, x4, rfl, D⟩ := gg
      obtain ⟨p, r, rfl, hpi, hri, hp⟩ := pr_item hpr hx
      have hi := (List.getElem?_eq_some_iff.mp hri).1
      have D1 := D.same (Same.new (o := .tup [.int (i : Nat), .ref p]) hT)
      refine ⟨TT, _, rfl, SqT.of upd_same, rfl, _, _, rfl, _, _, rfl, rfl, ?_⟩
      refine ⟨_, rfl, ar, _, rfl, SqT.of (D1.sm _ _ har), ?_⟩
      refine for_enumT (xs := pr.map V.ref) (fun j σ' H' => ∃ x4 x5, σ' = [some (.ref a), some vh, some (.int F.size), some (.ref ar), some (.ref ac), some (.ref d), some (.int (i : Nat)), some (.ref p), x4, x5, none, none, none] ∧ DA H d (arrTo F i j) F.rs.length H') ⟨_, _, rfl, D1⟩ (fun i σ' H' _ g => ?_) (fun j x σ' H' TT hx gg hT => ?_) (fun σ' H' gg => ?_)
      · obtain ⟨_, _, _, e⟩ := g
        exact SqT.of (e.sm _ _ har)
      · obtain ⟨x4, x5, rfl, D3⟩ := gg
        obtain ⟨p2, r2, rfl, hpj, hrj, hp2⟩ := pr_item hpr hx
        have hj := (List.getElem?_eq_some_iff.mp hrj).1
        have eT := Same.new (o := .tup [.int (j : Nat), .ref p2]) hT
        have D4 := D3.same eT
        have hR := rArr_at hri hrj
        refine ⟨TT, _, rfl, SqT.of upd_same, rfl, _, _, rfl, _, _, rfl, rfl, ?_⟩
        refine ⟨_, rfl, _, rfl, rfl, !decide (i = j), ?_, ?_⟩
        · refine congrArg (fun b => V.bl (!b)) ?_
          by_cases e : i = j
          · rw [decide_eq_true e, decide_eq_true (by rw [e])]
          · rw [decide_eq_false e, decide_eq_false fun z => e (by have := V.int.inj z; omega)]
        · by_cases e1 : i = j
          · rw [decide_eq_true e1, Bool.not_true, Bool.false_and, Bool.false_and] at hR
            rw [decide_eq_true e1]
            refine iteF (iteF ⟨_, _, rfl, ?_⟩)
            rw [arrTo_no hR]
            exact D4
          · rw [decide_eq_false e1, Bool.not_false, Bool.true_and] at hR
            rw [decide_eq_false e1]
            refine iteT ⟨_, rfl, p, _, _, _, rfl, rfl, SqT.of (D4.sm _ _ hp), atI_nat (j := 2) rfl, _, rfl, p2, _, _, _, rfl, rfl, SqT.of (D4.sm _ _ hp2), atI_nat (j := 1) rfl, _, _, rfl, rfl, decide (r.e ≤ r2.b), ?_, ?_⟩
            · refine congrArg V.bl ?_
              by_cases e : r.e ≤ r2.b
              · rw [decide_eq_true e, decide_eq_true (by omega)]
              · rw [decide_eq_false e, decide_eq_false (by omega)]
            · by_cases e2 : r.e ≤ r2.b
              · rw [decide_eq_true e2, Bool.true_and] at hR
                rw [decide_eq_true e2]
                refine iteT ⟨_, rfl, p2, _, _, _, rfl, rfl, SqT.of (D4.sm _ _ hp2), atI_nat (j := 0) rfl, _, rfl, _, rfl, p, _, _, _, rfl, rfl, SqT.of (D4.sm _ _ hp), atI_nat (j := 0) rfl, vh, F.h, r.p, rfl, hh.same D4.sm, g.hm, (g.rd r (List.mem_of_getElem? hri)).p, fun l H2 e2 hl0 hl => ?_⟩
                have D5 := D4.same e2
                refine ⟨l, _, rfl, .inl (SqL.of hl), rfl, flat_str _, decide (r2.p ∈ ups F.h r.p), ?_, ?_⟩
                · show V.bl (inV (.str r2.p) ((ups F.h r.p).map V.str)) = _
                  rw [inV_str]
                · by_cases e3 : r2.p ∈ ups F.h r.p
                  · rw [decide_eq_true e3] at hR ⊢
                    refine iteT ⟨_, rfl, _, rfl, _, rfl, by show 2 ≤ sizeLine; decide, fun t ht => ?_⟩
                    have eU := Same.new (o := .tup [.int (i : Nat), .int (j : Nat)]) ht
                    obtain ⟨H5, hput, D6⟩ := (D5.same eU).put (t := t) hn hi hj upd_same false
                    refine ⟨d, H5, rfl, hput, _, _, rfl, ?_⟩
                    rw [← arrTo_yes hR]
                    exact D6
                  · rw [decide_eq_false e3] at hR ⊢
                    refine iteF ⟨_, _, rfl, ?_⟩
                    rw [arrTo_no hR]
                    exact D5
              · rw [decide_eq_false e2, Bool.false_and] at hR
                rw [decide_eq_false e2]
                refine iteF (iteF ⟨_, _, rfl, ?_⟩)
                rw [arrTo_no hR]
                exact D4
      · obtain ⟨x4, x5, rfl, D3⟩ := gg
        refine ⟨_, _, _, _, rfl, ?_⟩
        rw [← arrTo_next]
        rw [hlr] at D3
        exact D3
    · obtain ⟨x1, x2, x3, x4, rfl, D⟩ := gg
      rw [hlr, arrTo_all] at D
      refine ⟨_, rfl, ac, rfl, ⟨_, SqT.of (D.sm _ _ hac)⟩, ?_⟩
      refine for_tup (xs := pc.map V.ref) (fun i σ' H' => ∃ x1 x2 x3 x4 x5 x6 x7, σ' = [some (.ref a), some vh, some (.int F.size), some (.ref ar), some (.ref ac), some (.ref d), x1, x2, x3, x4, x5, x6, x7] ∧ DA H d ((F.cs.take i).foldl ckR (arr0 F)) F.rs.length H') ⟨_, _, _, _, _, _, _, rfl, D⟩ (fun i σ' H' _ g => ?_) (fun i x σ' H' hx gg => ?_) (fun σ' H' gg => ?_)
      · obtain ⟨_, _, _, _, _, _, _, _, e⟩ := g
        exact SqT.of (e.sm _ _ hac)
      · obtain ⟨x1, x2, x3, x4, x5, x6, x7, rfl, D⟩ := gg
        obtain ⟨p, c, rfl, hpi, hci, hp⟩ := pr_item hpc hx
        have gc := g.ck c (List.mem_of_getElem? hci)
        refine ⟨p, _, rfl, SqT.of (D.sm _ _ hp), rfl, _, _, rfl, _, _, rfl, _, _, rfl, rfl, ?_⟩
        rw [take_snoc hci, List.foldl_append]
        generalize (F.cs.take i).foldl ckR (arr0 F) = A at D ⊢
        show tSeq _ _ _ _ _
        rcases word_eq gc with ⟨e, hA⟩ | ⟨e, hA⟩ | ⟨e, hA⟩
        · refine ⟨_, rfl, rfl, true, dTrue (congrArg V.str e), iteT ?_⟩
          refine ⟨_, rfl, _, rfl, by show 2 ≤ sizeLine; decide, fun t1 ht1 => ⟨_, rfl, _, rfl, by show 2 ≤ sizeLine; decide, fun t2 ht2 => ⟨by show 2 ≤ sizeLine; decide, fun l hl => ?_⟩⟩⟩
          have D3 := ((D.same (Same.new ht1)).same (Same.new ht2)).same (Same.new (o := .lst [.ref t1, .ref t2]) hl)
          have h1 := (Same.new (o := .lst [.ref t1, .ref t2]) hl) _ _ ((Same.new (o := .tup [.int (c.o : Int), .int (c.a : Int)]) ht2) _ _ (upd_same (H := H') (a := t1) (o := .tup [.int (c.a : Int), .int (c.o : Int)])))
          have h2 := (Same.new (o := .lst [.ref t1, .ref t2]) hl) _ _ (upd_same (a := t2) (o := .tup [.int (c.o : Int), .int (c.a : Int)]))
          refine ⟨_, rfl, rfl, false, dFalse (fun z => by have := V.str.inj z; rw [e] at this; revert this; decide), iteF ?_⟩
          refine ⟨_, rfl, l, rfl, ⟨_, SqL.of upd_same⟩, ?_⟩
          refine for_list (xs := [.ref t1, .ref t2]) (fun i σ' H' => ∃ x, σ' = [some (.ref a), some vh, some (.int F.size), some (.ref ar), some (.ref ac), some (.ref d), x1, some (.int c.a), x3, some (.int c.o), some (.str c.w), some (.ref l), x] ∧ H' l = some (.lst [.ref t1, .ref t2]) ∧ H' t1 = some (.tup [.int (c.a : Int), .int (c.o : Int)]) ∧ H' t2 = some (.tup [.int (c.o : Int), .int (c.a : Int)]) ∧
            DA H d (if i = 0 then A else if i = 1 then sdR A c.a c.o else sdR (sdR A c.a c.o) c.o c.a) F.rs.length H') ⟨_, rfl, upd_same, h1, h2, D3⟩ (fun i σ' H' _ g => ?_) (fun i x σ' H' hx gg => ?_) (fun σ' H' gg => ?_)
          · obtain ⟨_, _, e, _⟩ := g
            exact SqL.of e
          · obtain ⟨x, rfl, k1, k2, k3, D5⟩ := gg
            match i, hx with
            | 0, hx =>
              cases hx
              refine law_put D5 hn gc.a gc.o k2 rfl rfl rfl fun H5 D6 z1 z2 => ⟨_, rfl, z1 _ _ k1, z2 _ _ k2, z2 _ _ k3, ?_⟩
              have e3 : decide (c.w = "newer") = false := by rw [e]; decide
              rw [e3, Bool.or_false] at D6
              exact D6
            | 1, hx =>
              cases hx
              refine law_put D5 hn gc.o gc.a k3 rfl rfl rfl fun H5 D6 z1 z2 => ⟨_, rfl, z1 _ _ k1, z2 _ _ k2, z2 _ _ k3, ?_⟩
              have e3 : decide (c.w = "newer") = false := by rw [e]; decide
              rw [e3, Bool.or_false] at D6
              exact D6
            | i + 2, hx => simp at hx
          · obtain ⟨x, rfl, k1, k2, k3, D5⟩ := gg
            refine ⟨_, _, _, _, _, _, _, rfl, ?_⟩
            show DA H d (ckR A c) _ _
            rw [hA, sdR_comm]
            exact D5
        · refine ⟨_, rfl, rfl, false, dFalse (fun z => by have := V.str.inj z; rw [e] at this; revert this; decide), iteF ?_⟩
          refine ⟨_, rfl, _, rfl, by show 2 ≤ sizeLine; decide, fun t1 ht1 => ⟨by show 1 ≤ sizeLine; decide, fun l hl => ?_⟩⟩
          have D3 := (D.same (Same.new ht1)).same (Same.new (o := .lst [.ref t1]) hl)
          have h1 := (Same.new (o := .lst [.ref t1]) hl) _ _ (upd_same (H := H') (a := t1) (o := .tup [.int (c.a : Int), .int (c.o : Int)]))
          refine ⟨_, rfl, rfl, false, dFalse (fun z => by have := V.str.inj z; rw [e] at this; revert this; decide), iteF ?_⟩
          refine ⟨_, rfl, l, rfl, ⟨_, SqL.of upd_same⟩, ?_⟩
          refine for_list (xs := [.ref t1]) (fun i σ' H' => ∃ x, σ' = [some (.ref a), some vh, some (.int F.size), some (.ref ar), some (.ref ac), some (.ref d), x1, some (.int c.a), x3, some (.int c.o), some (.str c.w), some (.ref l), x] ∧ H' l = some (.lst [.ref t1]) ∧ H' t1 = some (.tup [.int (c.a : Int), .int (c.o : Int)]) ∧
            DA H d (if i = 0 then A else sdR A c.a c.o) F.rs.length H') ⟨_, rfl, upd_same, h1, D3⟩ (fun i σ' H' _ g => ?_) (fun i x σ' H' hx gg => ?_) (fun σ' H' gg => ?_)
          · obtain ⟨_, _, e, _⟩ := g
            exact SqL.of e
          · obtain ⟨x, rfl, k1, k2, D5⟩ := gg
            match i, hx with
            | 0, hx =>
              cases hx
              refine law_put D5 hn gc.a gc.o k2 rfl rfl rfl fun H5 D6 z1 z2 => ⟨_, rfl, z1 _ _ k1, z2 _ _ k2, ?_⟩
              have e3 : decide (c.w = "newer") = false := by rw [e]; decide
              rw [e3, Bool.or_false] at D6
              exact D6
            | i + 1, hx => simp at hx
          · obtain ⟨x, rfl, k1, k2, D5⟩ := gg
            refine ⟨_, _, _, _, _, _, _, rfl, ?_⟩
            show DA H d (ckR A c) _ _
            rw [hA]
            exact D5
        · refine ⟨_, rfl, rfl, false, dFalse (fun z => by have := V.str.inj z; rw [e] at this; revert this; decide), iteF ?_⟩
          refine ⟨_, rfl, _, rfl, by show 2 ≤ sizeLine; decide, fun t0 ht0 => ⟨by show 1 ≤ sizeLine; decide, fun l0 hl0 => ?_⟩⟩
          refine ⟨_, rfl, rfl, true, dTrue (congrArg V.str e), iteT ?_⟩
          refine ⟨_, rfl, _, rfl, by show 2 ≤ sizeLine; decide, fun t1 ht1 => ⟨by show 1 ≤ sizeLine; decide, fun l hl => ?_⟩⟩
          have D3 := (((D.same (Same.new ht0)).same (Same.new (o := .lst [.ref t0]) hl0)).same (Same.new ht1)).same (Same.new (o := .lst [.ref t1]) hl)
          have h1 := (Same.new (o := .lst [.ref t1]) hl) _ _ (upd_same (a := t1) (o := .tup [.int (c.o : Int), .int (c.a : Int)]))
          refine ⟨l, rfl, ⟨_, SqL.of upd_same⟩, ?_⟩
          refine for_list (xs := [.ref t1]) (fun i σ' H' => ∃ x, σ' = [some (.ref a), some vh, some (.int F.size), some (.ref ar), some (.ref ac), some (.ref d), x1, some (.int c.a), x3, some (.int c.o), some (.str c.w), some (.ref l0), x] ∧ H' l = some (.lst [.ref t1]) ∧ H' t1 = some (.tup [.int (c.o : Int), .int (c.a : Int)]) ∧
            DA H d (if i = 0 then A else putR A c.o c.a true) F.rs.length H') ⟨_, rfl, upd_same, h1, D3⟩ (fun i σ' H' _ g => ?_) (fun i x σ' H' hx gg => ?_) (fun σ' H' gg => ?_)
          · obtain ⟨_, _, e, _⟩ := g
            exact SqL.of e
          · obtain ⟨x, rfl, k1, k2, D5⟩ := gg
            match i, hx with
            | 0, hx =>
              cases hx
              refine law_put D5 hn gc.o gc.a k2 rfl rfl rfl fun H5 D6 z1 z2 => ⟨_, rfl, z1 _ _ k1, z2 _ _ k2, ?_⟩
              rw [decide_eq_true e, Bool.or_true] at D6
              exact D6
            | i + 1, hx => simp at hx
          · obtain ⟨x, rfl, k1, k2, D5⟩ := gg
            refine ⟨_, _, _, _, _, _, _, rfl, ?_⟩
            show DA H d (ckR A c) _ _
            rw [hA]
            exact D5
      · obtain ⟨x1, x2, x3, x4, x5, x6, x7, rfl, D⟩ := gg
        rw [hlc, List.take_length] at D
        exact ⟨_, rfl, q d _ D⟩
end
end W24
set_option maxHeartbeats 4000000
/-! W7: arrows_in, table_of, gaps_in, need_possible. -/
namespace W24
open PySem PySem.Spec PyProof.Rows L2
/-- the list of arrows -/
structure ArrL (H : Hp) (v : V) (L : List (Nat × Nat × Bool)) : Prop where
  at_ : ∃ (a : Addr) (ps : List Addr), v = .ref a ∧ H a = some (.lst (ps.map V.ref)) ∧ Paired (fun p (x : Nat × Nat × Bool) => H p = some (.tup [.int (x.1 : Int), .int (x.2.1 : Int), .bl x.2.2])) ps L
  few : L.length ≤ 64
theorem pr_ex {α β : Type} {F : α → β → Prop} : ∀ (l : List α), (∀ x ∈ l, ∃ y, F x y) → ∃ m, Paired F l m
  | [], _ => ⟨[], .nil⟩
  | x :: l, h => by
    obtain ⟨y, hy⟩ := h x List.mem_cons_self
    obtain ⟨m, hm⟩ := pr_ex l fun z hz => h z (List.mem_cons_of_mem _ hz)
    exact ⟨y :: m, .cons hy hm⟩
theorem pr_mem {α β : Type} {F : α → β → Prop} : ∀ {l : List α} {m : List β}, Paired F l m → (∀ x ∈ l, ∃ y ∈ m, F x y) ∧ ∀ y ∈ m, ∃ x ∈ l, F x y
  | _, _, .nil => ⟨fun _ h => (by cases h), fun _ h => (by cases h)⟩
  | _, _, .cons r t => by
    obtain ⟨h1, h2⟩ := pr_mem t
    refine ⟨fun x hx => ?_, fun y hy => ?_⟩
    · rcases List.mem_cons.mp hx with rfl | hx
      · exact ⟨_, List.mem_cons_self, r⟩
      · obtain ⟨y, a, b⟩ := h1 x hx
        exact ⟨y, List.mem_cons_of_mem _ a, b⟩
    · rcases List.mem_cons.mp hy with rfl | hy
      · exact ⟨_, List.mem_cons_self, r⟩
      · obtain ⟨x, a, b⟩ := h2 y hy
        exact ⟨x, List.mem_cons_of_mem _ a, b⟩
section
variable {P : Program} {w : World} {K : PySem.W.Frag} {mg : Str → Option Value} {base : Heap}
def spArrowsIn : Sp := fun vs H Q _ => ∃ (v : V) (F : Ft), vs = [v] ∧ FtAt H v F ∧ GoodF F ∧ ∀ l L H', Same H H' → ArrL H' (.ref l) L → (∀ i j s, (i, j, s) ∈ L ↔ arr F i j = some s) → (∀ i j s, arr F i j = some s → i < F.rs.length ∧ j < F.rs.length) → Q (.ref l) H'
theorem sc_arrows_in : FnScope ["fetch", "found", "one", "other"] ["fetch"] (defScope s_arrows_in) := ⟨rfl, rfl, rfl, by decide +kernel, rfl, by decide +kernel, by decide +kernel⟩
theorem ok_arrows_in {f : Addr} {fd : FuncData} (T : Txt K mg) (c_arrows_by : Cal P w K mg base 2 "arrows_by" ["fetch"] spArrows)
    (F : FnP K "arrows_in" s_arrows_in f fd) : FnOk P w K mg base CX0 3 f fd ["fetch"] spArrowsIn := by
  refine FnP.okP F sc_arrows_in (fun vs H Q E h => ?_) (fun cdv A outer s H vs Q E hr h => ?_)
  · obtain ⟨v, F, rfl, _⟩ := h
    rfl
  · obtain ⟨v, F, rfl, hF, g, q⟩ := h
    have hu := hu_of hr
    refine ⟨_, (pss_cons (ps_set (i := 1) sc_arrows_in.nd rfl (by first | exact Or.inr rfl | exact Or.inl rfl) (pe_cal c_arrows_by (hr.mono (by decide)) (pa_cons (pv 0) pa_nil)))
      (pss_one (ps_ret (pe_lc (own := [("one", 2), ("other", 3)]) (g := gTup K 2 (gCons (gName 2) (gCons (gName 3) gNil))) (tt := tYes) rfl sc_arrows_in.nd (piL K (pe_callB (call_sortedDT rfl) (by rfl) T.sorted b_sorted (pa_cons (pv 1) pa_nil))) (blkOk_by (own := [("one", 2), ("other", 3)]) (N := ["fetch", "found", "one", "other"]) (sc := (defScope s_arrows_in)) (by decide +kernel)) (fun _ _ _ _ _ => (pgT K rfl (pgs_cons (pg_name (i := 2) sc_arrows_in.nd rfl (by first | exact Or.inl rfl | exact Or.inr rfl) (by first | exact Or.inl rfl | exact Or.inr rfl)) (pgs_cons (pg_name (i := 3) sc_arrows_in.nd rfl (by first | exact Or.inl rfl | exact Or.inr rfl) (by first | exact Or.inl rfl | exact Or.inr rfl)) pgs_nil)))) (fun _ _ _ _ _ => pts_nil) (fun _ _ _ _ _ => (pe_tup (pa_cons (pv 2) (pa_cons (pv 3) (pa_cons (pe_dget hu (pv 1) (pe_tup (pa_cons (pv 2) (pa_cons (pv 3) pa_nil))) (fun _ _ => rfl)) pa_nil))))))))), ?_⟩
    refine ⟨_, rfl, v, F, rfl, hF, g, fun d H1 D => ?_⟩
    obtain ⟨al, hd, R⟩ := D.di
    have hl64 := al_len R.nd R.lt g.r2
    refine ⟨_, rfl, d, _, rfl, hd, fun p hp => ?_, fun l bs ys hl hk hperm => ?_⟩
    · obtain ⟨x, hx, rfl⟩ := List.mem_map.mp hp
      exact ⟨_, _, rfl⟩
    have hk2 := pr_mem hk
    have each : ∀ y ∈ ys, ∃ x : Nat × Nat × Bool, H1 y = some (.tup [.int (x.1 : Int), .int (x.2.1 : Int)]) ∧ arr F x.1 x.2.1 = some x.2.2 := fun y hy => by
      obtain ⟨p, hp, e⟩ := hk2.2 y (hperm.mem_iff.mp hy)
      obtain ⟨x, hx, rfl⟩ := List.mem_map.mp hp
      obtain ⟨⟨i, j⟩, b⟩ := x
      exact ⟨(i, j, b), e, by rw [← R.get]; exact getA_of_mem R.nd hx⟩
    obtain ⟨L, hL⟩ := pr_ex ys each
    have hLl := pr_len hL
    have hyl : ys.length ≤ 64 := by
      rw [hperm.length_eq, ← pr_len hk, len_kvs]
      exact hl64
    have hiff : ∀ i j s, (i, j, s) ∈ L ↔ arr F i j = some s := fun i j s => by
      refine ⟨fun h => ?_, fun h => ?_⟩
      · obtain ⟨y, _, _, e⟩ := (pr_mem hL).2 _ h
        exact e
      · have h0 := h
        rw [← R.get] at h0
        have hm := mem_of_getA2 h0
        obtain ⟨b, hb, e⟩ := hk2.1 (kk (i, j), V.bl s) (List.mem_map.mpr ⟨_, hm, rfl⟩)
        obtain ⟨⟨i', j', s'⟩, hx, e1, e2⟩ := (pr_mem hL).1 b (hperm.mem_iff.mpr hb)
        have e : H1 b = some (HO.tup [.int (i : Int), .int (j : Int)]) := e
        rw [e] at e1
        have e3 := HO.tup.inj (Option.some.inj e1)
        simp only [List.cons.injEq, V.int.injEq, and_true] at e3
        have e4 : i = i' := by omega
        have e5 : j = j' := by omega
        subst e4 e5
        have e2 : arr F i j = some s' := e2
        rw [h] at e2
        cases e2
        exact hx
    refine ⟨l, rfl, ⟨_, SqL.of upd_same⟩, fun D2 hD2 => ?_⟩
    have eL := Same.new (o := .lst (ys.map V.ref)) hl
    refine lc_it (walk_list (xs := ys.map V.ref)) (Ct _ D2 fun m => match L[m]? with | some x => [.int (x.1 : Int), .int (x.2.1 : Int), .bl x.2.2] | none => []) (ct0 hD2) (fun i H2 _ p => SqL.of (p.2.1 _ _ upd_same)) (fun i x H2 H3 hi p y => ?_) (fun H2 p => ?_)
    · obtain ⟨rfl, hx⟩ := y
      obtain ⟨y, z, rfl, hyi, hzi, hy, ha⟩ := pr_item hL hx
      have e2 := eL.trans p.2.1
      refine ⟨y, _, rfl, SqT.of (e2 _ _ hy), rfl, _, _, rfl, _, _, rfl, rfl, rfl, ?_⟩
      refine ⟨_, rfl, _, rfl, _, rfl, _, rfl, _, rfl, by show 2 ≤ sizeLine; decide, fun t ht => ?_⟩
      have e3 := Same.new (o := .tup [.int (z.1 : Int), .int (z.2.1 : Int)]) ht
      have hget := (D.same (e2.trans e3)).get (t := t) upd_same
      rw [ha] at hget
      refine ⟨d, _, rfl, hget, by show 3 ≤ sizeLine; decide, fun t2 ht2 => ?_⟩
      refine ct_step p (e3.trans (Same.new ht2)) (by rw [List.length_map] at hi; omega) (Same.free (p.2.1.trans e3) ht2) ?_
      rw [upd_same, hzi]
    · obtain ⟨p1, p2, ps, p3, p4, p5⟩ := p
      rw [List.length_map] at p4
      refine q D2 L H2 ((D.sm.trans eL).trans p2) ⟨⟨D2, ps, rfl, p3, ?_⟩, by omega⟩ hiff R.bd
      refine pr_of (by omega) fun i p x e1 e2 => ?_
      have := (p5 i p e1).2
      simp only [e2] at this
      exact this
end
end W24
set_option maxHeartbeats 4000000
/-! W8: table_of. -/
namespace W24
open PySem PySem.Spec PyProof.Rows L2
def optN : Option Nat → V
  | none => .non
  | some m => .int (m : Int)
def rowOf (n : Nat) (f : Tab) (i : Nat) : List V := (List.range n).map fun j => optN (f i j)
theorem rowOf_get {n : Nat} {f : Tab} {i j : Nat} (h : j < n) : (rowOf n f i)[j]? = some (optN (f i j)) := by
  unfold rowOf
  rw [List.getElem?_map, List.getElem?_range h]
  rfl
theorem rowOf_len (n : Nat) (f : Tab) (i : Nat) : (rowOf n f i).length = n := by
  unfold rowOf
  rw [List.length_map, List.length_range]
theorem rowOf_set {n : Nat} {f : Tab} {i j : Nat} (v : Nat) : (rowOf n f i).set j (.int (v : Int)) = rowOf n (updT f i j (some v)) i := by
  refine List.ext_getElem? fun k => ?_
  rw [List.getElem?_set, rowOf_len]
  by_cases hk : k < n
  · rw [rowOf_get hk, rowOf_get hk]
    by_cases e : j = k
    · subst e
      rw [if_pos rfl, if_pos hk, updT_same]
      rfl
    · rw [if_neg e, updT_ne fun z => e z.2.symm]
  · rw [List.getElem?_eq_none (by rw [rowOf_len]; omega), List.getElem?_eq_none (by rw [rowOf_len]; omega)]
    by_cases e : j = k
    · rw [if_pos e, if_neg (by omega)]
    · rw [if_neg e]
theorem rowOf_ne {n : Nat} {f : Tab} {i j k : Nat} {v : Option Nat} (h : k ≠ i) : rowOf n (updT f i j v) k = rowOf n f k := by
  unfold rowOf
  refine List.map_congr_left fun a _ => ?_
  rw [updT_ne fun z => h z.1]
/-- the rows, new since H0 -/
structure RowsN (H0 : Hp) (a : Addr) (n : Nat) (f : Tab) (H : Hp) : Prop where
  sm : Same H0 H
  rows : ∃ ps : List Addr, H0 a = none ∧ H a = some (.lst (ps.map V.ref)) ∧ ps.length = n ∧ ps.Nodup ∧ a ∉ ps ∧ ∀ i p, ps[i]? = some p → H0 p = none ∧ H p = some (.lst (rowOf n f i))
theorem RowsN.same {H0 H H' : Hp} {a : Addr} {n : Nat} {f : Tab} (h : RowsN H0 a n f H) (e : Same H H') : RowsN H0 a n f H' := by
  obtain ⟨ps, h0, h1, h2, h3, h4, h5⟩ := h.rows
  exact ⟨h.sm.trans e, ps, h0, e _ _ h1, h2, h3, h4, fun i p hp => ⟨(h5 i p hp).1, e _ _ (h5 i p hp).2⟩⟩
theorem RowsN.base {H0 H1 H : Hp} {a : Addr} {n : Nat} {f : Tab} (h : RowsN H1 a n f H) (e : Same H0 H1) : RowsN H0 a n f H := by
  obtain ⟨ps, h0, h1, h2, h3, h4, h5⟩ := h.rows
  exact ⟨e.trans h.sm, ps, Same.free e h0, h1, h2, h3, h4, fun i p hp => ⟨Same.free e (h5 i p hp).1, (h5 i p hp).2⟩⟩
theorem RowsN.row {H0 H : Hp} {a : Addr} {n : Nat} {f : Tab} (h : RowsN H0 a n f H) {i : Nat} (hi : i < n) : ∃ (xs : List V) (p : Addr), H a = some (.lst xs) ∧ atI xs (i : Int) = some (.ref p) ∧ H p = some (.lst (rowOf n f i)) := by
  obtain ⟨ps, h0, h1, h2, h3, h4, h5⟩ := h.rows
  have hp : ps[i]? = some (ps[i]'(by omega)) := List.getElem?_eq_getElem _
  exact ⟨_, _, h1, atI_nat (by rw [List.getElem?_map, hp]; rfl), (h5 i _ hp).2⟩
theorem nodup_ixA {α : Type} : ∀ {l : List α} {i k : Nat} {x : α}, l.Nodup → l[i]? = some x → l[k]? = some x → i = k
  | [], _, _, _, _, h, _ => by simp at h
  | _ :: _, 0, 0, _, _, _, _ => rfl
  | y :: l, 0, k + 1, x, nd, h1, h2 => by
    simp at h1 h2
    subst h1
    exact absurd (List.mem_of_getElem? h2) (List.nodup_cons.mp nd).1
  | y :: l, i + 1, 0, x, nd, h1, h2 => by
    simp at h1 h2
    subst h2
    exact absurd (List.mem_of_getElem? h1) (List.nodup_cons.mp nd).1
  | y :: l, i + 1, k + 1, x, nd, h1, h2 => by
    simp at h1 h2
    rw [nodup_ixA (List.nodup_cons.mp nd).2 h1 h2]
theorem ixN_nat {n j : Nat} (h : j < n) : ixN n (j : Int) = some j := by
  unfold ixN
  rw [if_pos (by omega), if_pos (by omega)]
  rfl
section
variable {P : Program} {w : World} {K : PySem.W.Frag} {mg : Str → Option Value} {base : Heap}
/-- reading rows[i][j] -/
theorem RowsN.rd {H0 H : Hp} {a : Addr} {n i j r x y : Nat} {f : Tab} {σ : L2.St} (h : RowsN H0 a n f H) (hi : i < n) (hj : j < n) (hr : σ[r]? = some (some (.ref a))) (hx : σ[x]? = some (some (.int (i : Int)))) (hy : σ[y]? = some (some (.int (j : Int)))) {Q : VK} (q : Q (optN (f i j)) H) :
    tOp (rIxL K) (tOp (rIxL K) (tVar r) (tVar x)) (tVar y) σ H Q := by
  obtain ⟨xs, p, h1, h2, h3⟩ := h.row hi
  exact ⟨_, hr, _, hx, a, xs, _, _, rfl, rfl, SqL.of h1, h2, _, hy, p, _, _, _, rfl, rfl, SqL.of h3, atI_nat (rowOf_get hj), q⟩
/-- rows[i][j] = v -/
theorem RowsN.wr {H0 H : Hp} {a : Addr} {n i j r x y v : Nat} {f : Tab} {σ : L2.St} (h : RowsN H0 a n f H) (hi : i < n) (hj : j < n) (hr : σ[r]? = some (some (.ref a))) (hx : σ[x]? = some (some (.int (i : Int)))) (hy : σ[y]? = some (some (.int (j : Int)))) {Q : L2.St → Hp → Prop} (q : ∀ H', RowsN H0 a n (updT f i j (some v)) H' → (∀ b xs, H b = some (.tup xs) → H' b = some (.tup xs)) → Q σ H') :
    gSub (tOp (rIxL K) (tVar r) (tVar x)) (tVar y) rSetL (.int (v : Int)) σ H Q := by
  obtain ⟨ps, h0, h1, h2, h3, h4, h5⟩ := h.rows
  have hp : ps[i]? = some (ps[i]'(by omega)) := List.getElem?_eq_getElem _
  generalize ps[i]'(by omega) = p at hp
  obtain ⟨k1, k2⟩ := h5 i p hp
  refine ⟨_, hr, _, hx, a, _, _, _, rfl, rfl, SqL.of h1, atI_nat (by rw [List.getElem?_map, hp]; rfl), _, hy, p, _, _, j, rfl, rfl, k2, by rw [rowOf_len]; exact ixN_nat hj, ?_⟩
  refine q _ ⟨Same.mut h.sm k1, ps, h0, ?_, h2, h3, h4, fun k p' hp' => ?_⟩ fun b xs hb => ?_
  · have : a ≠ p := fun e => h4 (e ▸ List.mem_of_getElem? hp)
    rw [upd_ne this]
    exact h1
  · refine ⟨(h5 k p' hp').1, ?_⟩
    by_cases e : k = i
    · subst e
      rw [hp] at hp'
      cases hp'
      rw [upd_same, rowOf_set]
    · have : p' ≠ p := fun z => e (by
        subst z
        exact nodup_ixA h3 hp' hp)
      rw [upd_ne this, rowOf_ne e]
      exact (h5 k p' hp').2
  · rw [upd_ne (ne_of hb k2 (by intro z; cases z))]
    exact hb
/-- new lists -/
def Cl (H1 : Hp) (D : Addr) (c : Nat → List V) (i : Nat) (H : Hp) : Prop := H1 D = none ∧ Same H1 H ∧ ∃ ps : List Addr, H D = some (.lst (ps.map V.ref)) ∧ ps.length = i ∧ ps.Nodup ∧ D ∉ ps ∧ ∀ j p, ps[j]? = some p → H1 p = none ∧ H p = some (.lst (c j))
theorem cl0 {H1 : Hp} {D : Addr} {c : Nat → List V} (h : H1 D = none) : Cl H1 D c 0 (upd H1 D (.lst [])) := ⟨h, Same.new h, [], upd_same, rfl, List.nodup_nil, by simp, fun j p e => by simp at e⟩
theorem cl_step {H1 H H4 : Hp} {D q : Addr} {c : Nat → List V} {i : Nat} (p : Cl H1 D c i H) (e : Same H H4) (hi : i < 50000) (hn : H q = none) (hq : H4 q = some (.lst (c i))) :
    ∃ acc, H4 D = some (.lst acc) ∧ acc.length < sizeLine ∧ Cl H1 D c (i + 1) (upd H4 D (.lst (acc ++ [.ref q]))) := by
  obtain ⟨p1, p2, ps, p3, p4, p5, p6, p7⟩ := p
  have hD := e _ _ p3
  have hqD : q ≠ D := fun z => by
    subst z
    rw [hn] at p3
    cases p3
  have hqp : q ∉ ps := fun hm => by
    obtain ⟨k, hk⟩ := List.mem_iff_getElem?.mp hm
    have := (p7 k q hk).2
    rw [hn] at this
    cases this
  refine ⟨_, hD, by rw [List.length_map, p4]; exact sz (by omega), p1, Same.mut (p2.trans e) p1, ps ++ [q], ?_, by simp [p4], ?_, ?_, fun j p hj => ?_⟩
  · rw [upd_same, List.map_append]
    rfl
  · rw [List.nodup_append]
    refine ⟨p5, by simp, fun a ha b hb => ?_⟩
    have hb : b = q := by simpa using hb
    rintro rfl
    exact hqp (hb ▸ ha)
  · intro hm
    rcases List.mem_append.mp hm with h | h
    · exact p6 h
    · exact hqD (List.mem_singleton.mp h).symm
  · have aux : ∀ a cc, a ≠ D → H4 a = some (HO.lst cc) → upd H4 D (.lst (ps.map V.ref ++ [.ref q])) a = some (.lst cc) := fun a cc hne ha => by
      rw [upd_ne hne]
      exact ha
    by_cases hlt : j < ps.length
    · rw [List.getElem?_append_left hlt] at hj
      obtain ⟨a, b⟩ := p7 j p hj
      exact ⟨a, aux _ _ (fun z => p6 (z ▸ List.mem_of_getElem? hj)) (e _ _ b)⟩
    · rw [List.getElem?_append_right (by omega)] at hj
      have e0 : j - ps.length = 0 := by
        cases hk : j - ps.length with
        | zero => rfl
        | succ m => rw [hk] at hj; simp at hj
      rw [e0] at hj
      have : p = q := by simpa using hj.symm
      subst this
      have ej : j = i := by omega
      subst ej
      exact ⟨Same.free p2 hn, aux _ _ hqD hq⟩
def spTable : Sp := fun vs H Q _ => ∃ (n : Nat) (v : V) (L : List (Nat × Nat × Bool)), vs = [.int n, v] ∧ n ≤ 8 ∧ ArrL H v L ∧ (∀ x ∈ L, x.1 < n ∧ x.2.1 < n) ∧ (∀ i, i < n → tabOf n L i i = some 0) ∧ ∀ a H', RowsN H a n (tabOf n L) H' → Q (.ref a) H'
theorem mx (a b : Nat) : V.int (if (b : Int) > (a : Int) then (b : Int) else (a : Int)) = V.int ((max a b : Nat) : Int) := by
  congr 1
  by_cases h : a < b
  · rw [if_pos (by omega)]; omega
  · rw [if_neg (by omega)]; omega
/-- rows[..][..] or 0 -/
theorem or0 {H : Hp} {σ : L2.St} {t : TE} {o : Option Nat} {Q : VK} (h : ∀ Q' : VK, Q' (optN o) H → t σ H Q') (q : Q (.int ((o.getD 0 : Nat) : Int)) H) : tOrT K t (tC (.int 0)) σ H Q := by
  refine h _ ?_
  cases o with
  | none => exact ⟨false, rfl, iteF q⟩
  | some m =>
    refine ⟨_, rfl, ?_⟩
    by_cases e : (m : Int) = 0
    · rw [show ((m : Int) != 0) = false by simp [e]]
      refine iteF ?_
      have : m = 0 := by omega
      subst this
      exact q
    · rw [show ((m : Int) != 0) = true by simp; omega]
      exact iteT q
theorem sc_table_of : FnScope ["many", "arrows", "rows", "other", "one", "is_strict", "middle"] ["many", "arrows"] (defScope s_table_of) := ⟨rfl, rfl, rfl, by decide +kernel, rfl, by decide +kernel, by decide +kernel⟩
theorem ok_table_of {f : Addr} {fd : FuncData} (T : Txt K mg) (F : FnP K "table_of" s_table_of f fd) : FnOk P w K mg base CX0 1 f fd ["many", "arrows"] spTable := by
  refine FnP.okP F sc_table_of (fun vs H Q E h => ?_) (fun cdv A outer s H vs Q E hr h => ?_)
  · obtain ⟨n, v, L, rfl, _⟩ := h
    rfl
  · obtain ⟨n, v, L, rfl, hn, ⟨⟨b, bs, rfl, hb, hbs⟩, hL64⟩, hLn, hdiag, q⟩ := h
    refine ⟨_, (pss_cons (ps_set (i := 2) sc_table_of.nd rfl (by first | exact Or.inr rfl | exact Or.inl rfl) (pe_lc (own := [("one", 4)]) (g := gName 4) (tt := tYes) rfl sc_table_of.nd (pi_range1 (by rfl) T.range (pa_cons (pv 0) pa_nil)) (blkOk_by (own := [("one", 4)]) (N := ["many", "arrows", "rows", "other", "one", "is_strict", "middle"]) (sc := (defScope s_table_of)) (by decide +kernel)) (fun _ _ _ _ _ => (pg_name (i := 4) sc_table_of.nd rfl (by first | exact Or.inl rfl | exact Or.inr rfl) (by first | exact Or.inl rfl | exact Or.inr rfl))) (fun _ _ _ _ _ => pts_nil) (fun _ _ _ _ _ => (pe_lc (own := [("other", 3)]) (g := gName 3) (tt := tYes) rfl sc_table_of.nd (pi_range1 (by rfl) T.range (pa_cons (pv 0) pa_nil)) (blkOk_by (own := [("other", 3)]) (N := ["many", "arrows", "rows", "other", "one", "is_strict", "middle"]) (sc := (relS _ (defScope s_table_of))) (by decide +kernel)) (fun _ _ _ _ _ => (pg_name (i := 3) sc_table_of.nd rfl (by first | exact Or.inl rfl | exact Or.inr rfl) (by first | exact Or.inl rfl | exact Or.inr rfl))) (fun _ _ _ _ _ => pts_nil) (fun _ _ _ _ _ => (pe_ifExp (pt_cmpR op_eq (pv 4) (pv 3) (nomark _)) pe_int pe_non))))))
      (pss_cons (ps_for PassesOwn.never rfl (piL K (pv 1)) (pgT K rfl (pgs_cons (pg_name (i := 4) sc_table_of.nd rfl (by first | exact Or.inl rfl | exact Or.inr rfl) (by first | exact Or.inl rfl | exact Or.inr rfl)) (pgs_cons (pg_name (i := 3) sc_table_of.nd rfl (by first | exact Or.inl rfl | exact Or.inr rfl) (by first | exact Or.inl rfl | exact Or.inr rfl)) (pgs_cons (pg_name (i := 5) sc_table_of.nd rfl (by first | exact Or.inl rfl | exact Or.inr rfl) (by first | exact Or.inl rfl | exact Or.inr rfl)) pgs_nil)))) (pss_one (ps_asg (pe_callB (call_max2 rfl) (by rfl) T.max b_max (pa_cons (pe_orT (pe_ix (ixL K) (pe_ix (ixL K) (pv 2) (pv 4) (fun _ _ => rfl)) (pv 3) (fun _ _ => rfl)) (pe_one pe_int)) (pa_cons (pe_callTy call_int1 (by rfl) T.int b_int (pa_cons (pv 5) pa_nil)) pa_nil))) (pg_sub (pe_ix (ixL K) (pv 2) (pv 4) (fun _ _ => rfl)) (pv 3) set_list))))
      (pss_cons (ps_for PassesOwn.never rfl (pi_range1 (by rfl) T.range (pa_cons (pv 0) pa_nil)) (pg_name (i := 6) sc_table_of.nd rfl (by first | exact Or.inl rfl | exact Or.inr rfl) (by first | exact Or.inl rfl | exact Or.inr rfl)) (pss_one (ps_for PassesOwn.never rfl (pi_range1 (by rfl) T.range (pa_cons (pv 0) pa_nil)) (pg_name (i := 4) sc_table_of.nd rfl (by first | exact Or.inl rfl | exact Or.inr rfl) (by first | exact Or.inl rfl | exact Or.inr rfl)) (pss_one (ps_if (pt_cmpR op_notN (pe_ix (ixL K) (pe_ix (ixL K) (pv 2) (pv 4) (fun _ _ => rfl)) (pv 6) (fun _ _ => rfl)) pe_non (nomark _)) (pss_one (ps_for PassesOwn.never rfl (pi_range1 (by rfl) T.range (pa_cons (pv 0) pa_nil)) (pg_name (i := 3) sc_table_of.nd rfl (by first | exact Or.inl rfl | exact Or.inr rfl) (by first | exact Or.inl rfl | exact Or.inr rfl)) (pss_one (ps_if (pt_cmpR op_notN (pe_ix (ixL K) (pe_ix (ixL K) (pv 2) (pv 6) (fun _ _ => rfl)) (pv 3) (fun _ _ => rfl)) pe_non (nomark _)) (pss_one (ps_asg (pe_callB (call_max2 rfl) (by rfl) T.max b_max (pa_cons (pe_orT (pe_ix (ixL K) (pe_ix (ixL K) (pv 2) (pv 4) (fun _ _ => rfl)) (pv 3) (fun _ _ => rfl)) (pe_one pe_int)) (pa_cons (pe_op op_add (pe_ix (ixL K) (pe_ix (ixL K) (pv 2) (pv 4) (fun _ _ => rfl)) (pv 6) (fun _ _ => rfl)) (pe_ix (ixL K) (pe_ix (ixL K) (pv 2) (pv 6) (fun _ _ => rfl)) (pv 3) (fun _ _ => rfl))) pa_nil))) (pg_sub (pe_ix (ixL K) (pv 2) (pv 4) (fun _ _ => rfl)) (pv 3) set_list))) pss_nil)))) pss_nil)))))
      (pss_one (ps_ret (pe_ifExp (pt_val (pe_callB (cr_all rfl) (by rfl) T.all b_all (pa_cons (pe_lc (own := [("one", 4)]) (g := gName 4) (tt := tYes) rfl sc_table_of.nd (pi_range1 (by rfl) T.range (pa_cons (pv 0) pa_nil)) (blkOk_by (own := [("one", 4)]) (N := ["many", "arrows", "rows", "other", "one", "is_strict", "middle"]) (sc := (defScope s_table_of)) (by decide +kernel)) (fun _ _ _ _ _ => (pg_name (i := 4) sc_table_of.nd rfl (by first | exact Or.inl rfl | exact Or.inr rfl) (by first | exact Or.inl rfl | exact Or.inr rfl))) (fun _ _ _ _ _ => pts_nil) (fun _ _ _ _ _ => (pe_cmpR op_eq (pe_ix (ixL K) (pe_ix (ixL K) (pv 2) (pv 4) (fun _ _ => rfl)) (pv 4) (fun _ _ => rfl)) pe_int (nomark _)))) pa_nil))) (pv 2) pe_non)))))), ?_⟩
    refine ⟨_, rfl, _, rfl, by omega, by omega, fun D hD => ?_⟩
    refine lc_it (walk_range (lo := 0) (n := ((n : Nat) : Int).toNat)) (Cl H D (rowOf n tab0)) (cl0 hD) (fun _ _ _ _ => trivial) (fun i x H2 H3 hi p y => ?_) (fun H2 p => ?_)
    · obtain ⟨rfl, rfl⟩ := y
      refine ⟨rfl, ?_⟩
      refine ⟨_, rfl, _, rfl, by omega, by omega, fun D2 hD2 => ?_⟩
      refine lc_it (walk_range (lo := 0) (n := ((n : Nat) : Int).toNat)) (Cv H3 D2 (fun j => optN (tab0 i j))) (cv0 hD2) (fun _ _ _ _ => trivial) (fun j x H4 H5 hj p y => ?_) (fun H4 p' => ?_)
      · obtain ⟨rfl, rfl⟩ := y
        refine ⟨rfl, _, rfl, _, rfl, rfl, decide (i = j), ?_, ?_⟩
        · refine congrArg V.bl ?_
          by_cases e : i = j
          · rw [decide_eq_true e, decide_eq_true (by rw [e])]
          · rw [decide_eq_false e, decide_eq_false fun z => e (by have := V.int.inj z; omega)]
        · by_cases e : i = j
          · rw [decide_eq_true e]
            refine iteT (cv_step p (Same.refl _) (by omega) ?_)
            unfold tab0
            rw [if_pos e]
            rfl
          · rw [decide_eq_false e]
            refine iteF (cv_step p (Same.refl _) (by omega) ?_)
            unfold tab0
            rw [if_neg e]
            rfl
      · obtain ⟨p1, p2, p3⟩ := p'
        exact cl_step p p2 (by omega) hD2 p3
    · obtain ⟨p1, p2, ps, p3, p4, p5, p6, p7⟩ := p
      have R0 : RowsN H D n tab0 H2 := ⟨p2, ps, p1, p3, by omega, p5, p6, p7⟩
      clear p1 p2 p3 p4 p5 p6 p7
      refine ⟨_, rfl, b, rfl, ⟨_, SqL.of (R0.sm _ _ hb)⟩, ?_⟩
      have hbl : (bs.map V.ref).length = L.length := by rw [List.length_map, pr_len hbs]
      refine for_list (xs := bs.map V.ref) (fun k σ' H' => (∃ x3 x4 x5, σ' = [some (.int (n : Int)), some (.ref b), some (.ref D), x3, x4, x5, none]) ∧ RowsN H D n ((L.take k).foldl tabArrow tab0) H') ⟨⟨_, _, _, rfl⟩, R0⟩ (fun k σ' H' _ g => SqL.of (g.2.sm _ _ hb)) (fun k x σ' H' hx gg => ?_) (fun σ' H' gg => ?_)
      · obtain ⟨⟨x3, x4, x5, rfl⟩, R⟩ := gg
        obtain ⟨p, z, rfl, hpi, hz, hp⟩ := pr_item hbs hx
        obtain ⟨z1, z2⟩ := hLn z (List.mem_of_getElem? hz)
        rw [take_snoc hz, List.foldl_append]
        refine ⟨p, _, rfl, SqT.of (R.sm _ _ hp), rfl, _, _, rfl, _, _, rfl, _, _, rfl, rfl, ?_⟩
        refine or0 (o := ((L.take k).foldl tabArrow tab0) z.1 z.2.1) (fun Q' q' => R.rd z1 z2 rfl rfl rfl q') ?_
        refine ⟨_, rfl, .inr ⟨z.2.2, rfl, _, _, rfl, ?_⟩⟩
        have e3 : (if z.2.2 = true then (1 : Int) else 0) = ((z.2.2.toNat : Nat) : Int) := by cases z.2.2 <;> rfl
        rw [e3, mx]
        exact R.wr z1 z2 rfl rfl rfl fun H' R' _ => ⟨⟨_, _, _, rfl⟩, R'⟩
      · obtain ⟨⟨x3, x4, x5, rfl⟩, R⟩ := gg
        rw [hbl, List.take_length] at R
        refine ⟨_, rfl, _, rfl, by omega, by omega, ?_⟩
        refine for_range (n := ((n : Nat) : Int).toNat) (fun m σ' H' => (∃ x3 x4 x5 x6, σ' = [some (.int (n : Int)), some (.ref b), some (.ref D), x3, x4, x5, x6]) ∧ RowsN H D n ((List.range m).foldl (tabMid n) (L.foldl tabArrow tab0)) H') ⟨⟨_, _, _, _, rfl⟩, R⟩ (fun m σ' H' hm gg => ?_) (fun σ' H' gg => ?_)
        · obtain ⟨⟨x3, x4, x5, x6, rfl⟩, R⟩ := gg
          have hmn : m < n := by omega
          rw [List.range_succ, List.foldl_append]
          generalize (List.range m).foldl (tabMid n) (L.foldl tabArrow tab0) = f0 at R ⊢
          rw [Int.zero_add]
          refine ⟨_, rfl, _, rfl, by omega, by omega, ?_⟩
          refine for_range (n := ((n : Nat) : Int).toNat) (fun i σ' H' => (∃ x3 x4 x5, σ' = [some (.int (n : Int)), some (.ref b), some (.ref D), x3, x4, x5, some (.int (m : Int))]) ∧ RowsN H D n ((List.range i).foldl (tabOne n m) f0) H') ⟨⟨_, _, _, rfl⟩, R⟩ (fun i σ' H' hi gg => ?_) (fun σ' H' gg => ?_)
          · obtain ⟨⟨x3, x4, x5, rfl⟩, R⟩ := gg
            have hin : i < n := by omega
            rw [List.range_succ, List.foldl_append]
            generalize (List.range i).foldl (tabOne n m) f0 = f1 at R ⊢
            show tIfS _ _ _ _ _ _
            rw [Int.zero_add]
            refine R.rd hin hmn rfl rfl rfl ⟨rfl, ?_⟩
            cases e1 : f1 i m with
            | none =>
              refine ⟨false, rfl, iteF ⟨⟨_, _, _, rfl⟩, ?_⟩⟩
              show RowsN H D n (tabOne n m f1 i) H'
              unfold tabOne
              rw [e1]
              exact R
            | some u =>
              refine ⟨true, rfl, iteT ⟨_, rfl, _, rfl, by omega, by omega, ?_⟩⟩
              refine for_range (n := ((n : Nat) : Int).toNat) (fun j σ' H' => (∃ x3 x5, σ' = [some (.int (n : Int)), some (.ref b), some (.ref D), x3, some (.int (i : Int)), x5, some (.int (m : Int))]) ∧ RowsN H D n ((List.range j).foldl (tabIn m i) f1) H') ⟨⟨_, _, rfl⟩, R⟩ (fun j σ' H' hj gg => ?_) (fun σ' H' gg => ?_)
              · obtain ⟨⟨x3, x5, rfl⟩, R⟩ := gg
                have hjn : j < n := by omega
                have hs : (((List.range j).foldl (tabIn m i) f1) i m).isSome = true := (sub_fold (fun f j => sub_in m i f j) _ _) i m (by rw [e1]; rfl)
                rw [List.range_succ, List.foldl_append]
                generalize (List.range j).foldl (tabIn m i) f1 = f2 at R hs ⊢
                show tIfS _ _ _ _ _ _
                rw [Int.zero_add]
                refine R.rd hmn hjn rfl rfl rfl ⟨rfl, ?_⟩
                cases e2 : f2 m j with
                | none =>
                  refine ⟨false, rfl, iteF ⟨⟨_, _, rfl⟩, ?_⟩⟩
                  show RowsN H D n (tabIn m i f2 j) H'
                  unfold tabIn
                  rw [e2]
                  exact R
                | some u2 =>
                  refine ⟨true, rfl, iteT ?_⟩
                  obtain ⟨u3, e3⟩ := Option.isSome_iff_exists.mp hs
                  refine or0 (o := f2 i j) (fun Q' q' => R.rd hin hjn rfl rfl rfl q') ?_
                  refine R.rd hin hmn rfl rfl rfl ?_
                  refine R.rd hmn hjn rfl rfl rfl ?_
                  rw [e2, e3]
                  refine ⟨_, _, rfl, rfl, _, _, rfl, ?_⟩
                  rw [show (u3 : Int) + (u2 : Int) = ((u3 + u2 : Nat) : Int) by omega, mx]
                  refine R.wr hin hjn rfl rfl rfl fun H' R' _ => ⟨⟨_, _, rfl⟩, ?_⟩
                  show RowsN H D n (tabIn m i f2 j) H'
                  unfold tabIn
                  rw [e2, e3]
                  exact R'
              · obtain ⟨⟨x3, x5, rfl⟩, R⟩ := gg
                refine ⟨⟨_, _, _, rfl⟩, ?_⟩
                show RowsN H D n (tabOne n m f1 i) H'
                unfold tabOne
                rw [e1]
                exact R
          · obtain ⟨⟨x3, x4, x5, rfl⟩, R⟩ := gg
            exact ⟨⟨_, _, _, _, rfl⟩, R⟩
        · obtain ⟨⟨x3, x4, x5, x6, rfl⟩, R⟩ := gg
          have R : RowsN H D n (tabOf n L) H' := R
          refine ⟨_, rfl, _, rfl, by omega, by omega, fun D3 hD3 => ?_⟩
          refine lc_it (walk_range (lo := 0) (n := ((n : Nat) : Int).toNat)) (Cv H' D3 (fun j => .bl true)) (cv0 hD3) (fun _ _ _ _ => trivial) (fun i x H4 H5 hi p y => ?_) (fun H4 p => ?_)
          · obtain ⟨rfl, rfl⟩ := y
            refine ⟨rfl, (R.same p.2.1).rd (i := i) (j := i) (by omega) (by omega) rfl (congrArg (fun k => some (some (V.int k))) (Int.zero_add _)) (congrArg (fun k => some (some (V.int k))) (Int.zero_add _)) ?_⟩
            rw [hdiag i (by omega)]
            exact ⟨rfl, cv_step p (Same.refl _) (by omega) rfl⟩
          · obtain ⟨p1, p2, p3⟩ := p
            refine ⟨D3, List.replicate ((n : Nat) : Int).toNat true, rfl, SqL.of (p3.trans ?_), true, ?_, iteT ⟨_, rfl, q D H4 (R.same p2)⟩⟩
            · rw [List.map_replicate, List.map_const', List.length_range]
            · simp
end
end W24
set_option maxHeartbeats 4000000
/-! W9: gaps_in, need_possible, go_together, classes_of. -/
namespace W24
open PySem PySem.Spec PyProof.Rows L2
section
variable {P : Program} {w : World} {K : PySem.W.Frag} {mg : Str → Option Value} {base : Heap}
/-- two reads go together: by the law's gaps -/
def eG (g : AL Nat) (i j : Nat) : Bool := (getA g (i, j)).isSome && (getA g (j, i)).isSome
def eT (f : Tab) (i j : Nat) : Bool := (f i j).isSome && (f j i).isSome
structure TabF (F : Ft) (g : AL Nat) (f : Tab) : Prop where
  rc : ∀ i j, i < F.rs.length → j < F.rs.length → ((f i j).isSome = true ↔ Reach (arr F) i j)
  gd : GoodG (arr F) F.rs.length g
  bd : ∀ i j s, arr F i j = some s → i < F.rs.length ∧ j < F.rs.length
def spRows : Sp := fun vs H Q _ => ∃ (v : V) (F : Ft) (g : AL Nat), vs = [v] ∧ FtAt H v F ∧ GoodF F ∧ gapsL (arr F) F.rs.length = some g ∧ ∀ a f H', RowsN H a F.rs.length f H' → TabF F g f → Q (.ref a) H'
theorem sc_gaps_in : FnScope ["fetch"] ["fetch"] (defScope s_gaps_in) := ⟨rfl, rfl, rfl, by decide +kernel, rfl, by decide +kernel, by decide +kernel⟩
theorem ok_gaps_in {f : Addr} {fd : FuncData} (T : Txt K mg) (c_arrows_in : Cal P w K mg base 3 "arrows_in" ["fetch"] spArrowsIn) (c_table_of : Cal P w K mg base 1 "table_of" ["many", "arrows"] spTable)
    (F : FnP K "gaps_in" s_gaps_in f fd) : FnOk P w K mg base CX0 4 f fd ["fetch"] spRows := by
  refine FnP.okP F sc_gaps_in (fun vs H Q E h => ?_) (fun cdv A outer s H vs Q E hr h => ?_)
  · obtain ⟨v, F, g, rfl, _⟩ := h
    rfl
  · obtain ⟨v, F, g, rfl, hF, gF, hg, q⟩ := h
    have hF0 := hF
    obtain ⟨a, vh, vr, vc, rfl, ha, hh, ⟨ar, pr, rfl, har, hpr⟩, hc⟩ := hF
    refine ⟨_, (pss_one (ps_ret (pe_cal c_table_of (hr.mono (by decide)) (pa_cons (pe_callB (lenQ K) (by rfl) T.len b_len (pa_cons (pe_ix (ixT K) (pv 0) pe_int (fun _ _ => rfl)) pa_nil)) (pa_cons (pe_cal c_arrows_in (hr.mono (by decide)) (pa_cons (pv 0) pa_nil)) pa_nil))))), ?_⟩
    refine ⟨_, rfl, a, _, _, _, rfl, rfl, SqT.of ha, atI_nat (j := 2) rfl, ar, _, rfl, .inr (SqT.of har), _, rfl, _, F, rfl, hF0, gF, fun l L H1 e1 hL hiff hlt => ?_⟩
    have G := gapsL_good hlt hg
    obtain ⟨t1, t2⟩ := table_right G hlt hiff
    refine ⟨F.rs.length, _, L, ?_, gF.r2, hL, fun x hx => ?_, t1, fun b H2 R => q b _ H2 (R.base e1) ⟨t2, G, hlt⟩⟩
    · rw [List.length_map, pr_len hpr]
    · obtain ⟨i, j, s⟩ := x
      exact hlt i j s ((hiff i j s).mp hx)
theorem sc_need_possible : FnScope ["fetch", "rows"] ["fetch"] (defScope s_need_possible) := ⟨rfl, rfl, rfl, by decide +kernel, rfl, by decide +kernel, by decide +kernel⟩
theorem ok_need_possible {f : Addr} {fd : FuncData} (T : Txt K mg) (c_gaps_in : Cal P w K mg base 4 "gaps_in" ["fetch"] spRows)
    (F : FnP K "need_possible" s_need_possible f fd) : FnOk P w K mg base CX0 5 f fd ["fetch"] spRows := by
  refine FnP.okP F sc_need_possible (fun vs H Q E h => ?_) (fun cdv A outer s H vs Q E hr h => ?_)
  · obtain ⟨v, F, g, rfl, _⟩ := h
    rfl
  · obtain ⟨v, F, g, rfl, hF, gF, hg, q⟩ := h
    refine ⟨_, (pss_cons (ps_set (i := 1) sc_need_possible.nd rfl (by first | exact Or.inl rfl | exact Or.inr rfl) (pe_cal c_gaps_in (hr.mono (by decide)) (pa_cons (pv 0) pa_nil)))
      (pss_cons (ps_if (pt_cmpR op_isN (pv 1) pe_non (nomark _)) (pss_one ps_never) pss_nil)
      (pss_one (ps_ret (pv 1))))), ?_⟩
    refine ⟨_, rfl, v, F, g, rfl, hF, gF, hg, fun a f H1 R TF => ?_⟩
    exact ⟨_, rfl, rfl, false, rfl, iteF ⟨_, rfl, q a f H1 R TF⟩⟩
theorem sc_go_together : FnScope ["rows", "one", "other"] ["rows", "one", "other"] (defScope s_go_together) := ⟨rfl, rfl, rfl, by decide +kernel, rfl, by decide +kernel, by decide +kernel⟩
def spTog : Sp := fun vs H Q _ => ∃ (H0 : Hp) (a : Addr) (n i j : Nat) (f : Tab), vs = [.ref a, .int (i : Int), .int (j : Int)] ∧ RowsN H0 a n f H ∧ i < n ∧ j < n ∧ Q (.bl (eT f i j)) H
theorem ok_go_together {f : Addr} {fd : FuncData} (T : Txt K mg) (F : FnP K "go_together" s_go_together f fd) : FnOk P w K mg base CX0 1 f fd ["rows", "one", "other"] spTog := by
  refine FnP.okP F sc_go_together (fun vs H Q E h => ?_) (fun cdv A outer s H vs Q E hr h => ?_)
  · obtain ⟨H0, a, n, i, j, f, rfl, _⟩ := h
    rfl
  · obtain ⟨H0, a, n, i, j, f, rfl, R, hi, hj, q⟩ := h
    refine ⟨_, (pss_one (ps_ret (pe_and (pe_cmpR op_notN (pe_ix (ixL K) (pe_ix (ixL K) (pv 0) (pv 1) (fun _ _ => rfl)) (pv 2) (fun _ _ => rfl)) pe_non (nomark _)) (pe_one (pe_cmpR op_notN (pe_ix (ixL K) (pe_ix (ixL K) (pv 0) (pv 2) (fun _ _ => rfl)) (pv 1) (fun _ _ => rfl)) pe_non (nomark _)))))), ?_⟩
    refine R.rd hi hj rfl rfl rfl ⟨rfl, ?_⟩
    unfold eT at q
    cases e : f i j with
    | none =>
      rw [e] at q
      exact ⟨false, rfl, iteF q⟩
    | some m =>
      rw [e] at q
      refine ⟨true, rfl, iteT (R.rd hj hi rfl rfl rfl ⟨rfl, ?_⟩)⟩
      cases e2 : f j i with
      | none =>
        rw [e2] at q
        exact q
      | some m2 =>
        rw [e2] at q
        exact q
/-! ### classes_of -/
theorem addTo_new {e : Nat → Nat → Bool} {k : Nat} : ∀ (cs : List (List Nat)), (∀ c ∈ cs, e (c.headD 0) k = false) → addTo e k cs = cs ++ [[k]]
  | [], _ => rfl
  | c :: r, h => by
    unfold addTo
    rw [if_neg (by rw [h c List.mem_cons_self]; decide), addTo_new r fun d hd => h d (List.mem_cons_of_mem _ hd)]
    rfl
theorem addTo_at {e : Nat → Nat → Bool} {k : Nat} : ∀ (cs : List (List Nat)) (i : Nat) (c : List Nat), cs[i]? = some c → e (c.headD 0) k = true → (∀ j d, j < i → cs[j]? = some d → e (d.headD 0) k = false) → addTo e k cs = cs.set i (c ++ [k])
  | [], _, _, h, _, _ => by simp at h
  | d :: r, 0, c, h, h2, _ => by
    have : d = c := by simpa using h
    subst this
    unfold addTo
    rw [if_pos h2]
    rfl
  | d :: r, i + 1, c, h, h2, h3 => by
    unfold addTo
    rw [if_neg (by rw [h3 0 d (Nat.succ_pos _) rfl]; decide), addTo_at r i c (by simpa using h) h2 fun j x hj hx => h3 (j + 1) x (by omega) (by simpa using hx)]
    rfl
theorem addTo_len (e : Nat → Nat → Bool) (k : Nat) : ∀ cs : List (List Nat), (addTo e k cs).length ≤ cs.length + 1
  | [] => Nat.le_refl _
  | c :: r => by
    unfold addTo
    split
    · simp
    · have := addTo_len e k r
      simp only [List.length_cons]
      omega
theorem classes_len (e : Nat → Nat → Bool) : ∀ k, ((List.range k).foldl (fun cs k => addTo e k cs) []).length ≤ k
  | 0 => Nat.le_refl _
  | k + 1 => by
    rw [List.range_succ, List.foldl_append]
    have := addTo_len e k ((List.range k).foldl (fun cs k => addTo e k cs) [])
    have := classes_len e k
    show (addTo e k _).length ≤ _
    omega
theorem classes_nd (e : Nat → Nat → Bool) : ∀ k, ∀ c ∈ (List.range k).foldl (fun cs k => addTo e k cs) [], c.Nodup
  | 0, c, hc => by cases hc
  | k + 1, c, hc => by
    have ih := classes_nd e k
    have hlt := (classes_congr (e := e) (e' := e) (n := k) (fun _ _ _ _ => rfl) k (Nat.le_refl _)).2
    rw [List.range_succ, List.foldl_append] at hc
    generalize (List.range k).foldl (fun cs k => addTo e k cs) [] = cs at ih hlt hc
    have aux : ∀ cs : List (List Nat), (∀ c ∈ cs, c.Nodup) → (∀ c ∈ cs, c ≠ [] ∧ ∀ x ∈ c, x < k) → ∀ c ∈ addTo e k cs, c.Nodup := by
      intro cs
      induction cs with
      | nil =>
        intro _ _ c hc
        have : c = [k] := by simpa [addTo] using hc
        subst this
        simp
      | cons d r ihr =>
        intro h1 h2 c hc
        unfold addTo at hc
        by_cases z : e (d.headD 0) k = true
        · rw [if_pos z] at hc
          rcases List.mem_cons.mp hc with rfl | hc
          · rw [List.nodup_append]
            refine ⟨h1 d List.mem_cons_self, by simp, fun a ha b hb => ?_⟩
            rintro rfl
            have := (h2 d List.mem_cons_self).2 a ha
            have := List.mem_singleton.mp hb
            omega
          · exact h1 c (List.mem_cons_of_mem _ hc)
        · rw [if_neg z] at hc
          rcases List.mem_cons.mp hc with rfl | hc
          · exact h1 c List.mem_cons_self
          · exact ihr (fun x hx => h1 x (List.mem_cons_of_mem _ hx)) (fun x hx => h2 x (List.mem_cons_of_mem _ hx)) c hc
    exact aux cs ih hlt c hc
theorem filter_head {f : Nat → Bool} {m i : Nat} {r : List Nat} (h : (List.range m).filter f = i :: r) : i < m ∧ f i = true ∧ ∀ j, j < i → f j = false := by
  have hi : i ∈ (List.range m).filter f := by rw [h]; exact List.mem_cons_self
  rw [List.mem_filter, List.mem_range] at hi
  refine ⟨hi.1, hi.2, fun j hj => ?_⟩
  cases c : f j with
  | false => rfl
  | true =>
    have hm : j ∈ (List.range m).filter f := by rw [List.mem_filter, List.mem_range]; exact ⟨by omega, c⟩
    have pw : ((List.range m).filter f).Pairwise (· < ·) := List.Pairwise.sublist List.filter_sublist List.pairwise_lt_range
    rw [h] at pw hm
    rcases List.mem_cons.mp hm with z | z
    · omega
    · have := (List.pairwise_cons.mp pw).1 j z
      omega
theorem pr_set {α β : Type} {F : α → β → Prop} : ∀ {l : List α} {m : List β} {i : Nat} {y : β}, Paired F l m → (∀ x, l[i]? = some x → F x y) → Paired F l (m.set i y)
  | _, _, _, _, .nil, _ => .nil
  | _, _, 0, _, .cons r t, h => .cons (h _ rfl) t
  | _, _, i + 1, _, .cons r t, h => .cons r (pr_set t fun x hx => h x (by simpa using hx))
/-- the classes so far, all of it new since H0 -/
structure ClsN (H0 : Hp) (d : Addr) (cs : List (List Nat)) (H : Hp) : Prop where
  sm : Same H0 H
  nw : H0 d = none
  at_ : ∃ ps : List Addr, H d = some (.lst (ps.map V.ref)) ∧ ps.Nodup ∧ d ∉ ps ∧ (∀ p ∈ ps, H0 p = none) ∧ Paired (fun p (c : List Nat) => H p = some (.lst (inum c))) ps cs
theorem ClsN.same {H0 H H' : Hp} {d : Addr} {cs : List (List Nat)} (h : ClsN H0 d cs H) (e : Same H H') : ClsN H0 d cs H' := by
  obtain ⟨ps, h1, h2, h3, h4, h5⟩ := h.at_
  exact ⟨h.sm.trans e, h.nw, ps, e _ _ h1, h2, h3, h4, pr_mono (fun _ _ q => e _ _ q) h5⟩
def spClasses : Sp := fun vs H Q _ => ∃ (H0 : Hp) (a b : Addr) (n : Nat) (f : Tab), vs = [.ref a, .ref b] ∧ RowsN H0 a n f H ∧ n ≤ 8 ∧ H b = some (.lst (inum (List.range n))) ∧ ∀ l H', Same H H' → ClsAt H' (.ref l) (classesL (eT f) n) → Q (.ref l) H'
theorem sc_classes_of : FnScope ["rows", "numbers", "found", "number", "own", "some"] ["rows", "numbers"] (defScope s_classes_of) := ⟨rfl, rfl, rfl, by decide +kernel, rfl, by decide +kernel, by decide +kernel⟩
theorem ok_classes_of {f : Addr} {fd : FuncData} (T : Txt K mg) (c_go_together : Cal P w K mg base 1 "go_together" ["rows", "one", "other"] spTog)
    (F : FnP K "classes_of" s_classes_of f fd) : FnOk P w K mg base CX0 2 f fd ["rows", "numbers"] spClasses := by
  refine FnP.okP F sc_classes_of (fun vs H Q E h => ?_) (fun cdv A outer s H vs Q E hr h => ?_)
  · obtain ⟨H0, a, b, n, f, rfl, _⟩ := h
    rfl
  · obtain ⟨H0, a, b, n, f, rfl, R, hn, hb, q⟩ := h
    refine ⟨_, (pss_cons (ps_set (i := 2) sc_classes_of.nd rfl (by first | exact Or.inl rfl | exact Or.inr rfl) (pe_lst pa_nil))
      (pss_cons (ps_for PassesOwn.never rfl (piL K (pv 1)) (pg_name (i := 3) sc_classes_of.nd rfl (by first | exact Or.inl rfl | exact Or.inr rfl) (by first | exact Or.inl rfl | exact Or.inr rfl)) (pss_cons (ps_setLc (i := 4) (own := [("some", 5)]) (g := gName 5) rfl sc_classes_of.nd rfl rfl (sw_true rfl rfl rfl (by decide +kernel)) (piL K (pv 2)) (blkOk_by (own := [("some", 5)]) (N := ["rows", "numbers", "found", "number", "own", "some"]) (sc := (defScope s_classes_of)) (by decide +kernel)) (fun _ _ _ _ _ => (pg_name (i := 5) sc_classes_of.nd rfl (by first | exact Or.inl rfl | exact Or.inr rfl) (by first | exact Or.inl rfl | exact Or.inr rfl))) (fun _ _ _ _ _ => (pts_one (pt_val (pe_cal c_go_together (hr.mono (by decide)) (pa_cons (pv 0) (pa_cons (pe_ix (ixL K) (pv 5) pe_int (fun _ _ => rfl)) (pa_cons (pv 3) pa_nil))))))) (fun _ _ _ _ _ => (pv 5)))
      (pss_one (ps_if (pt_cmpR (op_eqD hr.units) (pv 4) (pe_lst pa_nil) (nomark _)) (pss_one (ps_expr (pe_bm PySem.F.plainAttrs_list PySem.F.slot_list_append PySem.F.type_list_append mt_append (pv 2) (pa_cons (pe_lst (pa_cons (pv 3) pa_nil)) pa_nil)))) (pss_one (ps_expr (pe_bm PySem.F.plainAttrs_list PySem.F.slot_list_append PySem.F.type_list_append mt_append (pe_ix (ixL K) (pv 4) pe_int (fun _ _ => rfl)) (pa_cons (pv 3) pa_nil))))))))
      (pss_one (ps_ret (pv 2))))), ?_⟩
    refine ⟨Nat.zero_le _, fun d hd => ?_⟩
    have bt := Same.new (o := .lst []) hd
    refine ⟨_, rfl, b, rfl, ⟨_, SqL.of (bt _ _ hb)⟩, ?_⟩
    have hlen : (inum (List.range n)).length = n := by rw [inum_len, List.length_range]
    refine for_list (xs := inum (List.range n)) (fun k σ' H' => (∃ x3 x4, σ' = [some (.ref a), some (.ref b), some (.ref d), x3, x4, none]) ∧ ClsN H d ((List.range k).foldl (fun cs k => addTo (eT f) k cs) []) H') ⟨⟨_, _, rfl⟩, bt, hd, [], upd_same, List.nodup_nil, by simp, by simp, .nil⟩ (fun k σ' H' _ g => SqL.of (g.2.sm _ _ hb)) (fun k x σ' H' hx gg => ?_) (fun σ' H' gg => ?_)
    · obtain ⟨⟨x3, x4, rfl⟩, C⟩ := gg
      have hk : k < n := by
        have := (List.getElem?_eq_some_iff.mp hx).1
        rwa [hlen] at this
      have ex : x = .int (k : Int) := by
        rw [inum_get (List.getElem?_range hk)] at hx
        exact (Option.some.inj hx).symm
      subst ex
      have hcl := classes_len (eT f) k
      have hnd := classes_nd (eT f) k
      have hall := (classes_congr (e := eT f) (e' := eT f) (n := n) (fun _ _ _ _ => rfl) k (by omega)).2
      rw [List.range_succ, List.foldl_append]
      generalize (List.range k).foldl (fun cs k => addTo (eT f) k cs) [] = cs at C hall hcl hnd ⊢
      obtain ⟨ps, h1, h2, h3, h4, h5⟩ := C.at_
      have hpl := pr_len h5
      refine ⟨_, rfl, d, rfl, ⟨_, SqL.of h1⟩, fun D2 hD2 => ?_⟩
      refine lc_it (walk_list (xs := ps.map V.ref)) (Cf H' D2 (fun i => eT f ((cs.getD i []).headD 0) k) fun i => .ref (ps.getD i 0)) (cf0 hD2) (fun i H2 _ p => SqL.of (p.2.1 _ _ h1)) (fun i x H2 H3 hi p y => ?_) (fun H2 p => ?_)
      · obtain ⟨rfl, hx⟩ := y
        obtain ⟨y, c, rfl, hyi, hci, hy⟩ := pr_item h5 hx
        obtain ⟨c1, c2⟩ := hall c (List.mem_of_getElem? hci)
        have hhd : c.headD 0 < k ∧ c[0]? = some (c.headD 0) := by
          cases c with
          | nil => exact absurd rfl c1
          | cons z r => exact ⟨c2 z List.mem_cons_self, rfl⟩
        refine ⟨rfl, _, rfl, _, rfl, y, _, _, _, rfl, rfl, SqL.of (p.2.1 _ _ hy), atI_nat (j := 0) (inum_get hhd.2), _, rfl, H0, a, n, c.headD 0, k, f, rfl, ((R.same C.sm).same p.2.1), by omega, hk, ?_⟩
        have hgc : (cs.getD i []).headD 0 = c.headD 0 := by rw [List.getD, hci]; rfl
        have hi60 : i < 50000 := by
          have := (List.getElem?_eq_some_iff.mp hci).1
          omega
        refine ⟨_, rfl, ?_⟩
        cases ee : eT f (c.headD 0) k with
        | true =>
          refine iteT ⟨_, rfl, cf_yes p (Same.refl _) hi60 (by rw [hgc]; exact ee) ?_⟩
          rw [List.getD, hyi]
          rfl
        | false => exact iteF (cf_no p (Same.refl _) (by rw [hgc]; exact ee))
      · obtain ⟨p1, p2, p3⟩ := p
        rw [List.length_map] at p3
        have C2 := C.same p2
        have own_at : ∀ i ∈ (List.range ps.length).filter (fun i => eT f ((cs.getD i []).headD 0) k), i < ps.length := fun i hi => List.mem_range.mp (List.mem_filter.mp hi).1
        have hown : Paired (fun p (c : List Nat) => H2 p = some (.lst (inum c))) (((List.range ps.length).filter (fun i => eT f ((cs.getD i []).headD 0) k)).map fun i => ps.getD i 0) (((List.range ps.length).filter (fun i => eT f ((cs.getD i []).headD 0) k)).map fun i => cs.getD i []) := by
          refine pr_of (by rw [List.length_map, List.length_map]) fun i p c e1 e2 => ?_
          rw [List.getElem?_map] at e1 e2
          cases e0 : ((List.range ps.length).filter (fun i => eT f ((cs.getD i []).headD 0) k))[i]? with
          | none => rw [e0] at e1; cases e1
          | some j =>
            rw [e0] at e1 e2
            have hj := own_at j (List.mem_of_getElem? e0)
            obtain ⟨c', f1, f2⟩ := pr_get h5 (List.getElem?_eq_getElem hj)
            have e1 := Option.some.inj e1
            have e2 := Option.some.inj e2
            simp only [List.getD, List.getElem?_eq_getElem hj, f1, Option.getD_some] at e1 e2
            rw [← e1, ← e2]
            exact p2 _ _ f2
        have hdp : Dp K H2 (.ref D2) (.list (dLsts (((List.range ps.length).filter (fun i => eT f ((cs.getD i []).headD 0) k)).map fun i => cs.getD i []))) := by
          refine .lst (SqL.of (xs := ((((List.range ps.length).filter (fun i => eT f ((cs.getD i []).headD 0) k)).map fun i => ps.getD i 0)).map V.ref) ?_) (dp_lsts hown)
          rw [p3, List.map_map]
          rfl
        refine ⟨_, rfl, Nat.zero_le _, fun l2 hl2 => ?_⟩
        have b2 := Same.new (o := .lst []) hl2
        refine ⟨_, .list [], Dp.same b2 _ _ hdp, .lst (SqL.of upd_same) .nil, (shp (lay_lsts _) (dep_lsts _) (by decide)).1, rfl, ?_⟩
        have C3 := C2.same b2
        show ∃ kk, V.bl (PyData.eqvAll (dLsts _) []) = V.bl kk ∧ _
        rw [eqv_nil]
        have g1 := b2 _ _ (p2 _ _ h1)
        have g5 : Paired (fun p (c : List Nat) => (upd H2 l2 (.lst [])) p = some (.lst (inum c))) ps cs := pr_mono (fun _ _ z => b2 _ _ (p2 _ _ z)) h5
        have gD := b2 _ _ p3
        have hps : ps.length ≤ 60 := by omega
        generalize upd H2 l2 (.lst []) = H3 at b2 C3 g1 g5 gD ⊢
        cases hfl : (List.range ps.length).filter (fun i => eT f ((cs.getD i []).headD 0) k) with
        | nil =>
          refine ⟨true, rfl, iteT ⟨_, rfl, .inl ⟨rfl, _, SqL.of g1⟩, _, rfl, by show 1 ≤ sizeLine; decide, fun t ht => ?_⟩⟩
          have b3 := Same.new (o := .lst [.int (k : Int)]) ht
          refine ⟨d, _, _, rfl, rfl, b3 _ _ g1, by rw [List.length_map]; exact sz (by omega), ⟨_, _, rfl⟩, ?_⟩
          have hno : ∀ c ∈ cs, eT f (c.headD 0) k = false := fun c hc => by
            obtain ⟨j, hj⟩ := List.mem_iff_getElem?.mp hc
            have hjl := (List.getElem?_eq_some_iff.mp hj).1
            have := List.filter_eq_nil_iff.mp hfl j (List.mem_range.mpr (by omega))
            rw [List.getD, hj] at this
            simpa using this
          show ClsN H d (addTo (eT f) k cs) _
          rw [addTo_new cs hno]
          have htp : t ∉ ps := fun hm => by
            obtain ⟨j, hj⟩ := List.mem_iff_getElem?.mp hm
            obtain ⟨c, _, hc⟩ := pr_get g5 hj
            rw [ht] at hc
            cases hc
          have htd : t ≠ d := fun z => by
            subst z
            rw [ht] at g1
            cases g1
          have keep : ∀ p c, p ≠ d → (upd H3 t (.lst [.int (k : Int)])) p = some (HO.lst c) → (upd (upd H3 t (.lst [.int (k : Int)])) d (.lst (ps.map V.ref ++ [.ref t]))) p = some (.lst c) := fun p c hne hp => by
            rw [upd_ne hne]
            exact hp
          refine ⟨Same.mut (C3.sm.trans b3) hd, hd, ps ++ [t], ?_, ?_, ?_, ?_, ?_⟩
          · rw [upd_same, List.map_append]
            rfl
          · rw [List.nodup_append]
            refine ⟨h2, by simp, fun a ha b hb => ?_⟩
            rintro rfl
            exact htp ((List.mem_singleton.mp hb) ▸ ha)
          · intro hm
            rcases List.mem_append.mp hm with z | z
            · exact h3 z
            · exact htd (List.mem_singleton.mp z).symm
          · intro p hp
            rcases List.mem_append.mp hp with z | z
            · exact h4 p z
            · rw [List.mem_singleton.mp z]
              exact Same.free C3.sm ht
          · refine pr_app ?_ (.cons (keep t _ htd upd_same) .nil)
            refine pr_of hpl fun j p c e1 e2 => ?_
            obtain ⟨c', e3, e4⟩ := pr_get g5 e1
            rw [e2] at e3
            cases e3
            exact keep p _ (fun z => h3 (z ▸ List.mem_of_getElem? e1)) (b3 _ _ e4)
        | cons i r =>
          obtain ⟨f1, f2, f3⟩ := filter_head hfl
          refine ⟨false, rfl, iteF ?_⟩
          have hpi : ps[i]? = some (ps[i]'f1) := List.getElem?_eq_getElem f1
          obtain ⟨c, hc, hpc⟩ := pr_get g5 hpi
          generalize ps[i]'f1 = t at hpi hpc
          have hgi : ps.getD i 0 = t := by rw [List.getD, hpi]; rfl
          have hgc : cs.getD i [] = c := by rw [List.getD, hc]; rfl
          rw [hgc] at f2
          refine ⟨_, rfl, D2, _, _, .ref t, rfl, rfl, SqL.of gD, ?_, .inl ⟨rfl, _, SqL.of hpc⟩, _, rfl, t, _, _, rfl, rfl, hpc, ?_, ⟨_, _, rfl⟩, ?_⟩
          · refine atI_nat (j := 0) ?_
            rw [hfl, List.map_cons, hgi]
            rfl
          · rw [inum_len]
            have hcl2 : c.length ≤ k := by
              have := nodup_le c (List.range k) ?_ fun x hx => List.mem_range.mpr ((hall c (List.mem_of_getElem? hc)).2 x hx)
              · rwa [List.length_range] at this
              · exact hnd c (List.mem_of_getElem? hc)
            exact sz (by omega)
          · show ClsN H d (addTo (eT f) k cs) _
            rw [addTo_at cs i c hc f2 fun j x hj hx => by
              have := f3 j hj
              rw [List.getD, hx] at this
              exact this]
            have htd : t ≠ d := fun z => h3 (z ▸ List.mem_of_getElem? hpi)
            refine ⟨Same.mut C3.sm (h4 t (List.mem_of_getElem? hpi)), hd, ps, ?_, h2, h3, h4, ?_⟩
            · rw [upd_ne (fun z => htd z.symm)]
              exact g1
            · refine pr_of (by rw [List.length_set]; exact hpl) fun j p x e1 e2 => ?_
              rw [List.getElem?_set] at e2
              by_cases hj : i = j
              · subst hj
                rw [if_pos rfl, if_pos (by omega)] at e2
                cases e2
                rw [hpi] at e1
                cases e1
                rw [upd_same]
                unfold inum
                rw [List.map_append]
                rfl
              · rw [if_neg hj] at e2
                obtain ⟨c', e3, e4⟩ := pr_get g5 e1
                rw [e2] at e3
                cases e3
                rw [upd_ne (fun z : p = t => hj (nodup_ixA h2 hpi (by rw [← z]; exact e1)))]
                exact e4
    · obtain ⟨⟨x3, x4, rfl⟩, C⟩ := gg
      rw [hlen] at C
      obtain ⟨ps, h1, h2, h3, h4, h5⟩ := C.at_
      exact ⟨_, rfl, q d H' C.sm ⟨d, ps, rfl, h1, h5⟩⟩
end
end W24
set_option maxHeartbeats 4000000
/-! W10: cover_in, many_in, gaps_between, need_glue. Printed by mk10.py. -/
namespace W24
open PySem PySem.Spec PyProof.Rows L2
def bytesOf (rs : List Rd5) (nums : List Nat) (k : Nat) : Bool := nums.any fun i => match rs[i]? with
  | some r => decide (r.f ≤ k) && decide (k < r.t)
  | none => false
def unref : V → Addr
  | .ref a => a
  | _ => 0
def kf (H : Hp) : V → Int × Int
  | .ref t => match H t with
    | some (.tup [.int i, .int j]) => (i, j)
    | _ => (0, 0)
  | _ => (0, 0)
def kq (H : Hp) (y : V) : Nat × Nat := ((kf H y).1.toNat, (kf H y).2.toNat)
theorem kf_at {H : Hp} {p : Addr} {i j : Int} (h : H p = some (.tup [.int i, .int j])) : kf H (.ref p) = (i, j) := by
  show (match H p with | some (.tup [.int i, .int j]) => (i, j) | _ => (0, 0)) = (i, j)
  rw [h]
theorem kq_at {H : Hp} {p : Addr} {i j : Nat} (h : H p = some (.tup [.int (i : Int), .int (j : Int)])) : kq H (.ref p) = (i, j) := by
  unfold kq
  rw [kf_at h]
  rfl
def cvC (F : Ft) (nums : List Nat) (m : Nat) : List V := match nums[m]? with
  | some i => (match F.rs[i]? with | some r => [.int (r.f : Int), .int (r.t : Int)] | none => [])
  | none => []
theorem cvC_at {F : Ft} {nums : List Nat} {m i : Nat} {r : Rd5} (h1 : nums[m]? = some i) (h2 : F.rs[i]? = some r) : cvC F nums m = [.int (r.f : Int), .int (r.t : Int)] := by
  unfold cvC
  rw [h1]
  simp only [h2]
/-- pairs in a new list -/
structure PairsN (H0 : Hp) (d : Addr) (acc : Prs) (H : Hp) : Prop where
  sm : Same H0 H
  nw : H0 d = none
  at_ : ∃ ps : List Addr, H d = some (.lst (ps.map V.ref)) ∧ Paired (fun p (x : Nat × Nat) => H p = some (.tup [.int (x.1 : Int), .int (x.2 : Int)])) ps acc
theorem PairsN.same {H0 H H' : Hp} {d : Addr} {acc : Prs} (h : PairsN H0 d acc H) (e : Same H H') : PairsN H0 d acc H' := by
  obtain ⟨ps, h1, h2⟩ := h.at_
  exact ⟨h.sm.trans e, h.nw, ps, e _ _ h1, pr_mono (fun _ _ q => e _ _ q) h2⟩
theorem PairsN.new {H0 H : Hp} {d : Addr} (e : Same H0 H) (h : H d = none) : PairsN H0 d [] (upd H d (.lst [])) := ⟨Same.mut e (Same.free e h), Same.free e h, [], upd_same, .nil⟩
theorem PairsN.out {H0 H : Hp} {d : Addr} {acc : Prs} (h : PairsN H0 d acc H) : PairsL H (.ref d) acc := by
  obtain ⟨ps, h1, h2⟩ := h.at_
  exact ⟨d, ps, rfl, h1, h2⟩
/-- any change of the list itself -/
theorem PairsN.chg {H0 H : Hp} {d : Addr} {acc acc' : Prs} {ps : List Addr} (h : PairsN H0 d acc H) {xs : List V} (hd : H d = some (.lst xs)) (hp : Paired (fun p (x : Nat × Nat) => H p = some (.tup [.int (x.1 : Int), .int (x.2 : Int)])) ps acc') : PairsN H0 d acc' (upd H d (.lst (ps.map V.ref))) := by
  refine ⟨Same.mut h.sm h.nw, h.nw, ps, upd_same, pr_mono (fun p x q => ?_) hp⟩
  rw [upd_ne (ne_of q hd (by intro z; cases z))]
  exact q
theorem PairsN.snoc {H0 H : Hp} {d t : Addr} {acc : Prs} {b e : Nat} (h : PairsN H0 d acc H) (ht : H t = some (.tup [.int (b : Int), .int (e : Int)])) : ∃ xs, H d = some (.lst xs) ∧ xs.length = acc.length ∧ PairsN H0 d (acc ++ [(b, e)]) (upd H d (.lst (xs ++ [.ref t]))) := by
  obtain ⟨ps, h1, h2⟩ := h.at_
  refine ⟨_, h1, by rw [List.length_map, pr_len h2], ?_⟩
  have := h.chg (ps := ps ++ [t]) h1 (pr_app h2 (.cons (b := (b, e)) ht .nil))
  rw [List.map_append] at this
  exact this
theorem set_last {α : Type} (l : List α) (a b : α) : (l ++ [a]).set l.length b = l ++ [b] := by
  induction l with
  | nil => rfl
  | cons x l ih => exact congrArg (List.cons x) ih
theorem ixN_last (n : Nat) : ixN (n + 1) (-1) = some n := by
  unfold ixN
  rw [if_neg (by omega), if_pos (by omega)]
  congr 1
  omega
theorem PairsN.last {H0 H : Hp} {d : Addr} {acc : Prs} {y : Nat × Nat} (h : PairsN H0 d (acc ++ [y]) H) : ∃ (ps : List Addr) (p : Addr), H d = some (.lst (ps.map V.ref ++ [.ref p])) ∧ ps.length = acc.length ∧ Paired (fun p (x : Nat × Nat) => H p = some (.tup [.int (x.1 : Int), .int (x.2 : Int)])) ps acc ∧ H p = some (.tup [.int (y.1 : Int), .int (y.2 : Int)]) := by
  obtain ⟨ps, h1, h2⟩ := h.at_
  rcases snoc_cases ps with rfl | ⟨qs, p, rfl⟩
  · have := pr_len h2
    simp at this
  · have hl : qs.length = acc.length := by have := pr_len h2; simpa using this
    refine ⟨qs, p, by rw [h1, List.map_append]; rfl, hl, pr_of hl fun i a b e1 e2 => ?_, ?_⟩
    · obtain ⟨y', e3, e4⟩ := pr_get h2 (i := i) (x := a) (by rw [List.getElem?_append_left (List.getElem?_eq_some_iff.mp e1).1]; exact e1)
      rw [List.getElem?_append_left (List.getElem?_eq_some_iff.mp e2).1, e2] at e3
      cases e3
      exact e4
    · obtain ⟨y', e3, e4⟩ := pr_get h2 (i := qs.length) (x := p) (by rw [List.getElem?_append_right (Nat.le_refl _), Nat.sub_self]; rfl)
      rw [hl, List.getElem?_append_right (Nat.le_refl _), Nat.sub_self] at e3
      cases e3
      exact e4
theorem cov_perm {l m : Prs} (h : l.Perm m) (k : Nat) : cov l k = cov m k := by
  cases c : cov m k with
  | true =>
    obtain ⟨x, hx, z⟩ := cov_iff.mp c
    exact cov_iff.mpr ⟨x, h.mem_iff.mpr hx, z⟩
  | false =>
    cases d : cov l k with
    | false => rfl
    | true =>
      obtain ⟨x, hx, z⟩ := cov_iff.mp d
      rw [cov_iff.mpr ⟨x, h.mem_iff.mp hx, z⟩] at c
      cases c
section
variable {P : Program} {w : World} {K : PySem.W.Frag} {mg : Str → Option Value} {base : Heap}

theorem merge_len : ∀ (l acc : Prs), (l.foldl mergeP acc).length ≤ acc.length + l.length
  | [], acc => Nat.le_refl _
  | x :: l, acc => by
    have := merge_len l (mergeP acc x)
    have : (mergeP acc x).length ≤ acc.length + 1 := by
      unfold mergeP
      split
      · rw [List.length_append, List.length_singleton, List.length_dropLast]; omega
      · rw [List.length_append, List.length_singleton]; omega
    simp only [List.foldl_cons, List.length_cons]
    omega
theorem sc_cover_in : FnScope ["fetch", "numbers", "found", "begin", "end", "number"] ["fetch", "numbers"] (defScope s_cover_in) := ⟨rfl, rfl, rfl, by decide +kernel, rfl, by decide +kernel, by decide +kernel⟩

def spCoverL : Sp := fun vs H Q _ => ∃ (v : V) (F : Ft) (nb : Addr) (nums : List Nat), vs = [v, .ref nb] ∧ FtAt H v F ∧ GoodF F ∧ H nb = some (.lst (inum nums)) ∧ (∀ i ∈ nums, i < F.rs.length) ∧ nums.length ≤ 8 ∧ ∀ l H', Same H H' → H l = none → PairsL H' (.ref l) (runsL (bytesOf F.rs nums) F.size) → Q (.ref l) H'
theorem ok_cover_inL {f : Addr} {fd : FuncData} (T : Txt K mg) (F : FnP K "cover_in" s_cover_in f fd) : FnOk P w K mg base CX0 1 f fd ["fetch", "numbers"] spCoverL := by
  refine FnP.okP F sc_cover_in (fun vs H Q E h => ?_) (fun cdv A outer s H vs Q E hr h => ?_)
  · obtain ⟨v, F, nb, nums, rfl, _⟩ := h
    rfl
  · obtain ⟨v, F, nb, nums, rfl, ⟨a, vh, vr, vc, rfl, ha, hh, ⟨ar, pr, rfl, har, hpr⟩, hc⟩, g, hnb, hn, hn8, q⟩ := h
    refine ⟨_, (pss_cons (ps_set (i := 2) sc_cover_in.nd rfl (by first | exact Or.inl rfl | exact Or.inr rfl) (pe_lst pa_nil))
      (pss_cons (ps_for PassesOwn.never rfl (piL K (pe_callB cr_sortedPO (by rfl) T.sorted b_sorted (pa_cons (pe_lc (own := [("number", 5)]) (g := gName 5) (tt := tYes) rfl sc_cover_in.nd (piL K (pv 1)) (blkOk_by (own := [("number", 5)]) (N := ["fetch", "numbers", "found", "begin", "end", "number"]) (sc := (defScope s_cover_in)) (by decide +kernel)) (fun _ _ _ _ _ => (pg_name (i := 5) sc_cover_in.nd rfl (by first | exact Or.inl rfl | exact Or.inr rfl) (by first | exact Or.inl rfl | exact Or.inr rfl))) (fun _ _ _ _ _ => pts_nil) (fun _ _ _ _ _ => (pe_tup (pa_cons (pe_ix (ixT K) (pe_ix (ixT K) (pe_ix (ixT K) (pv 0) pe_int (fun _ _ => rfl)) (pv 5) (fun _ _ => rfl)) pe_int (fun _ _ => rfl)) (pa_cons (pe_ix (ixT K) (pe_ix (ixT K) (pe_ix (ixT K) (pv 0) pe_int (fun _ _ => rfl)) (pv 5) (fun _ _ => rfl)) pe_int (fun _ _ => rfl)) pa_nil))))) pa_nil))) (pgT K rfl (pgs_cons (pg_name (i := 3) sc_cover_in.nd rfl (by first | exact Or.inl rfl | exact Or.inr rfl) (by first | exact Or.inl rfl | exact Or.inr rfl)) (pgs_cons (pg_name (i := 4) sc_cover_in.nd rfl (by first | exact Or.inl rfl | exact Or.inr rfl) (by first | exact Or.inl rfl | exact Or.inr rfl)) pgs_nil))) (pss_one (ps_if (PW.pt (pw_and (pt_cmpR (op_neD hr.units) (pv 2) (pe_lst pa_nil) (nomark _)) (pw_and1 (pt_cmpR op_le (pv 3) (pe_ix (ixT K) (pe_ix (ixL K) (pv 2) (pe_un un_neg pe_int) (fun _ _ => rfl)) pe_int (fun _ _ => rfl)) (nomark _))))) (pss_one (ps_asg (pe_tup (pa_cons (pe_ix (ixT K) (pe_ix (ixL K) (pv 2) (pe_un un_neg pe_int) (fun _ _ => rfl)) pe_int (fun _ _ => rfl)) (pa_cons (pe_callB (call_max2 rfl) (by rfl) T.max b_max (pa_cons (pe_ix (ixT K) (pe_ix (ixL K) (pv 2) (pe_un un_neg pe_int) (fun _ _ => rfl)) pe_int (fun _ _ => rfl)) (pa_cons (pv 4) pa_nil))) pa_nil))) (pg_sub (pv 2) (pe_un un_neg pe_int) set_list))) (pss_one (ps_expr (pe_bm PySem.F.plainAttrs_list PySem.F.slot_list_append PySem.F.type_list_append mt_append (pv 2) (pa_cons (pe_tup (pa_cons (pv 3) (pa_cons (pv 4) pa_nil))) pa_nil)))))))
      (pss_one (ps_ret (pv 2))))), ?_⟩
    refine ⟨Nat.zero_le _, fun d hd => ?_⟩
    have e1 := Same.new (o := .lst []) hd
    refine ⟨_, rfl, nb, rfl, ⟨_, SqL.of (e1 _ _ hnb)⟩, fun D hD => ?_⟩
    refine lc_it (walk_list (xs := inum nums)) (Ct _ D (cvC F nums)) (ct0 hD) (fun i H2 _ p => SqL.of (p.2.1 _ _ (e1 _ _ hnb))) (fun i x H2 H3 hi p y => ?_) (fun H2 p => ?_)
    · obtain ⟨rfl, hx⟩ := y
      rw [inum_len] at hi
      have hni : nums[i]? = some nums[i] := List.getElem?_eq_getElem hi
      rw [inum_get hni] at hx
      cases hx
      have hr := hn _ (List.mem_of_getElem? hni)
      obtain ⟨p2, hp2, hp3⟩ := pr_get2 hpr (List.getElem?_eq_getElem hr)
      have e2 := e1.trans p.2.1
      have hpr2 : (pr.map V.ref)[nums[i]]? = some (.ref p2) := by rw [List.getElem?_map, hp2]; rfl
      refine ⟨rfl, _, rfl, a, _, _, _, rfl, rfl, SqT.of (e2 _ _ ha), atI_nat (j := 2) rfl, _, rfl, ar, _, _, _, rfl, rfl, SqT.of (e2 _ _ har), atI_nat hpr2, p2, _, _, _, rfl, rfl, SqT.of (e2 _ _ hp3), atI_nat (j := 3) rfl, ?_⟩
      refine ⟨_, rfl, a, _, _, _, rfl, rfl, SqT.of (e2 _ _ ha), atI_nat (j := 2) rfl, _, rfl, ar, _, _, _, rfl, rfl, SqT.of (e2 _ _ har), atI_nat hpr2, p2, _, _, _, rfl, rfl, SqT.of (e2 _ _ hp3), atI_nat (j := 4) rfl, ?_⟩
      refine ⟨by show 2 ≤ sizeLine; decide, fun t ht => ct_step p (Same.new ht) (by omega) (Same.free p.2.1 ht) ?_⟩
      rw [upd_same, cvC_at hni (List.getElem?_eq_getElem hr)]
    · obtain ⟨p1, p2, ps, p3, p4, p5⟩ := p
      rw [inum_len] at p4
      have e2 := e1.trans p2
      have each : ∀ x ∈ ps, ∃ y : Nat × Nat, (H2 x = some (.tup [.int (y.1 : Int), .int (y.2 : Int)]) ∧ y.1 < y.2 ∧ y.2 ≤ F.size) := fun x hx => by
        obtain ⟨j, hj⟩ := List.mem_iff_getElem?.mp hx
        have hjl : j < nums.length := by have := (List.getElem?_eq_some_iff.mp hj).1; omega
        have h5 := (p5 j x hj).2
        have hr := hn _ (List.getElem_mem hjl)
        rw [cvC_at (List.getElem?_eq_getElem hjl) (List.getElem?_eq_getElem hr)] at h5
        have gr := g.rd _ (List.getElem_mem hr)
        exact ⟨(F.rs[nums[j]].f, F.rs[nums[j]].t), h5, gr.ft, gr.t⟩
      refine ⟨D, _, kf H2, rfl, SqL.of p3, fun x hx => ?_, fun ys l srt stb hl => ?_⟩
      · obtain ⟨y, hy, rfl⟩ := List.mem_map.mp hx
        obtain ⟨z, hz, _⟩ := each y hy
        refine ⟨y, rfl, ?_⟩
        rw [kf_at hz]
        exact hz
      · have hys : ∀ y ∈ ys, ∃ p ∈ ps, y = .ref p := fun y hy => by
          obtain ⟨p, a, b⟩ := List.mem_map.mp (stb.perm.mem_iff.mp hy)
          exact ⟨p, a, b.symm⟩
        have hk : ∀ y ∈ ys, ∃ z : Nat × Nat, y = .ref (unref y) ∧ H2 (unref y) = some (.tup [.int (z.1 : Int), .int (z.2 : Int)]) ∧ z.1 < z.2 ∧ z.2 ≤ F.size ∧ kq H2 y = z ∧ kf H2 y = ((z.1 : Int), (z.2 : Int)) := fun y hy => by
          obtain ⟨p, hp, rfl⟩ := hys y hy
          obtain ⟨z, z1, z2, z3⟩ := each p hp
          exact ⟨z, rfl, z1, z2, z3, kq_at z1, kf_at z1⟩
        have hL : Paired (fun p (x : Nat × Nat) => H2 p = some (.tup [.int (x.1 : Int), .int (x.2 : Int)])) (ys.map unref) (ys.map (kq H2)) := by
          refine pr_of (by rw [List.length_map, List.length_map]) fun i p x e3 e4 => ?_
          rw [List.getElem?_map] at e3 e4
          cases e0 : ys[i]? with
          | none => rw [e0] at e3; cases e3
          | some y =>
            rw [e0] at e3 e4
            obtain ⟨z, _, z1, _, _, z4, _⟩ := hk y (List.mem_of_getElem? e0)
            cases e3
            have e4 := Option.some.inj e4
            rw [← e4, z4]
            exact z1
        have hlt : ∀ x ∈ (ys.map (kq H2)), x.1 < x.2 := fun x hx => by
          obtain ⟨y, hy, rfl⟩ := List.mem_map.mp hx
          obtain ⟨z, _, _, z2, _, z4, _⟩ := hk y hy
          rw [z4]
          exact z2
        have hpw : (ys.map (kq H2)).Pairwise fun x y => x.1 ≤ y.1 := by
          rw [List.pairwise_map]
          refine List.Pairwise.imp_of_mem (fun {x y} hx hy hxy => ?_) srt
          obtain ⟨z, _, _, _, _, z4, z5⟩ := hk x hx
          obtain ⟨z', _, _, _, _, z4', z5'⟩ := hk y hy
          have := SrtO.lexB_no.mp hxy
          rw [z5, z5'] at this
          rw [z4, z4']
          simp only at this
          omega
        have hperm : (ys.map (kq H2)).Perm (ps.map fun p => kq H2 (.ref p)) := by
          have := stb.perm.map (kq H2)
          rw [List.map_map] at this
          exact this
        have hcov : ∀ k, cov (ys.map (kq H2)) k = (decide (k < F.size) && bytesOf F.rs nums k) := fun k => by
          rw [cov_perm hperm]
          have hb : bytesOf F.rs nums k = true → k < F.size := fun h => by
            unfold bytesOf at h
            rw [List.any_eq_true] at h
            obtain ⟨i, hi, h⟩ := h
            have hr := hn i hi
            rw [List.getElem?_eq_getElem hr] at h
            simp only [Bool.and_eq_true, decide_eq_true_eq] at h
            have := (g.rd _ (List.getElem_mem hr)).t
            omega
          have hiff : cov (ps.map fun p => kq H2 (.ref p)) k = true ↔ bytesOf F.rs nums k = true := by
            rw [cov_iff]
            unfold bytesOf
            rw [List.any_eq_true]
            constructor
            · rintro ⟨x, hx, x1, x2⟩
              obtain ⟨p, hp, rfl⟩ := List.mem_map.mp hx
              obtain ⟨j, hj⟩ := List.mem_iff_getElem?.mp hp
              have hjl : j < nums.length := by have := (List.getElem?_eq_some_iff.mp hj).1; omega
              have h5 := (p5 j p hj).2
              have hr := hn _ (List.getElem_mem hjl)
              rw [cvC_at (List.getElem?_eq_getElem hjl) (List.getElem?_eq_getElem hr)] at h5
              refine ⟨_, List.getElem_mem hjl, ?_⟩
              rw [List.getElem?_eq_getElem hr]
              simp only [Bool.and_eq_true, decide_eq_true_eq]
              rw [kq_at h5] at x1 x2
              exact ⟨x1, x2⟩
            · rintro ⟨i, hi, h⟩
              obtain ⟨j, hj⟩ := List.mem_iff_getElem?.mp hi
              have hjl : j < ps.length := by have := (List.getElem?_eq_some_iff.mp hj).1; omega
              have h5 := (p5 j _ (List.getElem?_eq_getElem hjl)).2
              have hr := hn i hi
              rw [cvC_at hj (List.getElem?_eq_getElem hr)] at h5
              rw [List.getElem?_eq_getElem hr] at h
              simp only [Bool.and_eq_true, decide_eq_true_eq] at h
              refine ⟨_, List.mem_map.mpr ⟨_, List.getElem_mem hjl, rfl⟩, ?_⟩
              rw [kq_at h5]
              exact h
          cases c : bytesOf F.rs nums k with
          | true => rw [hiff.mpr c, decide_eq_true (hb c)]; rfl
          | false =>
            rw [Bool.and_false]
            cases c2 : cov (ps.map fun p => kq H2 (.ref p)) k with
            | false => rfl
            | true => rw [hiff.mp c2] at c; cases c
        have hfin := merge_runs hlt hpw hcov
        have hyl : ys.length ≤ 8 := by
          have := stb.perm.length_eq
          rw [List.length_map] at this
          omega
        generalize (ys.map (kq H2)) = ls at hL hfin
        have hyr : ys = (ys.map unref).map V.ref := by
          rw [List.map_map]
          refine (List.map_id'' (fun _ => rfl) ys).symm.trans (List.map_congr_left fun y hy => ?_)
          obtain ⟨p, _, rfl⟩ := hys y hy
          rfl
        have hll : ls.length ≤ 8 := by rw [← pr_len hL, List.length_map]; exact hyl
        have e3 := Same.new (o := .lst ys) hl
        have N0 : PairsN H d [] (upd H2 l (.lst ys)) := ((PairsN.new (Same.refl H) hd).same p2).same e3
        refine ⟨l, rfl, ⟨_, SqL.of upd_same⟩, ?_⟩
        have hl0 : (upd H2 l (.lst ys)) l = some (.lst ys) := upd_same
        have hL' := pr_mono (G := fun p (x : Nat × Nat) => (upd H2 l (.lst ys)) p = some (.tup [.int (x.1 : Int), .int (x.2 : Int)])) (fun _ _ z => e3 _ _ z) hL
        have hld : l ≠ d := fun z => by
          have := N0.sm
          obtain ⟨qs, z1, _⟩ := ((PairsN.new (Same.refl H) hd).same p2).at_
          rw [← z] at z1
          rw [hl] at z1
          cases z1
        generalize upd H2 l (.lst ys) = H4 at N0 hl0 hL' ⊢
        refine for_list (xs := ys) (fun i σ' H' => (∃ x3 x4, σ' = [some (.ref a), some (.ref nb), some (.ref d), x3, x4, none]) ∧ PairsN H d ((ls.take i).foldl mergeP []) H' ∧ H' l = some (.lst ys) ∧ Paired (fun p (x : Nat × Nat) => H' p = some (.tup [.int (x.1 : Int), .int (x.2 : Int)])) (ys.map unref) ls) ⟨⟨_, _, rfl⟩, N0, hl0, hL'⟩ (fun i σ' H' _ g => SqL.of g.2.2.1) (fun i x σ' H' hx gg => ?_) (fun σ' H' gg => ?_)
        · obtain ⟨⟨x3, x4, rfl⟩, N, k1, k2⟩ := gg
          rw [hyr] at hx
          obtain ⟨p, z, rfl, hpi, hz, hp⟩ := pr_item k2 hx
          rw [take_snoc hz, List.foldl_append]
          have hal : ((ls.take i).foldl mergeP []).length ≤ 100 := by
            have := merge_len (ls.take i) []
            rw [List.length_take] at this
            simp only [List.length_nil] at this
            omega
          generalize (ls.take i).foldl mergeP [] = acc at N hal ⊢
          refine ⟨p, _, rfl, SqT.of hp, rfl, _, _, rfl, _, _, rfl, rfl, ?_⟩
          refine ⟨_, rfl, Nat.zero_le _, fun t0 ht0 => ?_⟩
          have b0 := Same.new (o := .lst []) ht0
          have N1 := N.same b0
          refine ⟨_, .list [], N1.out.dp, .lst (SqL.of upd_same) .nil, (shp (lay_pairs _) (dep_pairs _) (by decide)).1, rfl, ?_⟩
          show ∃ kk, V.bl (!PyData.eqvAll (dPairs acc) []) = V.bl kk ∧ _
          have k1' := b0 _ _ k1
          have k2' := pr_mono (G := fun p (x : Nat × Nat) => (upd H' t0 (.lst [])) p = some (.tup [.int (x.1 : Int), .int (x.2 : Int)])) (fun _ _ z => b0 _ _ z) k2
          generalize upd H' t0 (.lst []) = H5 at N1 k1' k2' ⊢
          have app : ∃ xs, H5 d = some (.lst xs) ∧ xs.length = acc.length := by
            obtain ⟨qs, w1, w2⟩ := N1.at_
            exact ⟨_, w1, by rw [List.length_map, pr_len w2]⟩
          have keepL : ∀ (t : Addr) (o : List V) (xs ys' : List V), H5 t = none → (upd H5 t (.tup o)) d = some (.lst xs) → (upd (upd H5 t (.tup o)) d (.lst ys')) l = some (.lst ys) ∧ Paired (fun p (x : Nat × Nat) => (upd (upd H5 t (.tup o)) d (.lst ys')) p = some (.tup [.int (x.1 : Int), .int (x.2 : Int)])) (ys.map unref) ls := fun t o xs ys' ht hd2 => by
            have bt := Same.new (o := .tup o) ht
            refine ⟨by rw [upd_ne hld]; exact bt _ _ k1', pr_mono (fun p x w => ?_) k2'⟩
            rw [upd_ne (ne_of (bt _ _ w) hd2 (by intro z; cases z))]
            exact bt _ _ w
          have addp : (∀ xs, mergeP acc z = acc ++ [z] → tDrop (tBM K "list" rAppend (tVar 2) (tCons (tTup (tCons (tVar 3) (tCons (tVar 4) tNil))) tNil)) xs [some (.ref a), some (.ref nb), some (.ref d), some (.int (z.1 : Int)), some (.int (z.2 : Int)), none] H5 = tDrop (tBM K "list" rAppend (tVar 2) (tCons (tTup (tCons (tVar 3) (tCons (tVar 4) tNil))) tNil)) xs [some (.ref a), some (.ref nb), some (.ref d), some (.int (z.1 : Int)), some (.int (z.2 : Int)), none] H5) := fun _ _ => rfl
          rcases snoc_cases acc with rfl | ⟨ys', y, rfl⟩
          · refine ⟨false, rfl, iteF (iteF ?_)⟩
            obtain ⟨xs, w1, w2⟩ := app
            refine ⟨_, rfl, .inl ⟨rfl, _, SqL.of w1⟩, _, rfl, _, rfl, by show 2 ≤ sizeLine; decide, fun t ht => ?_⟩
            have bt := Same.new (o := .tup [.int (z.1 : Int), .int (z.2 : Int)]) ht
            obtain ⟨xs', w3, w4, w5⟩ := (N1.same bt).snoc (t := t) (b := z.1) (e := z.2) upd_same
            obtain ⟨j1, j2⟩ := keepL t _ _ (xs' ++ [.ref t]) ht w3
            refine ⟨d, xs', _, rfl, rfl, w3, by rw [w4]; exact sz (by omega), ⟨_, _, rfl⟩, ?_, j1, j2⟩
            exact w5
          · have hne : PyData.eqvAll (dPairs (ys' ++ [y])) [] = false := by
              rw [eqv_nil]
              unfold dPairs
              rw [List.map_append]
              simp
            rw [hne]
            obtain ⟨qs, pl, w1, w2, w3, w4⟩ := N1.last
            refine ⟨true, rfl, iteT ⟨_, rfl, _, rfl, 1, rfl, d, _, _, _, rfl, rfl, SqL.of w1, atI_last _ _, pl, _, _, _, rfl, rfl, SqT.of w4, atI_nat (j := 1) rfl, _, _, rfl, rfl, decide (z.1 ≤ y.2), ?_, ?_⟩⟩
            · refine congrArg V.bl ?_
              by_cases c : z.1 ≤ y.2
              · rw [decide_eq_true c, decide_eq_true (by omega)]
              · rw [decide_eq_false c, decide_eq_false (by omega)]
            · by_cases c : z.1 ≤ y.2
              · rw [decide_eq_true c]
                refine iteT ⟨_, rfl, 1, rfl, d, _, _, _, rfl, rfl, SqL.of w1, atI_last _ _, pl, _, _, _, rfl, rfl, SqT.of w4, atI_nat (j := 0) rfl, ?_⟩
                refine ⟨_, rfl, 1, rfl, d, _, _, _, rfl, rfl, SqL.of w1, atI_last _ _, pl, _, _, _, rfl, rfl, SqT.of w4, atI_nat (j := 1) rfl, _, rfl, _, _, rfl, ?_⟩
                rw [mx]
                refine ⟨by show 2 ≤ sizeLine; decide, fun t ht => ?_⟩
                have bt := Same.new (o := .tup [.int (y.1 : Int), .int ((max y.2 z.2 : Nat) : Int)]) ht
                have hd5 := bt _ _ w1
                obtain ⟨j1, j2⟩ := keepL t _ _ (qs.map V.ref ++ [.ref t]) ht hd5
                refine ⟨_, rfl, 1, rfl, d, _, _, qs.length, rfl, rfl, hd5, ?_, ⟨_, _, rfl⟩, ?_⟩
                · rw [List.length_append, List.length_map]
                  exact ixN_last _
                · have hset : (qs.map V.ref ++ [V.ref pl]).set qs.length (.ref t) = qs.map V.ref ++ [.ref t] := by
                    have := set_last (qs.map V.ref) (V.ref pl) (V.ref t)
                    rw [List.length_map] at this
                    exact this
                  rw [hset]
                  refine ⟨?_, j1, j2⟩
                  have hm : mergeP (ys' ++ [y]) z = ys' ++ [(y.1, max y.2 z.2)] := by
                    unfold mergeP
                    rw [List.getLastD_concat, List.dropLast_concat, if_pos ⟨by simp, c⟩]
                  show PairsN H d (mergeP (ys' ++ [y]) z) _
                  rw [hm]
                  have := (N1.same bt).chg (ps := qs ++ [t]) (acc' := ys' ++ [(y.1, max y.2 z.2)]) hd5 (pr_app (pr_mono (fun _ _ w => bt _ _ w) w3) (.cons upd_same .nil))
                  rw [List.map_append] at this
                  exact this
              · rw [decide_eq_false c]
                refine iteF ⟨_, rfl, .inl ⟨rfl, _, SqL.of w1⟩, _, rfl, _, rfl, by show 2 ≤ sizeLine; decide, fun t ht => ?_⟩
                have bt := Same.new (o := .tup [.int (z.1 : Int), .int (z.2 : Int)]) ht
                obtain ⟨xs', w3, w4, w5⟩ := (N1.same bt).snoc (t := t) (b := z.1) (e := z.2) upd_same
                obtain ⟨j1, j2⟩ := keepL t _ _ (xs' ++ [.ref t]) ht w3
                refine ⟨d, xs', _, rfl, rfl, w3, by rw [w4]; exact sz (by omega), ⟨_, _, rfl⟩, ?_, j1, j2⟩
                have hm : mergeP (ys' ++ [y]) z = (ys' ++ [y]) ++ [z] := by
                  unfold mergeP
                  rw [List.getLastD_concat, if_neg fun w => c w.2]
                show PairsN H d (mergeP (ys' ++ [y]) z) _
                rw [hm]
                exact w5
        · obtain ⟨⟨x3, x4, rfl⟩, N, k1, k2⟩ := gg
          have hyl2 : ys.length = ls.length := by rw [← pr_len k2, List.length_map]
          rw [hyl2, List.take_length, hfin] at N
          exact ⟨_, rfl, q d H' N.sm N.nw N.out⟩

def spCoverT : Sp := fun vs H Q _ => ∃ (v : V) (F : Ft) (nb : Addr) (nums : List Nat), vs = [v, .ref nb] ∧ FtAt H v F ∧ GoodF F ∧ H nb = some (.tup (inum nums)) ∧ (∀ i ∈ nums, i < F.rs.length) ∧ nums.length ≤ 8 ∧ ∀ l H', Same H H' → H l = none → PairsL H' (.ref l) (runsL (bytesOf F.rs nums) F.size) → Q (.ref l) H'
theorem ok_cover_inT {f : Addr} {fd : FuncData} (T : Txt K mg) (F : FnP K "cover_in" s_cover_in f fd) : FnOk P w K mg base CX0 1 f fd ["fetch", "numbers"] spCoverT := by
  refine FnP.okP F sc_cover_in (fun vs H Q E h => ?_) (fun cdv A outer s H vs Q E hr h => ?_)
  · obtain ⟨v, F, nb, nums, rfl, _⟩ := h
    rfl
  · obtain ⟨v, F, nb, nums, rfl, ⟨a, vh, vr, vc, rfl, ha, hh, ⟨ar, pr, rfl, har, hpr⟩, hc⟩, g, hnb, hn, hn8, q⟩ := h
    refine ⟨_, (pss_cons (ps_set (i := 2) sc_cover_in.nd rfl (by first | exact Or.inl rfl | exact Or.inr rfl) (pe_lst pa_nil))
      (pss_cons (ps_for PassesOwn.never rfl (piL K (pe_callB cr_sortedPO (by rfl) T.sorted b_sorted (pa_cons (pe_lc (own := [("number", 5)]) (g := gName 5) (tt := tYes) rfl sc_cover_in.nd (piT K (pv 1)) (blkOk_by (own := [("number", 5)]) (N := ["fetch", "numbers", "found", "begin", "end", "number"]) (sc := (defScope s_cover_in)) (by decide +kernel)) (fun _ _ _ _ _ => (pg_name (i := 5) sc_cover_in.nd rfl (by first | exact Or.inl rfl | exact Or.inr rfl) (by first | exact Or.inl rfl | exact Or.inr rfl))) (fun _ _ _ _ _ => pts_nil) (fun _ _ _ _ _ => (pe_tup (pa_cons (pe_ix (ixT K) (pe_ix (ixT K) (pe_ix (ixT K) (pv 0) pe_int (fun _ _ => rfl)) (pv 5) (fun _ _ => rfl)) pe_int (fun _ _ => rfl)) (pa_cons (pe_ix (ixT K) (pe_ix (ixT K) (pe_ix (ixT K) (pv 0) pe_int (fun _ _ => rfl)) (pv 5) (fun _ _ => rfl)) pe_int (fun _ _ => rfl)) pa_nil))))) pa_nil))) (pgT K rfl (pgs_cons (pg_name (i := 3) sc_cover_in.nd rfl (by first | exact Or.inl rfl | exact Or.inr rfl) (by first | exact Or.inl rfl | exact Or.inr rfl)) (pgs_cons (pg_name (i := 4) sc_cover_in.nd rfl (by first | exact Or.inl rfl | exact Or.inr rfl) (by first | exact Or.inl rfl | exact Or.inr rfl)) pgs_nil))) (pss_one (ps_if (PW.pt (pw_and (pt_cmpR (op_neD hr.units) (pv 2) (pe_lst pa_nil) (nomark _)) (pw_and1 (pt_cmpR op_le (pv 3) (pe_ix (ixT K) (pe_ix (ixL K) (pv 2) (pe_un un_neg pe_int) (fun _ _ => rfl)) pe_int (fun _ _ => rfl)) (nomark _))))) (pss_one (ps_asg (pe_tup (pa_cons (pe_ix (ixT K) (pe_ix (ixL K) (pv 2) (pe_un un_neg pe_int) (fun _ _ => rfl)) pe_int (fun _ _ => rfl)) (pa_cons (pe_callB (call_max2 rfl) (by rfl) T.max b_max (pa_cons (pe_ix (ixT K) (pe_ix (ixL K) (pv 2) (pe_un un_neg pe_int) (fun _ _ => rfl)) pe_int (fun _ _ => rfl)) (pa_cons (pv 4) pa_nil))) pa_nil))) (pg_sub (pv 2) (pe_un un_neg pe_int) set_list))) (pss_one (ps_expr (pe_bm PySem.F.plainAttrs_list PySem.F.slot_list_append PySem.F.type_list_append mt_append (pv 2) (pa_cons (pe_tup (pa_cons (pv 3) (pa_cons (pv 4) pa_nil))) pa_nil)))))))
      (pss_one (ps_ret (pv 2))))), ?_⟩
    refine ⟨Nat.zero_le _, fun d hd => ?_⟩
    have e1 := Same.new (o := .lst []) hd
    refine ⟨_, rfl, nb, rfl, ⟨_, SqT.of (e1 _ _ hnb)⟩, fun D hD => ?_⟩
    refine lc_it (walk_tup (xs := inum nums)) (Ct _ D (cvC F nums)) (ct0 hD) (fun i H2 _ p => SqT.of (p.2.1 _ _ (e1 _ _ hnb))) (fun i x H2 H3 hi p y => ?_) (fun H2 p => ?_)
    · obtain ⟨rfl, hx⟩ := y
      rw [inum_len] at hi
      have hni : nums[i]? = some nums[i] := List.getElem?_eq_getElem hi
      rw [inum_get hni] at hx
      cases hx
      have hr := hn _ (List.mem_of_getElem? hni)
      obtain ⟨p2, hp2, hp3⟩ := pr_get2 hpr (List.getElem?_eq_getElem hr)
      have e2 := e1.trans p.2.1
      have hpr2 : (pr.map V.ref)[nums[i]]? = some (.ref p2) := by rw [List.getElem?_map, hp2]; rfl
      refine ⟨rfl, _, rfl, a, _, _, _, rfl, rfl, SqT.of (e2 _ _ ha), atI_nat (j := 2) rfl, _, rfl, ar, _, _, _, rfl, rfl, SqT.of (e2 _ _ har), atI_nat hpr2, p2, _, _, _, rfl, rfl, SqT.of (e2 _ _ hp3), atI_nat (j := 3) rfl, ?_⟩
      refine ⟨_, rfl, a, _, _, _, rfl, rfl, SqT.of (e2 _ _ ha), atI_nat (j := 2) rfl, _, rfl, ar, _, _, _, rfl, rfl, SqT.of (e2 _ _ har), atI_nat hpr2, p2, _, _, _, rfl, rfl, SqT.of (e2 _ _ hp3), atI_nat (j := 4) rfl, ?_⟩
      refine ⟨by show 2 ≤ sizeLine; decide, fun t ht => ct_step p (Same.new ht) (by omega) (Same.free p.2.1 ht) ?_⟩
      rw [upd_same, cvC_at hni (List.getElem?_eq_getElem hr)]
    · obtain ⟨p1, p2, ps, p3, p4, p5⟩ := p
      rw [inum_len] at p4
      have e2 := e1.trans p2
      have each : ∀ x ∈ ps, ∃ y : Nat × Nat, (H2 x = some (.tup [.int (y.1 : Int), .int (y.2 : Int)]) ∧ y.1 < y.2 ∧ y.2 ≤ F.size) := fun x hx => by
        obtain ⟨j, hj⟩ := List.mem_iff_getElem?.mp hx
        have hjl : j < nums.length := by have := (List.getElem?_eq_some_iff.mp hj).1; omega
        have h5 := (p5 j x hj).2
        have hr := hn _ (List.getElem_mem hjl)
        rw [cvC_at (List.getElem?_eq_getElem hjl) (List.getElem?_eq_getElem hr)] at h5
        have gr := g.rd _ (List.getElem_mem hr)
        exact ⟨(F.rs[nums[j]].f, F.rs[nums[j]].t), h5, gr.ft, gr.t⟩
      refine ⟨D, _, kf H2, rfl, SqL.of p3, fun x hx => ?_, fun ys l srt stb hl => ?_⟩
      · obtain ⟨y, hy, rfl⟩ := List.mem_map.mp hx
        obtain ⟨z, hz, _⟩ := each y hy
        refine ⟨y, rfl, ?_⟩
        rw [kf_at hz]
        exact hz
      · have hys : ∀ y ∈ ys, ∃ p ∈ ps, y = .ref p := fun y hy => by
          obtain ⟨p, a, b⟩ := List.mem_map.mp (stb.perm.mem_iff.mp hy)
          exact ⟨p, a, b.symm⟩
        have hk : ∀ y ∈ ys, ∃ z : Nat × Nat, y = .ref (unref y) ∧ H2 (unref y) = some (.tup [.int (z.1 : Int), .int (z.2 : Int)]) ∧ z.1 < z.2 ∧ z.2 ≤ F.size ∧ kq H2 y = z ∧ kf H2 y = ((z.1 : Int), (z.2 : Int)) := fun y hy => by
          obtain ⟨p, hp, rfl⟩ := hys y hy
          obtain ⟨z, z1, z2, z3⟩ := each p hp
          exact ⟨z, rfl, z1, z2, z3, kq_at z1, kf_at z1⟩
        have hL : Paired (fun p (x : Nat × Nat) => H2 p = some (.tup [.int (x.1 : Int), .int (x.2 : Int)])) (ys.map unref) (ys.map (kq H2)) := by
          refine pr_of (by rw [List.length_map, List.length_map]) fun i p x e3 e4 => ?_
          rw [List.getElem?_map] at e3 e4
          cases e0 : ys[i]? with
          | none => rw [e0] at e3; cases e3
          | some y =>
            rw [e0] at e3 e4
            obtain ⟨z, _, z1, _, _, z4, _⟩ := hk y (List.mem_of_getElem? e0)
            cases e3
            have e4 := Option.some.inj e4
            rw [← e4, z4]
            exact z1
        have hlt : ∀ x ∈ (ys.map (kq H2)), x.1 < x.2 := fun x hx => by
          obtain ⟨y, hy, rfl⟩ := List.mem_map.mp hx
          obtain ⟨z, _, _, z2, _, z4, _⟩ := hk y hy
          rw [z4]
          exact z2
        have hpw : (ys.map (kq H2)).Pairwise fun x y => x.1 ≤ y.1 := by
          rw [List.pairwise_map]
          refine List.Pairwise.imp_of_mem (fun {x y} hx hy hxy => ?_) srt
          obtain ⟨z, _, _, _, _, z4, z5⟩ := hk x hx
          obtain ⟨z', _, _, _, _, z4', z5'⟩ := hk y hy
          have := SrtO.lexB_no.mp hxy
          rw [z5, z5'] at this
          rw [z4, z4']
          simp only at this
          omega
        have hperm : (ys.map (kq H2)).Perm (ps.map fun p => kq H2 (.ref p)) := by
          have := stb.perm.map (kq H2)
          rw [List.map_map] at this
          exact this
        have hcov : ∀ k, cov (ys.map (kq H2)) k = (decide (k < F.size) && bytesOf F.rs nums k) := fun k => by
          rw [cov_perm hperm]
          have hb : bytesOf F.rs nums k = true → k < F.size := fun h => by
            unfold bytesOf at h
            rw [List.any_eq_true] at h
            obtain ⟨i, hi, h⟩ := h
            have hr := hn i hi
            rw [List.getElem?_eq_getElem hr] at h
            simp only [Bool.and_eq_true, decide_eq_true_eq] at h
            have := (g.rd _ (List.getElem_mem hr)).t
            omega
          have hiff : cov (ps.map fun p => kq H2 (.ref p)) k = true ↔ bytesOf F.rs nums k = true := by
            rw [cov_iff]
            unfold bytesOf
            rw [List.any_eq_true]
            constructor
            · rintro ⟨x, hx, x1, x2⟩
              obtain ⟨p, hp, rfl⟩ := List.mem_map.mp hx
              obtain ⟨j, hj⟩ := List.mem_iff_getElem?.mp hp
              have hjl : j < nums.length := by have := (List.getElem?_eq_some_iff.mp hj).1; omega
              have h5 := (p5 j p hj).2
              have hr := hn _ (List.getElem_mem hjl)
              rw [cvC_at (List.getElem?_eq_getElem hjl) (List.getElem?_eq_getElem hr)] at h5
              refine ⟨_, List.getElem_mem hjl, ?_⟩
              rw [List.getElem?_eq_getElem hr]
              simp only [Bool.and_eq_true, decide_eq_true_eq]
              rw [kq_at h5] at x1 x2
              exact ⟨x1, x2⟩
            · rintro ⟨i, hi, h⟩
              obtain ⟨j, hj⟩ := List.mem_iff_getElem?.mp hi
              have hjl : j < ps.length := by have := (List.getElem?_eq_some_iff.mp hj).1; omega
              have h5 := (p5 j _ (List.getElem?_eq_getElem hjl)).2
              have hr := hn i hi
              rw [cvC_at hj (List.getElem?_eq_getElem hr)] at h5
              rw [List.getElem?_eq_getElem hr] at h
              simp only [Bool.and_eq_true, decide_eq_true_eq] at h
              refine ⟨_, List.mem_map.mpr ⟨_, List.getElem_mem hjl, rfl⟩, ?_⟩
              rw [kq_at h5]
              exact h
          cases c : bytesOf F.rs nums k with
          | true => rw [hiff.mpr c, decide_eq_true (hb c)]; rfl
          | false =>
            rw [Bool.and_false]
            cases c2 : cov (ps.map fun p => kq H2 (.ref p)) k with
            | false => rfl
            | true => rw [hiff.mp c2] at c; cases c
        have hfin := merge_runs hlt hpw hcov
        have hyl : ys.length ≤ 8 := by
          have := stb.perm.length_eq
          rw [List.length_map] at this
          omega
        generalize (ys.map (kq H2)) = ls at hL hfin
        have hyr : ys = (ys.map unref).map V.ref := by
          rw [List.map_map]
          refine (List.map_id'' (fun _ => rfl) ys).symm.trans (List.map_congr_left fun y hy => ?_)
          obtain ⟨p, _, rfl⟩ := hys y hy
          rfl
        have hll : ls.length ≤ 8 := by rw [← pr_len hL, List.length_map]; exact hyl
        have e3 := Same.new (o := .lst ys) hl
        have N0 : PairsN H d [] (upd H2 l (.lst ys)) := ((PairsN.new (Same.refl H) hd).same p2).same e3
        refine ⟨l, rfl, ⟨_, SqL.of upd_same⟩, ?_⟩
        have hl0 : (upd H2 l (.lst ys)) l = some (.lst ys) := upd_same
        have hL' := pr_mono (G := fun p (x : Nat × Nat) => (upd H2 l (.lst ys)) p = some (.tup [.int (x.1 : Int), .int (x.2 : Int)])) (fun _ _ z => e3 _ _ z) hL
        have hld : l ≠ d := fun z => by
          have := N0.sm
          obtain ⟨qs, z1, _⟩ := ((PairsN.new (Same.refl H) hd).same p2).at_
          rw [← z] at z1
          rw [hl] at z1
          cases z1
        generalize upd H2 l (.lst ys) = H4 at N0 hl0 hL' ⊢
        refine for_list (xs := ys) (fun i σ' H' => (∃ x3 x4, σ' = [some (.ref a), some (.ref nb), some (.ref d), x3, x4, none]) ∧ PairsN H d ((ls.take i).foldl mergeP []) H' ∧ H' l = some (.lst ys) ∧ Paired (fun p (x : Nat × Nat) => H' p = some (.tup [.int (x.1 : Int), .int (x.2 : Int)])) (ys.map unref) ls) ⟨⟨_, _, rfl⟩, N0, hl0, hL'⟩ (fun i σ' H' _ g => SqL.of g.2.2.1) (fun i x σ' H' hx gg => ?_) (fun σ' H' gg => ?_)
        · obtain ⟨⟨x3, x4, rfl⟩, N, k1, k2⟩ := gg
          rw [hyr] at hx
          obtain ⟨p, z, rfl, hpi, hz, hp⟩ := pr_item k2 hx
          rw [take_snoc hz, List.foldl_append]
          have hal : ((ls.take i).foldl mergeP []).length ≤ 100 := by
            have := merge_len (ls.take i) []
            rw [List.length_take] at this
            simp only [List.length_nil] at this
            omega
          generalize (ls.take i).foldl mergeP [] = acc at N hal ⊢
          refine ⟨p, _, rfl, SqT.of hp, rfl, _, _, rfl, _, _, rfl, rfl, ?_⟩
          refine ⟨_, rfl, Nat.zero_le _, fun t0 ht0 => ?_⟩
          have b0 := Same.new (o := .lst []) ht0
          have N1 := N.same b0
          refine ⟨_, .list [], N1.out.dp, .lst (SqL.of upd_same) .nil, (shp (lay_pairs _) (dep_pairs _) (by decide)).1, rfl, ?_⟩
          show ∃ kk, V.bl (!PyData.eqvAll (dPairs acc) []) = V.bl kk ∧ _
          have k1' := b0 _ _ k1
          have k2' := pr_mono (G := fun p (x : Nat × Nat) => (upd H' t0 (.lst [])) p = some (.tup [.int (x.1 : Int), .int (x.2 : Int)])) (fun _ _ z => b0 _ _ z) k2
          generalize upd H' t0 (.lst []) = H5 at N1 k1' k2' ⊢
          have app : ∃ xs, H5 d = some (.lst xs) ∧ xs.length = acc.length := by
            obtain ⟨qs, w1, w2⟩ := N1.at_
            exact ⟨_, w1, by rw [List.length_map, pr_len w2]⟩
          have keepL : ∀ (t : Addr) (o : List V) (xs ys' : List V), H5 t = none → (upd H5 t (.tup o)) d = some (.lst xs) → (upd (upd H5 t (.tup o)) d (.lst ys')) l = some (.lst ys) ∧ Paired (fun p (x : Nat × Nat) => (upd (upd H5 t (.tup o)) d (.lst ys')) p = some (.tup [.int (x.1 : Int), .int (x.2 : Int)])) (ys.map unref) ls := fun t o xs ys' ht hd2 => by
            have bt := Same.new (o := .tup o) ht
            refine ⟨by rw [upd_ne hld]; exact bt _ _ k1', pr_mono (fun p x w => ?_) k2'⟩
            rw [upd_ne (ne_of (bt _ _ w) hd2 (by intro z; cases z))]
            exact bt _ _ w
          have addp : (∀ xs, mergeP acc z = acc ++ [z] → tDrop (tBM K "list" rAppend (tVar 2) (tCons (tTup (tCons (tVar 3) (tCons (tVar 4) tNil))) tNil)) xs [some (.ref a), some (.ref nb), some (.ref d), some (.int (z.1 : Int)), some (.int (z.2 : Int)), none] H5 = tDrop (tBM K "list" rAppend (tVar 2) (tCons (tTup (tCons (tVar 3) (tCons (tVar 4) tNil))) tNil)) xs [some (.ref a), some (.ref nb), some (.ref d), some (.int (z.1 : Int)), some (.int (z.2 : Int)), none] H5) := fun _ _ => rfl
          rcases snoc_cases acc with rfl | ⟨ys', y, rfl⟩
          · refine ⟨false, rfl, iteF (iteF ?_)⟩
            obtain ⟨xs, w1, w2⟩ := app
            refine ⟨_, rfl, .inl ⟨rfl, _, SqL.of w1⟩, _, rfl, _, rfl, by show 2 ≤ sizeLine; decide, fun t ht => ?_⟩
            have bt := Same.new (o := .tup [.int (z.1 : Int), .int (z.2 : Int)]) ht
            obtain ⟨xs', w3, w4, w5⟩ := (N1.same bt).snoc (t := t) (b := z.1) (e := z.2) upd_same
            obtain ⟨j1, j2⟩ := keepL t _ _ (xs' ++ [.ref t]) ht w3
            refine ⟨d, xs', _, rfl, rfl, w3, by rw [w4]; exact sz (by omega), ⟨_, _, rfl⟩, ?_, j1, j2⟩
            exact w5
          · have hne : PyData.eqvAll (dPairs (ys' ++ [y])) [] = false := by
              rw [eqv_nil]
              unfold dPairs
              rw [List.map_append]
              simp
            rw [hne]
            obtain ⟨qs, pl, w1, w2, w3, w4⟩ := N1.last
            refine ⟨true, rfl, iteT ⟨_, rfl, _, rfl, 1, rfl, d, _, _, _, rfl, rfl, SqL.of w1, atI_last _ _, pl, _, _, _, rfl, rfl, SqT.of w4, atI_nat (j := 1) rfl, _, _, rfl, rfl, decide (z.1 ≤ y.2), ?_, ?_⟩⟩
            · refine congrArg V.bl ?_
              by_cases c : z.1 ≤ y.2
              · rw [decide_eq_true c, decide_eq_true (by omega)]
              · rw [decide_eq_false c, decide_eq_false (by omega)]
            · by_cases c : z.1 ≤ y.2
              · rw [decide_eq_true c]
                refine iteT ⟨_, rfl, 1, rfl, d, _, _, _, rfl, rfl, SqL.of w1, atI_last _ _, pl, _, _, _, rfl, rfl, SqT.of w4, atI_nat (j := 0) rfl, ?_⟩
                refine ⟨_, rfl, 1, rfl, d, _, _, _, rfl, rfl, SqL.of w1, atI_last _ _, pl, _, _, _, rfl, rfl, SqT.of w4, atI_nat (j := 1) rfl, _, rfl, _, _, rfl, ?_⟩
                rw [mx]
                refine ⟨by show 2 ≤ sizeLine; decide, fun t ht => ?_⟩
                have bt := Same.new (o := .tup [.int (y.1 : Int), .int ((max y.2 z.2 : Nat) : Int)]) ht
                have hd5 := bt _ _ w1
                obtain ⟨j1, j2⟩ := keepL t _ _ (qs.map V.ref ++ [.ref t]) ht hd5
                refine ⟨_, rfl, 1, rfl, d, _, _, qs.length, rfl, rfl, hd5, ?_, ⟨_, _, rfl⟩, ?_⟩
                · rw [List.length_append, List.length_map]
                  exact ixN_last _
                · have hset : (qs.map V.ref ++ [V.ref pl]).set qs.length (.ref t) = qs.map V.ref ++ [.ref t] := by
                    have := set_last (qs.map V.ref) (V.ref pl) (V.ref t)
                    rw [List.length_map] at this
                    exact this
                  rw [hset]
                  refine ⟨?_, j1, j2⟩
                  have hm : mergeP (ys' ++ [y]) z = ys' ++ [(y.1, max y.2 z.2)] := by
                    unfold mergeP
                    rw [List.getLastD_concat, List.dropLast_concat, if_pos ⟨by simp, c⟩]
                  show PairsN H d (mergeP (ys' ++ [y]) z) _
                  rw [hm]
                  have := (N1.same bt).chg (ps := qs ++ [t]) (acc' := ys' ++ [(y.1, max y.2 z.2)]) hd5 (pr_app (pr_mono (fun _ _ w => bt _ _ w) w3) (.cons upd_same .nil))
                  rw [List.map_append] at this
                  exact this
              · rw [decide_eq_false c]
                refine iteF ⟨_, rfl, .inl ⟨rfl, _, SqL.of w1⟩, _, rfl, _, rfl, by show 2 ≤ sizeLine; decide, fun t ht => ?_⟩
                have bt := Same.new (o := .tup [.int (z.1 : Int), .int (z.2 : Int)]) ht
                obtain ⟨xs', w3, w4, w5⟩ := (N1.same bt).snoc (t := t) (b := z.1) (e := z.2) upd_same
                obtain ⟨j1, j2⟩ := keepL t _ _ (xs' ++ [.ref t]) ht w3
                refine ⟨d, xs', _, rfl, rfl, w3, by rw [w4]; exact sz (by omega), ⟨_, _, rfl⟩, ?_, j1, j2⟩
                have hm : mergeP (ys' ++ [y]) z = (ys' ++ [y]) ++ [z] := by
                  unfold mergeP
                  rw [List.getLastD_concat, if_neg fun w => c w.2]
                show PairsN H d (mergeP (ys' ++ [y]) z) _
                rw [hm]
                exact w5
        · obtain ⟨⟨x3, x4, rfl⟩, N, k1, k2⟩ := gg
          have hyl2 : ys.length = ls.length := by rw [← pr_len k2, List.length_map]
          rw [hyl2, List.take_length, hfin] at N
          exact ⟨_, rfl, q d H' N.sm N.nw N.out⟩

end
end W24
set_option maxHeartbeats 4000000
/-! W11: many_in, gaps_between, need_glue. -/
namespace W24
open PySem PySem.Spec PyProof.Rows L2
section
variable {P : Program} {w : World} {K : PySem.W.Frag} {mg : Str → Option Value} {base : Heap}
theorem sc_many_in : FnScope ["pairs", "begin", "end"] ["pairs"] (defScope s_many_in) := ⟨rfl, rfl, rfl, by decide +kernel, rfl, by decide +kernel, by decide +kernel⟩
def spMany : Sp := fun vs H Q _ => ∃ (v : V) (l : Prs), vs = [v] ∧ PairsL H v l ∧ (∀ x ∈ l, x.1 < x.2) ∧ l.length ≤ 50 ∧ ∀ H', Same H H' → Q (.int (sumP l : Int)) H'
theorem sum_nat (l : List Nat) : (l.map fun x : Nat => (x : Int)).sum = ((l.sum : Nat) : Int) := by
  induction l with
  | nil => rfl
  | cons a l ih =>
    simp only [List.map_cons, List.sum_cons, ih]
    omega
theorem ok_many_in {f : Addr} {fd : FuncData} (T : Txt K mg) (F : FnP K "many_in" s_many_in f fd) : FnOk P w K mg base CX0 1 f fd ["pairs"] spMany := by
  refine FnP.okP F sc_many_in (fun vs H Q E h => ?_) (fun cdv A outer s H vs Q E hr h => ?_)
  · obtain ⟨v, l, rfl, _⟩ := h
    rfl
  · obtain ⟨v, l, rfl, ⟨a, ps, rfl, ha, hp⟩, hlt, hl, q⟩ := h
    refine ⟨_, (pss_one (ps_ret (pe_callB (cr_sum rfl) (by rfl) T.sum b_sum (pa_cons (pe_lc (own := [("begin", 1), ("end", 2)]) (g := gTup K 2 (gCons (gName 1) (gCons (gName 2) gNil))) (tt := tYes) rfl sc_many_in.nd (piL K (pv 0)) (blkOk_by (own := [("begin", 1), ("end", 2)]) (N := ["pairs", "begin", "end"]) (sc := (defScope s_many_in)) (by decide +kernel)) (fun _ _ _ _ _ => (pgT K rfl (pgs_cons (pg_name (i := 1) sc_many_in.nd rfl (by first | exact Or.inl rfl | exact Or.inr rfl) (by first | exact Or.inl rfl | exact Or.inr rfl)) (pgs_cons (pg_name (i := 2) sc_many_in.nd rfl (by first | exact Or.inl rfl | exact Or.inr rfl) (by first | exact Or.inl rfl | exact Or.inr rfl)) pgs_nil)))) (fun _ _ _ _ _ => pts_nil) (fun _ _ _ _ _ => (pe_op op_sub (pv 2) (pv 1)))) pa_nil)))), ?_⟩
    refine ⟨_, rfl, a, rfl, ⟨_, SqL.of ha⟩, fun D hD => ?_⟩
    refine lc_it (walk_list (xs := ps.map V.ref)) (Cv H D fun i => .int (((l.map fun x => x.2 - x.1).getD i 0 : Nat) : Int)) (cv0 hD) (fun i H2 _ p => SqL.of (p.2.1 _ _ ha)) (fun i x H2 H3 hi p y => ?_) (fun H2 p => ?_)
    · obtain ⟨rfl, hx⟩ := y
      obtain ⟨t, z, rfl, hti, hzi, hz⟩ := pr_item hp hx
      refine ⟨t, _, rfl, SqT.of (p.2.1 _ _ hz), rfl, _, _, rfl, _, _, rfl, rfl, rfl, _, rfl, _, rfl, _, _, rfl, rfl, ?_⟩
      have hil := (List.getElem?_eq_some_iff.mp hzi).1
      refine cv_step p (Same.refl _) (by omega) ?_
      have := hlt z (List.mem_of_getElem? hzi)
      rw [List.getD, List.getElem?_map, hzi]
      show V.int ((z.2 : Int) - (z.1 : Int)) = V.int ((z.2 - z.1 : Nat) : Int)
      congr 1
      omega
    · obtain ⟨p1, p2, p3⟩ := p
      refine ⟨D, (l.map fun x => x.2 - x.1).map fun x : Nat => (x : Int), rfl, SqL.of (p3.trans ?_), ?_⟩
      · rw [List.length_map, pr_len hp]
        congr 2
        rw [← map_range_get (l.map fun x => x.2 - x.1) (fun x : Nat => (x : Int)) (fun i => (((l.map fun x => x.2 - x.1).getD i 0 : Nat) : Int)) fun i x e => by rw [List.getD, e]; rfl]
        rw [List.length_map, List.map_map]
        rfl
      · rw [sum_nat]
        exact q H2 p2
theorem sc_gaps_between : FnScope ["pairs", "size", "found", "at", "begin", "end"] ["pairs", "size"] (defScope s_gaps_between) := ⟨rfl, rfl, rfl, by decide +kernel, rfl, by decide +kernel, by decide +kernel⟩
def spGapsB : Sp := fun vs H Q _ => ∃ (v : V) (l : Prs) (size : Nat), vs = [v, .int (size : Int)] ∧ PairsL H v l ∧ l.length ≤ 50 ∧ ∀ a H', Same H H' → PairsL H' (.ref a) (gB size 0 l) → Q (.ref a) H'
theorem ok_gaps_between {f : Addr} {fd : FuncData} (T : Txt K mg) (F : FnP K "gaps_between" s_gaps_between f fd) : FnOk P w K mg base CX0 1 f fd ["pairs", "size"] spGapsB := by
  refine FnP.okP F sc_gaps_between (fun vs H Q E h => ?_) (fun cdv A outer s H vs Q E hr h => ?_)
  · obtain ⟨v, l, size, rfl, _⟩ := h
    rfl
  · obtain ⟨v, l, size, rfl, ⟨a, ps, rfl, ha, hp⟩, hl, q⟩ := h
    refine ⟨_, (pss_cons (ps_par (i := 2) (j := 3) rfl sc_gaps_between.nd rfl rfl (by decide) rfl rfl (pa_cons (pe_lst pa_nil) (pa_cons pe_int pa_nil)) (by rfl))
      (pss_cons (ps_for PassesOwn.never rfl (piL K (pv 0)) (pgT K rfl (pgs_cons (pg_name (i := 4) sc_gaps_between.nd rfl (by first | exact Or.inl rfl | exact Or.inr rfl) (by first | exact Or.inl rfl | exact Or.inr rfl)) (pgs_cons (pg_name (i := 5) sc_gaps_between.nd rfl (by first | exact Or.inl rfl | exact Or.inr rfl) (by first | exact Or.inl rfl | exact Or.inr rfl)) pgs_nil))) (pss_cons (ps_if (pt_cmpR op_lt (pv 3) (pv 4) (nomark _)) (pss_one (ps_expr (pe_bm PySem.F.plainAttrs_list PySem.F.slot_list_append PySem.F.type_list_append mt_append (pv 2) (pa_cons (pe_tup (pa_cons (pv 3) (pa_cons (pv 4) pa_nil))) pa_nil)))) pss_nil)
      (pss_one (ps_set (i := 3) sc_gaps_between.nd rfl (by first | exact Or.inl rfl | exact Or.inr rfl) (pv 5)))))
      (pss_one (ps_ret (pe_ifExp (pt_cmpR op_lt (pv 3) (pv 1) (nomark _)) (pe_op op_cat (pv 2) (pe_lst (pa_cons (pe_tup (pa_cons (pv 3) (pa_cons (pv 1) pa_nil))) pa_nil))) (pv 2)))))), ?_⟩
    refine ⟨Nat.zero_le _, fun d hd => ⟨_, _, rfl, ?_⟩⟩
    have N0 := PairsN.new (Same.refl H) hd
    refine ⟨_, rfl, a, rfl, ⟨_, SqL.of (N0.sm _ _ ha)⟩, ?_⟩
    refine for_list (xs := ps.map V.ref) (fun i σ' H' => ∃ (x4 x5 : Option V) (at_ : Nat) (acc : Prs), σ' = [some (.ref a), some (.int (size : Int)), some (.ref d), some (.int (at_ : Int)), x4, x5] ∧ PairsN H d acc H' ∧ acc.length ≤ i ∧ acc ++ gB size at_ (l.drop i) = gB size 0 l) ⟨_, _, 0, [], rfl, N0, Nat.zero_le _, rfl⟩ (fun i σ' H' _ g => ?_) (fun i x σ' H' hx gg => ?_) (fun σ' H' gg => ?_)
    · obtain ⟨_, _, _, _, _, N, _⟩ := g
      exact SqL.of (N.sm _ _ ha)
    · obtain ⟨x4, x5, at_, acc, rfl, N, hal, hgb⟩ := gg
      obtain ⟨t, z, rfl, hti, hzi, hz⟩ := pr_item hp hx
      have hil := (List.getElem?_eq_some_iff.mp hzi).1
      have hdrop : l.drop i = z :: l.drop (i + 1) := by
        rw [List.drop_eq_getElem_cons hil]
        congr 1
        rw [List.getElem?_eq_getElem hil] at hzi
        exact Option.some.inj hzi
      rw [hdrop] at hgb
      refine ⟨t, _, rfl, SqT.of (N.sm _ _ hz), rfl, _, _, rfl, _, _, rfl, rfl, ?_⟩
      refine ⟨_, rfl, _, rfl, _, _, rfl, rfl, decide (at_ < z.1), ?_, ?_⟩
      · refine congrArg V.bl ?_
        by_cases c : at_ < z.1
        · rw [decide_eq_true c, decide_eq_true (by omega)]
        · rw [decide_eq_false c, decide_eq_false (by omega)]
      · by_cases c : at_ < z.1
        · rw [decide_eq_true c]
          obtain ⟨xs, w1, w2, _⟩ : ∃ xs, H' d = some (.lst xs) ∧ xs.length = acc.length ∧ True := by
            obtain ⟨qs, w1, w2⟩ := N.at_
            exact ⟨_, w1, by rw [List.length_map, pr_len w2], trivial⟩
          refine iteT ⟨_, rfl, .inl ⟨rfl, _, SqL.of w1⟩, _, rfl, _, rfl, by show 2 ≤ sizeLine; decide, fun t ht => ?_⟩
          have bt := Same.new (o := .tup [.int (at_ : Int), .int (z.1 : Int)]) ht
          obtain ⟨xs', w3, w4, w5⟩ := (N.same bt).snoc (t := t) (b := at_) (e := z.1) upd_same
          refine ⟨d, xs', _, rfl, rfl, w3, by rw [w4]; exact sz (by omega), _, rfl, _, _, z.2, acc ++ [(at_, z.1)], rfl, w5, by rw [List.length_append, List.length_singleton]; omega, ?_⟩
          rw [← hgb]
          unfold gB
          rw [if_pos c, List.append_assoc]
          cases l.drop (i + 1) <;> rfl
        · rw [decide_eq_false c]
          refine iteF ⟨_, rfl, _, _, z.2, acc, rfl, N, by omega, ?_⟩
          rw [← hgb]
          unfold gB
          rw [if_neg c]
          cases l.drop (i + 1) <;> rfl
    · obtain ⟨x4, x5, at_, acc, rfl, N, hal, hgb⟩ := gg
      have hlen : (ps.map V.ref).length = l.length := by rw [List.length_map, pr_len hp]
      rw [hlen, List.drop_length] at hgb
      rw [hlen] at hal
      refine ⟨_, rfl, _, rfl, _, _, rfl, rfl, decide (at_ < size), ?_, ?_⟩
      · refine congrArg V.bl ?_
        by_cases c : at_ < size
        · rw [decide_eq_true c, decide_eq_true (by omega)]
        · rw [decide_eq_false c, decide_eq_false (by omega)]
      · by_cases c : at_ < size
        · rw [decide_eq_true c]
          refine iteT ⟨_, rfl, _, rfl, _, rfl, by show 2 ≤ sizeLine; decide, fun t ht => ⟨by show 1 ≤ sizeLine; decide, fun l1 hl1 => ?_⟩⟩
          have bt := Same.new (o := .tup [.int (at_ : Int), .int (size : Int)]) ht
          have bl := Same.new (o := .lst [.ref t]) hl1
          obtain ⟨qs, w1, w2⟩ := ((N.same bt).same bl).at_
          refine ⟨d, l1, _, _, rfl, rfl, w1, upd_same, by rw [List.length_map, pr_len w2]; exact szl (by show acc.length + 1 < 60000; omega), fun p hp' => ?_⟩
          have bp := Same.new (o := .lst (qs.map V.ref ++ [.ref t])) hp'
          refine q p _ ((((N.same bt).same bl).same bp).sm) ⟨p, qs ++ [t], rfl, ?_, ?_⟩
          · rw [upd_same, List.map_append]
            rfl
          · rw [← hgb]
            show Paired _ _ (acc ++ if at_ < size then [(at_, size)] else [])
            rw [if_pos c]
            exact pr_app (pr_mono (fun _ _ z => bp _ _ z) w2) (.cons (bp _ _ (bl _ _ upd_same)) .nil)
        · rw [decide_eq_false c]
          refine iteF ⟨_, rfl, q d H' N.sm ?_⟩
          rw [← hgb]
          show PairsL H' (.ref d) (acc ++ if at_ < size then [(at_, size)] else [])
          rw [if_neg c, List.append_nil]
          exact N.out
/-! ### need_glue -/
theorem asc_uniq : ∀ (l m : List Int), l.Pairwise (· < ·) → m.Pairwise (· < ·) → (∀ k, k ∈ l ↔ k ∈ m) → l = m
  | [], [], _, _, _ => rfl
  | [], y :: m, _, _, h => by have := (h y).mpr List.mem_cons_self; cases this
  | x :: l, [], _, _, h => by have := (h x).mp List.mem_cons_self; cases this
  | x :: l, y :: m, hl, hm, h => by
    rw [List.pairwise_cons] at hl hm
    have e : x = y := by
      rcases List.mem_cons.mp ((h x).mp List.mem_cons_self) with a | a
      · exact a
      · rcases List.mem_cons.mp ((h y).mpr List.mem_cons_self) with b | b
        · exact b.symm
        · have := hm.1 x a
          have := hl.1 y b
          omega
    subst e
    congr 1
    refine asc_uniq l m hl.2 hm.2 fun k => ⟨fun hk => ?_, fun hk => ?_⟩
    · rcases List.mem_cons.mp ((h k).mp (List.mem_cons_of_mem _ hk)) with a | a
      · have := hl.1 k hk
        omega
      · exact a
    · rcases List.mem_cons.mp ((h k).mpr (List.mem_cons_of_mem _ hk)) with a | a
      · have := hm.1 k hk
        omega
      · exact a
theorem inum_eq (l : List Nat) : inum l = (l.map fun i : Nat => (i : Int)).map V.int := by
  unfold inum
  rw [List.map_map]
  rfl
theorem sc_need_glue : FnScope ["fetch", "thing", "number"] ["fetch", "thing"] (defScope s_need_glue) := ⟨rfl, rfl, rfl, by decide +kernel, rfl, by decide +kernel, by decide +kernel⟩
def spGlue : Sp := fun vs H Q _ => ∃ (v : V) (F : Ft) (nb : Addr) (nums : List Nat), vs = [v, .ref nb] ∧ FtAt H v F ∧ H nb = some (.tup (inum nums)) ∧ nums ≠ [] ∧ (∀ i ∈ nums, i < F.rs.length) ∧ nums.Pairwise (· < ·) ∧ nums.length ≤ 8 ∧ ∀ H', Same H H' → Q (.ref nb) H'
theorem ok_need_glue {f : Addr} {fd : FuncData} (T : Txt K mg) (c_is_whole_houses : Cal P w K mg base 1 "is_whole_houses" ["thing", "least", "most"] spWhole)
    (F : FnP K "need_glue" s_need_glue f fd) : FnOk P w K mg base CX0 2 f fd ["fetch", "thing"] spGlue := by
  refine FnP.okP F sc_need_glue (fun vs H Q E h => ?_) (fun cdv A outer s H vs Q E hr h => ?_)
  · obtain ⟨v, F, nb, nums, rfl, _⟩ := h
    rfl
  · obtain ⟨v, F, nb, nums, rfl, ⟨a, vh, vr, vc, rfl, ha, hh, ⟨ar, pr, rfl, har, hpr⟩, hc⟩, hnb, hne, hn, hasc, hn8, q⟩ := h
    have hpos : 0 < nums.length := List.length_pos_iff.mpr hne
    refine ⟨_, (pss_cons (ps_if (PW.pt (pw_or (pt_not (pt_val (pe_isi "tuple" T.isinstance T.tuple (by decide +kernel) (pv 1)))) (pw_or1 (pt_cmpR op_eq (pe_callB (lenQ K) (by rfl) T.len b_len (pa_cons (pv 1) pa_nil)) pe_int (nomark _))))) (pss_one ps_never) pss_nil)
      (pss_cons (ps_if (PW.pt (pw_or (pt_not (pt_val (pe_callB (cr_all rfl) (by rfl) T.all b_all (pa_cons (pe_lc (own := [("number", 2)]) (g := gName 2) (tt := tYes) rfl sc_need_glue.nd (piT K (pv 1)) (blkOk_by (own := [("number", 2)]) (N := ["fetch", "thing", "number"]) (sc := (defScope s_need_glue)) (by decide +kernel)) (fun _ _ _ _ _ => (pg_name (i := 2) sc_need_glue.nd rfl (by first | exact Or.inl rfl | exact Or.inr rfl) (by first | exact Or.inl rfl | exact Or.inr rfl))) (fun _ _ _ _ _ => pts_nil) (fun _ _ _ _ _ => (pe_cal c_is_whole_houses (hr.mono (by decide)) (pa_cons (pv 2) (pa_cons pe_int (pa_cons (pe_op op_sub (pe_callB (lenQ K) (by rfl) T.len b_len (pa_cons (pe_ix (ixT K) (pv 0) pe_int (fun _ _ => rfl)) pa_nil)) pe_int) pa_nil)))))) pa_nil)))) (pw_or1 (pt_cmpR (op_neD hr.units) (pe_callTy call_list_of (by rfl) T.list b_list (pa_cons (pv 1) pa_nil)) (pe_callB (cr_sortedSet rfl) (by rfl) T.sorted b_sorted (pa_cons (pe_callTy (call_setT rfl) (by rfl) T.set b_set (pa_cons (pv 1) pa_nil)) pa_nil)) (nomark _))))) (pss_one ps_never) pss_nil)
      (pss_one (ps_ret (pv 1))))), ?_⟩
    refine ⟨_, rfl, _, "tuple", true, rfl, .base (.tup hnb), by decide +kernel, true, rfl, iteF ?_⟩
    refine ⟨_, rfl, nb, _, rfl, .inr (SqT.of hnb), rfl, false, dFalse (fun z => by have := V.int.inj z; rw [inum_len] at this; omega), iteF ?_⟩
    refine ⟨_, rfl, nb, rfl, ⟨_, SqT.of hnb⟩, fun D hD => ?_⟩
    refine lc_it (walk_tup (xs := inum nums)) (Cv H D fun i => .bl true) (cv0 hD) (fun i H2 _ p => SqT.of (p.2.1 _ _ hnb)) (fun i x H2 H3 hi p y => ?_) (fun H2 p => ?_)
    · obtain ⟨rfl, hx⟩ := y
      rw [inum_len] at hi
      have hni : nums[i]? = some nums[i] := List.getElem?_eq_getElem hi
      rw [inum_get hni] at hx
      cases hx
      have hlt := hn _ (List.mem_of_getElem? hni)
      refine ⟨rfl, _, rfl, _, rfl, a, _, _, _, rfl, rfl, SqT.of (p.2.1 _ _ ha), atI_nat (j := 2) rfl, ar, _, rfl, .inr (SqT.of (p.2.1 _ _ har)), _, _, rfl, rfl, _, _, _, rfl, ?_⟩
      refine wtQ (Q := fun y H4 => ∃ acc, H4 D = some (.lst acc) ∧ acc.length < sizeLine ∧ Cv H D (fun i => .bl true) (i + 1) (upd H4 D (.lst (acc ++ [y])))) (by omega) (by rw [List.length_map, pr_len hpr]; omega) (cv_step p (Same.refl _) (by omega) rfl)
    · obtain ⟨p1, p2, p3⟩ := p
      rw [inum_len] at p3
      refine ⟨D, List.replicate nums.length true, rfl, SqL.of (p3.trans ?_), true, ?_, iteF ?_⟩
      · rw [List.map_replicate, List.map_const', List.length_range]
      · simp
      · refine ⟨_, rfl, nb, _, rfl, .inr (SqT.of (p2 _ _ hnb)), fun l hl => ?_⟩
        have e1 := p2.trans (Same.new (o := .lst (inum nums)) hl)
        refine ⟨_, rfl, nb, nums.map fun i : Nat => (i : Int), rfl, ?_, by rw [List.length_map]; omega, fun s c hs hcl => ?_⟩
        · rw [← inum_eq]
          exact SqT.of (e1 _ _ hnb)
        · rw [List.length_map] at hcl
          refine ⟨s, _, c, rfl, upd_same, by omega, fun ns p hasc2 hmem hlen hp => ?_⟩
          have hns : ns = nums.map fun i : Nat => (i : Int) := by
            refine asc_uniq _ _ hasc2 ?_ fun k => by rw [hmem]; exact decide_eq_true_iff
            rw [List.pairwise_map]
            exact hasc.imp fun {a b} h => by omega
          subst hns
          have e2 := Same.new (o := SetO w s (fun j => decide (j ∈ nums.map fun i : Nat => (i : Int))) c) hs
          have e3 := Same.new (o := .lst ((nums.map fun i : Nat => (i : Int)).map V.int)) hp
          refine ⟨.list (dNums nums), .list (dNums nums), .lst (SqL.of (e3 _ _ (e2 _ _ upd_same))) (dp_nums _), .lst (SqL.of (upd_same.trans ?_)) (dp_nums nums), (shp (lay_nums _) (dep_nums _) (by decide)).1, (shp (lay_nums _) (dep_nums _) (by decide)).1, false, ?_, iteF ?_⟩
          · rw [inum_eq]
          · show V.bl (!PyData.eqvAll _ _) = _
            rw [eqv_nums, decide_eq_true rfl]
            rfl
          · exact ⟨_, rfl, q _ ((e1.trans e2).trans e3)⟩
end
end W24
set_option maxHeartbeats 4000000
/-! W12: best_in, cover, most_kept, best, missing, is_whole. -/
namespace W24
open PySem PySem.Spec PyProof.Rows L2
theorem bool_iff {a b : Bool} {p : Prop} (h1 : a = true ↔ p) (h2 : b = true ↔ p) : a = b := by
  cases a <;> cases b <;> simp_all
theorem TabF.eq {F : Ft} {g : AL Nat} {f : Tab} (T : TabF F g f) {i j : Nat} (hi : i < F.rs.length) (hj : j < F.rs.length) : eT f i j = eG g i j := by
  unfold eT eG
  rw [bool_iff (T.rc i j hi hj) (T.gd.reach hi), bool_iff (T.rc j i hj hi) (T.gd.reach hj)]
theorem eqvG {A : Arr} {n : Nat} {g : AL Nat} (G : GoodG A n g) : Eqv (eG g) n := by
  refine ⟨fun i hi => ?_, fun i j => Bool.and_comm _ _, fun i j k hi hj hk h1 h2 => ?_⟩
  · obtain ⟨v, e⟩ := G.diag i hi
    unfold eG
    rw [e]
    rfl
  · unfold eG at *
    rw [Bool.and_eq_true] at h1 h2 ⊢
    exact ⟨(G.reach hi).mpr (((G.reach hi).mp h1.1).trans ((G.reach hj).mp h2.1)), (G.reach hk).mpr (((G.reach hk).mp h2.2).trans ((G.reach hj).mp h1.2))⟩
theorem TabF.classes {F : Ft} {g : AL Nat} {f : Tab} (T : TabF F g f) : classesL (eT f) F.rs.length = groupsL (eG g) F.rs.length F.rs.length := by
  rw [← classes_groups (eqvG T.gd)]
  exact (classes_congr (fun i j hi hj => T.eq hi hj) F.rs.length (Nat.le_refl _)).1
def cntF (F : Ft) (c : List Nat) : Nat := sumP (runsL (bytesOf F.rs c) F.size)
def bestStep (F : Ft) (acc : Option (List Nat)) (c : List Nat) : Option (List Nat) := match acc with
  | none => some c
  | some b => if cntF F c > cntF F b then some c else some b
def bestL (F : Ft) (cs : List (List Nat)) : Option (List Nat) := cs.foldl (bestStep F) none
theorem bestL_mem {F : Ft} : ∀ (cs : List (List Nat)) (acc : Option (List Nat)) (c : List Nat), cs.foldl (bestStep F) acc = some c → c ∈ cs ∨ acc = some c
  | [], acc, c, h => .inr h
  | d :: cs, acc, c, h => by
    rcases bestL_mem cs _ c h with z | z
    · exact .inl (List.mem_cons_of_mem _ z)
    · cases acc with
      | none =>
        have : d = c := Option.some.inj z
        exact .inl (this ▸ List.mem_cons_self)
      | some b =>
        unfold bestStep at z
        simp only at z
        split at z
        · have : d = c := Option.some.inj z
          exact .inl (this ▸ List.mem_cons_self)
        · exact .inr z
theorem bestL_some {F : Ft} : ∀ (cs : List (List Nat)) (acc : Option (List Nat)), acc.isSome = true → (cs.foldl (bestStep F) acc).isSome = true
  | [], acc, h => h
  | d :: cs, acc, h => by
    refine bestL_some cs _ ?_
    cases acc with
    | none => rfl
    | some b =>
      unfold bestStep
      simp only
      split <;> rfl
section
variable {P : Program} {w : World} {K : PySem.W.Frag} {mg : Str → Option Value} {base : Heap}
def BestAt (F : Ft) (H : Hp) (v : V) : Option (List Nat) → Prop
  | none => v = .non
  | some c => ∃ (t nb pl : Addr), v = .ref t ∧ H t = some (.tup [.ref nb, .ref pl]) ∧ H nb = some (.lst (inum c)) ∧ PairsL H (.ref pl) (runsL (bytesOf F.rs c) F.size)
theorem BestAt.same {F : Ft} {H H' : Hp} {v : V} {o : Option (List Nat)} (h : BestAt F H v o) (e : Same H H') : BestAt F H' v o := by
  cases o with
  | none => exact h
  | some c =>
    obtain ⟨t, nb, pl, h1, h2, h3, h4⟩ := h
    exact ⟨t, nb, pl, h1, e _ _ h2, e _ _ h3, h4.same e⟩
def spBestIn : Sp := fun vs H Q _ => ∃ (v : V) (F : Ft) (g : AL Nat), vs = [v] ∧ FtAt H v F ∧ GoodF F ∧ gapsL (arr F) F.rs.length = some g ∧ ∀ (u : V) (c : List Nat) H', Same H H' → BestAt F H' u (some c) → bestL F (groupsL (eG g) F.rs.length F.rs.length) = some c → GoodG (arr F) F.rs.length g → Q u H'
theorem rg_inum (n : Nat) : rgV 0 (n : Int) = inum (List.range n) := by
  unfold rgV inum
  have : ((n : Int) - 0).toNat = n := by omega
  rw [this]
  refine List.map_congr_left fun i _ => ?_
  rw [Int.zero_add]
theorem sc_best_in : FnScope ["fetch", "rows", "best", "numbers", "pairs"] ["fetch"] (defScope s_best_in) := ⟨rfl, rfl, rfl, by decide +kernel, rfl, by decide +kernel, by decide +kernel⟩
theorem ok_best_in {f : Addr} {fd : FuncData} (T : Txt K mg) (c_need_possible : Cal P w K mg base 5 "need_possible" ["fetch"] spRows) (c_classes_of : Cal P w K mg base 2 "classes_of" ["rows", "numbers"] spClasses)
    (c_cover_in : Cal P w K mg base 1 "cover_in" ["fetch", "numbers"] spCoverL) (c_many_in : Cal P w K mg base 1 "many_in" ["pairs"] spMany)
    (F : FnP K "best_in" s_best_in f fd) : FnOk P w K mg base CX0 6 f fd ["fetch"] spBestIn := by
  refine FnP.okP F sc_best_in (fun vs H Q E h => ?_) (fun cdv A outer s H vs Q E hr h => ?_)
  · obtain ⟨v, F, g, rfl, _⟩ := h
    rfl
  · obtain ⟨v, F, g, rfl, hF, gF, hg, q⟩ := h
    have hn8 := gF.r2
    have hs10 := gF.s2
    refine ⟨_, (pss_cons (ps_par (i := 1) (j := 2) rfl sc_best_in.nd rfl rfl (by decide) rfl rfl (pa_cons (pe_cal c_need_possible (hr.mono (by decide)) (pa_cons (pv 0) pa_nil)) (pa_cons pe_non pa_nil)) (by rfl))
      (pss_cons (ps_for PassesOwn.never rfl (piL K (pe_cal c_classes_of (hr.mono (by decide)) (pa_cons (pv 1) (pa_cons (pe_listRg rfl (by rfl) T.list (prg_1 (by rfl) T.range (pe_callB (lenQ K) (by rfl) T.len b_len (pa_cons (pv 1) pa_nil)))) pa_nil)))) (pg_name (i := 3) sc_best_in.nd rfl (by first | exact Or.inl rfl | exact Or.inr rfl) (by first | exact Or.inl rfl | exact Or.inr rfl)) (pss_cons (ps_set (i := 4) sc_best_in.nd rfl (by first | exact Or.inl rfl | exact Or.inr rfl) (pe_cal c_cover_in (hr.mono (by decide)) (pa_cons (pv 0) (pa_cons (pv 3) pa_nil))))
      (pss_one (ps_if (PW.pt (pw_or (pt_cmpR op_isN (pv 2) pe_non (nomark _)) (pw_or1 (pt_cmpR op_gt (pe_cal c_many_in (hr.mono (by decide)) (pa_cons (pv 4) pa_nil)) (pe_cal c_many_in (hr.mono (by decide)) (pa_cons (pe_ix (ixT K) (pv 2) pe_int (fun _ _ => rfl)) pa_nil)) (nomark _))))) (pss_one (ps_set (i := 2) sc_best_in.nd rfl (by first | exact Or.inl rfl | exact Or.inr rfl) (pe_tup (pa_cons (pv 3) (pa_cons (pv 4) pa_nil))))) pss_nil))))
      (pss_one (ps_ret (pv 2))))), ?_⟩
    refine ⟨_, rfl, v, F, g, rfl, hF, gF, hg, fun a f H1 R TF => ⟨_, _, rfl, ?_⟩⟩
    obtain ⟨xs, hxs, hxl⟩ : ∃ xs, H1 a = some (.lst xs) ∧ xs.length = F.rs.length := by
      obtain ⟨ps, h0, h1, h2, _⟩ := R.rows
      exact ⟨_, h1, by rw [List.length_map]; exact h2⟩
    refine ⟨_, rfl, _, rfl, a, xs, rfl, .inl (SqL.of hxs), _, rfl, RgOk.of_le (by omega) (by omega) (by omega) (by omega), fun b hb => ?_⟩
    have e1 := Same.new (o := .lst (rgV 0 (xs.length : Int))) hb
    refine ⟨H, a, b, F.rs.length, f, rfl, R.same e1, hn8, ?_, fun l H2 e2 hcls => ?_⟩
    · rw [upd_same, hxl, rg_inum]
    rw [TF.classes] at hcls
    have E := eqvG TF.gd
    have hmem := fun c hc => groups_of E (g := c) hc
    have hgl := groups_len E
    have hne := groups_ne E (by have := gF.r1; omega)
    generalize groupsL (eG g) F.rs.length F.rs.length = cs at hcls hmem hgl hne q
    obtain ⟨l', ps, el, hl, hp⟩ := hcls
    cases el
    have e3 := (R.sm.trans e1).trans e2
    refine ⟨l, rfl, ⟨_, SqL.of hl⟩, ?_⟩
    refine for_list (xs := ps.map V.ref) (fun i σ' H' => ∃ (bst : V) (x3 x4 : Option V), σ' = [some v, some (.ref a), some bst, x3, x4] ∧ Same H2 H' ∧ BestAt F H' bst ((cs.take i).foldl (bestStep F) none)) ⟨_, _, _, rfl, Same.refl _, rfl⟩ (fun i σ' H' _ g => ?_) (fun i x σ' H' hx gg => ?_) (fun σ' H' gg => ?_)
    · obtain ⟨_, _, _, _, e, _⟩ := g
      exact SqL.of (e _ _ hl)
    · obtain ⟨bst, x3, x4, rfl, e4, hB⟩ := gg
      obtain ⟨p, c, rfl, hpi, hci, hpc⟩ := pr_item hp hx
      have hcm := List.mem_of_getElem? hci
      obtain ⟨k, hk, rfl⟩ := hmem c hcm
      rw [take_snoc hci, List.foldl_append]
      generalize (cs.take i).foldl (bestStep F) none = acc at hB ⊢
      generalize hcc : matesL (eG g) F.rs.length k = c at *
      have hclt : ∀ i ∈ c, i < F.rs.length := fun i hi => by rw [← hcc] at hi; exact (mates_mem.mp hi).1
      have hcl : c.length ≤ F.rs.length := by rw [← hcc]; exact mates_len k
      refine ⟨_, rfl, _, rfl, v, F, p, c, rfl, hF.same (e3.trans e4), gF, e4 _ _ hpc, hclt, by omega, fun pl H4 e5 hpl0 hpl => ?_⟩
      have hB5 := hB.same e5
      have e6 := e4.trans e5
      have hrl := runs_len (bytesOf F.rs c) F.size
      have hro := runs_ok (bytesOf F.rs c) F.size
      cases acc with
      | none =>
        obtain rfl : bst = .non := hB5
        refine ⟨_, rfl, rfl, true, rfl, iteT (iteT ⟨_, rfl, _, rfl, by show 2 ≤ sizeLine; decide, fun t ht => ?_⟩)⟩
        have e7 := Same.new (o := .tup [.ref p, .ref pl]) ht
        exact ⟨_, _, _, rfl, e6.trans e7, t, p, pl, rfl, upd_same, e7 _ _ (e6 _ _ hpc), hpl.same e7⟩
      | some b =>
        obtain ⟨t, nb, pb, rfl, k1, k2, k3⟩ := hB5
        have hrb := runs_len (bytesOf F.rs b) F.size
        have hob := runs_ok (bytesOf F.rs b) F.size
        refine ⟨_, rfl, rfl, false, rfl, iteF ⟨_, rfl, _, _, rfl, hpl, hro.nrm.2, by omega, fun H5 e7 => ?_⟩⟩
        refine ⟨_, rfl, t, _, _, _, rfl, rfl, SqT.of (e7 _ _ k1), atI_nat (j := 1) rfl, _, _, rfl, k3.same e7, hob.nrm.2, by omega, fun H6 e8 => ?_⟩
        refine ⟨_, _, rfl, rfl, decide (cntF F c > cntF F b), ?_, ?_⟩
        · refine congrArg V.bl ?_
          show decide ((cntF F b : Int) < (cntF F c : Int)) = _
          by_cases z : cntF F c > cntF F b
          · rw [decide_eq_true z, decide_eq_true (by omega)]
          · rw [decide_eq_false z, decide_eq_false (by omega)]
        · have e9 := (e6.trans e7).trans e8
          by_cases z : cntF F c > cntF F b
          · rw [decide_eq_true z]
            refine iteT ⟨_, rfl, _, rfl, by show 2 ≤ sizeLine; decide, fun t2 ht => ?_⟩
            have e7' := Same.new (o := .tup [.ref p, .ref pl]) ht
            refine ⟨_, _, _, rfl, e9.trans e7', ?_⟩
            show BestAt F _ _ (bestStep F (some b) c)
            unfold bestStep
            simp only [if_pos z]
            exact ⟨t2, p, pl, rfl, upd_same, e7' _ _ (e9 _ _ hpc), hpl.same ((e7.trans e8).trans e7')⟩
          · rw [decide_eq_false z]
            refine iteF ⟨_, _, _, rfl, e9, ?_⟩
            show BestAt F _ _ (bestStep F (some b) c)
            unfold bestStep
            simp only [if_neg z]
            have e10 := e7.trans e8
            exact ⟨t, nb, pb, rfl, e10 _ _ k1, e10 _ _ k2, k3.same e10⟩
    · obtain ⟨bst, x3, x4, rfl, e4, hB⟩ := gg
      have hlen : (ps.map V.ref).length = cs.length := by rw [List.length_map, pr_len hp]
      rw [hlen, List.take_length] at hB
      have hsome : (cs.foldl (bestStep F) none).isSome = true := by
        cases cs with
        | nil => exact absurd rfl hne
        | cons d cs => exact bestL_some cs _ rfl
      obtain ⟨c, hc⟩ := Option.isSome_iff_exists.mp hsome
      rw [hc] at hB
      exact ⟨_, rfl, q bst c H' (e3.trans e4) hB hc TF.gd⟩
/-! ### the outer ones -/
theorem sc_cover : FnScope ["fetch", "glue"] ["fetch", "glue"] (defScope s_cover) := ⟨rfl, rfl, rfl, by decide +kernel, rfl, by decide +kernel, by decide +kernel⟩
def spCov : Sp := fun vs H Q _ => ∃ (v : V) (F : Ft) (g : AL Nat) (nb : Addr) (nums : List Nat), vs = [v, .ref nb] ∧ FtAt H v F ∧ GoodF F ∧ gapsL (arr F) F.rs.length = some g ∧ H nb = some (.tup (inum nums)) ∧ nums ≠ [] ∧ (∀ i ∈ nums, i < F.rs.length) ∧ nums.Pairwise (· < ·) ∧ nums.length ≤ 8 ∧ ∀ l H', Same H H' → PairsT H' (.ref l) (runsL (bytesOf F.rs nums) F.size) → Q (.ref l) H'
theorem ok_cover {f : Addr} {fd : FuncData} (T : Txt K mg) (c_need_fetch : Cal P w K mg base 4 "need_fetch" ["thing"] spNFetch) (c_need_glue : Cal P w K mg base 2 "need_glue" ["fetch", "thing"] spGlue)
    (c_need_possible : Cal P w K mg base 5 "need_possible" ["fetch"] spRows) (c_cover_in : Cal P w K mg base 1 "cover_in" ["fetch", "numbers"] spCoverT)
    (F : FnP K "cover" s_cover f fd) : FnOk P w K mg base CX0 6 f fd ["fetch", "glue"] spCov := by
  refine FnP.okP F sc_cover (fun vs H Q E h => ?_) (fun cdv A outer s H vs Q E hr h => ?_)
  · obtain ⟨v, F, g, nb, nums, rfl, _⟩ := h
    rfl
  · obtain ⟨v, F, g, nb, nums, rfl, hF, gF, hg, hnb, hne, hn, hasc, hn8, q⟩ := h
    refine ⟨_, (pss_cons (ps_expr (pe_cal c_need_glue (hr.mono (by decide)) (pa_cons (pe_cal c_need_fetch (hr.mono (by decide)) (pa_cons (pv 0) pa_nil)) (pa_cons (pv 1) pa_nil))))
      (pss_cons (ps_expr (pe_cal c_need_possible (hr.mono (by decide)) (pa_cons (pv 0) pa_nil)))
      (pss_one (ps_ret (pe_callTy call_tuple_of (by rfl) T.tuple b_tuple (pa_cons (pe_cal c_cover_in (hr.mono (by decide)) (pa_cons (pv 0) (pa_cons (pv 1) pa_nil))) pa_nil)))))), ?_⟩
    refine ⟨_, rfl, v, F, rfl, hF, gF, fun H1 e1 => ?_⟩
    refine ⟨_, rfl, v, F, nb, nums, rfl, hF.same e1, e1 _ _ hnb, hne, hn, hasc, hn8, fun H2 e2 => ?_⟩
    have e3 := e1.trans e2
    refine ⟨_, rfl, v, F, g, rfl, hF.same e3, gF, hg, fun a f H3 R _ => ?_⟩
    have e4 := e3.trans R.sm
    refine ⟨_, rfl, _, rfl, v, F, nb, nums, rfl, hF.same e4, gF, e4 _ _ hnb, hn, hn8, fun l H4 e5 _ hl => ?_⟩
    obtain ⟨l', ps, el, h1, h2⟩ := hl
    cases el
    refine ⟨l, _, rfl, .inl ⟨SqL.of h1, fun t ht => ?_⟩⟩
    have e6 := Same.new (o := .tup (ps.map V.ref)) ht
    exact q t _ ((e4.trans e5).trans e6) ⟨t, ps, rfl, upd_same, pr_mono (fun _ _ z => e6 _ _ z) h2⟩
def spBestQ (R : Ft → List Nat → V → Hp → Prop) : Sp := fun vs H Q _ => ∃ (v : V) (F : Ft) (g : AL Nat), vs = [v] ∧ FtAt H v F ∧ GoodF F ∧ gapsL (arr F) F.rs.length = some g ∧ ∀ (u : V) (c : List Nat) H', Same H H' → R F c u H' → bestL F (groupsL (eG g) F.rs.length F.rs.length) = some c → GoodG (arr F) F.rs.length g → Q u H'
theorem sc_most_kept : FnScope ["fetch"] ["fetch"] (defScope s_most_kept) := ⟨rfl, rfl, rfl, by decide +kernel, rfl, by decide +kernel, by decide +kernel⟩
abbrev spMost : Sp := spBestQ fun F c u _ => u = .int (cntF F c : Int)
theorem ok_most_kept {f : Addr} {fd : FuncData} (T : Txt K mg) (c_need_fetch : Cal P w K mg base 4 "need_fetch" ["thing"] spNFetch) (c_best_in : Cal P w K mg base 6 "best_in" ["fetch"] spBestIn) (c_many_in : Cal P w K mg base 1 "many_in" ["pairs"] spMany)
    (F : FnP K "most_kept" s_most_kept f fd) : FnOk P w K mg base CX0 7 f fd ["fetch"] spMost := by
  refine FnP.okP F sc_most_kept (fun vs H Q E h => ?_) (fun cdv A outer s H vs Q E hr h => ?_)
  · obtain ⟨v, F, g, rfl, _⟩ := h
    rfl
  · obtain ⟨v, F, g, rfl, hF, gF, hg, q⟩ := h
    have hs10 := gF.s2
    refine ⟨_, (pss_one (ps_ret (pe_cal c_many_in (hr.mono (by decide)) (pa_cons (pe_ix (ixT K) (pe_cal c_best_in (hr.mono (by decide)) (pa_cons (pe_cal c_need_fetch (hr.mono (by decide)) (pa_cons (pv 0) pa_nil)) pa_nil)) pe_int (fun _ _ => rfl)) pa_nil)))), ?_⟩
    refine ⟨_, rfl, v, F, rfl, hF, gF, fun H1 e1 => ?_⟩
    refine ⟨v, F, g, rfl, hF.same e1, gF, hg, fun u c H2 e2 hB hb G => ?_⟩
    obtain ⟨t, nb, pl, rfl, h1, h2, h3⟩ := hB
    have hrl := runs_len (bytesOf F.rs c) F.size
    have hro := runs_ok (bytesOf F.rs c) F.size
    exact ⟨t, _, _, _, rfl, rfl, SqT.of h1, atI_nat (j := 1) rfl, _, _, rfl, h3, hro.nrm.2, by omega, fun H3 e3 => q _ c H3 ((e1.trans e2).trans e3) rfl hb G⟩
theorem sc_best : FnScope ["fetch"] ["fetch"] (defScope s_best) := ⟨rfl, rfl, rfl, by decide +kernel, rfl, by decide +kernel, by decide +kernel⟩
abbrev spBest : Sp := spBestQ fun F c u H => ∃ a, u = .ref a ∧ H a = some (.tup (inum c))
theorem ok_best {f : Addr} {fd : FuncData} (T : Txt K mg) (c_need_fetch : Cal P w K mg base 4 "need_fetch" ["thing"] spNFetch) (c_best_in : Cal P w K mg base 6 "best_in" ["fetch"] spBestIn)
    (F : FnP K "best" s_best f fd) : FnOk P w K mg base CX0 7 f fd ["fetch"] spBest := by
  refine FnP.okP F sc_best (fun vs H Q E h => ?_) (fun cdv A outer s H vs Q E hr h => ?_)
  · obtain ⟨v, F, g, rfl, _⟩ := h
    rfl
  · obtain ⟨v, F, g, rfl, hF, gF, hg, q⟩ := h
    refine ⟨_, (pss_one (ps_ret (pe_callTy call_tuple_of (by rfl) T.tuple b_tuple (pa_cons (pe_ix (ixT K) (pe_cal c_best_in (hr.mono (by decide)) (pa_cons (pe_cal c_need_fetch (hr.mono (by decide)) (pa_cons (pv 0) pa_nil)) pa_nil)) pe_int (fun _ _ => rfl)) pa_nil)))), ?_⟩
    refine ⟨_, rfl, v, F, rfl, hF, gF, fun H1 e1 => ?_⟩
    refine ⟨v, F, g, rfl, hF.same e1, gF, hg, fun u c H2 e2 hB hb G => ?_⟩
    obtain ⟨t, nb, pl, rfl, h1, h2, h3⟩ := hB
    refine ⟨t, _, _, _, rfl, rfl, SqT.of h1, atI_nat (j := 0) rfl, nb, _, rfl, .inl ⟨SqL.of h2, fun l hl => ?_⟩⟩
    exact q _ c _ ((e1.trans e2).trans (Same.new hl)) ⟨l, rfl, upd_same⟩ hb G
theorem sc_missing : FnScope ["fetch"] ["fetch"] (defScope s_missing) := ⟨rfl, rfl, rfl, by decide +kernel, rfl, by decide +kernel, by decide +kernel⟩
abbrev spMissing : Sp := spBestQ fun F c u H => PairsT H u (runsL (fun k => !bytesOf F.rs c k) F.size)
theorem ok_missing {f : Addr} {fd : FuncData} (T : Txt K mg) (c_need_fetch : Cal P w K mg base 4 "need_fetch" ["thing"] spNFetch) (c_best_in : Cal P w K mg base 6 "best_in" ["fetch"] spBestIn) (c_gaps_between : Cal P w K mg base 1 "gaps_between" ["pairs", "size"] spGapsB)
    (F : FnP K "missing" s_missing f fd) : FnOk P w K mg base CX0 7 f fd ["fetch"] spMissing := by
  refine FnP.okP F sc_missing (fun vs H Q E h => ?_) (fun cdv A outer s H vs Q E hr h => ?_)
  · obtain ⟨v, F, g, rfl, _⟩ := h
    rfl
  · obtain ⟨v, F, g, rfl, hF, gF, hg, q⟩ := h
    have hs10 := gF.s2
    refine ⟨_, (pss_one (ps_ret (pe_callTy call_tuple_of (by rfl) T.tuple b_tuple (pa_cons (pe_cal c_gaps_between (hr.mono (by decide)) (pa_cons (pe_ix (ixT K) (pe_cal c_best_in (hr.mono (by decide)) (pa_cons (pe_cal c_need_fetch (hr.mono (by decide)) (pa_cons (pv 0) pa_nil)) pa_nil)) pe_int (fun _ _ => rfl)) (pa_cons (pe_ix (ixT K) (pv 0) pe_int (fun _ _ => rfl)) pa_nil))) pa_nil)))), ?_⟩
    refine ⟨_, rfl, v, F, rfl, hF, gF, fun H1 e1 => ?_⟩
    refine ⟨v, F, g, rfl, hF.same e1, gF, hg, fun u c H2 e2 hB hb G => ?_⟩
    obtain ⟨t, nb, pl, rfl, h1, h2, h3⟩ := hB
    have hrl := runs_len (bytesOf F.rs c) F.size
    obtain ⟨a, vh, vr, vc, rfl, ha, _⟩ := hF
    refine ⟨t, _, _, _, rfl, rfl, SqT.of h1, atI_nat (j := 1) rfl, _, rfl, a, _, _, _, rfl, rfl, SqT.of ((e1.trans e2) _ _ ha), atI_nat (j := 1) rfl, _, _, _, rfl, h3, by omega, fun d H3 e3 hd => ?_⟩
    rw [gaps_runs] at hd
    obtain ⟨l', ps, el, k1, k2⟩ := hd
    cases el
    refine ⟨d, _, rfl, .inl ⟨SqL.of k1, fun t ht => ?_⟩⟩
    have e6 := Same.new (o := .tup (ps.map V.ref)) ht
    exact q _ c _ (((e1.trans e2).trans e3).trans e6) ⟨t, ps, rfl, upd_same, pr_mono (fun _ _ z => e6 _ _ z) k2⟩ hb G
theorem sc_is_whole_kept : FnScope ["fetch"] ["fetch"] (defScope s_is_whole_kept) := ⟨rfl, rfl, rfl, by decide +kernel, rfl, by decide +kernel, by decide +kernel⟩
abbrev spIsWhole : Sp := spBestQ fun F c u H => u = .bl (decide (runsL (fun k => !bytesOf F.rs c k) F.size = []))
theorem ok_is_whole_kept {f : Addr} {fd : FuncData} (T : Txt K mg) (c_missing : Cal P w K mg base 7 "missing" ["fetch"] spMissing)
    (F : FnP K "is_whole" s_is_whole_kept f fd) : FnOk P w K mg base CX0 8 f fd ["fetch"] spIsWhole := by
  refine FnP.okP F sc_is_whole_kept (fun vs H Q E h => ?_) (fun cdv A outer s H vs Q E hr h => ?_)
  · obtain ⟨v, F, g, rfl, _⟩ := h
    rfl
  · obtain ⟨v, F, g, rfl, hF, gF, hg, q⟩ := h
    refine ⟨_, (pss_one (ps_ret (pe_cmpR (op_eqD hr.units) (pe_cal c_missing (hr.mono (by decide)) (pa_cons (pv 0) pa_nil)) (pe_tup pa_nil) (nomark _)))), ?_⟩
    refine ⟨_, rfl, v, F, g, rfl, hF, gF, hg, fun u c H2 e2 hB hb G => ?_⟩
    refine ⟨Nat.zero_le _, fun t ht => ?_⟩
    have e3 := Same.new (o := .tup []) ht
    refine ⟨_, .tuple (dPairs []), (hB.same e3).dp, .tup (SqT.of upd_same) .nil, (shp (lay_pairs _) (dep_pairs _) (by decide)).2, rfl, ?_⟩
    refine q _ c _ (e2.trans e3) ?_ hb G
    show V.bl (PyData.eqvAll _ _) = _
    rw [eqv_pairs]
end
end W24
set_option maxHeartbeats 4000000
/-! W13: the law's mixing, its state, its draws. -/
namespace W24
open PySem PySem.Spec PyProof.Rows L2
/-- the state -/
def stK (c l : Addr) (at_ : Nat) : List (Key × V) := [(Sum.inr "cells", .ref c), (Sum.inr "lefts", .ref l), (Sum.inr "at", .int (at_ : Int)), (Sum.inr "room", .int 0)]
theorem stK_cells (c l : Addr) (n : Nat) : valV (stK c l n) (Sum.inr "cells") = some (.ref c) := rfl
theorem stK_lefts (c l : Addr) (n : Nat) : valV (stK c l n) (Sum.inr "lefts") = some (.ref l) := rfl
theorem stK_at (c l : Addr) (n : Nat) : valV (stK c l n) (Sum.inr "at") = some (.int (n : Int)) := rfl
theorem stK_put (c l : Addr) (n m : Nat) : putK (stK c l n) (Sum.inr "at") (.int (m : Int)) = stK c l m := rfl
structure StH (H : Hp) (s c l : Addr) (B : Nat) : Prop where
  cl : c ≠ l
  at_ : ∃ (n : Nat) (cs ls : List Int), n ≤ B ∧ H s = some (.dK (stK c l n)) ∧ H c = some (.lst (cs.map V.int)) ∧ H l = some (.lst (ls.map V.int)) ∧ cs.length = ls.length ∧ 0 < cs.length ∧ ∀ x ∈ ls, 0 ≤ x
/-- all but the state's dict and its list of lefts stays -/
def Sb (s l : Addr) (H H' : Hp) : Prop := ∀ b o, b ≠ s → b ≠ l → H b = some o → H' b = some o
theorem Sb.refl (s l : Addr) (H : Hp) : Sb s l H H := fun _ _ _ _ h => h
theorem Sb.trans {s l : Addr} {H H1 H2 : Hp} (a : Sb s l H H1) (b : Sb s l H1 H2) : Sb s l H H2 := fun x o h1 h2 h => b x o h1 h2 (a x o h1 h2 h)
theorem Sb.of {s l : Addr} {H H' : Hp} (e : Same H H') : Sb s l H H' := fun x o _ _ h => e x o h
theorem StH.mono {H : Hp} {s c l : Addr} {B B' : Nat} (h : StH H s c l B) (hb : B ≤ B') : StH H s c l B' := by
  obtain ⟨h1, n, cs, ls, h2, h3⟩ := h
  exact ⟨h1, n, cs, ls, by omega, h3⟩
theorem StH.same {H H' : Hp} {s c l : Addr} {B : Nat} (h : StH H s c l B) (e : Same H H') : StH H' s c l B := by
  obtain ⟨h1, n, cs, ls, h2, h3, h4, h5, h6⟩ := h
  exact ⟨h1, n, cs, ls, h2, e _ _ h3, e _ _ h4, e _ _ h5, h6⟩
theorem StH.nes {H : Hp} {s c l b : Addr} {B : Nat} (h : StH H s c l B) {o : HO} (hb : H b = some o) (n1 : ∀ kvs, o ≠ .dK kvs) : b ≠ s := by
  obtain ⟨h1, n, cs, ls, h2, h3, h4, h5, h6⟩ := h
  exact ne_of hb h3 (n1 _)
theorem StH.nel {H : Hp} {s c l b : Addr} {B : Nat} (h : StH H s c l B) {o : HO} (hb : H b = some o) (n1 : ∀ xs, o ≠ .lst xs) : b ≠ l := by
  obtain ⟨h1, n, cs, ls, h2, h3, h4, h5, h6⟩ := h
  exact ne_of hb h5 (n1 _)
theorem StH.ne0s {H : Hp} {s c l b : Addr} {B : Nat} (h : StH H s c l B) (hb : H b = none) : b ≠ s ∧ b ≠ l := by
  obtain ⟨h1, n, cs, ls, h2, h3, h4, h5, h6⟩ := h
  exact ⟨fun z => (by rw [z, h3] at hb; cases hb), fun z => (by rw [z, h5] at hb; cases hb)⟩
theorem Sb.tup {s c l : Addr} {B : Nat} {H H' : Hp} (e : Sb s l H H') (h : StH H s c l B) {b : Addr} {xs : List V} (hb : H b = some (.tup xs)) : H' b = some (.tup xs) := e b _ (h.nes hb (by intro z; exact nofun)) (h.nel hb (by intro z; exact nofun)) hb
theorem Sb.frz {s c l : Addr} {B : Nat} {H H' : Hp} (e : Sb s l H H') (h : StH H s c l B) {b : Addr} {o : Obj} {u : HO} (hb : H b = some (.frz o u)) : H' b = some (.frz o u) := e b _ (h.nes hb (by intro z; exact nofun)) (h.nel hb (by intro z; exact nofun)) hb
theorem Sb.house {s c l : Addr} {B : Nat} {H H' : Hp} (e : Sb s l H H') (h : StH H s c l B) {v : V} {hs : House} (x : HouseAt H v hs) : HouseAt H' v hs := by
  obtain ⟨a, o, ps, ev, h1, h2, h3⟩ := x
  exact ⟨a, o, ps, ev, e.frz h h1, h2, pr_mono (fun _ _ q => e.tup h q) h3⟩
section
variable {P : Program} {w : World} {K : PySem.W.Frag} {mg : Str → Option Value} {base : Heap}
theorem sc_law_mixed : FnScope ["cell", "k"] ["cell", "k"] (defScope s_law_mixed) := ⟨rfl, rfl, rfl, by decide +kernel, rfl, by decide +kernel, by decide +kernel⟩
def spMixed : Sp := fun vs H Q _ => ∃ (x : Int) (k : Nat), vs = [.int x, .int (k : Int)] ∧ k ≤ 6000 ∧ ∀ r : Nat, r < 2147483647 → Q (.int (r : Int)) H
theorem ok_law_mixed {f : Addr} {fd : FuncData} (T : Txt K mg) (F : FnP K "_law_mixed" s_law_mixed f fd) : FnOk P w K mg base CX0 1 f fd ["cell", "k"] spMixed := by
  refine FnP.okP F sc_law_mixed (fun vs H Q E h => ?_) (fun cdv A outer s H vs Q E hr h => ?_)
  · obtain ⟨x, k, rfl, _⟩ := h
    rfl
  · obtain ⟨x, k, rfl, hk, q⟩ := h
    refine ⟨_, (pss_cons (ps_set (i := 0) sc_law_mixed.nd rfl (by first | exact Or.inl rfl | exact Or.inr rfl) (pe_op op_mod (pe_callTy call_int1 (by rfl) T.int b_int (pa_cons (pv 0) pa_nil)) pe_int))
      (pss_one (ps_ret (pe_op op_mod (pe_op op_mul (pe_op op_mod (pe_op op_add (pe_op op_add (pe_op op_mul (pv 0) (pe_op op_add pe_int (pe_op op_mul (pe_op op_mul pe_int (pv 1)) (pv 1)))) (pe_op op_mul pe_int (pv 1))) pe_int) pe_int) pe_int) pe_int)))), ?_⟩
    refine ⟨_, rfl, .inl ⟨_, rfl, _, _, rfl, rfl, (by show (0 : Int) < 2147483647; decide), ?_⟩⟩
    have p64 : (2 : Int) ^ 64 = 18446744073709551616 := by decide
    have hk1 : (k : Int) ≤ 6000 := by omega
    refine ⟨_, rfl, _, rfl, _, _, rfl, rfl, .inl ⟨by rw [p64]; decide, by rw [p64]; decide⟩, _, rfl, _, _, rfl, rfl, .inr ⟨by rw [p64]; omega, by rw [p64]; omega⟩, _, _, rfl, rfl, ?_⟩
    refine ⟨_, _, rfl, rfl, .inl ⟨by rw [p64]; omega, by rw [p64]; omega⟩, _, rfl, _, _, rfl, rfl, .inl ⟨by rw [p64]; decide, by rw [p64]; decide⟩, _, _, rfl, rfl, _, _, rfl, rfl, ?_⟩
    refine ⟨_, _, rfl, rfl, (by show (0 : Int) < 2147483647; decide), ?_⟩
    refine ⟨_, _, rfl, rfl, .inr ⟨by rw [p64]; decide, by rw [p64]; decide⟩, _, _, rfl, rfl, (by show (0 : Int) < 2147483629; decide), ?_⟩
    show Q (V.int ((((x % 2147483647) * (48271 + 2 * (k : Int) * (k : Int)) + 69621 * (k : Int) + 11) % 2147483647 * 69621) % 2147483629)) H
    generalize (((x % 2147483647) * (48271 + 2 * (k : Int) * (k : Int)) + 69621 * (k : Int) + 11) % 2147483647 * 69621) = u
    have h1 := Int.emod_nonneg u (b := 2147483629) (by decide)
    have h2 := Int.emod_lt_of_pos u (b := 2147483629) (by decide)
    generalize u % 2147483629 = r at h1 h2 ⊢
    have := q r.toNat (by omega)
    rw [Int.toNat_of_nonneg h1] at this
    exact this
theorem sc_law_begin : FnScope ["script", "cells", "cell"] ["script"] (defScope s_law_begin) := ⟨rfl, rfl, rfl, by decide +kernel, rfl, by decide +kernel, by decide +kernel⟩
def spBegin (K : PySem.W.Frag) : Sp := fun vs H Q _ => ∃ (a : Addr) (ns : List Int), vs = [.ref a] ∧ SqL K H a (ns.map V.int) ∧ ns.length ≤ 1000 ∧ ∀ s c l H', Same H H' → StH H' s c l 0 → H s = none → H l = none → Q (.ref s) H'
theorem dp_ints {K : PySem.W.Frag} {H : Hp} (ns : List Int) : DpAll K H (ns.map V.int) (ns.map PyData.int) := by
  induction ns with
  | nil => exact .nil
  | cons a l ih => exact .cons (.int _) ih
theorem ok_law_begin {f : Addr} {fd : FuncData} (T : Txt K mg) (F : FnP K "_law_begin" s_law_begin f fd) : FnOk P w K mg base CX0 1 f fd ["script"] (spBegin K) := by
  refine FnP.okP F sc_law_begin (fun vs H Q E h => ?_) (fun cdv A outer s H vs Q E hr h => ?_)
  · obtain ⟨a, ns, rfl, _⟩ := h
    rfl
  · obtain ⟨a, ns, rfl, ha, hl, q⟩ := h
    refine ⟨_, (pss_cons (ps_set (i := 1) sc_law_begin.nd rfl (by first | exact Or.inl rfl | exact Or.inr rfl) (pe_ifExp (pt_cmpR (op_neD hr.units) (pv 0) (pe_lst pa_nil) (nomark _)) (pe_callTy call_list_of (by rfl) T.list b_list (pa_cons (pv 0) pa_nil)) (pe_lst (pa_cons pe_int pa_nil))))
      (pss_one (ps_ret (pe_disp (pps_cons pe_str (pv 1) (pps_cons pe_str (pe_lc (own := [("cell", 2)]) (g := gName 2) (tt := tYes) rfl sc_law_begin.nd (piL K (pv 1)) (blkOk_by (own := [("cell", 2)]) (N := ["script", "cells", "cell"]) (sc := (defScope s_law_begin)) (by decide +kernel)) (fun _ _ _ _ _ => (pg_name (i := 2) sc_law_begin.nd rfl (by first | exact Or.inl rfl | exact Or.inr rfl) (by first | exact Or.inl rfl | exact Or.inr rfl))) (fun _ _ _ _ _ => pts_nil) (fun _ _ _ _ _ => (pe_ifExp (pt_cmpR op_ge (pv 2) (pe_op op_pow pe_int pe_int) (nomark _)) (pv 2) pe_int))) (pps_cons pe_str pe_int (pps_cons pe_str pe_int pps_nil)))) rfl rfl (fun h => by cases h) (by decide))))), ?_⟩
    have cont : ∀ (c : Addr) (cs : List Int) (H1 : Hp), Same H H1 → H c = none → H1 c = some (.lst (cs.map V.int)) → 0 < cs.length → cs.length ≤ 1000 → ∀ x2,
        tRet (tDisp [(tC (.str "cells"), tVar 1), (tC (.str "lefts"), tLc (iList K (tVar 1)) (gName 2) tYes (tIf (tTest (tOp (rI0 fun i j => .bl (decide (j ≤ i))) (tVar 2) (tOp (rI CPow fun i j => .int (i ^ j.toNat)) (tC (.int 10)) (tC (.int 18))))) (tVar 2) (tC (.int 0))) [2]), (tC (.str "at"), tC (.int 0)), (tC (.str "room"), tC (.int 0))])
          { nx := fun _ H' => Q .non H', rt := Q } [some (.ref a), some (.ref c), x2] H1 := fun c cs H1 e1 hc0 hc hpos hcl x2 => by
      intro s hs
      have e2 := Same.new (o := .dK []) hs
      refine ⟨_, rfl, _, rfl, c, rfl, ⟨_, SqL.of (e2 _ _ hc)⟩, fun D hD => ?_⟩
      refine lc_it (walk_list (xs := cs.map V.int)) (Cv _ D fun i => .int (if (10 : Int) ^ 18 ≤ cs.getD i 0 then cs.getD i 0 else 0)) (cv0 hD) (fun i H2 _ p => SqL.of (p.2.1 _ _ (e2 _ _ hc))) (fun i x H2 H3 hi p y => ?_) (fun H2 p => ?_)
      · obtain ⟨rfl, hx⟩ := y
        rw [List.length_map] at hi
        rw [List.getElem?_map, List.getElem?_eq_getElem hi] at hx
        cases hx
        have hg : cs.getD i 0 = cs[i] := by rw [List.getD, List.getElem?_eq_getElem hi]; rfl
        refine ⟨rfl, _, rfl, _, _, rfl, rfl, ⟨by decide, by decide, by decide⟩, _, _, rfl, rfl, decide ((10 : Int) ^ 18 ≤ cs[i]), rfl, ?_⟩
        by_cases z : (10 : Int) ^ 18 ≤ cs[i]
        · rw [decide_eq_true z]
          exact iteT ⟨_, rfl, cv_step p (Same.refl _) (by omega) (by rw [hg, if_pos z])⟩
        · rw [decide_eq_false z]
          exact iteF (cv_step p (Same.refl _) (by omega) (by rw [hg, if_neg z]))
      · obtain ⟨p1, p2, p3⟩ := p
        have e3 := e2.trans p2
        have hsD : H2 s = some (.dK []) := p2 _ _ upd_same
        refine ⟨hsD, stK c D 0, rfl, by show 4 ≤ 15; decide, ?_⟩
        have hD0 : H1 D = none := Same.free e2 p1
        refine q s c D _ (Same.mut (e1.trans e3) (Same.free e1 hs)) ⟨ne_of_none (e2 _ _ hc) p1, 0, cs, (List.range cs.length).map fun i => if (10 : Int) ^ 18 ≤ cs.getD i 0 then cs.getD i 0 else 0, Nat.le_refl _, ?_, ?_, ?_, by simp, hpos, fun x hx => ?_⟩ (Same.free e1 hs) (Same.free e1 hD0)
        · rw [upd_same]
          rfl
        · rw [upd_ne (ne_of_none hc hs)]
          exact e3 _ _ hc
        · rw [upd_ne (fun z => by rw [z, hsD] at p3; cases p3), p3, List.length_map, List.map_map]
          rfl
        · obtain ⟨i, _, rfl⟩ := List.mem_map.mp hx
          split
          · rename_i z
            exact Int.le_trans (by decide) z
          · exact Int.le_refl _
    refine ⟨_, rfl, Nat.zero_le _, fun l0 hl0 => ?_⟩
    have e0 := Same.new (o := .lst []) hl0
    refine ⟨.list (ns.map PyData.int), .list [], .lst (e0.seq ha) (dp_ints ns), .lst (SqL.of upd_same) .nil, (shp (lay_map _ (fun _ => rfl) ns) (dep_map (fun i : Int => PyData.int i) (n := 0) (fun _ => Nat.le_refl 0) ns) (by decide)).1, rfl, ?_⟩
    show ∃ kk, V.bl (!PyData.eqvAll (ns.map PyData.int) []) = V.bl kk ∧ _
    rw [eqv_nil]
    cases ns with
    | nil =>
      refine ⟨false, rfl, iteF ⟨by show 1 ≤ sizeLine; decide, fun l1 hl1 => ?_⟩⟩
      exact cont l1 [0] _ (e0.trans (Same.new hl1)) (Same.free e0 hl1) upd_same (by decide) (by decide) _
    | cons n ns =>
      refine ⟨true, rfl, iteT ⟨_, rfl, a, _, rfl, .inl (e0.seq ha), fun l1 hl1 => ?_⟩⟩
      exact cont l1 (n :: ns) _ (e0.trans (Same.new hl1)) (Same.free e0 hl1) upd_same (by simp) hl _
end
end W24
set_option maxHeartbeats 4000000
/-! W14: a draw; a house, a read, a test. -/
namespace W24
open PySem PySem.Spec PyProof.Rows L2
theorem ixN_nat' {n j : Nat} (h : j < n) : ixN n (j : Int) = some j := by
  unfold ixN
  rw [if_pos (by omega), if_pos (by omega)]
  rfl
section
variable {P : Program} {w : World} {K : PySem.W.Frag} {mg : Str → Option Value} {base : Heap}
theorem sc_law_draw : FnScope ["state", "many", "at", "place", "left", "number"] ["state", "many"] (defScope s_law_draw) := ⟨rfl, rfl, rfl, by decide +kernel, rfl, by decide +kernel, by decide +kernel⟩
def spDraw : Sp := fun vs H Q _ => ∃ (s c l : Addr) (B many : Nat), vs = [.ref s, .int (many : Int)] ∧ StH H s c l B ∧ B ≤ 5000 ∧ 1 ≤ many ∧ many ≤ 1000 ∧ ∀ (r : Nat) H', r < many → StH H' s c l (B + 1) → Sb s l H H' → Q (.int (r : Int)) H'
theorem mod_nat {a : Int} {m : Nat} (h : 1 ≤ m) : ∃ r : Nat, r < m ∧ a % (m : Int) = (r : Int) := by
  have h1 := Int.emod_nonneg a (b := (m : Int)) (by omega)
  have h2 := Int.emod_lt_of_pos a (b := (m : Int)) (by omega)
  exact ⟨(a % (m : Int)).toNat, by omega, (Int.toNat_of_nonneg h1).symm⟩
theorem div_ok {m : Nat} (h1 : 1 ≤ m) (h2 : m ≤ 1000) (i : Int) : CDivW i (m : Int) := wide_div (b := 10) (by omega) (by rw [Int.natAbs_natCast]; exact Nat.lt_of_le_of_lt h2 (by decide)) (by decide) (by decide)
theorem ok_law_draw {f : Addr} {fd : FuncData} (T : Txt K mg) (c_law_mixed : Cal P w K mg base 1 "_law_mixed" ["cell", "k"] spMixed)
    (F : FnP K "_law_draw" s_law_draw f fd) : FnOk P w K mg base CX0 2 f fd ["state", "many"] spDraw := by
  refine FnP.okP F sc_law_draw (fun vs H Q E h => ?_) (fun cdv A outer s H vs Q E hr h => ?_)
  · obtain ⟨s, c, l, B, many, rfl, _⟩ := h
    rfl
  · obtain ⟨s, c, l, B, many, rfl, ⟨hcl, n, cs, ls, hnB, hs, hc, hl, hlen, hpos, hls⟩, hB, hm1, hm2, q⟩ := h
    have hu := hu_of hr
    refine ⟨_, (pss_cons (ps_set (i := 2) sc_law_draw.nd rfl (by first | exact Or.inl rfl | exact Or.inr rfl) (pe_dget hu (pv 0) pe_str (fun _ _ => rfl)))
      (pss_cons (ps_dput hu (pv 0) pe_str (pe_op op_add (pv 2) pe_int) rfl)
      (pss_cons (ps_set (i := 3) sc_law_draw.nd rfl (by first | exact Or.inl rfl | exact Or.inr rfl) (pe_op op_mod (pe_callTy call_int1 (by rfl) T.int b_int (pa_cons (pv 2) pa_nil)) (pe_callB (lenQ K) (by rfl) T.len b_len (pa_cons (pe_dget hu (pv 0) pe_str (fun _ _ => rfl)) pa_nil))))
      (pss_cons (ps_set (i := 4) sc_law_draw.nd rfl (by first | exact Or.inl rfl | exact Or.inr rfl) (pe_ix (ixL K) (pe_dget hu (pv 0) pe_str (fun _ _ => rfl)) (pv 3) (fun _ _ => rfl)))
      (pss_cons (ps_if (pt_cmpR op_gt (pv 4) pe_int (nomark _)) (pss_cons (ps_asg (pe_op op_fdivW (pv 4) (pv 1)) (pg_sub (pe_dget hu (pv 0) pe_str (fun _ _ => rfl)) (pv 3) set_list))
      (pss_one (ps_ret (pe_op op_mod (pe_callTy call_int1 (by rfl) T.int b_int (pa_cons (pv 4) pa_nil)) (pv 1))))) pss_nil)
      (pss_cons (ps_set (i := 5) sc_law_draw.nd rfl (by first | exact Or.inl rfl | exact Or.inr rfl) (pe_cal c_law_mixed (hr.mono (by decide)) (pa_cons (pe_cal c_law_mixed (hr.mono (by decide)) (pa_cons (pe_ix (ixL K) (pe_dget hu (pv 0) pe_str (fun _ _ => rfl)) (pv 3) (fun _ _ => rfl)) (pa_cons (pv 2) pa_nil))) (pa_cons (pe_op op_add pe_int (pv 2)) pa_nil))))
      (pss_one (ps_ret (pe_op op_mod (pe_op op_fdivW (pe_callTy call_int1 (by rfl) T.int b_int (pa_cons (pe_op op_add (pe_op op_mul (pv 5) pe_int) (pe_cal c_law_mixed (hr.mono (by decide)) (pa_cons (pv 5) (pa_cons (pe_op op_add pe_int (pv 2)) pa_nil)))) pa_nil)) pe_int) (pv 1)))))))))), ?_⟩
    have g1 := DGet.k (k := Sum.inr "at") hs
    refine ⟨_, rfl, s, _, rfl, g1, ?_⟩
    refine ⟨_, rfl, _, _, rfl, rfl, _, rfl, s, _, rfl, DPut.k (k := Sum.inr "at") hs (by show 4 < sizeLine; decide), ?_⟩
    have hs1 : (upd H s (.dK (putK (stK c l n) (Sum.inr "at") (.int ((n : Int) + 1))))) s = some (.dK (stK c l (n + 1))) := upd_same
    have hc1 : (upd H s (.dK (putK (stK c l n) (Sum.inr "at") (.int ((n : Int) + 1))))) c = some (.lst (cs.map V.int)) := by
      rw [upd_ne (ne_of hc hs (by intro z; cases z))]; exact hc
    have hl1 : (upd H s (.dK (putK (stK c l n) (Sum.inr "at") (.int ((n : Int) + 1))))) l = some (.lst (ls.map V.int)) := by
      rw [upd_ne (ne_of hl hs (by intro z; cases z))]; exact hl
    have sb1 : Sb s l H (upd H s (.dK (putK (stK c l n) (Sum.inr "at") (.int ((n : Int) + 1))))) := fun b o h1 h2 hb => by rw [upd_ne h1]; exact hb
    generalize upd H s (.dK (putK (stK c l n) (Sum.inr "at") (.int ((n : Int) + 1)))) = H1 at hs1 hc1 hl1 sb1 ⊢
    have gc := DGet.k (k := Sum.inr "cells") hs1
    have gl := DGet.k (k := Sum.inr "lefts") hs1
    obtain ⟨j, hj, ej⟩ := mod_nat (a := (n : Int)) (m := cs.length) (by omega)
    refine ⟨_, rfl, .inl ⟨_, rfl, _, rfl, s, _, rfl, gc, c, _, rfl, .inl (SqL.of hc1), _, _, rfl, rfl, (by show (0 : Int) < _; rw [List.length_map]; omega), ?_⟩⟩
    rw [List.length_map]
    show tSeq _ _ _ ((([some (.ref s), some (.int (many : Int)), some (.int (n : Int)), none, none, none] : L2.St)).set 3 (some (.int ((n : Int) % (cs.length : Int))))) H1
    rw [ej]
    have hlj : j < ls.length := by omega
    have hl0 := hls _ (List.getElem_mem hlj)
    refine ⟨_, rfl, s, _, rfl, gl, _, rfl, l, _, _, _, rfl, rfl, SqL.of hl1, atI_nat (by rw [List.getElem?_map, List.getElem?_eq_getElem hlj]; rfl), ?_⟩
    refine ⟨_, rfl, _, _, rfl, rfl, decide (0 < ls[j]), rfl, ?_⟩
    by_cases hp : 0 < ls[j]
    · rw [decide_eq_true hp]
      refine iteT ⟨_, rfl, _, rfl, _, _, rfl, rfl, div_ok hm1 hm2 _, ?_⟩
      refine ⟨_, rfl, s, _, rfl, gl, _, rfl, l, _, _, j, rfl, rfl, hl1, by rw [List.length_map]; exact ixN_nat' hlj, ?_⟩
      obtain ⟨r, hr1, er⟩ := mod_nat (a := ls[j]) (m := many) hm1
      refine ⟨_, rfl, .inl ⟨_, rfl, _, rfl, _, _, rfl, rfl, (by show (0 : Int) < _; omega), ?_⟩⟩
      show Q (.int (ls[j] % (many : Int))) _
      rw [er]
      refine q r _ hr1 ⟨hcl, n + 1, cs, ls.set j (ls[j] / (many : Int)), by omega, ?_, ?_, ?_, by rw [List.length_set]; exact hlen, hpos, fun x hx => ?_⟩ fun b o h1 h2 hb => ?_
      · rw [upd_ne (ne_of hs1 hl1 (by intro z; cases z))]; exact hs1
      · rw [upd_ne hcl]; exact hc1
      · rw [upd_same, List.map_set]
      · rcases List.mem_or_eq_of_mem_set hx with h | h
        · exact hls x h
        · rw [h]
          exact Int.ediv_nonneg hl0 (by omega)
      · rw [upd_ne h2]
        exact sb1 b o h1 h2 hb
    · rw [decide_eq_false hp]
      refine iteF ?_
      have hcj : cs[j]? = some (cs[j]'(by omega)) := List.getElem?_eq_getElem _
      generalize cs[j]'(by omega) = x at hcj
      refine ⟨_, rfl, s, _, rfl, gc, _, rfl, c, _, _, _, rfl, rfl, SqL.of hc1, atI_nat (by rw [List.getElem?_map, hcj]; rfl), _, rfl, x, n, rfl, by omega, fun r1 hr1 => ?_⟩
      refine ⟨_, rfl, _, _, rfl, rfl, (r1 : Int), 40 + n, by rfl, by omega, fun r2 hr2 => ?_⟩
      have p64 : (2 : Int) ^ 64 = 18446744073709551616 := by decide
      refine ⟨_, rfl, _, _, rfl, rfl, .inr ⟨by rw [p64]; decide, by rw [p64]; decide⟩, _, rfl, _, rfl, _, _, rfl, rfl, (r2 : Int), 7 + n, by rfl, by omega, fun r3 hr3 => ?_⟩
      refine ⟨_, _, rfl, rfl, .inl ⟨_, rfl, _, _, rfl, rfl, div_ok (m := 64) (by decide) (by decide) _, _, rfl, _, _, rfl, rfl, (by show (0 : Int) < _; omega), ?_⟩⟩
      obtain ⟨r, hr1', er⟩ := mod_nat (a := ((r2 : Int) * 2147483647 + (r3 : Int)) / 64) (m := many) hm1
      show Q (.int (((r2 : Int) * 2147483647 + (r3 : Int)) / 64 % (many : Int))) _
      rw [er]
      exact q r _ hr1' ⟨hcl, n + 1, cs, ls, by omega, hs1, hc1, hl1, hlen, hpos, hls⟩ sb1
theorem sc_law_house : FnScope ["state", "some"] ["state"] (defScope s_law_house) := ⟨rfl, rfl, rfl, by decide +kernel, rfl, by decide +kernel, by decide +kernel⟩
def spHouse : Sp := fun vs H Q _ => ∃ (s c l : Addr) (B : Nat), vs = [.ref s] ∧ StH H s c l B ∧ B ≤ 4999 ∧ ∀ (v : V) (h : House) H', h ∈ H4 → HouseAt H' v h → StH H' s c l (B + 1) → Sb s l H H' → Q v H'
theorem ok_law_house {f : Addr} {fd : FuncData} (T : Txt K mg) (c_law_draw : Cal P w K mg base 2 "_law_draw" ["state", "many"] spDraw)
    (F : FnP K "_law_house" s_law_house f fd) : FnOk P w K mg base CX0 3 f fd ["state"] spHouse := by
  refine FnP.okP F sc_law_house (fun vs H Q E h => ?_) (fun cdv A outer s H vs Q E hr h => ?_)
  · obtain ⟨s, c, l, B, rfl, _⟩ := h
    rfl
  · obtain ⟨s, c, l, B, rfl, S, hB, q⟩ := h
    refine ⟨_, (pss_cons (ps_set (i := 1) sc_law_house.nd rfl (by first | exact Or.inl rfl | exact Or.inr rfl) (pe_lst (pa_cons (pe_tupF (pa_cons (pe_tup (pa_cons pe_str (pa_cons pe_non pa_nil))) pa_nil)) (pa_cons (pe_tupF (pa_cons (pe_tup (pa_cons pe_str (pa_cons pe_non pa_nil))) (pa_cons (pe_tup (pa_cons pe_str (pa_cons pe_non pa_nil))) pa_nil))) (pa_cons (pe_tupF (pa_cons (pe_tup (pa_cons pe_str (pa_cons pe_non pa_nil))) (pa_cons (pe_tup (pa_cons pe_str (pa_cons pe_str pa_nil))) pa_nil))) pa_nil)))))
      (pss_one (ps_ret (pe_ix (ixL K) (pe_op op_cat (pv 1) (pe_lst (pa_cons (pe_tupF (pa_cons (pe_tup (pa_cons pe_str (pa_cons pe_str pa_nil))) (pa_cons (pe_tup (pa_cons pe_str (pa_cons pe_non pa_nil))) (pa_cons (pe_tup (pa_cons pe_str (pa_cons pe_str pa_nil))) pa_nil)))) pa_nil))) (pe_cal c_law_draw (hr.mono (by decide)) (pa_cons (pv 0) (pa_cons pe_int pa_nil))) (fun _ _ => rfl))))), ?_⟩
    refine ⟨by show 2 ≤ sizeLine; decide, fun p1 n1 => ⟨by show 1 ≤ sizeLine; decide, fun a1 o1 m1 d1 => ?_⟩⟩
    refine ⟨by show 2 ≤ sizeLine; decide, fun p2 n2 => ⟨by show 2 ≤ sizeLine; decide, fun p3 n3 => ⟨by show 2 ≤ sizeLine; decide, fun a2 o2 m2 d2 => ?_⟩⟩⟩
    refine ⟨by show 2 ≤ sizeLine; decide, fun p4 n4 => ⟨by show 2 ≤ sizeLine; decide, fun p5 n5 => ⟨by show 2 ≤ sizeLine; decide, fun a3 o3 m3 d3 => ?_⟩⟩⟩
    refine ⟨by show 3 ≤ sizeLine; decide, fun l1 n6 => ?_⟩
    refine ⟨_, rfl, ?_⟩
    refine ⟨by show 2 ≤ sizeLine; decide, fun p6 n7 => ⟨by show 2 ≤ sizeLine; decide, fun p7 n8 => ⟨by show 2 ≤ sizeLine; decide, fun p8 n9 => ⟨by show 3 ≤ sizeLine; decide, fun a4 o4 m4 d4 => ⟨by show 1 ≤ sizeLine; decide, fun l2 m5 => ?_⟩⟩⟩⟩⟩
    have e1 := Same.new (o := .tup [.str "a", .non]) n1
    have f1 := Same.new (o := .frz o1 (.tup [.ref p1])) m1
    have e2 := Same.new (o := .tup [.str "a", .non]) n2
    have e3 := Same.new (o := .tup [.str "b", .non]) n3
    have f2 := Same.new (o := .frz o2 (.tup [.ref p2, .ref p3])) m2
    have e4 := Same.new (o := .tup [.str "a", .non]) n4
    have e5 := Same.new (o := .tup [.str "b", .str "a"]) n5
    have f3 := Same.new (o := .frz o3 (.tup [.ref p4, .ref p5])) m3
    have e6 := Same.new (o := .lst [.ref a1, .ref a2, .ref a3]) n6
    have e7 := Same.new (o := .tup [.str "a", .str "b"]) n7
    have e8 := Same.new (o := .tup [.str "b", .non]) n8
    have e9 := Same.new (o := .tup [.str "c", .str "a"]) n9
    have f4 := Same.new (o := .frz o4 (.tup [.ref p6, .ref p7, .ref p8])) m4
    have f5 := Same.new (o := .lst [.ref a4]) m5
    have t9 := f4.trans f5
    have t8 := e9.trans t9
    have t7 := e8.trans t8
    have t6 := e7.trans t7
    have t5 := e6.trans t6
    have t4 := f3.trans t5
    have t3 := e5.trans t4
    have t2 := e4.trans t3
    have t1 := f2.trans t2
    have t0 := e3.trans t1
    have s9 := e2.trans t0
    have s8 := f1.trans s9
    have s7 := e1.trans s8
    have h1 := t6 _ _ (upd_same (a := l1) (o := .lst [.ref a1, .ref a2, .ref a3]))
    have k1 := s8 _ _ (upd_same (a := p1) (o := .tup [.str "a", .non]))
    have j1 := s9 _ _ (upd_same (a := a1) (o := .frz o1 (.tup [.ref p1])))
    have k2 := t0 _ _ (upd_same (a := p2) (o := .tup [.str "a", .non]))
    have k3 := t1 _ _ (upd_same (a := p3) (o := .tup [.str "b", .non]))
    have j2 := t2 _ _ (upd_same (a := a2) (o := .frz o2 (.tup [.ref p2, .ref p3])))
    have k4 := t3 _ _ (upd_same (a := p4) (o := .tup [.str "a", .non]))
    have k5 := t4 _ _ (upd_same (a := p5) (o := .tup [.str "b", .str "a"]))
    have j3 := t5 _ _ (upd_same (a := a3) (o := .frz o3 (.tup [.ref p4, .ref p5])))
    have k6 := t7 _ _ (upd_same (a := p6) (o := .tup [.str "a", .str "b"]))
    have k7 := t8 _ _ (upd_same (a := p7) (o := .tup [.str "b", .non]))
    have k8 := t9 _ _ (upd_same (a := p8) (o := .tup [.str "c", .str "a"]))
    have j4 := f5 _ _ (upd_same (a := a4) (o := .frz o4 (.tup [.ref p6, .ref p7, .ref p8])))
    refine ⟨l1, l2, _, _, rfl, rfl, h1, upd_same, by show 4 ≤ sizeLine; decide, fun l3 m6 => ?_⟩
    have f6 := Same.new (o := .lst ([.ref a1, .ref a2, .ref a3] ++ [.ref a4])) m6
    have x1 : HouseAt _ (.ref a1) [("a", none)] := ⟨a1, o1, [p1], rfl, f6 _ _ j1, d1, .cons (f6 _ _ k1) .nil⟩
    have x2 : HouseAt _ (.ref a2) [("a", none), ("b", none)] := ⟨a2, o2, [p2, p3], rfl, f6 _ _ j2, d2, .cons (f6 _ _ k2) (.cons (f6 _ _ k3) .nil)⟩
    have x3 : HouseAt _ (.ref a3) [("a", none), ("b", some "a")] := ⟨a3, o3, [p4, p5], rfl, f6 _ _ j3, d3, .cons (f6 _ _ k4) (.cons (f6 _ _ k5) .nil)⟩
    have x4 : HouseAt _ (.ref a4) [("a", some "b"), ("b", none), ("c", some "a")] := ⟨a4, o4, [p6, p7, p8], rfl, f6 _ _ j4, d4, .cons (f6 _ _ k6) (.cons (f6 _ _ k7) (.cons (f6 _ _ k8) .nil))⟩
    have tt := s7.trans f6
    have S2 := S.same tt
    have ne3 : l3 ≠ s ∧ l3 ≠ l := (S.same s7).ne0s m6
    refine ⟨_, rfl, s, c, l, B, 4, rfl, S2, by omega, by decide, by decide, fun r H2 hr S3 sb => ?_⟩
    have fin : ∀ (i : Nat) (a : Addr) (h : House), ([V.ref a1, .ref a2, .ref a3] ++ [V.ref a4])[i]? = some (.ref a) → h ∈ H4 → HouseAt _ (.ref a) h → r = i → ∃ p xs i v, V.ref l3 = V.ref p ∧ V.int (r : Int) = V.int i ∧ SqL K H2 p xs ∧ atI xs i = some v ∧ Q v H2 := fun i a h hi hm hh er => by
      subst er
      exact ⟨l3, _, _, .ref a, rfl, rfl, SqL.of (sb l3 _ ne3.1 ne3.2 upd_same), atI_nat hi, q _ h H2 hm (sb.house S2 hh) S3 ((Sb.of tt).trans sb)⟩
    match r, hr with
    | 0, _ => exact fin 0 a1 _ rfl (by decide) x1 rfl
    | 1, _ => exact fin 1 a2 _ rfl (by decide) x2 rfl
    | 2, _ => exact fin 2 a3 _ rfl (by decide) x3 rfl
    | 3, _ => exact fin 3 a4 _ rfl (by decide) x4 rfl
    | r + 4, h => omega
theorem sc_law_read : FnScope ["state", "house", "size", "begin", "start", "place"] ["state", "house", "size"] (defScope s_law_read) := ⟨rfl, rfl, rfl, by decide +kernel, rfl, by decide +kernel, by decide +kernel⟩
def spLRead : Sp := fun vs H Q _ => ∃ (s c l : Addr) (B : Nat) (vh : V) (h : House) (size : Nat), vs = [.ref s, vh, .int (size : Int)] ∧ StH H s c l B ∧ B ≤ 4990 ∧ HouseAt H vh h ∧ h ∈ H4 ∧ 1 ≤ size ∧ size ≤ 10 ∧ ∀ (p : Addr) (r : Rd5) H', H' p = some (.tup (rdV r)) → GoodR h size r → StH H' s c l (B + 5) → Sb s l H H' → Q (.ref p) H'
theorem ok_law_read {f : Addr} {fd : FuncData} (T : Txt K mg) (c_law_draw : Cal P w K mg base 2 "_law_draw" ["state", "many"] spDraw)
    (F : FnP K "_law_read" s_law_read f fd) : FnOk P w K mg base CX0 3 f fd ["state", "house", "size"] spLRead := by
  refine FnP.okP F sc_law_read (fun vs H Q E h => ?_) (fun cdv A outer s H vs Q E hr h => ?_)
  · obtain ⟨s, c, l, B, vh, h, size, rfl, _⟩ := h
    rfl
  · obtain ⟨s, c, l, B, vh, h, size, rfl, S, hB, hh, hm, hs1, hs2, q⟩ := h
    have U := hou_facts hm
    have U1 := U.pos
    have U2 := U.few
    refine ⟨_, (pss_cons (ps_par (i := 3) (j := 4) rfl sc_law_read.nd rfl rfl (by decide) rfl rfl (pa_cons (pe_cal c_law_draw (hr.mono (by decide)) (pa_cons (pv 0) (pa_cons pe_int pa_nil))) (pa_cons (pe_cal c_law_draw (hr.mono (by decide)) (pa_cons (pv 0) (pa_cons (pv 2) pa_nil))) pa_nil)) (by rfl))
      (pss_cons (ps_set (i := 5) sc_law_read.nd rfl (by first | exact Or.inl rfl | exact Or.inr rfl) (pe_ix (ixT K) (pe_ix (ixT K) (pv 1) (pe_cal c_law_draw (hr.mono (by decide)) (pa_cons (pv 0) (pa_cons (pe_callB (lenQ K) (by rfl) T.len b_len (pa_cons (pv 1) pa_nil)) pa_nil))) (fun _ _ => rfl)) pe_int (fun _ _ => rfl)))
      (pss_one (ps_ret (pe_tup (pa_cons (pv 5) (pa_cons (pv 3) (pa_cons (pe_op op_add (pe_op op_add (pv 3) pe_int) (pe_cal c_law_draw (hr.mono (by decide)) (pa_cons (pv 0) (pa_cons pe_int pa_nil)))) (pa_cons (pv 4) (pa_cons (pe_op op_add (pe_op op_add (pv 4) pe_int) (pe_cal c_law_draw (hr.mono (by decide)) (pa_cons (pv 0) (pa_cons (pe_op op_sub (pv 2) (pv 4)) pa_nil)))) pa_nil)))))))))), ?_⟩
    refine ⟨_, rfl, s, c, l, B, 9, rfl, S, by omega, by decide, by decide, fun b H1 hb S1 b1 => ?_⟩
    refine ⟨_, rfl, _, rfl, s, c, l, B + 1, size, rfl, S1, by omega, hs1, by omega, fun st H2 hst S2 b2 => ⟨_, _, rfl, ?_⟩⟩
    have hh2 := b2.house S1 (b1.house S hh)
    obtain ⟨a, o, ps, rfl, hfz, _, hp⟩ := hh2
    have hlen := pr_len hp
    have ht : SqT K H2 a (ps.map V.ref) := .inl (.inr ⟨o, hfz⟩)
    refine ⟨_, rfl, _, rfl, _, rfl, a, _, rfl, .inr ht, s, c, l, B + 2, h.length, by rw [List.length_map, hlen], S2, by omega, by omega, by omega, fun k H3 hk S3 b3 => ?_⟩
    have hpk : ps[k]? = some (ps[k]'(by omega)) := List.getElem?_eq_getElem _
    generalize ps[k]'(by omega) = pk at hpk
    obtain ⟨y, hy, hpy⟩ := pr_get hp hpk
    refine ⟨a, _, _, .ref pk, rfl, rfl, .inl (.inr ⟨o, b3.frz S2 hfz⟩), atI_nat (by rw [List.getElem?_map, hpk]; rfl), pk, _, _, _, rfl, rfl, SqT.of (b3.tup S2 hpy), atI_nat (j := 0) rfl, ?_⟩
    refine ⟨_, rfl, _, rfl, _, rfl, _, _, rfl, rfl, _, rfl, s, c, l, B + 3, 4, rfl, S3, by omega, by decide, by decide, fun d H4 hd S4 b4 => ⟨_, _, rfl, rfl, _, rfl, ?_⟩⟩
    refine ⟨_, rfl, _, _, rfl, rfl, _, rfl, _, rfl, _, rfl, _, _, rfl, rfl, s, c, l, B + 4, size - st, ?_, S4, by omega, by omega, by omega, fun d2 H5 hd2 S5 b5 => ⟨_, _, rfl, rfl, by show 5 ≤ sizeLine; decide, fun p hpn => ?_⟩⟩
    · show [V.ref s, V.int ((size : Int) - (st : Int))] = _
      rw [show (size : Int) - (st : Int) = ((size - st : Nat) : Int) by omega]
    refine q p ⟨y.1, b, b + 1 + d, st, st + 1 + d2⟩ _ ?_ ⟨List.mem_map.mpr ⟨y, List.mem_of_getElem? hy, rfl⟩, by show b < b + 1 + d; omega, by show b + 1 + d ≤ 100; omega, by show st < st + 1 + d2; omega, by show st + 1 + d2 ≤ size; omega⟩ (S5.same (Same.new hpn)) (((((b1.trans b2).trans b3).trans b4).trans b5).trans (Sb.of (Same.new hpn)))
    rw [upd_same]
    show some (HO.tup [V.str y.1, .int (b : Int), .int ((b : Int) + 1 + (d : Int)), .int (st : Int), .int ((st : Int) + 1 + (d2 : Int))]) = some (HO.tup [V.str y.1, .int (b : Int), .int ((b + 1 + d : Nat) : Int), .int (st : Int), .int ((st + 1 + d2 : Nat) : Int)])
    rw [show ((b + 1 + d : Nat) : Int) = (b : Int) + 1 + (d : Int) by omega, show ((st + 1 + d2 : Nat) : Int) = (st : Int) + 1 + (d2 : Int) by omega]
theorem sc_law_test : FnScope ["state", "many", "one", "other"] ["state", "many"] (defScope s_law_test) := ⟨rfl, rfl, rfl, by decide +kernel, rfl, by decide +kernel, by decide +kernel⟩
def spLTest : Sp := fun vs H Q _ => ∃ (s c l : Addr) (B many : Nat), vs = [.ref s, .int (many : Int)] ∧ StH H s c l B ∧ B ≤ 4990 ∧ 2 ≤ many ∧ many ≤ 8 ∧ ∀ (p : Addr) (ck : Ck3) H', H' p = some (.tup (ckV ck)) → GoodC many ck → StH H' s c l (B + 3) → Sb s l H H' → Q (.ref p) H'
theorem ok_law_test {f : Addr} {fd : FuncData} (T : Txt K mg) (c_law_draw : Cal P w K mg base 2 "_law_draw" ["state", "many"] spDraw)
    (F : FnP K "_law_test" s_law_test f fd) : FnOk P w K mg base CX0 3 f fd ["state", "many"] spLTest := by
  refine FnP.okP F sc_law_test (fun vs H Q E h => ?_) (fun cdv A outer s H vs Q E hr h => ?_)
  · obtain ⟨s, c, l, B, many, rfl, _⟩ := h
    rfl
  · obtain ⟨s, c, l, B, many, rfl, S, hB, hm1, hm2, q⟩ := h
    refine ⟨_, (pss_cons (ps_set (i := 2) sc_law_test.nd rfl (by first | exact Or.inl rfl | exact Or.inr rfl) (pe_cal c_law_draw (hr.mono (by decide)) (pa_cons (pv 0) (pa_cons (pv 1) pa_nil))))
      (pss_cons (ps_set (i := 3) sc_law_test.nd rfl (by first | exact Or.inl rfl | exact Or.inr rfl) (pe_op op_mod (pe_callTy call_int1 (by rfl) T.int b_int (pa_cons (pe_op op_add (pe_op op_add (pv 2) pe_int) (pe_cal c_law_draw (hr.mono (by decide)) (pa_cons (pv 0) (pa_cons (pe_op op_sub (pv 1) pe_int) pa_nil)))) pa_nil)) (pv 1)))
      (pss_one (ps_ret (pe_tup (pa_cons (pv 2) (pa_cons (pe_ix (ixL K) (pe_lst (pa_cons pe_str (pa_cons pe_str (pa_cons pe_str (pa_cons pe_str (pa_cons pe_str pa_nil)))))) (pe_cal c_law_draw (hr.mono (by decide)) (pa_cons (pv 0) (pa_cons pe_int pa_nil))) (fun _ _ => rfl)) (pa_cons (pv 3) pa_nil)))))))), ?_⟩
    refine ⟨_, rfl, _, rfl, s, c, l, B, many, rfl, S, by omega, by omega, by omega, fun one H1 hone S1 b1 => ?_⟩
    refine ⟨_, rfl, _, _, rfl, rfl, _, rfl, _, rfl, _, _, rfl, rfl, s, c, l, B + 1, many - 1, ?_, S1, by omega, by omega, by omega, fun d H2 hd S2 b2 => ⟨_, _, rfl, rfl, .inl ⟨_, rfl, _, rfl, _, _, rfl, rfl, (by show (0 : Int) < _; omega), ?_⟩⟩⟩
    · show [V.ref s, V.int ((many : Int) - 1)] = _
      rw [show (many : Int) - 1 = ((many - 1 : Nat) : Int) by omega]
    obtain ⟨ot, hot, eot⟩ := mod_nat (a := (one : Int) + 1 + (d : Int)) (m := many) (by omega)
    have hne : one ≠ ot := fun z => by
      subst z
      by_cases c : one + 1 + d < many
      · have : ((one : Int) + 1 + (d : Int)) % (many : Int) = (one : Int) + 1 + (d : Int) := Int.emod_eq_of_lt (by omega) (by omega)
        omega
      · have h2 : ((one : Int) + 1 + (d : Int) - (many : Int)) % (many : Int) = ((one : Int) + 1 + (d : Int)) % (many : Int) := Int.sub_emod_right _ _
        have h3 : ((one : Int) + 1 + (d : Int) - (many : Int)) % (many : Int) = (one : Int) + 1 + (d : Int) - (many : Int) := Int.emod_eq_of_lt (by omega) (by omega)
        omega
    refine (?_ : ∀ z : Int, z = (ot : Int) → gName 3 (V.int z) _ H2 _) _ eot
    rintro _ rfl
    refine ⟨_, rfl, by show 5 ≤ sizeLine; decide, fun l1 hl1 => ?_⟩
    have e1 := Same.new (o := .lst [.str "same", .str "upto", .str "same", .str "upto", .str "newer"]) hl1
    refine ⟨_, rfl, s, c, l, B + 2, 5, rfl, S2.same e1, by omega, by decide, by decide, fun k H3 hk S3 b3 => ?_⟩
    have ne3 := S2.ne0s hl1
    have hl3 := b3 l1 _ ne3.1 ne3.2 (upd_same (o := .lst [.str "same", .str "upto", .str "same", .str "upto", .str "newer"]))
    have fin : ∀ (wd : Str), [V.str "same", .str "upto", .str "same", .str "upto", .str "newer"][k]? = some (.str wd) → (wd = "same" ∨ wd = "upto" ∨ wd = "newer") → _ := fun wd hwd hw => 
      (⟨l1, _, _, .str wd, rfl, rfl, SqL.of hl3, atI_nat hwd, _, rfl, by show 3 ≤ sizeLine; decide, fun p hp => q p ⟨one, wd, ot⟩ _ upd_same ⟨hone, hot, hne, hw⟩ (S3.same (Same.new hp)) (((b1.trans b2).trans ((Sb.of e1).trans b3)).trans (Sb.of (Same.new hp)))⟩ : ∃ p xs i v, V.ref l1 = V.ref p ∧ V.int (k : Int) = V.int i ∧ SqL K H3 p xs ∧ atI xs i = some v ∧ ∃ v', ([some (.ref s), some (.int (many : Int)), some (.int (one : Int)), some (.int (ot : Int))] : L2.St)[3]? = some (some v') ∧ [V.int (one : Int), v, v'].length ≤ sizeLine ∧ ∀ p, H3 p = none → Q (.ref p) (upd H3 p (.tup [V.int (one : Int), v, v'])))
    match k, hk with
    | 0, _ => exact fin "same" rfl (.inl rfl)
    | 1, _ => exact fin "upto" rfl (.inr (.inl rfl))
    | 2, _ => exact fin "same" rfl (.inl rfl)
    | 3, _ => exact fin "upto" rfl (.inr (.inl rfl))
    | 4, _ => exact fin "newer" rfl (.inr (.inr rfl))
    | k + 5, h => omega
end
end W24
set_option maxHeartbeats 4000000
/-! W15: the law's gaps. -/
namespace W24
open PySem PySem.Spec PyProof.Rows L2
def fI (m : Nat) : V := .int (m : Int)
structure KR (n : Nat) (al : AL Nat) : Prop where
  nd : (al.map (·.1)).Nodup
  lt : ∀ p ∈ al.map (·.1), p.1 < n ∧ p.2 < n
theorem KR.put {n : Nat} {al : AL Nat} (h : KR n al) {i j v : Nat} (hi : i < n) (hj : j < n) : KR n (putA al (i, j) v) :=
  ⟨put_nodup h.nd, fun p hp => by
    rcases put_keys_mem hp with rfl | q
    · exact ⟨hi, hj⟩
    · exact h.lt p q⟩
theorem KR.rlx {A : Arr} {n : Nat} {al : AL Nat} (h : KR n al) {i m k : Nat} (hi : i < n) (hk : k < n) : KR n (relax A i m al k) := by
  unfold relax
  split
  · exact h
  · exact h.put hi hk
theorem KR.len {n : Nat} {al : AL Nat} (h : KR n al) (hn : n ≤ 8) : (kvsOf fI al).length < sizeLine := by
  rw [len_kvs]
  exact Nat.lt_of_le_of_lt (al_len h.nd h.lt hn) (by decide)
theorem KR.init (n : Nat) : KR n (initG n) := by
  refine ⟨initG_nd, fun p hp => ?_⟩
  unfold initG at hp
  rw [List.map_map] at hp
  obtain ⟨k, hk, rfl⟩ := List.mem_map.mp hp
  exact ⟨List.mem_range.mp hk, List.mem_range.mp hk⟩
theorem eqDT_same (g h : AL Nat) : eqDT (kvsOf fI g) (kvsOf fI h) = sameAL g h := by
  unfold eqDT sameAL
  rw [len_kvs, len_kvs]
  congr 1
  unfold kvsOf
  rw [List.all_map]
  congr 1
  funext p
  show decide (valV (kvsOf fI h) (kk p.1) = some (fI p.2)) = (getA h p.1 == some p.2)
  rw [valV_kvs]
  cases e : getA h p.1 with
  | none => rfl
  | some v =>
    by_cases z : v = p.2
    · subst z; simp
    · rw [decide_eq_false, beq_eq_false_iff_ne.mpr fun w => z (Option.some.inj w)]
      intro w
      have w2 : fI v = fI p.2 := Option.some.inj w
      have := V.int.inj w2
      exact z (by omega)
theorem int_kvs (g : AL Nat) : ∀ p ∈ kvsOf fI g, ∃ i, p.2 = V.int i := fun p hp => by
  obtain ⟨x, _, rfl⟩ := List.mem_map.mp hp
  exact ⟨_, rfl⟩
/-- the dict of gaps, new since H0 -/
structure DG (H0 : Hp) (d : Addr) (al : AL Nat) (H : Hp) : Prop where
  nw : H0 d = none
  sm : Same H0 H
  di : H d = some (.dT (kvsOf fI al))
theorem DG.same {H0 H H' : Hp} {d : Addr} {al : AL Nat} (h : DG H0 d al H) (e : Same H H') : DG H0 d al H' := ⟨h.nw, h.sm.trans e, e _ _ h.di⟩
theorem DG.get {H0 H : Hp} {d t : Addr} {al : AL Nat} {i j : Nat} (h : DG H0 d al H) (ht : H t = some (.tup [.int (i : Int), .int (j : Int)])) : DGet H d (.ref t) ((getA al (i, j)).map fI) := by
  have := DGet.t (k := kk (i, j)) h.di ht
  rw [valV_kvs] at this
  exact this
theorem DG.isD {H0 H : Hp} {d : Addr} {al : AL Nat} (h : DG H0 d al H) : IsD H d := .inr ⟨_, .inl h.di⟩
/-- the law's loop, read backwards -/
theorem loopG_end {A : Arr} {n t : Nat} {g : AL Nat} (h : sameAL g (round A n g) = true) : loopG A n (t + 1) g = some (round A n g) := by
  show (if sameAL g (round A n g) = true then some (round A n g) else loopG A n t (round A n g)) = _
  rw [if_pos h]
theorem loopG_on {A : Arr} {n t : Nat} {g : AL Nat} (h : sameAL g (round A n g) = false) : loopG A n (t + 1) g = loopG A n t (round A n g) := by
  show (if sameAL g (round A n g) = true then some (round A n g) else loopG A n t (round A n g)) = _
  rw [if_neg (by rw [h]; decide)]
section
variable {P : Program} {w : World} {K : PySem.W.Frag} {mg : Str → Option Value} {base : Heap}
theorem sc_law_gaps : FnScope ["fetch", "by", "many", "found", "k", "turn", "before", "one", "middle", "rise"] ["fetch"] (defScope s_law_gaps) := ⟨rfl, rfl, rfl, by decide +kernel, rfl, by decide +kernel, by decide +kernel⟩
def spLGaps : Sp := fun vs H Q _ => ∃ (v : V) (F : Ft), vs = [v] ∧ FtAt H v F ∧ GoodF F ∧ (∀ H', Same H H' → gapsL (arr F) F.rs.length = none → (∀ i j s, arr F i j = some s → i < F.rs.length ∧ j < F.rs.length) → Q .non H') ∧
  ∀ d g H', DG H d g H' → KR F.rs.length g → gapsL (arr F) F.rs.length = some g → (∀ i j s, arr F i j = some s → i < F.rs.length ∧ j < F.rs.length) → Q (.ref d) H'
theorem ok_law_gaps {f : Addr} {fd : FuncData} (T : Txt K mg) (c_law_arrows : Cal P w K mg base 2 "_law_arrows" ["fetch"] spArrows)
    (F : FnP K "_law_gaps" s_law_gaps f fd) : FnOk P w K mg base CX0 3 f fd ["fetch"] spLGaps := by
  refine FnP.okP F sc_law_gaps (fun vs H Q E h => ?_) (fun cdv A outer s H vs Q E hr h => ?_)
  · obtain ⟨v, F, rfl, _⟩ := h
    rfl
  · obtain ⟨v, F, rfl, hF, gF, qN, q⟩ := h
    have hu := hu_of hr
    have hn8 := gF.r2
    have hF0 := hF
    obtain ⟨a, vh, vr, vc, rfl, ha, hh, ⟨ar, pr, rfl, har, hpr⟩, hc⟩ := hF
    have hlr : (pr.map V.ref).length = F.rs.length := by rw [List.length_map, pr_len hpr]
    refine ⟨_, (pss_cons (ps_par (i := 1) (j := 2) rfl sc_law_gaps.nd rfl rfl (by decide) rfl rfl (pa_cons (pe_cal c_law_arrows (hr.mono (by decide)) (pa_cons (pv 0) pa_nil)) (pa_cons (pe_callB (lenQ K) (by rfl) T.len b_len (pa_cons (pe_ix (ixT K) (pv 0) pe_int (fun _ _ => rfl)) pa_nil)) pa_nil)) (by rfl))
      (pss_cons (ps_set (i := 3) sc_law_gaps.nd rfl (by first | exact Or.inl rfl | exact Or.inr rfl) (pe_callTy (call_dictLT rfl hr) (by rfl) T.dict b_dict (pa_cons (pe_lc (own := [("k", 4)]) (g := gName 4) (tt := tYes) rfl sc_law_gaps.nd (pi_range1 (by rfl) T.range (pa_cons (pv 2) pa_nil)) (blkOk_by (own := [("k", 4)]) (N := ["fetch", "by", "many", "found", "k", "turn", "before", "one", "middle", "rise"]) (sc := (defScope s_law_gaps)) (by decide +kernel)) (fun _ _ _ _ _ => (pg_name (i := 4) sc_law_gaps.nd rfl (by first | exact Or.inl rfl | exact Or.inr rfl) (by first | exact Or.inl rfl | exact Or.inr rfl))) (fun _ _ _ _ _ => pts_nil) (fun _ _ _ _ _ => (pe_tup (pa_cons (pe_tup (pa_cons (pv 4) (pa_cons (pv 4) pa_nil))) (pa_cons pe_int pa_nil))))) pa_nil)))
      (pss_cons (ps_for PassesOwn.never rfl (pi_range1 (by rfl) T.range (pa_cons (pe_op op_add (pv 2) pe_int) pa_nil)) (pg_name (i := 5) sc_law_gaps.nd rfl (by first | exact Or.inl rfl | exact Or.inr rfl) (by first | exact Or.inl rfl | exact Or.inr rfl)) (pss_cons (ps_set (i := 6) sc_law_gaps.nd rfl (by first | exact Or.inl rfl | exact Or.inr rfl) (pe_callTy (call_dictDT hr) (by rfl) T.dict b_dict (pa_cons (pv 3) pa_nil)))
      (pss_cons (ps_for PassesOwn.never rfl (piL K (pe_callTy (call_list_dT rfl) (by rfl) T.list b_list (pa_cons (pv 3) pa_nil))) (pgT K rfl (pgs_cons (pg_name (i := 7) sc_law_gaps.nd rfl (by first | exact Or.inl rfl | exact Or.inr rfl) (by first | exact Or.inl rfl | exact Or.inr rfl)) (pgs_cons (pg_name (i := 8) sc_law_gaps.nd rfl (by first | exact Or.inl rfl | exact Or.inr rfl) (by first | exact Or.inl rfl | exact Or.inr rfl)) pgs_nil))) (pss_one (ps_for PassesOwn.never rfl (pi_range1 (by rfl) T.range (pa_cons (pv 2) pa_nil)) (pg_name (i := 4) sc_law_gaps.nd rfl (by first | exact Or.inl rfl | exact Or.inr rfl) (by first | exact Or.inl rfl | exact Or.inr rfl)) (pss_one (ps_if (pt_cmp (pc_din hu (pe_tup (pa_cons (pv 8) (pa_cons (pv 4) pa_nil))) (pv 1))) (pss_cons (ps_set (i := 9) sc_law_gaps.nd rfl (by first | exact Or.inl rfl | exact Or.inr rfl) (pe_op op_add (pe_dget hu (pv 3) (pe_tup (pa_cons (pv 7) (pa_cons (pv 8) pa_nil))) (fun _ _ => rfl)) (pe_callTy call_int1 (by rfl) T.int b_int (pa_cons (pe_dget hu (pv 1) (pe_tup (pa_cons (pv 8) (pa_cons (pv 4) pa_nil))) (fun _ _ => rfl)) pa_nil))))
      (pss_one (ps_dput hu (pv 3) (pe_tup (pa_cons (pv 7) (pa_cons (pv 4) pa_nil))) (pe_callB (call_max2 rfl) (by rfl) T.max b_max (pa_cons (pv 9) (pa_cons (pe_dget2 hu (pv 3) (pe_tup (pa_cons (pv 7) (pa_cons (pv 4) pa_nil))) pe_int ⟨rfl, rfl, rfl, rfl⟩) pa_nil))) rfl))) pss_nil)))))
      (pss_one (ps_if (pt_cmpR (op_eqDT hr) (pv 6) (pv 3) (nomark _)) (pss_one (ps_ret (pv 3))) pss_nil)))))
      (pss_one (ps_ret pe_non))))), ?_⟩
    refine ⟨_, rfl, _, F, rfl, hF0, gF, fun b H1 DB => ?_⟩
    refine ⟨_, rfl, a, _, _, _, rfl, rfl, SqT.of (DB.sm _ _ ha), atI_nat (j := 2) rfl, ar, _, rfl, .inr (SqT.of (DB.sm _ _ har)), _, _, rfl, ?_⟩
    rw [hlr]
    have hbd : ∀ i j s, arr F i j = some s → i < F.rs.length ∧ j < F.rs.length := by
      obtain ⟨al, _, R⟩ := DB.di
      exact R.bd
    generalize hn : F.rs.length = n at *
    generalize hA : arr F = A at *
    refine ⟨_, rfl, _, rfl, by omega, by omega, fun D hD => ?_⟩
    refine lc_it (walk_range (lo := 0) (n := ((n : Nat) : Int).toNat)) (fun i H2 => H1 D = none ∧ Same H1 H2 ∧ ∃ ps : List Addr, H2 D = some (.lst (ps.map V.ref)) ∧ ps.length = i ∧ ∀ (j : Nat) (p : Addr), ps[j]? = some p → ∃ t, H2 p = some (.tup [.ref t, .int 0]) ∧ H2 t = some (.tup [.int (j : Int), .int (j : Int)])) ⟨hD, Same.new hD, [], upd_same, rfl, fun j p e => by simp at e⟩ (fun _ _ _ _ => trivial) (fun i x H2 H3 hi p y => ?_) (fun H2 p => ?_)
    · obtain ⟨rfl, rfl⟩ := y
      obtain ⟨p1, p2, ps, p3, p4, p5⟩ := p
      refine (?_ : ∀ z : Int, z = (i : Int) → gName 4 (V.int z) _ _ _) _ (Int.zero_add _)
      rintro _ rfl
      refine ⟨rfl, _, rfl, _, rfl, by show 2 ≤ sizeLine; decide, fun t ht => ⟨by show 2 ≤ sizeLine; decide, fun u hu' => ?_⟩⟩
      have e1 := Same.new (o := .tup [.int (i : Int), .int (i : Int)]) ht
      have e2 := Same.new (o := .tup [.ref t, .int 0]) hu'
      have hD3 := e2 _ _ (e1 _ _ p3)
      have kp : ∀ (p : Addr) (xs : List V), H3 p = some (.tup xs) → (upd (upd (upd H3 t (.tup [.int (i : Int), .int (i : Int)])) u (.tup [.ref t, .int 0])) D (.lst (ps.map V.ref ++ [.ref u]))) p = some (.tup xs) := fun p xs hp => by
        have := e2 _ _ (e1 _ _ hp)
        rw [upd_ne (ne_of this hD3 (by intro z; cases z))]
        exact this
      refine ⟨_, hD3, by rw [List.length_map, p4]; exact sz (by omega), p1, Same.mut ((p2.trans e1).trans e2) p1, ps ++ [u], ?_, by simp [p4], fun j p hj => ?_⟩
      · rw [upd_same, List.map_append]
        rfl
      · by_cases hlt : j < ps.length
        · rw [List.getElem?_append_left hlt] at hj
          obtain ⟨t', k1, k2⟩ := p5 j p hj
          exact ⟨t', kp _ _ k1, kp _ _ k2⟩
        · rw [List.getElem?_append_right (by omega)] at hj
          have e0 : j - ps.length = 0 := by
            cases hk : j - ps.length with
            | zero => rfl
            | succ m => rw [hk] at hj; simp at hj
          rw [e0] at hj
          have : p = u := by simpa using hj.symm
          subst this
          have ej : j = i := by omega
          subst ej
          refine ⟨t, ?_, ?_⟩
          · rw [upd_ne (ne_of upd_same hD3 (by intro z; cases z)), upd_same]
          · have := e2 _ _ (upd_same (H := H3) (a := t) (o := .tup [.int (j : Int), .int (j : Int)]))
            rw [upd_ne (ne_of this hD3 (by intro z; cases z))]
            exact this
    · obtain ⟨p1, p2, ps, p3, p4, p5⟩ := p
      have hpn : ps.length = n := by omega
      refine ⟨D, ps, kvsOf fI (initG n), rfl, p3, ?_, ?_, fun d hd => ?_⟩
      · refine pr_of (by rw [len_kvs, hpn]; unfold initG; simp) fun j p kv e1 e2 => ?_
        have hj : j < n := by have := (List.getElem?_eq_some_iff.mp e1).1; omega
        obtain ⟨t, k1, k2⟩ := p5 j p e1
        unfold kvsOf initG at e2
        rw [List.map_map, List.getElem?_map, List.getElem?_range hj] at e2
        cases e2
        exact ⟨t, k1, k2⟩
      · have : (kvsOf fI (initG n)).map (·.1) = ((initG n).map (·.1)).map kk := by
          unfold kvsOf
          rw [List.map_map, List.map_map]
          rfl
        rw [this]
        exact List.pairwise_map.mpr ((KR.init n).nd.imp fun h z => h (kk_inj z))
      · have G0 : DG H1 d (initG n) (upd H2 d (.dT (kvsOf fI (initG n)))) := ⟨Same.free p2 hd, Same.mut p2 (Same.free p2 hd), upd_same⟩
        generalize upd H2 d (.dT (kvsOf fI (initG n))) = H3 at G0 ⊢
        refine ⟨_, rfl, _, _, rfl, rfl, _, rfl, by omega, by omega, ?_⟩
        refine for_range (n := ((n : Int) + 1).toNat) (fun t σ' H' => ∃ (x4 x5 x6 x7 x8 x9 : Option V) (g : AL Nat), σ' = [some (.ref a), some (.ref b), some (.int (n : Int)), some (.ref d), x4, x5, x6, x7, x8, x9] ∧ DG H1 d g H' ∧ KR n g ∧ loopG A n (n + 1 - t) g = gapsL A n) ⟨_, _, _, _, _, _, initG n, rfl, G0, KR.init n, rfl⟩ (fun t σ' H' ht gg => ?_) (fun σ' H' gg => ?_)
        · obtain ⟨x4, x5, x6, x7, x8, x9, g, rfl, G, kr, hlg⟩ := gg
          refine ⟨_, rfl, d, _, rfl, G.di, hash_nd _ _ fI kr.nd (fun p hp => by have := kr.lt p hp; omega), fun d2 hd2 => ?_⟩
          have e1 := Same.new (o := .dT (kvsOf fI g)) hd2
          have G1 := G.same e1
          have hd2d : d2 ≠ d := fun z => by
            have := G.di
            rw [← z, hd2] at this
            cases this
          have hd2' : (upd H' d2 (.dT (kvsOf fI g))) d2 = some (.dT (kvsOf fI g)) := upd_same
          generalize upd H' d2 (.dT (kvsOf fI g)) = H4 at G1 hd2' ⊢
          refine ⟨_, rfl, d, _, rfl, .inl G1.di, fun l bs hl hbs => ?_⟩
          have e2 := Same.new (o := .lst (bs.map V.ref)) hl
          have G2 := G1.same e2
          have hd22 := e2 _ _ hd2'
          have hbs2 : Paired (fun (p : (Nat × Nat) × Nat) b => (upd H4 l (.lst (bs.map V.ref))) b = some (.tup [.int (p.1.1 : Int), .int (p.1.2 : Int)])) g bs := by
            have hlb := pr_len hbs
            rw [len_kvs] at hlb
            refine pr_of hlb fun i p b' z1 z2 => ?_
            obtain ⟨y, z3, z4⟩ := pr_get hbs (i := i) (x := (kk p.1, fI p.2)) (by unfold kvsOf; rw [List.getElem?_map, z1]; rfl)
            rw [z2] at z3
            cases z3
            exact e2 _ _ z4
          have hl2 : (upd H4 l (.lst (bs.map V.ref))) l = some (.lst (bs.map V.ref)) := upd_same
          generalize upd H4 l (.lst (bs.map V.ref)) = H5 at G2 hd22 hbs2 hl2 ⊢
          have hgl : (bs.map V.ref).length = g.length := by rw [List.length_map, pr_len hbs2]
          refine ⟨l, rfl, ⟨_, SqL.of hl2⟩, ?_⟩
          refine for_list (xs := bs.map V.ref) (fun i σ' H' => ∃ (x4 x7 x8 x9 : Option V), σ' = [some (.ref a), some (.ref b), some (.int (n : Int)), some (.ref d), x4, some (.int (0 + (t : Int))), some (.ref d2), x7, x8, x9] ∧ DG H1 d (((g.map (·.1)).take i).foldl (relaxAll A n) g) H' ∧ KR n (((g.map (·.1)).take i).foldl (relaxAll A n) g) ∧ H' d2 = some (.dT (kvsOf fI g)) ∧ H' l = some (.lst (bs.map V.ref)) ∧ Paired (fun (p : (Nat × Nat) × Nat) b => H' b = some (.tup [.int (p.1.1 : Int), .int (p.1.2 : Int)])) g bs) ⟨_, _, _, _, rfl, G2, kr, hd22, hl2, hbs2⟩ (fun i σ' H' _ g => ?_) (fun i x σ' H' hx gg => ?_) (fun σ' H' gg => ?_)
          · obtain ⟨_, _, _, _, _, _, _, _, e, _⟩ := g
            exact SqL.of e
          · obtain ⟨x4, x7, x8, x9, rfl, G3, kr3, hd23, hl3, hbs3⟩ := gg
            rw [List.getElem?_map] at hx
            cases hb0 : bs[i]? with
            | none => rw [hb0] at hx; cases hx
            | some kb =>
            rw [hb0] at hx
            cases hx
            obtain ⟨⟨⟨ki, km⟩, kv⟩, hgi, hkb⟩ := pr_get2 hbs3 hb0
            have hkm : (ki, km) ∈ g.map (·.1) := List.mem_map.mpr ⟨_, List.mem_of_getElem? hgi, rfl⟩
            obtain ⟨hki, hkmn⟩ := kr.lt _ hkm
            have hk0 : (g.map (·.1))[i]? = some (ki, km) := by rw [List.getElem?_map, hgi]; rfl
            rw [take_snoc hk0, List.foldl_append]
            have hup : Up g (((g.map (·.1)).take i).foldl (relaxAll A n) g) := foldl_up (fun acc im => relaxAll_up acc im) _ _
            obtain ⟨v0, hv0⟩ := getA_mem hkm
            obtain ⟨v1, hv1, _⟩ := hup _ _ hv0
            generalize ((g.map (·.1)).take i).foldl (relaxAll A n) g = acc at G3 kr3 hv1 ⊢
            refine ⟨kb, _, rfl, SqT.of hkb, rfl, _, _, rfl, _, _, rfl, rfl, ?_⟩
            refine ⟨_, rfl, _, rfl, by omega, by omega, ?_⟩
            refine for_range (n := ((n : Nat) : Int).toNat) (fun k σ' H' => ∃ (x4 x9 : Option V), σ' = [some (.ref a), some (.ref b), some (.int (n : Int)), some (.ref d), x4, some (.int (0 + (t : Int))), some (.ref d2), some (.int (ki : Int)), some (.int (km : Int)), x9] ∧ DG H1 d ((List.range k).foldl (relax A ki km) acc) H' ∧ KR n ((List.range k).foldl (relax A ki km) acc) ∧ H' d2 = some (.dT (kvsOf fI g)) ∧ H' l = some (.lst (bs.map V.ref)) ∧ Paired (fun (p : (Nat × Nat) × Nat) b => H' b = some (.tup [.int (p.1.1 : Int), .int (p.1.2 : Int)])) g bs) ⟨_, _, rfl, G3, kr3, hd23, hl3, hbs3⟩ (fun k σ' H' hk gg => ?_) (fun σ' H' gg => ?_)
            · obtain ⟨x4, x9, rfl, G4, kr4, hd24, hl4, hbs4⟩ := gg
              have hkn : k < n := by omega
              rw [List.range_succ, List.foldl_append]
              have hup2 : Up acc ((List.range k).foldl (relax A ki km) acc) := foldl_up (fun acc k => relax_up _ _ acc k) _ _
              obtain ⟨v2, hv2, _⟩ := hup2 _ _ hv1
              generalize (List.range k).foldl (relax A ki km) acc = ac at G4 kr4 hv2 ⊢
              rw [Int.zero_add (k : Int)]
              refine ⟨_, rfl, _, rfl, by show 2 ≤ sizeLine; decide, fun t1 ht1 => ?_⟩
              have f1 := Same.new (o := .tup [.int (km : Int), .int (k : Int)]) ht1
              have D1 := (DB.same (G4.sm.trans f1)).get (t := t1) upd_same
              refine ⟨_, rfl, b, _, rfl, D1, (A km k).isSome, ?_, ?_⟩
              · cases A km k <;> rfl
              cases hAk : A km k with
              | none =>
                refine iteF ⟨_, _, rfl, ?_, ?_, f1 _ _ hd24, f1 _ _ hl4, pr_mono (fun _ _ z => f1 _ _ z) hbs4⟩
                · show DG H1 d (relax A ki km ac k) _
                  unfold relax
                  rw [hAk]
                  exact G4.same f1
                · show KR n (relax A ki km ac k)
                  exact kr4.rlx hki hkn
              | some sb =>
                refine iteT ⟨_, rfl, _, rfl, _, rfl, by show 2 ≤ sizeLine; decide, fun t2 ht2 => ?_⟩
                have f2 := Same.new (o := .tup [.int (ki : Int), .int (km : Int)]) ht2
                have g2 := (G4.same (f1.trans f2)).get (t := t2) upd_same
                rw [hv2] at g2
                refine ⟨d, _, rfl, g2, _, rfl, _, rfl, _, rfl, by show 2 ≤ sizeLine; decide, fun t3 ht3 => ?_⟩
                have f3 := Same.new (o := .tup [.int (km : Int), .int (k : Int)]) ht3
                have f13 := (f1.trans f2).trans f3
                have g3 := (DB.same (G4.sm.trans f13)).get (t := t3) upd_same
                rw [hAk] at g3
                refine ⟨b, _, rfl, g3, .inr ⟨sb, rfl, _, _, rfl, rfl, ?_⟩⟩
                have es : (v2 : Int) + (if sb = true then (1 : Int) else 0) = ((v2 + sb.toNat : Nat) : Int) := by cases sb <;> simp
                refine (?_ : ∀ z : Int, z = ((v2 + sb.toNat : Nat) : Int) → gName 9 (V.int z) _ _ _) _ es
                rintro _ rfl
                refine ⟨_, rfl, _, rfl, d, rfl, (G4.same f13).isD, _, rfl, _, rfl, by show 2 ≤ sizeLine; decide, fun t4 ht4 => ?_⟩
                have f4 := Same.new (o := .tup [.int (ki : Int), .int (k : Int)]) ht4
                have g4 := (G4.same (f13.trans f4)).get (t := t4) upd_same
                refine ⟨_, g4, ?_⟩
                have eo : ((getA ac (ki, k)).map fI).getD (V.int 0) = .int (((getA ac (ki, k)).getD 0 : Nat) : Int) := by
                  cases getA ac (ki, k) <;> rfl
                refine ⟨_, _, congrArg (fun u => [V.int ((v2 + sb.toNat : Nat) : Int), u]) eo, ?_⟩
                rw [mx]
                refine ⟨_, rfl, _, rfl, _, rfl, by show 2 ≤ sizeLine; decide, fun t5 ht5 => ?_⟩
                have f5 := Same.new (o := .tup [.int (ki : Int), .int (k : Int)]) ht5
                have f15 := (f13.trans f4).trans f5
                have G5 := G4.same f15
                have kp : ∀ b' o, b' ≠ d → H' b' = some o → (upd (upd (upd (upd (upd (upd H' t1 (.tup [.int (km : Int), .int (k : Int)])) t2 (.tup [.int (ki : Int), .int (km : Int)])) t3 (.tup [.int (km : Int), .int (k : Int)])) t4 (.tup [.int (ki : Int), .int (k : Int)])) t5 (.tup [.int (ki : Int), .int (k : Int)])) d (.dT (putK (kvsOf fI ac) (kk (ki, k)) (fI (max (v2 + sb.toNat) ((getA ac (ki, k)).getD 0)))))) b' = some o := fun b' o hne hb' => by
                  rw [upd_ne hne]
                  exact f15 _ _ hb'
                refine ⟨d, _, rfl, DPut.t (k := kk (ki, k)) (v := fI _) G5.di upd_same (kr4.len hn8), _, _, rfl, ?_, ?_, kp _ _ hd2d hd24, kp _ _ (ne_of hl4 G4.di (by intro z; cases z)) hl4, pr_mono (fun p b' z => kp _ _ (ne_of z G4.di (by intro z; cases z)) z) hbs4⟩
                · refine ⟨G4.nw, Same.mut G5.sm G4.nw, ?_⟩
                  rw [upd_same, putK_kvs]
                  show _ = some (HO.dT (kvsOf fI (relax A ki km ac k)))
                  unfold relax
                  rw [hAk, hv2]
                  rfl
                · exact kr4.rlx hki hkn
            · obtain ⟨x4, x9, rfl, G4, kr4, hd24, hl4, hbs4⟩ := gg
              exact ⟨_, _, _, _, rfl, G4, kr4, hd24, hl4, hbs4⟩
          · obtain ⟨x4, x7, x8, x9, rfl, G3, kr3, hd23, hl3, hbs3⟩ := gg
            have ht0 : (g.map (·.1)).take (bs.map V.ref).length = g.map (·.1) := by
              rw [hgl, List.take_of_length_le (by rw [List.length_map]; exact Nat.le_refl _)]
            rw [ht0] at G3 kr3
            have G3 : DG H1 d (round A n g) _ := G3
            have kr3 : KR n (round A n g) := kr3
            have htn : t ≤ n := by omega
            have et : n + 1 - t = (n - t) + 1 := by omega
            refine ⟨_, rfl, _, rfl, d2, d, _, _, rfl, rfl, hd23, G3.di, int_kvs _, int_kvs _, ?_⟩
            rw [eqDT_same]
            cases hs : sameAL g (round A n g) with
            | true =>
              refine ⟨true, rfl, iteT ⟨_, rfl, q d (round A n g) _ ⟨Same.free DB.sm G3.nw, DB.sm.trans G3.sm, G3.di⟩ kr3 ?_ hbd⟩⟩
              rw [← hlg, et, loopG_end hs]
            | false =>
              refine ⟨false, rfl, iteF ⟨_, _, _, _, _, _, round A n g, rfl, G3, kr3, ?_⟩⟩
              rw [← hlg, et, loopG_on hs]
              congr 1
              omega
        · obtain ⟨x4, x5, x6, x7, x8, x9, g, rfl, G, kr, hlg⟩ := gg
          have ez : n + 1 - ((n : Int) + 1).toNat = 0 := by omega
          rw [ez] at hlg
          exact qN _ (DB.sm.trans G.sm) hlg.symm hbd
end
end W24
set_option maxHeartbeats 4000000
/-! W16: the law's fetch. -/
namespace W24
open PySem PySem.Spec PyProof.Rows L2
theorem StH.upd {H : Hp} {s c l D : Addr} {B : Nat} {o : HO} (h : StH H s c l B) (h1 : D ≠ s) (h2 : D ≠ c) (h3 : D ≠ l) : StH (upd H D o) s c l B := by
  obtain ⟨k1, n, cs, ls, k2, k3, k4, k5, k6⟩ := h
  refine ⟨k1, n, cs, ls, k2, ?_, ?_, ?_, k6⟩
  · rw [upd_ne (fun z => h1 z.symm)]; exact k3
  · rw [upd_ne (fun z => h2 z.symm)]; exact k4
  · rw [upd_ne (fun z => h3 z.symm)]; exact k5
theorem StH.ne3 {H : Hp} {s c l b : Addr} {B : Nat} (h : StH H s c l B) (hb : H b = none) : b ≠ s ∧ b ≠ c ∧ b ≠ l := by
  obtain ⟨h1, n, cs, ls, h2, h3, h4, h5, h6⟩ := h
  exact ⟨fun z => (by rw [z, h3] at hb; cases hb), fun z => (by rw [z, h4] at hb; cases hb), fun z => (by rw [z, h5] at hb; cases hb)⟩
/-- a list that grows while one draws -/
structure GrowN (H0 : Hp) (s c l D : Addr) (B : Nat) (items : List (List V)) (H : Hp) : Prop where
  st : StH H s c l B
  sb : ∀ b o, b ≠ s → b ≠ l → H0 b = some o → H b = some o
  nw : H0 D = none
  ne : D ≠ s ∧ D ≠ c ∧ D ≠ l
  at_ : ∃ ps : List Addr, H D = some (.lst (ps.map V.ref)) ∧ Paired (fun p xs => H p = some (.tup xs)) ps items
theorem GrowN.init {H0 : Hp} {s c l D : Addr} {B : Nat} (S : StH H0 s c l B) (hD : H0 D = none) : GrowN H0 s c l D B [] (upd H0 D (.lst [])) :=
  ⟨S.same (Same.new hD), Sb.of (Same.new hD), hD, S.ne3 hD, [], upd_same, .nil⟩
theorem GrowN.step {H0 H H4 : Hp} {s c l D p : Addr} {B B' : Nat} {items : List (List V)} {xs : List V} (G : GrowN H0 s c l D B items H) (S : StH H4 s c l B') (sb : Sb s l H H4) (hp : H4 p = some (.tup xs)) (hz : items.length < 50000) :
    ∃ acc, H4 D = some (.lst acc) ∧ acc.length < sizeLine ∧ GrowN H0 s c l D B' (items ++ [xs]) (upd H4 D (.lst (acc ++ [.ref p]))) := by
  obtain ⟨ps, h1, h2⟩ := G.at_
  have hD := sb D _ G.ne.1 G.ne.2.2 h1
  refine ⟨_, hD, by rw [List.length_map, pr_len h2]; exact sz (by omega), S.upd G.ne.1 G.ne.2.1 G.ne.2.2, fun b o b1 b2 hb => ?_, G.nw, G.ne, ps ++ [p], ?_, ?_⟩
  · rw [upd_ne (ne_of_none hb G.nw)]
    exact sb b o b1 b2 (G.sb b o b1 b2 hb)
  · rw [upd_same, List.map_append]
    rfl
  · refine pr_app (pr_mono (fun q ys hq => ?_) h2) (.cons ?_ .nil)
    · have := sb.tup G.st hq
      rw [upd_ne (ne_of this hD (by intro z; cases z))]
      exact this
    · rw [upd_ne (ne_of hp hD (by intro z; cases z))]
      exact hp
section
variable {P : Program} {w : World} {K : PySem.W.Frag} {mg : Str → Option Value} {base : Heap}
theorem sc_law_fetch : FnScope ["state", "most", "house", "size", "reads", "k", "tests"] ["state", "most"] (defScope s_law_fetch) := ⟨rfl, rfl, rfl, by decide +kernel, rfl, by decide +kernel, by decide +kernel⟩
def spLFetch : Sp := fun vs H Q _ => ∃ (s c l : Addr) (B : Nat), vs = [.ref s, .int 8] ∧ StH H s c l B ∧ B ≤ 4800 ∧ ∀ (p : Addr) (F : Ft) H', FtAt H' (.ref p) F → GoodF F → F.cs.length ≤ 5 → StH H' s c l (B + 60) → Sb s l H H' → Q (.ref p) H'
theorem ok_law_fetch {f : Addr} {fd : FuncData} (T : Txt K mg) (c_law_draw : Cal P w K mg base 2 "_law_draw" ["state", "many"] spDraw) (c_law_house : Cal P w K mg base 3 "_law_house" ["state"] spHouse)
    (c_law_read : Cal P w K mg base 3 "_law_read" ["state", "house", "size"] spLRead) (c_law_test : Cal P w K mg base 3 "_law_test" ["state", "many"] spLTest)
    (F : FnP K "_law_fetch" s_law_fetch f fd) : FnOk P w K mg base CX0 4 f fd ["state", "most"] spLFetch := by
  refine FnP.okP F sc_law_fetch (fun vs H Q E h => ?_) (fun cdv A outer s H vs Q E hr h => ?_)
  · obtain ⟨s, c, l, B, rfl, _⟩ := h
    rfl
  · obtain ⟨s, c, l, B, rfl, S, hB, q⟩ := h
    refine ⟨_, (pss_cons (ps_asg (pe_tup (pa_cons (pe_cal c_law_house (hr.mono (by decide)) (pa_cons (pv 0) pa_nil)) (pa_cons (pe_op op_add pe_int (pe_cal c_law_draw (hr.mono (by decide)) (pa_cons (pv 0) (pa_cons pe_int pa_nil)))) pa_nil))) (pgT K rfl (pgs_cons (pg_name (i := 2) sc_law_fetch.nd rfl (by first | exact Or.inl rfl | exact Or.inr rfl) (by first | exact Or.inl rfl | exact Or.inr rfl)) (pgs_cons (pg_name (i := 3) sc_law_fetch.nd rfl (by first | exact Or.inl rfl | exact Or.inr rfl) (by first | exact Or.inl rfl | exact Or.inr rfl)) pgs_nil))))
      (pss_cons (ps_set (i := 4) sc_law_fetch.nd rfl (by first | exact Or.inr rfl | exact Or.inl rfl) (pe_lc (own := [("k", 5)]) (g := gName 5) (tt := tYes) rfl sc_law_fetch.nd (pi_range1 (by rfl) T.range (pa_cons (pe_op op_add pe_int (pe_cal c_law_draw (hr.mono (by decide)) (pa_cons (pv 0) (pa_cons (pv 1) pa_nil)))) pa_nil)) (blkOk_by (own := [("k", 5)]) (N := ["state", "most", "house", "size", "reads", "k", "tests"]) (sc := (defScope s_law_fetch)) (by decide +kernel)) (fun _ _ _ _ _ => (pg_name (i := 5) sc_law_fetch.nd rfl (by first | exact Or.inl rfl | exact Or.inr rfl) (by first | exact Or.inl rfl | exact Or.inr rfl))) (fun _ _ _ _ _ => pts_nil) (fun _ _ _ _ _ => (pe_cal c_law_read (hr.mono (by decide)) (pa_cons (pv 0) (pa_cons (pv 2) (pa_cons (pv 3) pa_nil)))))))
      (pss_cons (ps_set (i := 6) sc_law_fetch.nd rfl (by first | exact Or.inl rfl | exact Or.inr rfl) (pe_lst pa_nil))
      (pss_cons (ps_if (pt_cmpR op_gt (pe_callB (lenQ K) (by rfl) T.len b_len (pa_cons (pv 4) pa_nil)) pe_int (nomark _)) (pss_one (ps_setLc (i := 6) (own := [("k", 5)]) (g := gName 5) (tt := tYes) rfl sc_law_fetch.nd rfl rfl (sw_true rfl rfl rfl (by decide +kernel)) (pi_range1 (by rfl) T.range (pa_cons (pe_cal c_law_draw (hr.mono (by decide)) (pa_cons (pv 0) (pa_cons pe_int pa_nil))) pa_nil)) (blkOk_by (own := [("k", 5)]) (N := ["state", "most", "house", "size", "reads", "k", "tests"]) (sc := (defScope s_law_fetch)) (by decide +kernel)) (fun _ _ _ _ _ => (pg_name (i := 5) sc_law_fetch.nd rfl (by first | exact Or.inl rfl | exact Or.inr rfl) (by first | exact Or.inl rfl | exact Or.inr rfl))) (fun _ _ _ _ _ => pts_nil) (fun _ _ _ _ _ => (pe_cal c_law_test (hr.mono (by decide)) (pa_cons (pv 0) (pa_cons (pe_callB (lenQ K) (by rfl) T.len b_len (pa_cons (pv 4) pa_nil)) pa_nil)))))) pss_nil)
      (pss_one (ps_ret (pe_tup (pa_cons (pv 2) (pa_cons (pv 3) (pa_cons (pe_callTy call_tuple_of (by rfl) T.tuple b_tuple (pa_cons (pv 4) pa_nil)) (pa_cons (pe_callTy call_tuple_of (by rfl) T.tuple b_tuple (pa_cons (pv 6) pa_nil)) pa_nil))))))))))), ?_⟩
    refine ⟨_, rfl, s, c, l, B, rfl, S, by omega, fun vh h H1 hm hh S1 b1 => ?_⟩
    refine ⟨_, rfl, s, c, l, B + 1, 9, rfl, S1, by omega, by decide, by decide, fun d H2 hd S2 b2 => ⟨_, _, rfl, rfl, by show 2 ≤ sizeLine; decide, fun t ht => ?_⟩⟩
    refine ⟨t, _, rfl, SqT.of upd_same, rfl, _, _, rfl, _, _, rfl, rfl, ?_⟩
    have e3 := Same.new (o := .tup [vh, .int (2 + (d : Int))]) ht
    have S3 := S2.same e3
    have b3 := (b1.trans b2).trans (Sb.of e3)
    have hh3 := (b2.house S1 hh).same e3
    generalize upd H2 t (.tup [vh, .int (2 + (d : Int))]) = H3 at S3 b3 hh3 ⊢
    clear e3 S2 b2 b1 S1
    refine (?_ : ∀ z : Int, z = ((2 + d : Nat) : Int) → tSeq _ _ _ (List.set (List.set _ 2 _) 3 (some (V.int z))) H3) (2 + (d : Int)) (by omega)
    rintro _ rfl
    refine ⟨_, rfl, _, rfl, s, c, l, B + 2, 8, rfl, S3, by omega, by decide, by decide, fun r H4 hr1 S4 b4 => ⟨_, _, rfl, rfl, _, rfl, by omega, by omega, fun D hD => ?_⟩⟩
    have hh4 := b4.house S3 hh3
    refine lc_it (walk_range (lo := 0) (n := ((1 : Int) + (r : Int)).toNat)) (fun i H => ∃ rs : List Rd5, rs.length = i ∧ (∀ x ∈ rs, GoodR h (2 + d) x) ∧ GrowN H4 s c l D (B + 3 + 5 * i) (rs.map rdV) H) ⟨[], rfl, fun x hx => (by cases hx), GrowN.init S4 hD⟩ (fun _ _ _ _ => trivial) (fun i x H5 H6 hi p y => ?_) (fun H5 p => ?_)
    · obtain ⟨rfl, rfl⟩ := y
      obtain ⟨rs, rl, rg, G⟩ := p
      have hh5 : HouseAt H6 vh h := by
        have : Sb s l H4 H6 := G.sb
        exact this.house S4 hh4
      refine ⟨rfl, _, rfl, _, rfl, _, rfl, s, c, l, B + 3 + 5 * i, vh, h, 2 + d, rfl, G.st, by omega, hh5, hm, by omega, by omega, fun p rd H7 hp hg S7 b7 => ?_⟩
      obtain ⟨acc, k1, k2, G'⟩ := G.step S7 b7 hp (by rw [List.length_map]; omega)
      refine ⟨acc, k1, k2, rs ++ [rd], by simp [rl], fun x hx => ?_, ?_⟩
      · rcases List.mem_append.mp hx with z | z
        · exact rg x z
        · rw [List.mem_singleton.mp z]; exact hg
      · have e : B + 3 + 5 * (i + 1) = B + 3 + 5 * i + 5 := by omega
        rw [e, List.map_append]
        exact G'
    · obtain ⟨rs, rl, rg, G⟩ := p
      have rl8 : 1 ≤ rs.length ∧ rs.length ≤ 8 := by omega
      have G5 : StH H5 s c l (B + 43) := G.st.mono (by omega)
      have sb5 : Sb s l H H5 := (b3.trans b4).trans G.sb
      have hh5 : HouseAt H5 vh h := by
        have : Sb s l H4 H5 := G.sb
        exact this.house S4 hh4
      obtain ⟨ps, hps, hpr⟩ := G.at_
      have neD := G.ne
      have hpr : Paired (fun p r => H5 p = some (.tup (rdV r))) ps rs := by
        refine pr_of (by rw [pr_len hpr, List.length_map]) fun i p x z1 z2 => ?_
        obtain ⟨y, z3, z4⟩ := pr_get hpr z1
        rw [List.getElem?_map, z2] at z3
        cases z3
        exact z4
      have hpl : ps.length = rs.length := pr_len hpr
      clear G hh4 S4 b4 b3
      refine ⟨Nat.zero_le _, fun l0 hl0 => ?_⟩
      have e6 := Same.new (o := .lst []) hl0
      refine ⟨_, rfl, D, _, rfl, .inl (SqL.of (e6 _ _ hps)), _, _, rfl, rfl, decide (1 < rs.length), ?_, ?_⟩
      · refine congrArg V.bl ?_
        rw [List.length_map, hpl]
        by_cases z : 1 < rs.length
        · rw [decide_eq_true z, decide_eq_true (by omega)]
        · rw [decide_eq_false z, decide_eq_false (by omega)]
      -- the end, from the list of tests
      have fin : ∀ (tl : Addr) (cs : List Ck3) (H7 : Hp) (x5 : Option V) (vs : List V), cs.length ≤ 5 → (∀ x ∈ cs, GoodC rs.length x) → StH H7 s c l (B + 60) → Sb s l H5 H7 → (∃ qs : List Addr, H7 tl = some (.lst (qs.map V.ref)) ∧ Paired (fun p ck => H7 p = some (.tup (ckV ck))) qs cs) → H7 D = some (.lst (ps.map V.ref)) →
          tRet (tTup (tCons (tVar 2) (tCons (tVar 3) (tCons (tCB (fun xs H Q => ∃ p ys, xs = [.ref p] ∧ ((SqL K H p ys ∧ ∀ l, H l = none → Q (.ref l) (upd H l (.tup ys))) ∨ (SqT K H p ys ∧ Q (.ref p) H))) (tCons (tVar 4) tNil)) (tCons (tCB (fun xs H Q => ∃ p ys, xs = [.ref p] ∧ ((SqL K H p ys ∧ ∀ l, H l = none → Q (.ref l) (upd H l (.tup ys))) ∨ (SqT K H p ys ∧ Q (.ref p) H))) (tCons (tVar 6) tNil)) tNil)))))
            { nx := fun _ H' => Q .non H', rt := Q } [some (.ref s), some (.int 8), some vh, some (.int ((2 + d : Nat) : Int)), some (.ref D), x5, some (.ref tl)] H7 := fun tl cs H7 x5 vs hcl hcg S7 b7 htl hD7 => by
        obtain ⟨qs, hq1, hq2⟩ := htl
        refine ⟨_, rfl, _, rfl, _, rfl, D, _, rfl, .inl ⟨SqL.of hD7, fun u1 hu1 => ?_⟩⟩
        have f1 := Same.new (o := .tup (ps.map V.ref)) hu1
        refine ⟨_, rfl, tl, _, rfl, .inl ⟨SqL.of (f1 _ _ hq1), fun u2 hu2 => ⟨by show 4 ≤ sizeLine; decide, fun u3 hu3 => ?_⟩⟩⟩
        have f2 := Same.new (o := .tup (qs.map V.ref)) hu2
        have f3 := Same.new (o := .tup [vh, .int ((2 + d : Nat) : Int), .ref u1, .ref u2]) hu3
        refine q u3 ⟨h, 2 + d, rs, cs⟩ _ ⟨u3, vh, .ref u1, .ref u2, rfl, upd_same, ?_, ⟨u1, ps, rfl, f3 _ _ (f2 _ _ upd_same), ?_⟩, ⟨u2, qs, rfl, f3 _ _ upd_same, ?_⟩⟩ ⟨hm, by show 1 ≤ 2 + d; omega, by show 2 + d ≤ 10; omega, rl8.1, rl8.2, rg, by show cs.length ≤ 6; omega, hcg⟩ hcl (S7.same ((f1.trans f2).trans f3)) ((sb5.trans b7).trans (Sb.of ((f1.trans f2).trans f3)))
        · exact (b7.house G5 hh5).same ((f1.trans f2).trans f3)
        · exact pr_mono (fun p r z => ((f1.trans f2).trans f3) _ _ (b7.tup G5 z)) hpr
        · exact pr_mono (fun p r z => ((f1.trans f2).trans f3) _ _ z) hq2
      by_cases z : 1 < rs.length
      · rw [decide_eq_true z]
        refine iteT ⟨_, rfl, s, c, l, B + 43, 6, rfl, G5.same e6, by omega, by decide, by decide, fun m H7 hm1 S7 b7 => ⟨_, rfl, by omega, by omega, fun D2 hD2 => ?_⟩⟩
        have hD7 : H7 D = some (.lst (ps.map V.ref)) := b7 D _ neD.1 neD.2.2 (e6 _ _ hps)
        refine lc_it (walk_range (lo := 0) (n := ((m : Nat) : Int).toNat)) (fun i H => ∃ cs : List Ck3, cs.length = i ∧ (∀ x ∈ cs, GoodC rs.length x) ∧ GrowN H7 s c l D2 (B + 44 + 3 * i) (cs.map ckV) H) ⟨[], rfl, fun x hx => (by cases hx), GrowN.init S7 hD2⟩ (fun _ _ _ _ => trivial) (fun i x H8 H9 hi p y => ?_) (fun H8 p => ?_)
        · obtain ⟨rfl, rfl⟩ := y
          obtain ⟨cs, cl, cg, G⟩ := p
          have hD9 := G.sb D _ neD.1 neD.2.2 hD7
          refine ⟨rfl, _, rfl, _, rfl, D, _, rfl, .inl (SqL.of hD9), s, c, l, B + 44 + 3 * i, rs.length, by rw [List.length_map, hpl], G.st, by omega, by omega, by omega, fun p ck H10 hp hg S10 b10 => ?_⟩
          obtain ⟨acc, k1, k2, G'⟩ := G.step S10 b10 hp (by rw [List.length_map]; omega)
          refine ⟨acc, k1, k2, cs ++ [ck], by simp [cl], fun x hx => ?_, ?_⟩
          · rcases List.mem_append.mp hx with z | z
            · exact cg x z
            · rw [List.mem_singleton.mp z]; exact hg
          · have e : B + 44 + 3 * (i + 1) = B + 44 + 3 * i + 3 := by omega
            rw [e, List.map_append]
            exact G'
        · obtain ⟨cs, cl, cg, G⟩ := p
          obtain ⟨qs, hqs, hqr⟩ := G.at_
          refine fin D2 cs H8 _ [] (by omega) cg (G.st.mono (by omega)) (((Sb.of e6).trans b7).trans G.sb) ⟨qs, hqs, ?_⟩ (G.sb D _ neD.1 neD.2.2 hD7)
          refine pr_of (by rw [pr_len hqr, List.length_map]) fun i p x z1 z2 => ?_
          obtain ⟨y, z3, z4⟩ := pr_get hqr z1
          rw [List.getElem?_map, z2] at z3
          cases z3
          exact z4
      · rw [decide_eq_false z]
        exact iteF (fin l0 [] _ _ [] (by decide) (fun x hx => (by cases hx)) ((G5.same e6).mono (by omega)) (Sb.of e6) ⟨[], upd_same, .nil⟩ (e6 _ _ hps))
end
end W24
set_option maxHeartbeats 4000000
/-! W17: the law's mild fetch. -/
namespace W24
open PySem PySem.Spec PyProof.Rows L2
section
variable {P : Program} {w : World} {K : PySem.W.Frag} {mg : Str → Option Value} {base : Heap}
/-- tests + (test,) -/
theorem cat_ck {σ : L2.St} {H : Hp} {Q : VK} {i j : Nat} {v : V} {p : Addr} {cs : List Ck3} {c : Ck3} (hi : σ[i]? = some (some v)) (hj : σ[j]? = some (some (.ref p))) (hv : CksAt H v cs) (hp : H p = some (.tup (ckV c))) (hl : cs.length ≤ 50)
    (q : ∀ w H', Same H H' → CksAt H' w (cs ++ [c]) → Q w H') : tOp (rCatA K) (tVar i) (tTup (tCons (tVar j) tNil)) σ H Q := by
  obtain ⟨a, ps, rfl, ha, hps⟩ := hv
  have hpl := pr_len hps
  refine ⟨_, hi, _, hj, by show 1 ≤ sizeLine; decide, fun t ht => ?_⟩
  have e1 := Same.new (o := .tup [.ref p]) ht
  refine ⟨a, t, _, _, rfl, rfl, SqT.of (e1 _ _ ha), SqT.of upd_same, by rw [List.length_map]; exact szl (by show ps.length + 1 < 60000; omega), fun hn => ?_, fun _ hn => (by cases hn), fun _ _ u hu => ?_⟩
  · have : ps = [] := List.map_eq_nil_iff.mp hn
    subst this
    cases hps
    exact q _ _ e1 ⟨t, [p], rfl, upd_same, .cons (e1 _ _ hp) .nil⟩
  · have e2 := Same.new (o := .tup (ps.map V.ref ++ [.ref p])) hu
    refine q _ _ (e1.trans e2) ⟨u, ps ++ [p], rfl, ?_, pr_app (pr_mono (fun _ _ z => e2 _ _ (e1 _ _ z)) hps) (.cons (e2 _ _ (e1 _ _ hp)) .nil)⟩
    rw [upd_same, List.map_append]
    rfl
/-- fetch[:3] + (tests,) -/
theorem cat_ft {σ : L2.St} {H : Hp} {Q : VK} {i : Nat} {a : Addr} {F : Ft} {cs : List Ck3} {te : TE} (hi : σ[i]? = some (some (.ref a))) (hF : FtAt H (.ref a) F)
    (ht : ∀ H1, Same H H1 → ∀ Q' : VK, (∀ w H2, Same H1 H2 → CksAt H2 w cs → Q' w H2) → te σ H1 Q') (q : ∀ p H', Same H H' → FtAt H' (.ref p) { F with cs := cs } → Q (.ref p) H') :
    tOp (rCatA K) (tSl (rSlA K) (tVar i) tNoPart (tPart (tC (.int 3)))) (tTup (tCons te tNil)) σ H Q := by
  obtain ⟨a', vh, vr, vc, ea, ha, h1, h2, h3⟩ := hF
  cases ea
  refine ⟨_, hi, 3, rfl, a, _, rfl, SqT.of ha, fun z => absurd (show HT.sIx 4 4 (some 3) = 4 from z.2) (by decide), fun _ p1 hp1 => ?_⟩
  have e1 := Same.new (o := .tup (cutV [vh, .int F.size, vr, vc] none (some 3))) hp1
  refine ht _ e1 _ fun w H2 e2 hw => ⟨by show 1 ≤ sizeLine; decide, fun p2 hp2 => ?_⟩
  have e3 := Same.new (o := .tup [w]) hp2
  refine ⟨p1, p2, [vh, .int F.size, vr], [w], rfl, rfl, SqT.of (e3 _ _ (e2 _ _ upd_same)), SqT.of upd_same, by show 4 ≤ sizeLine; decide, fun hn => (by cases hn), fun _ hn => (by cases hn), fun _ _ p3 hp3 => ?_⟩
  have e4 := Same.new (o := .tup ([vh, .int F.size, vr] ++ [w])) hp3
  have ee := ((e1.trans e2).trans e3).trans e4
  exact q p3 _ ee ⟨p3, vh, vr, w, rfl, upd_same, h1.same ee, h2.same ee, hw.same (e3.trans e4)⟩
theorem arr0_ok (F : Ft) (h : F.cs = []) : (gapsL (arr F) F.rs.length).isSome = true := by
  have e : arr F = arr0 F := by
    unfold arr
    rw [h]
    rfl
  rw [e]
  refine gapsL_some (fun i j s z => ?_) (fun i j z => ?_)
  · unfold arr0 at z
    by_cases c : rArr F i j = true
    · exact rArr_lt c
    · rw [if_neg c] at z; cases z
  · unfold arr0 at z
    by_cases c : rArr F i j = true
    · rw [if_pos c] at z; cases z
    · rw [if_neg c] at z; cases z
theorem GoodF.with {F : Ft} (g : GoodF F) {cs : List Ck3} (h1 : cs.length ≤ 6) (h2 : ∀ c ∈ cs, GoodC F.rs.length c) : GoodF { F with cs := cs } := ⟨g.hm, g.s1, g.s2, g.r1, g.r2, g.rd, h1, h2⟩
theorem sc_law_mild : FnScope ["state", "most", "fetch", "tests", "test"] ["state", "most"] (defScope s_law_mild) := ⟨rfl, rfl, rfl, by decide +kernel, rfl, by decide +kernel, by decide +kernel⟩
def spMild : Sp := fun vs H Q _ => ∃ (s c l : Addr) (B : Nat), vs = [.ref s, .int 8] ∧ StH H s c l B ∧ B ≤ 4800 ∧ ∀ (p : Addr) (F : Ft) (g : AL Nat) H', FtAt H' (.ref p) F → GoodF F → F.cs.length ≤ 5 → gapsL (arr F) F.rs.length = some g → StH H' s c l (B + 60) → Sb s l H H' → Q (.ref p) H'
theorem ok_law_mild {f : Addr} {fd : FuncData} (T : Txt K mg) (c_law_fetch : Cal P w K mg base 4 "_law_fetch" ["state", "most"] spLFetch) (c_law_gaps : Cal P w K mg base 3 "_law_gaps" ["fetch"] spLGaps)
    (F : FnP K "_law_mild" s_law_mild f fd) : FnOk P w K mg base CX0 5 f fd ["state", "most"] spMild := by
  refine FnP.okP F sc_law_mild (fun vs H Q E h => ?_) (fun cdv A outer s H vs Q E hr h => ?_)
  · obtain ⟨s, c, l, B, rfl, _⟩ := h
    rfl
  · obtain ⟨s, c, l, B, rfl, S, hB, q⟩ := h
    refine ⟨_, (pss_cons (ps_set (i := 2) sc_law_mild.nd rfl (by first | exact Or.inl rfl | exact Or.inr rfl) (pe_cal c_law_fetch (hr.mono (by decide)) (pa_cons (pv 0) (pa_cons (pv 1) pa_nil))))
      (pss_cons (ps_set (i := 3) sc_law_mild.nd rfl (by first | exact Or.inl rfl | exact Or.inr rfl) (pe_tup pa_nil))
      (pss_cons (ps_for PassesOwn.never rfl (piT K (pe_ix (ixT K) (pv 2) pe_int (fun _ _ => rfl))) (pg_name (i := 4) sc_law_mild.nd rfl (by first | exact Or.inl rfl | exact Or.inr rfl) (by first | exact Or.inl rfl | exact Or.inr rfl)) (pss_one (ps_if (pt_cmpR op_notN (pe_cal c_law_gaps (hr.mono (by decide)) (pa_cons (pe_op op_catA (pe_slice sl_tupA (pv 2) po_none (po_some pe_int)) (pe_tup (pa_cons (pe_op op_catA (pv 3) (pe_tup (pa_cons (pv 4) pa_nil))) pa_nil))) pa_nil)) pe_non (nomark _)) (pss_one (ps_set (i := 3) sc_law_mild.nd rfl (by first | exact Or.inl rfl | exact Or.inr rfl) (pe_op op_catA (pv 3) (pe_tup (pa_cons (pv 4) pa_nil))))) pss_nil)))
      (pss_one (ps_ret (pe_op op_catA (pe_slice sl_tupA (pv 2) po_none (po_some pe_int)) (pe_tup (pa_cons (pv 3) pa_nil)))))))), ?_⟩
    refine ⟨_, rfl, _, rfl, s, c, l, B, rfl, S, hB, fun a F H1 hF gF hc5 S1 b1 => ?_⟩
    refine ⟨Nat.zero_le _, fun t0 ht0 => ?_⟩
    have e1 := Same.new (o := .tup []) ht0
    have hF1 := hF
    obtain ⟨a', vh, vr, vc, ea, ha, h1, h2, h3⟩ := hF1
    cases ea
    obtain ⟨ac, pc, rfl, hac, hpc⟩ := h3
    refine ⟨_, rfl, a, _, _, _, rfl, rfl, SqT.of (e1 _ _ ha), atI_nat (j := 3) rfl, ac, rfl, ⟨_, SqT.of (e1 _ _ hac)⟩, ?_⟩
    refine for_tup (xs := pc.map V.ref) (fun i σ' H' => ∃ (vt : V) (x4 : Option V) (cs : List Ck3), σ' = [some (.ref s), some (.int 8), some (.ref a), some vt, x4] ∧ Same H1 H' ∧ CksAt H' vt cs ∧ cs.length ≤ i ∧ (∀ c ∈ cs, GoodC F.rs.length c) ∧ (gapsL (arr { F with cs := cs }) F.rs.length).isSome = true) ⟨_, _, [], rfl, e1, ⟨t0, [], rfl, upd_same, .nil⟩, Nat.zero_le _, fun c hc => (by cases hc), arr0_ok { F with cs := [] } rfl⟩ (fun i σ' H' _ g => ?_) (fun i x σ' H' hx gg => ?_) (fun σ' H' gg => ?_)
    · obtain ⟨_, _, _, _, e, _⟩ := g
      exact SqT.of (e _ _ hac)
    · obtain ⟨vt, x4, cs, rfl, e2, hcs, hcl, hcg, hgs⟩ := gg
      obtain ⟨p, ck, rfl, hpi, hci, hp⟩ := pr_item hpc hx
      have hil := (List.getElem?_eq_some_iff.mp hci).1
      have gck := gF.ck ck (List.mem_of_getElem? hci)
      have hcg2 : ∀ c ∈ cs ++ [ck], GoodC F.rs.length c := fun c hc => by
        rcases List.mem_append.mp hc with z | z
        · exact hcg c z
        · rw [List.mem_singleton.mp z]; exact gck
      have hln : (cs ++ [ck]).length ≤ 6 := by rw [List.length_append, List.length_singleton]; omega
      refine cat_ft (F := F) (cs := cs ++ [ck]) rfl (hF.same e2) (fun H5 e5 Q' q' => cat_ck rfl rfl (hcs.same e5) (e5 _ _ (e2 _ _ hp)) (by omega) q') fun pf H5 e5 hf => ?_
      refine ⟨_, _, rfl, hf, gF.with hln hcg2, fun H6 e6 _ _ => ?_, fun dg g H6 G6 _ hgl _ => ?_⟩
      · refine ⟨rfl, false, rfl, iteF ⟨vt, _, cs, rfl, (e2.trans e5).trans e6, (hcs.same e5).same e6, by omega, hcg, hgs⟩⟩
      · refine ⟨rfl, true, rfl, iteT ?_⟩
        have e7 := e5.trans G6.sm
        refine cat_ck rfl rfl (hcs.same e7) (e7 _ _ (e2 _ _ hp)) (by omega) fun w' H7 e8 hw => ?_
        refine ⟨w', _, cs ++ [ck], rfl, (e2.trans e7).trans e8, hw, by rw [List.length_append, List.length_singleton]; omega, hcg2, ?_⟩
        show (gapsL (arr { F with cs := cs ++ [ck] }) F.rs.length).isSome = true
        have hgl : gapsL (arr { F with cs := cs ++ [ck] }) F.rs.length = some g := hgl
        rw [hgl]
        rfl
    · obtain ⟨vt, x4, cs, rfl, e2, hcs, hcl, hcg, hgs⟩ := gg
      rw [List.length_map, pr_len hpc] at hcl
      obtain ⟨g, hg⟩ := Option.isSome_iff_exists.mp hgs
      refine cat_ft (F := F) (cs := cs) rfl (hF.same e2) (fun H5 e5 Q' q' => ⟨_, rfl, q' _ _ (Same.refl _) (hcs.same e5)⟩) fun pf H5 e5 hf => ?_
      exact q pf _ g H5 hf (gF.with (by omega) hcg) (by show cs.length ≤ 5; omega) hg ((S1.same e2).same e5) (b1.trans (Sb.of (e2.trans e5)))
end
end W24
set_option maxHeartbeats 4000000
/-! W18: the law's groups, bytes, runs. -/
namespace W24
open PySem PySem.Spec PyProof.Rows L2
theorem any_tups (gs : List (List Nat)) (m : List Nat) : ((dTups gs).any fun z => PyData.eqv z (.tuple (dNums m))) = decide (m ∈ gs) := by
  induction gs with
  | nil => rfl
  | cons a gs ih =>
    show (PyData.eqvAll (dNums a) (dNums m) || (dTups gs).any _) = _
    rw [ih, eqv_nums]
    by_cases h : m = a
    · subst h; simp
    · rw [decide_eq_false fun z => h z.symm]
      simp [h]
theorem filter_inum (f : Nat → Bool) (n : Nat) (v : Nat → V) (h : ∀ i, v i = .int (i : Int)) : ((List.range n).filter f).map v = inum ((List.range n).filter f) := by
  unfold inum
  exact List.map_congr_left fun i _ => h i
/-- groups in a list -/
def GrpAt (H : Hp) (v : V) (gs : List (List Nat)) : Prop := ∃ (a : Addr) (ps : List Addr), v = .ref a ∧ H a = some (.lst (ps.map V.ref)) ∧ Paired (fun p (c : List Nat) => H p = some (.tup (inum c))) ps gs
section
variable {P : Program} {w : World} {K : PySem.W.Frag} {mg : Str → Option Value} {base : Heap}
theorem sc_law_groups : FnScope ["fetch", "by", "found", "k", "mates", "j"] ["fetch"] (defScope s_law_groups) := ⟨rfl, rfl, rfl, by decide +kernel, rfl, by decide +kernel, by decide +kernel⟩
def spGroups : Sp := fun vs H Q _ => ∃ (v : V) (F : Ft) (g : AL Nat), vs = [v] ∧ FtAt H v F ∧ GoodF F ∧ gapsL (arr F) F.rs.length = some g ∧ ∀ l H', Same H H' → GrpAt H' (.ref l) (groupsL (eG g) F.rs.length F.rs.length) → Q (.ref l) H'
theorem ok_law_groups {f : Addr} {fd : FuncData} (T : Txt K mg) (c_law_gaps : Cal P w K mg base 3 "_law_gaps" ["fetch"] spLGaps)
    (F : FnP K "_law_groups" s_law_groups f fd) : FnOk P w K mg base CX0 4 f fd ["fetch"] spGroups := by
  refine FnP.okP F sc_law_groups (fun vs H Q E h => ?_) (fun cdv A outer s H vs Q E hr h => ?_)
  · obtain ⟨v, F, g, rfl, _⟩ := h
    rfl
  · obtain ⟨v, F, g, rfl, hF, gF, hg, q⟩ := h
    have hu := hu_of hr
    have hn8 := gF.r2
    refine ⟨_, (pss_cons (ps_asg (pe_tup (pa_cons (pe_cal c_law_gaps (hr.mono (by decide)) (pa_cons (pv 0) pa_nil)) (pa_cons (pe_lst pa_nil) pa_nil))) (pgT K rfl (pgs_cons (pg_name (i := 1) sc_law_groups.nd rfl (by first | exact Or.inl rfl | exact Or.inr rfl) (by first | exact Or.inl rfl | exact Or.inr rfl)) (pgs_cons (pg_name (i := 2) sc_law_groups.nd rfl (by first | exact Or.inl rfl | exact Or.inr rfl) (by first | exact Or.inl rfl | exact Or.inr rfl)) pgs_nil))))
      (pss_cons (ps_for PassesOwn.never rfl (pi_range1 (by rfl) T.range (pa_cons (pe_callB (lenQ K) (by rfl) T.len b_len (pa_cons (pe_ix (ixT K) (pv 0) pe_int (fun _ _ => rfl)) pa_nil)) pa_nil)) (pg_name (i := 3) sc_law_groups.nd rfl (by first | exact Or.inl rfl | exact Or.inr rfl) (by first | exact Or.inl rfl | exact Or.inr rfl)) (pss_cons (ps_set (i := 4) sc_law_groups.nd rfl (by first | exact Or.inl rfl | exact Or.inr rfl) (pe_callTy call_tuple_of (by rfl) T.tuple b_tuple (pa_cons (pe_lc (own := [("j", 5)]) (g := gName 5) rfl sc_law_groups.nd (pi_range1 (by rfl) T.range (pa_cons (pe_callB (lenQ K) (by rfl) T.len b_len (pa_cons (pe_ix (ixT K) (pv 0) pe_int (fun _ _ => rfl)) pa_nil)) pa_nil)) (blkOk_by (own := [("j", 5)]) (N := ["fetch", "by", "found", "k", "mates", "j"]) (sc := (defScope s_law_groups)) (by decide +kernel)) (fun _ _ _ _ _ => (pg_name (i := 5) sc_law_groups.nd rfl (by first | exact Or.inl rfl | exact Or.inr rfl) (by first | exact Or.inl rfl | exact Or.inr rfl))) (fun _ _ _ _ _ => (pts_one (PW.pt (pw_and (pt_cmp (pc_din hu (pe_tup (pa_cons (pv 5) (pa_cons (pv 3) pa_nil))) (pv 1))) (pw_and1 (pt_cmp (pc_din hu (pe_tup (pa_cons (pv 3) (pa_cons (pv 5) pa_nil))) (pv 1)))))))) (fun _ _ _ _ _ => (pv 5))) pa_nil)))
      (pss_one (ps_if (pt_cmpR (op_notInD (Room65 hr)) (pv 4) (pv 2) rfl) (pss_one (ps_expr (pe_bm PySem.F.plainAttrs_list PySem.F.slot_list_append PySem.F.type_list_append mt_append (pv 2) (pa_cons (pv 4) pa_nil)))) pss_nil))))
      (pss_one (ps_ret (pv 2))))), ?_⟩
    refine ⟨_, rfl, v, F, rfl, hF, gF, fun H1 _ hno _ => (by rw [hg] at hno; cases hno), fun d g' H1 G _ hg' _ => ?_⟩
    rw [hg] at hg'
    cases hg'
    refine ⟨Nat.zero_le _, fun l hl => ⟨by show 2 ≤ sizeLine; decide, fun t ht => ?_⟩⟩
    have e1 := Same.new (o := .lst []) hl
    have e2 := Same.new (o := .tup [.ref d, .ref l]) ht
    refine ⟨t, _, rfl, SqT.of upd_same, rfl, _, _, rfl, _, _, rfl, rfl, ?_⟩
    have G2 := G.same (e1.trans e2)
    have hl2 := e2 _ _ (upd_same (H := H1) (a := l) (o := .lst []))
    have hl0 : H l = none := Same.free G.sm hl
    generalize upd (upd H1 l (.lst [])) t (.tup [.ref d, .ref l]) = H2 at G2 hl2 ⊢
    obtain ⟨a, vh, vr, vc, rfl, ha, hh, ⟨ar, pr, rfl, har, hpr⟩, hc⟩ := hF
    have hlr : (pr.map V.ref).length = F.rs.length := by rw [List.length_map, pr_len hpr]
    refine ⟨_, rfl, a, _, _, _, rfl, rfl, SqT.of (G2.sm _ _ ha), atI_nat (j := 2) rfl, ar, _, rfl, .inr (SqT.of (G2.sm _ _ har)), _, rfl, by rw [hlr]; omega, by rw [hlr]; omega, ?_⟩
    generalize hn : F.rs.length = n at *
    refine for_range (n := ((pr.map V.ref).length : Int).toNat) (fun k σ' H' => ∃ x3 x4, σ' = [some (.ref a), some (.ref d), some (.ref l), x3, x4, none] ∧ DG H d g H' ∧ Same H H' ∧ (∃ ps : List Addr, H' l = some (.lst (ps.map V.ref)) ∧ Paired (fun p (c : List Nat) => H' p = some (.tup (inum c))) ps (groupsL (eG g) n k)) ∧ (groupsL (eG g) n k).length ≤ k) ⟨_, _, rfl, G2, G2.sm, ⟨[], hl2, .nil⟩, Nat.le_refl _⟩ (fun k σ' H' hk gg => ?_) (fun σ' H' gg => ?_)
    · obtain ⟨x3, x4, rfl, G3, e3, ⟨ps, hps, hpp⟩, hgl⟩ := gg
      have hkn : k < n := by omega
      refine (?_ : ∀ z : Int, z = (k : Int) → gName 3 (V.int z) _ _ _) _ (Int.zero_add _)
      rintro _ rfl
      refine ⟨_, rfl, a, _, _, _, rfl, rfl, SqT.of (e3 _ _ ha), atI_nat (j := 2) rfl, ar, _, rfl, .inr (SqT.of (e3 _ _ har)), _, rfl, by omega, by omega, fun D hD => ?_⟩
      refine lc_it (walk_range (lo := 0) (n := ((pr.map V.ref).length : Int).toNat)) (Cf H' D (fun j => eG g j k) fun j => .int (0 + (j : Int))) (cf0 hD) (fun _ _ _ _ => trivial) (fun j x H4 H5 hj p y => ?_) (fun H4 p => ?_)
      · obtain ⟨rfl, rfl⟩ := y
        have hj0 : (0 : Int) + (j : Int) = (j : Int) := Int.zero_add _
        refine ⟨rfl, _, rfl, _, rfl, by show 2 ≤ sizeLine; decide, fun t1 ht1 => ?_⟩
        have f1 := Same.new (o := .tup [.int (0 + (j : Int)), .int (k : Int)]) ht1
        have d1 := ((G3.same p.2.1).same f1).get (t := t1) (i := j) (j := k) (by rw [upd_same, hj0])
        refine ⟨_, rfl, d, _, rfl, d1, (getA g (j, k)).isSome, ?_, ?_⟩
        · cases getA g (j, k) <;> rfl
        cases e : (getA g (j, k)).isSome with
        | false =>
          refine iteF (iteF (cf_no p f1 ?_))
          unfold eG
          rw [e]
          rfl
        | true =>
          refine iteT ⟨_, rfl, _, rfl, by show 2 ≤ sizeLine; decide, fun t2 ht2 => ?_⟩
          have f2 := Same.new (o := .tup [.int (k : Int), .int (0 + (j : Int))]) ht2
          have d2 := (((G3.same p.2.1).same f1).same f2).get (t := t2) (i := k) (j := j) (by rw [upd_same, hj0])
          refine ⟨_, rfl, d, _, rfl, d2, (getA g (k, j)).isSome, ?_, ?_⟩
          · cases getA g (k, j) <;> rfl
          cases e' : (getA g (k, j)).isSome with
          | false =>
            refine iteF (cf_no p (f1.trans f2) ?_)
            unfold eG
            rw [e, e']
            rfl
          | true =>
            refine iteT ⟨_, rfl, cf_yes p (f1.trans f2) (by omega) ?_ rfl⟩
            unfold eG
            rw [e, e']
            rfl
      · obtain ⟨p1, p2, p3⟩ := p
        rw [filter_inum _ _ _ (fun i => by rw [Int.zero_add])] at p3
        have hm : (List.range ((pr.map V.ref).length : Int).toNat).filter (fun j => eG g j k) = matesL (eG g) n k := by
          unfold matesL
          congr 2
        rw [hm] at p3
        refine ⟨D, _, rfl, .inl ⟨SqL.of p3, fun u hu' => ?_⟩⟩
        have f3 := Same.new (o := .tup (inum (matesL (eG g) n k))) hu'
        have e4 := (e3.trans p2).trans f3
        have hps5 := f3 _ _ (p2 _ _ hps)
        have hpp5 := pr_mono (G := fun p (c : List Nat) => (upd H4 u (.tup (inum (matesL (eG g) n k)))) p = some (.tup (inum c))) (fun _ _ z => f3 _ _ (p2 _ _ z)) hpp
        have hu5 : (upd H4 u (.tup (inum (matesL (eG g) n k)))) u = some (.tup (inum (matesL (eG g) n k))) := upd_same
        have G5 := (G3.same p2).same f3
        generalize upd H4 u (.tup (inum (matesL (eG g) n k))) = H5 at e4 hps5 hpp5 hu5 G5 ⊢
        have hstep : groupsL (eG g) n (k + 1) = if matesL (eG g) n k ∈ groupsL (eG g) n k then groupsL (eG g) n k else groupsL (eG g) n k ++ [matesL (eG g) n k] := by
          show (List.range (k + 1)).foldl _ [] = _
          rw [List.range_succ, List.foldl_append]
          rfl
        have hpl := pr_len hpp5
        refine ⟨_, rfl, _, rfl, .tuple (dNums (matesL (eG g) n k)), dTups (groupsL (eG g) n k), .tup (SqT.of hu5) (dp_nums _), .lst (SqL.of hps5) (dp_tups hpp5), (shp (lay_nums _) (dep_nums _) (by decide)).2, (shp (lay_tups _) (dep_tups _) (by decide)).1, ?_⟩
        rw [any_tups]
        by_cases hin : matesL (eG g) n k ∈ groupsL (eG g) n k
        · rw [decide_eq_true hin]
          rw [if_pos hin] at hstep
          refine ⟨false, rfl, iteF ⟨_, _, rfl, G5, e4, ⟨ps, hps5, by rw [hstep]; exact hpp5⟩, by rw [hstep]; omega⟩⟩
        · rw [decide_eq_false hin]
          rw [if_neg hin] at hstep
          refine ⟨true, rfl, iteT ⟨_, rfl, .inl ⟨rfl, _, SqL.of hps5⟩, _, rfl, l, _, _, rfl, rfl, hps5, by rw [List.length_map]; exact sz (by omega), ?_⟩⟩
          have kp : ∀ p xs, H5 p = some (HO.tup xs) → (upd H5 l (.lst (ps.map V.ref ++ [.ref u]))) p = some (.tup xs) := fun p xs hp => by
            rw [upd_ne (ne_of hp hps5 (by intro z; cases z))]
            exact hp
          refine ⟨_, _, rfl, ⟨G5.nw, Same.mut G5.sm hl0, ?_⟩, Same.mut e4 hl0, ⟨ps ++ [u], ?_, ?_⟩, by rw [hstep, List.length_append, List.length_singleton]; omega⟩
          · rw [upd_ne (ne_of G5.di hps5 (by intro z; cases z))]
            exact G5.di
          · rw [upd_same, List.map_append]
            rfl
          · rw [hstep]
            exact pr_app (pr_mono (fun _ _ z => kp _ _ z) hpp5) (.cons (kp _ _ hu5) .nil)
    · obtain ⟨x3, x4, rfl, G3, e3, ⟨ps, hps, hpp⟩, hgl⟩ := gg
      have en : ((pr.map V.ref).length : Int).toNat = n := by omega
      rw [en] at hpp
      exact ⟨_, rfl, q l H' e3 ⟨l, ps, rfl, hps, hpp⟩⟩
/-! ### bytes -/
def bls (n : Nat) (p : Nat → Bool) : List V := (List.range n).map fun k => V.bl (p k)
theorem bls_len (n : Nat) (p : Nat → Bool) : (bls n p).length = n := by
  unfold bls
  rw [List.length_map, List.length_range]
theorem bls_set {n k : Nat} {p p' : Nat → Bool} (hk : k < n) (h1 : p' k = true) (h2 : ∀ j, j ≠ k → p' j = p j) : (bls n p).set k (.bl true) = bls n p' := by
  refine List.ext_getElem? fun i => ?_
  rw [List.getElem?_set, bls_len]
  unfold bls
  rw [List.getElem?_map, List.getElem?_map]
  by_cases hi : i < n
  · rw [List.getElem?_range hi]
    by_cases e : k = i
    · subst e
      rw [if_pos rfl, if_pos hk]
      show _ = some (V.bl (p' k))
      rw [h1]
    · rw [if_neg e]
      show some (V.bl (p i)) = some (V.bl (p' i))
      rw [h2 i fun z => e z.symm]
  · rw [List.getElem?_eq_none (by rw [List.length_range]; omega)]
    by_cases e : k = i
    · rw [if_pos e, if_neg (by omega)]
      rfl
    · rw [if_neg e]
      rfl
theorem bytes_snoc {rs : List Rd5} {i : Nat} {r : Rd5} (h : rs[i]? = some r) (l : List Nat) (x : Nat) : bytesOf rs (l ++ [i]) x = (bytesOf rs l x || (decide (r.f ≤ x) && decide (x < r.t))) := by
  unfold bytesOf
  rw [List.any_append]
  congr 1
  show ((match rs[i]? with | some r => decide (r.f ≤ x) && decide (x < r.t) | none => false) || false) = _
  rw [h, Bool.or_false]
theorem sc_law_bytes : FnScope ["reads", "some", "size", "found", "k", "number"] ["reads", "some", "size"] (defScope s_law_bytes) := ⟨rfl, rfl, rfl, by decide +kernel, rfl, by decide +kernel, by decide +kernel⟩
def spBytes : Sp := fun vs H Q _ => ∃ (vr : V) (rs : List Rd5) (nb : Addr) (nums : List Nat) (size : Nat), vs = [vr, .ref nb, .int (size : Int)] ∧ RdsAt H vr rs ∧ (∀ r ∈ rs, r.f < r.t ∧ r.t ≤ size) ∧ H nb = some (.tup (inum nums)) ∧ (∀ i ∈ nums, i < rs.length) ∧ size ≤ 10 ∧ ∀ l H', Same H H' → H l = none → H' l = some (.lst (bls size (bytesOf rs nums))) → Q (.ref l) H'
theorem ok_law_bytes {f : Addr} {fd : FuncData} (T : Txt K mg) (F : FnP K "_law_bytes" s_law_bytes f fd) : FnOk P w K mg base CX0 1 f fd ["reads", "some", "size"] spBytes := by
  refine FnP.okP F sc_law_bytes (fun vs H Q E h => ?_) (fun cdv A outer s H vs Q E hr h => ?_)
  · obtain ⟨vr, rs, nb, nums, size, rfl, _⟩ := h
    rfl
  · obtain ⟨vr, rs, nb, nums, size, rfl, ⟨ar, pr, rfl, har, hpr⟩, hrt, hnb, hn, hs, q⟩ := h
    refine ⟨_, (pss_cons (ps_setLc (i := 3) (own := [("k", 4)]) (g := gName 4) (tt := tYes) rfl sc_law_bytes.nd rfl rfl (sw_true rfl rfl rfl (by decide +kernel)) (pi_range1 (by rfl) T.range (pa_cons (pv 2) pa_nil)) (blkOk_by (own := [("k", 4)]) (N := ["reads", "some", "size", "found", "k", "number"]) (sc := (defScope s_law_bytes)) (by decide +kernel)) (fun _ _ _ _ _ => (pg_name (i := 4) sc_law_bytes.nd rfl (by first | exact Or.inl rfl | exact Or.inr rfl) (by first | exact Or.inl rfl | exact Or.inr rfl))) (fun _ _ _ _ _ => pts_nil) (fun _ _ _ _ _ => pe_bl))
      (pss_cons (ps_for PassesOwn.never rfl (piT K (pv 1)) (pg_name (i := 5) sc_law_bytes.nd rfl (by first | exact Or.inl rfl | exact Or.inr rfl) (by first | exact Or.inl rfl | exact Or.inr rfl)) (pss_one (ps_for PassesOwn.never rfl (pi_range2 (by rfl) T.range (pa_cons (pe_ix (ixT K) (pe_ix (ixT K) (pv 0) (pv 5) (fun _ _ => rfl)) pe_int (fun _ _ => rfl)) (pa_cons (pe_ix (ixT K) (pe_ix (ixT K) (pv 0) (pv 5) (fun _ _ => rfl)) pe_int (fun _ _ => rfl)) pa_nil))) (pg_name (i := 4) sc_law_bytes.nd rfl (by first | exact Or.inl rfl | exact Or.inr rfl) (by first | exact Or.inl rfl | exact Or.inr rfl)) (pss_one (ps_asg pe_bl (pg_sub (pv 3) (pv 4) set_list))))))
      (pss_one (ps_ret (pv 3))))), ?_⟩
    refine ⟨_, rfl, _, rfl, by omega, by omega, fun D hD => ?_⟩
    refine lc_it (walk_range (lo := 0) (n := ((size : Nat) : Int).toNat)) (Cv H D fun j => .bl false) (cv0 hD) (fun _ _ _ _ => trivial) (fun j x H4 H5 hj p y => ?_) (fun H2 p => ?_)
    · obtain ⟨rfl, rfl⟩ := y
      exact ⟨rfl, cv_step p (Same.refl _) (by omega) rfl⟩
    · obtain ⟨p1, p2, p3⟩ := p
      have p3 : H2 D = some (.lst (bls size (bytesOf rs []))) := p3
      refine ⟨_, rfl, nb, rfl, ⟨_, SqT.of (p2 _ _ hnb)⟩, ?_⟩
      have hil : (inum nums).length = nums.length := inum_len nums
      refine for_tup (xs := inum nums) (fun i σ' H' => ∃ x4 x5, σ' = [some (.ref ar), some (.ref nb), some (.int (size : Int)), some (.ref D), x4, x5] ∧ Same H H' ∧ H' D = some (.lst (bls size (bytesOf rs (nums.take i))))) ⟨_, _, rfl, p2, p3⟩ (fun i σ' H' _ g => ?_) (fun i x σ' H' hx gg => ?_) (fun σ' H' gg => ?_)
      · obtain ⟨_, _, _, e, _⟩ := g
        exact SqT.of (e _ _ hnb)
      · obtain ⟨x4, x5, rfl, e1, hD1⟩ := gg
        have hi : i < nums.length := by have := (List.getElem?_eq_some_iff.mp hx).1; omega
        have hni : nums[i]? = some nums[i] := List.getElem?_eq_getElem hi
        rw [inum_get hni] at hx
        cases hx
        have hr := hn _ (List.mem_of_getElem? hni)
        obtain ⟨p2', hp2, hp3⟩ := pr_get2 hpr (List.getElem?_eq_getElem hr)
        have hpr2 : (pr.map V.ref)[nums[i]]? = some (.ref p2') := by rw [List.getElem?_map, hp2]; rfl
        have hgt := hrt _ (List.getElem_mem hr)
        generalize hrr : rs[nums[i]] = r at *
        refine ⟨_, rfl, _, rfl, ar, _, _, _, rfl, rfl, SqT.of (e1 _ _ har), atI_nat hpr2, p2', _, _, _, rfl, rfl, SqT.of (e1 _ _ hp3), atI_nat (j := 3) rfl, ?_⟩
        refine ⟨_, rfl, _, rfl, ar, _, _, _, rfl, rfl, SqT.of (e1 _ _ har), atI_nat hpr2, p2', _, _, _, rfl, rfl, SqT.of (e1 _ _ hp3), atI_nat (j := 4) rfl, ?_⟩
        refine ⟨_, _, rfl, ⟨by omega, by omega, by omega, by omega⟩, ?_⟩
        refine for_range (n := ((r.t : Int) - (r.f : Int)).toNat) (fun j σ' H' => ∃ x4, σ' = [some (.ref ar), some (.ref nb), some (.int (size : Int)), some (.ref D), x4, some (.int (nums[i] : Int))] ∧ Same H H' ∧ H' D = some (.lst (bls size fun x => bytesOf rs (nums.take i) x || (decide (r.f ≤ x) && decide (x < r.f + j))))) ⟨_, rfl, e1, ?_⟩ (fun j σ' H' hj gg => ?_) (fun σ' H' gg => ?_)
        · rw [hD1]
          congr 2
          unfold bls
          refine List.map_congr_left fun x _ => ?_
          show V.bl (bytesOf rs (nums.take i) x) = V.bl (bytesOf rs (nums.take i) x || (decide (r.f ≤ x) && decide (x < r.f + 0)))
          have : (decide (r.f ≤ x) && decide (x < r.f + 0)) = false := by
            by_cases z : r.f ≤ x
            · rw [decide_eq_false (p := x < r.f + 0) (by omega), Bool.and_false]
            · rw [decide_eq_false z, Bool.false_and]
          rw [this, Bool.or_false]
        · obtain ⟨x4, rfl, e2, hD2⟩ := gg
          have ek : (r.f : Int) + (j : Int) = ((r.f + j : Nat) : Int) := by omega
          refine (?_ : ∀ z : Int, z = ((r.f + j : Nat) : Int) → gName 4 (V.int z) _ _ _) _ ek
          rintro _ rfl
          refine ⟨_, rfl, _, rfl, D, _, _, r.f + j, rfl, rfl, hD2, by rw [bls_len]; exact ixN_nat (by omega), _, rfl, Same.mut e2 p1, ?_⟩
          rw [upd_same, bls_set (p' := fun x => bytesOf rs (nums.take i) x || (decide (r.f ≤ x) && decide (x < r.f + (j + 1)))) (by omega)]
          · show (bytesOf rs (nums.take i) (r.f + j) || (decide (r.f ≤ r.f + j) && decide (r.f + j < r.f + (j + 1)))) = true
            rw [decide_eq_true (by omega), decide_eq_true (by omega)]
            simp
          · intro x hx
            show (bytesOf rs (nums.take i) x || (decide (r.f ≤ x) && decide (x < r.f + (j + 1)))) = (bytesOf rs (nums.take i) x || (decide (r.f ≤ x) && decide (x < r.f + j)))
            congr 2
            by_cases z : x < r.f + j
            · rw [decide_eq_true z, decide_eq_true (by omega)]
            · rw [decide_eq_false z, decide_eq_false (by omega)]
        · obtain ⟨x4, rfl, e2, hD2⟩ := gg
          refine ⟨_, _, rfl, e2, ?_⟩
          rw [hD2, take_snoc hni]
          congr 2
          unfold bls
          refine List.map_congr_left fun x _ => ?_
          rw [bytes_snoc (by rw [List.getElem?_eq_getElem hr, hrr])]
          show V.bl (bytesOf rs (nums.take i) x || (decide (r.f ≤ x) && decide (x < r.f + ((r.t : Int) - (r.f : Int)).toNat))) = _
          congr 2
          by_cases z1 : r.f ≤ x
          · rw [decide_eq_true z1]
            congr 1
            by_cases z : x < r.t
            · rw [decide_eq_true z, decide_eq_true (by omega)]
            · rw [decide_eq_false z, decide_eq_false (by omega)]
          · rw [decide_eq_false z1, Bool.false_and, Bool.false_and]
      · obtain ⟨x4, x5, rfl, e1, hD1⟩ := gg
        rw [hil, List.take_length] at hD1
        exact ⟨_, rfl, q D H' e1 p1 hD1⟩
/-! ### runs -/
theorem sc_law_runs : FnScope ["there", "found", "k", "is_there", "begin", "end"] ["there"] (defScope s_law_runs) := ⟨rfl, rfl, rfl, by decide +kernel, rfl, by decide +kernel, by decide +kernel⟩
def spRuns : Sp := fun vs H Q _ => ∃ (a : Addr) (n : Nat) (p : Nat → Bool), vs = [.ref a] ∧ H a = some (.lst (bls n p)) ∧ n ≤ 20 ∧ ∀ t H', Same H H' → PairsT H' (.ref t) (runsL p n) → Q (.ref t) H'
theorem runs_succ (p : Nat → Bool) (n : Nat) : runsL p (n + 1) = stepR p (runsL p n) n := by
  unfold runsL
  rw [List.range_succ, List.foldl_append]
  rfl
/-- runs as new lists of two -/
structure RunN (H0 : Hp) (d : Addr) (acc : Prs) (H : Hp) : Prop where
  sm : Same H0 H
  nw : H0 d = none
  at_ : ∃ ps : List Addr, H d = some (.lst (ps.map V.ref)) ∧ ps.Nodup ∧ d ∉ ps ∧ (∀ p ∈ ps, H0 p = none) ∧ Paired (fun p (x : Nat × Nat) => H p = some (.lst [.int (x.1 : Int), .int (x.2 : Int)])) ps acc
theorem RunN.same {H0 H H' : Hp} {d : Addr} {acc : Prs} (h : RunN H0 d acc H) (e : Same H H') : RunN H0 d acc H' := by
  obtain ⟨ps, h1, h2, h3, h4, h5⟩ := h.at_
  exact ⟨h.sm.trans e, h.nw, ps, e _ _ h1, h2, h3, h4, pr_mono (fun _ _ q => e _ _ q) h5⟩
theorem ok_law_runs {f : Addr} {fd : FuncData} (T : Txt K mg) (F : FnP K "_law_runs" s_law_runs f fd) : FnOk P w K mg base CX0 1 f fd ["there"] spRuns := by
  refine FnP.okP F sc_law_runs (fun vs H Q E h => ?_) (fun cdv A outer s H vs Q E hr h => ?_)
  · obtain ⟨a, n, p, rfl, _⟩ := h
    rfl
  · obtain ⟨a, n, p, rfl, ha, hn, q⟩ := h
    refine ⟨_, (pss_cons (ps_set (i := 1) sc_law_runs.nd rfl (by first | exact Or.inl rfl | exact Or.inr rfl) (pe_lst pa_nil))
      (pss_cons (ps_for PassesOwn.never rfl (pi_enum (by rfl) T.enumerate (pa_cons (pv 0) pa_nil)) (pgT K rfl (pgs_cons (pg_name (i := 2) sc_law_runs.nd rfl (by first | exact Or.inl rfl | exact Or.inr rfl) (by first | exact Or.inl rfl | exact Or.inr rfl)) (pgs_cons (pg_name (i := 3) sc_law_runs.nd rfl (by first | exact Or.inl rfl | exact Or.inr rfl) (by first | exact Or.inl rfl | exact Or.inr rfl)) pgs_nil))) (pss_one (ps_if (PW.pt (pw_and (pt_val (pv 3)) (pw_and1 (PW.pt (pw_or (pt_cmpR op_eq (pv 2) pe_int (nomark _)) (pw_or1 (pt_not (pt_val (pe_ix (ixL K) (pv 0) (pe_op op_sub (pv 2) pe_int) (fun _ _ => rfl)))))))))) (pss_one (ps_expr (pe_bm PySem.F.plainAttrs_list PySem.F.slot_list_append PySem.F.type_list_append mt_append (pv 1) (pa_cons (pe_lst (pa_cons (pv 2) (pa_cons (pe_op op_add (pv 2) pe_int) pa_nil))) pa_nil)))) (pss_one (ps_if (pt_val (pv 3)) (pss_one (ps_asg (pe_op op_add (pv 2) pe_int) (pg_sub (pe_ix (ixL K) (pv 1) (pe_un un_neg pe_int) (fun _ _ => rfl)) pe_int set_list))) pss_nil)))))
      (pss_one (ps_ret (pe_callTy call_tuple_of (by rfl) T.tuple b_tuple (pa_cons (pe_lc (own := [("begin", 4), ("end", 5)]) (g := gLst K 2 (gCons (gName 4) (gCons (gName 5) gNil))) (tt := tYes) rfl sc_law_runs.nd (piL K (pv 1)) (blkOk_by (own := [("begin", 4), ("end", 5)]) (N := ["there", "found", "k", "is_there", "begin", "end"]) (sc := (defScope s_law_runs)) (by decide +kernel)) (fun _ _ _ _ _ => (pgL K rfl (pgs_cons (pg_name (i := 4) sc_law_runs.nd rfl (by first | exact Or.inl rfl | exact Or.inr rfl) (by first | exact Or.inl rfl | exact Or.inr rfl)) (pgs_cons (pg_name (i := 5) sc_law_runs.nd rfl (by first | exact Or.inl rfl | exact Or.inr rfl) (by first | exact Or.inl rfl | exact Or.inr rfl)) pgs_nil)))) (fun _ _ _ _ _ => pts_nil) (fun _ _ _ _ _ => (pe_tup (pa_cons (pv 4) (pa_cons (pv 5) pa_nil))))) pa_nil)))))), ?_⟩
    refine ⟨Nat.zero_le _, fun d hd => ?_⟩
    have e0 := Same.new (o := .lst []) hd
    have hbl := bls_len n p
    refine ⟨_, rfl, a, _, rfl, SqL.of (e0 _ _ ha), ?_⟩
    refine for_it (walk_enum (xs := bls n p)) (fun i σ' H' => ∃ x2 x3, σ' = [some (.ref a), some (.ref d), x2, x3, none, none] ∧ RunN H d (runsL p i) H') ⟨_, _, rfl, e0, hd, [], upd_same, List.nodup_nil, by simp, by simp, .nil⟩ (fun i σ' H' _ g => ?_) (fun i x σ' H' H'' hi gg y => ?_) (fun σ' H' gg => ?_)
    · obtain ⟨_, _, _, R⟩ := g
      exact SqL.of (R.sm _ _ ha)
    · obtain ⟨x2, x3, rfl, R⟩ := gg
      obtain ⟨TT, u, x, rfl, hT, rfl, eu, hx⟩ := y
      cases eu
      rw [hbl] at hi
      have ex : x = .bl (p i) := by
        have hx : (bls n p)[i]? = some x := hx
        unfold bls at hx
        rw [List.getElem?_map, List.getElem?_range hi] at hx
        exact (Option.some.inj hx).symm
      subst ex
      have eT := Same.new (o := .tup [.int (i : Nat), .bl (p i)]) hT
      have R1 := R.same eT
      refine ⟨TT, _, rfl, SqT.of upd_same, rfl, _, _, rfl, _, _, rfl, rfl, ?_⟩
      generalize upd H' TT (.tup [.int (i : Nat), .bl (p i)]) = H1 at R1 ⊢
      obtain ⟨ps, h1, h2, h3, h4, h5⟩ := R1.at_
      have hpl := pr_len h5
      have hrl := runs_len p i
      rw [runs_succ]
      have ro := runs_ok p i
      generalize runsL p i = acc at R1 h5 hpl hrl ro ⊢
      refine ⟨_, rfl, p i, rfl, ?_⟩
      -- the last of the runs, when the byte before is there
      have grow : p i = true → 0 < i → p (i - 1) = true → tAsg (tOp (rI0 fun i j => .int (i + j)) (tVar 2) (tC (.int 1))) (gSub (tOp (rIxL K) (tVar 1) (tUn (rU fun i => .int (-i)) (tC (.int 1)))) (tC (.int 1)) rSetL)
          { nx := fun σ' H' => ∃ x2 x3, σ' = [some (.ref a), some (.ref d), x2, x3, none, none] ∧ RunN H d (stepR p acc i) H', rt := Q } [some (.ref a), some (.ref d), some (.int (i : Int)), some (.bl (p i)), none, none] H1 := fun hp h0 hp1 => by
        obtain ⟨ys, b, eacc⟩ := ro.last h0 hp1
        subst eacc
        rcases snoc_cases ps with rfl | ⟨qs, pl, rfl⟩
        · simp at hpl
        have hql : qs.length = ys.length := by simpa using hpl
        have hlast : H1 pl = some (.lst [.int (b : Int), .int (i : Int)]) := by
          obtain ⟨y, z1, z2⟩ := pr_get h5 (i := qs.length) (x := pl) (by rw [List.getElem?_append_right (Nat.le_refl _), Nat.sub_self]; rfl)
          rw [hql, List.getElem?_append_right (Nat.le_refl _), Nat.sub_self] at z1
          cases z1
          exact z2
        refine ⟨_, rfl, _, _, rfl, rfl, ?_⟩
        rw [List.map_append] at h1
        refine ⟨_, rfl, 1, rfl, d, _, _, .ref pl, rfl, rfl, SqL.of h1, atI_last _ _, pl, _, 1, 1, rfl, rfl, hlast, rfl, _, _, rfl, ?_⟩
        have hst : stepR p (ys ++ [(b, i)]) i = ys ++ [(b, i + 1)] := by
          unfold stepR
          rw [if_neg (by rw [hp, hp1]; simp; omega), if_pos hp, List.dropLast_concat, List.getLastD_concat]
        rw [hst]
        have hnd := List.nodup_append.mp h2
        have hpd : pl ≠ d := fun z => h3 (z ▸ List.mem_append_right _ (List.mem_singleton.mpr rfl))
        refine ⟨Same.mut R1.sm (h4 pl (List.mem_append_right _ (List.mem_singleton.mpr rfl))), R1.nw, qs ++ [pl], ?_, h2, h3, h4, ?_⟩
        · rw [upd_ne (fun z => hpd z.symm), List.map_append]
          exact h1
        · refine pr_app (pr_of hql fun j p' y e1 e2 => ?_) (.cons ?_ .nil)
          · obtain ⟨y', z1, z2⟩ := pr_get h5 (i := j) (x := p') (by rw [List.getElem?_append_left (List.getElem?_eq_some_iff.mp e1).1]; exact e1)
            rw [List.getElem?_append_left (List.getElem?_eq_some_iff.mp e2).1, e2] at z1
            cases z1
            rw [upd_ne (fun z : p' = pl => hnd.2.2 p' (List.mem_of_getElem? e1) pl (List.mem_singleton.mpr rfl) z)]
            exact z2
          · rw [upd_same]
            show some (HO.lst [.int (b : Int), .int ((i : Int) + 1)]) = some (HO.lst [.int (b : Int), .int ((i + 1 : Nat) : Int)])
            rfl
      cases hp : p i with
      | false =>
        refine iteF (iteF ⟨_, rfl, false, rfl, iteF ⟨_, _, rfl, ?_⟩⟩)
        have : stepR p acc i = acc := by
          unfold stepR
          rw [hp]
          rfl
        rw [this]
        exact R1
      | true =>
        have new : (i = 0 ∨ p (i - 1) = false) → tDrop (tBM K "list" rAppend (tVar 1) (tCons (tLst (tCons (tVar 2) (tCons (tOp (rI0 fun i j => .int (i + j)) (tVar 2) (tC (.int 1))) tNil))) tNil))
            { nx := fun σ' H' => ∃ x2 x3, σ' = [some (.ref a), some (.ref d), x2, x3, none, none] ∧ RunN H d (stepR p acc i) H', rt := Q } [some (.ref a), some (.ref d), some (.int (i : Int)), some (.bl (p i)), none, none] H1 := fun hc => by
          refine ⟨_, rfl, .inl ⟨rfl, _, SqL.of h1⟩, _, rfl, _, rfl, _, _, rfl, rfl, by show 2 ≤ sizeLine; decide, fun t ht => ?_⟩
          have et := Same.new (o := .lst [.int (i : Int), .int ((i : Int) + 1)]) ht
          refine ⟨d, _, _, rfl, rfl, et _ _ h1, by rw [List.length_map]; exact sz (by omega), _, _, rfl, ?_⟩
          have hst : stepR p acc i = acc ++ [(i, i + 1)] := by
            unfold stepR
            rw [if_pos]
            rw [hp]
            rcases hc with c | c
            · subst c; rfl
            · rw [c]; simp
          rw [hst]
          have htd : t ≠ d := fun z => by rw [z, h1] at ht; cases ht
          have htp : t ∉ ps := fun hm => by
            obtain ⟨j, hj⟩ := List.mem_iff_getElem?.mp hm
            obtain ⟨y, _, z⟩ := pr_get h5 hj
            rw [ht] at z
            cases z
          refine ⟨Same.mut (R1.sm.trans et) R1.nw, R1.nw, ps ++ [t], ?_, ?_, ?_, ?_, ?_⟩
          · rw [upd_same, List.map_append]
            rfl
          · rw [List.nodup_append]
            refine ⟨h2, by simp, fun x hx y hy => ?_⟩
            rintro rfl
            exact htp ((List.mem_singleton.mp hy) ▸ hx)
          · intro hm
            rcases List.mem_append.mp hm with z | z
            · exact h3 z
            · exact htd (List.mem_singleton.mp z).symm
          · intro x hx
            rcases List.mem_append.mp hx with z | z
            · exact h4 x z
            · rw [List.mem_singleton.mp z]
              exact Same.free R1.sm ht
          · refine pr_app (pr_of hpl fun j p' y e1 e2 => ?_) (.cons ?_ .nil)
            · obtain ⟨y', z1, z2⟩ := pr_get h5 e1
              rw [e2] at z1
              cases z1
              rw [upd_ne (fun z : p' = d => h3 (z ▸ List.mem_of_getElem? e1))]
              exact et _ _ z2
            · rw [upd_ne htd, upd_same]
              rfl
        rw [hp] at new grow
        refine iteT ⟨_, rfl, rfl, decide (i = 0), ?_, ?_⟩
        · by_cases z : i = 0
          · subst z; rfl
          · refine congrArg V.bl ?_
            rw [decide_eq_false z, decide_eq_false fun w => z (by have := V.int.inj w; omega)]
        · by_cases z : i = 0
          · rw [decide_eq_true z]
            exact iteT (iteT (new (.inl z)))
          · rw [decide_eq_false z]
            have hx2 : (bls n p)[i - 1]? = some (.bl (p (i - 1))) := by
              unfold bls
              rw [List.getElem?_map, List.getElem?_range (by omega)]
              rfl
            refine iteF ⟨_, rfl, _, rfl, _, _, rfl, rfl, a, _, _, _, rfl, rfl, SqL.of (R1.sm _ _ ha), ?_, p (i - 1), rfl, ?_⟩
            · rw [show ((i : Nat) : Int) - 1 = ((i - 1 : Nat) : Int) by omega]
              exact atI_nat hx2
            · cases hp1 : p (i - 1) with
              | false => exact iteT (new (.inr hp1))
              | true => exact iteF ⟨_, rfl, true, rfl, iteT (grow rfl (by omega) hp1)⟩
    · obtain ⟨x2, x3, rfl, R⟩ := gg
      rw [hbl] at R
      obtain ⟨ps, h1, h2, h3, h4, h5⟩ := R.at_
      have hpl := pr_len h5
      have hrl := runs_len p n
      refine ⟨_, rfl, d, rfl, ⟨_, SqL.of h1⟩, fun D hD => ?_⟩
      refine lc_it (walk_list (xs := ps.map V.ref)) (Ct H' D fun m => match (runsL p n)[m]? with | some x => [.int (x.1 : Int), .int (x.2 : Int)] | none => []) (ct0 hD) (fun i H2 _ p => SqL.of (p.2.1 _ _ h1)) (fun i x H2 H3 hi p' y => ?_) (fun H2 p' => ?_)
      · obtain ⟨rfl, hx⟩ := y
        obtain ⟨t, z, rfl, hti, hzi, hz⟩ := pr_item h5 hx
        refine ⟨t, _, rfl, SqL.of (p'.2.1 _ _ hz), rfl, _, _, rfl, _, _, rfl, rfl, rfl, ?_⟩
        refine ⟨_, rfl, _, rfl, by show 2 ≤ sizeLine; decide, fun u hu => ct_step p' (Same.new hu) (by rw [List.length_map] at hi; omega) (Same.free p'.2.1 hu) ?_⟩
        rw [upd_same]
        simp only [hzi]
      · obtain ⟨p1, p2, qs, p3, p4, p5⟩ := p'
        rw [List.length_map] at p4
        refine ⟨D, _, rfl, .inl ⟨SqL.of p3, fun t ht => ?_⟩⟩
        have et := Same.new (o := .tup (qs.map V.ref)) ht
        refine q t _ ((R.sm.trans p2).trans et) ⟨t, qs, rfl, upd_same, pr_of (by omega) fun i b x e1 e2 => ?_⟩
        have := (p5 i b e1).2
        simp only [e2] at this
        exact et _ _ this
end
end W24
set_option maxHeartbeats 4000000
set_option profiler true
set_option profiler.threshold 2000
/-! W19: what the law asks of a fetch. -/
namespace W24
open PySem PySem.Spec PyProof.Rows L2
def CalG (P : Program) (w : World) (K : PySem.W.Frag) (mg : Str → Option Value) (base : Heap) (k : Nat) (x : Str) (ps : List Str) (sp : Sp) : Prop :=
  ∃ f fd, mg x = some (.ref f) ∧ PySem.W.keepIn K (.ref f) = true ∧ Binds K fd ps [] ∧ FnOkG P w K mg base k f fd ps sp
section
variable {X : Cx} {k : Nat} {x : Str} {ps : List Str} {sp : Sp} {p pos : Pos} {e : Expr} {es : List Expr} {t : TA}
theorem pe_calG (C : CalG X.prog X.w X.K X.mg X.base k x ps sp) (hG : X.A.guards = some []) (hr : Room k X.A) (ha : PA X (e :: es) t) (hg : Gl X x := by rfl)
    (hdb : (x == ("__debug__" : Str)) = false := by decide) (he : starEach (e :: es) X.env = (false, eval e X.env) :: starEach es X.env := by rfl) (hpl : (backTo pos (starEach es X.env)).any (·.1) = false := by rfl) :
    PE X (.Call (.Name x p) (e :: es) [] pos) (tCal sp t) := by
  obtain ⟨f, fd, hm, hk, hb, F⟩ := C
  have q := pe_callG0 (p := p) (pos := pos) F hG hr hg hm hk hb ha hdb he hpl
  have e : tCall sp [] E0 t = tCal sp t := by
    funext σ H Q
    unfold tCall tCal
    simp only [List.append_nil]
  rw [← e]
  exact q
end
theorem Dfn.calG {P : Program} {w : World} {K : PySem.W.Frag} {mg : Str → Option Value} {base : Heap} {at_ nm : Str} {st : Stmt} {k : Nat} {ps : List Str} {sp : Sp} (D : Dfn K mg at_ nm st) (ok : ∀ f fd, FnP K nm st f fd → FnOkG P w K mg base k f fd ps sp)
    (hb : ∀ (kV doc pm : Value) (an : Option Addr) (cdv ct : Value) (us : List Value), us.length = ps.length → bindArgs (PySem.W.fnOf nm nm (defArgs st) (defBody st) (defScope st) .none kV doc pm an cdv ct) ⟨us, []⟩ = pure (ps.zip us)) :
    CalG P w K mg base k at_ ps sp := by
  obtain ⟨f, fd, F, hm⟩ := D
  exact ⟨f, fd, hm, F.kp, FunD.bindsN F hb, ok f fd F⟩
theorem Sb.ft {s c l : Addr} {B : Nat} {H H' : Hp} (e : Sb s l H H') (h : StH H s c l B) {v : V} {F : Ft} (x : FtAt H v F) : FtAt H' v F := by
  obtain ⟨a, vh, vr, vc, ev, h1, h2, ⟨ar, pr, er, h3, h4⟩, ⟨ac, pc, ec, h5, h6⟩⟩ := x
  exact ⟨a, vh, vr, vc, ev, e.tup h h1, e.house h h2, ⟨ar, pr, er, e.tup h h3, pr_mono (fun _ _ q => e.tup h q) h4⟩, ⟨ac, pc, ec, e.tup h h5, pr_mono (fun _ _ q => e.tup h q) h6⟩⟩
/-! ### the first of the best -/
structure BestF (F : Ft) (gs : List (List Nat)) (c : List Nat) (j : Nat) : Prop where
  at_ : gs[j]? = some c
  max : ∀ d ∈ gs, cntF F d ≤ cntF F c
  fst : ∀ i d, i < j → gs[i]? = some d → cntF F d < cntF F c
theorem best_inv {F : Ft} : ∀ (l done : List (List Nat)) (acc : Option (List Nat)), (match acc with | none => done = [] | some c => ∃ j, BestF F done c j) → ∀ c, l.foldl (bestStep F) acc = some c → ∃ j, BestF F (done ++ l) c j
  | [], done, acc, h, c, e => by
    have e : acc = some c := e
    subst e
    rw [List.append_nil]
    exact h
  | d :: l, done, acc, h, c, e => by
    have h2 : (match bestStep F acc d with | none => done ++ [d] = [] | some c => ∃ j, BestF F (done ++ [d]) c j) := by
      cases acc with
      | none =>
        have h : done = [] := h
        subst h
        exact ⟨0, rfl, fun x hx => by rw [List.mem_singleton.mp hx]; exact Nat.le_refl _, fun i d hi _ => by omega⟩
      | some b =>
        obtain ⟨j, h1, h2, h3⟩ := h
        have hj := (List.getElem?_eq_some_iff.mp h1).1
        unfold bestStep
        simp only
        by_cases z : cntF F d > cntF F b
        · rw [if_pos z]
          refine ⟨done.length, by rw [List.getElem?_append_right (Nat.le_refl _), Nat.sub_self]; rfl, fun x hx => ?_, fun i x hi hx => ?_⟩
          · rcases List.mem_append.mp hx with q | q
            · have := h2 x q; omega
            · rw [List.mem_singleton.mp q]; exact Nat.le_refl _
          · rw [List.getElem?_append_left hi] at hx
            have := h2 x (List.mem_of_getElem? hx)
            omega
        · rw [if_neg z]
          refine ⟨j, by rw [List.getElem?_append_left hj]; exact h1, fun x hx => ?_, fun i x hi hx => ?_⟩
          · rcases List.mem_append.mp hx with q | q
            · exact h2 x q
            · rw [List.mem_singleton.mp q]; omega
          · rw [List.getElem?_append_left (by omega)] at hx
            exact h3 i x hi hx
    have := best_inv l (done ++ [d]) (bestStep F acc d) h2 c e
    rw [List.append_assoc] at this
    exact this
theorem bestL_spec {F : Ft} {gs : List (List Nat)} {c : List Nat} (h : bestL F gs = some c) : ∃ j, BestF F gs c j := best_inv gs [] none rfl c h
theorem cntF_eq (F : Ft) (c : List Nat) : cntF F c = ((List.range F.size).filter (bytesOf F.rs c)).length := (runs_ok _ _).sum
theorem inum_snoc (l : List Nat) (k : Nat) : inum l ++ [.int (k : Int)] = inum (l ++ [k]) := by
  unfold inum
  rw [List.map_append]
  rfl
section
variable {P : Program} {w : World} {K : PySem.W.Frag} {mg : Str → Option Value} {base : Heap}
theorem two {m : Nat} {a b : PyData} (h1 : Sm m a) (h2 : Sm m b) : ∀ d ∈ [a, b], Sm m d := fun d hd => by
  rcases List.mem_cons.mp hd with rfl | hd
  · exact h1
  · rw [List.mem_singleton.mp hd]; exact h2
theorem four {m : Nat} {a b c e : PyData} (h1 : Sm m a) (h2 : Sm m b) (h3 : Sm m c) (h4 : Sm m e) : ∀ d ∈ [a, b, c, e], Sm m d := fun d hd => by
  rcases List.mem_cons.mp hd with rfl | hd
  · exact h1
  · rcases List.mem_cons.mp hd with rfl | hd
    · exact h2
    · exact two h3 h4 d hd
theorem lay2 {a b : List PyData} (h1 : PyData.canLayAll0 a = true) (h2 : PyData.canLayAll0 b = true) : PyData.canLayAll0 [.tuple a, .tuple b] = true := by
  show (PyData.canLayAll0 a && (PyData.canLayAll0 b && true)) = true
  rw [h1, h2]
  rfl
theorem lay4 {a c : List PyData} {b e : PyData} (h1 : PyData.canLayAll0 a = true) (h2 : PyData.canLay0 b = true) (h3 : PyData.canLayAll0 c = true) (h4 : PyData.canLay0 e = true) : PyData.canLayAll0 [.tuple a, b, .tuple c, e] = true := by
  show (PyData.canLayAll0 a && (PyData.canLay0 b && (PyData.canLayAll0 c && (PyData.canLay0 e && true)))) = true
  rw [h1, h2, h3, h4]
  rfl
theorem dep2 {a b : List PyData} (h1 : PyData.depthAll a ≤ 1) (h2 : PyData.depthAll b ≤ 1) : PyData.depthAll [.tuple a, .tuple b] ≤ 4 := by
  show max (PyData.depthAll a + 1) (max (PyData.depthAll b + 1) 0) ≤ 4
  omega
theorem dep4 {a b c e : PyData} (h1 : a.depth ≤ 2) (h2 : b.depth ≤ 2) (h3 : c.depth ≤ 2) (h4 : e.depth ≤ 2) : PyData.depthAll [a, b, c, e] ≤ 4 := by
  show max a.depth (max b.depth (max c.depth (max e.depth 0))) ≤ 4
  omega
theorem depN (l : List Nat) : (PyData.tuple (dNums l)).depth ≤ 2 := by
  show PyData.depthAll (dNums l) + 1 ≤ 2
  have := dep_nums l
  omega
theorem depP (l : Prs) : (PyData.tuple (dPairs l)).depth ≤ 2 := by
  show PyData.depthAll (dPairs l) + 1 ≤ 2
  have := dep_pairs l
  omega
theorem depI (i : Int) : (PyData.int i).depth ≤ 2 := Nat.zero_le 2
theorem depB (b : Bool) : (PyData.bool b).depth ≤ 2 := Nat.zero_le 2
theorem sm_runs (p : Nat → Bool) {n : Nat} (h : n ≤ 10) : Sm 500 (.tuple (dPairs (runsL p n))) := by
  have R := runs_ok p n
  have hl := runs_len p n
  exact sm_pairs (fun x hx => by have := R.le x hx; have := R.nrm.2 x hx; omega) (by omega)
theorem neq_self (x : Str) : V.bl (!decide (V.str x = V.str x)) = V.bl false := by
  rw [decide_eq_true rfl]
  rfl
theorem eqV_int (i : Int) : eqV (.int i) (.int i) = true := by
  show (i == i) = true
  simp
theorem eqV_ne {i j : Int} (h : i ≠ j) : eqV (.int i) (.int j) = false := beq_eq_false_iff_ne.mpr h
theorem arr_bd {F : Ft} (g : GoodF F) : ∀ i j s, arr F i j = some s → i < F.rs.length ∧ j < F.rs.length := by
  unfold arr
  refine foldl_inv (P := fun A : Arr => ∀ i j s, A i j = some s → i < F.rs.length ∧ j < F.rs.length) F.cs (arr0 F) (fun i j s z => ?_) (fun A c hc h => ?_)
  · unfold arr0 at z
    by_cases w : rArr F i j = true
    · exact rArr_lt w
    · rw [if_neg w] at z; cases z
  · have gc := g.ck c hc
    have put : ∀ (A : Arr) a b v, (∀ i j s, A i j = some s → i < F.rs.length ∧ j < F.rs.length) → a < F.rs.length → b < F.rs.length → ∀ i j s, putR A a b v i j = some s → i < F.rs.length ∧ j < F.rs.length := fun A a b v h ha hb i j s z => by
      unfold putR at z
      by_cases w : i = a ∧ j = b
      · rw [w.1, w.2]; exact ⟨ha, hb⟩
      · rw [if_neg w] at z; exact h i j s z
    rcases word_eq gc with ⟨_, e⟩ | ⟨_, e⟩ | ⟨_, e⟩
    · rw [e]
      exact put _ _ _ _ (put _ _ _ _ h gc.o gc.a) gc.a gc.o
    · rw [e]
      exact put _ _ _ _ h gc.a gc.o
    · rw [e]
      exact put _ _ _ _ h gc.o gc.a
/-- glue if glue != () else (len(reads) - 1,) -/
theorem glue_if {σ : L2.St} {H : Hp} {Q : VK} {t ar n : Nat} {nums : List Nat} {xs : List V} (h6 : σ[6]? = some (some (.ref t))) (h4 : σ[4]? = some (some (.ref ar))) (ht : H t = some (.tup (inum nums))) (har : H ar = some (.tup xs)) (hn : xs.length = n) (h1 : 1 ≤ n) (h8 : n ≤ 8)
    (asc : nums.Pairwise (· < ·)) (lt : ∀ x ∈ nums, x < n) (len : nums.length ≤ 8) (q : ∀ (gt : Addr) (glue : List Nat) H', Same H H' → H' gt = some (.tup (inum glue)) → glue ≠ [] → glue.Pairwise (· < ·) → (∀ x ∈ glue, x < n) → glue.length ≤ 8 → Q (.ref gt) H') :
    tIf (tTest (tOp (rNeD K) (tVar 6) (tTup tNil))) (tVar 6) (tTup (tCons (tOp (rI0 fun i j => .int (i - j)) (tCB (rLenQ K) (tCons (tVar 4) tNil)) (tC (.int 1))) tNil)) σ H Q := by
  refine ⟨_, h6, Nat.zero_le _, fun p hp => ?_⟩
  have e1 := Same.new (o := .tup []) hp
  refine ⟨.tuple (dNums nums), .tuple [], .tup (SqT.of (e1 _ _ ht)) (dp_nums nums), .tup (SqT.of upd_same) .nil, (shp (lay_nums _) (dep_nums _) (by decide)).2, rfl, !(dNums nums).isEmpty, congrArg (fun b => V.bl (!b)) (eqv_nil _), ?_⟩
  cases nums with
  | nil =>
    refine iteF ⟨_, h4, ar, xs, rfl, .inr (SqT.of (e1 _ _ har)), _, _, rfl, rfl, by show 1 ≤ sizeLine; decide, fun p2 hp2 => ?_⟩
    refine q p2 [n - 1] _ (e1.trans (Same.new hp2)) ?_ (by simp) (List.pairwise_singleton _ _) (fun x hx => by rw [List.mem_singleton.mp hx]; omega) (by show 1 ≤ 8; decide)
    rw [upd_same, hn]
    show some (HO.tup [V.int ((n : Int) - 1)]) = some (HO.tup [V.int ((n - 1 : Nat) : Int)])
    rw [show (n : Int) - 1 = ((n - 1 : Nat) : Int) by omega]
  | cons x nums => exact iteT ⟨_, h6, q t (x :: nums) _ e1 (e1 _ _ ht) (by simp) asc lt len⟩
theorem sc_law_right : FnScope ["state", "fetch", "house", "size", "reads", "tests", "glue", "k", "due", "groups", "counts", "is_there", "group", "first", "left", "told"] ["state", "fetch"] (defScope s_law_right) := ⟨rfl, rfl, rfl, by decide +kernel, rfl, by decide +kernel, by decide +kernel⟩
def spRight : Sp := fun vs H Q _ => ∃ (s c l p : Addr) (B : Nat) (F : Ft) (g : AL Nat), vs = [.ref s, .ref p] ∧ StH H s c l B ∧ B ≤ 4900 ∧ FtAt H (.ref p) F ∧ GoodF F ∧ gapsL (arr F) F.rs.length = some g ∧ ∀ H', StH H' s c l (B + 8) → Sb s l H H' → Q (.bl true) H'
theorem ok_law_right {f : Addr} {fd : FuncData} (T : Txt K mg) (c_law_draw : Cal P w K mg base 2 "_law_draw" ["state", "many"] spDraw) (c_law_bytes : Cal P w K mg base 1 "_law_bytes" ["reads", "some", "size"] spBytes) (c_law_runs : Cal P w K mg base 1 "_law_runs" ["there"] spRuns)
    (c_law_groups : Cal P w K mg base 4 "_law_groups" ["fetch"] spGroups) (c_cover : Cal P w K mg base 6 "cover" ["fetch", "glue"] spCov) (c_best : Cal P w K mg base 7 "best" ["fetch"] spBest) (c_most_kept : Cal P w K mg base 7 "most_kept" ["fetch"] spMost)
    (c_missing : Cal P w K mg base 7 "missing" ["fetch"] spMissing) (c_is_whole_kept : Cal P w K mg base 8 "is_whole_kept" ["fetch"] spIsWhole)
    (F : FnP K "_law_right" s_law_right f fd) : FnOkG P w K mg base 9 f fd ["state", "fetch"] spRight := by
  refine fnG_of F sc_law_right (fun vs H Q E h => ?_) (fun cdv A outer s H vs Q E hG hr h => ?_)
  · obtain ⟨s, c, l, p, B, F, g, rfl, _⟩ := h
    rfl
  · obtain ⟨s, c, l, p, B, F, g, rfl, S, hB, hF, gF, hg, q⟩ := h
    have hn8 := gF.r2
    have hn1 := gF.r1
    have hs10 := gF.s2
    refine ⟨_, (pss_cons (ps_asg (pv 1) (pgT K rfl (pgs_cons (pg_name (i := 2) sc_law_right.nd rfl (by first | exact Or.inl rfl | exact Or.inr rfl) (by first | exact Or.inl rfl | exact Or.inr rfl)) (pgs_cons (pg_name (i := 3) sc_law_right.nd rfl (by first | exact Or.inl rfl | exact Or.inr rfl) (by first | exact Or.inl rfl | exact Or.inr rfl)) (pgs_cons (pg_name (i := 4) sc_law_right.nd rfl (by first | exact Or.inl rfl | exact Or.inr rfl) (by first | exact Or.inl rfl | exact Or.inr rfl)) (pgs_cons (pg_name (i := 5) sc_law_right.nd rfl (by first | exact Or.inl rfl | exact Or.inr rfl) (by first | exact Or.inl rfl | exact Or.inr rfl)) pgs_nil))))))
      (pss_cons (ps_set (i := 6) sc_law_right.nd rfl (by first | exact Or.inl rfl | exact Or.inr rfl) (pe_callTy call_tuple_of (by rfl) T.tuple b_tuple (pa_cons (pe_lc (own := [("k", 7)]) (g := gName 7) rfl sc_law_right.nd (pi_range1 (by rfl) T.range (pa_cons (pe_callB (lenQ K) (by rfl) T.len b_len (pa_cons (pv 4) pa_nil)) pa_nil)) (blkOk_by (own := [("k", 7)]) (N := ["state", "fetch", "house", "size", "reads", "tests", "glue", "k", "due", "groups", "counts", "is_there", "group", "first", "left", "told"]) (sc := (defScope s_law_right)) (by decide +kernel)) (fun _ _ _ _ _ => (pg_name (i := 7) sc_law_right.nd rfl (by first | exact Or.inl rfl | exact Or.inr rfl) (by first | exact Or.inl rfl | exact Or.inr rfl))) (fun _ _ _ _ _ => (pts_one (pt_cmpR op_eq (pe_cal c_law_draw (hr.mono (by decide)) (pa_cons (pv 0) (pa_cons pe_int pa_nil))) pe_int (nomark _)))) (fun _ _ _ _ _ => (pv 7))) pa_nil)))
      (pss_cons (ps_set (i := 6) sc_law_right.nd rfl (by first | exact Or.inl rfl | exact Or.inr rfl) (pe_ifExp (pt_cmpR (op_neD hr.units) (pv 6) (pe_tup pa_nil) (nomark _)) (pv 6) (pe_tup (pa_cons (pe_op op_sub (pe_callB (lenQ K) (by rfl) T.len b_len (pa_cons (pv 4) pa_nil)) pe_int) pa_nil))))
      (pss_cons (ps_set (i := 8) sc_law_right.nd rfl (by first | exact Or.inl rfl | exact Or.inr rfl) (pe_cal c_law_runs (hr.mono (by decide)) (pa_cons (pe_cal c_law_bytes (hr.mono (by decide)) (pa_cons (pv 4) (pa_cons (pv 6) (pa_cons (pv 3) pa_nil)))) pa_nil)))
      (pss_cons (ps_if (pt_cmpR op_ne (pe_callB (call_reprL hr hG) (by rfl) T.repr b_repr (pa_cons (pe_lst (pa_cons (pe_cal c_cover (hr.mono (by decide)) (pa_cons (pv 1) (pa_cons (pv 6) pa_nil))) (pa_cons (pe_cal c_cover (hr.mono (by decide)) (pa_cons (pv 1) (pa_cons (pv 6) pa_nil))) pa_nil))) pa_nil)) (pe_callB (call_reprL hr hG) (by rfl) T.repr b_repr (pa_cons (pe_lst (pa_cons (pv 8) (pa_cons (pv 8) pa_nil))) pa_nil)) (nomark _)) (pss_one (ps_ret pe_bl)) pss_nil)
      (pss_cons (ps_set (i := 9) sc_law_right.nd rfl (by first | exact Or.inl rfl | exact Or.inr rfl) (pe_cal c_law_groups (hr.mono (by decide)) (pa_cons (pv 1) pa_nil)))
      (pss_cons (ps_setLc (i := 10) (own := [("group", 12)]) (g := gName 12) (tt := tYes) rfl sc_law_right.nd rfl rfl (sw_true rfl rfl rfl (by decide +kernel)) (piL K (pv 9)) (blkOk_by (own := [("group", 12)]) (N := ["state", "fetch", "house", "size", "reads", "tests", "glue", "k", "due", "groups", "counts", "is_there", "group", "first", "left", "told"]) (sc := (defScope s_law_right)) (by decide +kernel)) (fun _ _ _ _ _ => (pg_name (i := 12) sc_law_right.nd rfl (by first | exact Or.inl rfl | exact Or.inr rfl) (by first | exact Or.inl rfl | exact Or.inr rfl))) (fun _ _ _ _ _ => pts_nil) (fun _ _ _ _ _ => (pe_callB (lenQ K) (by rfl) T.len b_len (pa_cons (pe_lc (own := [("is_there", 11)]) (g := gName 11) rfl sc_law_right.nd (piL K (pe_cal c_law_bytes (hr.mono (by decide)) (pa_cons (pv 4) (pa_cons (pv 12) (pa_cons (pv 3) pa_nil))))) (blkOk_by (own := [("is_there", 11)]) (N := ["state", "fetch", "house", "size", "reads", "tests", "glue", "k", "due", "groups", "counts", "is_there", "group", "first", "left", "told"]) (sc := (relS _ (defScope s_law_right))) (by decide +kernel)) (fun _ _ _ _ _ => (pg_name (i := 11) sc_law_right.nd rfl (by first | exact Or.inl rfl | exact Or.inr rfl) (by first | exact Or.inl rfl | exact Or.inr rfl))) (fun _ _ _ _ _ => (pts_one (pt_val (pv 11)))) (fun _ _ _ _ _ => pe_int)) pa_nil))))
      (pss_cons (ps_set (i := 13) sc_law_right.nd rfl (by first | exact Or.inl rfl | exact Or.inr rfl) (pe_ix (ixL K) (pv 9) (pe_bm PySem.F.plainAttrs_list PySem.F.slot_list_index PySem.F.type_list_index mt_index (pv 10) (pa_cons (pe_callB (cr_max rfl) (by rfl) T.max b_max (pa_cons (pv 10) pa_nil)) pa_nil)) (fun _ _ => rfl)))
      (pss_cons (ps_if (pt_cmpR op_ne (pe_callB (call_reprL hr hG) (by rfl) T.repr b_repr (pa_cons (pe_op op_rep (pe_lst (pa_cons (pe_cal c_best (hr.mono (by decide)) (pa_cons (pv 1) pa_nil)) (pa_cons (pe_cal c_most_kept (hr.mono (by decide)) (pa_cons (pv 1) pa_nil)) pa_nil))) pe_int) pa_nil)) (pe_callB (call_reprL hr hG) (by rfl) T.repr b_repr (pa_cons (pe_lst (pa_cons (pv 13) (pa_cons (pe_callB (cr_max rfl) (by rfl) T.max b_max (pa_cons (pv 10) pa_nil)) (pa_cons (pe_cal c_best (hr.mono (by decide)) (pa_cons (pv 1) pa_nil)) (pa_cons (pe_cal c_most_kept (hr.mono (by decide)) (pa_cons (pv 1) pa_nil)) pa_nil))))) pa_nil)) (nomark _)) (pss_one (ps_ret pe_bl)) pss_nil)
      (pss_cons (ps_set (i := 14) sc_law_right.nd rfl (by first | exact Or.inl rfl | exact Or.inr rfl) (pe_cal c_law_runs (hr.mono (by decide)) (pa_cons (pe_lc (own := [("is_there", 11)]) (g := gName 11) (tt := tYes) rfl sc_law_right.nd (piL K (pe_cal c_law_bytes (hr.mono (by decide)) (pa_cons (pv 4) (pa_cons (pv 13) (pa_cons (pv 3) pa_nil))))) (blkOk_by (own := [("is_there", 11)]) (N := ["state", "fetch", "house", "size", "reads", "tests", "glue", "k", "due", "groups", "counts", "is_there", "group", "first", "left", "told"]) (sc := (defScope s_law_right)) (by decide +kernel)) (fun _ _ _ _ _ => (pg_name (i := 11) sc_law_right.nd rfl (by first | exact Or.inl rfl | exact Or.inr rfl) (by first | exact Or.inl rfl | exact Or.inr rfl))) (fun _ _ _ _ _ => pts_nil) (fun _ _ _ _ _ => (pe_not (pv 11)))) pa_nil)))
      (pss_cons (ps_set (i := 15) sc_law_right.nd rfl (by first | exact Or.inl rfl | exact Or.inr rfl) (pe_lst (pa_cons (pe_cal c_missing (hr.mono (by decide)) (pa_cons (pv 1) pa_nil)) (pa_cons (pe_cal c_is_whole_kept (hr.mono (by decide)) (pa_cons (pv 1) pa_nil)) (pa_cons (pe_cal c_missing (hr.mono (by decide)) (pa_cons (pv 1) pa_nil)) (pa_cons (pe_cal c_is_whole_kept (hr.mono (by decide)) (pa_cons (pv 1) pa_nil)) pa_nil))))))
      (pss_one (ps_ret (pe_cmpR op_eq (pe_callB (call_reprL hr hG) (by rfl) T.repr b_repr (pa_cons (pv 15) pa_nil)) (pe_callB (call_reprL hr hG) (by rfl) T.repr b_repr (pa_cons (pe_op op_rep (pe_lst (pa_cons (pv 14) (pa_cons (pe_cmpR (op_eqD hr.units) (pv 14) (pe_tup pa_nil) (nomark _)) pa_nil))) pe_int) pa_nil)) (nomark _))))))))))))))), ?_⟩
    have hF0 := hF
    obtain ⟨p', vh, vr, vc, ep, ha, hh, hR, hc⟩ := hF
    cases ep
    have hR0 := hR
    obtain ⟨ar, pr, rfl, har, hpr⟩ := hR
    have hlr : (pr.map V.ref).length = F.rs.length := by rw [List.length_map, pr_len hpr]
    refine ⟨_, rfl, p, _, rfl, SqT.of ha, rfl, _, _, rfl, _, _, rfl, _, _, rfl, _, _, rfl, rfl, ?_⟩
    refine ⟨_, rfl, ar, _, rfl, .inr (SqT.of har), _, rfl, by omega, by omega, fun D hD => ?_⟩
    have ne3 := S.ne3 hD
    refine lc_it (walk_range (lo := 0) (n := ((pr.map V.ref).length : Int).toNat)) (fun i H2 => ∃ nums : List Nat, H D = none ∧ StH H2 s c l (B + i) ∧ Sb s l H H2 ∧ H2 D = some (.lst (inum nums)) ∧ nums.Pairwise (· < ·) ∧ (∀ x ∈ nums, x < i) ∧ nums.length ≤ i) ⟨[], hD, S.same (Same.new hD), Sb.of (Same.new hD), upd_same, List.Pairwise.nil, fun x hx => (by cases hx), Nat.le_refl _⟩ (fun _ _ _ _ => trivial) (fun i x H2 H3 hi g y => ?_) (fun H2 g => ?_)
    · obtain ⟨rfl, rfl⟩ := y
      obtain ⟨nums, k1, k2, k3, k4, k5, k6, k7⟩ := g
      refine ⟨rfl, _, rfl, s, c, l, B + i, 2, rfl, k2, by omega, by decide, by decide, fun r H4 hr2 S4 b4 => ?_⟩
      have hD4 := b4 D _ ne3.1 ne3.2.2 k4
      refine ⟨rfl, decide (r = 0), ?_, ?_⟩
      · refine congrArg V.bl ?_
        by_cases z : r = 0
        · subst z; rfl
        · rw [decide_eq_false z, decide_eq_false fun w => z (by have := V.int.inj w; omega)]
      · by_cases z : r = 0
        · rw [decide_eq_true z]
          refine iteT ⟨_, rfl, _, hD4, by rw [inum_len]; exact sz (by omega), nums ++ [i], k1, S4.upd ne3.1 ne3.2.1 ne3.2.2, fun b o b1 b2 hb => ?_, ?_, ?_, fun x hx => ?_, by rw [List.length_append, List.length_singleton]; omega⟩
          · rw [upd_ne (ne_of_none hb k1)]
            exact b4 b o b1 b2 (k3 b o b1 b2 hb)
          · rw [upd_same, ← inum_snoc]
            show some (HO.lst (inum nums ++ [V.int (0 + (i : Int))])) = _
            rw [Int.zero_add]
          · rw [List.pairwise_append]
            exact ⟨k5, List.pairwise_singleton _ _, fun x hx y hy => by rw [List.mem_singleton.mp hy]; exact k6 x hx⟩
          · rcases List.mem_append.mp hx with w | w
            · have := k6 x w; omega
            · rw [List.mem_singleton.mp w]; omega
        · rw [decide_eq_false z]
          exact iteF ⟨nums, k1, S4, k3.trans b4, hD4, k5, fun x hx => (by have := k6 x hx; omega), by omega⟩
    · obtain ⟨nums, k1, k2, k3, k4, k5, k6, k7⟩ := g
      refine ⟨D, _, rfl, .inl ⟨SqL.of k4, fun t ht => ?_⟩⟩
      have e1 := Same.new (o := .tup (inum nums)) ht
      have S3 : StH (upd H2 t (.tup (inum nums))) s c l (B + 8) := (k2.same e1).mono (by omega)
      have b3 : Sb s l H (upd H2 t (.tup (inum nums))) := k3.trans (Sb.of e1)
      have ht3 : (upd H2 t (.tup (inum nums))) t = some (.tup (inum nums)) := upd_same
      generalize upd H2 t (.tup (inum nums)) = H3 at S3 b3 ht3 ⊢
      -- from here on all is pure
      have F3 := b3.ft S hF0
      have har3 := b3.tup S har
      have q3 : ∀ H', Same H3 H' → Q (.bl true) H' := fun H' e => q H' (S3.same e) (b3.trans (Sb.of e))
      have R3 : RdsAt H3 (.ref ar) F.rs := ⟨ar, pr, rfl, har3, pr_mono (fun _ _ z => b3.tup S z) hpr⟩
      clear e1 k1 k2 k3 k4 b3 S3
      have hft : ∀ r ∈ F.rs, r.f < r.t ∧ r.t ≤ F.size := fun r hr => ⟨(gF.rd r hr).ft, (gF.rd r hr).t⟩
      refine glue_if (n := F.rs.length) rfl rfl ht3 har3 hlr hn1 hn8 k5 (fun x hx => (by have := k6 x hx; omega)) (by omega) fun gt glue H4 e4 hgt g1 g2 g3 g4 => ?_
      have A := arr_bd gF
      have G := gapsL_good A hg
      have E := eqvG G
      refine ⟨_, rfl, _, rfl, _, rfl, .ref ar, F.rs, gt, glue, F.size, rfl, R3.same e4, hft, hgt, g3, hs10, fun bl H5 e5 _ hbl => ?_⟩
      refine ⟨bl, F.size, bytesOf F.rs glue, rfl, hbl, by omega, fun du H6 e6 hdu => ?_⟩
      have e46 := e4.trans (e5.trans e6)
      have hgt6 := (e5.trans e6) _ _ hgt
      have F6 := F3.same e46
      have sR := sm_runs (bytesOf F.rs glue) hs10
      -- cover against the runs
      refine ⟨_, rfl, _, rfl, _, F, g, gt, glue, rfl, F6, gF, hg, hgt6, g1, g3, g2, g4, fun c1 H7 e7 hc1 => ?_⟩
      refine ⟨_, rfl, _, rfl, _, F, g, gt, glue, rfl, F6.same e7, gF, hg, e7 _ _ hgt6, g1, g3, g2, g4, fun c2 H8 e8 hc2 => ⟨by show 2 ≤ sizeLine; decide, fun l1 hl1 => ?_⟩⟩
      have e9 := Same.new (o := .lst [.ref c1, .ref c2]) hl1
      have rk := repr_ok (ds := [.tuple (dPairs (runsL (bytesOf F.rs glue) F.size)), .tuple (dPairs (runsL (bytesOf F.rs glue) F.size))]) (two sR sR) (by show 2 ≤ 4; decide) (lay2 (lay_pairs _) (lay_pairs _)) (dep2 (dep_pairs _) (dep_pairs _))
      refine ⟨_, _, rfl, .lst (SqL.of upd_same) (.cons (hc1.same (e8.trans e9)).dp (.cons (hc2.same e9).dp .nil)), (by intro z; cases z), rk.1, rk.2.1, rk.2.2.1, rk.2.2.2, ?_⟩
      refine ⟨_, rfl, _, rfl, by show 2 ≤ sizeLine; decide, fun l2 hl2 => ?_⟩
      have e10 := Same.new (o := .lst [.ref du, .ref du]) hl2
      have du2 := hdu.same (((e7.trans e8).trans e9).trans e10)
      refine ⟨_, _, rfl, .lst (SqL.of upd_same) (.cons du2.dp (.cons du2.dp .nil)), (by intro z; cases z), rk.1, rk.2.1, rk.2.2.1, rk.2.2.2, rfl, false, neq_self _, iteF ?_⟩
      have e410 := e46.trans (((e7.trans e8).trans e9).trans e10)
      generalize upd (upd H8 l1 (.lst [.ref c1, .ref c2])) l2 (.lst [.ref du, .ref du]) = H10 at e410 ⊢
      clear e9 e10 e8 e7 e6 e5 e46 du2 hc1 hc2 hdu hbl
      -- the groups
      refine ⟨_, rfl, _, F, g, rfl, F3.same e410, gF, hg, fun gl H11 e11 hgr => ?_⟩
      have e411 := e410.trans e11
      have hgsl := groups_len E
      have hgsn := groups_ne E (by omega)
      have hgm : ∀ d ∈ groupsL (eG g) F.rs.length F.rs.length, d.length ≤ 8 ∧ ∀ i ∈ d, i < F.rs.length := fun d hd => by
        obtain ⟨k, hk, rfl⟩ := groups_of E hd
        exact ⟨Nat.le_trans (mates_len k) hn8, fun i hi => (mates_mem.mp hi).1⟩
      have hbs : (bestL F (groupsL (eG g) F.rs.length F.rs.length)).isSome = true := by
        cases hh : groupsL (eG g) F.rs.length F.rs.length with
        | nil => exact absurd hh hgsn
        | cons d cs => exact bestL_some cs _ rfl
      generalize hgs : groupsL (eG g) F.rs.length F.rs.length = gs at *
      obtain ⟨cb, hcb⟩ := Option.isSome_iff_exists.mp hbs
      obtain ⟨j, BF⟩ := bestL_spec hcb
      have hcm := List.mem_of_getElem? BF.at_
      obtain ⟨hc8, hclt⟩ := hgm cb hcm
      obtain ⟨gl', gps, egl, hgl, hgp⟩ := hgr
      cases egl
      have hgpl : (gps.map V.ref).length = gs.length := by rw [List.length_map, pr_len hgp]
      -- the counts
      refine ⟨_, rfl, gl, rfl, ⟨_, SqL.of hgl⟩, fun D2 hD2 => ?_⟩
      refine lc_it (walk_list (xs := gps.map V.ref)) (Cv H11 D2 fun i => .int ((cntF F (gs.getD i []) : Nat) : Int)) (cv0 hD2) (fun i H2 _ p => SqL.of (p.2.1 _ _ hgl)) (fun i x H12 H13 hi p y => ?_) (fun H12 p => ?_)
      · obtain ⟨rfl, hx⟩ := y
        obtain ⟨t1, z, rfl, hti, hzi, hz⟩ := pr_item hgp hx
        obtain ⟨hz8, hzlt⟩ := hgm z (List.mem_of_getElem? hzi)
        refine ⟨rfl, _, rfl, _, rfl, _, rfl, .ref ar, F.rs, t1, z, F.size, rfl, R3.same (e411.trans p.2.1), hft, p.2.1 _ _ hz, hzlt, hs10, fun b2 H14 e14 _ hb2 => ?_⟩
        refine ⟨b2, rfl, ⟨_, SqL.of hb2⟩, fun D3 hD3 => ?_⟩
        refine lc_it (walk_list (xs := bls F.size (bytesOf F.rs z))) (Cf H14 D3 (bytesOf F.rs z) fun _ => .int 1) (cf0 hD3) (fun i H2 _ p => SqL.of (p.2.1 _ _ hb2)) (fun i' x H15 H16 hi' p' y => ?_) (fun H15 p' => ?_)
        · obtain ⟨rfl, hx⟩ := y
          rw [bls_len] at hi'
          have ex : x = .bl (bytesOf F.rs z i') := by
            unfold bls at hx
            rw [List.getElem?_map, List.getElem?_range hi'] at hx
            exact (Option.some.inj hx).symm
          subst ex
          refine ⟨rfl, _, rfl, bytesOf F.rs z i', rfl, ?_⟩
          cases hb : bytesOf F.rs z i' with
          | true => exact iteT (cf_yes p' (Same.refl _) (by omega) hb rfl)
          | false => exact iteF (cf_no p' (Same.refl _) hb)
        · obtain ⟨m1, m2, m3⟩ := p'
          refine ⟨D3, _, rfl, .inl (SqL.of m3), ?_⟩
          refine cv_step p (e14.trans m2) (by omega) ?_
          rw [bls_len, List.length_map, ← cntF_eq, List.getD, hzi]
          rfl
      · obtain ⟨m1, m2, m3⟩ := p
        have hcn : H12 D2 = some (.lst (((gs.map (cntF F)).map fun x : Nat => (x : Int)).map V.int)) := by
          rw [m3, hgpl]
          congr 2
          rw [List.map_map, List.map_map]
          exact map_range_get gs _ _ fun i x e => by rw [List.getD, e]; rfl
        have e412 := e411.trans m2
        have hmx : ∀ m : Int, m ∈ ((gs.map (cntF F)).map fun x : Nat => (x : Int)) → (∀ y, y ∈ ((gs.map (cntF F)).map fun x : Nat => (x : Int)) → y ≤ m) → m = ((cntF F cb : Nat) : Int) := fun m h1 h2 => by
          rw [List.map_map] at h1 h2
          obtain ⟨d, hd, rfl⟩ := List.mem_map.mp h1
          have a1 := BF.max d hd
          have a2 := h2 _ (List.mem_map.mpr ⟨cb, hcm, rfl⟩)
          show ((cntF F d : Nat) : Int) = _
          have a2 : ((cntF F cb : Nat) : Int) ≤ ((cntF F d : Nat) : Int) := a2
          omega
        have hpos : 0 < ((gs.map (cntF F)).map fun x : Nat => (x : Int)).length := by
          rw [List.length_map, List.length_map]
          exact List.length_pos_iff.mpr hgsn
        refine ⟨_, rfl, _, rfl, .inl ⟨rfl, _, SqL.of hcn⟩, _, rfl, D2, _, rfl, SqL.of hcn, hpos, fun m hm1 hm2 => ?_⟩
        have em := hmx m hm1 hm2
        subst em
        refine ⟨D2, _, .int ((cntF F cb : Nat) : Int), j, .int ((cntF F cb : Nat) : Int), rfl, rfl, SqL.of hcn, rfl, flat_int _, ?_, eqV_int _, fun i z' hi hz' => ?_, ?_⟩
        · rw [List.map_map, List.map_map, List.getElem?_map, BF.at_]
          rfl
        · rw [List.map_map, List.map_map, List.getElem?_map] at hz'
          cases hgi : gs[i]? with
          | none => rw [hgi] at hz'; cases hz'
          | some d =>
            rw [hgi] at hz'
            cases hz'
            have := BF.fst i d hi hgi
            exact eqV_ne (show ((cntF F d : Nat) : Int) ≠ ((cntF F cb : Nat) : Int) by omega)
        · obtain ⟨fb, hfb, hfb2⟩ := pr_get2 hgp BF.at_
          refine ⟨gl, _, _, .ref fb, rfl, rfl, SqL.of (m2 _ _ hgl), atI_nat (by rw [List.getElem?_map, hfb]; rfl), ?_⟩
          have hfb12 := m2 _ _ hfb2
          have F12 := F3.same e412
          have hcnt : cntF F cb ≤ 20 := by
            rw [cntF_eq]
            have := List.length_filter_le (bytesOf F.rs cb) (List.range F.size)
            rw [List.length_range] at this
            omega
          have sN := (sm_nums (l := cb) (fun i hi => by have := hclt i hi; omega) (by omega)).mono (by decide : 100 ≤ 500)
          have sI := (sm_int hcnt).mono (by decide : 2 ≤ 500)
          have rk2 := repr_ok (ds := [.tuple (dNums cb), .int ((cntF F cb : Nat) : Int), .tuple (dNums cb), .int ((cntF F cb : Nat) : Int)]) (four sN sI sN sI) (by show 4 ≤ 4; decide) (lay4 (lay_nums _) rfl (lay_nums _) rfl) (dep4 (depN _) (depI _) (depN _) (depI _))
          -- best and most_kept
          refine ⟨_, rfl, _, F, g, rfl, F12, gF, hg, fun u1 w1 H14 e14 hu1 hw1 _ => ?_⟩
          rw [hgs, hcb] at hw1
          cases hw1
          obtain ⟨a1, rfl, ha1⟩ := hu1
          refine ⟨_, rfl, _, F, g, rfl, F12.same e14, gF, hg, fun u2 w2 H15 e15 hu2 hw2 _ => ⟨by show 2 ≤ sizeLine; decide, fun l3 hl3 => ?_⟩⟩
          rw [hgs, hcb] at hw2
          cases hw2
          subst hu2
          have e16 := Same.new (o := .lst [.ref a1, .int ((cntF F cb : Nat) : Int)]) hl3
          refine ⟨l3, 2, _, rfl, rfl, upd_same, by decide, by decide, by show 4 ≤ sizeLine; decide, fun l4 hl4 => ?_⟩
          have e17 := Same.new (o := .lst (List.replicate (2 : Int).toNat [V.ref a1, .int ((cntF F cb : Nat) : Int)]).flatten) hl4
          have ha17 := e17 _ _ (e16 _ _ (e15 _ _ ha1))
          refine ⟨_, _, rfl, .lst (xs := [V.ref a1, .int ((cntF F cb : Nat) : Int), V.ref a1, .int ((cntF F cb : Nat) : Int)]) (SqL.of upd_same) (.cons (.tup (SqT.of ha17) (dp_nums cb)) (.cons (.int _) (.cons (.tup (SqT.of ha17) (dp_nums cb)) (.cons (.int _) .nil)))), (by intro z; cases z), rk2.1, rk2.2.1, rk2.2.2.1, rk2.2.2.2, ?_⟩
          have e1217 := ((e14.trans e15).trans e16).trans e17
          generalize upd (upd H15 l3 (.lst [.ref a1, .int ((cntF F cb : Nat) : Int)])) l4 (.lst (List.replicate (2 : Int).toNat [V.ref a1, .int ((cntF F cb : Nat) : Int)]).flatten) = H17 at e1217 ⊢
          clear e14 e15 e16 e17 ha1 ha17
          refine ⟨_, rfl, _, rfl, D2, _, rfl, SqL.of (e1217 _ _ hcn), hpos, fun m hm1 hm2 => ?_⟩
          have em := hmx m hm1 hm2
          subst em
          refine ⟨_, rfl, _, F, g, rfl, F12.same e1217, gF, hg, fun u3 w3 H18 e18 hu3 hw3 _ => ?_⟩
          rw [hgs, hcb] at hw3
          cases hw3
          obtain ⟨a3, rfl, ha3⟩ := hu3
          refine ⟨_, rfl, _, F, g, rfl, (F12.same e1217).same e18, gF, hg, fun u4 w4 H19 e19 hu4 hw4 _ => ⟨by show 4 ≤ sizeLine; decide, fun l5 hl5 => ?_⟩⟩
          rw [hgs, hcb] at hw4
          cases hw4
          subst hu4
          have e20 := Same.new (o := .lst [.ref fb, .int ((cntF F cb : Nat) : Int), .ref a3, .int ((cntF F cb : Nat) : Int)]) hl5
          have e1220 := ((e1217.trans e18).trans e19).trans e20
          refine ⟨_, _, rfl, .lst (SqL.of upd_same) (.cons (.tup (SqT.of (e1220 _ _ hfb12)) (dp_nums cb)) (.cons (.int _) (.cons (.tup (SqT.of (e20 _ _ (e19 _ _ ha3))) (dp_nums cb)) (.cons (.int _) .nil)))), (by intro z; cases z), rk2.1, rk2.2.1, rk2.2.2.1, rk2.2.2.2, rfl, false, neq_self _, iteF ?_⟩
          generalize upd H19 l5 (.lst [.ref fb, .int ((cntF F cb : Nat) : Int), .ref a3, .int ((cntF F cb : Nat) : Int)]) = H20 at e1220 ⊢
          clear e18 e19 e20 ha3 e1217
          have e420 := e412.trans e1220
          have hfb20 := e1220 _ _ hfb12
          -- the rest
          refine ⟨_, rfl, _, rfl, _, rfl, .ref ar, F.rs, fb, cb, F.size, rfl, R3.same e420, hft, hfb20, hclt, hs10, fun b3 H21 e21 _ hb3 => ?_⟩
          refine ⟨b3, rfl, ⟨_, SqL.of hb3⟩, fun D4 hD4 => ?_⟩
          refine lc_it (walk_list (xs := bls F.size (bytesOf F.rs cb))) (Cv H21 D4 fun i => .bl (!bytesOf F.rs cb i)) (cv0 hD4) (fun i H2 _ p => SqL.of (p.2.1 _ _ hb3)) (fun i x H22 H23 hi p y => ?_) (fun H22 p => ?_)
          · obtain ⟨rfl, hx⟩ := y
            rw [bls_len] at hi
            have ex : x = .bl (bytesOf F.rs cb i) := by
              unfold bls at hx
              rw [List.getElem?_map, List.getElem?_range hi] at hx
              exact (Option.some.inj hx).symm
            subst ex
            exact ⟨rfl, _, rfl, _, rfl, cv_step p (Same.refl _) (by omega) rfl⟩
          · obtain ⟨o1, o2, o3⟩ := p
            rw [bls_len] at o3
            refine ⟨D4, F.size, fun k => !bytesOf F.rs cb k, rfl, o3, by omega, fun lf H24 e24 hlf => ?_⟩
            have e424 := e420.trans ((e21.trans o2).trans e24)
            have F24 := F3.same e424
            have sR2 := sm_runs (fun k => !bytesOf F.rs cb k) hs10
            have sB := (sm_bool (decide (runsL (fun k => !bytesOf F.rs cb k) F.size = []))).mono (by decide : 5 ≤ 500)
            have rk3 := repr_ok (ds := [.tuple (dPairs (runsL (fun k => !bytesOf F.rs cb k) F.size)), .bool (decide (runsL (fun k => !bytesOf F.rs cb k) F.size = [])), .tuple (dPairs (runsL (fun k => !bytesOf F.rs cb k) F.size)), .bool (decide (runsL (fun k => !bytesOf F.rs cb k) F.size = []))]) (four sR2 sB sR2 sB) (by show 4 ≤ 4; decide) (lay4 (lay_pairs _) rfl (lay_pairs _) rfl) (dep4 (depP _) (depB _) (depP _) (depB _))
            refine ⟨_, rfl, _, F, g, rfl, F24, gF, hg, fun u1 w1 H25 e25 hu1 hw1 _ => ?_⟩
            rw [hgs, hcb] at hw1
            cases hw1
            refine ⟨_, rfl, _, F, g, rfl, F24.same e25, gF, hg, fun u2 w2 H26 e26 hu2 hw2 _ => ?_⟩
            rw [hgs, hcb] at hw2
            cases hw2
            subst hu2
            refine ⟨_, rfl, _, F, g, rfl, (F24.same e25).same e26, gF, hg, fun u3 w3 H27 e27 hu3 hw3 _ => ?_⟩
            rw [hgs, hcb] at hw3
            cases hw3
            refine ⟨_, rfl, _, F, g, rfl, ((F24.same e25).same e26).same e27, gF, hg, fun u4 w4 H28 e28 hu4 hw4 _ => ⟨by show 4 ≤ sizeLine; decide, fun tl htl => ?_⟩⟩
            rw [hgs, hcb] at hw4
            cases hw4
            subst hu4
            have e29 := Same.new (o := .lst [u1, .bl (decide (runsL (fun k => !bytesOf F.rs cb k) F.size = [])), u3, .bl (decide (runsL (fun k => !bytesOf F.rs cb k) F.size = []))]) htl
            have k1 := hu1.same (((e26.trans e27).trans e28).trans e29)
            have k3 := hu3.same (e28.trans e29)
            refine ⟨_, rfl, _, _, rfl, .lst (SqL.of upd_same) (.cons k1.dp (.cons (.bl _) (.cons k3.dp (.cons (.bl _) .nil)))), (by intro z; cases z), rk3.1, rk3.2.1, rk3.2.2.1, rk3.2.2.2, ?_⟩
            have e2429 := (((e25.trans e26).trans e27).trans e28).trans e29
            have hlf29 := hlf.same e2429
            refine ⟨_, rfl, _, rfl, Nat.zero_le _, fun t5 ht5 => ?_⟩
            have e30 := Same.new (o := .tup []) ht5
            refine ⟨_, .tuple (dPairs []), (hlf29.same e30).dp, .tup (SqT.of upd_same) .nil, (shp (lay_pairs _) (dep_pairs _) (by decide)).2, rfl, ?_⟩
            have eqb : PyData.eqv (.tuple (dPairs (runsL (fun k => !bytesOf F.rs cb k) F.size))) (.tuple (dPairs [])) = decide (runsL (fun k => !bytesOf F.rs cb k) F.size = []) := eqv_pairs _ []
            rw [eqb]
            refine ⟨by show 2 ≤ sizeLine; decide, fun l6 hl6 => ?_⟩
            have e31 := Same.new (o := .lst [.ref lf, .bl (decide (runsL (fun k => !bytesOf F.rs cb k) F.size = []))]) hl6
            refine ⟨l6, 2, _, rfl, rfl, upd_same, by decide, by decide, by show 4 ≤ sizeLine; decide, fun l7 hl7 => ?_⟩
            have e32 := Same.new (o := .lst (List.replicate (2 : Int).toNat [V.ref lf, .bl (decide (runsL (fun k => !bytesOf F.rs cb k) F.size = []))]).flatten) hl7
            have hlf32 := hlf29.same ((e30.trans e31).trans e32)
            refine ⟨_, _, rfl, .lst (xs := [V.ref lf, .bl (decide (runsL (fun k => !bytesOf F.rs cb k) F.size = [])), V.ref lf, .bl (decide (runsL (fun k => !bytesOf F.rs cb k) F.size = []))]) (SqL.of upd_same) (.cons hlf32.dp (.cons (.bl _) (.cons hlf32.dp (.cons (.bl _) .nil)))), (by intro z; cases z), rk3.1, rk3.2.1, rk3.2.2.1, rk3.2.2.2, rfl, ?_⟩
            rw [decide_eq_true rfl]
            exact q3 _ (((e424.trans e2429).trans ((e30.trans e31).trans e32)))
end
end W24
set_option maxHeartbeats 4000000
/-! W20: the law. -/
namespace W24
open PySem PySem.Spec PyProof.Rows L2
/-! ### a check more -/
theorem putR_some (A : Arr) (a b : Nat) (v : Bool) (i j : Nat) (h : (A i j).isSome = true) : (putR A a b v i j).isSome = true := by
  unfold putR
  split
  · rfl
  · exact h
theorem ckR_some (A : Arr) (c : Ck3) (i j : Nat) (h : (A i j).isSome = true) : (ckR A c i j).isSome = true := by
  unfold ckR sdR
  split
  · exact putR_some _ _ _ _ _ _ (putR_some _ _ _ _ _ _ h)
  · split
    · exact putR_some _ _ _ _ _ _ h
    · exact putR_some _ _ _ _ _ _ h
theorem arr_more (F : Ft) (c : Ck3) : arr { F with cs := F.cs ++ [c] } = ckR (arr F) c := by
  unfold arr
  show (F.cs ++ [c]).foldl ckR (arr0 { F with cs := F.cs ++ [c] }) = _
  rw [List.foldl_append]
  rfl
theorem more_not_less {F : Ft} {ck : Ck3} {g g' : AL Nat} {c c' : List Nat} (G : GoodG (arr F) F.rs.length g) (G' : GoodG (arr { F with cs := F.cs ++ [ck] }) F.rs.length g')
    (h : bestL F (groupsL (eG g) F.rs.length F.rs.length) = some c) (h' : bestL { F with cs := F.cs ++ [ck] } (groupsL (eG g') F.rs.length F.rs.length) = some c') : cntF F c ≤ cntF { F with cs := F.cs ++ [ck] } c' := by
  obtain ⟨j, BF⟩ := bestL_spec h
  obtain ⟨j', BF'⟩ := bestL_spec h'
  obtain ⟨k, hk, rfl⟩ := groups_of (eqvG G) (List.mem_of_getElem? BF.at_)
  have h2 := BF'.max _ (groups_has (eqvG G') hk)
  refine Nat.le_trans ?_ h2
  have mono : ∀ i m, Reach (arr F) i m → Reach (arr { F with cs := F.cs ++ [ck] }) i m := fun i m r => r.mono fun a b z => by
    rw [arr_more]
    exact ckR_some _ _ _ _ z
  have sub : ∀ i ∈ matesL (eG g) F.rs.length k, i ∈ matesL (eG g') F.rs.length k := fun i hi => by
    obtain ⟨a, b⟩ := mates_mem.mp hi
    refine mates_mem.mpr ⟨a, ?_⟩
    unfold eG at b ⊢
    rw [Bool.and_eq_true] at b ⊢
    exact ⟨(G'.reach a).mpr (mono _ _ ((G.reach a).mp b.1)), (G'.reach hk).mpr (mono _ _ ((G.reach hk).mp b.2))⟩
  rw [cntF_eq, cntF_eq]
  refine filter_le (fun x hx => ?_) (List.range F.size)
  have hx : bytesOf F.rs (matesL (eG g) F.rs.length k) x = true := hx
  show bytesOf F.rs (matesL (eG g') F.rs.length k) x = true
  unfold bytesOf at hx ⊢
  rw [List.any_eq_true] at hx ⊢
  obtain ⟨i, hi, z⟩ := hx
  exact ⟨i, sub i hi, z⟩
theorem cat_ck2 {K : PySem.W.Frag} {H : Hp} {Q : VK} {ac u q1 : Addr} {pc : List Addr} {cs : List Ck3} {c : Ck3} (hac : H ac = some (.tup (pc.map V.ref))) (hpc : Paired (fun p c => H p = some (.tup (ckV c))) pc cs) (hu : H u = some (.tup [.ref q1])) (hq : H q1 = some (.tup (ckV c))) (hl : cs.length ≤ 50)
    (q : ∀ w H', Same H H' → CksAt H' w (cs ++ [c]) → Q w H') : rCatA K (.ref ac) (.ref u) H Q := by
  have hpl := pr_len hpc
  refine ⟨ac, u, _, _, rfl, rfl, SqT.of hac, SqT.of hu, by rw [List.length_map]; exact szl (by show pc.length + 1 < 60000; omega), fun hn => ?_, fun _ hn => (by cases hn), fun _ _ u3 hu3 => ?_⟩
  · have : pc = [] := List.map_eq_nil_iff.mp hn
    subst this
    cases hpc
    exact q _ _ (Same.refl _) ⟨u, [q1], rfl, hu, .cons hq .nil⟩
  · have f7 := Same.new (o := .tup (pc.map V.ref ++ [.ref q1])) hu3
    refine q _ _ f7 ⟨u3, pc ++ [q1], rfl, ?_, pr_app (pr_mono (fun _ _ z => f7 _ _ z) hpc) (.cons (f7 _ _ hq) .nil)⟩
    rw [upd_same, List.map_append]
    rfl
section
variable {P : Program} {w : World} {K : PySem.W.Frag} {mg : Str → Option Value} {base : Heap}
theorem sc_law : FnScope ["script", "state", "turn", "fetch", "more"] ["script"] (defScope s_law) := ⟨rfl, rfl, rfl, by decide +kernel, rfl, by decide +kernel, by decide +kernel⟩
def spLaw (K : PySem.W.Frag) : Sp := fun vs H Q _ => ∃ (a : Addr) (ns : List Int), vs = [.ref a] ∧ SqL K H a (ns.map V.int) ∧ ns.length ≤ 1000 ∧ ∀ H', Q (.bl true) H'
theorem ok_law {f : Addr} {fd : FuncData} (T : Txt K mg) (c_law_begin : Cal P w K mg base 1 "_law_begin" ["script"] (spBegin K)) (c_law_mild : Cal P w K mg base 5 "_law_mild" ["state", "most"] spMild)
    (c_law_right : CalG P w K mg base 9 "_law_right" ["state", "fetch"] spRight) (c_law_test : Cal P w K mg base 3 "_law_test" ["state", "many"] spLTest) (c_law_gaps : Cal P w K mg base 3 "_law_gaps" ["fetch"] spLGaps) (c_most_kept : Cal P w K mg base 7 "most_kept" ["fetch"] spMost)
    (F : FnP K "law" s_law f fd) : FnOkG P w K mg base 10 f fd ["script"] (spLaw K) := by
  refine fnG_of F sc_law (fun vs H Q E h => ?_) (fun cdv A outer s H vs Q E hG hr h => ?_)
  · obtain ⟨a, ns, rfl, _⟩ := h
    rfl
  · obtain ⟨a, ns, rfl, ha, hl, q⟩ := h
    refine ⟨_, (pss_cons (ps_set (i := 1) sc_law.nd rfl (by first | exact Or.inl rfl | exact Or.inr rfl) (pe_cal c_law_begin (hr.mono (by decide)) (pa_cons (pv 0) pa_nil)))
      (pss_cons (ps_for PassesOwn.never rfl (pi_range1 (by rfl) T.range (pa_cons (pe_op op_add pe_int (pe_callB (call_min2 rfl) (by rfl) T.min b_min (pa_cons (pe_callB (lenQ K) (by rfl) T.len b_len (pa_cons (pv 0) pa_nil)) (pa_cons pe_int pa_nil)))) pa_nil)) (pg_name (i := 2) sc_law.nd rfl (by first | exact Or.inl rfl | exact Or.inr rfl) (by first | exact Or.inl rfl | exact Or.inr rfl)) (pss_cons (ps_set (i := 3) sc_law.nd rfl (by first | exact Or.inl rfl | exact Or.inr rfl) (pe_cal c_law_mild (hr.mono (by decide)) (pa_cons (pv 1) (pa_cons pe_int pa_nil))))
      (pss_cons (ps_if (pt_not (pt_val (pe_calG c_law_right hG (hr.mono (by decide)) (pa_cons (pv 1) (pa_cons (pv 3) pa_nil))))) (pss_one (ps_ret pe_bl)) pss_nil)
      (pss_one (ps_if (pt_cmpR op_gt (pe_callB (lenQ K) (by rfl) T.len b_len (pa_cons (pe_ix (ixT K) (pv 3) pe_int (fun _ _ => rfl)) pa_nil)) pe_int (nomark _)) (pss_cons (ps_set (i := 4) sc_law.nd rfl (by first | exact Or.inl rfl | exact Or.inr rfl) (pe_op op_catA (pe_slice sl_tupA (pv 3) po_none (po_some pe_int)) (pe_tup (pa_cons (pe_op op_catA (pe_ix (ixT K) (pv 3) pe_int (fun _ _ => rfl)) (pe_tup (pa_cons (pe_cal c_law_test (hr.mono (by decide)) (pa_cons (pv 1) (pa_cons (pe_callB (lenQ K) (by rfl) T.len b_len (pa_cons (pe_ix (ixT K) (pv 3) pe_int (fun _ _ => rfl)) pa_nil)) pa_nil))) pa_nil))) pa_nil))))
      (pss_one (ps_if (PW.pt (pw_and (pt_cmpR op_notN (pe_cal c_law_gaps (hr.mono (by decide)) (pa_cons (pv 4) pa_nil)) pe_non (nomark _)) (pw_and1 (pt_cmpR op_lt (pe_cal c_most_kept (hr.mono (by decide)) (pa_cons (pv 4) pa_nil)) (pe_cal c_most_kept (hr.mono (by decide)) (pa_cons (pv 3) pa_nil)) (nomark _))))) (pss_one (ps_ret pe_bl)) pss_nil))) pss_nil)))))
      (pss_one (ps_ret pe_bl)))), ?_⟩
    refine ⟨_, rfl, a, ns, rfl, ha, hl, fun s c l H1 e1 S1 hs0 hl0 => ?_⟩
    have hmin : ∃ m : Nat, m ≤ 5 ∧ (if (5 : Int) < (((ns.map V.int).length : Nat) : Int) then (5 : Int) else (((ns.map V.int).length : Nat) : Int)) = (m : Int) := by
      by_cases z : (5 : Int) < (((ns.map V.int).length : Nat) : Int)
      · rw [if_pos z]
        exact ⟨5, Nat.le_refl _, rfl⟩
      · rw [if_neg z]
        exact ⟨(ns.map V.int).length, by omega, rfl⟩
    obtain ⟨m, hm5, em⟩ := hmin
    refine ⟨_, rfl, a, _, rfl, .inl (e1.seq ha), _, _, rfl, ?_⟩
    refine ⟨_, _, rfl, congrArg V.int em, _, rfl, by omega, by omega, ?_⟩
    refine for_range (n := ((3 : Int) + (m : Int)).toNat) (fun t σ' H' => (∃ x2 x3 x4, σ' = [some (.ref a), some (.ref s), x2, x3, x4]) ∧ StH H' s c l (72 * t)) ⟨⟨_, _, _, rfl⟩, S1⟩ (fun t σ' H' ht gg => ?_) (fun σ' H' gg => ?_)
    · obtain ⟨⟨x2, x3, x4, rfl⟩, S⟩ := gg
      refine ⟨_, rfl, s, c, l, 72 * t, rfl, S, by omega, fun p F g H2 hF gF hc5 hg S2 b2 => ?_⟩
      refine ⟨_, rfl, _, rfl, s, c, l, p, 72 * t + 60, F, g, rfl, S2, by omega, hF, gF, hg, fun H3 S3 b3 => ⟨true, rfl, iteF ?_⟩⟩
      have hF3 := b3.ft S2 hF
      have hF3' := hF3
      obtain ⟨p', vh, vr, vc, ep, hp, hh, ⟨ar, pr, rfl, har, hpr⟩, ⟨ac, pc, rfl, hac, hpc⟩⟩ := hF3
      cases ep
      have hlr : (pr.map V.ref).length = F.rs.length := by rw [List.length_map, pr_len hpr]
      have hpcl := pr_len hpc
      refine ⟨_, rfl, p, _, _, _, rfl, rfl, SqT.of hp, atI_nat (j := 2) rfl, ar, _, rfl, .inr (SqT.of har), _, _, rfl, rfl, decide (1 < F.rs.length), ?_, ?_⟩
      · refine congrArg V.bl ?_
        by_cases z : 1 < F.rs.length
        · rw [decide_eq_true z, decide_eq_true (by omega)]
        · rw [decide_eq_false z, decide_eq_false (by omega)]
      by_cases z : 1 < F.rs.length
      · rw [decide_eq_true z]
        refine iteT ⟨_, rfl, 3, rfl, p, _, rfl, SqT.of hp, fun z => absurd (show HT.sIx 4 4 (some 3) = 4 from z.2) (by decide), fun _ p1 hp1 => ?_⟩
        have f1 := Same.new (o := .tup (cutV [vh, .int F.size, .ref ar, .ref ac] none (some 3))) hp1
        have k1 : (upd H3 p1 (.tup (cutV [vh, .int F.size, .ref ar, .ref ac] none (some 3)))) p1 = some (.tup [vh, .int F.size, .ref ar]) := upd_same
        have S4 := S3.same f1
        generalize upd H3 p1 (.tup (cutV [vh, .int F.size, .ref ar, .ref ac] none (some 3))) = H4 at f1 k1 S4 ⊢
        refine ⟨_, rfl, p, _, _, _, rfl, rfl, SqT.of (f1 _ _ hp), atI_nat (j := 3) rfl, ?_⟩
        refine ⟨_, rfl, _, rfl, p, _, _, _, rfl, rfl, SqT.of (f1 _ _ hp), atI_nat (j := 2) rfl, ar, _, rfl, .inr (SqT.of (f1 _ _ har)), s, c, l, 72 * t + 68, F.rs.length, by rw [hlr], S4, by omega, by omega, gF.r2, fun q1 ck H5 hq1 gck S5 b5 => ?_⟩
        have hF5 := b5.ft S4 (hF3'.same f1)
        have k5 := b5.tup S4 k1
        have hac5 := b5.tup S4 (f1 _ _ hac)
        have hpc5 : Paired (fun p c => H5 p = some (.tup (ckV c))) pc F.cs := pr_mono (fun _ _ z => b5.tup S4 (f1 _ _ z)) hpc
        refine ⟨by show 1 ≤ sizeLine; decide, fun u1 hu1 => ?_⟩
        have f6 := Same.new (o := .tup [.ref q1]) hu1
        refine cat_ck2 (cs := F.cs) (f6 _ _ hac5) (pr_mono (fun _ _ z => f6 _ _ z) hpc5) upd_same (f6 _ _ hq1) (by omega) fun w H6 f67 hw => ⟨by show 1 ≤ sizeLine; decide, fun u2 hu2 => ?_⟩
        have f7 := f6.trans f67
        have f8 := Same.new (o := .tup [w]) hu2
        refine ⟨p1, u2, [vh, .int F.size, .ref ar], [w], rfl, rfl, SqT.of (f8 _ _ (f7 _ _ k5)), SqT.of upd_same, by show 4 ≤ sizeLine; decide, fun hn => (by cases hn), fun _ hn => (by cases hn), fun _ _ p3 hp3 => ?_⟩
        have f9 := Same.new (o := .tup ([vh, .int F.size, .ref ar] ++ [w])) hp3
        have ff := (f7.trans f8).trans f9
        have hM : FtAt (upd (upd H6 u2 (.tup [w])) p3 (.tup ([vh, .int F.size, .ref ar] ++ [w]))) (.ref p3) { F with cs := F.cs ++ [ck] } := by
          obtain ⟨p'', vh', vr', vc', ep, z1, z2, z3, z4⟩ := hF5
          cases ep
          have z0 := b5.tup S4 (f1 _ _ hp)
          rw [z1] at z0
          have z5 := HO.tup.inj (Option.some.inj z0)
          simp only [List.cons.injEq, and_true] at z5
          obtain ⟨rfl, _, rfl, _⟩ := z5
          exact ⟨p3, vh', .ref ar, w, rfl, upd_same, z2.same ff, z3.same ff, hw.same (f8.trans f9)⟩
        have gM : GoodF { F with cs := F.cs ++ [ck] } := gF.with (by rw [List.length_append, List.length_singleton]; omega) fun x hx => by
          rcases List.mem_append.mp hx with v | v
          · exact gF.ck x v
          · rw [List.mem_singleton.mp v]; exact gck
        have S9 := S5.same ff
        generalize upd (upd H6 u2 (.tup [w])) p3 (.tup ([vh, .int F.size, .ref ar] ++ [w])) = H9 at ff hM S9 ⊢
        have nx : ∀ H', Same H9 H' → (∃ x2 x3 x4, ([some (.ref a), some (.ref s), some (.int (0 + (t : Int))), some (.ref p), some (.ref p3)] : L2.St) = [some (.ref a), some (.ref s), x2, x3, x4]) ∧ StH H' s c l (72 * (t + 1)) := fun H' e => ⟨⟨_, _, _, rfl⟩, (S9.same e).mono (by omega)⟩
        refine ⟨_, rfl, _, _, rfl, hM, gM, fun H10 e10 _ _ => ?_, fun dg gg H10 G10 _ hgg _ => ?_⟩
        · exact ⟨rfl, false, rfl, iteF (iteF (nx _ e10))⟩
        · refine ⟨rfl, true, rfl, iteT ?_⟩
          refine ⟨_, rfl, _, _, gg, rfl, hM.same G10.sm, gM, hgg, fun u c1 H11 e11 hu hb1 GG1 => ?_⟩
          subst hu
          refine ⟨_, rfl, _, F, g, rfl, ((hF5.same ff).same G10.sm).same e11, gF, hg, fun u c2 H12 e12 hu hb2 GG2 => ?_⟩
          subst hu
          refine ⟨_, _, rfl, rfl, false, dFalse ?_, iteF (nx _ ((G10.sm.trans e11).trans e12))⟩
          have := more_not_less GG2 GG1 hb2 hb1
          omega
      · rw [decide_eq_false z]
        exact iteF ⟨⟨_, _, _, rfl⟩, S3.mono (by omega)⟩
    · obtain ⟨⟨x2, x3, x4, rfl⟩, S⟩ := gg
      exact q H'
end
end W24
set_option maxHeartbeats 4000000
/-! W21: the law's end, its promise one under empty guards. -/
namespace W24
open PySem PySem.Spec PyProof.Rows L2
section
variable {P : Program} {w : World} {K : PySem.W.Frag} {mg mb : Str → Option Value} {s1 : Shared} {sa : Addr} {its : List Value}
/-- what the caller of the law stands on, H the heap as tracked: the script at most -/
theorem top_env {H : Hp} (inK : K.In s1.heap) (gN : s1.heap.Ns mainGlobals mg) (bN : s1.heap.Ns builtinsNs mb) (bE : ∀ y : Str, y ≠ "__name__" → mb y = bootBuiltins y)
    (nl : s1.heap.NoLimit) (g0 : s1.gens = #[]) (at1 : s1.heap.get? sa = some { cls := .type "list", data := .seq its.toArray })
    (ok : HOk P w H s1.heap) (one : ∀ b, b ≠ sa → H b = none) (out : H sa ≠ none → K.lookup sa = none) :
    K.In (hidT s1.heap H) ∧ (hidT s1.heap H).Ns mainGlobals mg ∧ Env0 P w K mg (hidT s1.heap H) callerA [] s1 H := by
  have free : ∀ {b : Addr} {ob : Obj}, s1.heap.get? b = some ob → (∃ es ep, ob.data = .dict es ep) → H b = none := by
    intro b ob hb ⟨es, ep, hd⟩
    by_cases z : b = sa
    · rw [z, at1] at hb
      cases hb
      cases hd
    · exact one b z
  have ns : ∀ {b : Addr} {m : Str → Option Value}, s1.heap.Ns b m → (hidT s1.heap H).Ns b m := by
    rintro b m ⟨ob, es, ep, hb, hd, hr⟩
    exact ⟨ob, es, ep, hidT_get hb (free hb ⟨es, ep, hd⟩), hd, hr⟩
  have kin : K.In (hidT s1.heap H) := by
    intro b ob hb
    refine hidT_get (inK b ob hb) ?_
    by_cases z : b = sa
    · cases q : H b with
      | none => rfl
      | some u =>
        rw [z] at q hb
        rw [out (by rw [q]; exact fun e => by cases e)] at hb
        cases hb
    · exact one b z
  refine ⟨kin, ns gN, ?_⟩
  obtain ⟨ml, l1, l2⟩ := nl
  exact { frames := rfl, mod := ⟨kin, ns gN, ⟨mb, ns bN, bE⟩, ⟨ml, ns l1, l2⟩⟩, bs := fun _ _ hb => of_hidT hb, bsz := Nat.le_of_eq (hidT_size _ _), funs := trivial, frf := fun b hb => (by cases hb), hok := ok, bare := .of_eq g0 }
/-- the call of the law -/
theorem call_top {k : Nat} {fa : Addr} {fd : FuncData} {x : Str} {sp : Sp} {zs : List Int}
    (inK : K.In s1.heap) (gN : s1.heap.Ns mainGlobals mg) (bN : s1.heap.Ns builtinsNs mb) (bE : ∀ y : Str, y ≠ "__name__" → mb y = bootBuiltins y)
    (nl : s1.heap.NoLimit) (g0 : s1.gens = #[]) (at1 : s1.heap.get? sa = some { cls := .type "list", data := .seq its.toArray }) (allI : IntsAre its zs) (few : zs.length ≤ sizeLine) (rm : Room k callerA)
    (F : ∀ base : Heap, K.In base → base.Ns mainGlobals mg → FnOkG P w K mg base k fa fd [x] sp) (bnd : ∀ (t : Shared) (u : Value), BindsTo t fd ⟨[u], []⟩ [(x, u)])
    (goal : ∀ H : Hp, SqL K H sa (zs.map V.int) → sp [.ref sa] H (fun v _ => v = .bl true) E0) :
    codeAny (model P w) callerA (.call (.ref fa) ⟨[.ref sa], []⟩) (fun r s' => r = .ok (.ret (.bool true)) ∧ OldK s1.heap s'.heap ∧ s'.os = s1.os ∧ AllBare s'.gens) s1 := by
  have vals := vals_ints allI
  have go : ∀ H : Hp, (∀ b ob u, s1.heap.get? b = some ob → H b = some u → ∃ xs, u = .frz ob (.lst xs)) → SqL K H sa (zs.map V.int) → HOk P w H s1.heap → (∀ b, b ≠ sa → H b = none) → (H sa ≠ none → K.lookup sa = none) →
      codeAny (model P w) callerA (.call (.ref fa) ⟨[.ref sa], []⟩) (fun r s' => r = .ok (.ret (.bool true)) ∧ OldK s1.heap s'.heap ∧ s'.os = s1.os ∧ AllBare s'.gens) s1 := by
    intro H frz sq ok one out
    obtain ⟨kin, gns, env⟩ := top_env inK gN bN bE nl g0 at1 ok one out
    have ran := (F _ kin gns).run callerA [] s1 H ⟨[.ref sa], []⟩ [.ref sa] [.ref sa] (fun v _ => v = .bl true) E0 rfl rm env (bnd s1 (.ref sa)) (.cons rfl .nil) (goal H sq)
    refine codeAny_mono ran fun r s' after => ?_
    match r, after with
    | .error _, no => exact no.elim
    | .ok .next, no => exact False.elim no
    | .ok .brk, no => exact False.elim no
    | .ok .cont, no => exact False.elim no
    | .ok (.ret u), yes =>
      obtain ⟨v, H', os, bare, un, ok', rel, rfl⟩ := yes
      cases rel
      refine ⟨rfl, OldK.of_keep fun b ob hb => ?_, os, bare⟩
      cases q : H b with
      | none => exact un.keep b ob hb q (fun z => by cases z) (fun z => by cases z)
      | some u =>
        obtain ⟨xs, rfl⟩ := frz b ob u hb q
        exact (ok' b _ (un.frzs b ob _ q)).1
  cases own : K.lookup sa with
  | some ob =>
    have same := inK sa ob own
    rw [at1] at same
    cases same
    refine go (fun _ => none) (fun _ _ _ _ z => by cases z) (.inr ⟨_, its.toArray, _, own, rfl, rfl, rfl, ?_, ?_⟩) (fun _ _ z => by cases z) (fun _ _ => rfl) fun z => absurd rfl z
    · rw [List.size_toArray, allI.length]
      exact few
    · simpa using vals
  | none =>
    let o1 : Obj := { cls := .type "list", data := .seq its.toArray }
    let H1 : Hp := fun b => if b = sa then some (.frz o1 (.lst (zs.map V.int))) else none
    have h1 : H1 sa = some (.frz o1 (.lst (zs.map V.int))) := if_pos rfl
    have h0 : ∀ b, b ≠ sa → H1 b = none := fun b z => if_neg z
    refine go H1 (fun b ob u hb hu => ?_) (.inl (.inr ⟨o1, h1⟩)) (fun b u hu => ?_) h0 fun _ => own
    · by_cases z : b = sa
      · subst z
        rw [h1] at hu
        rw [at1] at hb
        cases hu
        cases hb
        exact ⟨_, rfl⟩
      · rw [h0 b z] at hu
        cases hu
    · by_cases z : b = sa
      · subst z
        rw [h1] at hu
        cases hu
        refine ⟨at1, ?_, its, _, vals, at1⟩
        rw [List.length_map]
        exact few
      · rw [h0 b z] at hu
        cases hu
end
/-- a law whose promise is one under empty guards -/
theorem walk_G {l : PySem.W.OpenLaw} {n k : Nat} {q : Program} {loose : List Str} {XP : (Str → Option Value) → Heap → Prop} {YP : World → Heap → Prop} {d : DefRec} {x : Str}
    (most : l.most = some n) (small : n ≤ sizeLine) (nodef : d.params.defaults = []) (rm : Room k callerA)
    (F : ∀ (w : World) (mg : Str → Option Value) (fa : Addr) (hp : Heap), YP w hp → hp.Ns mainGlobals mg → mg d.name = some (.ref fa) →
      ∃ (K : PySem.W.Frag) (fd : FuncData) (sp : Sp), K.In hp ∧ (∀ (t : Shared) (u : Value), BindsTo t fd ⟨[u], []⟩ [(x, u)]) ∧
        (∀ (H : Hp) (a : Addr) (zs : List Int), zs.length ≤ n → SqL K H a (zs.map V.int) → sp [.ref a] H (fun v _ => v = .bl true) E0) ∧
        ∀ base : Heap, K.In base → base.Ns mainGlobals mg → FnOkG l.prog w K mg base k fa fd [x] sp) :
    PySem.W.WalkO q loose XP YP l.row.toRowW d [] (fun f vs => PySem.call f vs) := by
  refine Att.attach_call most nodef ?_
  intro w s0 s1 mg mb fa ob pm cd doc sa its zs Gr y hob hdat hcode named at1 allI len gens
  obtain ⟨K, fd, sp, inK, bnd, goal, ok⟩ := F w mg fa _ y Gr.T.g named
  exact call_top inK Gr.T.g Gr.T.b Gr.T.builtins Gr.T.nolimit gens at1 allI (Nat.le_trans len small) rm ok bnd fun H sq => goal H sa zs len sq
end W24
set_option maxHeartbeats 0
/-! W22: the top's facts, the defs by name, the law's end. Printed by mk22.py. -/
namespace W24
open PySem PySem.Spec PyProof.Rows L2
section
variable {K : PySem.W.Frag} {hp : Heap} {mg : Str → Option Value}
theorem wordsT (cw : wordsB K = true) (H : Hp) : SqT K H (He.ga K "WORDS") [.str "same", .str "upto", .str "newer"] := He.tupB_ok (vs := [.str "same", .str "upto", .str "newer"]) cw H
theorem txt_of (X : K.In hp) (G : hp.Ns mainGlobals mg) (c : He.SaysD faL fnL K) (cw : wordsB K = true) : Txt K mg :=
  {isinstance := He.free_ok X G (c.fact 45 (f := .free "isinstance") rfl),
    int := He.free_ok X G (c.fact 46 (f := .free "int") rfl),
    bool := He.free_ok X G (c.fact 47 (f := .free "bool") rfl),
    str := He.free_ok X G (c.fact 48 (f := .free "str") rfl),
    tuple := He.free_ok X G (c.fact 49 (f := .free "tuple") rfl),
    len := He.free_ok X G (c.fact 50 (f := .free "len") rfl),
    all := He.free_ok X G (c.fact 51 (f := .free "all") rfl),
    dict := He.free_ok X G (c.fact 52 (f := .free "dict") rfl),
    range := He.free_ok X G (c.fact 53 (f := .free "range") rfl),
    enumerate := He.free_ok X G (c.fact 54 (f := .free "enumerate") rfl),
    sorted := He.free_ok X G (c.fact 55 (f := .free "sorted") rfl),
    list := He.free_ok X G (c.fact 56 (f := .free "list") rfl),
    set := He.free_ok X G (c.fact 57 (f := .free "set") rfl),
    max := He.free_ok X G (c.fact 58 (f := .free "max") rfl),
    min := He.free_ok X G (c.fact 59 (f := .free "min") rfl),
    sum := He.free_ok X G (c.fact 60 (f := .free "sum") rfl),
    repr := He.free_ok X G (c.fact 61 (f := .free "repr") rfl),
    mLET := He.str_ok X G (c.fact 69 (f := .str "LETTERS" "abcdefghijklmnopqrstuvwxyz") rfl),
    mML := He.int_ok X G (c.fact 63 (f := .int "MOST_LETTERS" 8) rfl),
    mMP := He.int_ok X G (c.fact 64 (f := .int "MOST_PLACES" 4) rfl),
    mMM := He.int_ok X G (c.fact 65 (f := .int "MOST_MOMENT" 9999) rfl),
    mMS := He.int_ok X G (c.fact 66 (f := .int "MOST_SIZE" 1000000000) rfl),
    mMR := He.int_ok X G (c.fact 67 (f := .int "MOST_READS" 12) rfl),
    mMC := He.int_ok X G (c.fact 68 (f := .int "MOST_CHECKS" 24) rfl),
    mSAME := He.str_ok X G (c.fact 70 (f := .str "SAME" "same") rfl),
    mUPTO := He.str_ok X G (c.fact 71 (f := .str "UPTO" "upto") rfl),
    mNEWER := He.str_ok X G (c.fact 72 (f := .str "NEWER" "newer") rfl),
    mWORDS := ⟨_, He.glo_ok X G (c.fact 62 (f := .glo "WORDS") rfl), wordsT cw⟩ }
theorem df_is_whole_houses (X : K.In hp) (G : hp.Ns mainGlobals mg) (c : He.SaysD faL fnL K) : Dfn K mg "is_whole_houses" "is_whole" s_is_whole_houses := by
  obtain ⟨fd, F⟩ := c.def_ 0 (d := d_is_whole_houses) rfl
  exact ⟨_, fd, F, He.glo_ok X G (c.fact 0 (f := .glo "is_whole_houses") rfl)⟩
theorem df_is_place (X : K.In hp) (G : hp.Ns mainGlobals mg) (c : He.SaysD faL fnL K) : Dfn K mg "is_place" "is_place" s_is_place := by
  obtain ⟨fd, F⟩ := c.def_ 1 (d := d_is_place) rfl
  exact ⟨_, fd, F, He.glo_ok X G (c.fact 1 (f := .glo "is_place") rfl)⟩
theorem df_is_pair (X : K.In hp) (G : hp.Ns mainGlobals mg) (c : He.SaysD faL fnL K) : Dfn K mg "is_pair" "is_pair" s_is_pair := by
  obtain ⟨fd, F⟩ := c.def_ 2 (d := d_is_pair) rfl
  exact ⟨_, fd, F, He.glo_ok X G (c.fact 2 (f := .glo "is_pair") rfl)⟩
theorem df_places_in (X : K.In hp) (G : hp.Ns mainGlobals mg) (c : He.SaysD faL fnL K) : Dfn K mg "places_in" "places_in" s_places_in := by
  obtain ⟨fd, F⟩ := c.def_ 3 (d := d_places_in) rfl
  exact ⟨_, fd, F, He.glo_ok X G (c.fact 3 (f := .glo "places_in") rfl)⟩
theorem df_come_to (X : K.In hp) (G : hp.Ns mainGlobals mg) (c : He.SaysD faL fnL K) : Dfn K mg "come_to" "come_to" s_come_to := by
  obtain ⟨fd, F⟩ := c.def_ 4 (d := d_come_to) rfl
  exact ⟨_, fd, F, He.glo_ok X G (c.fact 4 (f := .glo "come_to") rfl)⟩
theorem df_goes_back (X : K.In hp) (G : hp.Ns mainGlobals mg) (c : He.SaysD faL fnL K) : Dfn K mg "goes_back" "goes_back" s_goes_back := by
  obtain ⟨fd, F⟩ := c.def_ 5 (d := d_goes_back) rfl
  exact ⟨_, fd, F, He.glo_ok X G (c.fact 5 (f := .glo "goes_back") rfl)⟩
theorem df_house_fault (X : K.In hp) (G : hp.Ns mainGlobals mg) (c : He.SaysD faL fnL K) : Dfn K mg "house_fault" "house_fault" s_house_fault := by
  obtain ⟨fd, F⟩ := c.def_ 6 (d := d_house_fault) rfl
  exact ⟨_, fd, F, He.glo_ok X G (c.fact 6 (f := .glo "house_fault") rfl)⟩
theorem df_is_read (X : K.In hp) (G : hp.Ns mainGlobals mg) (c : He.SaysD faL fnL K) : Dfn K mg "is_read" "is_read" s_is_read := by
  obtain ⟨fd, F⟩ := c.def_ 7 (d := d_is_read) rfl
  exact ⟨_, fd, F, He.glo_ok X G (c.fact 7 (f := .glo "is_read") rfl)⟩
theorem df_is_check (X : K.In hp) (G : hp.Ns mainGlobals mg) (c : He.SaysD faL fnL K) : Dfn K mg "is_check" "is_check" s_is_check := by
  obtain ⟨fd, F⟩ := c.def_ 8 (d := d_is_check) rfl
  exact ⟨_, fd, F, He.glo_ok X G (c.fact 8 (f := .glo "is_check") rfl)⟩
theorem df_need_reads (X : K.In hp) (G : hp.Ns mainGlobals mg) (c : He.SaysD faL fnL K) : Dfn K mg "need_reads" "need_reads" s_need_reads := by
  obtain ⟨fd, F⟩ := c.def_ 9 (d := d_need_reads) rfl
  exact ⟨_, fd, F, He.glo_ok X G (c.fact 9 (f := .glo "need_reads") rfl)⟩
theorem df_need_checks (X : K.In hp) (G : hp.Ns mainGlobals mg) (c : He.SaysD faL fnL K) : Dfn K mg "need_checks" "need_checks" s_need_checks := by
  obtain ⟨fd, F⟩ := c.def_ 10 (d := d_need_checks) rfl
  exact ⟨_, fd, F, He.glo_ok X G (c.fact 10 (f := .glo "need_checks") rfl)⟩
theorem df_need_fetch (X : K.In hp) (G : hp.Ns mainGlobals mg) (c : He.SaysD faL fnL K) : Dfn K mg "need_fetch" "need_fetch" s_need_fetch := by
  obtain ⟨fd, F⟩ := c.def_ 11 (d := d_need_fetch) rfl
  exact ⟨_, fd, F, He.glo_ok X G (c.fact 11 (f := .glo "need_fetch") rfl)⟩
theorem df_arrows_by (X : K.In hp) (G : hp.Ns mainGlobals mg) (c : He.SaysD faL fnL K) : Dfn K mg "arrows_by" "arrows_by" s_arrows_by := by
  obtain ⟨fd, F⟩ := c.def_ 12 (d := d_arrows_by) rfl
  exact ⟨_, fd, F, He.glo_ok X G (c.fact 12 (f := .glo "arrows_by") rfl)⟩
theorem df_arrows_in (X : K.In hp) (G : hp.Ns mainGlobals mg) (c : He.SaysD faL fnL K) : Dfn K mg "arrows_in" "arrows_in" s_arrows_in := by
  obtain ⟨fd, F⟩ := c.def_ 13 (d := d_arrows_in) rfl
  exact ⟨_, fd, F, He.glo_ok X G (c.fact 13 (f := .glo "arrows_in") rfl)⟩
theorem df_table_of (X : K.In hp) (G : hp.Ns mainGlobals mg) (c : He.SaysD faL fnL K) : Dfn K mg "table_of" "table_of" s_table_of := by
  obtain ⟨fd, F⟩ := c.def_ 14 (d := d_table_of) rfl
  exact ⟨_, fd, F, He.glo_ok X G (c.fact 14 (f := .glo "table_of") rfl)⟩
theorem df_gaps_in (X : K.In hp) (G : hp.Ns mainGlobals mg) (c : He.SaysD faL fnL K) : Dfn K mg "gaps_in" "gaps_in" s_gaps_in := by
  obtain ⟨fd, F⟩ := c.def_ 15 (d := d_gaps_in) rfl
  exact ⟨_, fd, F, He.glo_ok X G (c.fact 15 (f := .glo "gaps_in") rfl)⟩
theorem df_need_possible (X : K.In hp) (G : hp.Ns mainGlobals mg) (c : He.SaysD faL fnL K) : Dfn K mg "need_possible" "need_possible" s_need_possible := by
  obtain ⟨fd, F⟩ := c.def_ 16 (d := d_need_possible) rfl
  exact ⟨_, fd, F, He.glo_ok X G (c.fact 16 (f := .glo "need_possible") rfl)⟩
theorem df_go_together (X : K.In hp) (G : hp.Ns mainGlobals mg) (c : He.SaysD faL fnL K) : Dfn K mg "go_together" "go_together" s_go_together := by
  obtain ⟨fd, F⟩ := c.def_ 17 (d := d_go_together) rfl
  exact ⟨_, fd, F, He.glo_ok X G (c.fact 17 (f := .glo "go_together") rfl)⟩
theorem df_classes_of (X : K.In hp) (G : hp.Ns mainGlobals mg) (c : He.SaysD faL fnL K) : Dfn K mg "classes_of" "classes_of" s_classes_of := by
  obtain ⟨fd, F⟩ := c.def_ 18 (d := d_classes_of) rfl
  exact ⟨_, fd, F, He.glo_ok X G (c.fact 18 (f := .glo "classes_of") rfl)⟩
theorem df_need_glue (X : K.In hp) (G : hp.Ns mainGlobals mg) (c : He.SaysD faL fnL K) : Dfn K mg "need_glue" "need_glue" s_need_glue := by
  obtain ⟨fd, F⟩ := c.def_ 19 (d := d_need_glue) rfl
  exact ⟨_, fd, F, He.glo_ok X G (c.fact 19 (f := .glo "need_glue") rfl)⟩
theorem df_cover_in (X : K.In hp) (G : hp.Ns mainGlobals mg) (c : He.SaysD faL fnL K) : Dfn K mg "cover_in" "cover_in" s_cover_in := by
  obtain ⟨fd, F⟩ := c.def_ 20 (d := d_cover_in) rfl
  exact ⟨_, fd, F, He.glo_ok X G (c.fact 20 (f := .glo "cover_in") rfl)⟩
theorem df_many_in (X : K.In hp) (G : hp.Ns mainGlobals mg) (c : He.SaysD faL fnL K) : Dfn K mg "many_in" "many_in" s_many_in := by
  obtain ⟨fd, F⟩ := c.def_ 21 (d := d_many_in) rfl
  exact ⟨_, fd, F, He.glo_ok X G (c.fact 21 (f := .glo "many_in") rfl)⟩
theorem df_best_in (X : K.In hp) (G : hp.Ns mainGlobals mg) (c : He.SaysD faL fnL K) : Dfn K mg "best_in" "best_in" s_best_in := by
  obtain ⟨fd, F⟩ := c.def_ 22 (d := d_best_in) rfl
  exact ⟨_, fd, F, He.glo_ok X G (c.fact 22 (f := .glo "best_in") rfl)⟩
theorem df_gaps_between (X : K.In hp) (G : hp.Ns mainGlobals mg) (c : He.SaysD faL fnL K) : Dfn K mg "gaps_between" "gaps_between" s_gaps_between := by
  obtain ⟨fd, F⟩ := c.def_ 23 (d := d_gaps_between) rfl
  exact ⟨_, fd, F, He.glo_ok X G (c.fact 23 (f := .glo "gaps_between") rfl)⟩
theorem df_cover (X : K.In hp) (G : hp.Ns mainGlobals mg) (c : He.SaysD faL fnL K) : Dfn K mg "cover" "cover" s_cover := by
  obtain ⟨fd, F⟩ := c.def_ 24 (d := d_cover) rfl
  exact ⟨_, fd, F, He.glo_ok X G (c.fact 24 (f := .glo "cover") rfl)⟩
theorem df_most_kept (X : K.In hp) (G : hp.Ns mainGlobals mg) (c : He.SaysD faL fnL K) : Dfn K mg "most_kept" "most_kept" s_most_kept := by
  obtain ⟨fd, F⟩ := c.def_ 25 (d := d_most_kept) rfl
  exact ⟨_, fd, F, He.glo_ok X G (c.fact 25 (f := .glo "most_kept") rfl)⟩
theorem df_best (X : K.In hp) (G : hp.Ns mainGlobals mg) (c : He.SaysD faL fnL K) : Dfn K mg "best" "best" s_best := by
  obtain ⟨fd, F⟩ := c.def_ 26 (d := d_best) rfl
  exact ⟨_, fd, F, He.glo_ok X G (c.fact 26 (f := .glo "best") rfl)⟩
theorem df_missing (X : K.In hp) (G : hp.Ns mainGlobals mg) (c : He.SaysD faL fnL K) : Dfn K mg "missing" "missing" s_missing := by
  obtain ⟨fd, F⟩ := c.def_ 27 (d := d_missing) rfl
  exact ⟨_, fd, F, He.glo_ok X G (c.fact 27 (f := .glo "missing") rfl)⟩
theorem df_is_whole_kept (X : K.In hp) (G : hp.Ns mainGlobals mg) (c : He.SaysD faL fnL K) : Dfn K mg "is_whole_kept" "is_whole" s_is_whole_kept := by
  obtain ⟨fd, F⟩ := c.def_ 28 (d := d_is_whole_kept) rfl
  exact ⟨_, fd, F, He.glo_ok X G (c.fact 28 (f := .glo "is_whole_kept") rfl)⟩
theorem df_law_mixed (X : K.In hp) (G : hp.Ns mainGlobals mg) (c : He.SaysD faL fnL K) : Dfn K mg "_law_mixed" "_law_mixed" s_law_mixed := by
  obtain ⟨fd, F⟩ := c.def_ 29 (d := d_law_mixed) rfl
  exact ⟨_, fd, F, He.glo_ok X G (c.fact 29 (f := .glo "_law_mixed") rfl)⟩
theorem df_law_begin (X : K.In hp) (G : hp.Ns mainGlobals mg) (c : He.SaysD faL fnL K) : Dfn K mg "_law_begin" "_law_begin" s_law_begin := by
  obtain ⟨fd, F⟩ := c.def_ 30 (d := d_law_begin) rfl
  exact ⟨_, fd, F, He.glo_ok X G (c.fact 30 (f := .glo "_law_begin") rfl)⟩
theorem df_law_draw (X : K.In hp) (G : hp.Ns mainGlobals mg) (c : He.SaysD faL fnL K) : Dfn K mg "_law_draw" "_law_draw" s_law_draw := by
  obtain ⟨fd, F⟩ := c.def_ 31 (d := d_law_draw) rfl
  exact ⟨_, fd, F, He.glo_ok X G (c.fact 31 (f := .glo "_law_draw") rfl)⟩
theorem df_law_house (X : K.In hp) (G : hp.Ns mainGlobals mg) (c : He.SaysD faL fnL K) : Dfn K mg "_law_house" "_law_house" s_law_house := by
  obtain ⟨fd, F⟩ := c.def_ 32 (d := d_law_house) rfl
  exact ⟨_, fd, F, He.glo_ok X G (c.fact 32 (f := .glo "_law_house") rfl)⟩
theorem df_law_read (X : K.In hp) (G : hp.Ns mainGlobals mg) (c : He.SaysD faL fnL K) : Dfn K mg "_law_read" "_law_read" s_law_read := by
  obtain ⟨fd, F⟩ := c.def_ 33 (d := d_law_read) rfl
  exact ⟨_, fd, F, He.glo_ok X G (c.fact 33 (f := .glo "_law_read") rfl)⟩
theorem df_law_test (X : K.In hp) (G : hp.Ns mainGlobals mg) (c : He.SaysD faL fnL K) : Dfn K mg "_law_test" "_law_test" s_law_test := by
  obtain ⟨fd, F⟩ := c.def_ 34 (d := d_law_test) rfl
  exact ⟨_, fd, F, He.glo_ok X G (c.fact 34 (f := .glo "_law_test") rfl)⟩
theorem df_law_fetch (X : K.In hp) (G : hp.Ns mainGlobals mg) (c : He.SaysD faL fnL K) : Dfn K mg "_law_fetch" "_law_fetch" s_law_fetch := by
  obtain ⟨fd, F⟩ := c.def_ 35 (d := d_law_fetch) rfl
  exact ⟨_, fd, F, He.glo_ok X G (c.fact 35 (f := .glo "_law_fetch") rfl)⟩
theorem df_law_under (X : K.In hp) (G : hp.Ns mainGlobals mg) (c : He.SaysD faL fnL K) : Dfn K mg "_law_under" "_law_under" s_law_under := by
  obtain ⟨fd, F⟩ := c.def_ 36 (d := d_law_under) rfl
  exact ⟨_, fd, F, He.glo_ok X G (c.fact 36 (f := .glo "_law_under") rfl)⟩
theorem df_law_arrows (X : K.In hp) (G : hp.Ns mainGlobals mg) (c : He.SaysD faL fnL K) : Dfn K mg "_law_arrows" "_law_arrows" s_law_arrows := by
  obtain ⟨fd, F⟩ := c.def_ 37 (d := d_law_arrows) rfl
  exact ⟨_, fd, F, He.glo_ok X G (c.fact 37 (f := .glo "_law_arrows") rfl)⟩
theorem df_law_gaps (X : K.In hp) (G : hp.Ns mainGlobals mg) (c : He.SaysD faL fnL K) : Dfn K mg "_law_gaps" "_law_gaps" s_law_gaps := by
  obtain ⟨fd, F⟩ := c.def_ 38 (d := d_law_gaps) rfl
  exact ⟨_, fd, F, He.glo_ok X G (c.fact 38 (f := .glo "_law_gaps") rfl)⟩
theorem df_law_mild (X : K.In hp) (G : hp.Ns mainGlobals mg) (c : He.SaysD faL fnL K) : Dfn K mg "_law_mild" "_law_mild" s_law_mild := by
  obtain ⟨fd, F⟩ := c.def_ 39 (d := d_law_mild) rfl
  exact ⟨_, fd, F, He.glo_ok X G (c.fact 39 (f := .glo "_law_mild") rfl)⟩
theorem df_law_groups (X : K.In hp) (G : hp.Ns mainGlobals mg) (c : He.SaysD faL fnL K) : Dfn K mg "_law_groups" "_law_groups" s_law_groups := by
  obtain ⟨fd, F⟩ := c.def_ 40 (d := d_law_groups) rfl
  exact ⟨_, fd, F, He.glo_ok X G (c.fact 40 (f := .glo "_law_groups") rfl)⟩
theorem df_law_bytes (X : K.In hp) (G : hp.Ns mainGlobals mg) (c : He.SaysD faL fnL K) : Dfn K mg "_law_bytes" "_law_bytes" s_law_bytes := by
  obtain ⟨fd, F⟩ := c.def_ 41 (d := d_law_bytes) rfl
  exact ⟨_, fd, F, He.glo_ok X G (c.fact 41 (f := .glo "_law_bytes") rfl)⟩
theorem df_law_runs (X : K.In hp) (G : hp.Ns mainGlobals mg) (c : He.SaysD faL fnL K) : Dfn K mg "_law_runs" "_law_runs" s_law_runs := by
  obtain ⟨fd, F⟩ := c.def_ 42 (d := d_law_runs) rfl
  exact ⟨_, fd, F, He.glo_ok X G (c.fact 42 (f := .glo "_law_runs") rfl)⟩
theorem df_law_right (X : K.In hp) (G : hp.Ns mainGlobals mg) (c : He.SaysD faL fnL K) : Dfn K mg "_law_right" "_law_right" s_law_right := by
  obtain ⟨fd, F⟩ := c.def_ 43 (d := d_law_right) rfl
  exact ⟨_, fd, F, He.glo_ok X G (c.fact 43 (f := .glo "_law_right") rfl)⟩
theorem df_law (X : K.In hp) (G : hp.Ns mainGlobals mg) (c : He.SaysD faL fnL K) : Dfn K mg "law" "law" s_law := by
  obtain ⟨fd, F⟩ := c.def_ 44 (d := d_law) rfl
  exact ⟨_, fd, F, He.glo_ok X G (c.fact 44 (f := .glo "law") rfl)⟩
end
theorem factsW {P : Program} {w : World} {K : PySem.W.Frag} {hp : Heap} {mg : Str → Option Value} {f : Addr} (X : K.In hp) (G : hp.Ns mainGlobals mg) (hfa : mg ("law" : Str) = some (.ref f)) (c : He.SaysD faL fnL K) (cw : wordsB K = true) :
    ∃ fd : FuncData, (∀ (s : Shared) (v : Value), BindsTo s fd ⟨[v], []⟩ [("script", v)]) ∧ ∀ base : Heap, K.In base → base.Ns mainGlobals mg → FnOkG P w K mg base 10 f fd ["script"] (spLaw K) := by
  have T := txt_of X G c cw
  have k_law_begin : ∀ base : Heap, Cal P w K mg base 1 "_law_begin" ["script"] (spBegin K) := fun base => (df_law_begin X G c).cal (fun _ _ F => ok_law_begin T  F) fun _ _ _ _ _ _ us hl => match us, hl with | [_], _ => rfl
  have k_law_mixed : ∀ base : Heap, Cal P w K mg base 1 "_law_mixed" ["cell", "k"] spMixed := fun base => (df_law_mixed X G c).cal (fun _ _ F => ok_law_mixed T  F) fun _ _ _ _ _ _ us hl => match us, hl with | [_, _], _ => rfl
  have k_law_draw : ∀ base : Heap, Cal P w K mg base 2 "_law_draw" ["state", "many"] spDraw := fun base => (df_law_draw X G c).cal (fun _ _ F => ok_law_draw T (k_law_mixed base) F) fun _ _ _ _ _ _ us hl => match us, hl with | [_, _], _ => rfl
  have k_law_house : ∀ base : Heap, Cal P w K mg base 3 "_law_house" ["state"] spHouse := fun base => (df_law_house X G c).cal (fun _ _ F => ok_law_house T (k_law_draw base) F) fun _ _ _ _ _ _ us hl => match us, hl with | [_], _ => rfl
  have k_law_read : ∀ base : Heap, Cal P w K mg base 3 "_law_read" ["state", "house", "size"] spLRead := fun base => (df_law_read X G c).cal (fun _ _ F => ok_law_read T (k_law_draw base) F) fun _ _ _ _ _ _ us hl => match us, hl with | [_, _, _], _ => rfl
  have k_law_test : ∀ base : Heap, Cal P w K mg base 3 "_law_test" ["state", "many"] spLTest := fun base => (df_law_test X G c).cal (fun _ _ F => ok_law_test T (k_law_draw base) F) fun _ _ _ _ _ _ us hl => match us, hl with | [_, _], _ => rfl
  have k_law_fetch : ∀ base : Heap, Cal P w K mg base 4 "_law_fetch" ["state", "most"] spLFetch := fun base => (df_law_fetch X G c).cal (fun _ _ F => ok_law_fetch T (k_law_draw base) (k_law_house base) (k_law_read base) (k_law_test base) F) fun _ _ _ _ _ _ us hl => match us, hl with | [_, _], _ => rfl
  have k_law_under : ∀ base : Heap, Cal P w K mg base 1 "_law_under" ["house", "place"] spUp := fun base => (df_law_under X G c).cal (fun _ _ F => ok_law_under T  F) fun _ _ _ _ _ _ us hl => match us, hl with | [_, _], _ => rfl
  have k_law_arrows : ∀ base : Heap, Cal P w K mg base 2 "_law_arrows" ["fetch"] spArrows := fun base => (df_law_arrows X G c).cal (fun _ _ F => ok_law_arrows T (k_law_under base) F) fun _ _ _ _ _ _ us hl => match us, hl with | [_], _ => rfl
  have k_law_gaps : ∀ base : Heap, Cal P w K mg base 3 "_law_gaps" ["fetch"] spLGaps := fun base => (df_law_gaps X G c).cal (fun _ _ F => ok_law_gaps T (k_law_arrows base) F) fun _ _ _ _ _ _ us hl => match us, hl with | [_], _ => rfl
  have k_law_mild : ∀ base : Heap, Cal P w K mg base 5 "_law_mild" ["state", "most"] spMild := fun base => (df_law_mild X G c).cal (fun _ _ F => ok_law_mild T (k_law_fetch base) (k_law_gaps base) F) fun _ _ _ _ _ _ us hl => match us, hl with | [_, _], _ => rfl
  have k_law_bytes : ∀ base : Heap, Cal P w K mg base 1 "_law_bytes" ["reads", "some", "size"] spBytes := fun base => (df_law_bytes X G c).cal (fun _ _ F => ok_law_bytes T  F) fun _ _ _ _ _ _ us hl => match us, hl with | [_, _, _], _ => rfl
  have k_law_runs : ∀ base : Heap, Cal P w K mg base 1 "_law_runs" ["there"] spRuns := fun base => (df_law_runs X G c).cal (fun _ _ F => ok_law_runs T  F) fun _ _ _ _ _ _ us hl => match us, hl with | [_], _ => rfl
  have k_law_groups : ∀ base : Heap, Cal P w K mg base 4 "_law_groups" ["fetch"] spGroups := fun base => (df_law_groups X G c).cal (fun _ _ F => ok_law_groups T (k_law_gaps base) F) fun _ _ _ _ _ _ us hl => match us, hl with | [_], _ => rfl
  have k_place : ∀ base : Heap, Cal P w K mg base 1 "is_place" ["thing"] spPlace := fun base => (df_is_place X G c).cal (fun _ _ F => ok_place T  F) fun _ _ _ _ _ _ us hl => match us, hl with | [_], _ => rfl
  have k_pair : ∀ base : Heap, Cal P w K mg base 2 "is_pair" ["thing"] spPair := fun base => (df_is_pair X G c).cal (fun _ _ F => ok_pair T (k_place base) F) fun _ _ _ _ _ _ us hl => match us, hl with | [_], _ => rfl
  have k_goes_back : ∀ base : Heap, Cal P w K mg base 1 "goes_back" ["house", "place"] spBack := fun base => (df_goes_back X G c).cal (fun _ _ F => ok_goes_back T  F) fun _ _ _ _ _ _ us hl => match us, hl with | [_, _], _ => rfl
  have k_places : ∀ base : Heap, Cal P w K mg base 1 "places_in" ["house"] spPlaces := fun base => (df_places_in X G c).cal (fun _ _ F => ok_places T  F) fun _ _ _ _ _ _ us hl => match us, hl with | [_], _ => rfl
  have k_house_fault : ∀ base : Heap, Cal P w K mg base 3 "house_fault" ["thing"] spFault := fun base => (df_house_fault X G c).cal (fun _ _ F => ok_house_fault T (k_pair base) (k_goes_back base) (k_places base) F) fun _ _ _ _ _ _ us hl => match us, hl with | [_], _ => rfl
  have k_whole : ∀ base : Heap, Cal P w K mg base 1 "is_whole_houses" ["thing", "least", "most"] spWhole := fun base => (df_is_whole_houses X G c).cal (fun _ _ F => ok_whole T  F) fun _ _ _ _ _ _ us hl => match us, hl with | [_, _, _], _ => rfl
  have k_is_read : ∀ base : Heap, Cal P w K mg base 2 "is_read" ["house", "size", "thing"] spRead := fun base => (df_is_read X G c).cal (fun _ _ F => ok_is_read T (k_whole base) (k_place base) (k_places base) F) fun _ _ _ _ _ _ us hl => match us, hl with | [_, _, _], _ => rfl
  have k_need_reads : ∀ base : Heap, Cal P w K mg base 3 "need_reads" ["house", "size", "reads"] spNReads := fun base => (df_need_reads X G c).cal (fun _ _ F => ok_need_reads T (k_is_read base) F) fun _ _ _ _ _ _ us hl => match us, hl with | [_, _, _], _ => rfl
  have k_is_check : ∀ base : Heap, Cal P w K mg base 2 "is_check" ["many", "thing"] spCheck := fun base => (df_is_check X G c).cal (fun _ _ F => ok_is_check T (k_whole base) F) fun _ _ _ _ _ _ us hl => match us, hl with | [_, _], _ => rfl
  have k_need_checks : ∀ base : Heap, Cal P w K mg base 3 "need_checks" ["many", "checks"] spNChecks := fun base => (df_need_checks X G c).cal (fun _ _ F => ok_need_checks T (k_is_check base) F) fun _ _ _ _ _ _ us hl => match us, hl with | [_, _], _ => rfl
  have k_need_fetch : ∀ base : Heap, Cal P w K mg base 4 "need_fetch" ["thing"] spNFetch := fun base => (df_need_fetch X G c).cal (fun _ _ F => ok_need_fetch T (k_house_fault base) (k_whole base) (k_need_reads base) (k_need_checks base) F) fun _ _ _ _ _ _ us hl => match us, hl with | [_], _ => rfl
  have k_need_glue : ∀ base : Heap, Cal P w K mg base 2 "need_glue" ["fetch", "thing"] spGlue := fun base => (df_need_glue X G c).cal (fun _ _ F => ok_need_glue T (k_whole base) F) fun _ _ _ _ _ _ us hl => match us, hl with | [_, _], _ => rfl
  have k_come_to : ∀ base : Heap, Cal P w K mg base 1 "come_to" ["house", "place"] spUp := fun base => (df_come_to X G c).cal (fun _ _ F => ok_come_to T  F) fun _ _ _ _ _ _ us hl => match us, hl with | [_, _], _ => rfl
  have k_arrows_by : ∀ base : Heap, Cal P w K mg base 2 "arrows_by" ["fetch"] spArrows := fun base => (df_arrows_by X G c).cal (fun _ _ F => ok_arrows_by T (k_come_to base) F) fun _ _ _ _ _ _ us hl => match us, hl with | [_], _ => rfl
  have k_arrows_in : ∀ base : Heap, Cal P w K mg base 3 "arrows_in" ["fetch"] spArrowsIn := fun base => (df_arrows_in X G c).cal (fun _ _ F => ok_arrows_in T (k_arrows_by base) F) fun _ _ _ _ _ _ us hl => match us, hl with | [_], _ => rfl
  have k_table_of : ∀ base : Heap, Cal P w K mg base 1 "table_of" ["many", "arrows"] spTable := fun base => (df_table_of X G c).cal (fun _ _ F => ok_table_of T  F) fun _ _ _ _ _ _ us hl => match us, hl with | [_, _], _ => rfl
  have k_gaps_in : ∀ base : Heap, Cal P w K mg base 4 "gaps_in" ["fetch"] spRows := fun base => (df_gaps_in X G c).cal (fun _ _ F => ok_gaps_in T (k_arrows_in base) (k_table_of base) F) fun _ _ _ _ _ _ us hl => match us, hl with | [_], _ => rfl
  have k_need_possible : ∀ base : Heap, Cal P w K mg base 5 "need_possible" ["fetch"] spRows := fun base => (df_need_possible X G c).cal (fun _ _ F => ok_need_possible T (k_gaps_in base) F) fun _ _ _ _ _ _ us hl => match us, hl with | [_], _ => rfl
  have k_cover_inT : ∀ base : Heap, Cal P w K mg base 1 "cover_in" ["fetch", "numbers"] spCoverT := fun base => (df_cover_in X G c).cal (fun _ _ F => ok_cover_inT T  F) fun _ _ _ _ _ _ us hl => match us, hl with | [_, _], _ => rfl
  have k_cover : ∀ base : Heap, Cal P w K mg base 6 "cover" ["fetch", "glue"] spCov := fun base => (df_cover X G c).cal (fun _ _ F => ok_cover T (k_need_fetch base) (k_need_glue base) (k_need_possible base) (k_cover_inT base) F) fun _ _ _ _ _ _ us hl => match us, hl with | [_, _], _ => rfl
  have k_go_together : ∀ base : Heap, Cal P w K mg base 1 "go_together" ["rows", "one", "other"] spTog := fun base => (df_go_together X G c).cal (fun _ _ F => ok_go_together T  F) fun _ _ _ _ _ _ us hl => match us, hl with | [_, _, _], _ => rfl
  have k_classes_of : ∀ base : Heap, Cal P w K mg base 2 "classes_of" ["rows", "numbers"] spClasses := fun base => (df_classes_of X G c).cal (fun _ _ F => ok_classes_of T (k_go_together base) F) fun _ _ _ _ _ _ us hl => match us, hl with | [_, _], _ => rfl
  have k_cover_inL : ∀ base : Heap, Cal P w K mg base 1 "cover_in" ["fetch", "numbers"] spCoverL := fun base => (df_cover_in X G c).cal (fun _ _ F => ok_cover_inL T  F) fun _ _ _ _ _ _ us hl => match us, hl with | [_, _], _ => rfl
  have k_many_in : ∀ base : Heap, Cal P w K mg base 1 "many_in" ["pairs"] spMany := fun base => (df_many_in X G c).cal (fun _ _ F => ok_many_in T  F) fun _ _ _ _ _ _ us hl => match us, hl with | [_], _ => rfl
  have k_best_in : ∀ base : Heap, Cal P w K mg base 6 "best_in" ["fetch"] spBestIn := fun base => (df_best_in X G c).cal (fun _ _ F => ok_best_in T (k_need_possible base) (k_classes_of base) (k_cover_inL base) (k_many_in base) F) fun _ _ _ _ _ _ us hl => match us, hl with | [_], _ => rfl
  have k_best : ∀ base : Heap, Cal P w K mg base 7 "best" ["fetch"] spBest := fun base => (df_best X G c).cal (fun _ _ F => ok_best T (k_need_fetch base) (k_best_in base) F) fun _ _ _ _ _ _ us hl => match us, hl with | [_], _ => rfl
  have k_most_kept : ∀ base : Heap, Cal P w K mg base 7 "most_kept" ["fetch"] spMost := fun base => (df_most_kept X G c).cal (fun _ _ F => ok_most_kept T (k_need_fetch base) (k_best_in base) (k_many_in base) F) fun _ _ _ _ _ _ us hl => match us, hl with | [_], _ => rfl
  have k_gaps_between : ∀ base : Heap, Cal P w K mg base 1 "gaps_between" ["pairs", "size"] spGapsB := fun base => (df_gaps_between X G c).cal (fun _ _ F => ok_gaps_between T  F) fun _ _ _ _ _ _ us hl => match us, hl with | [_, _], _ => rfl
  have k_missing : ∀ base : Heap, Cal P w K mg base 7 "missing" ["fetch"] spMissing := fun base => (df_missing X G c).cal (fun _ _ F => ok_missing T (k_need_fetch base) (k_best_in base) (k_gaps_between base) F) fun _ _ _ _ _ _ us hl => match us, hl with | [_], _ => rfl
  have k_is_whole_kept : ∀ base : Heap, Cal P w K mg base 8 "is_whole_kept" ["fetch"] spIsWhole := fun base => (df_is_whole_kept X G c).cal (fun _ _ F => ok_is_whole_kept T (k_missing base) F) fun _ _ _ _ _ _ us hl => match us, hl with | [_], _ => rfl
  have k_law_right : ∀ base : Heap, CalG P w K mg base 9 "_law_right" ["state", "fetch"] spRight := fun base => (df_law_right X G c).calG (fun _ _ F => ok_law_right T (k_law_draw base) (k_law_bytes base) (k_law_runs base) (k_law_groups base) (k_cover base) (k_best base) (k_most_kept base) (k_missing base) (k_is_whole_kept base) F) fun _ _ _ _ _ _ us hl => match us, hl with | [_, _], _ => rfl
  obtain ⟨fa, fd, F, hm⟩ := df_law X G c
  have e := hfa.symm.trans hm
  cases e
  have b := FunD.bindsA (ps := ["script"]) F fun _ _ _ _ _ _ us hl => match us, hl with | [_], _ => rfl
  exact ⟨fd, fun s v => b s [v] rfl, fun base _ _ => ok_law T (k_law_begin base) (k_law_mild base) (k_law_right base) (k_law_test base) (k_law_gaps base) (k_most_kept base) F⟩
end W24
open PySem PySem.W PySem.Calls PyProof.Rows
theorem PySem.Challenge.cw_wholefetch_k24_whole_what_can_be_kept_holds : PySem.Challenge.rw_wholefetch_k24_whole_what_can_be_kept.Holds := by
  w_on; o_law
  refine HandSHeadRun.head_any (r := OpenLaw.row PySem.Challenge.rw_wholefetch_k24_whole_what_can_be_kept) (q := view (OpenLaw.row PySem.Challenge.rw_wholefetch_k24_whole_what_can_be_kept).prog [69]) (H := W24.hkW) (ob := W24.obW) (M := 3000) (loose := W24.looseL) (d := HandSHeadRun.topDef (OpenLaw.row PySem.Challenge.rw_wholefetch_k24_whole_what_can_be_kept).prog 69) (kwd := []) W24.obW_eq
    (by kernel_rfl) (fun s => by kernel_rfl) W24.runW (by kernel_rfl) (by kernel_rfl) (by kernel_rfl) (by rfl) (by first | assumption | decide +kernel) (by decide +kernel) ⟨rfl, rfl, rfl, rfl, rfl, by decide +kernel⟩ ?hw ?hc
  case hw => w_witness2
  case hc =>
    refine W24.walk_G (l := PySem.Challenge.rw_wholefetch_k24_whole_what_can_be_kept) (n := 63) (k := 10) (x := "script") rfl (by decide) (by kernel_rfl) ⟨rfl, by decide, by decide⟩ ?F
    intro w mg fa h Y G hmg0
    obtain ⟨K, KX, c, cw⟩ := Y
    have hmg : mg ("law" : PySem.Str) = some (.ref fa) := by
      have e : (HandSHeadRun.topDef (OpenLaw.row PySem.Challenge.rw_wholefetch_k24_whole_what_can_be_kept).prog 69).name = ("law" : PySem.Str) := by kernel_rfl
      rw [← e]
      exact hmg0
    obtain ⟨fd, hb, hF⟩ := W24.factsW (P := (PySem.Challenge.rw_wholefetch_k24_whole_what_can_be_kept).prog) (w := w) KX G hmg c cw
    exact ⟨K, fd, W24.spLaw K, KX, hb, fun H a ns hl hS => ⟨a, ns, rfl, hS, Nat.le_trans hl (by decide), fun _ => rfl⟩, hF⟩
