import PyProof.Rows.All
import Wide.All
import OpenK.AllK
import Wide.FinOn
import HandS.ForMost
import HandS.More
import HandS.Set
import HandS.SetFor
import PyProof.StrWalks
import HandS.Property
import PyProof.ReprRoads
import HandS.Walk
import HandS.Codes
import HandS.IsInst
import HandS.Conv
import PyProof.StrLawsIn
import HandS.TupAny
import HandS.CallLocal
import PySem.Challenge.RW_sameunions_k55_whole_joined_parts
set_option Elab.async false
set_option linter.all false
set_option maxRecDepth 100000
set_option maxHeartbeats 4000000
namespace KM
/-! Plain mathematics of the law: what is left by striking out; joined parts. Words are lists of signs. -/
abbrev Ws := List (List Nat)
def wd (ws : Ws) (k : Nat) : List Nat := ws.getD k []
def seen (ws : Ws) (part : List Nat) : List Nat := (part.map (wd ws)).flatten
def rest (left : List Nat) (i : Nat) : List Nat := left.filter fun k => decide (k ≠ i)
def own (ws : Ws) (left : List Nat) (i : Nat) : List Nat := (wd ws i).filter fun x => decide (x ∉ seen ws (rest left i))
theorem mem_seen {ws : Ws} {part : List Nat} {x : Nat} : x ∈ seen ws part ↔ ∃ k ∈ part, x ∈ wd ws k := by
  unfold seen
  rw [List.mem_flatten]
  constructor
  · rintro ⟨l, hl, hx⟩
    obtain ⟨k, hk, e⟩ := List.mem_map.mp hl
    exact ⟨k, hk, by rw [e]; exact hx⟩
  · rintro ⟨k, hk, hx⟩
    exact ⟨wd ws k, List.mem_map.mpr ⟨k, hk, rfl⟩, hx⟩
theorem mem_rest {left : List Nat} {i k : Nat} : k ∈ rest left i ↔ k ∈ left ∧ k ≠ i := by
  unfold rest
  simp [List.mem_filter]
theorem mem_own {ws : Ws} {left : List Nat} {i x : Nat} : x ∈ own ws left i ↔ x ∈ wd ws i ∧ ∀ k ∈ left, k ≠ i → x ∉ wd ws k := by
  unfold own
  rw [List.mem_filter, decide_eq_true_eq, mem_seen]
  constructor
  · rintro ⟨h1, h2⟩
    exact ⟨h1, fun k hk hne hx => h2 ⟨k, mem_rest.mpr ⟨hk, hne⟩, hx⟩⟩
  · rintro ⟨h1, h2⟩
    refine ⟨h1, ?_⟩
    rintro ⟨k, hk, hx⟩
    exact h2 k (mem_rest.mp hk).1 (mem_rest.mp hk).2 hx
/-- each thing of each lot is in another one -/
def Stable (ws : Ws) (T : List Nat) : Prop := ∀ i ∈ T, ∀ x ∈ wd ws i, ∃ k ∈ T, k ≠ i ∧ x ∈ wd ws k
theorem own_nil {ws : Ws} {left T : List Nat} {i : Nat} (hT : Stable ws T) (hs : ∀ k ∈ T, k ∈ left) (hi : i ∈ T) : own ws left i = [] := by
  cases e : own ws left i with
  | nil => rfl
  | cons x r =>
    have hx : x ∈ own ws left i := by rw [e]; exact List.mem_cons_self
    obtain ⟨h1, h2⟩ := mem_own.mp hx
    obtain ⟨k, hk, hne, hxk⟩ := hT i hi x h1
    exact absurd hxk (h2 k (hs k hk) hne)
theorem stable_of {ws : Ws} {left : List Nat} (h : ∀ i ∈ left, own ws left i = []) : Stable ws left := fun i hi x hx => by
  apply Classical.byContradiction
  intro hn
  have : x ∈ own ws left i := mem_own.mpr ⟨hx, fun k hk hne hxk => hn ⟨k, hk, hne, hxk⟩⟩
  rw [h i hi] at this
  cases this
/-- left: some of the first n, in order; no stable ones are struck out -/
structure Keeps (ws : Ws) (n : Nat) (left : List Nat) : Prop where
  sub : ∃ p : Nat → Bool, left = (List.range n).filter p
  all : ∀ T, (∀ k ∈ T, k < n) → Stable ws T → ∀ k ∈ T, k ∈ left
theorem Keeps.start (ws : Ws) (n : Nat) : Keeps ws n (List.range n) :=
  ⟨⟨fun _ => true, (List.filter_eq_self.mpr fun _ _ => rfl).symm⟩, fun T h _ k hk => List.mem_range.mpr (h k hk)⟩
theorem Keeps.filter {ws : Ws} {n : Nat} {left : List Nat} (K : Keeps ws n left) (q : Nat → Bool) (h : ∀ i ∈ left, own ws left i = [] → q i = true) : Keeps ws n (left.filter q) := by
  obtain ⟨⟨p, hp⟩, ha⟩ := K
  refine ⟨⟨fun i => q i && p i, by rw [hp, List.filter_filter]⟩, fun T hT hS k hk => ?_⟩
  have hs := ha T hT hS
  exact List.mem_filter.mpr ⟨hs k hk, h k (hs k hk) (own_nil hS hs hk)⟩
theorem Keeps.lt {ws : Ws} {n : Nat} {left : List Nat} (K : Keeps ws n left) : ∀ k ∈ left, k < n := fun k hk => by
  obtain ⟨⟨p, hp⟩, _⟩ := K
  rw [hp] at hk
  exact List.mem_range.mp (List.mem_filter.mp hk).1
theorem Keeps.len {ws : Ws} {n : Nat} {left : List Nat} (K : Keeps ws n left) : left.length ≤ n := by
  obtain ⟨⟨p, hp⟩, _⟩ := K
  rw [hp]
  exact Nat.le_trans (List.length_filter_le _ _) (Nat.le_of_eq List.length_range)
theorem Keeps.asc {ws : Ws} {n : Nat} {left : List Nat} (K : Keeps ws n left) : left.Pairwise (· < ·) := by
  obtain ⟨⟨p, hp⟩, _⟩ := K
  rw [hp]
  exact List.Pairwise.filter _ (by first | exact List.pairwise_lt_range | exact List.pairwise_lt_range _)
theorem Keeps.unique {ws : Ws} {n : Nat} {l1 l2 : List Nat} (K1 : Keeps ws n l1) (S1 : Stable ws l1) (K2 : Keeps ws n l2) (S2 : Stable ws l2) : l1 = l2 := by
  have a := K2.all l1 K1.lt S1
  have b := K1.all l2 K2.lt S2
  obtain ⟨⟨p, hp⟩, _⟩ := K1
  obtain ⟨⟨q, hq⟩, _⟩ := K2
  have hpq : ∀ k ∈ List.range n, p k = q k := fun k hk => by
    have e : p k = true ↔ q k = true := by
      constructor
      · intro h
        have := a k (by rw [hp]; exact List.mem_filter.mpr ⟨hk, h⟩)
        rw [hq] at this
        exact (List.mem_filter.mp this).2
      · intro h
        have := b k (by rw [hq]; exact List.mem_filter.mpr ⟨hk, h⟩)
        rw [hp] at this
        exact (List.mem_filter.mp this).2
    cases h1 : p k <;> cases h2 : q k <;> simp_all
  rw [hp, hq]
  exact List.filter_congr hpq
/-- the law's striking out, t rounds -/
def lawGo (ws : Ws) : Nat → List Nat → List Nat
  | 0, left => left
  | t + 1, left => lawGo ws t (left.filter fun k => decide (own ws left k = []))
theorem lawGo_keeps {ws : Ws} {n : Nat} : ∀ (t : Nat) (left : List Nat), Keeps ws n left → Keeps ws n (lawGo ws t left)
  | 0, _, K => K
  | t + 1, left, K => lawGo_keeps t _ (K.filter _ fun i _ h => decide_eq_true h)
theorem filter_same {q : Nat → Bool} : ∀ (l : List Nat), (l.filter q).length = l.length → ∀ k ∈ l, q k = true := fun l h => by
  rw [List.length_filter_eq_length_iff] at h
  exact h
theorem lawGo_fix {ws : Ws} {left : List Nat} (h : ∀ i ∈ left, own ws left i = []) : ∀ t, lawGo ws t left = left
  | 0 => rfl
  | t + 1 => by
    show lawGo ws t (left.filter fun k => decide (own ws left k = [])) = left
    have e : (left.filter fun k => decide (own ws left k = [])) = left := List.filter_eq_self.mpr fun k hk => decide_eq_true (h k hk)
    rw [e]
    exact lawGo_fix h t
theorem lawGo_stable {ws : Ws} : ∀ (t : Nat) (left : List Nat), left.length ≤ t → Stable ws (lawGo ws t left)
  | 0, left, h => by
    have e : left = [] := List.length_eq_zero_iff.mp (by omega)
    subst e
    intro i hi
    cases hi
  | t + 1, left, h => by
    by_cases hl : (left.filter fun k => decide (own ws left k = [])).length = left.length
    · have hf : ∀ i ∈ left, own ws left i = [] := fun i hi => of_decide_eq_true (filter_same left hl i hi)
      rw [lawGo_fix hf]
      exact stable_of hf
    · have := List.length_filter_le (fun k => decide (own ws left k = [])) left
      exact lawGo_stable t _ (by omega)
def core (ws : Ws) : List Nat := lawGo ws ws.length (List.range ws.length)
theorem core_keeps (ws : Ws) : Keeps ws ws.length (core ws) := lawGo_keeps _ _ (Keeps.start ws _)
theorem core_stable (ws : Ws) : Stable ws (core ws) := lawGo_stable _ _ (by rw [List.length_range]; exact Nat.le_refl _)
theorem core_of {ws : Ws} {left : List Nat} (K : Keeps ws ws.length left) (h : ∀ i ∈ left, own ws left i = []) : left = core ws :=
  K.unique (stable_of h) (core_keeps ws) (core_stable ws)

/-! ### joined parts -/
def hits (ws : Ws) (part : List Nat) (k : Nat) : Bool := decide (∃ x ∈ wd ws k, x ∈ seen ws part)
def grow (ws : Ws) (left part : List Nat) : List Nat := left.filter (hits ws part)
def it (ws : Ws) (left : List Nat) (a : Nat) : Nat → List Nat
  | 0 => [a]
  | k + 1 => grow ws left (it ws left a k)
theorem mem_grow {ws : Ws} {left part : List Nat} {k : Nat} : k ∈ grow ws left part ↔ k ∈ left ∧ ∃ x ∈ wd ws k, x ∈ seen ws part := by
  unfold grow hits
  rw [List.mem_filter, decide_eq_true_eq]
theorem grow_mono {ws : Ws} {left p q : List Nat} (h : ∀ k ∈ p, k ∈ q) : ∀ k ∈ grow ws left p, k ∈ grow ws left q := fun k hk => by
  obtain ⟨h1, x, hx, hs⟩ := mem_grow.mp hk
  obtain ⟨j, hj, hxj⟩ := mem_seen.mp hs
  exact mem_grow.mpr ⟨h1, x, hx, mem_seen.mpr ⟨j, h j hj, hxj⟩⟩
theorem grow_self {ws : Ws} {left p : List Nat} (hw : ∀ k ∈ left, wd ws k ≠ []) {k : Nat} (hk : k ∈ left) (hp : k ∈ p) : k ∈ grow ws left p := by
  cases e : wd ws k with
  | nil => exact absurd e (hw k hk)
  | cons x r =>
    have hx : x ∈ wd ws k := by rw [e]; exact List.mem_cons_self
    exact mem_grow.mpr ⟨hk, x, hx, mem_seen.mpr ⟨k, hp, hx⟩⟩
section
variable {ws : Ws} {left : List Nat} {a : Nat} (hw : ∀ k ∈ left, wd ws k ≠ []) (ha : a ∈ left)
include ha in
theorem it_sub : ∀ (i k : Nat), k ∈ it ws left a i → k ∈ left
  | 0, k, h => by
    have e : k = a := by simpa [it] using h
    rw [e]
    exact ha
  | i + 1, k, h => (mem_grow.mp h).1
include hw ha in
theorem it_step : ∀ (i k : Nat), k ∈ it ws left a i → k ∈ it ws left a (i + 1) := fun i k h => grow_self hw (it_sub ha i k h) h
include hw ha in
theorem it_mem : ∀ i, a ∈ it ws left a i
  | 0 => List.mem_cons_self
  | i + 1 => it_step hw ha i a (it_mem i)
theorem it_fix {i : Nat} (h : it ws left a i = it ws left a (i + 1)) : ∀ j, i ≤ j → it ws left a j = it ws left a i := fun j hj => by
  induction j with
  | zero =>
    have e : i = 0 := by omega
    rw [e]
  | succ j ih =>
    by_cases hij : i ≤ j
    · show grow ws left (it ws left a j) = it ws left a i
      rw [ih hij]
      exact h.symm
    · have e : i = j + 1 := by omega
      rw [e]
end
/-- two filters of one list, the one within the other, of one length: they are one -/
theorem filter_eq_of_sub {p q : Nat → Bool} : ∀ {l : List Nat}, (∀ k ∈ l, p k = true → q k = true) → (l.filter q).length ≤ (l.filter p).length → l.filter p = l.filter q
  | [], _, _ => rfl
  | x :: l, h, hl => by
    have hs : (l.filter p).length ≤ (l.filter q).length := by
      have hsub : ∀ m : List Nat, (∀ k ∈ m, p k = true → q k = true) → (m.filter p).length ≤ (m.filter q).length := fun m => by
        induction m with
        | nil => intro _; exact Nat.le_refl _
        | cons y m ih =>
          intro hm
          have i := ih fun k hk => hm k (List.mem_cons_of_mem _ hk)
          have hy := hm y List.mem_cons_self
          cases hp : p y with
          | true =>
            rw [List.filter_cons_of_pos hp, List.filter_cons_of_pos (hy hp)]
            exact Nat.succ_le_succ i
          | false =>
            rw [List.filter_cons_of_neg (by simp [hp])]
            cases hq : q y with
            | true =>
              rw [List.filter_cons_of_pos hq, List.length_cons]
              omega
            | false =>
              rw [List.filter_cons_of_neg (by simp [hq])]
              exact i
      exact hsub l fun k hk => h k (List.mem_cons_of_mem _ hk)
    have hr : ∀ k ∈ l, p k = true → q k = true := fun k hk => h k (List.mem_cons_of_mem _ hk)
    cases hp : p x with
    | true =>
      have hq := h x List.mem_cons_self hp
      rw [List.filter_cons_of_pos hp, List.filter_cons_of_pos hq] at hl ⊢
      rw [filter_eq_of_sub hr (by simpa using hl)]
    | false =>
      cases hq : q x with
      | true =>
        rw [List.filter_cons_of_pos hq, List.filter_cons_of_neg (by simp [hp]), List.length_cons] at hl
        omega
      | false =>
        have np : ¬ p x = true := by rw [hp]; exact Bool.false_ne_true
        have nq : ¬ q x = true := by rw [hq]; exact Bool.false_ne_true
        rw [List.filter_cons_of_neg nq, List.filter_cons_of_neg np] at hl ⊢
        exact filter_eq_of_sub hr hl
section
variable {ws : Ws} {left : List Nat} {a : Nat}
/-- behind the first step an iterate that isn't the next one has fewer -/
theorem it_grows (hw : ∀ k ∈ left, wd ws k ≠ []) (ha : a ∈ left) (i : Nat) (h : it ws left a (i + 1) ≠ it ws left a (i + 2)) : (it ws left a (i + 1)).length < (it ws left a (i + 2)).length := by
  apply Classical.byContradiction
  intro hn
  apply h
  refine filter_eq_of_sub (fun k hk hp => ?_) (by show (it ws left a (i + 2)).length ≤ (it ws left a (i + 1)).length; omega)
  have m1 : k ∈ it ws left a (i + 1) := List.mem_filter.mpr ⟨hk, hp⟩
  exact (List.mem_filter.mp (it_step hw ha (i + 1) k m1)).2
theorem it_len_le (ha : a ∈ left) : ∀ i, (it ws left a i).length ≤ left.length
  | 0 => List.length_pos_of_mem ha
  | i + 1 => List.length_filter_le _ _
/-- as long as nothing stands, the iterates grow -/
theorem it_len (hw : ∀ k ∈ left, wd ws k ≠ []) (ha : a ∈ left) : ∀ i, (∀ j, j < i → it ws left a j ≠ it ws left a (j + 1)) → i + 1 ≤ (it ws left a i).length + 1
  | 0, _ => by simp [it]
  | 1, h => by
    have := List.length_pos_of_mem (it_mem hw ha 1)
    omega
  | i + 2, h => by
    have ih := it_len hw ha (i + 1) fun j hj => h j (by omega)
    have := it_grows hw ha i (h (i + 1) (by omega))
    omega
def comp (ws : Ws) (left : List Nat) (a : Nat) : List Nat := it ws left a ws.length
/-- the first iterate that is the next one is the part -/
theorem comp_of (hw : ∀ k ∈ left, wd ws k ≠ []) (ha : a ∈ left) (hl : left.length ≤ ws.length) {i : Nat} (hb : ∀ j, j < i → it ws left a j ≠ it ws left a (j + 1)) (h : it ws left a i = it ws left a (i + 1)) : it ws left a (i + 1) = comp ws left a := by
  have h1 := it_len hw ha i hb
  have h2 := it_len_le (ws := ws) ha i
  have hi : i ≤ ws.length := by omega
  rw [← h]
  exact (it_fix h ws.length hi).symm
end
def parts (ws : Ws) : Nat → List Nat → List (List Nat)
  | 0, _ => []
  | _ + 1, [] => []
  | f + 1, a :: r => comp ws (a :: r) a :: parts ws f ((a :: r).filter fun k => decide (k ∉ comp ws (a :: r) a))
theorem parts_nil (ws : Ws) (f : Nat) : parts ws f [] = [] := by cases f <;> rfl
theorem parts_cons (ws : Ws) (f a : Nat) (r : List Nat) : parts ws (f + 1) (a :: r) = comp ws (a :: r) a :: parts ws f ((a :: r).filter fun k => decide (k ∉ comp ws (a :: r) a)) := rfl
theorem less {l c : List Nat} {a : Nat} (ha : a ∈ l) (hc : a ∈ c) : (l.filter fun k => decide (k ∉ c)).length < l.length := by
  apply Nat.lt_of_le_of_ne (List.length_filter_le _ _)
  intro h
  have := filter_same l h a ha
  simp [hc] at this
theorem parts_fuel {ws : Ws} : ∀ (f g : Nat) (left : List Nat), (∀ k ∈ left, wd ws k ≠ []) → left.length ≤ f → left.length ≤ g → parts ws f left = parts ws g left
  | f, g, [], _, _, _ => by rw [parts_nil, parts_nil]
  | 0, g, a :: r, _, h, _ => by simp at h
  | f + 1, 0, a :: r, _, _, h => by simp at h
  | f + 1, g + 1, a :: r, hw, h1, h2 => by
    rw [parts_cons, parts_cons]
    have hl := less (l := a :: r) (c := comp ws (a :: r) a) List.mem_cons_self (it_mem hw List.mem_cons_self _)
    rw [parts_fuel f g _ (fun k hk => hw k (List.mem_filter.mp hk).1) (by omega) (by omega)]
theorem perm_split {l c : List Nat} {q : Nat → Bool} (hc : c = l.filter q) : (c ++ l.filter fun k => decide (k ∉ c)).Perm l := by
  have e : (l.filter fun k => decide (k ∉ c)) = l.filter fun k => !q k := by
    refine List.filter_congr fun k hk => ?_
    have hm : k ∈ c ↔ q k = true := by
      rw [hc, List.mem_filter]
      exact ⟨fun h => h.2, fun h => ⟨hk, h⟩⟩
    cases h : q k with
    | true => simp [hm, h]
    | false => simp [hm, h]
  rw [e, hc]
  exact List.filter_append_perm q l
theorem parts_perm {ws : Ws} : ∀ (f : Nat) (left : List Nat), (∀ k ∈ left, wd ws k ≠ []) → 0 < ws.length → left.length ≤ f → (parts ws f left).flatten.Perm left
  | f, [], _, _, _ => by
    rw [parts_nil]
    exact List.Perm.refl _
  | 0, a :: r, _, _, h => by simp at h
  | f + 1, a :: r, hw, hn, h => by
    rw [parts_cons, List.flatten_cons]
    have hl := less (l := a :: r) (c := comp ws (a :: r) a) List.mem_cons_self (it_mem hw List.mem_cons_self _)
    have ih := parts_perm f ((a :: r).filter fun k => decide (k ∉ comp ws (a :: r) a)) (fun k hk => hw k (List.mem_filter.mp hk).1) hn (by omega)
    obtain ⟨m, hm⟩ : ∃ m, ws.length = m + 1 := ⟨ws.length - 1, by omega⟩
    have hc : comp ws (a :: r) a = (a :: r).filter (hits ws (it ws (a :: r) a m)) := by
      unfold comp
      rw [hm]
      rfl
    exact (ih.append_left _).trans (perm_split hc)
def joined (ws : Ws) : List (List Nat) := parts ws ws.length (core ws)
/-! ### odd rings -/
def ring (ws : Ws) (part : List Nat) : Bool := decide (part.length % 2 = 1) && part.all (fun k => decide ((wd ws k).length = 2)) && (seen ws part).all fun x => decide ((seen ws part).count x = 2)
def rings (ws : Ws) : List (List Nat) := (joined ws).filter (ring ws)
theorem seen_len {ws : Ws} : ∀ {part : List Nat}, (∀ k ∈ part, 1 ≤ (wd ws k).length ∧ (wd ws k).length ≤ 2) → (seen ws part).length ≤ 2 * part.length ∧ ((seen ws part).length = 2 * part.length ↔ ∀ k ∈ part, (wd ws k).length = 2)
  | [], _ => by simp [seen]
  | a :: r, h => by
    obtain ⟨i1, i2⟩ := seen_len fun k hk => h k (List.mem_cons_of_mem _ hk)
    have ha := h a List.mem_cons_self
    have e : (seen ws (a :: r)).length = (wd ws a).length + (seen ws r).length := by simp [seen]
    rw [e, List.length_cons]
    refine ⟨by omega, ?_⟩
    constructor
    · intro hl k hk
      rcases List.mem_cons.mp hk with z | z
      · rw [z]
        omega
      · exact i2.mp (by omega) k z
    · intro hl
      have h1 := hl a List.mem_cons_self
      have h2 := i2.mpr fun k hk => hl k (List.mem_cons_of_mem _ hk)
      omega
end KM

/-! Own rules 1: set(text), set(list of texts), sorted(such a set). -/
namespace K55
open PySem PySem.Spec PyProof.Rows L2

def txt (e : Int × Value) : Str := match e.2 with
  | .str x _ => x
  | _ => Str.empty
def TxE (w : World) (e : Int × Value) : Prop := ∃ x t, e.2 = Value.str x t ∧ e.1 = hashStr w x
/-- at a: a set that holds the texts l, each once, in an order of its own -/
def TxAt (w : World) (h : Heap) (a : Addr) (l : List Str) : Prop :=
  ∃ o es ep t, h.get? a = some o ∧ o.ExactSet ∧ o.data = .set es ep t ∧ (∀ e ∈ es.toList, TxE w e) ∧ (es.toList.map txt).Perm l ∧ l.Nodup ∧
    es.size < scanBound ∧ t.fits es.size = true ∧ Ris t.place.toList ∧ (w.params.followText "set-order" = true ∨ t.led = true)
theorem TxAt.keep {w : World} {h h' : Heap} {a : Addr} {l : List Str} (T : TxAt w h a l) (k : ∀ o, h.get? a = some o → h'.get? a = some o) : TxAt w h' a l := by
  obtain ⟨o, es, ep, t, ho, rest⟩ := T
  exact ⟨o, es, ep, t, k o ho, rest⟩
theorem tx_is {P : Program} {w : World} {e : Int × Value} (g : TxE w e) (k : Str) : (strKind P w).is k e.2 = true ↔ txt e = k := by
  obtain ⟨x, t, h1, _⟩ := g
  have e1 : txt e = x := by
    unfold txt
    rw [h1]
  rw [e1, h1]
  constructor
  · intro h
    obtain ⟨t', e⟩ := Value.isStrOf_shape (x := k) (v := .str x t) h
    injection e
  · intro h
    rw [h]
    exact strKind_is _ _ _ _
theorem tx_elems {P : Program} {w : World} {es : List (Int × Value)} (g : ∀ e ∈ es, TxE w e) : ElemsOf (strKind P w) es := fun e he => by
  obtain ⟨x, t, h1, h2⟩ := g e he
  refine ⟨⟨x, ?_, h2⟩, ?_⟩
  · rw [h1]
    exact strKind_is _ _ _ _
  · rw [h1]
    rfl
section
variable {P : Program} {w : World} {A : Around} {E : Value → Shared → Prop} {s : Shared} {a : Addr}
theorem tx_tail {g : Bool → Sem Unit} (hg : ∀ (b : Bool) (s₁ : Shared) (Q' : Unit → Shared → Prop), Q' () s₁ → wpAny (model P w) A (g b) Q' E s₁)
    {o : Obj} {es es1 : Array (Int × Value)} {ep : Nat} {t t2 : SetTable} {l : List Str} (ho : s.heap.get? a = some o) (hex : o.ExactSet) (hd : o.data = .set es ep t)
    (ge : ∀ e ∈ es1.toList, TxE w e) (pm : (es1.toList.map txt).Perm l) (nd : l.Nodup) (hb : es1.size < scanBound) (hf : t2.fits es1.size = true) (hr : Ris t2.place.toList)
    (hl : w.params.followText "set-order" = true ∨ t2.led = true) {wasDummy : Bool} {R : Option Bool → Shared → Prop} (hR : ∀ h', Heap.SameBut a s.heap h' → TxAt w h' a l → R (some true) { s with heap := h' }) :
    wpAny (model P w) A (do
        storeSet a es1 t2
        if (!wasDummy && t2.tooFull) = true then do
            g (relayAll t2 es1 (SetTable.grown es1.size)).2.2
            storeSet a (relayAll t2 es1 (SetTable.grown es1.size)).1 (relayAll t2 es1 (SetTable.grown es1.size)).2.1
            pure (some true)
          else pure (some true)) R E s := by
  refine wpAny_bind (wpAny_storeSet_of ho hd ?_ (fits_of_scanBound hb))
  have ho1 := store_at (es' := es1) (t' := t2) ho hd
  have sb1 := Heap.SameBut.update s.heap a (Obj.putSet es1 t2)
  split
  · have pr := relayAll_perm t2 es1 (SetTable.grown es1.size)
    have fr := relayAll_fits t2 es1 (SetTable.grown es1.size)
    have rr := relayAll_ris t2 es1 (SetTable.grown es1.size)
    have lr := relayAll_led t2 es1 (SetTable.grown es1.size)
    generalize relayAll t2 es1 (SetTable.grown es1.size) = Z at pr fr rr lr ⊢
    obtain ⟨es2, t3, gave⟩ := Z
    dsimp only at pr fr rr lr ⊢
    have hsz : es2.size = es1.size := by
      have q := pr.length_eq
      rw [Array.length_toList, Array.length_toList] at q
      exact q
    have hb2 : es2.size < scanBound := by
      rw [hsz]
      exact hb
    refine wpAny_bind (hg _ _ _ ?_)
    refine wpAny_bind (wpAny_storeSet_of ho1 rfl ?_ (fits_of_scanBound hb2))
    have ho2 := store_at (es' := es2) (t' := t3) ho1 rfl
    refine wpAny_pure (hR _ (sb1.trans (Heap.SameBut.update _ a _)) ?_)
    refine ⟨_, es2, _, t3, ho2, hex, rfl, fun e he => ge e (pr.mem_iff.mp he), (pr.map txt).trans pm, nd, hb2, fr, rr, ?_⟩
    rw [lr]
    exact hl
  · exact wpAny_pure (hR _ sb1 ⟨_, es1, _, t2, ho1, hex, rfl, ge, pm, nd, hb, hf, hr, hl⟩)

/-- k is added -/
theorem tx_add {l : List Str} {k : Str} {tk : Tok} {Q : Bool → Shared → Prop} (T : TxAt w s.heap a l) (room : l.length + 1 < scanBound)
    (hQ : ∀ h' b, Heap.SameBut a s.heap h' → TxAt w h' a (if k ∈ l then l else k :: l) → Q b { s with heap := h' }) :
    wpAny (model P w) A (setAddHashed a (.str k tk) ((strKind P w).hash k)) Q E s := by
  obtain ⟨o, es, ep, t, ho, hex, hd, ge, pm, nd, hb, hf, hr, hl⟩ := T
  have hkey : (strKind P w).is k (.str k tk) = true := strKind_is _ _ _ _
  have hsc : (Value.str k tk).scannable = true := rfl
  have hel : ElemsOf (strKind P w) es.toList := tx_elems ge
  have hsz : es.size = l.length := by
    have q := pm.length_eq
    rw [List.length_map, Array.length_toList] at q
    exact q
  unfold setAddHashed setAddHashedIn
  refine wpAny_holding (wpAny_bind (wpAny_setState_of ho hd hf ?_))
  dsimp only
  rw [byScan_of hsc hb hel]
  simp only [↓reduceIte]
  unfold setAddByScan
  refine wpAny_bind ?_
  refine wpAny_bind (wpAny_rule ?_)
  refine wpAny_bind (wpAny_setScan_of hkey ho hd hf hel ?_)
  cases hfi : List.findIdx? (fun e => (strKind P w).is k e.2) es.toList with
  | some j =>
    dsimp only
    obtain ⟨hj, pj, _⟩ := List.findIdx?_eq_some_iff_getElem.mp hfi
    have hm : k ∈ l := pm.mem_iff.mp (List.mem_map.mpr ⟨es.toList[j], List.getElem_mem hj, (tx_is (ge _ (List.getElem_mem hj)) k).mp pj⟩)
    refine wpAny_pure (wpAny_pure ?_)
    refine hQ s.heap _ (Heap.SameBut.refl a s.heap) ?_
    rw [if_pos hm]
    exact ⟨o, es, ep, t, ho, hex, hd, ge, pm, nd, hb, hf, hr, hl⟩
  | none =>
    dsimp only
    have hm : k ∉ l := fun z => by
      obtain ⟨e, he, q⟩ := List.mem_map.mp (pm.mem_iff.mpr z)
      have c := List.findIdx?_eq_none_iff.mp hfi e he
      rw [(tx_is (ge e he) k).mpr q] at c
      cases c
    have hgw : ∀ (b : Bool) {s₁ : Shared} {Q' : Unit → Shared → Prop}, Q' () s₁ → wpAny (model P w) A (match b with | true => rule "set.scan.the-table-gave-way" | false => pure ()) Q' E s₁ := by
      intro b s₁ Q' q
      cases b
      · exact wpAny_pure q
      · exact wpAny_rule q
    have hp1 := layNew_perm t es ((strKind P w).hash k) (.str k tk)
    have hf1 := layNew_fits t es ((strKind P w).hash k) (.str k tk)
    have hr1 := layNew_ris t es ((strKind P w).hash k) (.str k tk) hr
    have hl1 := layNew_led t es ((strKind P w).hash k) (.str k tk)
    generalize layNew t es ((strKind P w).hash k) (.str k tk) = Z at hp1 hf1 hr1 hl1 ⊢
    obtain ⟨es1, t1, wasDummy, gave⟩ := Z
    dsimp only at hp1 hf1 hr1 hl1 ⊢
    rw [Array.toList_push] at hp1
    have pc : es1.toList.Perm (((strKind P w).hash k, Value.str k tk) :: es.toList) := hp1.trans (List.perm_append_singleton _ _)
    have pk : (es1.toList.map txt).Perm (k :: l) := (pc.map txt).trans (pm.cons k)
    have g1 : ∀ e ∈ es1.toList, TxE w e := fun e he => by
      rcases List.mem_cons.mp (pc.mem_iff.mp he) with z | z
      · rw [z]
        exact ⟨k, tk, rfl, rfl⟩
      · exact ge e z
    have nd1 : (k :: l).Nodup := List.nodup_cons.mpr ⟨hm, nd⟩
    have hz1 : es1.size = l.length + 1 := by
      have q := pk.length_eq
      rw [List.length_map, Array.length_toList] at q
      exact q
    have hb1 : es1.size < scanBound := by
      rw [hz1]
      exact room
    have hled : w.params.followText "set-order" = true ∨ t1.led = true := by
      rw [hl1]
      exact hl
    have fin : ∀ h', Heap.SameBut a s.heap h' → TxAt w h' a (k :: l) → Q true { s with heap := h' } := fun h' sb r => hQ h' true sb (by rw [if_neg hm]; exact r)
    refine wpAny_bind (hgw _ ?_)
    by_cases hpl : t1.plain = true
    · rw [if_pos hpl]
      refine wpAny_bind ?_
      rw [hashByValue_scannable 8 hsc]
      refine wpAny_pure ?_
      refine tx_tail ?_ ho hex hd g1 pk nd1 hb1 ?_ ?_ ?_ ?_
      · intro b s₁ Q' q
        cases b
        · exact wpAny_pure q
        · exact wpAny_rule q
      · first | (split <;> first | exact hf1 | exact SetTable.fits_plain_off hf1) | exact hf1 | exact SetTable.fits_plain_off hf1
      · first | exact hr1 | (split <;> exact hr1)
      · first | exact hled | (split <;> exact hled)
      · intro h' sb r
        dsimp only
        exact wpAny_pure (fin h' sb r)
    · rw [if_neg hpl]
      refine wpAny_bind (wpAny_pure ?_)
      simp only [↓reduceIte]
      refine tx_tail ?_ ho hex hd g1 pk nd1 hb1 hf1 hr1 hled ?_
      · intro b s₁ Q' q
        cases b
        · exact wpAny_pure q
        · exact wpAny_rule q
      · intro h' sb r
        dsimp only
        exact wpAny_pure (fin h' sb r)
end
/-- which of the first i texts are in -/
def Got (xs : List Str) (i : Nat) (l : List Str) : Prop := l.Nodup ∧ (∀ k, k ∈ l ↔ k ∈ xs.take i) ∧ l.length ≤ i
theorem Got.next {xs : List Str} {i : Nat} {l : List Str} {k : Str} (G : Got xs i l) (hk : xs[i]? = some k) : Got xs (i + 1) (if k ∈ l then l else k :: l) := by
  obtain ⟨nd, hm, hl⟩ := G
  have et : xs.take (i + 1) = xs.take i ++ [k] := by
    rw [List.take_add_one, hk]
    rfl
  by_cases h : k ∈ l
  · rw [if_pos h]
    refine ⟨nd, fun j => ?_, by omega⟩
    rw [et, List.mem_append, List.mem_singleton, ← hm j]
    exact ⟨.inl, fun z => z.elim id fun e => e ▸ h⟩
  · rw [if_neg h]
    refine ⟨List.nodup_cons.mpr ⟨h, nd⟩, fun j => ?_, by rw [List.length_cons]; omega⟩
    rw [et, List.mem_append, List.mem_singleton, List.mem_cons, ← hm j]
    exact Or.comm
section
variable {P : Program} {w : World} {A : Around} {E : Value → Shared → Prop} {s : Shared}
theorem tx_loop {I : Addr} {fp wr : List Addr} {G : Array GenState → Array GenState → Prop} {n : Nat} {Pv : Nat → Value → Prop} {St : Nat → Shared → Prop} {R : Result → Shared → Prop}
    (W : WalksS P w A.in1 I fp wr G n Pv St) (S : Addr) (hSf : S ∉ fp) (xs : List Str) (hn : n = xs.length) (hb : xs.length + 1 < scanBound) (hval : ∀ i v, Pv i v → ∃ k t, xs[i]? = some k ∧ v = .str k t) :
    ∀ (m i : Nat) (s : Shared), n - i = m → i ≤ n → St i s → (∃ l, Got xs i l ∧ TxAt w s.heap S l) →
      (∀ s' l, Moved (S :: wr) G s s' → Got xs n l → TxAt w s'.heap S l → R (.ok (.ret .none)) s') →
      codeAny (model P w) A (.builtin "set.update.loop" ⟨[.ref S, .ref I], []⟩) R s := by
  have hSw : S ∉ wr := fun z => hSf (W.sub _ z)
  have hsub : ∀ b ∈ wr, b ∈ S :: wr := fun b z => List.mem_cons_of_mem _ z
  intro m
  induction m with
  | zero =>
    intro i s hm hi hst ⟨l, hG, hT⟩ hR
    have hin : i = n := by omega
    subst hin
    refine codeAny_builtin F.entry_set_update_loop ?_
    rw [Around.under_plainId F.plain_set_update_loop _]
    show wpAny _ A.in1 (pyNext (.ref I) >>= _) _ _ s
    refine wpAny_bind (W.done s _ _ hst fun s' mv => ?_)
    show wpAny _ A.in1 (ret Value.none) _ _ s'
    exact wpAny_pure (hR s' l (mv.mono hsub) hG (hT.keep fun o e => mv.heap S o hSw e))
  | succ m ih =>
    intro i s hm hi hst ⟨l, hG, hT⟩ hR
    have hlt : i < n := by omega
    refine codeAny_builtin F.entry_set_update_loop ?_
    rw [Around.under_plainId F.plain_set_update_loop _]
    show wpAny _ A.in1 (pyNext (.ref I) >>= _) _ _ s
    refine wpAny_bind (W.item i s _ _ hlt hst fun v s' hP hst' mv => ?_)
    obtain ⟨k, t, hk, rfl⟩ := hval i v hP
    have hT' : TxAt w s'.heap S l := hT.keep fun o e => mv.heap S o hSw e
    have hroom : l.length + 1 < scanBound := by
      have := hG.2.2
      omega
    show wpAny _ A.in1 (holding [Value.str k t] (setAdd S (.str k t)) >>= _) _ _ s'
    refine wpAny_bind (wpAny_holding ?_)
    unfold setAdd
    refine wpAny_holding ?_
    refine wpAny_bind ((strKind P w).pyHash (k := k) (strKind_is _ _ _ _) ?_)
    refine tx_add (s := { s' with toks := s'.toks + 1 }) hT' hroom fun h' b sb hT2 => ?_
    refine wpAny_pure ⟨plainId_quiet F.plain_set_update_loop _, ih (i + 1) _ (by omega) hlt (W.frame _ s' _ _ hst' (Nat.le_succ _) fun c hc o e => ?_) ⟨_, hG.next hk, hT2⟩ fun s'' l2 mv2 hG2 hT3 => ?_⟩
    · rw [sb.2 c (fun z : c = S => hSf (by rw [← z]; exact hc))]
      exact e
    · refine hR s'' l2 (Moved.trans W.gtrans ((mv.mono hsub).then_heap (Nat.le_succ _) fun c o hc e => ?_) mv2) hG2 hT3
      rw [sb.2 c (fun z : c = S => hc (by rw [z]; exact List.mem_cons_self))]
      exact e
theorem tx_fresh {h : Heap} {a : Addr} {xs : List Str} (ho : h.get? a = some { cls := .type "set", dict := none, data := .set #[] 0 (.fresh 0 0 (!w.params.followText "set-order")) }) : ∃ l, Got xs 0 l ∧ TxAt w h a l := by
  refine ⟨[], ⟨List.nodup_nil, fun k => by simp, Nat.le_refl 0⟩, _, #[], 0, _, ho, ⟨rfl, rfl, rfl⟩, rfl, fun e he => by simp at he, by simp, List.nodup_nil, by decide, by rfl, List.Pairwise.nil, ?_⟩
  show _ ∨ (!w.params.followText "set-order") = true
  cases w.params.followText "set-order"
  · exact .inr rfl
  · exact .inl rfl
end
end K55

namespace K55
open PySem PySem.Spec PyProof.Rows L2
abbrev newSet (w : World) : Obj := { cls := .type "set", dict := none, data := .set #[] 0 (.fresh 0 0 (!w.params.followText "set-order")) }
section
variable {P : Program} {w : World} {A : Around} {E : Value → Shared → Prop} {s : Shared}
/-- what set(v) has made -/
def SetMade (w : World) (xs : List Str) (s : Shared) (s' : Shared) : Prop :=
  ∃ h' tk l, s' = { s with heap := h', toks := tk } ∧ Got xs xs.length l ∧ TxAt w h' s.heap.objs.size l ∧ ∀ b o, s.heap.get? b = some o → h'.get? b = some o
/-- behind the iterator's making -/
theorem tx_run {xs : List Str} {C : Around} {o : Obj} {n : Nat} {Pv : Nat → Value → Prop} {St : Nat → Heap → Prop} {fp : List Addr} (hb : xs.length + 1 < scanBound)
    (W : Walks P w C.in1 (s.heap.push (newSet w)).objs.size fp [(s.heap.push (newSet w)).objs.size] n Pv St) (hn : n = xs.length) (hfp : s.heap.objs.size ∉ fp)
    (hval : ∀ i u, Pv i u → ∃ k t, xs[i]? = some k ∧ u = .str k t) (hst : St 0 ((s.heap.push (newSet w)).push o)) :
    codeAny (model P w) C (.builtin "set.update.loop" ⟨[.ref s.heap.objs.size, .ref (s.heap.push (newSet w)).objs.size], []⟩)
      (fun r s' => r = .ok (.ret .none) ∧ SetMade w xs s s') { s with heap := (s.heap.push (newSet w)).push o } := by
  have hget : ((s.heap.push (newSet w)).push o).get? s.heap.objs.size = some (newSet w) := Heap.get?_push_of_some _ (Heap.get?_push_size _ rfl)
  refine tx_loop W.toS s.heap.objs.size hfp xs hn hb hval (n - 0) 0 _ rfl (Nat.zero_le _) hst (tx_fresh hget) fun s' l hm hG hT => ?_
  obtain ⟨h', g2, d', tk', os'⟩ := s'
  have eg : g2 = s.gens := hm.gens
  have ed : d' = s.drawn := hm.drawn
  have eo : os' = s.os := hm.os
  subst eg ed eo
  rw [hn] at hG
  refine ⟨rfl, h', tk', l, rfl, hG, hT, fun b u e => ?_⟩
  have hb0 : b < s.heap.objs.size := Heap.lt_size e
  refine hm.heap b u (fun z => ?_) (Heap.get?_push_of_some _ (Heap.get?_push_of_some _ e))
  rw [Heap.size_push] at z
  have b1 : b ≠ s.heap.objs.size := Nat.ne_of_lt hb0
  have b2 : b ≠ s.heap.objs.size + 1 := Nat.ne_of_lt (Nat.lt_succ_of_lt hb0)
  simp only [List.mem_cons, List.mem_singleton, List.not_mem_nil, or_false] at z
  rcases z with z | z
  · exact b1 z
  · exact b2 z
theorem tx_call {v : Value} {xs : List Str} {Q : Value → Shared → Prop} (h : ∀ s', SetMade w xs s s' → Q (.ref s.heap.objs.size) s')
    (hi : ∀ B : Around, B.handled = A.handled → wpAny (model P w) B (Builtin.«set.__init__» ⟨[.ref s.heap.objs.size, v], []⟩) (fun fin s' => fin = .done (.ret .none) ∧ SetMade w xs s s') E { s with heap := s.heap.push (newSet w) }) :
    wpAny (model P w) A (call (.type "set") [v]) Q E s := by
  obtain ⟨c, tl, hmro⟩ := F.called_set.mro
  have hmade := F.called_set.made
  have hsub := F.called_set.sub
  refine wpAny_call (codeAny_of_tree ?_)
  show wpAny _ _ (callAny (.type "set") _) _ _ _
  refine wpAny_pure ⟨Code.quiet_builtin _ (by decide +kernel), codeAny_builtin F.entry_type_call ?_⟩
  rw [Around.under_plain (weight_type_call_type "set" [v] []) rfl]
  have h1 := F.called_set.notType
  have h2 := F.called_set.canCreate
  have hct := F.typeCall_set_1 v
  repeat (any_goals (first | assumption | wp_step))
  refine codeAny_mono (code_set_led1 v (E := E) (Q₁ := fun obj s₁ => obj = .ref s.heap.objs.size ∧ s₁ = { s with heap := s.heap.push (newSet w) }) ⟨rfl, rfl⟩) fun r s₁ hr => ?_
  cases r with
  | error e => exact hr
  | ok fl =>
    cases fl with
    | ret obj =>
      obtain ⟨rfl, rfl⟩ := hr
      have hS : (s.heap.push (newSet w)).get? s.heap.objs.size = some (newSet w) := Heap.get?_push_size _ rfl
      have hT : Shared.TypeIs { s with heap := s.heap.push (newSet w) } (.ref s.heap.objs.size) "set" := ⟨_, hS, rfl⟩
      have hli := F.called_set.init.lookup
      have hbi := F.called_set.init.bind (.ref s.heap.objs.size)
      repeat (any_goals (first | assumption | wp_step))
      refine codeAny_mono (codeAny_call_builtin (R := wants (fun r s₂ => r = .none ∧ SetMade w xs s s₂) E) F.called_set.init.plain F.entry_set_init (check_set_init_1 hT ?_)) fun r₂ s₂ hr₂ => ?_
      · refine wpAny_mono (hi A.in1.in1 rfl) (fun fin s' z => ?_) fun _ _ z => z
        obtain ⟨rfl, hM⟩ := z
        exact ⟨rfl, hM⟩
      · cases r₂ with
        | error e => exact hr₂
        | ok fl₂ =>
          cases fl₂ with
          | ret r =>
            obtain ⟨rfl, hM⟩ := hr₂
            repeat (any_goals (first | assumption | wp_step))
            exact h _ hM
          | _ => exact hr₂.elim
    | _ => exact hr.elim
theorem signs_val {xs : List Str} {vs : List Value} (r : StrsAre vs xs) (i : Nat) (u : Value) (h : vs[i]? = some u) : ∃ k t, xs[i]? = some k ∧ u = .str k t := by
  induction r generalizing i with
  | nil => simp at h
  | cons n t r ih =>
    cases i with
    | zero =>
      simp at h
      exact ⟨n, t, rfl, h.symm⟩
    | succ i =>
      simp only [List.getElem?_cons_succ] at h ⊢
      exact ih i h
theorem tx_call_list {a : Addr} {items : Array Value} {xs : List Str} {Q : Value → Shared → Prop} (hh : A.handled = none) (hl : s.heap.IsList a items) (hx : StrsAre items.toList xs) (hb : xs.length + 1 < scanBound)
    (h : ∀ s', SetMade w xs s s' → Q (.ref s.heap.objs.size) s') : wpAny (model P w) A (call (.type "set") [.ref a]) Q E s := by
  refine tx_call h fun B hB => ?_
  obtain ⟨ol, hol, hcl, nl, hdl⟩ := hl
  obtain ⟨ocls, odict, odata, oslots⟩ := ol
  simp only at hcl hdl
  subst hcl hdl
  have hol' : (s.heap.push (newSet w)).get? a = some { cls := .type "list", dict := odict, data := .seq items nl, slots := oslots } := Heap.get?_push_of_some _ hol
  have hsls := F.sub_list_set
  have hslf := F.sub_list_frozenset
  have hne : (Value.type "list" == Value.type "dict") = false := by decide
  have hl1 : (s.heap.push (newSet w)).IsList a items := ⟨_, hol', rfl, nl, rfl⟩
  have hS : (s.heap.push (newSet w)).get? s.heap.objs.size = some (newSet w) := Heap.get?_push_size _ rfl
  unfold Builtin.«set.__init__» noKeywords Builtin.Frozenset.updateFrom
  generalize hPI : pyIter = PI
  wp_walk
  subst hPI
  refine wpAny_pyIter_list hl1 ?_
  refine wpAny_bind (wpAny_runValue ?_)
  have has : a < s.heap.objs.size := Heap.lt_size hol
  have hB1 : B.in1.handled = none := hB.trans hh
  have hz : (s.heap.push (newSet w)).objs.size = s.heap.objs.size + 1 := Heap.size_push ..
  have hneI : a ≠ (s.heap.push (newSet w)).objs.size := by
    rw [hz]
    exact Nat.ne_of_lt (Nat.lt_succ_of_lt has)
  have hfp : s.heap.objs.size ∉ [(s.heap.push (newSet w)).objs.size, a] := fun z => by
    rw [hz] at z
    simp only [List.mem_cons, List.mem_singleton, List.not_mem_nil, or_false] at z
    rcases z with z | z
    · exact absurd z (Nat.ne_of_lt (Nat.lt_succ_self _))
    · exact absurd z (Nat.ne_of_gt has)
  have hsz : items.size = xs.length := by
    rw [← StrsAre.len_eq hx, Array.length_toList]
  refine codeAny_mono (tx_run hb (Walks.list hB1 _ a hneI items) hsz hfp (fun i u hu => signs_val hx i u (by rw [Array.getElem?_toList]; exact hu)) ⟨⟨_, Heap.get?_push_size _ rfl, rfl, rfl⟩, hl1.push _⟩) fun r s' hr => ?_
  obtain ⟨rfl, hM⟩ := hr
  show wpAny _ _ _ _ _ _
  refine wpAny_pure ?_
  show wpAny _ _ (ret Value.none) _ _ _
  exact wpAny_pure ⟨rfl, hM⟩
theorem tx_call_str {x : Str} {t : Tok} {Q : Value → Shared → Prop} (hh : A.handled = none) (hb : x.cps.size + 1 < scanBound)
    (h : ∀ s', SetMade w (x.cps.toList.map fun c => (⟨#[c]⟩ : Str)) s s' → Q (.ref s.heap.objs.size) s') : wpAny (model P w) A (call (.type "set") [.str x t]) Q E s := by
  refine tx_call h fun B hB => ?_
  have hsls := PySem.F.sub_str_set
  have hslf := PySem.F.sub_str_frozenset
  have hne : (Value.type "str" == Value.type "dict") = false := by decide
  have hS : (s.heap.push (newSet w)).get? s.heap.objs.size = some (newSet w) := Heap.get?_push_size _ rfl
  unfold Builtin.«set.__init__» noKeywords Builtin.Frozenset.updateFrom
  generalize hPI : pyIter = PI
  wp_walk
  subst hPI
  refine wpAny_pyIter_str fun o St W hst => ?_
  refine wpAny_bind (wpAny_runValue ?_)
  have hB1 : B.in1.handled = none := hB.trans hh
  have hz : (s.heap.push (newSet w)).objs.size = s.heap.objs.size + 1 := Heap.size_push ..
  have hfp : s.heap.objs.size ∉ [(s.heap.push (newSet w)).objs.size] := fun z => by
    rw [hz] at z
    exact absurd (List.mem_singleton.mp z) (Nat.ne_of_lt (Nat.lt_succ_self _))
  have hsz : x.cps.size = (x.cps.toList.map fun c => (⟨#[c]⟩ : Str)).length := by
    rw [List.length_map, Array.length_toList]
  refine codeAny_mono (tx_run (by rw [← hsz]; exact hb) (W B.in1 hB1) hsz hfp (fun i u hu => ?_) hst) fun r s' hr => ?_
  · obtain ⟨c, k, hc, e⟩ := hu
    refine ⟨⟨#[c]⟩, k, ?_, e⟩
    rw [List.getElem?_map, Array.getElem?_toList, hc]
    rfl
  · obtain ⟨rfl, hM⟩ := hr
    show wpAny _ _ _ _ _ _
    refine wpAny_pure ?_
    show wpAny _ _ (ret Value.none) _ _ _
    exact wpAny_pure ⟨rfl, hM⟩
end
end K55

namespace K55
open PySem PySem.Spec PyProof.Rows L2
/-! ### sorted of such a set -/
theorem strs_all {vs : List Value} : (∀ v ∈ vs, ∃ x t, v = Value.str x t) → StrsAre vs (vs.map PyProof.Rows.strOf) := strsAre_map vs
section
variable {P : Program} {w : World} {A : Around} {E : Value → Shared → Prop} {s : Shared} {a : Addr}
theorem tx_sorted {l : List Str} {Q : Value → Shared → Prop} (T : TxAt w s.heap a l) (hh : A.handled = none) (h64 : l.length < 64)
    (hQ : ∀ s' p (out : Array Value) (c : Nat) (ys : List Str), (∀ b o, s.heap.get? b = some o → s'.heap.get? b = some o) → s'.gens = s.gens → s'.os = s.os → s.heap.objs.size ≤ p →
      s'.heap.get? p = some (seqObj "list" out c) → StrsAre out.toList ys → ys.Perm l → sortedS ys = true → Q (.ref p) s') :
    wpAny (model P w) A (call (.builtin "sorted") [.ref a]) Q E s := by
  obtain ⟨o, es, ep, t, ho, hex, hd, ge, pm, nd, hb, hf, hr, hl⟩ := T
  refine Calls.call_function_entry kind_sorted plain_sorted entry_sorted (args_sorted1 _) ?_
  unfold Builtin.«sorted»
  refine wpAny_bind (m := checkCount "sorted" 1 1 _) (wpAny_pure ?_)
  refine wpAny_bind (collect_set (A := A.in1) hh ⟨o, ho, hex.1, hd⟩ hf hb hr hl fun s1 vs k1 hz g1 o1 pv => ?_)
  have hall : ∀ v ∈ vs, ∃ x u, v = Value.str x u := fun v hv => by
    obtain ⟨e, he, q⟩ := List.mem_map.mp (pv.mem_iff.mp hv)
    obtain ⟨x, u, h1, _⟩ := ge e he
    exact ⟨x, u, by rw [← q]; exact h1⟩
  have hS := strs_all hall
  have pk : (vs.map PyProof.Rows.strOf).Perm l := by
    have q := pv.map PyProof.Rows.strOf
    rw [List.map_map] at q
    refine q.trans ?_
    have e : es.toList.map (PyProof.Rows.strOf ∘ fun e => e.2) = es.toList.map txt := List.map_congr_left fun e he => by
      obtain ⟨x, u, h1, _⟩ := ge e he
      show PyProof.Rows.strOf e.2 = txt e
      unfold txt
      rw [h1]
      rfl
    rw [show (es.toList.map (PyProof.Rows.strOf ∘ fun e => e.2)) = es.toList.map txt from e]
    exact pm
  have hvl : vs.length = l.length := by
    have q := pk.length_eq
    rw [List.length_map] at q
    exact q
  refine wpAny_bind (wpAny_newList ?_ (by rw [hvl, sizeLine_eq]; omega))
  have hoL : (s1.heap.push (seqObj "list" vs.toArray 0)).get? s1.heap.objs.size = some (seqObj "list" vs.toArray 0) := Heap.get?_push_size _ rfl
  refine wpAny_bind (wpAny_holding (wpAny_call_entry slot_list_sort ⟨_, hoL, rfl⟩ entry_list_sort
    (list_sort_treeK strKind_oneLt hoL hS.keysOf (fun v₁ v₂ rest e => ?_) (by rw [hvl]; exact h64) fun st' a1 a2 => ⟨_, rfl, ?_⟩) (args_list_sort _)))
  · subst e
    exact keyKind_strs hS
  · obtain ⟨ys, g2, g3, g4⟩ := sorted_out_str hS a1 a2
    obtain ⟨c, hc⟩ := sortedHeap_at (vs := vs) (out := (arrOf st').map (·.2)) hoL
    refine wpAny_pure ⟨_, rfl, hQ _ s1.heap.objs.size _ c ys (fun b u e => ?_) g1 o1 hz hc g2 (g3.trans pk) g4⟩
    have q := k1 b u e
    have hlt := Heap.lt_size q
    show (sortedHeap (s1.heap.push (seqObj "list" vs.toArray 0)) s1.heap.objs.size vs _).get? b = some u
    rw [sortedHeap_old (Nat.ne_of_lt hlt) (by rw [size_push']; exact Nat.lt_succ_of_lt hlt)]
    exact Heap.get?_push_of_some _ q
end
/-! ### the layer's rules -/
def TxO (w : World) (a : Addr) (l : List Str) : HO := .ext fun h => TxAt w h a l
section
variable {X : Cx}
theorem txO_new {w : World} {P : Program} {H : Hp} {h : Heap} {a : Addr} {l : List Str} (T : TxAt w h a l) : ObjOk P w H h a (TxO w a l) := by
  have ⟨o, _, _, _, ho, _⟩ := T
  exact ⟨T, ⟨o, ho⟩, fun h1 h2 p k => TxAt.keep p k⟩
theorem txO_get {pins : List (Addr × Obj)} {σ : L2.St} {H : Hp} {s : Shared} {a : Addr} {l : List Str} (I : Inv X pins σ H s) (ha : H a = some (TxO X.w a l)) : TxAt X.w s.heap a l := (I.hok a _ ha).1
def NewTx (w : World) (zs : List Str) (H : Hp) (Q : VK) : Prop := ∀ a l, l.Nodup → (∀ k, k ∈ l ↔ k ∈ zs) → l.length ≤ zs.length → H a = none → Q (.ref a) (upd H a (TxO w a l))
theorem newTx_ok {pins : List (Addr × Obj)} {σ : L2.St} {H : Hp} {s s' : Shared} {zs : List Str} {Q : VK} (I : Inv X pins σ H s) (M : SetMade X.w zs s s') (q : NewTx X.w zs H Q) : EP X pins σ Q (.ref s.heap.objs.size) s' := by
  obtain ⟨h', tk, l, rfl, ⟨nd, hm, hl⟩, hT, hk⟩ := M
  have hn : H s.heap.objs.size = none := I.hok.fresh (Nat.le_refl _)
  refine ⟨.ref s.heap.objs.size, _, I.laid (t' := tk) hk (Nat.le_refl _) (txO_new hT), rfl, q _ l nd (fun k => ?_) hl hn⟩
  rw [hm k, List.take_of_length_le (Nat.le_refl _)]
/-- set(xs), a list of fewer than 64 texts -/
def rSetL (K : PySem.W.Frag) (w : World) : List V → Hp → VK → Prop := fun xs H Q => ∃ p zs, xs = [.ref p] ∧ SqL K H p (zs.map V.str) ∧ zs.length < 64 ∧ NewTx w zs H Q
theorem cr_setL (hc : X.calm = true) : CallR X (.type "set") (rSetL X.K X.w) := by
  intro pins s σ H xs us Q I r h
  obtain ⟨p, zs, rfl, hq, h64, q⟩ := h
  rw [Vals.ref1 r]
  obtain ⟨its, rv, pl, _⟩ := I.list hq
  exact tx_call_list (I.ok.hd hc) pl.isList (by simpa using strs_of_vals rv) (by unfold scanBound; omega) fun s' M => newTx_ok I M q
/-- set(x), a text of fewer than 64 signs -/
def rSetT (w : World) : List V → Hp → VK → Prop := fun xs H Q => ∃ x : Str, xs = [.str x] ∧ x.cps.size < 64 ∧ NewTx w (x.cps.toList.map fun c => (⟨#[c]⟩ : Str)) H Q
theorem cr_setT (hc : X.calm = true) : CallR X (.type "set") (rSetT X.w) := by
  intro pins s σ H xs us Q I r h
  obtain ⟨x, rfl, h64, q⟩ := h
  obtain ⟨u, rfl, t, rfl⟩ := vals1 r
  exact tx_call_str (I.ok.hd hc) (by unfold scanBound; omega) fun s' M => newTx_ok I M q
/-- sorted(such a set) -/
def rSortedTx (w : World) : List V → Hp → VK → Prop := fun vs H Q => ∃ a l, vs = [V.ref a] ∧ H a = some (TxO w a l) ∧ l.length < 64 ∧
  ∀ (ys : List Str) (p : Addr), ys.Perm l → sortedS ys = true → H p = none → Q (.ref p) (upd H p (.lst (ys.map V.str)))
theorem cr_sortedTx (hc : X.calm = true) : CallR X (.builtin "sorted") (rSortedTx X.w) := by
  intro pins s σ H vs us Q I r h
  obtain ⟨a, l, rfl, ha, h64, q⟩ := h
  rw [Vals.ref1 r]
  refine tx_sorted (txO_get I ha) (I.ok.hd hc) h64 fun s' p out c ys k g o hp hg hi hm hs => ?_
  have hlen : (ys.map V.str).length ≤ sizeLine := by
    rw [List.length_map, hm.length_eq, sizeLine_eq]
    omega
  have hn : H p = none := I.hok.fresh hp
  have J : Inv X pins σ (upd H p (.lst (ys.map V.str))) { s with heap := s'.heap, gens := s'.gens, drawn := s'.drawn, toks := s'.toks } :=
    I.call (ch := []) (Un.laid k hp hn) (I.hok.laid k hp ⟨hlen, out.toList, c, vals_of_strs hi, hg⟩) (by rw [g]; exact I.bare) (fun _ z => nomatch z)
  have e : s' = { s with heap := s'.heap, gens := s'.gens, drawn := s'.drawn, toks := s'.toks } := by
    cases s'
    cases s
    cases o
    rfl
  rw [e]
  exact ⟨.ref p, _, J, rfl, q ys p hm hs hn⟩
end
end K55

/-! Own rules 2: repr of nested lists and tuples, where it is known that no repr runs; the promises that carry that; len of an own class. -/
namespace K55
open PySem PySem.Spec PyProof.Rows L2

/-! ### repr -/
def rRepr (K : PySem.W.Frag) : List V → Hp → VK → Prop := fun xs H Q => ∃ (a : Addr) (d : PyData), xs = [V.ref a] ∧ Dp K H (V.ref a) d ∧ d.showable = true ∧ d.hasDict = false ∧ d.depth ≤ 60 ∧ d.shown.length ≤ sizeLine ∧ Q (.str d.shown) H
theorem cr_repr {X : Cx} (hg : X.A.guards = some []) (hu : X.A.units + 64 < cLine) : CallR X (.builtin "repr") (rRepr X.K) := by
  intro pins s σ H xs us Q I r h
  obtain ⟨a, d, rfl, hd, h1, h2, h3, h4, q⟩ := h
  rw [Vals.ref1 r]
  obtain ⟨as, rd⟩ := Dp.reads I d (V.ref a) (Value.ref a) hd rfl
  exact repr_of_reads' rd h1 (PyData.noDict_hsm h2) hg (by omega) (fun _ _ e => e) (fun h' u tk hk => ⟨.str d.shown, H, I.kept hk, ⟨u, rfl⟩, q⟩) h4

/-! ### promises of defs that are called where no repr runs -/
structure FnG (P : Program) (w : World) (K : PySem.W.Frag) (mg : Str → Option Value) (base : Heap) (k : Nat) (f : Addr) (fd : FuncData) (ps : List Str) (sp : Sp) : Prop where
  len : ∀ vs H Q E, sp vs H Q E → vs.length = ps.length
  run : ∀ (A : Around) (outer : List Env) (s : Shared) (H : Hp) (args : Args) (us : List Value) (vs : List V) (Q : VK) (E : XK), A.guards = some [] → Room k A → Env0 P w K mg base A outer s H →
    BindsTo s fd args (ps.zip us) → Vals vs us → sp vs H Q E → codeAny (model P w) A (.call (.ref f) args) (CR CX0 outer P w H s Q E) s
theorem fn_ofG {P : Program} {w : World} {K : PySem.W.Frag} {mg : Str → Option Value} {base : Heap} {k : Nat} {f : Addr} {name qual : Str} {params : Arguments} {body : List Stmt} {scope : Scope} {dV kV doc pm cdv ct oc : Value} {an od : Option Addr}
    {osl : Array (Option Value)} {N ps : List Str} {sp : Sp} (lk : K.lookup f = some ⟨oc, od, .func (PySem.W.fnOf name qual params body scope dV kV doc pm an cdv ct), osl⟩) (hcd : PySem.W.codeIn K cdv qual = true) (S : FnScope N ps scope)
    (len : ∀ vs H Q E, sp vs H Q E → vs.length = ps.length)
    (hbody : ∀ (A : Around) (outer : List Env) (s : Shared) (H : Hp) (vs : List V) (Q : VK) (E : XK), A.guards = some [] → Room k (A.deeper (envOfC qual scope s.heap.objs.size f cdv)) → sp vs H Q E →
      ∃ t, PSs (cxOf CX0 P w K mg base N qual scope f cdv A outer s H E) body t ∧ t { nx := fun _ H' => Q .non H', rt := Q } (start N vs) H) :
    FnG P w K mg base (k + 1) f (PySem.W.fnOf name qual params body scope dV kV doc pm an cdv ct) ps sp := by
  refine ⟨len, fun A outer s H args us vs Q E hg hr e0 hb r hsp => ?_⟩
  have hl := len _ _ _ _ hsp
  have KX : K.In s.heap := e0.mod.kin.keeps fun b o e => (e0.bs b o e).1
  have lim : s.heap.NoLimit := e0.mod.nolimit.keeps fun b o e => (e0.bs b o e).1
  have hkind : ∀ y ∈ ps.zip us, scope.names.lookup y.1 = some .local ∨ (scope.names.lookup y.1 = some .cell ∧ ((cellsFrom (s.heap.objs.size + 1) scope.names []).lookup y.1).isSome = true) := by
    intro y hy
    rcases S.par y.1 (List.of_mem_zip hy).1 with q | q
    · exact .inl q
    · exact .inr ⟨q, PySem.W.cellsFrom_some _ _ _ (.inl q)⟩
  refine codeAny_call_function hr.depth (KX _ _ lk) rfl S.co S.gen rfl (PySem.W.codeRec_of KX hcd) (hb _ _ _ _ ?_)
  refine wpAny_newFunctionEnv_cells S.kind hkind fun env he s1 x => ?_
  subst he
  refine ⟨lim.keeps x.toInCall.keep, codeAny_func ?_⟩
  obtain ⟨t, ht, hq⟩ := hbody A outer s H vs Q E hg (hr.deeper _) hsp
  have I : Inv (cxOf CX0 P w K mg base N qual scope f cdv A outer s H E) [] (start N vs) H s1 := inv_start S hr.hd e0 hl r x
  refine wpAny_mono (ht.run [] s1 (start N vs) H _ I hq) (fun fl s' hs => ?_) fun e s' hs => hs
  cases fl with
  | ret u =>
    obtain ⟨v, σ', H', J, rv, q⟩ := hs
    exact ⟨v, H', J.os, J.bare, J.base, J.hok, rv, q⟩
  | next =>
    obtain ⟨σ', H', J, q⟩ := hs
    exact ⟨V.non, H', J.os, J.bare, J.base, J.hok, rfl, q⟩
  | brk =>
    obtain ⟨_, _, _, q⟩ := hs
    exact False.elim q
  | cont =>
    obtain ⟨_, _, _, q⟩ := hs
    exact False.elim q
theorem okG {P : Program} {w : World} {K : PySem.W.Frag} {mg : Str → Option Value} {base : Heap} {x qual : Str} {st : Stmt} {f : Addr} {fd : FuncData} {N ps : List Str} {k : Nat} {sp : Sp} (F : Fun K x qual st f fd) (S : FnScope N ps (defScope st))
    (len : ∀ vs H Q E, sp vs H Q E → vs.length = ps.length)
    (hbody : ∀ (cdv : Value) (A : Around) (outer : List Env) (s : Shared) (H : Hp) (vs : List V) (Q : VK) (E : XK), A.guards = some [] → Room k (A.deeper (envOfC qual (defScope st) s.heap.objs.size f cdv)) → sp vs H Q E →
      ∃ t, PSs (cxOf CX0 P w K mg base N qual (defScope st) f cdv A outer s H E).nox (defBody st) t ∧ t { nx := fun _ H' => Q .non H', rt := Q } (start N vs) H) : FnG P w K mg base (k + 1) f fd ps sp := by
  obtain ⟨oc, od, kV, doc, pm, an, cdv, ct, osl, rfl, lk, hcd⟩ := F.ex
  refine fn_ofG lk hcd S len fun A outer s H vs Q E hg hr hsp => ?_
  obtain ⟨t, h, q⟩ := hbody cdv A outer s H vs Q E hg hr hsp
  exact ⟨t, h.nox, q⟩
section
variable {X : Cx} {k : Nat} {f : Addr} {fd : FuncData} {ps : List Str} {sp : Sp} {x : Str} {p pos : Pos} {e : Expr} {es : List Expr} {t : TA}
/-- f(..) of such a def -/
theorem pe_callG (F : FnG X.prog X.w X.K X.mg X.base k f fd ps sp) (hgd : X.A.guards = some []) (hr : Room k X.A) (hg : Gl X x) (hm : X.mg x = some (.ref f)) (hk : PySem.W.keepIn X.K (.ref f) = true) (hb : Binds X.K fd ps [])
    (ha : PA X (e :: es) t) (hdb : (x == ("__debug__" : Str)) = false := by decide) (he : starEach (e :: es) X.env = (false, eval e X.env) :: starEach es X.env := by rfl) (hpl : (backTo pos (starEach es X.env)).any (·.1) = false := by rfl) :
    PE X (.Call (.Name x p) (e :: es) [] pos) (tCall sp [] E0 t) := by
  refine ⟨fun pins s σ H Q I h => ?_⟩
  refine wpAny_Call_Name_kw (ld_glob I hg hm ?_ hdb)
  refine PySem.W.callWith_K (h₀ := X.base) I.ok.mod.kin hk (thn (ha.run pos pins s σ H _ I h) fun us s1 ⟨vs, H1, I1, r, q⟩ => ⟨I1.kIn, ?_⟩) he hpl
  replace q : sp vs H1 Q E0 := by
    have q2 : sp (vs ++ []) H1 Q E0 := q
    rwa [List.append_nil] at q2
  have hl : us.length = ps.length := by
    rw [← r.length]
    exact F.len _ _ _ _ q
  have hbt := hb s1 us I1.kIn (by rw [List.append_nil]; exact hl)
  rw [List.append_nil] at hbt
  refine wpAny_call (codeAny_mono (F.run X.A X.stack s1 H1 ⟨us, []⟩ us vs Q E0 hgd hr I1.env0 hbt r q) fun rr s' hq => ?_)
  cases rr with
  | error e => exact False.elim hq
  | ok fl =>
    cases fl with
    | ret u => exact I1.after hq
    | next => exact False.elim hq
    | brk => exact False.elim hq
    | cont => exact False.elim hq
end

/-! ### len(o) by an own __len__ -/
def rLenOwn (C : Addr) (sp : Sp) : List V → Hp → VK → Prop := fun xs H Q => ∃ (a dx : Addr) (fs : List (Str × V)), xs = [V.ref a] ∧ H a = some (.ins C dx fs) ∧
  sp [.ref a] H (fun z H' => ∃ n : Int, z = .int n ∧ (0 ≤ n ∧ n < 2 ^ 63) ∧ Q (.int n) H') E0
theorem call_lenOwn {X : Cx} {C g : Addr} {k : Nat} {fd : FuncData} {sp : Sp} (hs : PySem.W.findIn X.K (.ref C) "__len__" = some (some (.ref g))) (hf : PySem.W.isFn X.K (.ref g) = true)
    (F : FnOk X.prog X.w X.K X.mg X.base CX0 k g fd ["self"] sp) (hb : Binds X.K fd ["self"] []) (hr : Room (k + 1) X.A) : CallR X (.builtin "len") (rLenOwn C sp) := by
  intro pins s σ H xs us Q I r h
  obtain ⟨a, dx, fs, rfl, ha, q⟩ := h
  rw [Vals.ref1 r]
  obtain ⟨mA, O, _, _, _, _⟩ := ins_get I.hok ha
  obtain ⟨od, J, _⟩ := O.look
  obtain ⟨m, hF⟩ := I.fr
  refine PySem.W.len_K hF I.ok.mod.kin J hs hf ?_
  have hbt := hb s [Value.ref a] I.kIn rfl
  refine wpAny_call (codeAny_mono (F.run X.A.in1 X.stack s H ⟨[.ref a], []⟩ [.ref a] [.ref a] _ E0 hr.in1 I.env0.in1 hbt (.cons rfl .nil) q) fun rr s' hq => ?_)
  cases rr with
  | error e => exact False.elim hq
  | ok fl =>
    cases fl with
    | ret u =>
      obtain ⟨v, H', I2, rv, n, rfl, hn, q2⟩ := I.after (Q := fun z H' => ∃ n : Int, z = .int n ∧ (0 ≤ n ∧ n < 2 ^ 63) ∧ Q (.int n) H') hq
      obtain ⟨t, rfl⟩ := rv
      exact ⟨hn, .int n, H', I2.tok _, ⟨_, rfl⟩, q2⟩
    | next => exact False.elim hq
    | brk => exact False.elim hq
    | cont => exact False.elim hq

/-! ### the end of the law's row, by such a promise -/
theorem law_callG {P : Program} {w : World} {K : PySem.W.Frag} {mg mb : Str → Option Value} {k : Nat} {fa a : Addr} {fd : FuncData} {x : Str} {sp : Sp} {s₁ : Shared} {vs : List Value} {ns : List Int}
    (KX : K.In s₁.heap) (hns : s₁.heap.Ns mainGlobals mg) (hb : s₁.heap.Ns builtinsNs mb) (hbb : ∀ x : Str, x ≠ "__name__" → mb x = bootBuiltins x) (hlim : s₁.heap.NoLimit) (hg : s₁.gens = #[])
    (ha : s₁.heap.get? a = some { cls := .type "list", data := .seq vs.toArray }) (hi : IntsAre vs ns) (hl : ns.length ≤ sizeLine) (hr : Room k callerA)
    (F : ∀ base : Heap, K.In base → base.Ns mainGlobals mg → FnG P w K mg base k fa fd [x] sp) (hbind : ∀ (s : Shared) (u : Value), BindsTo s fd ⟨[u], []⟩ [(x, u)])
    (hsp : ∀ H : Hp, Only H → SqL K H a (ns.map V.int) → sp [.ref a] H (fun v _ => v = .bl true) fun _ _ _ => False) :
    codeAny (model P w) callerA (.call (.ref fa) ⟨[.ref a], []⟩) (fun r s' => r = .ok (.ret (.bool true)) ∧ OldK s₁.heap s'.heap ∧ s'.os = s₁.os ∧ AllBare s'.gens) s₁ := by
  have rv := vals_ints hi
  have lenV := hi.length
  have core : ∀ H : Hp, Only H → SqL K H a (ns.map V.int) → HOk P w H s₁.heap → (∀ b, H b ≠ none → b = a) → (H a ≠ none → K.lookup a = none) →
      codeAny (model P w) callerA (.call (.ref fa) ⟨[.ref a], []⟩) (fun r s' => r = .ok (.ret (.bool true)) ∧ OldK s₁.heap s'.heap ∧ s'.os = s₁.os ∧ AllBare s'.gens) s₁ := by
    intro H hO hS hok hA hK
    have noA : ∀ {b : Addr} {o : Obj} {es : Array DictEntry} {ep : Nat}, s₁.heap.get? b = some o → o.data = .dict es ep → H b = none := by
      intro b o es ep e d
      cases q : H b with
      | none => rfl
      | some u =>
        have e' : b = a := hA b (by rw [q]; simp)
        subst e'
        rw [ha] at e
        cases e
        cases (show Data.seq vs.toArray _ = Data.dict es ep from d)
    have nsK : ∀ {b : Addr} {m : Str → Option Value}, s₁.heap.Ns b m → (hidT s₁.heap H).Ns b m := by
      intro b m z
      obtain ⟨o, es, ep, e, d, r⟩ := z
      exact ⟨o, es, ep, hidT_get e (noA e d), d, r⟩
    have hKb : K.In (hidT s₁.heap H) := by
      intro b o e
      refine hidT_get (KX b o e) ?_
      cases q : H b with
      | none => rfl
      | some u =>
        have e' : b = a := hA b (by rw [q]; simp)
        subst e'
        rw [hK (by rw [q]; simp)] at e
        cases e
    have hM : Mod K mg (hidT s₁.heap H) := ⟨hKb, nsK hns, ⟨mb, nsK hb, hbb⟩, let ⟨mc, h1, h2⟩ := hlim; ⟨mc, nsK h1, h2⟩⟩
    have e0 : Env0 P w K mg (hidT s₁.heap H) callerA [] s₁ H := ⟨rfl, hM, fun b o e => of_hidT e, Nat.le_of_eq (hidT_size _ _), trivial, fun b hb => absurd (show b ∈ ([] : List Addr) from hb) (by simp), hok, .of_eq hg⟩
    refine codeAny_mono ((F _ hKb (nsK hns)).run callerA [] s₁ H ⟨[.ref a], []⟩ [.ref a] [.ref a] _ _ rfl hr e0 (hbind s₁ (.ref a)) (.cons rfl .nil) (hsp H hO hS)) fun r s' h => ?_
    cases r with
    | error e => exact False.elim h
    | ok fl =>
      cases fl with
      | next => exact False.elim h
      | brk => exact False.elim h
      | cont => exact False.elim h
      | ret u =>
        obtain ⟨v, H', os, bare, un, hok', r', q⟩ := h
        obtain rfl : v = .bl true := q
        obtain rfl : u = Value.bool true := r'
        refine ⟨rfl, OldK.of_keep fun b o e => ?_, os, bare⟩
        cases q : H b with
        | none => exact un.keep b o e q (by intro z; exact absurd (show b ∈ ([] : List Addr) from z) (by simp)) (by simp)
        | some u =>
          rcases hO b with z | ⟨ob, xs, z⟩
          · rw [q] at z
            cases z
          · obtain ⟨e1, _⟩ := hok b _ z
            obtain ⟨e2, _⟩ := hok' b _ (un.frzs b ob _ z)
            rw [e] at e1
            cases e1
            exact e2
  cases hk : K.lookup a with
  | some o =>
    have e := KX a o hk
    rw [ha] at e
    cases e
    refine core (fun _ => none) (fun _ => .inl rfl) (.inr ⟨_, vs.toArray, _, hk, rfl, rfl, rfl, by rw [List.size_toArray, lenV]; exact hl, by simpa using rv⟩) (fun b u z => ?_) (fun b z => absurd rfl z) fun z => absurd rfl z
    cases (show (none : Option HO) = some u from z)
  | none =>
    refine core (fun b => if b = a then some (.frz { cls := .type "list", data := .seq vs.toArray } (.lst (ns.map V.int))) else none) (fun b => ?_) (.inl (.inr ⟨{ cls := .type "list", data := .seq vs.toArray }, if_pos rfl⟩)) (fun b u z => ?_) (fun b z => ?_) fun _ => hk
    · by_cases hb : b = a
      · exact .inr ⟨_, _, if_pos hb⟩
      · exact .inl (if_neg hb)
    · by_cases hb : b = a
      · have z' := (if_pos hb).symm.trans z
        cases z'
        subst hb
        exact ⟨ha, by rw [List.length_map]; exact hl, vs, _, rv, ha⟩
      · have z' := (if_neg hb).symm.trans z
        cases z'
    · by_cases hb : b = a
      · exact hb
      · exact absurd (if_neg hb) z
theorem walk_ofG {l : PySem.W.OpenLaw} {n k : Nat} {q : Program} {loose : List Str} {XP : (Str → Option Value) → Heap → Prop} {YP : World → Heap → Prop} {d : DefRec} {K : Params → PySem.W.Frag} {sp : World → Sp} {x : Str}
    (hn : l.most = some n) (hn2 : n ≤ sizeLine) (hdf : d.params.defaults = []) (hr : Room k callerA)
    (hY : ∀ (w : World) (h : Heap), YP w h → (K w.params).In h)
    (F : ∀ (w : World) (mg : Str → Option Value) (fa : Addr) (h : Heap), (K w.params).In h → h.Ns mainGlobals mg → mg d.name = some (.ref fa) →
      ∃ fd : FuncData, (∀ (s : Shared) (u : Value), BindsTo s fd ⟨[u], []⟩ [(x, u)]) ∧
        ∀ base : Heap, (K w.params).In base → base.Ns mainGlobals mg → FnG l.prog w (K w.params) mg base k fa fd [x] (sp w))
    (hsp : ∀ (w : World) (H : Hp) (a : Addr) (ns : List Int), ns.length ≤ n → Only H → SqL (K w.params) H a (ns.map V.int) → sp w [.ref a] H (fun v _ => v = .bl true) fun _ _ _ => False) :
    PySem.W.WalkO q loose XP YP l.row.toRowW d [] (fun f vs => PySem.call f vs) := by
  refine Att.attach_call hn hdf fun w s₀ s₁ mg mb fa o pm cd doc a vs ns G Y ho hd hcd hmg hobj hints hlen hg => ?_
  have KX := hY w _ Y
  obtain ⟨fd, hb, hF⟩ := F w mg fa _ KX G.T.g hmg
  exact law_callG KX G.T.g G.T.b G.T.builtins G.T.nolimit hg hobj hints (Nat.le_trans hlen hn2) hr hF hb fun H hO hS => hsp w H a ns hlen hO hS
end K55

/-! The text by places; what the walk knows of the class and the names; a Lots object; comprehensions by filter and map. -/
namespace K55
open PySem PySem.Spec PyProof.Rows L2 SX
def topS (i : Nat) : Stmt := PySem.Challenge.pw_sameunions_k55_whole_joined_parts.main.body.getD i (.Pass ⟨0, 0, 0, 0⟩)

/-! ### heaps -/
theorem sameU {H : Hp} {p : Addr} {o : HO} (h : H p = none) : Same H (upd H p o) := fun b x e => by
  rw [upd_ne (ne_of_none e h)]
  exact e
theorem sameUT {H H1 : Hp} {p : Addr} {o : HO} (s : Same H H1) (h : H1 p = none) : Same H (upd H1 p o) := s.trans (sameU h)
theorem sameW {H H1 : Hp} {p : Addr} {o : HO} (s : Same H H1) (h : H p = none) : Same H (upd H1 p o) := fun b x e => by
  rw [upd_ne (ne_of_none e h)]
  exact s b x e
theorem Same.tup {K : PySem.W.Frag} {H H' : Hp} {a : Addr} {xs : List V} (e : Same H H') (h : SqT K H a xs) : SqT K H' a xs := by
  rcases h with (h | ⟨o, h⟩) | h
  · exact .inl (.inl (e _ _ h))
  · exact .inl (.inr ⟨o, e _ _ h⟩)
  · exact .inr h

/-! ### a Lots object -/
abbrev wS (w : List Nat) : V := .str (S w)
def GoodWs (ws : KM.Ws) : Prop := 1 ≤ ws.length ∧ ws.length ≤ 9 ∧ (∀ w ∈ ws, 1 ≤ w.length ∧ w.length ≤ 2) ∧ ∀ w ∈ ws, ∀ c ∈ w, 97 ≤ c ∧ c ≤ 122
theorem ne_wl : ¬ (("words" : Str) = "letters") := by decide +kernel
def lfs (wa : Addr) (l : Str) : List (Str × V) := putF "letters" (.str l) (putF "words" (.ref wa) [])
theorem lfs_words (wa : Addr) (l : Str) : (lfs wa l).lookup ("words" : Str) = some (.ref wa) := by
  unfold lfs
  rw [lookup_putF, if_neg ne_wl, lookup_putF, if_pos rfl]
def LotsAt (K : PySem.W.Frag) (C : Addr) (H : Hp) (a : Addr) (ws : KM.Ws) : Prop := ∃ dx wa l, H a = some (.ins C dx (lfs wa l)) ∧ SqT K H wa (ws.map wS) ∧ GoodWs ws
theorem LotsAt.same {K : PySem.W.Frag} {C : Addr} {H H' : Hp} {a : Addr} {ws : KM.Ws} (L : LotsAt K C H a ws) (s : Same H H') : LotsAt K C H' a ws := by
  obtain ⟨dx, wa, l, h1, h2, h3⟩ := L
  exact ⟨dx, wa, l, s _ _ h1, Same.tup s h2, h3⟩
theorem LotsAt.good {K : PySem.W.Frag} {C : Addr} {H : Hp} {a : Addr} {ws : KM.Ws} (L : LotsAt K C H a ws) : GoodWs ws := by
  obtain ⟨dx, wa, l, h1, h2, h3⟩ := L
  exact h3
def spLen (K : PySem.W.Frag) (C : Addr) : Sp := fun vs H Q _ => ∃ a ws, vs = [.ref a] ∧ LotsAt K C H a ws ∧ Q (.int ws.length) H

/-! ### the names of the module -/
structure Nm (mg : Str → Option Value) : Prop where
  len : mg "len" = none
  range : mg "range" = none
  all : mg "all" = none
  any : mg "any" = none
  isi : mg "isinstance" = none
  str : mg "str" = none
  tuple : mg "tuple" = none
  list : mg "list" = none
  sorted : mg "sorted" = none
  set : mg "set" = none
  int : mg "int" = none
  abs : mg "abs" = none
  divmod : mg "divmod" = none
  min : mg "min" = none
  max : mg "max" = none
  repr : mg "repr" = none
  letters : ∃ t, mg "LETTERS" = some (.str "abcdefghijklmnopqrstuvwxyz" t)
  lots : ∃ t, mg "MOST_LOTS" = some (.int 9 t)
  things : ∃ t, mg "MOST_THINGS" = some (.int 8 t)
/-- what the walk knows: the class Lots, its property lots, its __len__ -/
structure En (P : Program) (w : World) (K : PySem.W.Frag) (mg : Str → Option Value) (base : Heap) (C : Addr) : Prop where
  nm : Nm mg
  cl : Cls K C
  isC : C8.InsC K C
  mgC : mg "Lots" = some (.ref C)
  prop : ∃ p g fd, PropOf K C "lots" p g ∧ FnOk P w K mg base CX0 1 g fd ["self"] (getSp C "words") ∧ Binds K fd ["self"] []
  len : ∃ g fd, PySem.W.findIn K (.ref C) "__len__" = some (some (.ref g)) ∧ PySem.W.isFn K (.ref g) = true ∧ FnOk P w K mg base CX0 1 g fd ["self"] (spLen K C) ∧ Binds K fd ["self"] []
section
variable {X : Cx} {C : Addr}
theorem PE.weak {e : Expr} {t t' : TE} (h : PE X e t) (w : ∀ σ H Q, t' σ H Q → t σ H Q) : PE X e t' := ⟨fun pins s σ H Q I q => h.run pins s σ H Q I (w σ H Q q)⟩
/-- o.lots -/
def tLots (K : PySem.W.Frag) (C : Addr) (ta : TE) : TE := fun σ H Q => ta σ H fun x H1 => ∃ a ws, x = .ref a ∧ LotsAt K C H1 a ws ∧ ∀ wa, SqT K H1 wa (ws.map wS) → Q (.ref wa) H1
theorem tmono_prop {sp : Sp} {ta : TE} {K : PySem.W.Frag} (hm : ∀ σ H (A B : VK), (∀ v H', A v H' → B v H') → ta σ H A → ta σ H B) : ∀ σ H Q, tLots K C ta σ H Q → tProp C (getSp C "words") [] E0 ta σ H Q := fun σ H Q h => by
  refine hm σ H _ _ (fun x H1 q => ?_) h
  obtain ⟨a, ws, rfl, ⟨dx, wa, l, h1, h2, h3⟩, k⟩ := q
  exact ⟨a, dx, _, rfl, h1, a, dx, _, _, rfl, h1, lfs_words wa l, k wa h2⟩
theorem pe_lots {e : Expr} {i : Nat} {pos : Pos} {P : Program} {w : World} {K : PySem.W.Frag} {mg : Str → Option Value} {base : Heap} {A : Around} (V : En P w K mg base C) (hr : Room 2 A) (he : PE X e (tVar i)) (h1 : X.prog = P := by rfl) (h2 : X.w = w := by rfl) (h3 : X.K = K := by rfl)
    (h4 : X.mg = mg := by rfl) (h5 : X.base = base := by rfl) (h6 : X.A = A := by rfl) (hab : attributeBase e "lots" X.env (eval e X.env) = eval e X.env := by rfl) : PE X (.Attribute e "lots" pos) (tLots K C (tVar i)) := by
  subst h1 h2 h3 h4 h5 h6
  obtain ⟨p, g, fd, h1, h2, h3⟩ := V.prop
  refine PE.weak (pe_prop he V.cl h1 h2 hr h3 .nil (pass0 (X := X.nox)) hab) (tmono_prop (sp := spLen X.K C) fun σ H A B hAB h => ?_)
  obtain ⟨v, hv, q⟩ := h
  exact ⟨v, hv, hAB _ _ q⟩
theorem call_lenLots {P : Program} {w : World} {K : PySem.W.Frag} {mg : Str → Option Value} {base : Heap} {A : Around} (V : En P w K mg base C) (hr : Room 2 A) (h1 : X.prog = P := by rfl) (h2 : X.w = w := by rfl) (h3 : X.K = K := by rfl)
    (h4 : X.mg = mg := by rfl) (h5 : X.base = base := by rfl) (h6 : X.A = A := by rfl) : CallR X (.builtin "len") (fun xs H Q => ∃ a ws, xs = [.ref a] ∧ LotsAt K C H a ws ∧ Q (.int ws.length) H) := by
  subst h1 h2 h3 h4 h5 h6
  obtain ⟨g, fd, h1, h2, h3, h4⟩ := V.len
  intro pins s σ H xs us Q I r h
  obtain ⟨a, ws, rfl, L, q⟩ := h
  have ⟨dx, wa, l, e1, e2, e3⟩ := L
  refine call_lenOwn h1 h2 h3 h4 hr pins s σ H _ us Q I r ⟨a, dx, _, rfl, e1, a, ws, rfl, L, ws.length, rfl, ⟨by omega, ?_⟩, q⟩
  have := e3.2.1
  omega
end

/-! ### rules with the written part named (for use in a comprehension's block) -/
section
variable {X : Cx}
theorem ixT (K : PySem.W.Frag) (h : X.K = K := by rfl) : IxR X (rIxT K) := by
  subst h
  exact ix_tup
theorem ixL (K : PySem.W.Frag) (h : X.K = K := by rfl) : IxR X (rIxL K) := by
  subst h
  exact ix_list
theorem inS (K : PySem.W.Frag) (h : X.K = K := by rfl) : OpR X (compareOp .In) (rIn K false) := by
  subst h
  exact op_in_seq
theorem ninS (K : PySem.W.Frag) (h : X.K = K := by rfl) : OpR X (compareOp .NotIn) (rIn K true) := by
  subst h
  exact op_notIn_seq
theorem eqD (K : PySem.W.Frag) (hu : X.A.units + 64 < cLine) (h : X.K = K := by rfl) : OpR X (compareOp .Eq) (rEqD K) := by
  subst h
  exact op_eqD hu
theorem neD (K : PySem.W.Frag) (hu : X.A.units + 64 < cLine) (h : X.K = K := by rfl) : OpR X (compareOp .NotEq) (rNeD K) := by
  subst h
  exact op_neD hu
theorem anyC (K : PySem.W.Frag) (hc : X.calm = true) (h : X.K = K := by rfl) : CallR X (.builtin "any") (rAny K) := by
  subst h
  exact cr_any hc
theorem allC (K : PySem.W.Frag) (hc : X.calm = true) (h : X.K = K := by rfl) : CallR X (.builtin "all") (rAll K) := by
  subst h
  exact cr_all hc
theorem piL (K : PySem.W.Frag) {tg l : Expr} {tl : TE} (hl : PE X l tl) (h : X.K = K := by rfl) : PI X tg l (iList K tl) := by
  subst h
  exact pi_list hl
theorem piT (K : PySem.W.Frag) {tg l : Expr} {tl : TE} (hl : PE X l tl) (h : X.K = K := by rfl) : PI X tg l (iTup K tl) := by
  subst h
  exact pi_tup hl
end
/-! ### what is walked, as a list -/
theorem walkL {α : Type} {K : PySem.W.Frag} {a : Addr} (c : α → V) (ns : List α) : Walk (Itl K a) ns.length (fun H => SqL K H a (ns.map c)) (YAt (ns.map c)) := by
  have h := walk_list (K := K) (a := a) (xs := ns.map c)
  rw [List.length_map] at h
  exact h
theorem walkT {α : Type} {K : PySem.W.Frag} {a : Addr} (c : α → V) (ns : List α) : Walk (Itt K a) ns.length (fun H => SqT K H a (ns.map c)) (YAt (ns.map c)) := by
  have h := walk_tup (K := K) (a := a) (xs := ns.map c)
  rw [List.length_map] at h
  exact h
abbrev nI (k : Nat) : V := .int (k : Int)
theorem walkR (n : Nat) : Walk (Itr 0 n) (List.range n).length (fun _ => True) (YAt ((List.range n).map nI)) := by
  rw [List.length_range]
  refine (walk_range (lo := 0) (n := n)).mono (fun _ h => h) fun i H x H' hi _ y => ?_
  obtain ⟨y1, y2⟩ := y
  refine ⟨y1, ?_⟩
  rw [List.getElem?_map, List.getElem?_range hi, y2]
  show some (V.int (i : Int)) = some (V.int (0 + (i : Int)))
  rw [Int.zero_add]
abbrev sg (c : Nat) : V := .str ⟨#[c]⟩
theorem walkS (l : List Nat) : Walk (Its (S l)) l.length (fun _ => True) (YAt (l.map sg)) := by
  have h := walk_str (z := S l)
  have e : (S l).cps.size = l.length := by simp
  rw [e] at h
  refine h.mono (fun _ h => h) fun i H x H' hi _ y => ?_
  obtain ⟨y1, c, hc, y2⟩ := y
  refine ⟨y1, ?_⟩
  have hc' : l[i]? = some c := by simpa using hc
  rw [List.getElem?_map, hc', y2]
  rfl
/-- a comprehension: what passes the test, mapped -/
theorem lc_fm {α : Type} {J : It} {G : Hp → Prop} {c : α → V} {ns : List α} (wk : Walk J ns.length G (YAt (ns.map c))) {i : Nat} {tt : TT} {te : TE} {σ : L2.St} {H1 : Hp} {D : Addr} {Qd : Hp → Prop} (p : α → Bool) (f : α → V)
    (hD : H1 D = none) (hG : ∀ H, Same H1 H → G H) (hz : ns.length < sizeLine)
    (ht : ∀ n H K, n ∈ ns → Same H1 H → (∀ H', Same H H' → K (p n) H') → tt (σ.set i (some (c n))) H K)
    (he : ∀ n H K, n ∈ ns → p n = true → Same H1 H → (∀ H', Same H H' → K (f n) H') → te (σ.set i (some (c n))) H K)
    (hd : ∀ H, Same H1 H → H D = some (.lst ((ns.filter p).map f)) → Qd H) :
    ∃ W : Nat → Nat → Hp → Prop, (∃ m, W 0 m (upd H1 D (.lst []))) ∧ ∀ k m H, W k m H →
      (J.stop k H ∧ Qd H) ∨ (J.go k H ∧ ∃ Nx : Hp → Prop, (∀ H', Nx H' → ∃ m', m' < m ∧ W (k + 1) m' H') ∧ ∀ x H', J.yld k H x H' → gName i x (wipe σ [i]) H' fun σ2 H2 => wipe σ2 [i] = wipe σ [i] ∧ tt σ2 H2 fun b H3 =>
        if b = true then te σ2 H3 fun y H4 => ∃ acc, H4 D = some (.lst acc) ∧ acc.length < sizeLine ∧ Nx (upd H4 D (.lst (acc ++ [y]))) else Nx H3) := by
  refine lc_it wk (fun k H => Same H1 H ∧ H D = some (.lst (((ns.take k).filter p).map f))) ?_ (fun k H _ h => hG H h.1) ?_ ?_
  · exact ⟨sameU hD, upd_same⟩
  · intro k x H H' hk hP hY
    obtain ⟨hS, hDl⟩ := hP
    obtain ⟨rfl, hx⟩ := hY
    rw [List.getElem?_map] at hx
    obtain ⟨n, hn, rfl⟩ := Option.map_eq_some_iff.mp hx
    have hm : n ∈ ns := List.mem_of_getElem? hn
    have et : ns.take (k + 1) = ns.take k ++ [n] := by
      rw [List.take_add_one, hn]
      rfl
    have ew : (wipe σ [i]).set i (some (c n)) = σ.set i (some (c n)) := by
      show (σ.set i none).set i (some (c n)) = σ.set i (some (c n))
      rw [List.set_set]
    unfold gName
    rw [ew]
    refine ⟨?_, ?_⟩
    · show (σ.set i (some (c n))).set i none = σ.set i none
      rw [List.set_set]
    · refine ht n _ _ hm hS fun H3 h3 => ?_
      cases hp : p n with
      | true =>
        rw [if_pos rfl]
        refine he n H3 _ hm hp (hS.trans h3) fun H4 h4 => ?_
        have s4 := (hS.trans h3).trans h4
        refine ⟨_, h4 _ _ (h3 _ _ hDl), ?_, sameW s4 hD, ?_⟩
        · rw [List.length_map]
          have h1 := List.length_filter_le p (ns.take k)
          have h2 := List.length_take_le k ns
          have h3 : (ns.take k).length ≤ ns.length := by
            rw [List.length_take]
            exact Nat.min_le_right _ _
          omega
        · rw [upd_same, et, List.filter_append, List.map_append]
          have e1 : [n].filter p = [n] := by
            rw [List.filter_cons_of_pos hp]
            rfl
          rw [e1]
          rfl
      | false =>
        rw [if_neg Bool.false_ne_true]
        refine ⟨hS.trans h3, ?_⟩
        rw [h3 _ _ hDl, et, List.filter_append]
        have e1 : [n].filter p = [] := by
          rw [List.filter_cons_of_neg (by rw [hp]; exact Bool.false_ne_true)]
          rfl
        rw [e1, List.append_nil]
  · intro H hP
    obtain ⟨hS, hDl⟩ := hP
    rw [List.take_length] at hDl
    exact hd H hS hDl
/-- .. without a test -/
theorem lc_m {α : Type} {J : It} {G : Hp → Prop} {c : α → V} {ns : List α} (wk : Walk J ns.length G (YAt (ns.map c))) {i : Nat} {te : TE} {σ : L2.St} {H1 : Hp} {D : Addr} {Qd : Hp → Prop} (f : α → V)
    (hD : H1 D = none) (hG : ∀ H, Same H1 H → G H) (hz : ns.length < sizeLine)
    (he : ∀ n H K, n ∈ ns → Same H1 H → (∀ H', Same H H' → K (f n) H') → te (σ.set i (some (c n))) H K)
    (hd : ∀ H, Same H1 H → H D = some (.lst (ns.map f)) → Qd H) :
    ∃ W : Nat → Nat → Hp → Prop, (∃ m, W 0 m (upd H1 D (.lst []))) ∧ ∀ k m H, W k m H →
      (J.stop k H ∧ Qd H) ∨ (J.go k H ∧ ∃ Nx : Hp → Prop, (∀ H', Nx H' → ∃ m', m' < m ∧ W (k + 1) m' H') ∧ ∀ x H', J.yld k H x H' → gName i x (wipe σ [i]) H' fun σ2 H2 => wipe σ2 [i] = wipe σ [i] ∧ tYes σ2 H2 fun b H3 =>
        if b = true then te σ2 H3 fun y H4 => ∃ acc, H4 D = some (.lst acc) ∧ acc.length < sizeLine ∧ Nx (upd H4 D (.lst (acc ++ [y]))) else Nx H3) :=
  lc_fm wk (fun _ => true) f hD hG hz (fun n H K _ _ k => k H (Same.refl H)) (fun n H K hm _ hS k => he n H K hm hS k) fun H hS hDl => hd H hS (by
    rw [List.filter_eq_self.mpr fun _ _ => rfl] at hDl
    exact hDl)
end K55

/-! Values: joined texts, counted signs, lists of ints in ==, in; data. -/
namespace K55
open PySem PySem.Spec PyProof.Rows L2 SX
/-! ### texts -/
theorem joinL_nil : ∀ ys : List (List Nat), TL.joinL [] ys = ys.flatten
  | [] => rfl
  | [p] => by simp [TL.joinL]
  | p :: q :: r => by
    show p ++ ([] ++ TL.joinL [] (q :: r)) = _
    rw [joinL_nil (q :: r)]
    simp
theorem empty_S : ("" : Str) = S [] := by decide +kernel
theorem join_0 (ys : List (List Nat)) : Txt.join "" (ys.map S) = S ys.flatten := by
  rw [empty_S, join_S, joinL_nil]
theorem lens_S (ys : List (List Nat)) : ((ys.map S).map (·.length)).sum + (ys.map S).length * ("" : Str).length = ys.flatten.length := by
  have e0 : ("" : Str).length = 0 := by decide +kernel
  rw [lens, e0, Nat.mul_zero, Nat.add_zero, List.length_flatten]
theorem count_go (l : List Nat) (c : Nat) : ∀ (m i : Nat) (acc : Array Nat) (free : Nat), i + m = l.length + 1 → free ≤ i → acc.size ≤ i →
    (forIn (List.range' i m) (acc, free) (StrLaws.occBody (S l) ⟨#[c]⟩ l.length (l.length + 1))).run.fst.size = acc.size + (l.drop i).count c
  | 0, i, acc, free, h, _, _ => by
    have e : l.drop i = [] := List.drop_eq_nil_of_le (by omega)
    rw [e]
    rfl
  | m + 1, i, acc, free, h, hf, ha => by
    rw [List.range'_succ, List.forIn_cons]
    have h1 := StrLaws.subAt_one (S l) c i
    have hl : (S l).length = l.length := S_len l
    have hc : (⟨#[c]⟩ : Str).length = 1 := rfl
    rw [hl] at h1
    unfold StrLaws.occBody
    by_cases hi : l[i]? = some c
    · have h2 := h1.mpr (by simpa using hi)
      rw [if_pos ⟨⟨⟨by show acc.size < l.length + 1; omega, hf⟩, h2.1⟩, h2.2⟩]
      have hlt : i < l.length := (List.getElem?_eq_some_iff.mp hi).1
      have ih := count_go l c m (i + 1) (acc.push i) (i + (⟨#[c]⟩ : Str).length) (by omega) (by rw [hc]; exact Nat.le_refl _) (by rw [Array.size_push]; omega)
      have ed : l.drop i = c :: l.drop (i + 1) := by
        rw [List.drop_eq_getElem_cons hlt]
        have := (List.getElem?_eq_some_iff.mp hi).2
        rw [this]
      rw [ed, List.count_cons_self]
      refine Eq.trans ih ?_
      rw [Array.size_push]
      omega
    · have h2 : ¬ ((((acc, free) : Array Nat × Nat).fst.size < l.length + 1 ∧ ((acc, free) : Array Nat × Nat).snd ≤ i) ∧ i + (⟨#[c]⟩ : Str).length ≤ l.length) ∨ ¬ Builtin.Str.subAt (S l) ⟨#[c]⟩ i = true := by
        by_cases hs : Builtin.Str.subAt (S l) ⟨#[c]⟩ i = true
        · refine .inl fun z => hi ?_
          have := h1.mp ⟨z.2, hs⟩
          simpa using this
        · exact .inr hs
      rw [if_neg (fun z => h2.elim (fun k => k z.1) fun k => k z.2)]
      have ih := count_go l c m (i + 1) acc free (by omega) (by omega) (by omega)
      refine Eq.trans ih ?_
      by_cases hlt : i < l.length
      · rw [List.drop_eq_getElem_cons hlt]
        have hne : l[i] ≠ c := fun z => hi (by rw [List.getElem?_eq_getElem hlt, z])
        rw [List.count_cons_of_ne hne]
      · rw [List.drop_eq_nil_of_le (by omega : l.length ≤ i), List.drop_eq_nil_of_le (by omega : l.length ≤ i + 1)]
theorem count_S (l : List Nat) (c : Nat) : Txt.count (S l) ⟨#[c]⟩ = ((l.count c : Nat) : Int) := by
  have h := count_go l c (l.length + 1) 0 #[] 0 (by omega) (Nat.le_refl _) (Nat.le_refl _)
  have hl : (S l).length = l.length := S_len l
  show (((Builtin.Str.occurrences (S l) ⟨#[c]⟩ 0 (S l).length ((S l).length + 1)).length : Nat) : Int) = _
  rw [hl, StrLaws.occ_eq, Array.length_toList]
  simp only [Nat.sub_zero]
  rw [h]
  simp
/-! ### ints in lists -/
abbrev nV (k : Nat) : V := .int (k : Int)
theorem flat_ints (ns : List Nat) : (ns.map nV).all flatV = true := by
  rw [List.all_map]
  exact List.all_eq_true.mpr fun _ _ => rfl
theorem in_ints (k : Nat) (ns : List Nat) : inV (nV k) (ns.map nV) = decide (k ∈ ns) := by
  unfold inV
  rw [List.any_map]
  by_cases h : k ∈ ns
  · rw [decide_eq_true h]
    refine List.any_eq_true.mpr ⟨k, h, ?_⟩
    show (((k : Int)) == ((k : Int))) = true
    exact beq_self_eq_true _
  · rw [decide_eq_false h]
    refine List.any_eq_false.mpr fun j hj => ?_
    show ¬ (((j : Int)) == ((k : Int))) = true
    intro z
    have e : (j : Int) = (k : Int) := eq_of_beq z
    have e2 : j = k := Int.ofNat.inj e
    exact h (e2 ▸ hj)
/-! ### data -/
abbrev dI (k : Nat) : PyData := .int (k : Int)
abbrev dL (ns : List Nat) : PyData := .list (ns.map dI)
abbrev dT (ns : List Nat) : PyData := .tuple (ns.map dI)
theorem dp_all {K : PySem.W.Frag} {H : Hp} {α : Type} {f : α → V} {g : α → PyData} : ∀ {xs : List α}, (∀ x ∈ xs, Dp K H (f x) (g x)) → DpAll K H (xs.map f) (xs.map g)
  | [], _ => .nil
  | x :: xs, h => .cons (h x List.mem_cons_self) (dp_all fun y hy => h y (List.mem_cons_of_mem _ hy))
theorem dp_ints {K : PySem.W.Frag} {H : Hp} {a : Addr} {ns : List Nat} (h : SqL K H a (ns.map nV)) : Dp K H (.ref a) (dL ns) := .lst h (dp_all fun _ _ => .int _)
theorem dp_intsT {K : PySem.W.Frag} {H : Hp} {a : Addr} {ns : List Nat} (h : SqT K H a (ns.map nV)) : Dp K H (.ref a) (dT ns) := .tup h (dp_all fun _ _ => .int _)
theorem eqv_map {α : Type} [DecidableEq α] {g : α → PyData} (hg : ∀ x y, PyData.eqv (g x) (g y) = decide (x = y)) : ∀ xs ys : List α, PyData.eqvAll (xs.map g) (ys.map g) = decide (xs = ys)
  | [], [] => by simp [PyData.eqvAll]
  | [], y :: ys => by simp [PyData.eqvAll]
  | x :: xs, [] => by simp [PyData.eqvAll]
  | x :: xs, y :: ys => by
    simp only [List.map_cons, PyData.eqvAll]
    rw [hg x y, eqv_map hg xs ys]
    by_cases h1 : x = y
    · by_cases h2 : xs = ys
      · simp [h1, h2]
      · simp [h1, h2]
    · simp [h1]
theorem eqv_int (a b : Nat) : PyData.eqv (dI a) (dI b) = decide (a = b) := by
  simp only [PyData.eqv]
  by_cases h : a = b
  · simp [h]
  · simp [h]
    omega
theorem eqv_dL (xs ys : List Nat) : PyData.eqv (dL xs) (dL ys) = decide (xs = ys) := by
  simp only [PyData.eqv]
  exact eqv_map eqv_int xs ys
theorem eqv_dT (xs ys : List Nat) : PyData.eqv (dT xs) (dT ys) = decide (xs = ys) := by
  simp only [PyData.eqv]
  exact eqv_map eqv_int xs ys
theorem canLay_map {α : Type} {g : α → PyData} (hg : ∀ x, (g x).canLay0 = true) : ∀ xs : List α, PyData.canLayAll0 (xs.map g) = true
  | [] => by simp [PyData.canLayAll0]
  | x :: xs => by simp [PyData.canLayAll0, hg x, canLay_map hg xs]
theorem depth_map {α : Type} {g : α → PyData} {n : Nat} (hg : ∀ x, (g x).depth ≤ n) : ∀ xs : List α, PyData.depthAll (xs.map g) ≤ n
  | [] => by simp [PyData.depthAll]
  | x :: xs => by
    simp only [List.map_cons, PyData.depthAll]
    have h1 := hg x
    have h2 := depth_map hg xs
    omega
theorem show_map {α : Type} {g : α → PyData} (hg : ∀ x, (g x).canLay0 = true ∧ (g x).depth ≤ 60) (xs : List α) : SeqAt.shaped (.list (xs.map g)) = true ∧ SeqAt.shaped (.tuple (xs.map g)) = true := by
  have h1 := canLay_map (fun x => (hg x).1) xs
  have h2 := depth_map (fun x => (hg x).2) xs
  unfold SeqAt.shaped
  constructor
  · simp only [PyData.canLay0, PyData.depth, h1, Bool.true_and]
    exact decide_eq_true (by omega)
  · simp only [PyData.canLay0, PyData.depth, h1, Bool.true_and]
    exact decide_eq_true (by omega)
/-- signs as data -/
abbrev dS (c : Nat) : PyData := .str ⟨#[c]⟩
theorem canLay_mem {α : Type} {g : α → PyData} : ∀ xs : List α, (∀ x ∈ xs, (g x).canLay0 = true) → PyData.canLayAll0 (xs.map g) = true
  | [], _ => by simp [PyData.canLayAll0]
  | x :: xs, h => by
    have h1 := h x List.mem_cons_self
    have h2 := canLay_mem xs fun y hy => h y (List.mem_cons_of_mem _ hy)
    simp [PyData.canLayAll0, h1, h2]
theorem strOk_S {l : List Nat} (h : ∀ c ∈ l, c ≤ 122) : PyData.strOk (S l) = true := by
  unfold PyData.strOk
  rw [← Array.all_toList]
  exact List.all_eq_true.mpr fun c hc => decide_eq_true (Nat.lt_of_le_of_lt (h c hc) (by decide))
theorem shaped_strs {α : Type} {f : α → List Nat} (xs : List α) (h : ∀ x ∈ xs, ∀ c ∈ f x, c ≤ 122) : SeqAt.shaped (.list (xs.map fun x => .str (S (f x)))) = true ∧ SeqAt.shaped (.tuple (xs.map fun x => .str (S (f x)))) = true := by
  have h1 := canLay_mem (g := fun x => PyData.str (S (f x))) xs fun x hx => by
    simp only [PyData.canLay0]
    exact strOk_S (h x hx)
  have h2 := depth_map (g := fun x => PyData.str (S (f x))) (n := 60) (fun x => by simp [PyData.depth]) xs
  unfold SeqAt.shaped
  constructor
  · simp only [PyData.canLay0, PyData.depth, h1, Bool.true_and]
    exact decide_eq_true (by omega)
  · simp only [PyData.canLay0, PyData.depth, h1, Bool.true_and]
    exact decide_eq_true (by omega)
theorem eqv_nil {g : α → PyData} (xs : List α) : PyData.eqv (.list (xs.map g)) (.list []) = decide (xs = []) := by
  cases xs with
  | nil => simp [PyData.eqv, PyData.eqvAll]
  | cons x r => simp [PyData.eqv, PyData.eqvAll]
theorem shaped_nil : SeqAt.shaped (.list []) = true := by decide
theorem int_lay (k : Nat) : (dI k).canLay0 = true ∧ (dI k).depth ≤ 60 := by simp [PyData.canLay0, PyData.depth]
theorem shaped_dL (xs : List Nat) : SeqAt.shaped (dL xs) = true := (show_map int_lay xs).1
theorem shaped_dT (xs : List Nat) : SeqAt.shaped (dT xs) = true := (show_map int_lay xs).2
end K55

namespace K55
open PySem PySem.Spec PyProof.Rows L2 SX
/-- a def of the module as callers know it -/
def Cal (P : Program) (w : World) (K : PySem.W.Frag) (mg : Str → Option Value) (base : Heap) (x : Str) (k : Nat) (ps : List Str) (sp : Sp) : Prop :=
  ∃ f fd, mg x = some (.ref f) ∧ PySem.W.keepIn K (.ref f) = true ∧ FnOk P w K mg base CX0 k f fd ps sp ∧ Binds K fd ps []
section
variable {X : Cx} {P : Program} {w : World} {K : PySem.W.Frag} {mg : Str → Option Value} {base : Heap} {A : Around} {x : Str} {k : Nat} {ps : List Str} {sp : Sp} {e : Expr} {es : List Expr} {t : TA} {p pos : Pos}
theorem pe_cal (c : Cal P w K mg base x k ps sp) (hr : Room k A) (hg : Gl X x) (ha : PA X (e :: es) t) (h1 : X.prog = P := by rfl) (h2 : X.w = w := by rfl) (h3 : X.K = K := by rfl) (h4 : X.mg = mg := by rfl) (h5 : X.base = base := by rfl) (h6 : X.A = A := by rfl)
    (hdb : (x == ("__debug__" : Str)) = false := by decide) (he : starEach (e :: es) X.env = (false, eval e X.env) :: starEach es X.env := by rfl) (hpl : (backTo pos (starEach es X.env)).any (·.1) = false := by rfl) :
    PE X (.Call (.Name x p) (e :: es) [] pos) (tCall sp [] E0 t) := by
  subst h1 h2 h3 h4 h5 h6
  obtain ⟨f, fd, a, b, F, bd⟩ := c
  exact pe_call F hr hg a b bd .nil pass0 ha hdb he hpl
/-- .. with one argument, by name -/
def CalK (P : Program) (w : World) (K : PySem.W.Frag) (mg : Str → Option Value) (base : Heap) (x y : Str) (k : Nat) (sp : Sp) : Prop :=
  ∃ f fd, mg x = some (.ref f) ∧ PySem.W.keepIn K (.ref f) = true ∧ FnOk P w K mg base CX0 k f fd [y] sp ∧ ∀ (s : Shared) (v : Value), BindsTo s fd ⟨[], [(y, v)]⟩ [(y, v)]
def tCalK (sp : Sp) (te : TE) : TE := fun σ H Q => te σ H fun v H1 => sp [v] H1 Q E0
theorem pe_calK {y : Str} {i : Nat} {kp : Pos} (c : CalK P w K mg base x y k sp) (hr : Room k A) (hg : Gl X x) (ha : PE X e (tVar i)) (h1 : X.prog = P := by rfl) (h2 : X.w = w := by rfl) (h3 : X.K = K := by rfl) (h4 : X.mg = mg := by rfl) (h5 : X.base = base := by rfl) (h6 : X.A = A := by rfl)
    (hdb : (x == ("__debug__" : Str)) = false := by decide) : PE X (.Call (.Name x p) [] [⟨some y, e, kp⟩] pos) (tCalK sp (tVar i)) := by
  subst h1 h2 h3 h4 h5 h6
  obtain ⟨f, fd, a, b, F, bd⟩ := c
  have hk : PK X [⟨some y, e, kp⟩] (tCons (tVar i) tNil) := pk_cons ha pk_nil
  refine ⟨fun pins s σ H Q I h => ?_⟩
  refine wpAny_Call_Name_kw (ld_glob I hg a ?_ hdb)
  refine PySem.W.callWith_KW0 (h₀ := X.base) I.ok.mod.kin b rfl ?_ rfl
  have h' : tCons (tVar i) tNil σ H (fun zs H1 => ∃ v, zs = [v] ∧ sp [v] H1 Q E0) := by
    obtain ⟨v, hv, q⟩ := h
    exact ⟨v, hv, v, rfl, q⟩
  refine thn (hk.run pos pins s σ H _ I h') fun ws s2 z => ?_
  obtain ⟨vs, H2, I2, rv, v, rfl, q⟩ := z
  refine ⟨I2.kIn, ?_⟩
  obtain ⟨u, rfl, ru⟩ := rv.one
  show wpAny (model X.prog X.w) X.A (call (.ref f) [] [(y, u)]) (EP X pins σ Q) X.xe s2
  refine wpAny_call (codeAny_mono (F.run X.A X.stack s2 H2 ⟨[], [(y, u)]⟩ [u] [v] Q E0 hr I2.env0 (bd s2 u) (.cons ru .nil) q) fun r s' hq => ?_)
  cases r with
  | error e => exact False.elim hq
  | ok fl =>
    cases fl with
    | ret u => exact I2.after hq
    | next => exact False.elim hq
    | brk => exact False.elim hq
    | cont => exact False.elim hq
end
end K55

namespace K55
open PySem PySem.Spec PyProof.Rows L2 SX
abbrev sCheckLots : Stmt := topS 16
abbrev sOwn : Stmt := topS 18
section
variable {P : Program} {w : World} {K : PySem.W.Frag} {mg : Str → Option Value} {base : Heap} {C : Addr}
/-! ### check_lots -/
theorem scCheckLots : FnScope ["value"] ["value"] (defScope sCheckLots) := ⟨rfl, rfl, rfl, by decide +kernel, rfl, by decide +kernel, by decide +kernel⟩
def spCheckLots (K : PySem.W.Frag) (C : Addr) : Sp := fun vs H Q _ => ∃ a ws, vs = [.ref a] ∧ LotsAt K C H a ws ∧ Q .non H
theorem ok_checkLots {f : Addr} {fd : FuncData} (F : Fun K "check_lots" "check_lots" sCheckLots f fd) (V : En P w K mg base C) : FnOk P w K mg base CX0 1 f fd ["value"] (spCheckLots K C) := by
  refine F.ok scCheckLots (fun vs H Q E h => ?_) (fun cdv A outer s H vs Q E hr h => ?_)
  · obtain ⟨a, ws, rfl, _⟩ := h
    rfl
  · obtain ⟨a, ws, rfl, L, k⟩ := h
    obtain ⟨dx, wa, l, e1, e2, e3⟩ := L
    refine ⟨_, pss_one (ps_if (pt_not (pt_val (pe_callB (C8.call_isC V.isC) (by rfl) V.nm.isi (by decide +kernel) (pa_cons (pv 0) (pa_cons (pe_glob (v := .ref C) (by rfl) V.mgC rfl) pa_nil))))) pss_never pss_nil), ?_⟩
    refine ⟨.ref a, rfl, a, dx, _, rfl, e1, true, rfl, ?_⟩
    exact iteF k
/-! ### readings that come again -/
theorem wd_le {ws : KM.Ws} (g : GoodWs ws) (k : Nat) : (KM.wd ws k).length ≤ 2 := by
  unfold KM.wd
  rw [List.getD_eq_getElem?_getD]
  cases e : ws[k]? with
  | none => simp
  | some w => exact (g.2.2.1 w (List.mem_of_getElem? e)).2
theorem wd_let {ws : KM.Ws} (g : GoodWs ws) (k : Nat) : ∀ c ∈ KM.wd ws k, c ≤ 122 := by
  unfold KM.wd
  rw [List.getD_eq_getElem?_getD]
  cases e : ws[k]? with
  | none => intro c hc; simp at hc
  | some w => exact fun c hc => (g.2.2.2 w (List.mem_of_getElem? e) c hc).2
theorem wd_ge {ws : KM.Ws} (g : GoodWs ws) {k : Nat} (h : k < ws.length) : 1 ≤ (KM.wd ws k).length := by
  unfold KM.wd
  rw [List.getD_eq_getElem?_getD, List.getElem?_eq_getElem h]
  exact (g.2.2.1 _ (List.getElem_mem h)).1
theorem seen_le {ws : KM.Ws} (g : GoodWs ws) : ∀ part : List Nat, (KM.seen ws part).length ≤ 2 * part.length
  | [] => by simp [KM.seen]
  | k :: r => by
    have h1 := seen_le g r
    have h2 := wd_le g k
    have e : (KM.seen ws (k :: r)).length = (KM.wd ws k).length + (KM.seen ws r).length := by simp [KM.seen]
    rw [e, List.length_cons]
    omega
theorem at_ws {ws : KM.Ws} {n : Nat} (h : n < ws.length) : atI (ws.map wS) (n : Int) = some (wS (KM.wd ws n)) := by
  refine atI_nat ?_
  rw [List.getElem?_map, List.getElem?_eq_getElem h]
  unfold KM.wd
  rw [List.getD_eq_getElem?_getD, List.getElem?_eq_getElem h]
  rfl
/-- o.lots[k] -/
theorem rd_word {i j : Nat} {σ : L2.St} {H : Hp} {Q : VK} {a : Addr} {ws : KM.Ws} {n : Nat} (h0 : σ[i]? = some (some (.ref a))) (L : LotsAt K C H a ws) (h1 : σ[j]? = some (some (nV n))) (hn : n < ws.length) (q : Q (wS (KM.wd ws n)) H) :
    tOp (rIxT K) (tLots K C (tVar i)) (tVar j) σ H Q :=
  ⟨_, h0, a, ws, rfl, L, fun wa hwa => ⟨_, h1, wa, _, _, _, rfl, rfl, hwa, at_ws hn, q⟩⟩
theorem strs_form {α : Type} (f : α → List Nat) (xs : List α) : (xs.map fun k => wS (f k)) = (xs.map f).map wS := by
  rw [List.map_map]
  rfl
/-- "".join(words) -/
def rJ (K : PySem.W.Frag) : V → List V → Hp → VK → Prop := fun x xs H Q => x = .str "" ∧ ∃ (D : Addr) (ys : List (List Nat)), xs = [.ref D] ∧ (SqL K H D (ys.map wS) ∨ SqT K H D (ys.map wS)) ∧ ys.flatten.length ≤ 1000 ∧ Q (wS ys.flatten) H
theorem mtJ {X : Cx} (K : PySem.W.Frag) (hK : X.K = K := by rfl) : MtR X "str.join" (rJ K) := by
  subst hK
  intro pins s σ H x xs v us Q I rx rs h
  obtain ⟨rfl, D, ys, rfl, h1, h2, q⟩ := h
  have e : ys.map wS = (ys.map S).map V.str := by
    rw [List.map_map]
    rfl
  rw [e] at h1
  refine mt_join pins s σ H _ _ v us Q I rx rs ⟨"", D, ys.map S, rfl, rfl, h1, ?_, ?_⟩
  · rw [lens_S]
    omega
  · rw [join_0]
    exact q
theorem pe_join0 {X : Cx} {o e : Expr} {to te : TE} {apos pos : Pos} (K : PySem.W.Frag) (ho : PE X o to) (he : PE X e te) (hK : X.K = K := by rfl)
    (hs : starEach [e] X.env = [(false, eval e X.env)] := by rfl) (hbase : attributeBase o "join" X.env (eval o X.env) = eval o X.env := by rfl) (hline : (apos.endLine == pos.line) = true := by rfl) :
    PE X (.Call (.Attribute o "join" apos) [e] [] pos) (tM1 (rJ K) to te) := pe_m1 PySem.F.slot_str_join PySem.F.type_str_join (mtJ K hK) ho he hs hbase hline
/-- .. of the words of a part, made by a comprehension -/
theorem rd_join {H : Hp} {Q : VK} {D : Addr} {ws : KM.Ws} {part : List Nat} (g : GoodWs ws) (h9 : part.length ≤ 9) (hD : H D = some (.lst (part.map fun k => wS (KM.wd ws k)))) (q : Q (wS (KM.seen ws part)) H) : rJ K (.str "") [.ref D] H Q := by
  refine ⟨rfl, D, part.map (KM.wd ws), rfl, .inl (SqL.of ?_), ?_, q⟩
  · rw [hD, strs_form]
  · have h := seen_le g part
    unfold KM.seen at h
    omega
theorem ne_ints (a b : Nat) : (!decide (nV a = nV b)) = decide (a ≠ b) := by
  by_cases h : a = b
  · subst h
    simp
  · have h2 : ¬ nV a = nV b := fun z => h (Int.ofNat.inj (V.int.inj z))
    rw [decide_eq_false h2, decide_eq_true h]
    rfl
/-! ### own_thing -/
def optV : Option Nat → V
  | some x => sg x
  | none => .non
abbrev nOwn : List Str := ["lots", "left", "index", "others", "found", "k", "thing"]
theorem scOwn : FnScope nOwn ["lots", "left", "index"] (defScope sOwn) := ⟨rfl, rfl, rfl, by decide +kernel, rfl, by decide +kernel, by decide +kernel⟩
def spOwn (K : PySem.W.Frag) (C : Addr) : Sp := fun vs H Q _ => ∃ a la ws left i, vs = [.ref a, .ref la, nV i] ∧ LotsAt K C H a ws ∧ SqL K H la (left.map nV) ∧ (∀ k ∈ left, k < ws.length) ∧ left.length ≤ 9 ∧ i < ws.length ∧
  ∀ H', Same H H' → Q (optV (KM.own ws left i).head?) H'
theorem ok_own {f : Addr} {fd : FuncData} (F : Fun K "own_thing" "own_thing" sOwn f fd) (V : En P w K mg base C) : FnOk P w K mg base CX0 3 f fd ["lots", "left", "index"] (spOwn K C) := by
  refine F.ok scOwn (fun vs H Q E h => ?_) (fun cdv A outer s H vs Q E hr h => ?_)
  · obtain ⟨a, la, ws, left, i, rfl, _⟩ := h
    rfl
  · obtain ⟨a, la, ws, left, i, rfl, L, hl, hlt, h9, hi, k⟩ := h
    refine ⟨_, pss_cons (ps_set (i := 3) scOwn.nd rfl (.inr rfl) (pe_join0 K pe_str
        (pe_lc (own := [("k", 5)]) (g := gName 5) rfl scOwn.nd (pi_list (pv 1)) (blkOk_by (N := nOwn) (sc := defScope sOwn) (by decide +kernel)) (fun _ _ _ _ _ => pg_name (i := 5) scOwn.nd rfl (.inl rfl))
          (fun _ _ _ _ _ => pts_one (pt_cmpR op_ne (pv 5) (pv 2) (nomark _))) (fun _ _ _ _ _ => pe_ix (ixT K) (pe_lots V hr (pv 0)) (pv 5) (fun _ _ => rfl)))))
      (pss_cons (ps_setLc (i := 4) (own := [("thing", 6)]) (g := gName 6) rfl scOwn.nd rfl rfl (sw_true rfl rfl rfl (by decide +kernel)) (pi_str (pe_ix (ixT K) (pe_lots V hr (pv 0)) (pv 2) (fun _ _ => rfl))) (blkOk_by (N := nOwn) (sc := defScope sOwn) (by decide +kernel))
          (fun _ _ _ _ _ => pg_name (i := 6) scOwn.nd rfl (.inl rfl)) (fun _ _ _ _ _ => pts_one (pt_cmpR op_notIn_sign (pv 6) (pv 3) (by rfl))) (fun _ _ _ _ _ => pv 6))
        (pss_one (ps_ret (pe_ifExp (pt_cmpR (neD K hr.units) (pv 4) (pe_lst pa_nil) (nomark _)) (pe_ix (ixL K) (pv 4) pe_int (fun _ _ => rfl)) pe_non)))), ?_⟩
    have g := L.good
    have h9s : (9 : Nat) < sizeLine := by decide
    -- others
    refine ⟨⟨_, rfl⟩, .ref la, rfl, la, rfl, ⟨_, hl⟩, fun D hD => lc_fm (walkL nV left) (fun k => decide (k ≠ i)) (fun k => wS (KM.wd ws k)) hD (fun H' s => s.seq hl) (by omega) (fun n H1 K1 hn s k1 => ?_) (fun n H1 K1 hn _ s k1 => ?_) (fun H1 s1 hDl => ?_)⟩
    · refine ⟨nV n, rfl, nV i, rfl, rfl, _, rfl, ?_⟩
      rw [ne_ints]
      exact k1 _ (Same.refl _)
    · exact rd_word rfl (L.same s) rfl (hlt n hn) (k1 _ (Same.refl _))
    refine rd_join (part := KM.rest left i) g (Nat.le_trans (List.length_filter_le _ _) h9) hDl ?_
    -- found
    refine rd_word (i := 0) (j := 2) rfl (L.same s1) rfl hi ⟨_, rfl, fun D2 hD2 => lc_fm (walkS (KM.wd ws i)) (fun x => decide (x ∉ KM.seen ws (KM.rest left i))) sg hD2 (fun _ _ => trivial) (by have := wd_le g i; omega) (fun n H2 K2 hn s k2 => ?_) (fun n H2 K2 hn _ s k2 => ?_) (fun H2 s2 hDl2 => ?_)⟩
    · refine ⟨sg n, rfl, _, rfl, n, _, rfl, rfl, _, rfl, ?_⟩
      rw [← decide_not]
      exact k2 _ (Same.refl _)
    · exact ⟨_, rfl, k2 _ (Same.refl _)⟩
    -- the answer
    have hD2l : H2 D2 = some (.lst ((KM.own ws left i).map sg)) := hDl2
    have s12 : Same H H2 := s1.trans s2
    refine ⟨.ref D2, rfl, Nat.zero_le _, fun p hp => ?_⟩
    have s13 := sameUT (o := .lst []) s12 hp
    have hD3 : (upd H2 p (.lst [])) D2 = some (.lst ((KM.own ws left i).map sg)) := sameU hp _ _ hD2l
    refine ⟨.list ((KM.own ws left i).map dS), .list [], .lst (SqL.of hD3) (dp_all fun _ _ => .str _), .lst (SqL.of upd_same) .nil, (shaped_strs (f := fun c => [c]) (KM.own ws left i) fun c hc d hd => ?_).1, shaped_nil, _, rfl, ?_⟩
    · rw [List.mem_singleton.mp hd]
      exact wd_let g i c (KM.mem_own.mp hc).1
    · rw [eqv_nil]
      cases e : KM.own ws left i with
      | nil =>
        rw [decide_eq_true rfl]
        refine iteF ?_
        have q := k _ s13
        rw [e] at q
        exact q
      | cons x r =>
        rw [decide_eq_false (fun z => nomatch z)]
        refine iteT ⟨.ref D2, rfl, D2, _, 0, sg x, rfl, rfl, SqL.of hD3, ?_, ?_⟩
        · rw [e]
          exact atI_nat (j := 0) rfl
        · have q := k _ s13
          rw [e] at q
          exact q
end
end K55

namespace K55
open PySem PySem.Spec PyProof.Rows L2 SX
abbrev sNext : Stmt := topS 19
abbrev sStrikes : Stmt := topS 20
abbrev sCoreOf : Stmt := topS 21
abbrev sCore : Stmt := topS 22
section
variable {P : Program} {w : World} {K : PySem.W.Frag} {mg : Str → Option Value} {base : Heap} {C : Addr}
/-! ### next_strike -/
def hasOwn (ws : KM.Ws) (left : List Nat) (i : Nat) : Bool := decide (KM.own ws left i ≠ [])
abbrev nNext : List Str := ["lots", "left", "index", "thing"]
theorem scNext : FnScope nNext ["lots", "left"] (defScope sNext) := ⟨rfl, rfl, rfl, by decide +kernel, rfl, by decide +kernel, by decide +kernel⟩
def spNext (K : PySem.W.Frag) (C : Addr) : Sp := fun vs H Q _ => ∃ a la ws left, vs = [.ref a, .ref la] ∧ LotsAt K C H a ws ∧ SqL K H la (left.map nV) ∧ (∀ k ∈ left, k < ws.length) ∧ left.length ≤ 9 ∧
  ((∀ i ∈ left, KM.own ws left i = []) → ∀ H', Same H H' → Q .non H') ∧
  ∀ i x, i ∈ left → KM.own ws left i ≠ [] → ∀ H' p, Same H H' → H' p = some (.tup [nV i, sg x]) → Q (.ref p) H'
theorem ok_next {f : Addr} {fd : FuncData} (F : Fun K "next_strike" "next_strike" sNext f fd) (cO : Cal P w K mg base "own_thing" 3 ["lots", "left", "index"] (spOwn K C)) : FnOk P w K mg base CX0 4 f fd ["lots", "left"] (spNext K C) := by
  refine F.ok scNext (fun vs H Q E h => ?_) (fun cdv A outer s H vs Q E hr h => ?_)
  · obtain ⟨a, la, ws, left, rfl, _⟩ := h
    rfl
  · obtain ⟨a, la, ws, left, rfl, L, hl, hlt, h9, k0, k1⟩ := h
    refine ⟨_, pss_cons (ps_for PassesOwn.never rfl (pi_list (pv 1)) (pg_name (i := 2) scNext.nd rfl (.inl rfl))
        (pss_cons (ps_set (i := 3) scNext.nd rfl (.inl rfl) (pe_cal cO hr (by rfl) (pa_cons (pv 0) (pa_cons (pv 1) (pa_cons (pv 2) pa_nil)))))
          (pss_one (ps_if (pt_cmpR op_notN (pv 3) pe_non (nomark _)) (pss_one (ps_ret (pe_tup (pa_cons (pv 2) (pa_cons (pv 3) pa_nil))))) pss_nil))))
      (pss_one (ps_ret pe_non)), ?_⟩
    refine ⟨.ref la, rfl, la, rfl, ⟨_, hl⟩, for_list (K := K) (a := la) (xs := left.map nV) (fun j σ H1 => ∃ y2 y3, σ = [some (.ref a), some (.ref la), y2, y3] ∧ Same H H1 ∧ ∀ i ∈ left.take j, KM.own ws left i = [])
      ⟨none, none, rfl, Same.refl H, by simp⟩ (fun j σ H1 _ ⟨_, _, _, s1, _⟩ => s1.seq hl) ?_ ?_⟩
    · rintro j y σ H1 hj ⟨y2, y3, rfl, s1, hown⟩
      rw [List.getElem?_map] at hj
      obtain ⟨i, hi, rfl⟩ := Option.map_eq_some_iff.mp hj
      have hm : i ∈ left := List.mem_of_getElem? hi
      refine ⟨_, rfl, _, rfl, _, rfl, a, la, ws, left, i, rfl, L.same s1, s1.seq hl, hlt, h9, hlt i hm, fun H2 s2 => ?_⟩
      have s12 := s1.trans s2
      refine ⟨_, rfl, rfl, _, rfl, ?_⟩
      cases e : KM.own ws left i with
      | nil =>
        refine iteF ⟨_, _, rfl, s12, fun i' hi' => ?_⟩
        rw [List.take_add_one, hi] at hi'
        rcases List.mem_append.mp hi' with z | z
        · exact hown i' z
        · have z' : i' = i := by simpa using z
          rw [z']
          exact e
      | cons x r =>
        refine iteT ⟨_, rfl, _, rfl, by show 2 ≤ sizeLine; decide, fun p hp => ?_⟩
        exact k1 i x hm (by rw [e]; exact fun z => nomatch z) _ p (sameUT s12 hp) upd_same
    · rintro σ H1 ⟨y2, y3, rfl, s1, hown⟩
      have e : left.take (left.map nV).length = left := List.take_of_length_le (by rw [List.length_map]; exact Nat.le_refl _)
      rw [e] at hown
      exact k0 hown H1 s1
end
end K55

namespace K55
open PySem PySem.Spec PyProof.Rows L2 SX
theorem rgV_nat (n : Nat) : rgV 0 (n : Int) = (List.range n).map nV := by
  unfold rgV
  have e : ((n : Int) - 0).toNat = n := by omega
  rw [e]
  refine List.map_congr_left fun i _ => ?_
  show V.int (0 + (i : Int)) = V.int (i : Int)
  rw [Int.zero_add]
theorem rgOk_nat {n : Nat} (h : n ≤ 1000) : RgOk 0 (n : Int) := RgOk.of_le (by omega) (by omega) (by omega) (by omega)
section
variable {P : Program} {w : World} {K : PySem.W.Frag} {mg : Str → Option Value} {base : Heap} {C : Addr}
/-! ### strikes_of -/
abbrev nStrikes : List Str := ["lots", "left", "found", "later", "index"]
theorem scStrikes : FnScope nStrikes ["lots"] (defScope sStrikes) := ⟨rfl, rfl, rfl, by decide +kernel, rfl, by decide +kernel, by decide +kernel⟩
/-- the entries: pairs at their addresses -/
def Ents (H : Hp) (es : List (Addr × Nat × Nat)) : Prop := ∀ e ∈ es, H e.1 = some (.tup [nV e.2.1, sg e.2.2])
def leftOf (n : Nat) (es : List (Addr × Nat × Nat)) : List Nat := (List.range n).filter fun k => decide (k ∉ es.map fun e => e.2.1)
def spStrikes (K : PySem.W.Frag) (C : Addr) : Sp := fun vs H Q _ => ∃ a ws, vs = [.ref a] ∧ LotsAt K C H a ws ∧
  ∀ H' p es, Same H H' → H' p = some (.tup (es.map fun e => V.ref e.1)) → Ents H' es → leftOf ws.length es = KM.core ws → es.length ≤ 9 → Q (.ref p) H'
/-- what stands at the loop's head of strikes_of -/
structure StrikeInv (K : PySem.W.Frag) (C : Addr) (H : Hp) (a : Addr) (ws : KM.Ws) (m : Nat) (σ : L2.St) (H1 : Hp) : Prop where
  ex : ∃ (la fa : Addr) (left : List Nat) (es : List (Addr × Nat × Nat)) (v : V) (y : Option V), σ = [some (.ref a), some (.ref la), some (.ref fa), some v, y] ∧ m = left.length ∧ Same H H1 ∧ H fa = none ∧ la ≠ fa ∧
    H1 la = some (.lst (left.map nV)) ∧ H1 fa = some (.lst (es.map fun e => V.ref e.1)) ∧ Ents H1 es ∧ leftOf ws.length es = left ∧ KM.Keeps ws ws.length left ∧ es.length + left.length ≤ 9 ∧
    ((v = .non ∧ ∀ i ∈ left, KM.own ws left i = []) ∨ ∃ i x p, v = .ref p ∧ i ∈ left ∧ KM.own ws left i ≠ [] ∧ H1 p = some (.tup [nV i, sg x]))
theorem rest_lt {left : List Nat} {i : Nat} (h : i ∈ left) : (KM.rest left i).length < left.length := by
  unfold KM.rest
  apply Nat.lt_of_le_of_ne (List.length_filter_le _ _)
  intro e
  have := KM.filter_same left e i h
  simp at this
theorem leftOf_add (n : Nat) (es : List (Addr × Nat × Nat)) (p : Addr) (i x : Nat) : leftOf n (es ++ [(p, i, x)]) = KM.rest (leftOf n es) i := by
  unfold leftOf KM.rest
  rw [List.filter_filter]
  refine List.filter_congr fun k _ => ?_
  rw [List.map_append, List.map_cons, List.map_nil]
  by_cases h1 : k = i
  · simp [h1]
  · by_cases h2 : k ∈ es.map fun e => e.2.1
    · simp [h1, h2]
    · simp [h1, h2]
theorem ok_strikes {f : Addr} {fd : FuncData} (F : Fun K "strikes_of" "strikes_of" sStrikes f fd) (N : En P w K mg base C) (cN : Cal P w K mg base "next_strike" 4 ["lots", "left"] (spNext K C)) : FnOk P w K mg base CX0 5 f fd ["lots"] (spStrikes K C) := by
  refine F.ok scStrikes (fun vs H Q E h => ?_) (fun cdv A outer s H vs Q E hr h => ?_)
  · obtain ⟨a, ws, rfl, _⟩ := h
    rfl
  · obtain ⟨a, ws, rfl, L, k⟩ := h
    have hr2 : Room 2 _ := hr.mono (by decide)
    refine ⟨_, pss_cons (ps_par rfl scStrikes.nd (i := 1) (j := 2) rfl rfl (by decide) rfl rfl
        (pa_cons (pe_listRg rfl (by rfl) N.nm.list (prg_1 (by rfl) N.nm.range (pe_callB (call_lenLots N hr2) (by rfl) N.nm.len (by decide +kernel) (pa_cons (pv 0) pa_nil)))) (pa_cons (pe_lst pa_nil) pa_nil)) (by rfl))
      (C8.pss_cut (ps_set (i := 3) scStrikes.nd rfl (.inr rfl) (pe_cal cN hr (by rfl) (pa_cons (pv 0) (pa_cons (pv 1) pa_nil))))
      (pss_cons (ps_while PassesOwn.never (pt_cmpR op_notN (pv 3) pe_non (nomark _))
        (pss_cons (ps_expr (pe_bm PySem.F.plainAttrs_list PySem.F.slot_list_append PySem.F.type_list_append mt_append (pv 2) (pa_cons (pv 3) pa_nil)))
        (pss_cons (ps_setLc (i := 1) (own := [("index", 4)]) (g := gName 4) rfl scStrikes.nd rfl rfl (sw_true rfl rfl rfl (by decide +kernel)) (pi_list (pv 1)) (blkOk_by (N := nStrikes) (sc := defScope sStrikes) (by decide +kernel))
          (fun _ _ _ _ _ => pg_name (i := 4) scStrikes.nd rfl (.inl rfl)) (fun _ _ _ _ _ => pts_one (pt_cmpR op_ne (pv 4) (pe_ix (ixT K) (pv 3) pe_int (fun _ _ => rfl)) (nomark _))) (fun _ _ _ _ _ => pv 4))
        (pss_one (ps_set (i := 3) scStrikes.nd rfl (.inr rfl) (pe_cal cN hr (by rfl) (pa_cons (pv 0) (pa_cons (pv 1) pa_nil))))))))
      (pss_one (ps_ret (pe_callTy call_tuple_of (by rfl) N.nm.tuple (by decide +kernel) (pa_cons (pv 2) pa_nil)))))), ?_⟩
    have g := L.good
    have gl : ws.length ≤ 9 := g.2.1
    refine ⟨.ref a, rfl, a, ws, rfl, L, _, rfl, rgOk_nat (by omega), fun la hla => ⟨Nat.zero_le _, fun fa hfa => ⟨_, _, rfl, ?_⟩⟩⟩
    rw [rgV_nat] at hfa ⊢
    have s0 : Same H (upd (upd H la (.lst ((List.range ws.length).map nV))) fa (.lst [])) := sameUT (sameU hla) hfa
    have hlf : la ≠ fa := ne_of_none upd_same hfa
    have hla0 : (upd (upd H la (.lst ((List.range ws.length).map nV))) fa (.lst [])) la = some (.lst ((List.range ws.length).map nV)) := by
      rw [upd_ne hlf, upd_same]
    have hfa0 : H fa = none := by
      rw [upd_ne hlf.symm] at hfa
      exact hfa
    have e0 : leftOf ws.length [] = List.range ws.length := List.filter_eq_self.mpr fun _ _ => by simp
    refine ⟨fun σ H1 => ∃ m, StrikeInv K C H a ws m σ H1, ⟨_, rfl, _, rfl, a, la, ws, List.range ws.length, rfl, L.same s0, SqL.of hla0, fun k hk => List.mem_range.mp hk, by rw [List.length_range]; exact gl, fun h0 H1 s1 => ?_, fun i x hi ho H1 p s1 hp => ?_⟩, ?_⟩
    · exact ⟨_, ⟨la, fa, _, [], _, none, rfl, rfl, s0.trans s1, hfa0, hlf, s1 _ _ hla0, s1 _ _ upd_same, fun e he => by simp at he, e0, KM.Keeps.start ws _, by rw [List.length_range]; exact (by simpa using gl), .inl ⟨rfl, h0⟩⟩⟩
    · exact ⟨_, ⟨la, fa, _, [], _, none, rfl, rfl, s0.trans s1, hfa0, hlf, s1 _ _ hla0, s1 _ _ upd_same, fun e he => by simp at he, e0, KM.Keeps.start ws _, by rw [List.length_range]; exact (by simpa using gl), .inr ⟨i, x, p, rfl, hi, ho, hp⟩⟩⟩
    -- the loop
    rintro σ H1 ⟨m, I1⟩
    refine ⟨fun m σ H1 => StrikeInv K C H a ws m σ H1, ⟨m, I1⟩, ?_⟩
    rintro m σ H1 ⟨la, fa, left, es, v, y, rfl, rfl, s1, hfn, hne, h1, h2, hE, hleft, hK, hlen, hv⟩
    rcases hv with ⟨rfl, hdone⟩ | ⟨i, x, p, rfl, hi, ho, hp⟩
    · -- it ends
      refine ⟨_, rfl, rfl, _, rfl, iteF ?_⟩
      refine ⟨.ref fa, rfl, fa, _, rfl, .inl ⟨SqL.of h2, fun q hq => ?_⟩⟩
      refine k _ q es (sameUT s1 hq) upd_same (fun e he => ?_) ?_ (by omega)
      · rw [upd_ne (ne_of_none (hE e he) hq)]
        exact hE e he
      · rw [hleft]
        exact KM.core_of hK hdone
    · -- one more
      refine ⟨_, rfl, rfl, _, rfl, iteT ⟨fun σ' H' => ∃ m', m' < left.length ∧ StrikeInv K C H a ws m' σ' H', fun _ _ z => z, ?_⟩⟩
      have hpf : p ≠ fa := fun z => by
        rw [z, h2] at hp
        cases hp
      -- found.append(later)
      refine ⟨.ref fa, rfl, .inl ⟨rfl, _, SqL.of h2⟩, .ref p, rfl, fa, _, _, rfl, rfl, h2, ?_, ?_⟩
      · rw [List.length_map]
        exact small1000 (by omega)
      have s2 : Same H (upd H1 fa (.lst ((es.map fun e => V.ref e.1) ++ [V.ref p]))) := sameW s1 hfn
      have h1b : (upd H1 fa (.lst ((es.map fun e => V.ref e.1) ++ [V.ref p]))) la = some (.lst (left.map nV)) := by
        rw [upd_ne hne]
        exact h1
      have hpb : (upd H1 fa (.lst ((es.map fun e => V.ref e.1) ++ [V.ref p]))) p = some (.tup [nV i, sg x]) := by
        rw [upd_ne hpf]
        exact hp
      have h2b : (upd H1 fa (.lst ((es.map fun e => V.ref e.1) ++ [V.ref p]))) fa = some (.lst ((es ++ [(p, i, x)]).map fun e => V.ref e.1)) := by
        rw [upd_same, List.map_append]
        rfl
      have hEb : Ents (upd H1 fa (.lst ((es.map fun e => V.ref e.1) ++ [V.ref p]))) (es ++ [(p, i, x)]) := fun e he => by
        rcases List.mem_append.mp he with z | z
        · have q := hE e z
          rw [upd_ne (fun z2 => by rw [z2, h2] at q; cases q)]
          exact q
        · rw [List.mem_singleton.mp z]
          exact hpb
      generalize (upd H1 fa (.lst ((es.map fun e => V.ref e.1) ++ [V.ref p]))) = H2 at s2 h1b hpb h2b hEb ⊢
      -- left = [..]
      have hlt : ∀ k ∈ left, k < ws.length := hK.lt
      refine ⟨.ref la, rfl, la, rfl, ⟨_, SqL.of h1b⟩, fun D hD => lc_fm (walkL nV left) (fun k => decide (k ≠ i)) nV hD (fun H' s => SqL.of (s _ _ h1b)) (small1000 (by omega)) (fun n H3 K3 hn s k3 => ?_) (fun n H3 K3 hn _ s k3 => ?_) (fun H3 s3 hDl => ?_)⟩
      · refine ⟨nV n, rfl, .ref p, rfl, p, _, 0, nV i, rfl, rfl, SqT.of (s _ _ hpb), atI_nat (j := 0) rfl, rfl, _, rfl, ?_⟩
        rw [ne_ints]
        exact k3 _ (Same.refl _)
      · exact ⟨_, rfl, k3 _ (Same.refl _)⟩
      have hDr : H3 D = some (.lst ((KM.rest left i).map nV)) := hDl
      have s23 := s2.trans s3
      have hK2 : KM.Keeps ws ws.length (KM.rest left i) := hK.filter _ fun j hj hnone => decide_eq_true fun z => ho (z ▸ hnone)
      have hlr := rest_lt hi
      have hDfa : D ≠ fa := fun z => by
        rw [z, h2b] at hD
        cases hD
      have hl2 : leftOf ws.length (es ++ [(p, i, x)]) = KM.rest left i := by rw [leftOf_add, hleft]
      have hEc : Ents H3 (es ++ [(p, i, x)]) := fun e he => s3 _ _ (hEb e he)
      refine ⟨_, rfl, _, rfl, a, D, ws, KM.rest left i, rfl, L.same s23, SqL.of hDr, fun k hk => hlt k (KM.mem_rest.mp hk).1, by omega, fun h0 H4 s4 => ?_, fun i2 x2 hi2 ho2 H4 p2 s4 hp2 => ?_⟩
      · exact ⟨_, hlr, ⟨D, fa, _, es ++ [(p, i, x)], _, _, rfl, rfl, s23.trans s4, hfn, hDfa, s4 _ _ hDr, s4 _ _ (s3 _ _ h2b), fun e he => s4 _ _ (hEc e he), hl2, hK2, by rw [List.length_append]; simp only [List.length_cons, List.length_nil]; omega, .inl ⟨rfl, h0⟩⟩⟩
      · exact ⟨_, hlr, ⟨D, fa, _, es ++ [(p, i, x)], _, _, rfl, rfl, s23.trans s4, hfn, hDfa, s4 _ _ hDr, s4 _ _ (s3 _ _ h2b), fun e he => s4 _ _ (hEc e he), hl2, hK2, by rw [List.length_append]; simp only [List.length_cons, List.length_nil]; omega, .inr ⟨i2, x2, p2, rfl, hi2, ho2, hp2⟩⟩⟩
end
end K55

namespace K55
open PySem PySem.Spec PyProof.Rows L2 SX
abbrev sNarrow : Stmt := topS 24
abbrev sTouch : Stmt := topS 25
section
variable {P : Program} {w : World} {K : PySem.W.Frag} {mg : Str → Option Value} {base : Heap} {C : Addr}
/-! ### core_of -/
abbrev nCoreOf : List Str := ["lots", "struck", "entry", "index"]
theorem scCoreOf : FnScope nCoreOf ["lots"] (defScope sCoreOf) := ⟨rfl, rfl, rfl, by decide +kernel, rfl, by decide +kernel, by decide +kernel⟩
def spCore (K : PySem.W.Frag) (C : Addr) : Sp := fun vs H Q _ => ∃ a ws, vs = [.ref a] ∧ LotsAt K C H a ws ∧ ∀ H' p, Same H H' → H' p = some (.tup ((KM.core ws).map nV)) → Q (.ref p) H'
theorem ok_coreOf {f : Addr} {fd : FuncData} (F : Fun K "core_of" "core_of" sCoreOf f fd) (N : En P w K mg base C) (cS : Cal P w K mg base "strikes_of" 5 ["lots"] (spStrikes K C)) : FnOk P w K mg base CX0 6 f fd ["lots"] (spCore K C) := by
  refine F.ok scCoreOf (fun vs H Q E h => ?_) (fun cdv A outer s H vs Q E hr h => ?_)
  · obtain ⟨a, ws, rfl, _⟩ := h
    rfl
  · obtain ⟨a, ws, rfl, L, k⟩ := h
    have hr2 : Room 2 _ := hr.mono (by decide)
    refine ⟨_, pss_cons (ps_set (i := 1) scCoreOf.nd rfl (.inr rfl) (pe_lc (own := [("entry", 2)]) (g := gName 2) rfl scCoreOf.nd (pi_tup (pe_cal cS hr (by rfl) (pa_cons (pv 0) pa_nil))) (blkOk_by (N := nCoreOf) (sc := defScope sCoreOf) (by decide +kernel))
          (fun _ _ _ _ _ => pg_name (i := 2) scCoreOf.nd rfl (.inl rfl)) (fun _ _ _ _ _ => pts_nil) (fun _ _ _ _ _ => pe_ix (ixT K) (pv 2) pe_int (fun _ _ => rfl))))
      (pss_one (ps_ret (pe_callTy call_tuple_of (by rfl) N.nm.tuple (by decide +kernel) (pa_cons (pe_lc (own := [("index", 3)]) (g := gName 3) rfl scCoreOf.nd
        (pi_range1 (by rfl) N.nm.range (pa_cons (pe_callB (call_lenLots N hr2) (by rfl) N.nm.len (by decide +kernel) (pa_cons (pv 0) pa_nil)) pa_nil)) (blkOk_by (N := nCoreOf) (sc := defScope sCoreOf) (by decide +kernel))
          (fun _ _ _ _ _ => pg_name (i := 3) scCoreOf.nd rfl (.inl rfl)) (fun _ _ _ _ _ => pts_one (pt_cmpR (ninS K) (pv 3) (pv 1) (by rfl))) (fun _ _ _ _ _ => pv 3)) pa_nil)))), ?_⟩
    have gl : ws.length ≤ 9 := L.good.2.1
    refine ⟨_, rfl, a, ws, rfl, L, fun H1 p es s1 hp hE hc h9 => ⟨p, rfl, ⟨_, SqT.of hp⟩, fun D hD => lc_m (walkT (fun e : Addr × Nat × Nat => V.ref e.1) es) (fun e => nV e.2.1) hD (fun H' s => SqT.of (s _ _ hp)) (small1000 (by omega)) (fun e H2 K2 he s k2 => ?_) (fun H2 s2 hDl => ?_)⟩⟩
    · exact ⟨_, rfl, e.1, _, 0, nV e.2.1, rfl, rfl, SqT.of (s _ _ (hE e he)), atI_nat (j := 0) rfl, k2 _ (Same.refl _)⟩
    have s12 := s1.trans s2
    have hDi : H2 D = some (.lst ((es.map fun e => e.2.1).map nV)) := by
      rw [hDl, List.map_map]
      rfl
    refine ⟨.ref a, rfl, a, ws, rfl, L.same s12, _, rfl, by omega, by omega, fun D2 hD2 => lc_fm (walkR ws.length) (fun k => decide (k ∉ es.map fun e => e.2.1)) nI hD2 (fun _ _ => trivial) (by rw [List.length_range]; exact small1000 (by omega)) (fun n H3 K3 hn s k3 => ?_) (fun n H3 K3 hn _ s k3 => ?_) (fun H3 s3 hDl3 => ?_)⟩
    · refine ⟨_, rfl, _, rfl, D, _, rfl, .inl (SqL.of (s _ _ hDi)), rfl, flat_ints _, _, rfl, ?_⟩
      show K3 (!inV (nV n) ((es.map fun e => e.2.1).map nV)) H3
      rw [in_ints, ← decide_not]
      exact k3 _ (Same.refl _)
    · exact ⟨_, rfl, k3 _ (Same.refl _)⟩
    have hc3 : H3 D2 = some (.lst ((KM.core ws).map nV)) := by
      rw [hDl3, ← hc]
      rfl
    exact ⟨D2, _, rfl, .inl ⟨SqL.of hc3, fun q hq => k _ q (sameUT (s12.trans s3) hq) upd_same⟩⟩
/-! ### core -/
theorem scCore : FnScope ["lots"] ["lots"] (defScope sCore) := ⟨rfl, rfl, rfl, by decide +kernel, rfl, by decide +kernel, by decide +kernel⟩
theorem ok_core {f : Addr} {fd : FuncData} (F : Fun K "core" "core" sCore f fd) (cK : Cal P w K mg base "check_lots" 1 ["value"] (spCheckLots K C)) (cS : Cal P w K mg base "core_of" 6 ["lots"] (spCore K C)) : FnOk P w K mg base CX0 7 f fd ["lots"] (spCore K C) := by
  refine F.ok scCore (fun vs H Q E h => ?_) (fun cdv A outer s H vs Q E hr h => ?_)
  · obtain ⟨a, ws, rfl, _⟩ := h
    rfl
  · obtain ⟨a, ws, rfl, L, k⟩ := h
    refine ⟨_, pss_cons (ps_expr (pe_cal cK (hr.mono (by decide)) (by rfl) (pa_cons (pv 0) pa_nil))) (pss_one (ps_ret (pe_cal cS hr (by rfl) (pa_cons (pv 0) pa_nil)))), ?_⟩
    exact ⟨_, rfl, a, ws, rfl, L, _, rfl, a, ws, rfl, L, k⟩
/-! ### check_narrow -/
theorem scNarrow : FnScope ["lots", "word"] ["lots"] (defScope sNarrow) := ⟨rfl, rfl, rfl, by decide +kernel, rfl, by decide +kernel, by decide +kernel⟩
theorem ok_narrow {f : Addr} {fd : FuncData} (F : Fun K "check_narrow" "check_narrow" sNarrow f fd) (N : En P w K mg base C) (cK : Cal P w K mg base "check_lots" 1 ["value"] (spCheckLots K C)) : FnOk P w K mg base CX0 3 f fd ["lots"] (spCheckLots K C) := by
  refine F.ok scNarrow (fun vs H Q E h => ?_) (fun cdv A outer s H vs Q E hr h => ?_)
  · obtain ⟨a, ws, rfl, _⟩ := h
    rfl
  · obtain ⟨a, ws, rfl, L, k⟩ := h
    refine ⟨_, pss_cons (ps_expr (pe_cal cK (hr.mono (by decide)) (by rfl) (pa_cons (pv 0) pa_nil)))
      (pss_one (ps_for PassesOwn.never rfl (pi_tup (pe_lots N hr (pv 0))) (pg_name (i := 1) scNarrow.nd rfl (.inl rfl))
        (pss_one (ps_if (pt_cmpR op_gt (pe_callB call_len_str (by rfl) N.nm.len (by decide +kernel) (pa_cons (pv 1) pa_nil)) pe_int (nomark _)) pss_never pss_nil)))), ?_⟩
    have g := L.good
    refine ⟨_, rfl, a, ws, rfl, L, _, rfl, a, ws, rfl, L, fun wa hwa => ⟨wa, rfl, ⟨_, hwa⟩, for_tup (K := K) (a := wa) (xs := ws.map wS) (fun j σ H1 => ∃ y, σ = [some (.ref a), y] ∧ H1 = H) ⟨none, rfl, rfl⟩ (fun j σ H1 _ ⟨_, _, e⟩ => by rw [e]; exact hwa) ?_ ?_⟩⟩
    · rintro j x σ H1 hj ⟨y, rfl, rfl⟩
      rw [List.getElem?_map] at hj
      obtain ⟨wd, hwd, rfl⟩ := Option.map_eq_some_iff.mp hj
      have h2 := (g.2.2.1 wd (List.mem_of_getElem? hwd)).2
      refine ⟨_, rfl, S wd, rfl, by rw [S_len]; exact Nat.le_of_lt (small1000 (by omega)), _, _, rfl, rfl, _, rfl, ?_⟩
      rw [S_len, decide_eq_false (by omega)]
      exact iteF ⟨_, rfl, rfl⟩
    · rintro σ H1 ⟨y, rfl, rfl⟩
      exact k
/-! ### touch -/
abbrev nTouch : List Str := ["lots", "index", "other", "thing"]
theorem scTouch : FnScope nTouch ["lots", "index", "other"] (defScope sTouch) := ⟨rfl, rfl, rfl, by decide +kernel, rfl, by decide +kernel, by decide +kernel⟩
def touchB (ws : KM.Ws) (i j : Nat) : Bool := (KM.wd ws i).any fun x => decide (x ∈ KM.wd ws j)
def spTouch (K : PySem.W.Frag) (C : Addr) : Sp := fun vs H Q _ => ∃ a ws i j, vs = [.ref a, nV i, nV j] ∧ LotsAt K C H a ws ∧ i < ws.length ∧ j < ws.length ∧ ∀ H', Same H H' → Q (.bl (touchB ws i j)) H'
theorem ok_touch {f : Addr} {fd : FuncData} (F : Fun K "touch" "touch" sTouch f fd) (N : En P w K mg base C) : FnOk P w K mg base CX0 3 f fd ["lots", "index", "other"] (spTouch K C) := by
  refine F.ok scTouch (fun vs H Q E h => ?_) (fun cdv A outer s H vs Q E hr h => ?_)
  · obtain ⟨a, ws, i, j, rfl, _⟩ := h
    rfl
  · obtain ⟨a, ws, i, j, rfl, L, hi, hj, k⟩ := h
    refine ⟨_, pss_one (ps_ret (pe_callB (anyC K rfl) (by rfl) N.nm.any (by decide +kernel) (pa_cons (pe_lc (own := [("thing", 3)]) (g := gName 3) rfl scTouch.nd (pi_str (pe_ix (ixT K) (pe_lots N hr (pv 0)) (pv 1) (fun _ _ => rfl))) (blkOk_by (N := nTouch) (sc := defScope sTouch) (by decide +kernel))
          (fun _ _ _ _ _ => pg_name (i := 3) scTouch.nd rfl (.inl rfl)) (fun _ _ _ _ _ => pts_nil) (fun _ _ _ _ _ => pe_cmpR op_in_sign (pv 3) (pe_ix (ixT K) (pe_lots N hr (pv 0)) (pv 2) (fun _ _ => rfl)) (by rfl))) pa_nil))), ?_⟩
    refine rd_word (i := 0) (j := 1) rfl L rfl hi ⟨_, rfl, fun D hD => lc_m (walkS (KM.wd ws i)) (fun c => V.bl (decide (c ∈ KM.wd ws j))) hD (fun _ _ => trivial) (small1000 (by have := wd_le L.good i; omega)) (fun n H2 K2 hn s k2 => ?_) (fun H2 s2 hDl => ?_)⟩
    · exact ⟨_, rfl, rd_word (i := 0) (j := 2) rfl (L.same s) rfl hj ⟨n, _, rfl, rfl, k2 _ (Same.refl _)⟩⟩
    refine ⟨D, (KM.wd ws i).map fun c => decide (c ∈ KM.wd ws j), rfl, SqL.of ?_, ?_⟩
    · rw [hDl, List.map_map]
      rfl
    · have e : ((KM.wd ws i).map fun c => decide (c ∈ KM.wd ws j)).any id = touchB ws i j := by
        unfold touchB
        rw [List.any_map]
        rfl
      rw [e]
      exact k _ s2
end
end K55

namespace K55
open PySem PySem.Spec PyProof.Rows L2 SX
abbrev sGrown : Stmt := topS 26
abbrev sPartsOf : Stmt := topS 27
abbrev sJoined : Stmt := topS 28
/-- the scope of a comprehension; a returned expression -/
def lcScope : Expr → Scope
  | .ListComp _ _ sc _ => sc
  | _ => { kind := .function, names := [], isGenerator := false, isCoroutine := false }
def retE : Stmt → Expr
  | .Return (some e) _ => e
  | _ => .Constant .none 0 ⟨0, 0, 0, 0⟩
section
variable {P : Program} {w : World} {K : PySem.W.Frag} {mg : Str → Option Value} {base : Heap} {C : Addr}
/-! ### grown -/
abbrev nGrown : List Str := ["lots", "part", "left", "index", "other"]
theorem scGrown : FnScope nGrown ["lots", "part", "left"] (defScope sGrown) := ⟨rfl, rfl, rfl, by decide +kernel, rfl, by decide +kernel, by decide +kernel⟩
def spGrown (K : PySem.W.Frag) (C : Addr) : Sp := fun vs H Q _ => ∃ a pa la ws part left, vs = [.ref a, .ref pa, .ref la] ∧ LotsAt K C H a ws ∧ SqL K H pa (part.map nV) ∧ SqL K H la (left.map nV) ∧ (∀ k ∈ part, k < ws.length) ∧ (∀ k ∈ left, k < ws.length) ∧
  part.length ≤ 9 ∧ left.length ≤ 9 ∧ ∀ H' D, Same H H' → H D = none → H' D = some (.lst ((KM.grow ws left part).map nV)) → Q (.ref D) H'
theorem hits_eq {ws : KM.Ws} (g : GoodWs ws) {part : List Nat} {k : Nat} (hk : k < ws.length) : (decide (k ∈ part) || part.any (touchB ws k)) = KM.hits ws part k := by
  have hne : KM.wd ws k ≠ [] := fun z => by
    have h1 := wd_ge g hk
    rw [z] at h1
    exact absurd h1 (by decide)
  rw [Bool.eq_iff_iff]
  unfold KM.hits touchB
  rw [Bool.or_eq_true, decide_eq_true_eq, decide_eq_true_eq, List.any_eq_true]
  constructor
  · rintro (h | ⟨j, hj, h⟩)
    · obtain ⟨x, r, e⟩ := List.exists_cons_of_ne_nil hne
      have hx : x ∈ KM.wd ws k := by rw [e]; exact List.mem_cons_self
      exact ⟨x, hx, KM.mem_seen.mpr ⟨k, h, hx⟩⟩
    · obtain ⟨x, hx, hd⟩ := List.any_eq_true.mp h
      exact ⟨x, hx, KM.mem_seen.mpr ⟨j, hj, of_decide_eq_true hd⟩⟩
  · rintro ⟨x, hx, hs⟩
    obtain ⟨j, hj, hxj⟩ := KM.mem_seen.mp hs
    exact .inr ⟨j, hj, List.any_eq_true.mpr ⟨x, hx, decide_eq_true hxj⟩⟩
theorem ok_grown {f : Addr} {fd : FuncData} (F : Fun K "grown" "grown" sGrown f fd) (N : En P w K mg base C) (cT : Cal P w K mg base "touch" 3 ["lots", "index", "other"] (spTouch K C)) : FnOk P w K mg base CX0 4 f fd ["lots", "part", "left"] (spGrown K C) := by
  refine F.ok scGrown (fun vs H Q E h => ?_) (fun cdv A outer s H vs Q E hr h => ?_)
  · obtain ⟨a, pa, la, ws, part, left, rfl, _⟩ := h
    rfl
  · obtain ⟨a, pa, la, ws, part, left, rfl, L, hp, hl, hpl, hll, hp9, hl9, k⟩ := h
    refine ⟨_, pss_one (ps_ret (pe_lc (own := [("index", 3)]) (g := gName 3) rfl scGrown.nd (pi_list (pv 2)) (blkOk_by (N := nGrown) (sc := defScope sGrown) (by decide +kernel)) (fun _ _ _ _ _ => pg_name (i := 3) scGrown.nd rfl (.inr rfl))
        (fun _ _ _ _ _ => pts_one (PW.pt (pw_or (pt_cmpR (inS K) (pv 3) (pv 1) (by rfl)) (pw_or1 (pt_val (pe_callB (anyC K rfl) (by rfl) N.nm.any (by decide +kernel)
          (pa_cons (pe_lc (own := [("other", 4)]) (g := gName 4) rfl scGrown.nd (piL K (pv 1)) (blkOk_by (N := nGrown) (sc := relS (lcScope (retE ((defBody sGrown).getD 0 (.Pass ⟨0, 0, 0, 0⟩)))) (defScope sGrown)) (by decide +kernel)) (fun _ _ _ _ _ => pg_name (i := 4) scGrown.nd rfl (.inl rfl))
            (fun _ _ _ _ _ => pts_nil) (fun _ _ _ _ _ => pe_cal cT hr (by rfl) (pa_cons (pv 0) (pa_cons (pv 3) (pa_cons (pv 4) pa_nil))))) pa_nil)))))))
        (fun _ _ _ _ _ => pv 3))), ?_⟩
    refine ⟨_, rfl, la, rfl, ⟨_, hl⟩, fun D hD => lc_fm (walkL nV left) (fun k => decide (k ∈ part) || part.any (touchB ws k)) nV hD (fun H' s => s.seq hl) (small1000 (by omega)) (fun n H2 K2 hn s k2 => ?_) (fun n H2 K2 hn _ s k2 => ?_) (fun H2 s2 hDl => ?_)⟩
    · refine ⟨_, rfl, _, rfl, pa, _, rfl, .inl (s.seq hp), rfl, flat_ints _, _, rfl, ?_⟩
      show if inV (nV n) (part.map nV) = true then _ else _
      rw [in_ints]
      by_cases hin : n ∈ part
      · rw [decide_eq_true hin]
        refine iteT ?_
        have q := k2 H2 (Same.refl _)
        rw [decide_eq_true hin, Bool.true_or] at q
        exact q
      · rw [decide_eq_false hin]
        refine iteF ?_
        refine ⟨.ref pa, rfl, pa, rfl, ⟨_, s.seq hp⟩, fun D3 hD3 => lc_m (walkL nV part) (fun j => V.bl (touchB ws n j)) hD3 (fun H' s' => s'.seq (s.seq hp)) (small1000 (by omega)) (fun j H4 K4 hj s4 k4 => ?_) (fun H4 s4 hD4 => ?_)⟩
        · exact ⟨_, rfl, _, rfl, _, rfl, a, ws, n, j, rfl, (L.same s).same s4, hll n hn, hpl j hj, k4⟩
        refine ⟨D3, part.map (touchB ws n), rfl, SqL.of ?_, _, rfl, ?_⟩
        · rw [hD4, List.map_map]
          rfl
        · have q := k2 H4 s4
          rw [decide_eq_false hin, Bool.false_or] at q
          have e : (part.map (touchB ws n)).any id = part.any (touchB ws n) := by
            rw [List.any_map]
            rfl
          rw [e]
          exact q
    · exact ⟨_, rfl, k2 _ (Same.refl _)⟩
    refine k H2 D s2 hD ?_
    rw [hDl]
    have e : left.filter (fun k => decide (k ∈ part) || part.any (touchB ws k)) = KM.grow ws left part := List.filter_congr fun j hj => hits_eq L.good (hll j hj)
    rw [e]
end
end K55

namespace K55
open PySem PySem.Spec PyProof.Rows L2 SX
theorem wd_ne {ws : KM.Ws} (g : GoodWs ws) {k : Nat} (h : k < ws.length) : KM.wd ws k ≠ [] := fun z => by
  have h1 := wd_ge g h
  rw [z] at h1
  exact absurd h1 (by decide)
theorem joined_perm {ws : KM.Ws} (g : GoodWs ws) : (KM.joined ws).flatten.Perm (KM.core ws) :=
  KM.parts_perm _ _ (fun k hk => wd_ne g ((KM.core_keeps ws).lt k hk)) g.1 (KM.core_keeps ws).len
theorem joined_in {ws : KM.Ws} (g : GoodWs ws) : ∀ p ∈ KM.joined ws, p.length ≤ 9 ∧ ∀ k ∈ p, k < ws.length := fun p hp => by
  have hP := joined_perm g
  have hc := (KM.core_keeps ws).len
  have g2 := g.2.1
  constructor
  · have h1 : p.length ≤ (KM.joined ws).flatten.length := by
      exact (List.sublist_flatten_of_mem hp).length_le
    rw [hP.length_eq] at h1
    omega
  · intro k hk
    exact (KM.core_keeps ws).lt k (hP.mem_iff.mp (List.mem_flatten.mpr ⟨p, hp, hk⟩))
def prevIt (ws : KM.Ws) (left : List Nat) (a : Nat) : Nat → List Nat
  | 0 => []
  | k + 1 => KM.it ws left a k
theorem prevIt_sub {ws : KM.Ws} {left : List Nat} {a : Nat} (ha : a ∈ left) : ∀ i k, k ∈ prevIt ws left a i → k ∈ left
  | 0, k, h => by cases h
  | i + 1, k, h => KM.it_sub ha i k h
def PartsAt (H : Hp) (ps : List (Addr × List Nat)) : Prop := ∀ e ∈ ps, H e.1 = some (.tup (e.2.map nV))
theorem PartsAt.same {H H' : Hp} {ps : List (Addr × List Nat)} (h : PartsAt H ps) (s : Same H H') : PartsAt H' ps := fun e he => s _ _ (h e he)
abbrev refsOf (ps : List (Addr × List Nat)) : List V := ps.map fun e => V.ref e.1
section
variable {P : Program} {w : World} {K : PySem.W.Frag} {mg : Str → Option Value} {base : Heap} {C : Addr}
/-! ### parts_of -/
abbrev nParts : List Str := ["lots", "left", "found", "part", "later", "index"]
theorem scParts : FnScope nParts ["lots"] (defScope sPartsOf) := ⟨rfl, rfl, rfl, by decide +kernel, rfl, by decide +kernel, by decide +kernel⟩
def spParts (K : PySem.W.Frag) (C : Addr) : Sp := fun vs H Q _ => ∃ a ws, vs = [.ref a] ∧ LotsAt K C H a ws ∧
  ∀ H' p ps, Same H H' → H' p = some (.lst (refsOf ps)) → PartsAt H' ps → ps.map (·.2) = KM.joined ws → ps.length ≤ 9 → Q (.ref p) H'
structure PartsInv (H : Hp) (a : Addr) (ws : KM.Ws) (m : Nat) (σ : L2.St) (H1 : Hp) : Prop where
  ex : ∃ (la fa : Addr) (left : List Nat) (ps : List (Addr × List Nat)) (y3 y4 y5 : Option V), σ = [some (.ref a), some (.ref la), some (.ref fa), y3, y4, y5] ∧ m = left.length ∧ Same H H1 ∧ H fa = none ∧ la ≠ fa ∧
    H1 la = some (.lst (left.map nV)) ∧ H1 fa = some (.lst (refsOf ps)) ∧ PartsAt H1 ps ∧ ps.map (·.2) ++ KM.parts ws left.length left = KM.joined ws ∧ (∀ k ∈ left, k < ws.length) ∧ left.length ≤ ws.length ∧ ps.length + left.length ≤ 9
structure GrowInv (H2 : Hp) (a la fa : Addr) (ws : KM.Ws) (left : List Nat) (a0 : Nat) (m : Nat) (σ : L2.St) (H1 : Hp) : Prop where
  ex : ∃ (pa na : Addr) (i : Nat) (y5 : Option V), σ = [some (.ref a), some (.ref la), some (.ref fa), some (.ref pa), some (.ref na), y5] ∧ m = left.length + 2 - i ∧ Same H2 H1 ∧ pa ≠ fa ∧ na ≠ fa ∧
    H1 pa = some (.lst ((prevIt ws left a0 i).map nV)) ∧ H1 na = some (.lst ((KM.it ws left a0 i).map nV)) ∧ ∀ j, j + 1 < i → KM.it ws left a0 j ≠ KM.it ws left a0 (j + 1)
theorem ok_parts {f : Addr} {fd : FuncData} (F : Fun K "parts_of" "parts_of" sPartsOf f fd) (N : En P w K mg base C) (cC : Cal P w K mg base "core_of" 6 ["lots"] (spCore K C)) (cG : Cal P w K mg base "grown" 4 ["lots", "part", "left"] (spGrown K C)) : FnOk P w K mg base CX0 7 f fd ["lots"] (spParts K C) := by
  refine F.ok scParts (fun vs H Q E h => ?_) (fun cdv A outer s H vs Q E hr h => ?_)
  · obtain ⟨a, ws, rfl, _⟩ := h
    rfl
  · obtain ⟨a, ws, rfl, L, k⟩ := h
    refine ⟨_, pss_cons (ps_par rfl scParts.nd (i := 1) (j := 2) rfl rfl (by decide) rfl rfl
        (pa_cons (pe_callTy call_list_of (by rfl) N.nm.list (by decide +kernel) (pa_cons (pe_cal cC hr (by rfl) (pa_cons (pv 0) pa_nil)) pa_nil)) (pa_cons (pe_lst pa_nil) pa_nil)) (by rfl))
      (pss_cons (ps_while PassesOwn.never (pt_cmpR (neD K hr.units) (pv 1) (pe_lst pa_nil) (nomark _))
        (pss_cons (ps_asg (pe_tup (pa_cons (pe_lst pa_nil) (pa_cons (pe_slice sl_list (pv 1) po_none (po_some pe_int)) pa_nil))) (pg_tup rfl (pgs_cons (pg_name (i := 3) scParts.nd rfl (.inr rfl)) (pgs_cons (pg_name (i := 4) scParts.nd rfl (.inl rfl)) pgs_nil))))
        (pss_cons (ps_while PassesOwn.never (pt_cmpR (neD K hr.units) (pv 4) (pv 3) (nomark _))
          (pss_one (ps_asg (pe_tup (pa_cons (pv 4) (pa_cons (pe_cal cG (hr.mono (by decide)) (by rfl) (pa_cons (pv 0) (pa_cons (pv 4) (pa_cons (pv 1) pa_nil)))) pa_nil))) (pg_tup rfl (pgs_cons (pg_name (i := 3) scParts.nd rfl (.inr rfl)) (pgs_cons (pg_name (i := 4) scParts.nd rfl (.inl rfl)) pgs_nil))))))
        (pss_cons (ps_expr (pe_bm PySem.F.plainAttrs_list PySem.F.slot_list_append PySem.F.type_list_append mt_append (pv 2) (pa_cons (pe_callTy call_tuple_of (by rfl) N.nm.tuple (by decide +kernel) (pa_cons (pv 3) pa_nil)) pa_nil)))
        (pss_one (ps_setLc (i := 1) (own := [("index", 5)]) (g := gName 5) rfl scParts.nd rfl rfl (sw_true rfl rfl rfl (by decide +kernel)) (pi_list (pv 1)) (blkOk_by (N := nParts) (sc := defScope sPartsOf) (by decide +kernel))
          (fun _ _ _ _ _ => pg_name (i := 5) scParts.nd rfl (.inl rfl)) (fun _ _ _ _ _ => pts_one (pt_cmpR (ninS K) (pv 5) (pv 3) (by rfl))) (fun _ _ _ _ _ => pv 5)))))))
      (pss_one (ps_ret (pv 2)))), ?_⟩
    have g := L.good
    have g9 := g.2.1
    refine ⟨.ref a, rfl, a, ws, rfl, L, fun H1 p s1 hp => ⟨p, _, rfl, .inr (SqT.of hp), fun la hla => ⟨Nat.zero_le _, fun fa hfa => ⟨_, _, rfl, ?_⟩⟩⟩⟩
    have hlf : la ≠ fa := ne_of_none upd_same hfa
    have s2 : Same H (upd (upd H1 la (.lst ((KM.core ws).map nV))) fa (.lst [])) := sameUT (sameUT s1 hla) hfa
    have hla0 : (upd (upd H1 la (.lst ((KM.core ws).map nV))) fa (.lst [])) la = some (.lst ((KM.core ws).map nV)) := by
      rw [upd_ne hlf, upd_same]
    have hfa1 : H1 fa = none := by
      rw [upd_ne hlf.symm] at hfa
      exact hfa
    have hfa0 : H fa = none := by
      cases e : H fa with
      | none => rfl
      | some o =>
        rw [s1 _ _ e] at hfa1
        cases hfa1
    have kk := KM.core_keeps ws
    have kl := kk.len
    refine ⟨fun m σ H1 => PartsInv H a ws m σ H1, ⟨_, ⟨la, fa, KM.core ws, [], none, none, none, rfl, rfl, s2, hfa0, hlf, hla0, upd_same, fun e he => (by cases he), ?_, kk.lt, kl, by simpa using Nat.le_trans kl g9⟩⟩, ?_⟩
    · show [] ++ KM.parts ws (KM.core ws).length (KM.core ws) = KM.parts ws ws.length (KM.core ws)
      rw [List.nil_append]
      exact KM.parts_fuel _ _ _ (fun k hk => wd_ne g (kk.lt k hk)) (Nat.le_refl _) kl
    rintro m σ H2 ⟨la, fa, left, ps, y3, y4, y5, rfl, rfl, s3, hfn, hne, h1, h2, hP, hj, hlt, hll, h9⟩
    refine ⟨.ref la, rfl, Nat.zero_le _, fun ep hep => ?_⟩
    have s4 := sameUT (o := .lst []) s3 hep
    have hE := sameU (o := .lst []) hep
    refine ⟨dL left, .list [], dp_ints (SqL.of (hE _ _ h1)), .lst (SqL.of upd_same) .nil, shaped_dL _, shaped_nil, _, rfl, ?_⟩
    rw [eqv_nil]
    cases left with
    | nil =>
      rw [decide_eq_true rfl]
      refine iteF ⟨_, rfl, k _ fa ps s4 (hE _ _ h2) (hP.same hE) ?_ (by simpa using h9)⟩
      rw [KM.parts_nil, List.append_nil] at hj
      exact hj
    | cons a0 r =>
      rw [decide_eq_false (fun z => nomatch z)]
      have ha : a0 ∈ a0 :: r := List.mem_cons_self
      have hw : ∀ k ∈ a0 :: r, KM.wd ws k ≠ [] := fun k hk => wd_ne g (hlt k hk)
      refine iteT ⟨fun σ' H' => ∃ m', m' < (a0 :: r).length ∧ PartsInv H a ws m' σ' H', fun _ _ z => z, ?_⟩
      -- part, later = [], left[:1]
      generalize eH : upd H2 ep (.lst []) = H3 at s4 hE ⊢
      have h1b := hE _ _ h1
      have h2b := hE _ _ h2
      have hPb := hP.same hE
      refine ⟨Nat.zero_le _, fun pa hpa => ⟨.ref la, rfl, _, rfl, la, _, rfl, SqL.of (sameU hpa _ _ h1b), fun na hna => ?_⟩⟩
      have hnp : na ≠ pa := fun z => by
        rw [z, upd_same] at hna
        cases hna
      have hpf : pa ≠ fa := fun z => by
        rw [z, h2b] at hpa
        cases hpa
      have hnf : na ≠ fa := fun z => by
        rw [z, sameU hpa _ _ h2b] at hna
        cases hna
      refine ⟨by show 2 ≤ sizeLine; decide, fun tp htp => ?_⟩
      have s5 : Same H3 (upd (upd (upd H3 pa (.lst [])) na (.lst (cutV ((a0 :: r).map nV) none (some 1)))) tp (.tup [.ref pa, .ref na])) := sameUT (sameUT (sameU hpa) hna) htp
      have hpa5 : (upd (upd (upd H3 pa (.lst [])) na (.lst (cutV ((a0 :: r).map nV) none (some 1)))) tp (.tup [.ref pa, .ref na])) pa = some (.lst []) := sameU htp _ _ (sameU hna _ _ upd_same)
      have hna5 : (upd (upd (upd H3 pa (.lst [])) na (.lst (cutV ((a0 :: r).map nV) none (some 1)))) tp (.tup [.ref pa, .ref na])) na = some (.lst ([a0].map nV)) := by
        refine (sameU htp _ _ upd_same).trans ?_
        have e : cutV ((a0 :: r).map nV) none (some 1) = [a0].map nV := by
          unfold cutV
          rw [HT.sIx_none, show (some (1 : Int)) = some ((1 : Nat) : Int) from rfl, HT.sIx_nat, List.length_map, List.length_cons, Nat.min_eq_left (by omega)]
          rfl
        rw [e]
      have htp5 : (upd (upd (upd H3 pa (.lst [])) na (.lst (cutV ((a0 :: r).map nV) none (some 1)))) tp (.tup [.ref pa, .ref na])) tp = some (.tup [.ref pa, .ref na]) := upd_same
      generalize (upd (upd (upd H3 pa (.lst [])) na (.lst (cutV ((a0 :: r).map nV) none (some 1)))) tp (.tup [.ref pa, .ref na])) = H5 at s5 hpa5 hna5 htp5 ⊢
      refine ⟨tp, _, rfl, SqT.of htp5, rfl, _, _, rfl, _, _, rfl, rfl, ?_⟩
      -- the inner loop
      refine ⟨fun m σ H1 => GrowInv H5 a la fa ws (a0 :: r) a0 m σ H1, ⟨_, ⟨pa, na, 0, y5, rfl, rfl, Same.refl _, hpf, hnf, hpa5, hna5, fun j hj => by omega⟩⟩, ?_⟩
      clear hpf hnf hna hpa hnp hpa5 hna5 htp5 htp tp pa na
      rintro m σ H6 ⟨pa, na, i, y5, rfl, rfl, s6, hpf, hnf, hpa, hna, hb⟩
      have s36 := s5.trans s6
      refine ⟨.ref na, rfl, .ref pa, rfl, _, _, dp_ints (SqL.of hna), dp_ints (SqL.of hpa), shaped_dL _, shaped_dL _, _, rfl, ?_⟩
      rw [eqv_dL]
      by_cases hq : KM.it ws (a0 :: r) a0 i = prevIt ws (a0 :: r) a0 i
      · rw [decide_eq_true hq]
        refine iteF ?_
        have hc : prevIt ws (a0 :: r) a0 i = KM.comp ws (a0 :: r) a0 := by
          cases i with
          | zero => exact absurd hq (fun z => nomatch z)
          | succ j => exact (hq.symm.trans (KM.comp_of hw ha hll (fun j' hj' => hb j' (by omega)) hq.symm))
        rw [hc] at hpa
        have h1c := s36 _ _ h1b
        have h2c := s36 _ _ h2b
        have hPc := hPb.same s36
        have s06 := s4.trans s36
        have hr9 : (a0 :: r).length = r.length + 1 := rfl
        refine ⟨.ref fa, rfl, .inl ⟨rfl, _, SqL.of h2c⟩, .ref pa, rfl, pa, _, rfl, .inl ⟨SqL.of hpa, fun tq htq => ⟨fa, _, _, rfl, rfl, sameU htq _ _ h2c, ?_, ?_⟩⟩⟩
        · rw [List.length_map]
          exact small1000 (by omega)
        have hqf : tq ≠ fa := fun z => by
          rw [z, h2c] at htq
          cases htq
        have s8 : Same H (upd (upd H6 tq (.tup ((KM.comp ws (a0 :: r) a0).map nV))) fa (.lst (refsOf ps ++ [.ref tq]))) := sameW (sameUT s06 htq) hfn
        have h1d : (upd (upd H6 tq (.tup ((KM.comp ws (a0 :: r) a0).map nV))) fa (.lst (refsOf ps ++ [.ref tq]))) la = some (.lst ((a0 :: r).map nV)) := by
          rw [upd_ne hne]
          exact sameU htq _ _ h1c
        have hpd : (upd (upd H6 tq (.tup ((KM.comp ws (a0 :: r) a0).map nV))) fa (.lst (refsOf ps ++ [.ref tq]))) pa = some (.lst ((KM.comp ws (a0 :: r) a0).map nV)) := by
          rw [upd_ne hpf]
          exact sameU htq _ _ hpa
        have h2d : (upd (upd H6 tq (.tup ((KM.comp ws (a0 :: r) a0).map nV))) fa (.lst (refsOf ps ++ [.ref tq]))) fa = some (.lst (refsOf (ps ++ [(tq, KM.comp ws (a0 :: r) a0)]))) := by
          rw [upd_same]
          unfold refsOf
          rw [List.map_append]
          rfl
        have hPd : PartsAt (upd (upd H6 tq (.tup ((KM.comp ws (a0 :: r) a0).map nV))) fa (.lst (refsOf ps ++ [.ref tq]))) (ps ++ [(tq, KM.comp ws (a0 :: r) a0)]) := fun e he => by
          rcases List.mem_append.mp he with z | z
          · have q := sameU (o := .tup ((KM.comp ws (a0 :: r) a0).map nV)) htq _ _ (hPc e z)
            rw [upd_ne (fun z2 => by rw [z2, sameU htq _ _ h2c] at q; cases q)]
            exact q
          · rw [List.mem_singleton.mp z]
            show (upd (upd H6 tq (.tup ((KM.comp ws (a0 :: r) a0).map nV))) fa (.lst (refsOf ps ++ [.ref tq]))) tq = _
            rw [upd_ne hqf, upd_same]
        generalize (upd (upd H6 tq (.tup ((KM.comp ws (a0 :: r) a0).map nV))) fa (.lst (refsOf ps ++ [.ref tq]))) = H8 at s8 h1d hpd h2d hPd ⊢
        refine ⟨.ref la, rfl, la, rfl, ⟨_, SqL.of h1d⟩, fun D hD => lc_fm (walkL nV (a0 :: r)) (fun k => decide (k ∉ KM.comp ws (a0 :: r) a0)) nV hD (fun H' s => SqL.of (s _ _ h1d)) (small1000 (by omega)) (fun n H9 K9 hn s k9 => ?_) (fun n H9 K9 hn _ s k9 => ?_) (fun H9 s9 hDl => ?_)⟩
        · refine ⟨_, rfl, _, rfl, pa, _, rfl, .inl (SqL.of (s _ _ hpd)), rfl, flat_ints _, _, rfl, ?_⟩
          show K9 (!inV (nV n) ((KM.comp ws (a0 :: r) a0).map nV)) H9
          rw [in_ints, ← decide_not]
          exact k9 _ (Same.refl _)
        · exact ⟨_, rfl, k9 _ (Same.refl _)⟩
        have hDf : D ≠ fa := fun z => by
          rw [z, h2d] at hD
          cases hD
        have hl := KM.less (c := KM.comp ws (a0 :: r) a0) ha (KM.it_mem hw ha _)
        refine ⟨_, hl, ⟨D, fa, _, _, _, _, _, rfl, rfl, s8.trans s9, hfn, hDf, hDl, s9 _ _ h2d, hPd.same s9, ?_, fun k hk => hlt k (List.mem_filter.mp hk).1, by omega, ?_⟩⟩
        · rw [← hj, List.map_append, hr9, KM.parts_cons]
          rw [KM.parts_fuel _ r.length _ (fun k hk => hw k (List.mem_filter.mp hk).1) (Nat.le_refl _) (by omega)]
          show (ps.map (·.2) ++ [KM.comp ws (a0 :: r) a0]) ++ _ = _
          rw [List.append_assoc]
          rfl
        · rw [List.length_append]
          simp only [List.length_cons, List.length_nil] at h9 hl ⊢
          omega
      · rw [decide_eq_false hq]
        refine iteT ⟨fun σ' H' => ∃ m', m' < (a0 :: r).length + 2 - i ∧ GrowInv H5 a la fa ws (a0 :: r) a0 m' σ' H', fun _ _ z => z, ?_⟩
        have hb2 : ∀ j, j < i → KM.it ws (a0 :: r) a0 j ≠ KM.it ws (a0 :: r) a0 (j + 1) := fun j hj => by
          by_cases hji : j + 1 < i
          · exact hb j hji
          · have e : i = j + 1 := by omega
            subst e
            exact fun z => hq z.symm
        have hi := KM.it_len hw ha i hb2
        have hi2 := KM.it_len_le (ws := ws) ha i
        refine ⟨.ref na, rfl, _, rfl, _, rfl, _, rfl, a, na, la, ws, _, a0 :: r, rfl, L.same (s4.trans s36), SqL.of hna, SqL.of (s36 _ _ h1b), fun k hk => hlt k (KM.it_sub ha i k hk), hlt, by omega, by omega, fun H7 D s7 hD0 hD => ⟨by show 2 ≤ sizeLine; decide, fun tq htq => ?_⟩⟩
        have hDf : D ≠ fa := fun z => by
          rw [z, s36 _ _ h2b] at hD0
          cases hD0
        refine ⟨tq, _, rfl, SqT.of upd_same, rfl, _, _, rfl, _, _, rfl, rfl, _, ?_, ⟨na, D, i + 1, y5, rfl, rfl, s6.trans (sameUT s7 htq), hnf, hDf, sameUT s7 htq _ _ hna, sameU htq _ _ hD, fun j hj => hb2 j (by omega)⟩⟩
        omega
end
end K55

namespace K55
open PySem PySem.Spec PyProof.Rows L2 SX
abbrev sIsRing : Stmt := topS 29
abbrev sRings : Stmt := topS 30
theorem eq_ints (a b : Nat) : decide (nV a = nV b) = decide (a = b) := by
  by_cases h : a = b
  · subst h
    simp
  · have h2 : ¬ nV a = nV b := fun z => h (Int.ofNat.inj (V.int.inj z))
    rw [decide_eq_false h2, decide_eq_false h]
theorem mod2_int (n : Nat) : decide (V.int ((n : Int) % 2) = V.int 0) = decide (n % 2 = 0) := by
  have e : V.int ((n : Int) % 2) = nV (n % 2) := by
    show V.int ((n : Int) % 2) = V.int ((n % 2 : Nat) : Int)
    rw [Int.natCast_emod]
    rfl
  rw [e]
  exact eq_ints (n % 2) 0
theorem ring_even {ws : KM.Ws} {part : List Nat} (h : part.length % 2 = 0) : KM.ring ws part = false := by
  unfold KM.ring
  rw [decide_eq_false (by omega), Bool.false_and, Bool.false_and]
theorem len1_any {ws : KM.Ws} (g : GoodWs ws) {part : List Nat} (hlt : ∀ k ∈ part, k < ws.length) : (part.any fun k => decide ((KM.wd ws k).length = 1)) = !part.all fun k => decide ((KM.wd ws k).length = 2) := by
  rw [Bool.eq_iff_iff, List.any_eq_true, Bool.not_eq_true', List.all_eq_false]
  constructor
  · rintro ⟨k, hk, h⟩
    exact ⟨k, hk, fun z => by have h1 := of_decide_eq_true h; have h2 := of_decide_eq_true z; omega⟩
  · rintro ⟨k, hk, h⟩
    have h1 := wd_ge g (hlt k hk)
    have h2 := wd_le g k
    exact ⟨k, hk, decide_eq_true (by
      by_cases z : (KM.wd ws k).length = 2
      · exact absurd (decide_eq_true z) h
      · omega)⟩
section
variable {P : Program} {w : World} {K : PySem.W.Frag} {mg : Str → Option Value} {base : Heap} {C : Addr}
/-! ### joined -/
theorem scJoined : FnScope ["lots"] ["lots"] (defScope sJoined) := ⟨rfl, rfl, rfl, by decide +kernel, rfl, by decide +kernel, by decide +kernel⟩
def spJoined (K : PySem.W.Frag) (C : Addr) (f : KM.Ws → List (List Nat)) : Sp := fun vs H Q _ => ∃ a ws, vs = [.ref a] ∧ LotsAt K C H a ws ∧
  ∀ H' p ps, Same H H' → H' p = some (.tup (refsOf ps)) → PartsAt H' ps → ps.map (·.2) = f ws → Q (.ref p) H'
theorem ok_joined {f : Addr} {fd : FuncData} (F : Fun K "joined" "joined" sJoined f fd) (N : En P w K mg base C) (cN : Cal P w K mg base "check_narrow" 3 ["lots"] (spCheckLots K C)) (cP : Cal P w K mg base "parts_of" 7 ["lots"] (spParts K C)) : FnOk P w K mg base CX0 8 f fd ["lots"] (spJoined K C KM.joined) := by
  refine F.ok scJoined (fun vs H Q E h => ?_) (fun cdv A outer s H vs Q E hr h => ?_)
  · obtain ⟨a, ws, rfl, _⟩ := h
    rfl
  · obtain ⟨a, ws, rfl, L, k⟩ := h
    refine ⟨_, pss_cons (ps_expr (pe_cal cN (hr.mono (by decide)) (by rfl) (pa_cons (pv 0) pa_nil)))
      (pss_one (ps_ret (pe_callTy call_tuple_of (by rfl) N.nm.tuple (by decide +kernel) (pa_cons (pe_cal cP hr (by rfl) (pa_cons (pv 0) pa_nil)) pa_nil)))), ?_⟩
    refine ⟨_, rfl, a, ws, rfl, L, _, rfl, a, ws, rfl, L, fun H1 p ps s1 hp hP he h9 => ⟨p, _, rfl, .inl ⟨SqL.of hp, fun q hq => ?_⟩⟩⟩
    exact k _ q ps (sameUT s1 hq) upd_same (hP.same (sameU hq)) he
/-! ### is_odd_ring -/
abbrev nIsRing : List Str := ["lots", "part", "words", "letters", "index", "word", "letter"]
theorem scIsRing : FnScope nIsRing ["lots", "part"] (defScope sIsRing) := ⟨rfl, rfl, rfl, by decide +kernel, rfl, by decide +kernel, by decide +kernel⟩
def spIsRing (K : PySem.W.Frag) (C : Addr) : Sp := fun vs H Q _ => ∃ a pa ws part, vs = [.ref a, .ref pa] ∧ LotsAt K C H a ws ∧ SqT K H pa (part.map nV) ∧ (∀ k ∈ part, k < ws.length) ∧ part.length ≤ 9 ∧ ∀ H', Same H H' → Q (.bl (KM.ring ws part)) H'
theorem ok_isRing {f : Addr} {fd : FuncData} (F : Fun K "is_odd_ring" "is_odd_ring" sIsRing f fd) (N : En P w K mg base C) : FnOk P w K mg base CX0 3 f fd ["lots", "part"] (spIsRing K C) := by
  refine F.ok scIsRing (fun vs H Q E h => ?_) (fun cdv A outer s H vs Q E hr h => ?_)
  · obtain ⟨a, pa, ws, part, rfl, _⟩ := h
    rfl
  · obtain ⟨a, pa, ws, part, rfl, L, hp, hlt, h9, k⟩ := h
    refine ⟨_, pss_cons (ps_setLc (i := 2) (own := [("index", 4)]) (g := gName 4) rfl scIsRing.nd rfl rfl (sw_true rfl rfl rfl (by decide +kernel)) (pi_tup (pv 1)) (blkOk_by (N := nIsRing) (sc := defScope sIsRing) (by decide +kernel))
          (fun _ _ _ _ _ => pg_name (i := 4) scIsRing.nd rfl (.inl rfl)) (fun _ _ _ _ _ => pts_nil) (fun _ _ _ _ _ => pe_ix (ixT K) (pe_lots N hr (pv 0)) (pv 4) (fun _ _ => rfl)))
      (pss_cons (ps_if (PW.pt (pw_or (pt_cmpR op_eq (pe_op op_mod (pe_callB call_len_seq (by rfl) N.nm.len (by decide +kernel) (pa_cons (pv 2) pa_nil)) pe_int) pe_int (nomark _))
          (pw_or1 (pt_val (pe_callB (anyC K rfl) (by rfl) N.nm.any (by decide +kernel) (pa_cons (pe_lc (own := [("word", 5)]) (g := gName 5) rfl scIsRing.nd (pi_list (pv 2)) (blkOk_by (N := nIsRing) (sc := defScope sIsRing) (by decide +kernel))
            (fun _ _ _ _ _ => pg_name (i := 5) scIsRing.nd rfl (.inl rfl)) (fun _ _ _ _ _ => pts_nil) (fun _ _ _ _ _ => pe_cmpR op_eq (pe_callB call_len_str (by rfl) N.nm.len (by decide +kernel) (pa_cons (pv 5) pa_nil)) pe_int (nomark _))) pa_nil))))))
          (pss_one (ps_ret pe_bl)) pss_nil)
      (pss_cons (ps_set (i := 3) scIsRing.nd rfl (.inr rfl) (pe_join0 K pe_str (pv 2)))
      (pss_one (ps_ret (pe_callB (allC K rfl) (by rfl) N.nm.all (by decide +kernel) (pa_cons (pe_lc (own := [("letter", 6)]) (g := gName 6) rfl scIsRing.nd (pi_str (pv 3)) (blkOk_by (N := nIsRing) (sc := defScope sIsRing) (by decide +kernel))
            (fun _ _ _ _ _ => pg_name (i := 6) scIsRing.nd rfl (.inl rfl)) (fun _ _ _ _ _ => pts_nil) (fun _ _ _ _ _ => pe_cmpR op_eq (pe_m1 PySem.F.slot_str_count PySem.F.type_str_count mt_count (pv 3) (pv 6)) pe_int (nomark _))) pa_nil)))))), ?_⟩
    have g := L.good
    -- words
    refine ⟨.ref pa, rfl, pa, rfl, ⟨_, hp⟩, fun D hD => lc_m (walkT nV part) (fun k => wS (KM.wd ws k)) hD (fun H' s => Same.tup s hp) (small1000 (by omega)) (fun n H1 K1 hn s k1 => ?_) (fun H1 s1 hDl => ?_)⟩
    · exact rd_word rfl (L.same s) rfl (hlt n hn) (k1 _ (Same.refl _))
    -- the length
    refine ⟨.ref D, rfl, D, _, rfl, .inl (SqL.of hDl), _, _, rfl, rfl, by show (0 : Int) < 2; decide, rfl, _, rfl, ?_⟩
    have el : (part.map fun k => wS (KM.wd ws k)).length = part.length := List.length_map ..
    rw [el, mod2_int]
    by_cases hev : part.length % 2 = 0
    · rw [decide_eq_true hev]
      refine iteT (iteT ?_)
      have q := k _ s1
      rw [ring_even hev] at q
      exact q
    rw [decide_eq_false hev]
    refine iteF ?_
    refine ⟨.ref D, rfl, D, rfl, ⟨_, SqL.of hDl⟩, fun D2 hD2 => lc_m (walkL (fun k => wS (KM.wd ws k)) part) (fun k => V.bl (decide ((KM.wd ws k).length = 1))) hD2 (fun H' s => SqL.of (s _ _ hDl)) (small1000 (by omega)) (fun n H2 K2 hn s k2 => ?_) (fun H2 s2 hDl2 => ?_)⟩
    · refine ⟨_, rfl, S (KM.wd ws n), rfl, by have := wd_le g n; rw [S_len]; exact Nat.le_of_lt (small1000 (by omega)), rfl, ?_⟩
      have q := k2 _ (Same.refl _)
      rw [← eq_ints, ← S_len] at q
      exact q
    have s12 := s1.trans s2
    have eb : (part.map fun k => decide ((KM.wd ws k).length = 1)).any id = !part.all fun k => decide ((KM.wd ws k).length = 2) := by
      rw [List.any_map]
      exact len1_any g hlt
    refine ⟨D2, part.map fun k => decide ((KM.wd ws k).length = 1), rfl, SqL.of (by rw [hDl2, List.map_map]; rfl), _, rfl, ?_⟩
    rw [eb]
    cases hall : part.all fun k => decide ((KM.wd ws k).length = 2) with
    | false =>
      refine iteT ?_
      have q := k _ s12
      unfold KM.ring at q
      rw [hall, Bool.and_false, Bool.false_and] at q
      exact q
    | true =>
      refine iteF ?_
      refine ⟨⟨_, rfl⟩, .ref D, rfl, rd_join g h9 (s2 _ _ hDl) ?_⟩
      have hsl := seen_le g part
      refine ⟨_, rfl, _, rfl, fun D3 hD3 => lc_m (walkS (KM.seen ws part)) (fun c => V.bl (decide ((KM.seen ws part).count c = 2))) hD3 (fun _ _ => trivial) (small1000 (by omega)) (fun n H4 K4 hn s k4 => ?_) (fun H4 s4 hDl4 => ?_)⟩
      · refine ⟨_, rfl, ⟨_, rfl⟩, _, rfl, _, _, rfl, rfl, rfl, ?_⟩
        rw [count_S]
        have q := k4 _ (Same.refl _)
        rw [← eq_ints] at q
        exact q
      · refine ⟨D3, (KM.seen ws part).map fun c => decide ((KM.seen ws part).count c = 2), rfl, SqL.of (by rw [hDl4, List.map_map]; rfl), ?_⟩
        have q := k _ (s12.trans s4)
        unfold KM.ring at q
        rw [hall, decide_eq_true (by omega), Bool.true_and, Bool.true_and] at q
        have e : ((KM.seen ws part).map fun c => decide ((KM.seen ws part).count c = 2)).all id = (KM.seen ws part).all fun x => decide ((KM.seen ws part).count x = 2) := by
          rw [List.all_map]
          rfl
        rw [e]
        exact q
/-! ### odd_rings -/
abbrev nRings : List Str := ["lots", "part"]
theorem scRings : FnScope nRings ["lots"] (defScope sRings) := ⟨rfl, rfl, rfl, by decide +kernel, rfl, by decide +kernel, by decide +kernel⟩
theorem ok_rings {f : Addr} {fd : FuncData} (F : Fun K "odd_rings" "odd_rings" sRings f fd) (N : En P w K mg base C) (cN : Cal P w K mg base "check_narrow" 3 ["lots"] (spCheckLots K C)) (cP : Cal P w K mg base "parts_of" 7 ["lots"] (spParts K C)) (cR : Cal P w K mg base "is_odd_ring" 3 ["lots", "part"] (spIsRing K C)) : FnOk P w K mg base CX0 8 f fd ["lots"] (spJoined K C KM.rings) := by
  refine F.ok scRings (fun vs H Q E h => ?_) (fun cdv A outer s H vs Q E hr h => ?_)
  · obtain ⟨a, ws, rfl, _⟩ := h
    rfl
  · obtain ⟨a, ws, rfl, L, k⟩ := h
    refine ⟨_, pss_cons (ps_expr (pe_cal cN (hr.mono (by decide)) (by rfl) (pa_cons (pv 0) pa_nil)))
      (pss_one (ps_ret (pe_callTy call_tuple_of (by rfl) N.nm.tuple (by decide +kernel) (pa_cons (pe_lc (own := [("part", 1)]) (g := gName 1) rfl scRings.nd (pi_list (pe_cal cP hr (by rfl) (pa_cons (pv 0) pa_nil))) (blkOk_by (N := nRings) (sc := defScope sRings) (by decide +kernel))
        (fun _ _ _ _ _ => pg_name (i := 1) scRings.nd rfl (.inl rfl)) (fun _ _ _ _ _ => pts_one (pt_val (pe_cal cR (hr.mono (by decide)) (by rfl) (pa_cons (pv 0) (pa_cons (pv 1) pa_nil))))) (fun _ _ _ _ _ => pv 1)) pa_nil)))), ?_⟩
    have g := L.good
    refine ⟨_, rfl, a, ws, rfl, L, _, rfl, a, ws, rfl, L, fun H1 p ps s1 hp hP he h9 => ⟨p, rfl, ⟨_, SqL.of hp⟩, fun D hD => lc_fm (walkL (fun e : Addr × List Nat => V.ref e.1) ps) (fun e => KM.ring ws e.2) (fun e => V.ref e.1) hD (fun H' s => SqL.of (s _ _ hp)) (small1000 (by omega)) (fun e H2 K2 hn s k2 => ?_) (fun e H2 K2 hn _ s k2 => ?_) (fun H2 s2 hDl => ?_)⟩⟩
    · have hj := joined_in g e.2 (by rw [← he]; exact List.mem_map.mpr ⟨e, hn, rfl⟩)
      exact ⟨_, rfl, _, rfl, a, e.1, ws, e.2, rfl, (L.same s1).same s, SqT.of (s _ _ (hP e hn)), hj.2, hj.1, fun H3 s3 => ⟨_, rfl, k2 _ s3⟩⟩
    · exact ⟨_, rfl, k2 _ (Same.refl _)⟩
    refine ⟨D, _, rfl, .inl ⟨SqL.of hDl, fun q hq => k _ q (ps.filter fun e => KM.ring ws e.2) (sameUT (s1.trans s2) hq) upd_same (fun e he' => ?_) ?_⟩⟩
    · exact sameU hq _ _ (s2 _ _ (hP e (List.mem_filter.mp he').1))
    · unfold KM.rings
      rw [← he, List.filter_map]
      rfl
end
end K55

namespace K55
open PySem PySem.Spec PyProof.Rows L2 SX
abbrev sRising : Stmt := topS 11
abbrev sIsLot : Stmt := topS 12
abbrev sThings : Stmt := topS 13
abbrev sCheckWords : Stmt := topS 14
theorem letters_has : ∀ c, c < 123 → 97 ≤ c → c ∈ ("abcdefghijklmnopqrstuvwxyz" : Str).cps.toList := by decide +kernel
theorem lt_sign {c d : Nat} (h : c < d) : decide ((⟨#[c]⟩ : Str).cps.toList < (⟨#[d]⟩ : Str).cps.toList) = true := by
  refine decide_eq_true ?_
  show [c] < [d]
  exact List.Lex.rel h
theorem wS_ne_empty {l : List Nat} (h : 1 ≤ l.length) : decide (wS l = V.str "") = false := by
  refine decide_eq_false fun z => ?_
  have e : S l = "" := V.str.inj z
  have e2 : (S l).length = ("" : Str).length := by rw [e]
  rw [S_len] at e2
  have e0 : ("" : Str).length = 0 := by decide +kernel
  omega
section
variable {P : Program} {w : World} {K : PySem.W.Frag} {mg : Str → Option Value} {base : Heap} {C : Addr}
/-! ### is_rising -/
abbrev nRising : List Str := ["value", "letter", "k"]
theorem scRising : FnScope nRising ["value"] (defScope sRising) := ⟨rfl, rfl, rfl, by decide +kernel, rfl, by decide +kernel, by decide +kernel⟩
def Rises (l : List Nat) : Prop := 1 ≤ l.length ∧ l.length ≤ 2 ∧ (∀ c ∈ l, 97 ≤ c ∧ c ≤ 122) ∧ l.Pairwise (· < ·)
def spRising : Sp := fun vs H Q _ => ∃ l, vs = [wS l] ∧ Rises l ∧ ∀ H', Same H H' → Q (.bl true) H'
theorem ok_rising {f : Addr} {fd : FuncData} (F : Fun K "is_rising" "is_rising" sRising f fd) (N : Nm mg) : FnOk P w K mg base CX0 1 f fd ["value"] spRising := by
  obtain ⟨tl, hl⟩ := N.letters
  refine F.ok scRising (fun vs H Q E h => ?_) (fun cdv A outer s H vs Q E hr h => ?_)
  · obtain ⟨a, rfl, _⟩ := h
    rfl
  · obtain ⟨l, rfl, ⟨h1, h2, h3, h4⟩, k⟩ := h
    refine ⟨_, pss_cons (ps_if (PW.pt (pw_or (pt_not (pt_val (pe_callB call_isi (by rfl) N.isi (by decide +kernel) (pa_cons (pv 0) (pa_cons (pe_bltn (v := .ty "str") (by rfl) N.str (by decide +kernel) rfl) pa_nil)))))
          (pw_or (pt_cmpR op_eq (pv 0) pe_str (nomark _))
          (pw_or1 (pt_not (pt_val (pe_callB (allC K rfl) (by rfl) N.all (by decide +kernel) (pa_cons (pe_lc (own := [("letter", 1)]) (g := gName 1) rfl scRising.nd (pi_str (pv 0)) (blkOk_by (N := nRising) (sc := defScope sRising) (by decide +kernel))
            (fun _ _ _ _ _ => pg_name (i := 1) scRising.nd rfl (.inl rfl)) (fun _ _ _ _ _ => pts_nil) (fun _ _ _ _ _ => pe_cmpR op_in_sign (pv 1) (pe_glob (v := .str "abcdefghijklmnopqrstuvwxyz") (by rfl) hl ⟨_, rfl⟩) (by rfl))) pa_nil))))))))
          pss_never pss_nil)
      (pss_one (ps_ret (pe_callB (allC K rfl) (by rfl) N.all (by decide +kernel) (pa_cons (pe_lc (own := [("k", 2)]) (g := gName 2) rfl scRising.nd (pi_range1 (by rfl) N.range (pa_cons (pe_op op_sub (pe_callB call_len_str (by rfl) N.len (by decide +kernel) (pa_cons (pv 0) pa_nil)) pe_int) pa_nil)) (blkOk_by (N := nRising) (sc := defScope sRising) (by decide +kernel))
            (fun _ _ _ _ _ => pg_name (i := 2) scRising.nd rfl (.inl rfl)) (fun _ _ _ _ _ => pts_nil) (fun _ _ _ _ _ => pe_cmpR op_lt_str (pe_ix ix_str (pv 0) (pv 2) (fun _ _ => rfl)) (pe_ix ix_str (pv 0) (pe_op op_add (pv 2) pe_int) (fun _ _ => rfl)) (nomark _))) pa_nil)))), ?_⟩
    refine ⟨_, rfl, _, _, _, _, true, rfl, .ty "str", .base (.str _), kit_ty (by decide +kernel), _, rfl, ?_⟩
    refine iteF ⟨_, rfl, rfl, _, rfl, ?_⟩
    rw [wS_ne_empty h1]
    refine iteF ?_
    refine ⟨_, rfl, _, rfl, fun D hD => lc_m (walkS l) (fun c => V.bl true) hD (fun _ _ => trivial) (small1000 (by omega)) (fun n H2 K2 hn s k2 => ?_) (fun H2 s2 hDl => ?_)⟩
    · refine ⟨_, rfl, n, _, rfl, rfl, ?_⟩
      rw [decide_eq_true (letters_has n (by have := (h3 n hn).2; omega) (h3 n hn).1)]
      exact k2 _ (Same.refl _)
    refine ⟨D, l.map fun _ => true, rfl, SqL.of (by rw [hDl, List.map_map]; rfl), _, rfl, ?_⟩
    have ea : (l.map fun _ => true).all id = true := by
      rw [List.all_map]
      exact List.all_eq_true.mpr fun _ _ => rfl
    rw [ea]
    refine iteF ?_
    refine ⟨_, rfl, S l, rfl, by rw [S_len]; exact Nat.le_of_lt (small1000 (by omega)), _, _, rfl, rfl, ?_⟩
    have en : ((S l).length : Int) - 1 = ((l.length - 1 : Nat) : Int) := by
      rw [S_len]
      omega
    refine ⟨((l.length - 1 : Nat) : Int), congrArg (fun z => [V.int z]) en, by omega, by omega, fun D2 hD2 => lc_m (walkR (l.length - 1)) (fun c => V.bl true) hD2 (fun _ _ => trivial) (by rw [List.length_range]; exact small1000 (by omega)) (fun n H3 K3 hn s k3 => ?_) (fun H3 s3 hDl3 => ?_)⟩
    · have hn2 := List.mem_range.mp hn
      have g1 : l[n]? = some (l[n]'(by omega)) := List.getElem?_eq_getElem _
      have g2 : l[n + 1]? = some (l[n + 1]'(by omega)) := List.getElem?_eq_getElem _
      have hlt : l[n]'(by omega) < l[n + 1]'(by omega) := (List.pairwise_iff_getElem.mp h4) n (n + 1) (by omega) (by omega) (by omega)
      have z : (S l).length ≤ sizeLine := by rw [S_len]; exact Nat.le_of_lt (small1000 (by omega))
      refine ⟨_, rfl, _, rfl, S l, (n : Int), l[n]'(by omega), rfl, rfl, z, atI_nat g1, ?_⟩
      refine ⟨_, rfl, _, rfl, _, _, rfl, rfl, S l, ((n + 1 : Nat) : Int), l[n + 1]'(by omega), rfl, rfl, z, atI_nat g2, _, _, rfl, rfl, ?_⟩
      rw [lt_sign hlt]
      exact k3 _ (Same.refl _)
    refine ⟨D2, (List.range (l.length - 1)).map fun _ => true, rfl, SqL.of (by rw [hDl3, List.map_map]; rfl), ?_⟩
    have ea : ((List.range (l.length - 1)).map fun _ => true).all id = true := by
      rw [List.all_map]
      exact List.all_eq_true.mpr fun _ _ => rfl
    rw [ea]
    exact k _ (s2.trans s3)
/-! ### is_lot -/
theorem scIsLot : FnScope ["value"] ["value"] (defScope sIsLot) := ⟨rfl, rfl, rfl, by decide +kernel, rfl, by decide +kernel, by decide +kernel⟩
theorem ok_isLot {f : Addr} {fd : FuncData} (F : Fun K "is_lot" "is_lot" sIsLot f fd) (N : Nm mg) (cR : Cal P w K mg base "is_rising" 1 ["value"] spRising) : FnOk P w K mg base CX0 2 f fd ["value"] spRising := by
  obtain ⟨tl, hl⟩ := N.things
  refine F.ok scIsLot (fun vs H Q E h => ?_) (fun cdv A outer s H vs Q E hr h => ?_)
  · obtain ⟨a, rfl, _⟩ := h
    rfl
  · obtain ⟨l, rfl, R, k⟩ := h
    refine ⟨_, pss_one (ps_ret (pe_and (pe_cal cR hr (by rfl) (pa_cons (pv 0) pa_nil)) (pe_one (pe_cmpR op_le (pe_callB call_len_str (by rfl) N.len (by decide +kernel) (pa_cons (pv 0) pa_nil)) (pe_glob (v := .int 8) (by rfl) hl ⟨_, rfl⟩) (nomark _))))), ?_⟩
    refine ⟨_, rfl, l, rfl, R, fun H1 s1 => ⟨_, rfl, iteT ⟨_, rfl, S l, rfl, by rw [S_len]; have := R.2.1; exact Nat.le_of_lt (small1000 (by omega)), _, _, rfl, rfl, ?_⟩⟩⟩
    have q := k _ s1
    have e : decide (((S l).length : Int) ≤ 8) = true := by
      rw [S_len]
      exact decide_eq_true (by have := R.2.1; omega)
    rw [← e] at q
    exact q
end
end K55

namespace K55
open PySem PySem.Spec PyProof.Rows L2 SX
theorem nodup_le {l m : List Nat} (h : l.Nodup) (s : ∀ x ∈ l, x ∈ m) : l.length ≤ m.length := by
  induction l generalizing m with
  | nil => exact Nat.zero_le _
  | cons a r ih =>
    obtain ⟨h1, h2⟩ := List.nodup_cons.mp h
    have ha : a ∈ m := s a List.mem_cons_self
    have := ih (m := m.erase a) h2 fun x hx => by
      have hx2 := s x (List.mem_cons_of_mem _ hx)
      exact (List.mem_erase_of_ne (fun z => h1 (by rw [← z]; exact hx))).mpr hx2
    rw [List.length_erase_of_mem ha] at this
    have hm := List.length_pos_of_mem ha
    rw [List.length_cons]
    omega
abbrev sgS (c : Nat) : Str := ⟨#[c]⟩
theorem sgS_inj {c d : Nat} (h : sgS c = sgS d) : c = d := by
  have e := congrArg (fun s : Str => s.cps.toList) h
  simpa using e
/-- texts of one sign each -/
theorem signs_of : ∀ {ys : List Str} (_ : ∀ y ∈ ys, ∃ c, y = sgS c), ∃ cs : List Nat, ys = cs.map sgS
  | [], _ => ⟨[], rfl⟩
  | y :: ys, h => by
    obtain ⟨c, hc⟩ := h y List.mem_cons_self
    obtain ⟨cs, e⟩ := signs_of fun z hz => h z (List.mem_cons_of_mem _ hz)
    exact ⟨c :: cs, by rw [hc, e]; rfl⟩
theorem nodup_map {cs : List Nat} (h : (cs.map sgS).Nodup) : cs.Nodup := by
  induction cs with
  | nil => exact List.nodup_nil
  | cons a r ih =>
    rw [List.map_cons, List.nodup_cons] at h
    exact List.nodup_cons.mpr ⟨fun z => h.1 (List.mem_map.mpr ⟨a, z, rfl⟩), ih h.2⟩
theorem flat_signs (cs : List Nat) : (cs.map fun c => [c]).flatten = cs := by
  induction cs with
  | nil => rfl
  | cons a r ih => rw [List.map_cons, List.flatten_cons, ih]; rfl
section
variable {P : Program} {w : World} {K : PySem.W.Frag} {mg : Str → Option Value} {base : Heap} {C : Addr}
/-! ### things_in -/
theorem scThings : FnScope ["words"] ["words"] (defScope sThings) := ⟨rfl, rfl, rfl, by decide +kernel, rfl, by decide +kernel, by decide +kernel⟩
def spThings (K : PySem.W.Frag) : Sp := fun vs H Q _ => ∃ (a : Addr) (ws : List (List Nat)), vs = [.ref a] ∧ SqT K H a (ws.map wS) ∧ ws.flatten.length ≤ 60 ∧ ∀ H' cs, Same H H' → cs.Nodup → (∀ c, c ∈ cs ↔ c ∈ ws.flatten) → Q (wS cs) H'
theorem ok_things {f : Addr} {fd : FuncData} (F : Fun K "things_in" "things_in" sThings f fd) (N : Nm mg) : FnOk P w K mg base CX0 1 f fd ["words"] (spThings K) := by
  refine F.ok scThings (fun vs H Q E h => ?_) (fun cdv A outer s H vs Q E hr h => ?_)
  · obtain ⟨a, ws, rfl, _⟩ := h
    rfl
  · obtain ⟨a, ws, rfl, hw, h60, k⟩ := h
    refine ⟨_, pss_one (ps_ret (pe_join0 K pe_str (pe_callB (cr_sortedTx rfl) (by rfl) N.sorted (by decide +kernel) (pa_cons (pe_callTy (cr_setT rfl) (by rfl) N.set (by decide +kernel) (pa_cons (pe_join0 K pe_str (pv 0)) pa_nil)) pa_nil)))), ?_⟩
    refine ⟨⟨_, rfl⟩, ⟨_, rfl⟩, .ref a, rfl, ⟨rfl, a, ws, rfl, .inr hw, by omega, S ws.flatten, rfl, ?_, fun sa l hnd hml hll hsa => ?_⟩⟩
    · have : (S ws.flatten).cps.size = ws.flatten.length := by simp
      omega
    · have hll2 : l.length ≤ ws.flatten.length := by
        rw [List.length_map] at hll
        exact hll
      refine ⟨sa, l, rfl, upd_same, by omega, fun ys p hper hsort hp => ?_⟩
      obtain ⟨cs, rfl⟩ := signs_of (ys := ys) fun y hy => by
        have h1 := (hml y).mp (hper.mem_iff.mp hy)
        obtain ⟨c, _, e⟩ := List.mem_map.mp h1
        exact ⟨c, e.symm⟩
      have hcn : cs.Nodup := nodup_map (hper.nodup_iff.mpr hnd)
      have hcm : ∀ c, c ∈ cs ↔ c ∈ ws.flatten := fun c => by
        have h1 : c ∈ cs ↔ sgS c ∈ cs.map sgS := ⟨fun h => List.mem_map.mpr ⟨c, h, rfl⟩, fun h => by
          obtain ⟨d, hd, e⟩ := List.mem_map.mp h
          rw [← sgS_inj e]
          exact hd⟩
        rw [h1, hper.mem_iff, hml]
        constructor
        · intro h
          obtain ⟨d, hd, e⟩ := List.mem_map.mp h
          rw [← sgS_inj e]
          simpa using hd
        · intro h
          exact List.mem_map.mpr ⟨c, by simpa using h, rfl⟩
      refine ⟨rfl, p, cs.map fun c => [c], rfl, .inl (SqL.of ?_), ?_, ?_⟩
      · rw [upd_same, List.map_map, List.map_map]
        rfl
      · rw [flat_signs]
        have := hper.length_eq
        rw [List.length_map] at this
        omega
      · rw [flat_signs]
        exact k _ cs (sameUT (sameU hsa) hp) hcn hcm
/-! ### check_words -/
theorem flat_le : ∀ {ws : List (List Nat)} (_ : ∀ w ∈ ws, w.length ≤ 2), ws.flatten.length ≤ 2 * ws.length
  | [], _ => by simp
  | x :: ws, h => by
    have h1 := h x List.mem_cons_self
    have h2 := flat_le fun y hy => h y (List.mem_cons_of_mem _ hy)
    rw [List.flatten_cons, List.length_append, List.length_cons]
    omega
def Fit (ws : KM.Ws) : Prop := 1 ≤ ws.length ∧ ws.length ≤ 9 ∧ (∀ w ∈ ws, Rises w) ∧ ∃ ls : List Nat, ls.length ≤ 8 ∧ ∀ w ∈ ws, ∀ c ∈ w, c ∈ ls
theorem Fit.good {ws : KM.Ws} (h : Fit ws) : GoodWs ws := ⟨h.1, h.2.1, fun w hw => ⟨(h.2.2.1 w hw).1, (h.2.2.1 w hw).2.1⟩, fun w hw => (h.2.2.1 w hw).2.2.1⟩
theorem sqT_ty {K : PySem.W.Frag} {H : Hp} {a : Addr} {xs : List V} (h : SqT K H a xs) : TyX K H (.ref a) (.type "tuple") := by
  rcases h with (h | ⟨o, h⟩) | ⟨o, its, n, h1, h2, _⟩
  · exact .base (.tup h)
  · exact .fTuple h
  · exact .kTuple h1 h2
theorem rd_take {K : PySem.W.Frag} {H : Hp} {a : Addr} {ws : KM.Ws} {m : Nat} {Q : VK} (hw : SqT K H a (ws.map wS)) (q : ∀ p H', Same H H' → SqT K H' p ((ws.take m).map wS) → Q (.ref p) H') : rSlA K (.ref a) none (some (m : Int)) H Q := by
  refine ⟨a, _, rfl, hw, fun h => ?_, fun h p hp => ?_⟩
  · rw [HT.sIx_nat, List.length_map] at h
    refine q a H (Same.refl _) ?_
    rw [List.take_of_length_le (by have := h.2; omega)]
    exact hw
  · refine q p _ (sameU hp) (SqT.of ?_)
    rw [upd_same]
    have e : cutV (ws.map wS) none (some (m : Int)) = (ws.take m).map wS := by
      unfold cutV
      rw [HT.sIx_none, HT.sIx_nat, List.drop_zero, Nat.sub_zero, List.map_take, List.length_map]
      by_cases h : m ≤ ws.length
      · rw [Nat.min_eq_left h]
      · rw [Nat.min_eq_right (by omega), List.take_of_length_le (by rw [List.length_map]; exact Nat.le_refl _), List.take_of_length_le (by rw [List.length_map]; omega)]
    rw [e]
theorem eqv_tnil {g : α → PyData} (xs : List α) : PyData.eqv (.tuple (xs.map g)) (.tuple []) = decide (xs = []) := by
  cases xs with
  | nil => simp [PyData.eqv, PyData.eqvAll]
  | cons x r => simp [PyData.eqv, PyData.eqvAll]
theorem shaped_tnil : SeqAt.shaped (.tuple []) = true := by decide
theorem dp_words {K : PySem.W.Frag} {H : Hp} {a : Addr} {ws : KM.Ws} (h : SqT K H a (ws.map wS)) : Dp K H (.ref a) (.tuple (ws.map fun w => .str (S w))) := .tup h (dp_all fun _ _ => .str _)
abbrev nCheckWords : List Str := ["words", "index"]
theorem scCheckWords : FnScope nCheckWords ["words"] (defScope sCheckWords) := ⟨rfl, rfl, rfl, by decide +kernel, rfl, by decide +kernel, by decide +kernel⟩
def spCheckWords (K : PySem.W.Frag) : Sp := fun vs H Q _ => ∃ (a : Addr) (ws : KM.Ws), vs = [.ref a] ∧ SqT K H a (ws.map wS) ∧ Fit ws ∧ ∀ H', Same H H' → Q .non H'
theorem ok_checkWords {f : Addr} {fd : FuncData} (F : Fun K "check_words" "check_words" sCheckWords f fd) (N : Nm mg) (cL : Cal P w K mg base "is_lot" 2 ["value"] spRising) (cT : Cal P w K mg base "things_in" 1 ["words"] (spThings K)) : FnOk P w K mg base CX0 3 f fd ["words"] (spCheckWords K) := by
  obtain ⟨t1, m1⟩ := N.lots
  obtain ⟨t2, m2⟩ := N.things
  refine F.ok scCheckWords (fun vs H Q E h => ?_) (fun cdv A outer s H vs Q E hr h => ?_)
  · obtain ⟨a, ws, rfl, _⟩ := h
    rfl
  · obtain ⟨a, ws, rfl, hw, ft, k⟩ := h
    refine ⟨_, pss_cons (ps_if (PW.pt (pw_or (pt_not (pt_val (pe_callB call_isi (by rfl) N.isi (by decide +kernel) (pa_cons (pv 0) (pa_cons (pe_bltn (v := .ty "tuple") (by rfl) N.tuple (by decide +kernel) rfl) pa_nil)))))
          (pw_or1 (pt_cmpR (eqD K hr.units) (pv 0) (pe_tup pa_nil) (nomark _))))) pss_never pss_nil)
      (pss_one (ps_for PassesOwn.never rfl (pi_range1 (by rfl) N.range (pa_cons (pe_callB call_len_seq (by rfl) N.len (by decide +kernel) (pa_cons (pv 0) pa_nil)) pa_nil)) (pg_name (i := 1) scCheckWords.nd rfl (.inl rfl))
        (pss_one (ps_if (PW.pt (pw_or (pt_cmpR op_eq (pv 1) (pe_glob (v := .int 9) (by rfl) m1 ⟨_, rfl⟩) (nomark _))
          (pw_or (pt_not (pt_val (pe_cal cL hr (by rfl) (pa_cons (pe_ix (ixT K) (pv 0) (pv 1) (fun _ _ => rfl)) pa_nil))))
          (pw_or1 (pt_cmpR op_gt (pe_callB call_len_str (by rfl) N.len (by decide +kernel) (pa_cons (pe_cal cT (hr.mono (by decide)) (by rfl) (pa_cons (pe_slice sl_tupA (pv 0) po_none (po_some (pe_op op_add (pv 1) pe_int))) pa_nil)) pa_nil)) (pe_glob (v := .int 8) (by rfl) m2 ⟨_, rfl⟩) (nomark _)))))) pss_never pss_nil)))), ?_⟩
    have g := ft.good
    have ⟨f1, f2, f3, ls, f4, f5⟩ := ft
    refine ⟨_, rfl, _, _, _, _, true, rfl, .ty "tuple", sqT_ty hw, kit_ty (by decide +kernel), _, rfl, iteF ⟨_, rfl, Nat.zero_le _, fun ep hep => ?_⟩⟩
    have s1 : Same H (upd H ep (.tup [])) := sameU hep
    refine ⟨_, _, dp_words (Same.tup s1 hw), .tup (SqT.of upd_same) .nil, (shaped_strs ws fun x hx c hc => (g.2.2.2 x hx c hc).2).2, shaped_tnil, _, rfl, ?_⟩
    rw [eqv_tnil, decide_eq_false (fun z => by rw [z] at f1; exact absurd f1 (by decide))]
    refine iteF ?_
    refine ⟨_, rfl, a, _, rfl, .inr (Same.tup s1 hw), ?_⟩
    rw [List.length_map]
    refine ⟨_, rfl, by omega, by omega, for_range (lo := 0) (n := ws.length) (fun j σ H1 => ∃ y, σ = [some (.ref a), y] ∧ Same H H1) ⟨none, rfl, s1⟩ ?_ ?_⟩
    · rintro i σ H1 hi ⟨y, rfl, s2⟩
      rw [Int.zero_add]
      refine ⟨_, rfl, rfl, _, rfl, ?_⟩
      have e9 : decide (V.int (i : Int) = V.int 9) = false := decide_eq_false fun z => by
        have := V.int.inj z
        omega
      rw [e9]
      refine iteF ?_
      have hw1 := Same.tup s2 hw
      refine ⟨_, rfl, _, rfl, a, _, _, _, rfl, rfl, hw1, at_ws hi, KM.wd ws i, rfl, ?_, fun H3 s3 => ⟨_, rfl, iteF ?_⟩⟩
      · unfold KM.wd
        rw [List.getD_eq_getElem?_getD, List.getElem?_eq_getElem hi]
        exact f3 _ (List.getElem_mem hi)
      have hw3 := Same.tup s3 hw1
      refine ⟨_, rfl, _, rfl, _, _, rfl, rfl, _, rfl, rd_take (m := i + 1) hw3 fun p H4 s4 hp => ?_⟩
      have hsub : ∀ x ∈ ws.take (i + 1), x ∈ ws := fun x hx => List.mem_of_mem_take hx
      refine ⟨p, ws.take (i + 1), rfl, hp, ?_, fun H5 cs s5 hnd hmem => ?_⟩
      · have h1 := flat_le (ws := ws.take (i + 1)) fun x hx => (g.2.2.1 x (hsub x hx)).2
        have h2 := List.length_take_le (i + 1) ws
        have h3 : (ws.take (i + 1)).length ≤ ws.length := by
          rw [List.length_take]
          exact Nat.min_le_right _ _
        omega
      have hcs : cs.length ≤ ls.length := nodup_le hnd fun c hc => by
        obtain ⟨x, hx, hcx⟩ := List.mem_flatten.mp ((hmem c).mp hc)
        exact f5 x (hsub x hx) c hcx
      refine ⟨S cs, rfl, by rw [S_len]; exact Nat.le_of_lt (small1000 (by omega)), _, _, rfl, rfl, _, rfl, ?_⟩
      rw [S_len, decide_eq_false (by omega)]
      exact iteF ⟨_, rfl, ((s2.trans s3).trans s4).trans s5⟩
    · rintro σ H1 ⟨y, rfl, s2⟩
      exact k _ s2
end
end K55

namespace K55
open PySem PySem.Spec PyProof.Rows L2 SX
abbrev sLots : Stmt := topS 15
abbrev sInit : Stmt := inClass sLots 0
abbrev sGet : Stmt := inClass sLots 2
abbrev sLen : Stmt := inClass sLots 4
section
variable {P : Program} {w : World} {K : PySem.W.Frag} {mg : Str → Option Value} {base : Heap} {C : Addr}
/-! ### Lots.__init__ -/
theorem scInit : FnScope ["self", "lots"] ["self", "lots"] (defScope sInit) := ⟨rfl, rfl, rfl, by decide +kernel, rfl, by decide +kernel, by decide +kernel⟩
theorem scGet : FnScope ["self"] ["self"] (defScope sGet) := ⟨rfl, rfl, rfl, by decide +kernel, rfl, by decide +kernel, by decide +kernel⟩
theorem scLen : FnScope ["self"] ["self"] (defScope sLen) := ⟨rfl, rfl, rfl, by decide +kernel, rfl, by decide +kernel, by decide +kernel⟩
def spInit (K : PySem.W.Frag) (C : Addr) : Sp := fun vs H Q _ => ∃ (x dx a : Addr) (ws : KM.Ws), vs = [.ref x, .ref a] ∧ H x = some (.ins C dx []) ∧ SqT K H a (ws.map wS) ∧ Fit ws ∧
  ∀ H' l, (∀ b o, b ≠ x → H b = some o → H' b = some o) → H' x = some (.ins C dx (lfs a l)) → Q .non H'
theorem sqT_x {K : PySem.W.Frag} {H H' : Hp} {x a C dx : Addr} {fs : List (Str × V)} {xs : List V} (h : SqT K H a xs) (hx : H x = some (.ins C dx fs)) (k : ∀ b o, b ≠ x → H b = some o → H' b = some o) : SqT K H' a xs := by
  rcases h with (h | ⟨o, h⟩) | h
  · exact .inl (.inl (k a _ (fun z => by rw [z, hx] at h; cases h) h))
  · exact .inl (.inr ⟨o, k a _ (fun z => by rw [z, hx] at h; cases h) h⟩)
  · exact .inr h
theorem ok_init {f : Addr} {fd : FuncData} (F : Fun K "__init__" "Lots.__init__" sInit f fd) (c : Cls K C) (n1 : NoAttr K C "words") (n2 : NoAttr K C "letters") (cW : Cal P w K mg base "check_words" 3 ["words"] (spCheckWords K)) (cT : Cal P w K mg base "things_in" 1 ["words"] (spThings K)) : FnOk P w K mg base CX0 4 f fd ["self", "lots"] (spInit K C) := by
  refine F.ok scInit (fun vs H Q E h => ?_) (fun cdv A outer s H vs Q E hr h => ?_)
  · obtain ⟨x, dx, a, ws, rfl, _⟩ := h
    rfl
  · obtain ⟨x, dx, a, ws, rfl, hx, hw, ft, k⟩ := h
    refine ⟨_, pss_cons (ps_expr (pe_cal cW hr (by rfl) (pa_cons (pv 1) pa_nil))) (pss_cons (ps_fld (pv 0) (pv 1) (by rfl)) (pss_one (ps_fld (pv 0) (pe_cal cT (hr.mono (by decide)) (by rfl) (pa_cons (pv 1) pa_nil)) (by rfl)))), ?_⟩
    have g := ft.good
    refine ⟨_, rfl, a, ws, rfl, hw, ft, fun H1 s1 => ⟨_, rfl, _, rfl, x, C, dx, _, rfl, s1 _ _ hx, c, n1, by decide, ?_⟩⟩
    have k2 : ∀ b o, b ≠ x → H b = some o → (upd H1 x (.ins C dx (putF "words" (.ref a) []))) b = some o := fun b o hb e => by
      rw [upd_ne hb]
      exact s1 b o e
    have hx2 : (upd H1 x (.ins C dx (putF "words" (.ref a) []))) x = some (.ins C dx (putF "words" (.ref a) [])) := upd_same
    generalize (upd H1 x (.ins C dx (putF "words" (.ref a) []))) = H2 at k2 hx2 ⊢
    have hw2 := sqT_x hw hx k2
    refine ⟨_, rfl, a, ws, rfl, hw2, ?_, fun H3 cs s3 _ _ => ⟨_, rfl, x, C, dx, _, rfl, s3 _ _ hx2, c, n2, by have := length_putF "words" (.ref a) []; exact Nat.lt_of_le_of_lt this (by decide), ?_⟩⟩
    · have h1 := flat_le fun x hx => (g.2.2.1 x hx).2
      have := g.2.1
      omega
    · refine k _ (S cs) (fun b o hb e => ?_) upd_same
      rw [upd_ne hb]
      exact s3 b o (k2 b o hb e)
/-! ### Lots.lots, Lots.__len__ -/
theorem ok_get {f : Addr} {fd : FuncData} (F : Fun K "lots" "Lots.lots" sGet f fd) (c : Cls K C) (n : NoAttr K C "words") : FnOk P w K mg base CX0 1 f fd ["self"] (getSp C "words") := by
  refine F.ok scGet (fun vs H Q E h => ?_) (fun cdv A outer s H vs Q E hr h => ?_)
  · obtain ⟨a, dx, fs, v, rfl, _⟩ := h
    rfl
  · obtain ⟨a, dx, fs, v, rfl, ha, hl, k⟩ := h
    exact ⟨_, pss_one (ps_ret (pe_fld (pv 0) (by rfl))), _, rfl, a, C, dx, fs, v, rfl, ha, c, n, hl, k⟩
theorem ok_len {f : Addr} {fd : FuncData} (F : Fun K "__len__" "Lots.__len__" sLen f fd) (N : Nm mg) (c : Cls K C) (n : NoAttr K C "words") : FnOk P w K mg base CX0 1 f fd ["self"] (spLen K C) := by
  refine F.ok scLen (fun vs H Q E h => ?_) (fun cdv A outer s H vs Q E hr h => ?_)
  · obtain ⟨a, ws, rfl, _⟩ := h
    rfl
  · obtain ⟨a, ws, rfl, ⟨dx, wa, l, h1, h2, h3⟩, k⟩ := h
    refine ⟨_, pss_one (ps_ret (pe_callB call_len_seq (by rfl) N.len (by decide +kernel) (pa_cons (pe_fld (pv 0) (by rfl)) pa_nil))), _, rfl, a, C, dx, _, _, rfl, h1, c, n, lfs_words wa l, wa, _, rfl, .inr h2, ?_⟩
    rw [List.length_map]
    exact k
/-! ### Lots(words) -/
structure MkL (P : Program) (w : World) (K : PySem.W.Frag) (mg : Str → Option Value) (base : Heap) (C : Addr) : Prop where
  ex : ∃ f fd, Mk K C f ∧ FnOk P w K mg base CX0 4 f fd ["self", "lots"] (spInit K C) ∧ Binds K fd ["self", "lots"] []
theorem pe_mkLots {X : Cx} {A : Around} {e : Expr} {te : TE} {p pos : Pos} (M : MkL P w K mg base C) (hr : Room 5 A) (hg : Gl X "Lots") (hm : mg "Lots" = some (.ref C)) (ha : PE X e te) (h1 : X.prog = P := by rfl) (h2 : X.w = w := by rfl) (h3 : X.K = K := by rfl) (h4 : X.mg = mg := by rfl) (h5 : X.base = base := by rfl) (h6 : X.A = A := by rfl)
    (hdb : (("Lots" : Str) == ("__debug__" : Str)) = false := by decide) (he : starEach [e] X.env = (false, eval e X.env) :: starEach [] X.env := by rfl) (hpl : (backTo pos (starEach [] X.env)).any (·.1) = false := by rfl) :
    PE X (.Call (.Name "Lots" p) [e] [] pos) (tMake C (spInit K C) [] E0 (tCons te tNil)) := by
  subst h1 h2 h3 h4 h5 h6
  obtain ⟨f, fd, mk, F, bd⟩ := M.ex
  exact pe_make (pos := pos) (p := p) mk F hr hg hm bd .nil (pass0 (X := X)) (pa_cons ha pa_nil he) hdb he hpl
theorem rd_mk {H1 : Hp} {Q : VK} {a : Addr} {ws : KM.Ws} (hw : SqT K H1 a (ws.map wS)) (ft : Fit ws) (q : ∀ H2 x, Same H1 H2 → LotsAt K C H2 x ws → Q (.ref x) H2) :
    ∀ x dx, H1 x = none → H1 dx = none → dx ≠ x → spInit K C (.ref x :: ([.ref a] ++ [])) (upd (upd H1 dx (.own x)) x (.ins C dx [])) (fun v H2 => v = .non ∧ Q (.ref x) H2) E0 := by
  intro x dx hx hdx hne
  have s1 : Same H1 (upd (upd H1 dx (.own x)) x (.ins C dx [])) := sameW (sameU hdx) hx
  refine ⟨x, dx, a, ws, rfl, upd_same, Same.tup s1 hw, ft, fun H2 l k h2 => ⟨rfl, ?_⟩⟩
  have s2 : Same H1 H2 := fun b o e => k b o (fun z => by rw [z, hx] at e; cases e) (s1 b o e)
  exact q H2 x s2 ⟨dx, a, l, h2, Same.tup s2 hw, ft.good⟩
end
end K55

namespace K55
open PySem PySem.Spec PyProof.Rows L2 SX
abbrev sBag : Stmt := topS 32
abbrev sTake : Stmt := topS 33
abbrev sOf : Stmt := topS 34
/-! ### the bag -/
def BagAt (H : Hp) (ba : Addr) : Prop := ∃ b0 b1 b2 : Int, H ba = some (.lst [.int b0, .int b1, .int b2]) ∧ 0 ≤ b0 ∧ b0 < 2147483587
/-- all but the bag stays -/
def SameB (ba : Addr) (H H' : Hp) : Prop := ∀ b o, b ≠ ba → H b = some o → H' b = some o
theorem SameB.refl (ba : Addr) (H : Hp) : SameB ba H H := fun _ _ _ e => e
theorem SameB.trans {ba : Addr} {H H1 H2 : Hp} (h : SameB ba H H1) (k : SameB ba H1 H2) : SameB ba H H2 := fun b o n e => k b o n (h b o n e)
theorem sb_of {ba : Addr} {H H1 : Hp} (h : Same H H1) : SameB ba H H1 := fun b o _ e => h b o e
theorem sameB_upd {ba : Addr} {H : Hp} {o : HO} : SameB ba H (upd H ba o) := fun b o n e => by
  rw [upd_ne n]
  exact e
theorem BagAt.same {H H' : Hp} {ba : Addr} (h : BagAt H ba) (s : Same H H') : BagAt H' ba := by
  obtain ⟨b0, b1, b2, e, h⟩ := h
  exact ⟨b0, b1, b2, s _ _ e, h⟩
section
variable {P : Program} {w : World} {K : PySem.W.Frag} {mg : Str → Option Value} {base : Heap} {C : Addr}
abbrev nTake : List Str := ["_law_bag_here", "_law_many", "_law_seed", "_law_high", "_law_digit"]
theorem scTake : FnScope nTake ["_law_bag_here", "_law_many"] (defScope sTake) := ⟨rfl, rfl, rfl, by decide +kernel, rfl, by decide +kernel, by decide +kernel⟩
def spTake : Sp := fun vs H Q _ => ∃ (ba : Addr) (m : Nat), vs = [.ref ba, nV m] ∧ BagAt H ba ∧ 1 ≤ m ∧ m < 1000 ∧ ∀ H' (d : Nat), SameB ba H H' → BagAt H' ba → d < m → Q (nV d) H'
theorem ok_take {f : Addr} {fd : FuncData} (F : Fun K "_law_take" "_law_take" sTake f fd) (N : Nm mg) : FnOk P w K mg base CX0 1 f fd ["_law_bag_here", "_law_many"] spTake := by
  refine F.ok scTake (fun vs H Q E h => ?_) (fun cdv A outer s H vs Q E hr h => ?_)
  · obtain ⟨a, m, rfl, _⟩ := h
    rfl
  · obtain ⟨ba, m, rfl, ⟨b0, b1, b2, hb, h0, h1⟩, hm1, hm2, k⟩ := h
    refine ⟨_, pss_cons (ps_asg (pe_op op_add (pe_ix ix_list (pv 0) pe_int (fun _ _ => rfl)) pe_int) (pg_sub (pv 0) pe_int set_list))
      (pss_cons (ps_set (i := 2) scTake.nd rfl (.inl rfl) (pe_callTy call_int1 (by rfl) N.int (by decide +kernel) (pa_cons (pe_ix ix_list (pv 0) pe_int (fun _ _ => rfl)) pa_nil)))
      (pss_cons (ps_set (i := 3) scTake.nd rfl (.inl rfl) (pe_op op_fdiv (pv 2) pe_int))
      (pss_cons (ps_asg (pe_op op_mod (pe_callTy call_int1 (by rfl) N.int (by decide +kernel) (pa_cons (pe_op op_add (pe_op op_add (pe_op op_add (pe_op op_mul (pv 2) pe_int) (pe_op op_mul (pv 3) (pv 3))) (pe_op op_mul pe_int (pe_ix ix_list (pv 0) pe_int (fun _ _ => rfl)))) pe_int) pa_nil)) pe_int) (pg_sub (pv 0) pe_int set_list))
      (pss_cons (ps_if (pt_cmpR op_gt (pe_ix ix_list (pv 0) pe_int (fun _ _ => rfl)) pe_int (nomark _))
        (pss_cons (ps_asg (pe_callB call_divmod (by rfl) N.divmod (by decide +kernel) (pa_cons (pe_ix ix_list (pv 0) pe_int (fun _ _ => rfl)) (pa_cons (pv 1) pa_nil))) (pg_tup rfl (pgs_cons (pg_sub (pv 0) pe_int set_list) (pgs_cons (pg_name (i := 4) scTake.nd rfl (.inl rfl)) pgs_nil))))
        (pss_one (ps_ret (pv 4)))) pss_nil)
      (pss_one (ps_ret (pe_op op_mod (pe_callTy call_int1 (by rfl) N.int (by decide +kernel) (pa_cons (pe_op op_fdiv (pe_ix ix_list (pv 0) pe_int (fun _ _ => rfl)) pe_int) pa_nil)) (pv 1)))))))), ?_⟩
    refine ⟨_, rfl, ba, _, 2, .int b2, rfl, rfl, SqL.of hb, rfl, _, _, rfl, rfl, _, rfl, ba, _, 2, 2, rfl, rfl, hb, rfl, ?_⟩
    have s1 : SameB ba H (upd H ba (.lst [.int b0, .int b1, .int (b2 + 1)])) := sameB_upd
    have hb1 : (upd H ba (.lst [.int b0, .int b1, .int (b2 + 1)])) ba = some (.lst [.int b0, .int b1, .int (b2 + 1)]) := upd_same
    show tSeq _ _ _ _ (upd H ba (.lst [.int b0, .int b1, .int (b2 + 1)]))
    generalize (upd H ba (.lst [.int b0, .int b1, .int (b2 + 1)])) = H1 at s1 hb1 ⊢
    have n0 : -(2 ^ 64) < b0 ∧ b0 < 2 ^ 64 := by omega
    have n1 : -(2 ^ 64) < b0 / 4093 ∧ b0 / 4093 < 2 ^ 64 := by omega
    refine ⟨_, rfl, ba, _, 0, .int b0, rfl, rfl, SqL.of hb1, rfl, .inl ⟨_, rfl, ?_⟩⟩
    refine ⟨_, rfl, _, _, rfl, rfl, ⟨by decide, by decide⟩, ?_⟩
    refine ⟨_, rfl, _, _, rfl, rfl, .inl n0, _, rfl, _, rfl, _, _, rfl, rfl, .inl n1, _, _, rfl, rfl, _, rfl, ba, _, 2, .int (b2 + 1), rfl, rfl, SqL.of hb1, rfl, _, _, rfl, rfl, .inl (by decide), _, _, rfl, rfl, _, _, rfl, rfl, .inl ⟨_, rfl, _, _, rfl, rfl, (by decide : (0 : Int) < 2147483587), _, rfl, ba, _, 0, 0, rfl, rfl, hb1, rfl, ?_⟩⟩
    show tSeq _ _ _ _ (upd H1 ba (.lst [.int ((b0 * 39373 + b0 / 4093 * (b0 / 4093) + 92821 * (b2 + 1) + 5) % 2147483587), .int b1, .int (b2 + 1)]))
    generalize eb : (b0 * 39373 + b0 / 4093 * (b0 / 4093) + 92821 * (b2 + 1) + 5) % 2147483587 = c0
    have c1 : 0 ≤ c0 := by rw [← eb]; exact Int.emod_nonneg _ (by decide)
    have c2 : c0 < 2147483587 := by rw [← eb]; exact Int.emod_lt_of_pos _ (by decide)
    have s2 : SameB ba H (upd H1 ba (.lst [.int c0, .int b1, .int (b2 + 1)])) := s1.trans sameB_upd
    have hb2 : (upd H1 ba (.lst [.int c0, .int b1, .int (b2 + 1)])) ba = some (.lst [.int c0, .int b1, .int (b2 + 1)]) := upd_same
    generalize (upd H1 ba (.lst [.int c0, .int b1, .int (b2 + 1)])) = H2 at s2 hb2 ⊢
    have dig : ∀ x : Int, ∃ d : Nat, x % (m : Int) = (d : Int) ∧ d < m := fun x => by
      have e1 := Int.emod_nonneg x (show (m : Int) ≠ 0 by omega)
      have e2 := Int.emod_lt_of_pos x (show (0 : Int) < m by omega)
      exact ⟨(x % (m : Int)).toNat, by omega, by omega⟩
    refine ⟨_, rfl, ba, _, 1, .int b1, rfl, rfl, SqL.of hb2, rfl, _, _, rfl, rfl, _, rfl, ?_⟩
    by_cases hp : 0 < b1
    · rw [decide_eq_true hp]
      refine iteT ⟨_, rfl, ba, _, 1, .int b1, rfl, rfl, SqL.of hb2, rfl, _, rfl, _, _, rfl, ⟨by omega, by omega⟩, fun tp htp => ?_⟩
      have hne : ba ≠ tp := fun z => by
        rw [← z, hb2] at htp
        cases htp
      refine ⟨tp, _, rfl, SqT.of upd_same, rfl, _, _, rfl, _, rfl, ba, [.int c0, .int b1, .int (b2 + 1)], 1, 1, rfl, rfl, ?_, rfl, ?_⟩
      · rw [upd_ne hne]
        exact hb2
      obtain ⟨d, e, hd⟩ := dig b1
      refine ⟨_, _, rfl, rfl, _, rfl, ?_⟩
      rw [e]
      exact k _ d ((s2.trans (sb_of (sameU htp))).trans sameB_upd) ⟨c0, b1 / (m : Int), b2 + 1, upd_same, c1, c2⟩ hd
    · rw [decide_eq_false hp]
      refine iteF ⟨_, rfl, ba, _, 0, .int c0, rfl, rfl, SqL.of hb2, rfl, _, _, rfl, rfl, ⟨by decide, by decide⟩, .inl ⟨_, rfl, _, rfl, _, _, rfl, rfl, by omega, ?_⟩⟩
      obtain ⟨d, e, hd⟩ := dig (c0 / 512)
      show Q (V.int (c0 / 512 % (m : Int))) H2
      rw [e]
      exact k _ d s2 ⟨c0, b1, b2 + 1, hb2, c1, c2⟩ hd
/-! ### _law_of -/
theorem scOf : FnScope ["_law_bag_here", "_law_things"] ["_law_bag_here", "_law_things"] (defScope sOf) := ⟨rfl, rfl, rfl, by decide +kernel, rfl, by decide +kernel, by decide +kernel⟩
def spOf : Sp := fun vs H Q _ => ∃ (ba : Addr) (v : V), vs = [.ref ba, v] ∧ BagAt H ba ∧
  ((∃ la xs, v = .ref la ∧ H la = some (.lst xs) ∧ la ≠ ba ∧ 1 ≤ xs.length ∧ xs.length < 1000 ∧ ∀ H' x, x ∈ xs → SameB ba H H' → BagAt H' ba → Q x H') ∨
   (∃ l, v = wS l ∧ 1 ≤ l.length ∧ l.length < 1000 ∧ ∀ H' c, c ∈ l → SameB ba H H' → BagAt H' ba → Q (sg c) H'))
theorem ok_of {f : Addr} {fd : FuncData} (F : Fun K "_law_of" "_law_of" sOf f fd) (N : Nm mg) (cT : Cal P w K mg base "_law_take" 1 ["_law_bag_here", "_law_many"] spTake) : FnOk P w K mg base CX0 2 f fd ["_law_bag_here", "_law_things"] spOf := by
  refine F.ok scOf (fun vs H Q E h => ?_) (fun cdv A outer s H vs Q E hr h => ?_)
  · obtain ⟨ba, v, rfl, _⟩ := h
    rfl
  · obtain ⟨ba, v, rfl, hb, h⟩ := h
    refine ⟨_, pss_one (ps_ret (pe_ix (ix_list.or ix_str) (pv 1) (pe_cal cT hr (by rfl) (pa_cons (pv 0) (pa_cons (pe_callB (call_len_seq.or call_len_str) (by rfl) N.len (by decide +kernel) (pa_cons (pv 1) pa_nil)) pa_nil))) (fun _ _ => rfl))), ?_⟩
    rcases h with ⟨la, xs, rfl, hl, hne, h1, h2, k⟩ | ⟨l, rfl, h1, h2, k⟩
    · refine ⟨_, rfl, _, rfl, _, rfl, .inl ⟨la, xs, rfl, .inl (SqL.of hl), ?_⟩⟩
      refine ⟨ba, xs.length, rfl, hb, h1, h2, fun H' d s b hd => .inl ⟨la, xs, (d : Int), xs[d], rfl, rfl, SqL.of (s _ _ hne hl), atI_nat (List.getElem?_eq_getElem hd), k _ _ (List.getElem_mem hd) s b⟩⟩
    · have z : (S l).length ≤ sizeLine := by rw [S_len]; exact Nat.le_of_lt (small1000 (Nat.le_of_lt h2))
      refine ⟨_, rfl, _, rfl, _, rfl, .inr ⟨S l, rfl, z, ?_⟩⟩
      refine ⟨ba, (S l).length, rfl, hb, by rw [S_len]; exact h1, by rw [S_len]; exact h2, fun H' d s b hd => ?_⟩
      rw [S_len] at hd
      exact .inr ⟨S l, (d : Int), l[d], rfl, rfl, z, atI_nat (List.getElem?_eq_getElem (l := l) hd), k _ _ (List.getElem_mem hd) s b⟩
/-! ### _law_bag -/
abbrev nBag : List Str := ["_law_script", "_law_spot", "_law_cell", "_law_part"]
theorem scBag : FnScope nBag ["_law_script", "_law_spot"] (defScope sBag) := ⟨rfl, rfl, rfl, by decide +kernel, rfl, by decide +kernel, by decide +kernel⟩
def spBag (K : PySem.W.Frag) : Sp := fun vs H Q _ => ∃ (sa : Addr) (i : Nat) (ns : List Int), vs = [.ref sa, nV i] ∧ SqL K H sa (ns.map V.int) ∧ i < 1000 ∧ ∀ H' ba, Same H H' → H ba = none → BagAt H' ba → Q (.ref ba) H'
theorem ok_bag {f : Addr} {fd : FuncData} (F : Fun K "_law_bag" "_law_bag" sBag f fd) (N : Nm mg) : FnOk P w K mg base CX0 1 f fd ["_law_script", "_law_spot"] (spBag K) := by
  refine F.ok scBag (fun vs H Q E h => ?_) (fun cdv A outer s H vs Q E hr h => ?_)
  · obtain ⟨sa, i, ns, rfl, _⟩ := h
    rfl
  · obtain ⟨sa, i, ns, rfl, hs, hi, k⟩ := h
    refine ⟨_, C8.pss_cut (ps_set (i := 2) scBag.nd rfl (.inl rfl) (pe_ifExp (pt_cmpR op_lt (pv 1) (pe_callB call_len_seq (by rfl) N.len (by decide +kernel) (pa_cons (pv 0) pa_nil)) (nomark _)) (pe_ix ix_list (pv 0) (pv 1) (fun _ _ => rfl)) (pe_op op_add (pe_op op_mul pe_int (pv 1)) pe_int)))
      (C8.pss_cut (ps_for PassesOwn.never rfl (pi_list (pe_ifExp (pt_cmpR op_ge (pv 1) (pe_callB call_len_seq (by rfl) N.len (by decide +kernel) (pa_cons (pv 0) pa_nil)) (nomark _)) (pe_slice sl_list (pv 0) po_none (po_some pe_int)) (pe_lst pa_nil))) (pg_name (i := 3) scBag.nd rfl (.inl rfl))
        (pss_one (ps_set (i := 2) scBag.nd rfl (.inl rfl) (pe_op op_mod (pe_callTy call_int1 (by rfl) N.int (by decide +kernel) (pa_cons (pe_op op_add (pe_op op_mul (pv 2) pe_int) (pv 3)) pa_nil)) pe_int))))
      (pss_one (ps_ret (pe_lst (pa_cons (pe_op op_mod (pe_callTy call_int1 (by rfl) N.int (by decide +kernel) (pa_cons (pv 2) pa_nil)) pe_int)
        (pa_cons (pe_ifExp (PW.pt (pw_or (pt_cmpR op_lt (pv 2) pe_int (nomark _)) (pw_or1 (pt_cmpR op_ge (pv 2) (pe_op op_pow pe_int pe_int) (nomark _))))) (pe_callB call_abs (by rfl) N.abs (by decide +kernel) (pa_cons (pv 2) pa_nil)) pe_int) (pa_cons pe_int pa_nil))))))), ?_⟩
    refine ⟨fun σ H1 => ∃ c, σ = [some (.ref sa), some (nV i), some (.int c), none] ∧ Same H H1, ?_, ?_⟩
    · refine ⟨_, rfl, _, rfl, sa, _, rfl, .inl hs, _, _, rfl, rfl, _, rfl, ?_⟩
      rw [List.length_map]
      by_cases hc : (i : Int) < (ns.length : Int)
      · rw [decide_eq_true hc]
        have hi2 : i < ns.length := by omega
        refine iteT ⟨_, rfl, _, rfl, sa, _, _, .int ns[i], rfl, rfl, hs, atI_nat ?_, ?_⟩
        · rw [List.getElem?_map, List.getElem?_eq_getElem hi2]
          rfl
        · exact ⟨_, rfl, Same.refl _⟩
      · rw [decide_eq_false hc]
        refine iteF ⟨_, rfl, _, _, rfl, rfl, .inl (by decide), _, _, rfl, rfl, ?_⟩
        exact ⟨_, rfl, Same.refl _⟩
    rintro σ H1 ⟨c, rfl, s1⟩
    have hs1 := s1.seq hs
    refine ⟨fun σ H2 => ∃ c y, σ = [some (.ref sa), some (nV i), some (.int c), y] ∧ Same H H2, ?_, ?_⟩
    · have fin : ∀ (la : Addr) (ms : List Int) (H2 : Hp), Same H H2 → SqL K H2 la (ms.map V.int) → ∀ x (σ : L2.St) (H3 : Hp) (j : Nat), (ms.map V.int)[j]? = some x → (∃ c y, σ = [some (.ref sa), some (nV i), some (.int c), y] ∧ Same H2 H3) →
          ∃ c z, σ = [some (.ref sa), some (nV i), some (.int c), z] ∧ Same H2 H3 ∧ ∃ n : Int, x = .int n := fun la ms H2 s2 h2 x σ H3 j hj hP => by
        obtain ⟨c, y, e, s3⟩ := hP
        rw [List.getElem?_map] at hj
        obtain ⟨n, _, e2⟩ := Option.map_eq_some_iff.mp hj
        exact ⟨c, y, e, s3, n, e2.symm⟩
      refine ⟨_, rfl, _, rfl, sa, _, rfl, .inl hs1, _, _, rfl, rfl, _, rfl, ?_⟩
      by_cases hc : ((ns.map V.int).length : Int) ≤ (i : Int)
      · rw [decide_eq_true hc]
        refine iteT ⟨_, rfl, _, rfl, sa, _, rfl, hs1, fun la hla => ⟨la, rfl, ⟨_, SqL.of upd_same⟩, ?_⟩⟩
        have e : cutV (ns.map V.int) none (some 3) = (ns.take 3).map V.int := by
          unfold cutV
          rw [HT.sIx_none, show (some (3 : Int)) = some ((3 : Nat) : Int) from rfl, HT.sIx_nat, List.drop_zero, Nat.sub_zero, List.map_take, List.length_map]
          by_cases h : 3 ≤ ns.length
          · rw [Nat.min_eq_left h]
          · rw [Nat.min_eq_right (by omega), List.take_of_length_le (by rw [List.length_map]; exact Nat.le_refl _), List.take_of_length_le (by rw [List.length_map]; omega)]
        rw [e]
        have s2 := sameUT (o := .lst ((ns.take 3).map V.int)) s1 hla
        have hl2 : (upd H1 la (.lst ((ns.take 3).map V.int))) la = some (.lst ((ns.take 3).map V.int)) := upd_same
        generalize (upd H1 la (.lst ((ns.take 3).map V.int))) = H2 at s2 hl2 ⊢
        refine for_list (K := K) (a := la) (xs := (ns.take 3).map V.int) (fun j σ H3 => ∃ c y, σ = [some (.ref sa), some (nV i), some (.int c), y] ∧ Same H2 H3) ⟨c, none, rfl, Same.refl _⟩ (fun j σ H3 _ ⟨_, _, _, s⟩ => SqL.of (s _ _ hl2)) ?_ ?_
        · intro j x σ H3 hj hP
          obtain ⟨c, y, rfl, s3, n, rfl⟩ := fin la _ H2 s2 (SqL.of hl2) x σ H3 j hj hP
          refine ⟨_, rfl, _, _, rfl, rfl, .inr (by decide), _, rfl, _, _, rfl, rfl, .inl ⟨_, rfl, _, _, rfl, rfl, (by decide : (0 : Int) < 2147483587), ?_⟩⟩
          exact ⟨_, _, rfl, s3⟩
        · rintro σ H3 ⟨c, y, rfl, s3⟩
          exact ⟨c, y, rfl, s2.trans s3⟩
      · rw [decide_eq_false hc]
        refine iteF ⟨Nat.zero_le _, fun la hla => ⟨la, rfl, ⟨[], SqL.of upd_same⟩, ?_⟩⟩
        have s2 := sameUT (o := .lst []) s1 hla
        have hl2 : (upd H1 la (.lst [])) la = some (.lst []) := upd_same
        generalize (upd H1 la (.lst [])) = H2 at s2 hl2 ⊢
        refine for_list (K := K) (a := la) (xs := []) (fun j σ H3 => ∃ c y, σ = [some (.ref sa), some (nV i), some (.int c), y] ∧ Same H2 H3) ⟨c, none, rfl, Same.refl _⟩ (fun j σ H3 _ ⟨_, _, _, s⟩ => SqL.of (s _ _ hl2)) ?_ ?_
        · intro j x σ H3 hj hP
          cases hj
        · rintro σ H3 ⟨c, y, rfl, s3⟩
          exact ⟨c, y, rfl, s2.trans s3⟩
    rintro σ H2 ⟨c, y, rfl, s2⟩
    refine ⟨_, rfl, .inl ⟨_, rfl, _, _, rfl, rfl, (by decide : (0 : Int) < 2147483587), ?_⟩⟩
    have c1 : 0 ≤ c % 2147483587 := Int.emod_nonneg _ (by decide)
    have c2 : c % 2147483587 < 2147483587 := Int.emod_lt_of_pos _ (by decide)
    have done : ∀ b1 : Int, (∀ ba, H2 ba = none → Q (.ref ba) (upd H2 ba (.lst [.int (c % 2147483587), .int b1, .int 0]))) := fun b1 ba hba => by
      have hn : H ba = none := by
        cases e : H ba with
        | none => rfl
        | some o =>
          rw [s2 _ _ e] at hba
          cases hba
      exact k _ ba (sameUT s2 hba) hn ⟨_, b1, 0, upd_same, c1, c2⟩
    refine ⟨_, rfl, _, _, rfl, rfl, _, rfl, ?_⟩
    by_cases h0 : c < 0
    · rw [decide_eq_true h0]
      exact iteT (iteT ⟨_, rfl, _, rfl, (by show 3 ≤ sizeLine; decide), done _⟩)
    · rw [decide_eq_false h0]
      refine iteF ⟨_, rfl, _, _, rfl, rfl, ⟨by decide, by decide, by decide⟩, _, _, rfl, rfl, _, rfl, ?_⟩
      by_cases h1 : (10 : Int) ^ (18 : Int).toNat ≤ c
      · rw [decide_eq_true h1]
        exact iteT ⟨_, rfl, _, rfl, (by show 3 ≤ sizeLine; decide), done _⟩
      · rw [decide_eq_false h1]
        exact iteF ⟨(by show 3 ≤ sizeLine; decide), done _⟩
end
end K55

namespace K55
open PySem PySem.Spec PyProof.Rows L2 SX
abbrev sLeft : Stmt := topS 35
theorem none_of {H H1 : Hp} (s : Same H H1) {p : Addr} (h : H1 p = none) : H p = none := by
  cases e : H p with
  | none => rfl
  | some o =>
    rw [s _ _ e] at h
    cases h
theorem at_wsT {K : PySem.W.Frag} {H : Hp} {wa : Addr} {ws : KM.Ws} {n : Nat} {Q : VK} (hw : SqT K H wa (ws.map wS)) (hn : n < ws.length) (q : Q (wS (KM.wd ws n)) H) : rIxT K (.ref wa) (nV n) H Q := ⟨wa, _, _, _, rfl, rfl, hw, at_ws hn, q⟩
section
variable {P : Program} {w : World} {K : PySem.W.Frag} {mg : Str → Option Value} {base : Heap} {C : Addr}
abbrev nLeft : List Str := ["_law_words_here", "_law_spots", "_law_turn", "_law_kept_here", "_law_k", "_law_others", "_law_j", "_law_x"]
theorem scLeft : FnScope nLeft ["_law_words_here"] (defScope sLeft) := ⟨rfl, rfl, rfl, by decide +kernel, rfl, by decide +kernel, by decide +kernel⟩
def spLeft (K : PySem.W.Frag) : Sp := fun vs H Q _ => ∃ (wa : Addr) (ws : KM.Ws), vs = [.ref wa] ∧ SqT K H wa (ws.map wS) ∧ GoodWs ws ∧ ∀ H' D, Same H H' → H D = none → H' D = some (.lst ((KM.core ws).map nV)) → Q (.ref D) H'
theorem ok_left {f : Addr} {fd : FuncData} (F : Fun K "_law_left" "_law_left" sLeft f fd) (N : Nm mg) : FnOk P w K mg base CX0 1 f fd ["_law_words_here"] (spLeft K) := by
  refine F.ok scLeft (fun vs H Q E h => ?_) (fun cdv A outer s H vs Q E hr h => ?_)
  · obtain ⟨a, ws, rfl, _⟩ := h
    rfl
  · obtain ⟨wa, ws, rfl, hw, g, k⟩ := h
    refine ⟨_, pss_cons (ps_set (i := 1) scLeft.nd rfl (.inl rfl) (pe_listRg rfl (by rfl) N.list (prg_1 (by rfl) N.range (pe_callB call_len_seq (by rfl) N.len (by decide +kernel) (pa_cons (pv 0) pa_nil)))))
      (pss_cons (ps_for PassesOwn.never rfl (pi_range1 (by rfl) N.range (pa_cons (pe_callB call_len_seq (by rfl) N.len (by decide +kernel) (pa_cons (pv 0) pa_nil)) pa_nil)) (pg_name (i := 2) scLeft.nd rfl (.inl rfl))
        (pss_cons (ps_set (i := 3) scLeft.nd rfl (.inl rfl) (pe_lst pa_nil))
        (pss_cons (ps_for PassesOwn.never rfl (pi_list (pv 1)) (pg_name (i := 4) scLeft.nd rfl (.inr rfl))
          (pss_cons (ps_set (i := 5) scLeft.nd rfl (.inr rfl) (pe_join0 K pe_str (pe_lc (own := [("_law_j", 6)]) (g := gName 6) rfl scLeft.nd (pi_list (pv 1)) (blkOk_by (N := nLeft) (sc := defScope sLeft) (by decide +kernel))
            (fun _ _ _ _ _ => pg_name (i := 6) scLeft.nd rfl (.inl rfl)) (fun _ _ _ _ _ => pts_one (pt_cmpR op_ne (pv 6) (pv 4) (nomark _))) (fun _ _ _ _ _ => pe_ix (ixT K) (pv 0) (pv 6) (fun _ _ => rfl)))))
          (pss_one (ps_if (pt_cmpR (eqD K hr.units) (pe_lc (own := [("_law_x", 7)]) (g := gName 7) rfl scLeft.nd (pi_str (pe_ix (ixT K) (pv 0) (pv 4) (fun _ _ => rfl))) (blkOk_by (N := nLeft) (sc := defScope sLeft) (by decide +kernel))
              (fun _ _ _ _ _ => pg_name (i := 7) scLeft.nd rfl (.inl rfl)) (fun _ _ _ _ _ => pts_one (pt_cmpR op_notIn_sign (pv 7) (pv 5) (by rfl))) (fun _ _ _ _ _ => pv 7)) (pe_lst pa_nil) (nomark _))
            (pss_one (ps_expr (pe_bm PySem.F.plainAttrs_list PySem.F.slot_list_append PySem.F.type_list_append mt_append (pv 3) (pa_cons (pv 4) pa_nil)))) pss_nil))))
        (pss_one (ps_set (i := 1) scLeft.nd rfl (.inl rfl) (pv 3))))))
      (pss_one (ps_ret (pv 1)))), ?_⟩
    have g9 := g.2.1
    refine ⟨_, rfl, wa, _, rfl, .inr hw, ?_⟩
    rw [List.length_map]
    refine ⟨_, rfl, rgOk_nat (by omega), fun la hla => ?_⟩
    rw [rgV_nat]
    have s1 : Same H (upd H la (.lst ((List.range ws.length).map nV))) := sameU hla
    have hl1 : (upd H la (.lst ((List.range ws.length).map nV))) la = some (.lst ((List.range ws.length).map nV)) := upd_same
    show tSeq _ _ _ _ (upd H la (.lst ((List.range ws.length).map nV)))
    generalize (upd H la (.lst ((List.range ws.length).map nV))) = H1 at s1 hl1 ⊢
    refine ⟨_, rfl, wa, _, rfl, .inr (Same.tup s1 hw), ?_⟩
    rw [List.length_map]
    refine ⟨_, rfl, by omega, by omega, for_range (lo := 0) (n := ws.length) (fun t σ H2 => ∃ la left y2 y3 y4 y5 y6 y7, σ = [some (.ref wa), some (.ref la), y2, y3, y4, y5, y6, y7] ∧ Same H H2 ∧ H la = none ∧ H2 la = some (.lst (left.map nV)) ∧
      KM.lawGo ws (ws.length - t) left = KM.core ws ∧ (∀ k ∈ left, k < ws.length) ∧ left.length ≤ ws.length) ⟨la, List.range ws.length, none, none, none, none, none, none, rfl, s1, hla, hl1, rfl, fun k hk => List.mem_range.mp hk, by rw [List.length_range]; exact Nat.le_refl _⟩ ?_ ?_⟩
    · rintro t σ H2 ht ⟨la, left, y2, y3, y4, y5, y6, y7, rfl, s2, hla, hl2, hgo, hlt, hlen⟩
      refine ⟨Nat.zero_le _, fun ka hka => ?_⟩
      have hkl : ka ≠ la := fun z => by
        rw [z, hl2] at hka
        cases hka
      have s3 : Same H2 (upd H2 ka (.lst [])) := sameU hka
      have hk3 : (upd H2 ka (.lst [])) ka = some (.lst []) := upd_same
      show tSeq _ _ _ _ (upd H2 ka (.lst []))
      generalize (upd H2 ka (.lst [])) = H3 at s3 hk3 ⊢
      refine ⟨_, rfl, la, rfl, ⟨_, SqL.of (s3 _ _ hl2)⟩, for_list (K := K) (a := la) (xs := left.map nV) (fun j σ H4 => ∃ y2 y4 y5 y6 y7, σ = [some (.ref wa), some (.ref la), y2, some (.ref ka), y4, y5, y6, y7] ∧ Same H2 H4 ∧ H4 ka = some (.lst (((left.take j).filter fun k => decide (KM.own ws left k = [])).map nV)))
        ⟨_, _, _, _, _, rfl, s3, hk3⟩ (fun j σ H4 _ ⟨_, _, _, _, _, _, s, _⟩ => SqL.of (s _ _ hl2)) ?_ ?_⟩
      · rintro j y σ H4 hj ⟨y2, y4, y5, y6, y7, rfl, s4, hk4⟩
        rw [List.getElem?_map] at hj
        obtain ⟨n, hn, rfl⟩ := Option.map_eq_some_iff.mp hj
        have hm : n ∈ left := List.mem_of_getElem? hn
        have hw4 := Same.tup (s2.trans s4) hw
        have hl4 := s4 _ _ hl2
        -- others
        refine ⟨⟨_, rfl⟩, .ref la, rfl, la, rfl, ⟨_, SqL.of hl4⟩, fun D hD => lc_fm (walkL nV left) (fun k => decide (k ≠ n)) (fun k => wS (KM.wd ws k)) hD (fun H' s => SqL.of (s _ _ hl4)) (small1000 (by omega)) (fun i H5 K5 hi s k5 => ?_) (fun i H5 K5 hi _ s k5 => ?_) (fun H5 s5 hDl => ?_)⟩
        · refine ⟨nV i, rfl, nV n, rfl, rfl, _, rfl, ?_⟩
          rw [ne_ints]
          exact k5 _ (Same.refl _)
        · exact ⟨_, rfl, _, rfl, at_wsT (Same.tup s hw4) (hlt i hi) (k5 _ (Same.refl _))⟩
        refine rd_join (part := KM.rest left n) g (Nat.le_trans (List.length_filter_le _ _) (by omega)) hDl ?_
        -- the test
        refine ⟨_, rfl, _, rfl, at_wsT (Same.tup s5 hw4) (hlt n hm) ⟨_, rfl, fun D2 hD2 => lc_fm (walkS (KM.wd ws n)) (fun x => decide (x ∉ KM.seen ws (KM.rest left n))) sg hD2 (fun _ _ => trivial) (small1000 (by have := wd_le g n; omega)) (fun c H6 K6 hc s k6 => ?_) (fun c H6 K6 hc _ s k6 => ?_) (fun H6 s6 hDl2 => ?_)⟩⟩
        · refine ⟨sg c, rfl, _, rfl, c, _, rfl, rfl, _, rfl, ?_⟩
          rw [← decide_not]
          exact k6 _ (Same.refl _)
        · exact ⟨_, rfl, k6 _ (Same.refl _)⟩
        have hD2l : H6 D2 = some (.lst ((KM.own ws left n).map sg)) := hDl2
        refine ⟨Nat.zero_le _, fun p hp => ?_⟩
        have s46 : Same H4 (upd H6 p (.lst [])) := sameUT (s5.trans s6) hp
        refine ⟨.list ((KM.own ws left n).map dS), .list [], .lst (SqL.of (sameU hp _ _ hD2l)) (dp_all fun _ _ => .str _), .lst (SqL.of upd_same) .nil, (shaped_strs (f := fun c => [c]) (KM.own ws left n) fun c hc d hd => ?_).1, shaped_nil, _, rfl, ?_⟩
        · rw [List.mem_singleton.mp hd]
          exact wd_let g n c (KM.mem_own.mp hc).1
        rw [eqv_nil]
        generalize (upd H6 p (.lst [])) = H7 at s46 ⊢
        have hk7 := s46 _ _ hk4
        have s27 := s4.trans s46
        have et : left.take (j + 1) = left.take j ++ [n] := by
          rw [List.take_add_one, hn]
          rfl
        by_cases ho : KM.own ws left n = []
        · rw [decide_eq_true ho]
          refine iteT ⟨.ref ka, rfl, .inl ⟨rfl, _, SqL.of hk7⟩, _, rfl, ka, _, _, rfl, rfl, hk7, ?_, ?_⟩
          · rw [List.length_map]
            have h1 := List.length_filter_le (fun k => decide (KM.own ws left k = [])) (left.take j)
            have h2 : (left.take j).length ≤ left.length := by
              rw [List.length_take]
              exact Nat.min_le_right _ _
            exact small1000 (by omega)
          · refine ⟨_, _, _, _, _, rfl, sameW s27 hka, ?_⟩
            rw [upd_same, et, List.filter_append, List.filter_cons_of_pos (by exact decide_eq_true ho), List.map_append]
            rfl
        · rw [decide_eq_false ho]
          refine iteF ⟨_, _, _, _, _, rfl, s27, ?_⟩
          rw [hk7, et, List.filter_append, List.filter_cons_of_neg (by rw [decide_eq_false ho]; exact Bool.false_ne_true), List.filter_nil, List.append_nil]
      · rintro σ H4 ⟨y2, y4, y5, y6, y7, rfl, s4, hk4⟩
        rw [List.length_map, List.take_length] at hk4
        refine ⟨_, rfl, ka, _, _, _, _, _, _, _, rfl, s2.trans s4, none_of s2 hka, hk4, ?_, fun k hk => hlt k (List.mem_filter.mp hk).1, Nat.le_trans (List.length_filter_le _ _) hlen⟩
        rw [← hgo, show ws.length - t = (ws.length - (t + 1)) + 1 by omega]
        rfl
    · rintro σ H2 ⟨la, left, y2, y3, y4, y5, y6, y7, rfl, s2, hla, hl2, hgo, hlt, hlen⟩
      rw [Nat.sub_self] at hgo
      have e : left = KM.core ws := hgo
      rw [e] at hl2
      exact ⟨_, rfl, k _ la s2 hla hl2⟩
end
end K55

namespace K55
open PySem PySem.Spec PyProof.Rows L2 SX
abbrev sLJoined : Stmt := topS 36
abbrev sLRing : Stmt := topS 37
theorem seen_let {ws : KM.Ws} (g : GoodWs ws) (part : List Nat) : ∀ c ∈ KM.seen ws part, c ≤ 122 := fun c hc => by
  obtain ⟨k, _, h⟩ := KM.mem_seen.mp hc
  exact wd_let g k c h
theorem shaped_signs {l : List Nat} (h : ∀ c ∈ l, c ≤ 122) : SeqAt.shaped (.list (l.map dS)) = true := (shaped_strs (f := fun c => [c]) l fun c hc d hd => by
  rw [List.mem_singleton.mp hd]
  exact h c hc).1
section
variable {P : Program} {w : World} {K : PySem.W.Frag} {mg : Str → Option Value} {base : Heap} {C : Addr}
/-! ### _law_is_ring -/
abbrev nLRing : List Str := ["_law_words_here", "_law_part", "_law_seen", "_law_k", "_law_x"]
theorem scLRing : FnScope nLRing ["_law_words_here", "_law_part"] (defScope sLRing) := ⟨rfl, rfl, rfl, by decide +kernel, rfl, by decide +kernel, by decide +kernel⟩
def spLRing (K : PySem.W.Frag) : Sp := fun vs H Q _ => ∃ (wa pa : Addr) (ws : KM.Ws) (part : List Nat), vs = [.ref wa, .ref pa] ∧ SqT K H wa (ws.map wS) ∧ GoodWs ws ∧ SqT K H pa (part.map nV) ∧ (∀ k ∈ part, k < ws.length) ∧ part.length ≤ 9 ∧ ∀ H', Same H H' → Q (.bl (KM.ring ws part)) H'
theorem ok_lring {f : Addr} {fd : FuncData} (F : Fun K "_law_is_ring" "_law_is_ring" sLRing f fd) (N : Nm mg) : FnOk P w K mg base CX0 1 f fd ["_law_words_here", "_law_part"] (spLRing K) := by
  refine F.ok scLRing (fun vs H Q E h => ?_) (fun cdv A outer s H vs Q E hr h => ?_)
  · obtain ⟨wa, pa, ws, part, rfl, _⟩ := h
    rfl
  · obtain ⟨wa, pa, ws, part, rfl, hw, g, hp, hlt, h9, k⟩ := h
    refine ⟨_, pss_cons (ps_set (i := 2) scLRing.nd rfl (.inr rfl) (pe_join0 K pe_str (pe_lc (own := [("_law_k", 3)]) (g := gName 3) rfl scLRing.nd (pi_tup (pv 1)) (blkOk_by (N := nLRing) (sc := defScope sLRing) (by decide +kernel))
            (fun _ _ _ _ _ => pg_name (i := 3) scLRing.nd rfl (.inl rfl)) (fun _ _ _ _ _ => pts_nil) (fun _ _ _ _ _ => pe_ix (ixT K) (pv 0) (pv 3) (fun _ _ => rfl)))))
      (pss_cons (ps_if (PW.pt (pw_or (pt_cmpR op_eq (pe_op op_mod (pe_callTy call_int1 (by rfl) N.int (by decide +kernel) (pa_cons (pe_callB call_len_seq (by rfl) N.len (by decide +kernel) (pa_cons (pv 1) pa_nil)) pa_nil)) pe_int) pe_int (nomark _))
          (pw_or1 (pt_cmpR op_ne (pe_callB call_len_str (by rfl) N.len (by decide +kernel) (pa_cons (pv 2) pa_nil)) (pe_op op_mul pe_int (pe_callB call_len_seq (by rfl) N.len (by decide +kernel) (pa_cons (pv 1) pa_nil))) (nomark _)))))
          (pss_one (ps_ret pe_bl)) pss_nil)
      (pss_one (ps_ret (pe_cmpR (eqD K hr.units) (pe_lc (own := [("_law_x", 4)]) (g := gName 4) rfl scLRing.nd (pi_str (pv 2)) (blkOk_by (N := nLRing) (sc := defScope sLRing) (by decide +kernel))
            (fun _ _ _ _ _ => pg_name (i := 4) scLRing.nd rfl (.inl rfl)) (fun _ _ _ _ _ => pts_one (pt_cmpR op_ne (pe_m1 PySem.F.slot_str_count PySem.F.type_str_count mt_count (pv 2) (pv 4)) pe_int (nomark _))) (fun _ _ _ _ _ => pv 4)) (pe_lst pa_nil) (nomark _))))), ?_⟩
    have hs := KM.seen_len (ws := ws) (part := part) fun k hk => ⟨wd_ge g (hlt k hk), wd_le g k⟩
    refine ⟨⟨_, rfl⟩, .ref pa, rfl, pa, rfl, ⟨_, hp⟩, fun D hD => lc_m (walkT nV part) (fun k => wS (KM.wd ws k)) hD (fun H' s => Same.tup s hp) (small1000 (by omega)) (fun n H1 K1 hn s k1 => ?_) (fun H1 s1 hDl => ?_)⟩
    · exact ⟨_, rfl, _, rfl, at_wsT (Same.tup s hw) (hlt n hn) (k1 _ (Same.refl _))⟩
    refine rd_join (part := part) g h9 hDl ?_
    have hp1 := Same.tup s1 hp
    refine ⟨_, rfl, pa, _, rfl, .inr hp1, .inl ⟨_, rfl, _, _, rfl, rfl, (by decide : (0 : Int) < 2), rfl, _, rfl, ?_⟩⟩
    rw [List.length_map, mod2_int]
    by_cases hev : part.length % 2 = 0
    · rw [decide_eq_true hev]
      refine iteT (iteT ?_)
      have q := k _ s1
      rw [ring_even hev] at q
      exact q
    rw [decide_eq_false hev]
    refine iteF ?_
    have z : (S (KM.seen ws part)).length ≤ sizeLine := by rw [S_len]; exact Nat.le_of_lt (small1000 (by omega))
    refine ⟨_, rfl, S (KM.seen ws part), rfl, z, _, rfl, pa, _, rfl, .inr hp1, _, _, rfl, rfl, .inl (by decide), rfl, _, rfl, ?_⟩
    have e2 : (!decide (V.int ((S (KM.seen ws part)).length : Int) = V.int (2 * ((part.map nV).length : Int)))) = !part.all fun k => decide ((KM.wd ws k).length = 2) := by
      rw [S_len, List.length_map]
      congr 1
      rw [Bool.eq_iff_iff, decide_eq_true_eq, List.all_eq_true]
      constructor
      · intro h k hk
        have := V.int.inj h
        exact decide_eq_true (hs.2.mp (by omega) k hk)
      · intro h
        have := hs.2.mpr fun k hk => of_decide_eq_true (h k hk)
        rw [this]
        rfl
    show if (!decide (V.int ((S (KM.seen ws part)).length : Int) = V.int (2 * ((part.map nV).length : Int)))) = true then _ else _
    rw [e2]
    cases hall : part.all fun k => decide ((KM.wd ws k).length = 2) with
    | false =>
      refine iteT ?_
      have q := k _ s1
      unfold KM.ring at q
      rw [hall, Bool.and_false, Bool.false_and] at q
      exact q
    | true =>
      refine iteF ⟨_, rfl, _, rfl, fun D3 hD3 => lc_fm (walkS (KM.seen ws part)) (fun c => decide ((KM.seen ws part).count c ≠ 2)) sg hD3 (fun _ _ => trivial) (small1000 (by omega)) (fun n H4 K4 hn s k4 => ?_) (fun n H4 K4 hn _ s k4 => ?_) (fun H4 s4 hDl4 => ?_)⟩
      · refine ⟨_, rfl, ⟨_, rfl⟩, _, rfl, _, _, rfl, rfl, rfl, _, rfl, ?_⟩
        rw [count_S]
        have q := k4 _ (Same.refl _)
        rw [← ne_ints] at q
        exact q
      · exact ⟨_, rfl, k4 _ (Same.refl _)⟩
      refine ⟨Nat.zero_le _, fun p hp2 => ?_⟩
      refine ⟨.list (((KM.seen ws part).filter fun c => decide ((KM.seen ws part).count c ≠ 2)).map dS), .list [], .lst (SqL.of (sameU hp2 _ _ hDl4)) (dp_all fun _ _ => .str _), .lst (SqL.of upd_same) .nil, shaped_signs (fun c hc => seen_let g part c (List.mem_filter.mp hc).1), shaped_nil, ?_⟩
      rw [eqv_nil]
      have q := k _ (sameUT (o := .lst []) (s1.trans s4) hp2)
      unfold KM.ring at q
      rw [hall, decide_eq_true (by omega), Bool.true_and, Bool.true_and] at q
      have e : decide (((KM.seen ws part).filter fun c => decide ((KM.seen ws part).count c ≠ 2)) = []) = (KM.seen ws part).all fun x => decide ((KM.seen ws part).count x = 2) := by
        rw [Bool.eq_iff_iff, decide_eq_true_eq, List.filter_eq_nil_iff, List.all_eq_true]
        constructor
        · intro h x hx
          have := h x hx
          simpa using this
        · intro h x hx
          have := h x hx
          simpa using this
      rw [e]
      exact q
end
end K55

namespace K55
open PySem PySem.Spec PyProof.Rows L2 SX
/-- a statement in a loop's or an if's body; what is assigned -/
def subS : Stmt → Nat → Stmt
  | .For _ _ b _ _, i => b.getD i (.Pass ⟨0, 0, 0, 0⟩)
  | .If _ b _ _, i => b.getD i (.Pass ⟨0, 0, 0, 0⟩)
  | s, _ => s
def asgE : Stmt → Expr
  | .Assign _ e _ => e
  | _ => .Constant .none 0 ⟨0, 0, 0, 0⟩
theorem hits_ne (ws : KM.Ws) (part : List Nat) (k : Nat) : (!decide ((KM.wd ws k).filter (fun x => decide (x ∈ KM.seen ws part)) = [])) = KM.hits ws part k := by
  unfold KM.hits
  rw [← decide_not]
  congr 1
  rw [eq_iff_iff, List.filter_eq_nil_iff]
  constructor
  · intro h
    apply Classical.byContradiction
    intro hn
    exact h fun x hx hd => hn ⟨x, hx, of_decide_eq_true hd⟩
  · rintro ⟨x, hx, hs⟩ h
    exact h x hx (decide_eq_true hs)
section
variable {P : Program} {w : World} {K : PySem.W.Frag} {mg : Str → Option Value} {base : Heap} {C : Addr}
abbrev nLJoined : List Str := ["_law_words_here", "_law_left_here", "_law_found", "_law_turn", "_law_part", "_law_again", "_law_seen", "_law_k", "_law_x"]
theorem scLJoined : FnScope nLJoined ["_law_words_here"] (defScope sLJoined) := ⟨rfl, rfl, rfl, by decide +kernel, rfl, by decide +kernel, by decide +kernel⟩
def spLJoined (K : PySem.W.Frag) : Sp := fun vs H Q _ => ∃ (wa : Addr) (ws : KM.Ws), vs = [.ref wa] ∧ SqT K H wa (ws.map wS) ∧ GoodWs ws ∧
  ∀ H' D ps, Same H H' → H' D = some (.lst (refsOf ps)) → PartsAt H' ps → ps.map (·.2) = KM.joined ws → ps.length ≤ 9 → Q (.ref D) H'
theorem ok_ljoined {f : Addr} {fd : FuncData} (F : Fun K "_law_joined" "_law_joined" sLJoined f fd) (N : Nm mg) (cL : Cal P w K mg base "_law_left" 1 ["_law_words_here"] (spLeft K)) : FnOk P w K mg base CX0 2 f fd ["_law_words_here"] (spLJoined K) := by
  refine F.ok scLJoined (fun vs H Q E h => ?_) (fun cdv A outer s H vs Q E hr h => ?_)
  · obtain ⟨a, ws, rfl, _⟩ := h
    rfl
  · obtain ⟨wa, ws, rfl, hw, g, k⟩ := h
    refine ⟨_, pss_cons (ps_par rfl scLJoined.nd (i := 1) (j := 2) rfl rfl (by decide) rfl rfl (pa_cons (pe_cal cL hr (by rfl) (pa_cons (pv 0) pa_nil)) (pa_cons (pe_lst pa_nil) pa_nil)) (by rfl))
      (pss_cons (ps_for PassesOwn.never rfl (pi_range1 (by rfl) N.range (pa_cons (pe_callB call_len_seq (by rfl) N.len (by decide +kernel) (pa_cons (pv 0) pa_nil)) pa_nil)) (pg_name (i := 3) scLJoined.nd rfl (.inl rfl))
        (pss_one (ps_if (pt_cmpR (neD K hr.units) (pv 1) (pe_lst pa_nil) (nomark _))
          (pss_cons (ps_set (i := 4) scLJoined.nd rfl (.inr rfl) (pe_lst (pa_cons (pe_ix ix_list (pv 1) pe_int (fun _ _ => rfl)) pa_nil)))
          (pss_cons (ps_for PassesOwn.never rfl (pi_range1 (by rfl) N.range (pa_cons (pe_callB call_len_seq (by rfl) N.len (by decide +kernel) (pa_cons (pv 0) pa_nil)) pa_nil)) (pg_name (i := 5) scLJoined.nd rfl (.inl rfl))
            (pss_cons (ps_set (i := 6) scLJoined.nd rfl (.inr rfl) (pe_join0 K pe_str (pe_lc (own := [("_law_k", 7)]) (g := gName 7) rfl scLJoined.nd (pi_list (pv 4)) (blkOk_by (N := nLJoined) (sc := defScope sLJoined) (by decide +kernel))
                (fun _ _ _ _ _ => pg_name (i := 7) scLJoined.nd rfl (.inl rfl)) (fun _ _ _ _ _ => pts_nil) (fun _ _ _ _ _ => pe_ix (ixT K) (pv 0) (pv 7) (fun _ _ => rfl)))))
            (pss_one (ps_set (i := 4) scLJoined.nd rfl (.inr rfl) (pe_lc (own := [("_law_k", 7)]) (g := gName 7) rfl scLJoined.nd (pi_list (pv 1)) (blkOk_by (N := nLJoined) (sc := defScope sLJoined) (by decide +kernel))
                (fun _ _ _ _ _ => pg_name (i := 7) scLJoined.nd rfl (.inl rfl))
                (fun _ _ _ _ _ => pts_one (pt_cmpR (neD K hr.units) (pe_lc (own := [("_law_x", 8)]) (g := gName 8) rfl scLJoined.nd (pi_str (pe_ix (ixT K) (pv 0) (pv 7) (fun _ _ => rfl))) (blkOk_by (N := nLJoined) (sc := relS (lcScope (asgE (subS (subS (subS ((defBody sLJoined).getD 1 (.Pass ⟨0, 0, 0, 0⟩)) 0) 1) 1))) (defScope sLJoined)) (by decide +kernel))
                  (fun _ _ _ _ _ => pg_name (i := 8) scLJoined.nd rfl (.inl rfl)) (fun _ _ _ _ _ => pts_one (pt_cmpR op_in_sign (pv 8) (pv 6) (by rfl))) (fun _ _ _ _ _ => pv 8)) (pe_lst pa_nil) (nomark _)))
                (fun _ _ _ _ _ => pv 7))))))
          (pss_cons (ps_expr (pe_bm PySem.F.plainAttrs_list PySem.F.slot_list_append PySem.F.type_list_append mt_append (pv 2) (pa_cons (pe_callTy call_tuple_of (by rfl) N.tuple (by decide +kernel) (pa_cons (pv 4) pa_nil)) pa_nil)))
          (pss_one (ps_setLc (i := 1) (own := [("_law_k", 7)]) (g := gName 7) rfl scLJoined.nd rfl rfl (sw_true rfl rfl rfl (by decide +kernel)) (pi_list (pv 1)) (blkOk_by (N := nLJoined) (sc := defScope sLJoined) (by decide +kernel))
            (fun _ _ _ _ _ => pg_name (i := 7) scLJoined.nd rfl (.inl rfl)) (fun _ _ _ _ _ => pts_one (pt_cmpR (ninS K) (pv 7) (pv 4) (by rfl))) (fun _ _ _ _ _ => pv 7)))))) pss_nil)))
      (pss_one (ps_ret (pv 2)))), ?_⟩
    have g9 := g.2.1
    have kk := KM.core_keeps ws
    have kl := kk.len
    refine ⟨_, rfl, wa, ws, rfl, hw, g, fun H1 la s1 hla hl1 => ⟨Nat.zero_le _, fun fa hfa => ⟨_, _, rfl, ?_⟩⟩⟩
    have hfn : H fa = none := none_of s1 hfa
    have hlf : la ≠ fa := ne_of_none hl1 hfa
    have s2 := sameUT (o := .lst []) s1 hfa
    have hl2 := sameU (o := .lst []) hfa _ _ hl1
    have hf2 : (upd H1 fa (.lst [])) fa = some (.lst []) := upd_same
    show tSeq _ _ _ _ (upd H1 fa (.lst []))
    generalize (upd H1 fa (.lst [])) = H2 at s2 hl2 hf2 ⊢
    refine ⟨_, rfl, wa, _, rfl, .inr (Same.tup s2 hw), ?_⟩
    rw [List.length_map]
    refine ⟨_, rfl, by omega, by omega, for_range (lo := 0) (n := ws.length) (fun t σ H2 => ∃ la left ps y3 y4 y5 y6 y7 y8, σ = [some (.ref wa), some (.ref la), some (.ref fa), y3, y4, y5, y6, y7, y8] ∧ Same H H2 ∧ la ≠ fa ∧ H2 la = some (.lst (left.map nV)) ∧ H2 fa = some (.lst (refsOf ps)) ∧ PartsAt H2 ps ∧
      ps.map (·.2) ++ KM.parts ws (ws.length - t) left = KM.joined ws ∧ (∀ k ∈ left, k < ws.length) ∧ left.length ≤ ws.length - t ∧ ps.length + left.length ≤ 9)
      ⟨la, KM.core ws, [], none, none, none, none, none, none, rfl, s2, hlf, hl2, hf2, (fun e he => by cases he), rfl, kk.lt, kl, by simpa using Nat.le_trans kl g9⟩ ?_ ?_⟩
    · rintro t σ H2 ht ⟨la, left, ps, y3, y4, y5, y6, y7, y8, rfl, s3, hne, h1, h2, hP, hj, hlt, hll, h9⟩
      refine ⟨.ref la, rfl, Nat.zero_le _, fun ep hep => ?_⟩
      have s4 := sameUT (o := .lst []) s3 hep
      have hE := sameU (o := .lst []) hep
      refine ⟨dL left, .list [], dp_ints (SqL.of (hE _ _ h1)), .lst (SqL.of upd_same) .nil, shaped_dL _, shaped_nil, _, rfl, ?_⟩
      rw [eqv_nil]
      cases left with
      | nil =>
        rw [decide_eq_true rfl]
        refine iteF ⟨la, [], ps, _, _, _, _, _, _, rfl, s4, hne, hE _ _ h1, hE _ _ h2, hP.same hE, ?_, hlt, Nat.zero_le _, h9⟩
        rw [KM.parts_nil] at hj ⊢
        exact hj
      | cons a0 r =>
        rw [decide_eq_false (fun z => nomatch z)]
        have ha : a0 ∈ a0 :: r := List.mem_cons_self
        have hw0 : ∀ k ∈ a0 :: r, KM.wd ws k ≠ [] := fun k hk => wd_ne g (hlt k hk)
        have hr9 : (a0 :: r).length = r.length + 1 := rfl
        refine iteT ?_
        generalize eH : upd H2 ep (.lst []) = H3 at s4 hE ⊢
        have h1b := hE _ _ h1
        have h2b := hE _ _ h2
        have hPb := hP.same hE
        refine ⟨_, rfl, la, _, 0, nV a0, rfl, rfl, SqL.of h1b, atI_nat (j := 0) rfl, (by show 1 ≤ sizeLine; decide), fun pa hpa => ?_⟩
        have hpf : pa ≠ fa := fun z => by
          rw [z, h2b] at hpa
          cases hpa
        have s5 : Same H3 (upd H3 pa (.lst [nV a0])) := sameU hpa
        have hpa5 : (upd H3 pa (.lst [nV a0])) pa = some (.lst ([a0].map nV)) := upd_same
        show tSeq _ _ _ _ (upd H3 pa (.lst [nV a0]))
        generalize (upd H3 pa (.lst [nV a0])) = H5 at s5 hpa5 ⊢
        refine ⟨_, rfl, wa, _, rfl, .inr (Same.tup (s4.trans s5) hw), ?_⟩
        rw [List.length_map]
        refine ⟨_, rfl, by omega, by omega, for_range (lo := 0) (n := ws.length) (fun u σ H6 => ∃ pa y5 y6 y7 y8, σ = [some (.ref wa), some (.ref la), some (.ref fa), some (nV t), some (.ref pa), y5, y6, y7, y8] ∧ Same H3 H6 ∧ pa ≠ fa ∧ H6 pa = some (.lst ((KM.it ws (a0 :: r) a0 u).map nV)))
          ⟨pa, _, _, _, _, (by rw [Int.zero_add]; rfl), s5, hpf, hpa5⟩ ?_ ?_⟩
        · rintro u σ H6 hu ⟨pa, y5, y6, y7, y8, rfl, s6, hpf, hpa⟩
          have hw6 := Same.tup (s4.trans s6) hw
          have hi2 := KM.it_len_le (ws := ws) ha u
          refine ⟨⟨_, rfl⟩, .ref pa, rfl, pa, rfl, ⟨_, SqL.of hpa⟩, fun D hD => lc_m (walkL nV (KM.it ws (a0 :: r) a0 u)) (fun k => wS (KM.wd ws k)) hD (fun H' s => SqL.of (s _ _ hpa)) (small1000 (by omega)) (fun i H7 K7 hi s k7 => ?_) (fun H7 s7 hDl => ?_)⟩
          · exact ⟨_, rfl, _, rfl, at_wsT (Same.tup s hw6) (hlt i (KM.it_sub ha u i hi)) (k7 _ (Same.refl _))⟩
          refine rd_join (part := KM.it ws (a0 :: r) a0 u) g (by omega) hDl ?_
          have s37 := s6.trans s7
          refine ⟨.ref la, rfl, la, rfl, ⟨_, SqL.of (s37 _ _ h1b)⟩, fun D2 hD2 => lc_fm (walkL nV (a0 :: r)) (KM.hits ws (KM.it ws (a0 :: r) a0 u)) nV hD2 (fun H' s => SqL.of (s _ _ (s37 _ _ h1b))) (small1000 (by omega)) (fun i H8 K8 hi s k8 => ?_) (fun i H8 K8 hi _ s k8 => ?_) (fun H8 s8 hDl2 => ?_)⟩
          · refine ⟨_, rfl, _, rfl, at_wsT (Same.tup s (Same.tup s7 hw6)) (hlt i hi) ⟨_, rfl, fun D3 hD3 => lc_fm (walkS (KM.wd ws i)) (fun x => decide (x ∈ KM.seen ws (KM.it ws (a0 :: r) a0 u))) sg hD3 (fun _ _ => trivial) (small1000 (by have := wd_le g i; omega)) (fun c H9 K9 hc s9 k9 => ?_) (fun c H9 K9 hc _ s9 k9 => ?_) (fun H9 s9 hDl3 => ?_)⟩⟩
            · exact ⟨sg c, rfl, _, rfl, c, _, rfl, rfl, _, rfl, k9 _ (Same.refl _)⟩
            · exact ⟨_, rfl, k9 _ (Same.refl _)⟩
            refine ⟨Nat.zero_le _, fun p hp => ?_⟩
            refine ⟨.list (((KM.wd ws i).filter fun x => decide (x ∈ KM.seen ws (KM.it ws (a0 :: r) a0 u))).map dS), .list [], .lst (SqL.of (sameU hp _ _ hDl3)) (dp_all fun _ _ => .str _), .lst (SqL.of upd_same) .nil, shaped_signs (fun c hc => wd_let g i c (List.mem_filter.mp hc).1), shaped_nil, _, rfl, ?_⟩
            rw [eqv_nil, hits_ne]
            exact k8 _ (sameUT s9 hp)
          · exact ⟨_, rfl, k8 _ (Same.refl _)⟩
          have hDf : D2 ≠ fa := fun z => by
            rw [z, s37 _ _ h2b] at hD2
            cases hD2
          exact ⟨D2, _, _, _, _, rfl, s37.trans s8, hDf, hDl2⟩
        · rintro σ H6 ⟨pa, y5, y6, y7, y8, rfl, s36, hpf, hpa⟩
          have hc : KM.it ws (a0 :: r) a0 ws.length = KM.comp ws (a0 :: r) a0 := rfl
          rw [hc] at hpa
          have h1c := s36 _ _ h1b
          have h2c := s36 _ _ h2b
          have hPc := hPb.same s36
          have s06 := s4.trans s36
          refine ⟨.ref fa, rfl, .inl ⟨rfl, _, SqL.of h2c⟩, .ref pa, rfl, pa, _, rfl, .inl ⟨SqL.of hpa, fun tq htq => ⟨fa, _, _, rfl, rfl, sameU htq _ _ h2c, ?_, ?_⟩⟩⟩
          · rw [List.length_map]
            exact small1000 (by omega)
          have hqf : tq ≠ fa := fun z => by
            rw [z, h2c] at htq
            cases htq
          have s8 : Same H (upd (upd H6 tq (.tup ((KM.comp ws (a0 :: r) a0).map nV))) fa (.lst (refsOf ps ++ [.ref tq]))) := sameW (sameUT s06 htq) hfn
          have h1d : (upd (upd H6 tq (.tup ((KM.comp ws (a0 :: r) a0).map nV))) fa (.lst (refsOf ps ++ [.ref tq]))) la = some (.lst ((a0 :: r).map nV)) := by
            rw [upd_ne hne]
            exact sameU htq _ _ h1c
          have hpd : (upd (upd H6 tq (.tup ((KM.comp ws (a0 :: r) a0).map nV))) fa (.lst (refsOf ps ++ [.ref tq]))) pa = some (.lst ((KM.comp ws (a0 :: r) a0).map nV)) := by
            rw [upd_ne hpf]
            exact sameU htq _ _ hpa
          have h2d : (upd (upd H6 tq (.tup ((KM.comp ws (a0 :: r) a0).map nV))) fa (.lst (refsOf ps ++ [.ref tq]))) fa = some (.lst (refsOf (ps ++ [(tq, KM.comp ws (a0 :: r) a0)]))) := by
            rw [upd_same]
            unfold refsOf
            rw [List.map_append]
            rfl
          have hPd : PartsAt (upd (upd H6 tq (.tup ((KM.comp ws (a0 :: r) a0).map nV))) fa (.lst (refsOf ps ++ [.ref tq]))) (ps ++ [(tq, KM.comp ws (a0 :: r) a0)]) := fun e he => by
            rcases List.mem_append.mp he with z | z
            · have q := sameU (o := .tup ((KM.comp ws (a0 :: r) a0).map nV)) htq _ _ (hPc e z)
              rw [upd_ne (fun z2 => by rw [z2, sameU htq _ _ h2c] at q; cases q)]
              exact q
            · rw [List.mem_singleton.mp z]
              show (upd (upd H6 tq (.tup ((KM.comp ws (a0 :: r) a0).map nV))) fa (.lst (refsOf ps ++ [.ref tq]))) tq = _
              rw [upd_ne hqf, upd_same]
          generalize (upd (upd H6 tq (.tup ((KM.comp ws (a0 :: r) a0).map nV))) fa (.lst (refsOf ps ++ [.ref tq]))) = H8 at s8 h1d hpd h2d hPd ⊢
          refine ⟨.ref la, rfl, la, rfl, ⟨_, SqL.of h1d⟩, fun D hD => lc_fm (walkL nV (a0 :: r)) (fun k => decide (k ∉ KM.comp ws (a0 :: r) a0)) nV hD (fun H' s => SqL.of (s _ _ h1d)) (small1000 (by omega)) (fun n H9 K9 hn s k9 => ?_) (fun n H9 K9 hn _ s k9 => ?_) (fun H9 s9 hDl => ?_)⟩
          · refine ⟨_, rfl, _, rfl, pa, _, rfl, .inl (SqL.of (s _ _ hpd)), rfl, flat_ints _, _, rfl, ?_⟩
            show K9 (!inV (nV n) ((KM.comp ws (a0 :: r) a0).map nV)) H9
            rw [in_ints, ← decide_not]
            exact k9 _ (Same.refl _)
          · exact ⟨_, rfl, k9 _ (Same.refl _)⟩
          have hDf : D ≠ fa := fun z => by
            rw [z, h2d] at hD
            cases hD
          have hl := KM.less (c := KM.comp ws (a0 :: r) a0) ha (KM.it_mem hw0 ha _)
          refine ⟨D, _, _, _, _, _, _, _, _, rfl, s8.trans s9, hDf, hDl, s9 _ _ h2d, hPd.same s9, ?_, fun k hk => hlt k (List.mem_filter.mp hk).1, by omega, ?_⟩
          · rw [← hj, List.map_append, show ws.length - t = (ws.length - (t + 1)) + 1 by omega, KM.parts_cons]
            show (ps.map (·.2) ++ [KM.comp ws (a0 :: r) a0]) ++ _ = _
            rw [List.append_assoc]
            rfl
          · rw [List.length_append]
            simp only [List.length_cons, List.length_nil] at h9 hl ⊢
            omega
    · rintro σ H2 ⟨la, left, ps, y3, y4, y5, y6, y7, y8, rfl, s3, hne, h1, h2, hP, hj, hlt, hll, h9⟩
      rw [Nat.sub_self] at hj hll
      have e : left = [] := List.length_eq_zero_iff.mp (by omega)
      subst e
      rw [KM.parts_nil, List.append_nil] at hj
      exact ⟨_, rfl, k _ fa ps s3 h2 hP hj (by simpa using h9)⟩
end
end K55

namespace K55
open PySem PySem.Spec PyProof.Rows L2 SX
theorem lt_cps1 {c d : Nat} (h : c < d) : ltCps [c] [d] = true := by
  simp [ltCps, h]
theorem sort_signs : ∀ {cs : List Nat}, cs.Nodup → sortedS (cs.map sgS) = true → cs.length ≤ 2 → cs.Pairwise (· < ·)
  | [], _, _, _ => List.Pairwise.nil
  | [c], _, _, _ => List.pairwise_singleton ..
  | [c, d], h, hs, _ => by
    have hne : c ≠ d := fun z => by
      rw [z] at h
      simp at h
    have hlt : ¬ d < c := fun z => by
      have e := lt_cps1 z
      simp only [List.map_cons, List.map_nil, sortedS, risingS] at hs
      rw [e] at hs
      simp at hs
    refine List.Pairwise.cons (fun x hx => ?_) (List.pairwise_singleton ..)
    have : x = d := by simpa using hx
    omega
  | _ :: _ :: _ :: _, _, _, h => by simp at h
theorem cut_S (l : List Nat) (m : Nat) : cutS (S l) none (some (m : Int)) = S (l.take m) := by
  unfold cutS
  rw [HT.sIx_none, HT.sIx_nat, List.drop_zero, Nat.sub_zero, S_len]
  show (⟨(l.take (min m l.length)).toArray⟩ : Str) = ⟨(l.take m).toArray⟩
  by_cases h : m ≤ l.length
  · rw [Nat.min_eq_left h]
  · rw [Nat.min_eq_right (by omega), List.take_of_length_le (Nat.le_refl _), List.take_of_length_le (by omega)]
def AscL (l : List Nat) : Prop := l.Pairwise (· < ·) ∧ (∀ c ∈ l, 97 ≤ c ∧ c ≤ 122) ∧ 2 ≤ l.length ∧ l.length ≤ 8
theorem AscL.take {l : List Nat} (h : AscL l) {m : Nat} (hm : 2 ≤ m) : AscL (l.take m) :=
  ⟨h.1.sublist (List.take_sublist _ _), fun c hc => h.2.1 c (List.mem_of_mem_take hc), by rw [List.length_take]; have := h.2.2.1; omega, by rw [List.length_take]; have := h.2.2.2; omega⟩
theorem three {x : V} (h : x ∈ [V.str "abcdefgh", .str "bdghkpqz", .str "acfmtvxz"]) : ∃ l, x = wS l ∧ AscL l := by
  rcases List.mem_cons.mp h with e | h
  · refine ⟨[97, 98, 99, 100, 101, 102, 103, 104], by rw [e]; decide +kernel, ?_, ?_, ?_, ?_⟩ <;> decide
  rcases List.mem_cons.mp h with e | h
  · refine ⟨[98, 100, 103, 104, 107, 112, 113, 122], by rw [e]; decide +kernel, ?_, ?_, ?_, ?_⟩ <;> decide
  rcases List.mem_cons.mp h with e | h
  · refine ⟨[97, 99, 102, 109, 116, 118, 120, 122], by rw [e]; decide +kernel, ?_, ?_, ?_, ?_⟩ <;> decide
  · cases h
/-- a word of these letters -/
def WordOf (ls w : List Nat) : Prop := Rises w ∧ ∀ c ∈ w, c ∈ ls
theorem word_of {ls cs : List Nat} (A : AscL ls) (nd : cs.Nodup) (hs : sortedS (cs.map sgS) = true) (h1 : 1 ≤ cs.length) (h2 : cs.length ≤ 2) (hm : ∀ c ∈ cs, c ∈ ls) : WordOf ls cs :=
  ⟨⟨h1, h2, fun c hc => A.2.1 c (hm c hc), sort_signs nd hs h2⟩, hm⟩
/-! ### the bag and the rest -/
theorem sameBW {ba p : Addr} {H H1 : Hp} {o : HO} (s : SameB ba H H1) (h : H p = none) : SameB ba H (upd H1 p o) := fun b x n e => by
  rw [upd_ne (ne_of_none e h)]
  exact s b x n e
theorem none_ofB {ba p : Addr} {H H1 : Hp} (s : SameB ba H H1) (hb : p ≠ ba) (h : H1 p = none) : H p = none := by
  cases e : H p with
  | none => rfl
  | some o =>
    rw [s _ _ hb e] at h
    cases h
theorem BagAt.upd {ba p : Addr} {H : Hp} {o : HO} (h : BagAt H ba) (n : ba ≠ p) : BagAt (L2.upd H p o) ba := by
  obtain ⟨b0, b1, b2, e, h⟩ := h
  exact ⟨b0, b1, b2, by rw [upd_ne n]; exact e, h⟩
theorem BagAt.ne {ba p : Addr} {H : Hp} (h : BagAt H ba) (n : H p = none) : ba ≠ p := fun z => by
  obtain ⟨b0, b1, b2, e, _⟩ := h
  rw [z, n] at e
  cases e
theorem erase_map {α β : Type} (f : α → β) : ∀ (l : List α) (d : Nat), (l.map f).eraseIdx d = (l.eraseIdx d).map f
  | [], _ => rfl
  | x :: l, 0 => rfl
  | x :: l, d + 1 => by
    rw [List.map_cons, List.eraseIdx_cons_succ, List.eraseIdx_cons_succ, List.map_cons, erase_map f l d]
theorem PT.weak {X : Cx} {e : Expr} {t t' : TT} (h : PT X e t) (w : ∀ σ H Q, t' σ H Q → t σ H Q) : PT X e t' := ⟨fun pins s σ H Q I q => h.run pins s σ H Q I (w σ H Q q)⟩
theorem rd_signs {K : PySem.W.Frag} {H : Hp} {Q : VK} {p : Addr} {cs : List Nat} (hp : H p = some (.lst ((cs.map sgS).map V.str))) (h : cs.length ≤ 1000) (q : Q (wS cs) H) : rJ K (.str "") [.ref p] H Q := by
  refine ⟨rfl, p, cs.map fun c => [c], rfl, .inl (SqL.of ?_), ?_, ?_⟩
  · rw [hp, List.map_map, List.map_map]
    rfl
  · rw [flat_signs]
    exact h
  · rw [flat_signs]
    exact q
/-- the index before k in a ring of sz -/
def tPrev : TE := fun σ H Q => ∃ k sz : Nat, σ[5]? = some (some (nV k)) ∧ σ[4]? = some (some (nV sz)) ∧ 1 ≤ sz ∧ Q (nV (if 0 < k then k - 1 else sz - 1)) H
/-- the test of the web's while -/
def tCond : TT := fun σ H Q => ∃ (ba fa : Addr) (fs : List (List Nat)), σ[0]? = some (some (.ref ba)) ∧ σ[1]? = some (some (.int 9)) ∧ σ[3]? = some (some (.ref fa)) ∧ BagAt H ba ∧ H fa = some (.lst (fs.map wS)) ∧
  (∀ H', SameB ba H H' → BagAt H' ba → fs.length < 9 → Q true H') ∧ ∀ H', SameB ba H H' → BagAt H' ba → 1 ≤ fs.length → Q false H'
section
variable {P : Program} {w : World} {K : PySem.W.Frag} {mg : Str → Option Value} {base : Heap} {C : Addr}
abbrev sWeb : Stmt := topS 38
abbrev nWeb : List Str := ["_law_bag_here", "_law_most", "_law_letters_here", "_law_found", "_law_size", "_law_k", "_law_some", "_law_left_here", "_law_mixed_here"]
theorem scWeb : FnScope nWeb ["_law_bag_here", "_law_most"] (defScope sWeb) := ⟨rfl, rfl, rfl, by decide +kernel, rfl, by decide +kernel, by decide +kernel⟩
def spWeb : Sp := fun vs H Q _ => ∃ ba : Addr, vs = [.ref ba, .int 9] ∧ BagAt H ba ∧ ∀ H' p ws, SameB ba H H' → BagAt H' ba → H' p = some (.tup (ws.map wS)) → Fit ws → Q (.ref p) H'
/-- the words found: a list of words of these letters -/
def FoundAt (H : Hp) (fa : Addr) (ls : List Nat) (fs : List (List Nat)) : Prop := H fa = some (.lst (fs.map wS)) ∧ ∀ x ∈ fs, WordOf ls x
theorem ok_web {f : Addr} {fd : FuncData} (F : Fun K "_law_web" "_law_web" sWeb f fd) (N : Nm mg) (cT : Cal P w K mg base "_law_take" 1 ["_law_bag_here", "_law_many"] spTake) (cO : Cal P w K mg base "_law_of" 2 ["_law_bag_here", "_law_things"] spOf) : FnOk P w K mg base CX0 3 f fd ["_law_bag_here", "_law_most"] spWeb := by
  refine F.ok scWeb (fun vs H Q E h => ?_) (fun cdv A outer s H vs Q E hr h => ?_)
  · obtain ⟨ba, rfl, _⟩ := h
    rfl
  · obtain ⟨ba, rfl, hb, k⟩ := h
    have hr1 : Room 1 _ := hr.mono (by decide)
    have w1 : ∀ σ H Q, tPrev σ H Q → tIf (tTest (tOp (rI0 fun i j => V.bl (decide (j < i))) (tVar 5) (tC (.int 0)))) (tOp (rI0 fun i j => V.int (i - j)) (tVar 5) (tC (.int 1))) (tOp (rI0 fun i j => V.int (i - j)) (tVar 4) (tC (.int 1))) σ H Q := by
      rintro σ H Q ⟨k, sz, h5, h4, h1, q⟩
      refine ⟨_, h5, _, _, rfl, rfl, _, rfl, ?_⟩
      by_cases hk : 0 < k
      · rw [decide_eq_true (show (0 : Int) < (k : Int) by omega)]
        refine iteT ⟨_, h5, _, _, rfl, rfl, ?_⟩
        rw [if_pos hk] at q
        have e : (k : Int) - 1 = ((k - 1 : Nat) : Int) := by omega
        show Q (V.int ((k : Int) - 1)) H
        rw [e]
        exact q
      · rw [decide_eq_false (show ¬ (0 : Int) < (k : Int) by omega)]
        refine iteF ⟨_, h4, _, _, rfl, rfl, ?_⟩
        rw [if_neg hk] at q
        have e : (sz : Int) - 1 = ((sz - 1 : Nat) : Int) := by omega
        show Q (V.int ((sz : Int) - 1)) H
        rw [e]
        exact q
    refine ⟨_, pss_cons (ps_par rfl scWeb.nd (i := 2) (j := 3) rfl rfl (by decide) rfl rfl
        (pa_cons (pe_slice sl_str (pe_cal cO hr (by rfl) (pa_cons (pv 0) (pa_cons (pe_lst (pa_cons pe_str (pa_cons pe_str (pa_cons pe_str pa_nil)))) pa_nil))) po_none (po_some (pe_op op_add pe_int (pe_cal cT hr1 (by rfl) (pa_cons (pv 0) (pa_cons pe_int pa_nil))))))
          (pa_cons (pe_lst pa_nil) pa_nil)) (by rfl))
      (C8.pss_cut (ps_if (pt_cmpR op_eq (pe_cal cT hr1 (by rfl) (pa_cons (pv 0) (pa_cons pe_int pa_nil))) pe_int (nomark _))
          (pss_cons (ps_set (i := 4) scWeb.nd rfl (.inl rfl) (pe_callB (call_min2 rfl) (by rfl) N.min (by decide +kernel) (pa_cons (pe_callB call_len_str (by rfl) N.len (by decide +kernel) (pa_cons (pv 2) pa_nil)) (pa_cons (pe_op op_add pe_int (pe_cal cT hr1 (by rfl) (pa_cons (pv 0) (pa_cons pe_int pa_nil)))) pa_nil))))
          (pss_one (ps_for PassesOwn.never rfl (pi_range1 (by rfl) N.range (pa_cons (pe_ifExp (pt_cmpR op_gt (pv 4) pe_int (nomark _)) (pv 4) pe_int) pa_nil)) (pg_name (i := 5) scWeb.nd rfl (.inl rfl))
            (pss_one (ps_expr (pe_bm PySem.F.plainAttrs_list PySem.F.slot_list_append PySem.F.type_list_append mt_append (pv 3) (pa_cons
              (pe_join0 K pe_str (pe_callB cr_sortedS (by rfl) N.sorted (by decide +kernel) (pa_cons (pe_lst (pa_cons (pe_ix ix_str (pv 2) (pv 5) (fun _ _ => rfl)) (pa_cons (pe_ix ix_str (pv 2) (PE.weak (t' := tPrev) (pe_ifExp (pt_cmpR op_gt (pv 5) pe_int (nomark _)) (pe_op op_sub (pv 5) pe_int) (pe_op op_sub (pv 4) pe_int)) w1) (fun _ _ => rfl)) pa_nil))) pa_nil))) pa_nil)))))))
          pss_nil)
      (pss_cons (ps_while PassesOwn.never (PT.weak (t' := tCond) (PW.pt (pw_or (pt_cmpR op_lt (pe_callB call_len_seq (by rfl) N.len (by decide +kernel) (pa_cons (pv 3) pa_nil)) pe_int (nomark _))
            (pw_or1 (PW.pt (pw_and (pt_cmpR op_lt (pe_callB call_len_seq (by rfl) N.len (by decide +kernel) (pa_cons (pv 3) pa_nil)) (pv 1) (nomark _)) (pw_and1 (pt_cmpR op_gt (pe_cal cT hr1 (by rfl) (pa_cons (pv 0) (pa_cons pe_int pa_nil))) pe_int (nomark _))))))))
            (fun σ H Q q => by
              obtain ⟨ba, fa, fs, e0, e1, e3, b, hf, q1, q2⟩ := q
              have el : (fs.map wS).length = fs.length := List.length_map ..
              refine ⟨_, e3, fa, _, rfl, .inl (SqL.of hf), _, _, rfl, rfl, _, rfl, ?_⟩
              rw [el]
              by_cases h1 : fs.length < 1
              · rw [decide_eq_true (show (fs.length : Int) < 1 by omega)]
                exact iteT (q1 H (SameB.refl ba H) b (by omega))
              rw [decide_eq_false (show ¬ (fs.length : Int) < 1 by omega)]
              refine iteF ⟨_, e3, fa, _, rfl, .inl (SqL.of hf), _, e1, _, _, rfl, rfl, _, rfl, ?_⟩
              rw [el]
              by_cases h9 : fs.length < 9
              · rw [decide_eq_true (show (fs.length : Int) < 9 by omega)]
                refine iteT ⟨_, e0, ba, 5, rfl, b, by decide, by decide, fun H' d s' b' hd => ⟨_, _, rfl, rfl, _, rfl, ?_⟩⟩
                by_cases h0 : 0 < d
                · rw [decide_eq_true (show (0 : Int) < (d : Int) by omega)]
                  exact q1 H' s' b' h9
                · rw [decide_eq_false (show ¬ (0 : Int) < (d : Int) by omega)]
                  exact q2 H' s' b' (by omega)
              · rw [decide_eq_false (show ¬ (fs.length : Int) < 9 by omega)]
                exact iteF (q2 H (SameB.refl ba H) b (by omega))))
          (pss_cons (ps_set (i := 6) scWeb.nd rfl (.inl rfl) (pe_lst (pa_cons (pe_cal cO hr (by rfl) (pa_cons (pv 0) (pa_cons (pv 2) pa_nil))) (pa_cons (pe_cal cO hr (by rfl) (pa_cons (pv 0) (pa_cons (pv 2) pa_nil))) pa_nil))))
          (pss_one (ps_expr (pe_bm PySem.F.plainAttrs_list PySem.F.slot_list_append PySem.F.type_list_append mt_append (pv 3) (pa_cons
              (pe_join0 K pe_str (pe_callB (cr_sortedTx rfl) (by rfl) N.sorted (by decide +kernel) (pa_cons (pe_callTy (cr_setL rfl) (by rfl) N.set (by decide +kernel) (pa_cons (pv 6) pa_nil)) pa_nil))) pa_nil))))))
      (pss_cons (ps_par rfl scWeb.nd (i := 7) (j := 8) rfl rfl (by decide) rfl rfl (pa_cons (pe_slice sl_list (pv 3) po_none (po_some (pv 1))) (pa_cons (pe_lst pa_nil) pa_nil)) (by rfl))
      (pss_cons (ps_for PassesOwn.never rfl (pi_range1 (by rfl) N.range (pa_cons (pe_callB call_len_seq (by rfl) N.len (by decide +kernel) (pa_cons (pv 7) pa_nil)) pa_nil)) (pg_name (i := 5) scWeb.nd rfl (.inl rfl))
          (pss_one (ps_expr (pe_bm PySem.F.plainAttrs_list PySem.F.slot_list_append PySem.F.type_list_append mt_append (pv 8) (pa_cons
              (pe_bm PySem.F.plainAttrs_list PySem.F.slot_list_pop PySem.F.type_list_pop mt_popAt (pv 7) (pa_cons (pe_cal cT hr1 (by rfl) (pa_cons (pv 0) (pa_cons (pe_callB call_len_seq (by rfl) N.len (by decide +kernel) (pa_cons (pv 7) pa_nil)) pa_nil))) pa_nil)) pa_nil)))))
      (pss_one (ps_ret (pe_callTy call_tuple_of (by rfl) N.tuple (by decide +kernel) (pa_cons (pv 8) pa_nil)))))))), ?_⟩
    have small : ∀ {n : Nat}, n ≤ 60 → n < sizeLine := fun h => small1000 (by omega)
    -- letters, found
    refine ⟨_, rfl, (by show 3 ≤ sizeLine; decide), fun la0 hla0 => ⟨ba, _, rfl, hb.upd (hb.ne hla0), .inl ⟨la0, _, rfl, upd_same, (hb.ne hla0).symm, by decide, by decide, fun H1 x hx s1 b1 => ?_⟩⟩⟩
    obtain ⟨l0, rfl, A0⟩ := three hx
    have s01 : SameB ba H H1 := (sb_of (sameU hla0)).trans s1
    refine ⟨_, rfl, ba, 7, rfl, b1, by decide, by decide, fun H2 d s2 b2 hd => ⟨_, _, rfl, rfl, ((2 + d : Nat) : Int), congrArg V.int (by omega), S l0, rfl, by rw [S_len]; have := A0.2.2.2; exact Nat.le_of_lt (small (by omega)), ?_⟩⟩
    rw [cut_S]
    have A : AscL (l0.take (2 + d)) := A0.take (by omega)
    generalize l0.take (2 + d) = ls at A ⊢
    have hls := A.2.2.2
    have hls2 := A.2.2.1
    have z : (S ls).length ≤ sizeLine := by rw [S_len]; exact Nat.le_of_lt (small (by omega))
    refine ⟨Nat.zero_le _, fun fa hfa => ⟨_, _, rfl, ?_⟩⟩
    have hbf := b2.ne hfa
    have s03 := s01.trans s2
    have hfn : H fa = none := none_ofB s03 hbf.symm hfa
    have s3 : SameB ba H (upd H2 fa (.lst [])) := sameBW s03 hfn
    have b3 : BagAt (upd H2 fa (.lst [])) ba := b2.upd hbf
    have f3 : (upd H2 fa (.lst [])) fa = some (.lst (([] : List (List Nat)).map wS)) := upd_same
    show C8.tCut _ _ _ _ (upd H2 fa (.lst []))
    generalize (upd H2 fa (.lst [])) = H3 at s3 b3 f3 ⊢
    refine ⟨fun σ H' => ∃ fs y4 y5 y6, σ = [some (.ref ba), some (.int 9), some (wS ls), some (.ref fa), y4, y5, y6, none, none] ∧ SameB ba H H' ∧ BagAt H' ba ∧ FoundAt H' fa ls fs ∧ fs.length ≤ 9, ?_, ?_⟩
    · refine ⟨_, rfl, ba, 2, rfl, b3, by decide, by decide, fun H4 d4 s4 b4 hd4 => ⟨rfl, _, rfl, ?_⟩⟩
      have f4 := s4 _ _ hbf.symm f3
      cases hdec : decide (nV d4 = V.int 0) with
      | false => exact iteF ⟨[], _, _, _, rfl, s3.trans s4, b4, ⟨f4, fun x hx => by cases hx⟩, Nat.zero_le _⟩
      | true =>
        refine iteT ⟨_, rfl, S ls, rfl, z, _, rfl, ba, 4, rfl, b4, by decide, by decide, fun H5 d5 s5 b5 hd5 => ⟨_, _, rfl, rfl, _, _, rfl, ?_⟩⟩
        have f5 := s5 _ _ hbf.symm f4
        have s05 := (s3.trans s4).trans s5
        obtain ⟨sz, esz, hsz1, hsz2⟩ : ∃ sz : Nat, (if (3 : Int) + (d5 : Int) < ((S ls).length : Int) then (3 : Int) + (d5 : Int) else ((S ls).length : Int)) = (sz : Int) ∧ sz ≤ ls.length ∧ sz ≤ 8 := by
          rw [S_len]
          by_cases h : (3 : Int) + (d5 : Int) < (ls.length : Int)
          · exact ⟨3 + d5, by rw [if_pos h]; omega, by omega, by omega⟩
          · exact ⟨ls.length, by rw [if_neg h], Nat.le_refl _, hls⟩
        show gName 4 (V.int (if (3 : Int) + (d5 : Int) < ((S ls).length : Int) then (3 : Int) + (d5 : Int) else ((S ls).length : Int))) _ H5 _
        rw [esz]
        refine ⟨nV sz, rfl, _, _, rfl, rfl, _, rfl, ?_⟩
        by_cases hs2 : 2 < sz
        · rw [decide_eq_true (show (2 : Int) < (sz : Int) by omega)]
          refine iteT ⟨_, rfl, _, rfl, by omega, by omega, for_range (lo := 0) (n := sz) (fun j σ H' => ∃ fs y5 y6, σ = [some (.ref ba), some (.int 9), some (wS ls), some (.ref fa), some (nV sz), y5, y6, none, none] ∧ SameB ba H H' ∧ BagAt H' ba ∧ FoundAt H' fa ls fs ∧ fs.length = j)
            ⟨[], none, none, rfl, s05, b5, ⟨f5, fun x hx => by cases hx⟩, rfl⟩ ?_ ?_⟩
          · rintro j σ H6 hj ⟨fs, y5, y6, rfl, s6, b6, ⟨f6, fw6⟩, hfs⟩
            rw [Int.zero_add]
            have hj2 : j < ls.length := by omega
            refine ⟨.ref fa, rfl, .inl ⟨rfl, _, SqL.of f6⟩, ⟨_, rfl⟩, _, rfl, nV j, rfl, S ls, (j : Int), ls[j], rfl, rfl, z, atI_nat (List.getElem?_eq_getElem (l := ls) hj2), _, rfl, j, sz, rfl, rfl, by omega, ?_⟩
            obtain ⟨idx, eidx, hidx, hne⟩ : ∃ idx : Nat, (if 0 < j then j - 1 else sz - 1) = idx ∧ idx < ls.length ∧ idx ≠ j := by
              by_cases h : 0 < j
              · exact ⟨j - 1, by rw [if_pos h], by omega, by omega⟩
              · exact ⟨sz - 1, by rw [if_neg h], by omega, by omega⟩
            rw [eidx]
            refine ⟨S ls, (idx : Int), ls[idx], rfl, rfl, z, atI_nat (List.getElem?_eq_getElem (l := ls) hidx), (by show 2 ≤ sizeLine; decide), fun qa hqa => ⟨qa, [sgS ls[j], sgS ls[idx]], rfl, SqL.of upd_same, (by show 2 < 64; decide), fun ys p hper hsort hp => ?_⟩⟩
            have hab : ls[j] ≠ ls[idx] := fun e => by
              rcases Nat.lt_or_gt_of_ne hne with h | h
              · have := (List.pairwise_iff_getElem.mp A.1) idx j hidx hj2 h
                omega
              · have := (List.pairwise_iff_getElem.mp A.1) j idx hj2 hidx h
                omega
            obtain ⟨cs, rfl⟩ := signs_of (ys := ys) fun y hy => by
              have h1 := hper.mem_iff.mp hy
              rcases List.mem_cons.mp h1 with e | h1
              · exact ⟨_, e⟩
              · exact ⟨_, List.mem_singleton.mp h1⟩
            have hcl : cs.length = 2 := by
              have := hper.length_eq
              rw [List.length_map] at this
              exact this
            have hcn : cs.Nodup := nodup_map (hper.nodup_iff.mpr (List.nodup_cons.mpr ⟨fun h => hab (sgS_inj (List.mem_singleton.mp h)), List.nodup_cons.mpr ⟨(fun h => by cases h), List.nodup_nil⟩⟩))
            have hcm : ∀ c ∈ cs, c ∈ ls := fun c hc => by
              have h1 := hper.mem_iff.mp (List.mem_map.mpr ⟨c, hc, rfl⟩)
              rcases List.mem_cons.mp h1 with e | h1
              · rw [sgS_inj e]
                exact List.getElem_mem hj2
              · rw [sgS_inj (List.mem_singleton.mp h1)]
                exact List.getElem_mem hidx
            have W := word_of A hcn hsort (by omega) (by omega) hcm
            have s67 := sameUT (o := .lst ((cs.map sgS).map V.str)) (sameU hqa) hp
            refine rd_signs upd_same (by omega) ⟨fa, _, _, rfl, rfl, s67 _ _ f6, ?_, ?_⟩
            · rw [List.length_map]
              exact small (by omega)
            · refine ⟨fs ++ [cs], _, _, rfl, sameBW (s6.trans (sb_of s67)) hfn, (b6.same s67).upd hbf, ⟨?_, fun x hx => ?_⟩, by rw [List.length_append, hfs]; rfl⟩
              · rw [upd_same, List.map_append]
                rfl
              · rcases List.mem_append.mp hx with h | h
                · exact fw6 x h
                · rw [List.mem_singleton.mp h]
                  exact W
          · rintro σ H6 ⟨fs, y5, y6, rfl, s6, b6, F6, hfs⟩
            exact ⟨fs, _, _, _, rfl, s6, b6, F6, by omega⟩
        · rw [decide_eq_false (show ¬ (2 : Int) < (sz : Int) by omega)]
          refine iteF ⟨_, rfl, by decide, by decide, for_range (lo := 0) (n := 0) (fun j σ H' => σ = [some (.ref ba), some (.int 9), some (wS ls), some (.ref fa), some (nV sz), none, none, none, none] ∧ H' = H5) ⟨rfl, rfl⟩ (fun j σ H' h _ => by omega) ?_⟩
          rintro σ H6 ⟨rfl, rfl⟩
          exact ⟨[], _, _, _, rfl, s05, b5, ⟨f5, fun x hx => by cases hx⟩, Nat.zero_le _⟩
    rintro σ H4 ⟨fs, y4, y5, y6, rfl, s4, b4, F4, hfs⟩
    -- the while
    refine ⟨fun m σ H' => ∃ fs y4 y5 y6, σ = [some (.ref ba), some (.int 9), some (wS ls), some (.ref fa), y4, y5, y6, none, none] ∧ m = 9 - fs.length ∧ SameB ba H H' ∧ BagAt H' ba ∧ FoundAt H' fa ls fs ∧ fs.length ≤ 9, ⟨_, fs, _, _, _, rfl, rfl, s4, b4, F4, hfs⟩, ?_⟩
    clear F4 s4 b4 hfs
    rintro m σ H5 ⟨fs, y4, y5, y6, rfl, rfl, s5, b5, ⟨f5, fw5⟩, hfs⟩
    refine ⟨ba, fa, fs, rfl, rfl, rfl, b5, f5, fun H6 s6 b6 h9 => ?_, fun H6 s6 b6 h1 => ?_⟩
    · -- one more word
      have f6 := s6 _ _ hbf.symm f5
      have s06 := s5.trans s6
      refine iteT ⟨fun σ' H' => ∃ m', m' < 9 - fs.length ∧ ∃ fs y4 y5 y6, σ' = [some (.ref ba), some (.int 9), some (wS ls), some (.ref fa), y4, y5, y6, none, none] ∧ m' = 9 - fs.length ∧ SameB ba H H' ∧ BagAt H' ba ∧ FoundAt H' fa ls fs ∧ fs.length ≤ 9, fun _ _ z => z, ?_⟩
      refine ⟨_, rfl, _, rfl, ba, wS ls, rfl, b6, .inr ⟨ls, rfl, by omega, by omega, fun H7 c hc s7 b7 => ⟨_, rfl, _, rfl, ba, wS ls, rfl, b7, .inr ⟨ls, rfl, by omega, by omega, fun H8 e he s8 b8 => ⟨(by show 2 ≤ sizeLine; decide), fun sa hsa => ?_⟩⟩⟩⟩⟩
      have f8 := s8 _ _ hbf.symm (s7 _ _ hbf.symm f6)
      have s08 := (s06.trans s7).trans s8
      have s9 : Same H8 (upd H8 sa (.lst [sg c, sg e])) := sameU hsa
      have hsa9 : (upd H8 sa (.lst [sg c, sg e])) sa = some (.lst ([sgS c, sgS e].map V.str)) := upd_same
      show gName 6 _ _ (upd H8 sa (.lst [sg c, sg e])) _
      generalize (upd H8 sa (.lst [sg c, sg e])) = H9 at s9 hsa9 ⊢
      have f9 := s9 _ _ f8
      refine ⟨.ref fa, rfl, .inl ⟨rfl, _, SqL.of f9⟩, ⟨_, rfl⟩, _, rfl, sa, [sgS c, sgS e], rfl, SqL.of hsa9, (by show 2 < 64; decide), fun ta l hnd hml hll hta => ?_⟩
      have hl2 : l.length ≤ 2 := hll
      refine ⟨ta, l, rfl, upd_same, by omega, fun ys p hper hsort hp => ?_⟩
      have hmem : ∀ y ∈ ys, y = sgS c ∨ y = sgS e := fun y hy => by
        have h1 := (hml y).mp (hper.mem_iff.mp hy)
        rcases List.mem_cons.mp h1 with q | h1
        · exact .inl q
        · exact .inr (List.mem_singleton.mp h1)
      obtain ⟨cs, rfl⟩ := signs_of (ys := ys) fun y hy => by
        rcases hmem y hy with q | q
        · exact ⟨_, q⟩
        · exact ⟨_, q⟩
      have hcl : cs.length = l.length := by
        have := hper.length_eq
        rw [List.length_map] at this
        exact this
      have hl1 : 1 ≤ l.length := List.length_pos_of_mem ((hml (sgS c)).mpr List.mem_cons_self)
      have hcn : cs.Nodup := nodup_map (hper.nodup_iff.mpr hnd)
      have hcm : ∀ x ∈ cs, x ∈ ls := fun x hx => by
        rcases hmem _ (List.mem_map.mpr ⟨x, hx, rfl⟩) with q | q
        · rw [sgS_inj q]
          exact hc
        · rw [sgS_inj q]
          exact he
      have W := word_of A hcn hsort (by omega) (by omega) hcm
      have s9b := sameUT (o := .lst ((cs.map sgS).map V.str)) (sameU hta) hp
      refine rd_signs upd_same (by omega) ⟨fa, _, _, rfl, rfl, s9b _ _ f9, ?_, ?_⟩
      · rw [List.length_map]
        exact small (by omega)
      · refine ⟨9 - (fs ++ [cs]).length, by rw [List.length_append]; simp only [List.length_cons, List.length_nil]; omega, fs ++ [cs], _, _, _, rfl, rfl, sameBW (s08.trans (sb_of (s9.trans s9b))) hfn, (b8.same (s9.trans s9b)).upd hbf, ⟨?_, fun x hx => ?_⟩, by rw [List.length_append]; simp only [List.length_cons, List.length_nil]; omega⟩
        · rw [upd_same, List.map_append]
          rfl
        · rcases List.mem_append.mp hx with h | h
          · exact fw5 x h
          · rw [List.mem_singleton.mp h]
            exact W
    · -- the end
      have f6 := s6 _ _ hbf.symm f5
      have s06 := s5.trans s6
      refine iteF ⟨.ref fa, rfl, _, rfl, 9, rfl, fa, _, rfl, SqL.of f6, fun la hla => ⟨Nat.zero_le _, fun ma hma => ⟨_, _, rfl, ?_⟩⟩⟩
      have ecut : cutV (fs.map wS) none (some 9) = fs.map wS := by
        unfold cutV
        rw [HT.sIx_none, show (some (9 : Int)) = some ((9 : Nat) : Int) from rfl, HT.sIx_nat, List.drop_zero, Nat.sub_zero, List.length_map, Nat.min_eq_right hfs, List.take_of_length_le (by rw [List.length_map]; exact Nat.le_refl _)]
      rw [ecut] at hma ⊢
      have hbl := b6.ne hla
      have b7 : BagAt (upd H6 la (.lst (fs.map wS))) ba := b6.upd hbl
      have hbm := b7.ne hma
      have hlm : la ≠ ma := ne_of_none upd_same hma
      have hln : H la = none := none_ofB s06 hbl.symm hla
      have hma6 : H6 ma = none := by
        rw [upd_ne hlm.symm] at hma
        exact hma
      have hmn : H ma = none := none_ofB s06 hbm.symm hma6
      have s8 : SameB ba H (upd (upd H6 la (.lst (fs.map wS))) ma (.lst [])) := sameBW (sameBW s06 hln) hmn
      have b8 : BagAt (upd (upd H6 la (.lst (fs.map wS))) ma (.lst [])) ba := b7.upd hbm
      have l8 : (upd (upd H6 la (.lst (fs.map wS))) ma (.lst [])) la = some (.lst (fs.map wS)) := sameU hma _ _ upd_same
      have m8 : (upd (upd H6 la (.lst (fs.map wS))) ma (.lst [])) ma = some (.lst (([] : List (List Nat)).map wS)) := upd_same
      show tSeq _ _ _ _ (upd (upd H6 la (.lst (fs.map wS))) ma (.lst []))
      generalize (upd (upd H6 la (.lst (fs.map wS))) ma (.lst [])) = H8 at s8 b8 l8 m8 ⊢
      refine ⟨.ref la, rfl, la, _, rfl, .inl (SqL.of l8), ?_⟩
      rw [List.length_map]
      refine ⟨_, rfl, by omega, by omega, for_range (lo := 0) (n := fs.length) (fun j σ H' => ∃ lf mx y4 y5 y6, σ = [some (.ref ba), some (.int 9), some (wS ls), some (.ref fa), y4, y5, y6, some (.ref la), some (.ref ma)] ∧ SameB ba H H' ∧ BagAt H' ba ∧ FoundAt H' la ls lf ∧ FoundAt H' ma ls mx ∧ lf.length + j = fs.length ∧ mx.length = j)
        ⟨fs, [], _, _, _, rfl, s8, b8, ⟨l8, fw5⟩, ⟨m8, fun x hx => by cases hx⟩, rfl, rfl⟩ ?_ ?_⟩
      · rintro j σ H9 hj ⟨lf, mx, y4, y5, y6, rfl, s9, b9, ⟨l9, lw9⟩, ⟨m9, mw9⟩, hlf, hmx⟩
        refine ⟨.ref ma, rfl, .inl ⟨rfl, _, SqL.of m9⟩, .ref la, rfl, .inl ⟨rfl, _, SqL.of l9⟩, _, rfl, .ref la, rfl, la, _, rfl, .inl (SqL.of l9), ba, (lf.map wS).length, rfl, b9, by rw [List.length_map]; omega, by rw [List.length_map]; omega, fun H10 d s10 b10 hd => ?_⟩
        rw [List.length_map] at hd
        have l10 := s10 _ _ hbl.symm l9
        have m10 := s10 _ _ hbm.symm m9
        have hpop : (lf.map wS)[d]? = some (wS lf[d]) := by
          rw [List.getElem?_map, List.getElem?_eq_getElem hd]
          rfl
        have hix : seqIndex? (d : Int) (lf.map wS).length = some d := by
          have h := (ixN_seq (n := (lf.map wS).length) (i := (d : Int)) (j := d) ?_).1
          · exact h
          · unfold ixN
            rw [if_pos (by omega), if_pos (by rw [List.length_map]; omega)]
            rfl
        have her : (lf.map wS).eraseIdx d = (lf.eraseIdx d).map wS := erase_map wS lf d
        refine ⟨la, _, (d : Int), d, wS lf[d], rfl, rfl, l10, by omega, by omega, hix, hpop, ?_⟩
        rw [her]
        have m11 : (upd H10 la (.lst ((lf.eraseIdx d).map wS))) ma = some (.lst (mx.map wS)) := by
          rw [upd_ne hlm.symm]
          exact m10
        refine ⟨ma, _, _, rfl, rfl, m11, by rw [List.length_map]; exact small (by omega), ?_⟩
        refine ⟨lf.eraseIdx d, mx ++ [lf[d]], _, _, _, rfl, sameBW (sameBW (s9.trans s10) hln) hmn, (b10.upd hbl).upd hbm, ⟨?_, fun x hx => lw9 x (List.mem_of_mem_eraseIdx hx)⟩, ⟨?_, fun x hx => ?_⟩, ?_, ?_⟩
        · rw [upd_ne hlm, upd_same]
        · rw [upd_same, List.map_append]
          rfl
        · rcases List.mem_append.mp hx with h | h
          · exact mw9 x h
          · rw [List.mem_singleton.mp h]
            exact lw9 _ (List.getElem_mem hd)
        · rw [List.length_eraseIdx_of_lt hd]
          omega
        · rw [List.length_append, hmx]
          rfl
      · rintro σ H9 ⟨lf, mx, y4, y5, y6, rfl, s9, b9, _, ⟨m9, mw9⟩, hlf, hmx⟩
        refine ⟨.ref ma, rfl, ma, _, rfl, .inl ⟨SqL.of m9, fun q hq => ?_⟩⟩
        exact k _ q mx (s9.trans (sb_of (sameU hq))) (b9.same (sameU hq)) upd_same ⟨by omega, by omega, fun x hx => (mw9 x hx).1, ls, hls, fun x hx => (mw9 x hx).2⟩
end
end K55

namespace K55
open PySem PySem.Spec PyProof.Rows L2 SX
/-! ### what is shown -/
theorem showable_map {α : Type} {g : α → PyData} : ∀ {xs : List α}, (∀ x ∈ xs, (g x).showable = true) → PyData.showableAll (xs.map g) = true
  | [], _ => by simp [PyData.showableAll]
  | x :: xs, h => by simp [PyData.showableAll, h x List.mem_cons_self, showable_map fun y hy => h y (List.mem_cons_of_mem _ hy)]
theorem hasDict_map {α : Type} {g : α → PyData} : ∀ {xs : List α}, (∀ x ∈ xs, (g x).hasDict = false) → PyData.hasDictAll (xs.map g) = false
  | [], _ => by simp [PyData.hasDictAll]
  | x :: xs, h => by simp [PyData.hasDictAll, h x List.mem_cons_self, hasDict_map fun y hy => h y (List.mem_cons_of_mem _ hy)]
theorem short_map {α : Type} {g : α → PyData} : ∀ {xs : List α}, (∀ x ∈ xs, (g x).intsShort 13 = true) → PyData.intsShortAll 13 (xs.map g) = true
  | [], _ => by simp [PyData.intsShortAll]
  | x :: xs, h => by simp [PyData.intsShortAll, h x List.mem_cons_self, short_map fun y hy => h y (List.mem_cons_of_mem _ hy)]
theorem weight_map {α : Type} {g : α → PyData} {B : Nat} : ∀ {xs : List α}, (∀ x ∈ xs, (g x).weight ≤ B) → PyData.weightAll (xs.map g) ≤ xs.length * (B + 1)
  | [], _ => by simp [PyData.weightAll]
  | x :: xs, h => by
    have h1 := h x List.mem_cons_self
    have h2 := weight_map fun y hy => h y (List.mem_cons_of_mem _ hy)
    simp only [List.map_cons, PyData.weightAll, List.length_cons]
    rw [Nat.add_mul]
    omega
theorem depth_mem {α : Type} {g : α → PyData} {D : Nat} : ∀ {xs : List α}, (∀ x ∈ xs, (g x).depth ≤ D) → PyData.depthAll (xs.map g) ≤ D
  | [], _ => by simp [PyData.depthAll]
  | x :: xs, h => by
    have h1 := h x List.mem_cons_self
    have h2 := depth_mem fun y hy => h y (List.mem_cons_of_mem _ hy)
    simp only [List.map_cons, PyData.depthAll]
    omega
structure Sm (B D : Nat) (d : PyData) : Prop where
  lay : d.canLay0 = true
  dep : d.depth ≤ D
  sho : d.showable = true
  dic : d.hasDict = false
  sht : d.intsShort 13 = true
  wei : d.weight ≤ B
theorem sm_int : ∀ k, k < 9 → Sm 4 0 (dI k) := fun k hk => by
  have h : k = 0 ∨ k = 1 ∨ k = 2 ∨ k = 3 ∨ k = 4 ∨ k = 5 ∨ k = 6 ∨ k = 7 ∨ k = 8 := by omega
  rcases h with h | h | h | h | h | h | h | h | h <;> (subst h; exact ⟨by decide +kernel, by decide +kernel, by decide +kernel, by decide +kernel, by decide +kernel, by decide +kernel⟩)
theorem sm_seq {α : Type} {g : α → PyData} {B D n : Nat} {xs : List α} (h : ∀ x ∈ xs, Sm B D (g x)) (hl : xs.length ≤ n) : Sm (n * (B + 1)) (D + 1) (.tuple (xs.map g)) ∧ Sm (n * (B + 1)) (D + 1) (.list (xs.map g)) := by
  have h1 := canLay_mem xs fun x hx => (h x hx).lay
  have h2 := depth_mem fun x hx => (h x hx).dep
  have h3 := showable_map fun x hx => (h x hx).sho
  have h4 := hasDict_map fun x hx => (h x hx).dic
  have h5 := short_map fun x hx => (h x hx).sht
  have h6 := Nat.le_trans (weight_map fun x hx => (h x hx).wei) (Nat.mul_le_mul_right (B + 1) hl)
  constructor <;> exact ⟨by simpa only [PyData.canLay0] using h1, by simp only [PyData.depth]; omega, by simpa only [PyData.showable] using h3, by simpa only [PyData.hasDict] using h4, by simpa only [PyData.intsShort] using h5, by simpa only [PyData.weight] using h6⟩
abbrev dTT (js : List (List Nat)) : PyData := .tuple (js.map dT)
def SmallJs (js : List (List Nat)) : Prop := js.length ≤ 9 ∧ ∀ j ∈ js, j.length ≤ 9 ∧ ∀ k ∈ j, k < 9
theorem sm_dTT {js : List (List Nat)} (h : SmallJs js) : Sm 414 2 (dTT js) :=
  (sm_seq (B := 45) (D := 1) (n := 9) (fun j hj => (sm_seq (B := 4) (D := 0) (n := 9) (fun k hk => sm_int k ((h.2 j hj).2 k hk)) (h.2 j hj).1).1) h.1).1
theorem sm_two {js : List (List Nat)} (h : SmallJs js) : Sm 830 3 (.list [dTT js, dTT js]) :=
  (sm_seq (g := id) (xs := [dTT js, dTT js]) (B := 414) (D := 2) (n := 2) (fun d hd => by
    rcases List.mem_cons.mp hd with e | hd
    · rw [e]
      exact sm_dTT h
    · rw [List.mem_singleton.mp hd]
      exact sm_dTT h) (by show 2 ≤ 2; decide)).2
theorem Sm.shown {B D : Nat} {d : PyData} (h : Sm B D d) (hB : B ≤ 1048576) (hD : D ≤ 64) : d.shown.length ≤ sizeLine := by
  have e := shown_le13 (d := d) (by
    unfold PyData.layable0
    rw [h.lay, decide_eq_true (Nat.le_trans h.dep hD), decide_eq_true (Nat.le_trans h.wei hB)]
    rfl) h.sht
  rw [sizeLine_eq]
  omega
/-! ### sorted -/
theorem perm_asc : ∀ {l m : List Nat}, l.Perm m → l.Pairwise (· ≤ ·) → m.Pairwise (· < ·) → l = m
  | [], m, p, _, _ => (List.Perm.nil_eq p)
  | a :: r, [], p, _, _ => absurd p.length_eq (by simp)
  | a :: r, b :: s, p, h1, h2 => by
    obtain ⟨a1, a2⟩ := List.pairwise_cons.mp h1
    obtain ⟨b1, b2⟩ := List.pairwise_cons.mp h2
    have e : a = b := by
      have ha : a ∈ b :: s := p.mem_iff.mp List.mem_cons_self
      have hb : b ∈ a :: r := p.mem_iff.mpr List.mem_cons_self
      rcases List.mem_cons.mp ha with q | q
      · exact q
      · rcases List.mem_cons.mp hb with q2 | q2
        · exact q2.symm
        · have h3 := a1 b q2
          have h4 := b1 a q
          omega
    subst e
    rw [perm_asc (List.Perm.cons_inv p) a2 b2]
theorem ints_back : ∀ {ns : List Int} {l : List Nat}, ns.Perm (l.map fun k : Nat => (k : Int)) → ∃ m : List Nat, ns = m.map fun k : Nat => (k : Int) := fun {ns l} p => by
  have h : ∀ {ns : List Int}, (∀ x ∈ ns, ∃ k : Nat, x = (k : Int)) → ∃ m : List Nat, ns = m.map fun k : Nat => (k : Int) := fun {ns} => by
    induction ns with
    | nil => exact fun _ => ⟨[], rfl⟩
    | cons x r ih =>
      intro h
      obtain ⟨k, e⟩ := h x List.mem_cons_self
      obtain ⟨m, e2⟩ := ih fun y hy => h y (List.mem_cons_of_mem _ hy)
      exact ⟨k :: m, by rw [e, e2]; rfl⟩
  refine h fun x hx => ?_
  obtain ⟨k, _, e⟩ := List.mem_map.mp (p.mem_iff.mp hx)
  exact ⟨k, e.symm⟩
theorem sorted_core {ns : List Int} {l m : List Nat} (p : ns.Perm (l.map fun k : Nat => (k : Int))) (hs : ns.Pairwise (· ≤ ·)) (hl : l.Perm m) (hm : m.Pairwise (· < ·)) : ns = m.map fun k : Nat => (k : Int) := by
  obtain ⟨q, e⟩ := ints_back p
  rw [e] at p hs ⊢
  have hq : q.Perm l := by
    have h := p.map Int.toNat
    rw [List.map_map, List.map_map] at h
    have e1 : ∀ t : List Nat, t.map (Int.toNat ∘ fun k : Nat => (k : Int)) = t := fun t => by
      induction t with
      | nil => rfl
      | cons a r ih => rw [List.map_cons, ih]; rfl
    rw [e1, e1] at h
    exact h
  have hqs : q.Pairwise (· ≤ ·) := (List.pairwise_map.mp hs).imp fun h => by omega
  rw [perm_asc (hq.trans hl) hqs hm]
theorem eqv_strs : ∀ ws : List (List Nat), PyData.eqvAll (ws.map fun w => PyData.str (S w)) (ws.map fun w => PyData.str (S w)) = true
  | [] => by simp [PyData.eqvAll]
  | w :: ws => by
    have h := eqv_strs ws
    simp only [List.map_cons, PyData.eqvAll, h, Bool.and_true]
    simp [PyData.eqv]
end K55

namespace K55
open PySem PySem.Spec PyProof.Rows L2 SX
abbrev sRight : Stmt := topS 39
theorem dp_parts {K : PySem.W.Frag} {H : Hp} {p : Addr} {ps : List (Addr × List Nat)} {js : List (List Nat)} (hp : H p = some (.tup (refsOf ps))) (hP : PartsAt H ps) (he : ps.map (·.2) = js) : Dp K H (.ref p) (dTT js) := by
  subst he
  have e : dTT (ps.map (·.2)) = .tuple (ps.map fun e => dT e.2) := by
    unfold dTT
    rw [List.map_map]
    rfl
  rw [e]
  exact .tup (SqT.of hp) (dp_all fun e he => dp_intsT (SqT.of (hP e he)))
theorem dp_two {K : PySem.W.Frag} {H : Hp} {l p q : Addr} {js : List (List Nat)} (hl : H l = some (.lst [.ref p, .ref q])) (h1 : Dp K H (.ref p) (dTT js)) (h2 : Dp K H (.ref q) (dTT js)) : Dp K H (.ref l) (.list [dTT js, dTT js]) := .lst (SqL.of hl) (.cons h1 (.cons h2 .nil))
theorem small_joined {ws : KM.Ws} (g : GoodWs ws) (h : (KM.joined ws).length ≤ 9) : SmallJs (KM.joined ws) := ⟨h, fun j hj => ⟨(joined_in g j hj).1, fun k hk => by have h1 := (joined_in g j hj).2 k hk; have h2 := g.2.1; omega⟩⟩
theorem small_rings {ws : KM.Ws} (h : SmallJs (KM.joined ws)) : SmallJs (KM.rings ws) := ⟨Nat.le_trans (List.length_filter_le _ _) h.1, fun j hj => h.2 j (List.mem_filter.mp hj).1⟩
/-- Lots(v), v a local -/
def tMkV (K : PySem.W.Frag) (C : Addr) (i : Nat) : TE := fun σ H Q => ∃ (a : Addr) (ws : KM.Ws), σ[i]? = some (some (.ref a)) ∧ SqT K H a (ws.map wS) ∧ Fit ws ∧ ∀ H2 x, Same H H2 → LotsAt K C H2 x ws → Q (.ref x) H2
section
variable {P : Program} {w : World} {K : PySem.W.Frag} {mg : Str → Option Value} {base : Heap} {C : Addr}
theorem pe_mkV {X : Cx} {A : Around} {e : Expr} {i : Nat} {p pos : Pos} (M : MkL P w K mg base C) (hr : Room 5 A) (hg : Gl X "Lots") (hm : mg "Lots" = some (.ref C)) (ha : PE X e (tVar i)) (h1 : X.prog = P := by rfl) (h2 : X.w = w := by rfl) (h3 : X.K = K := by rfl) (h4 : X.mg = mg := by rfl) (h5 : X.base = base := by rfl) (h6 : X.A = A := by rfl)
    (hdb : (("Lots" : Str) == ("__debug__" : Str)) = false := by decide) (he : starEach [e] X.env = (false, eval e X.env) :: starEach [] X.env := by rfl) (hpl : (backTo pos (starEach [] X.env)).any (·.1) = false := by rfl) :
    PE X (.Call (.Name "Lots" p) [e] [] pos) (tMkV K C i) := by
  refine PE.weak (pe_mkLots M hr hg hm ha h1 h2 h3 h4 h5 h6 hdb he hpl) fun σ H Q h => ?_
  obtain ⟨a, ws, hi, hw, ft, q⟩ := h
  refine ⟨_, hi, ?_⟩
  exact rd_mk (Q := Q) hw ft q
end
section
variable {P : Program} {w : World} {K : PySem.W.Frag} {mg : Str → Option Value} {base : Heap} {C : Addr}
abbrev nRight : List Str := ["_law_bag_here", "_law_turn", "_law_words_here", "_law_mine", "_law_due", "_law_part", "_law_rings", "_law_spots"]
theorem scRight : FnScope nRight ["_law_bag_here"] (defScope sRight) := ⟨rfl, rfl, rfl, by decide +kernel, rfl, by decide +kernel, by decide +kernel⟩
def spRight : Sp := fun vs H Q _ => ∃ ba : Addr, vs = [.ref ba] ∧ BagAt H ba ∧ ∀ H', SameB ba H H' → Q (.bl true) H'
/-- what _law_right calls -/
structure Rt (P : Program) (w : World) (K : PySem.W.Frag) (mg : Str → Option Value) (base : Heap) (C : Addr) : Prop where
  en : En P w K mg base C
  ml : MkL P w K mg base C
  web : Cal P w K mg base "_law_web" 3 ["_law_bag_here", "_law_most"] spWeb
  lj : Cal P w K mg base "_law_joined" 2 ["_law_words_here"] (spLJoined K)
  lr : Cal P w K mg base "_law_is_ring" 1 ["_law_words_here", "_law_part"] (spLRing K)
  jo : Cal P w K mg base "joined" 8 ["lots"] (spJoined K C KM.joined)
  joK : CalK P w K mg base "joined" "lots" 8 (spJoined K C KM.joined)
  ri : Cal P w K mg base "odd_rings" 8 ["lots"] (spJoined K C KM.rings)
  riK : CalK P w K mg base "odd_rings" "lots" 8 (spJoined K C KM.rings)
  co : Cal P w K mg base "core" 7 ["lots"] (spCore K C)
theorem ok_right {f : Addr} {fd : FuncData} (F : Fun K "_law_right" "_law_right" sRight f fd) (T : Rt P w K mg base C) : FnG P w K mg base 9 f fd ["_law_bag_here"] spRight := by
  have N := T.en.nm
  refine okG F scRight (fun vs H Q E h => ?_) (fun cdv A outer s H vs Q E hg hr h => ?_)
  · obtain ⟨ba, rfl, _⟩ := h
    rfl
  · obtain ⟨ba, rfl, hb, k⟩ := h
    have hr1 : Room 1 _ := hr.mono (by decide)
    have hr2 : Room 2 _ := hr.mono (by decide)
    have hr3 : Room 3 _ := hr.mono (by decide)
    have hr5 : Room 5 _ := hr.mono (by decide)
    have hr7 : Room 7 _ := hr.mono (by decide)
    have hgd : (A.deeper (envOfC "_law_right" (defScope sRight) s.heap.objs.size f cdv)).guards = some [] := hg
    refine ⟨_, pss_cons (ps_for PassesOwn.never rfl (pi_range1 (by rfl) N.range (pa_cons pe_int pa_nil)) (pg_name (i := 1) scRight.nd rfl (.inl rfl))
        (pss_cons (ps_set (i := 2) scRight.nd rfl (.inr rfl) (pe_cal T.web hr3 (by rfl) (pa_cons (pv 0) (pa_cons pe_int pa_nil))))
        (pss_cons (ps_par rfl scRight.nd (i := 3) (j := 4) rfl rfl (by decide) rfl rfl (pa_cons (pe_mkV T.ml hr5 (by rfl) T.en.mgC (pv 2)) (pa_cons (pe_callTy call_tuple_of (by rfl) N.tuple (by decide +kernel) (pa_cons (pe_cal T.lj hr2 (by rfl) (pa_cons (pv 2) pa_nil)) pa_nil)) pa_nil)) (by rfl))
        (pss_cons (ps_if (pt_cmpR op_ne (pe_callB (cr_repr hgd hr.units) (by rfl) N.repr (by decide +kernel) (pa_cons (pe_lst (pa_cons (pe_cal T.jo hr (by rfl) (pa_cons (pv 3) pa_nil)) (pa_cons (pe_calK T.joK hr (by rfl) (pv 3)) pa_nil))) pa_nil)) (pe_callB (cr_repr hgd hr.units) (by rfl) N.repr (by decide +kernel) (pa_cons (pe_lst (pa_cons (pv 4) (pa_cons (pv 4) pa_nil))) pa_nil)) (nomark _)) pss_never pss_nil)
        (pss_cons (ps_set (i := 6) scRight.nd rfl (.inl rfl) (pe_callTy call_tuple_of (by rfl) N.tuple (by decide +kernel) (pa_cons (pe_lc (own := [("_law_part", 5)]) (g := gName 5) rfl scRight.nd (pi_tup (pv 4)) (blkOk_by (N := nRight) (sc := defScope sRight) (by decide +kernel))
            (fun _ _ _ _ _ => pg_name (i := 5) scRight.nd rfl (.inl rfl)) (fun _ _ _ _ _ => pts_one (pt_val (pe_cal T.lr hr1 (by rfl) (pa_cons (pv 2) (pa_cons (pv 5) pa_nil))))) (fun _ _ _ _ _ => pv 5)) pa_nil)))
        (pss_cons (ps_if (pt_cmpR op_ne (pe_callB (cr_repr hgd hr.units) (by rfl) N.repr (by decide +kernel) (pa_cons (pe_lst (pa_cons (pe_cal T.ri hr (by rfl) (pa_cons (pv 3) pa_nil)) (pa_cons (pe_calK T.riK hr (by rfl) (pv 3)) pa_nil))) pa_nil)) (pe_callB (cr_repr hgd hr.units) (by rfl) N.repr (by decide +kernel) (pa_cons (pe_lst (pa_cons (pv 6) (pa_cons (pv 6) pa_nil))) pa_nil)) (nomark _)) pss_never pss_nil)
        (pss_cons (ps_set (i := 7) scRight.nd rfl (.inl rfl) (pe_lst pa_nil))
        (pss_cons (ps_for PassesOwn.never rfl (pi_tup (pv 4)) (pg_name (i := 5) scRight.nd rfl (.inl rfl))
            (pss_one (ps_set (i := 7) scRight.nd rfl (.inl rfl) (pe_op op_cat (pv 7) (pe_callTy call_list_of (by rfl) N.list (by decide +kernel) (pa_cons (pv 5) pa_nil))))))
        (pss_one (ps_if (PW.pt (pw_or (pt_cmpR (neD K hr.units) (pe_callB cr_sorted (by rfl) N.sorted (by decide +kernel) (pa_cons (pv 7) pa_nil)) (pe_callTy call_list_of (by rfl) N.list (by decide +kernel) (pa_cons (pe_cal T.co hr7 (by rfl) (pa_cons (pv 3) pa_nil)) pa_nil)) (nomark _))
            (pw_or1 (pt_cmpR (neD K hr.units) (pe_lots T.en hr2 (pv 3)) (pv 2) (nomark _))))) pss_never pss_nil))))))))))
      (pss_one (ps_ret pe_bl)), ?_⟩
    refine ⟨_, rfl, by decide, by decide, for_range (lo := 0) (n := 8) (fun j σ H' => ∃ y1 y2 y3 y4 y5 y6 y7, σ = [some (.ref ba), y1, y2, y3, y4, y5, y6, y7] ∧ SameB ba H H' ∧ BagAt H' ba) ⟨none, none, none, none, none, none, none, rfl, SameB.refl ba H, hb⟩ ?_ ?_⟩
    · rintro j σ H0 hj ⟨y1, y2, y3, y4, y5, y6, y7, rfl, s0, b0⟩
      refine ⟨_, rfl, ba, rfl, b0, fun H1 wa ws s1 b1 hwa ft => ?_⟩
      have g := ft.good
      have sH := s0.trans s1
      -- mine, due
      refine ⟨wa, ws, rfl, SqT.of hwa, ft, fun H2 x s2 L => ⟨_, rfl, wa, ws, rfl, Same.tup s2 (SqT.of hwa), g, fun H3 D ps s3 hD hP he h9 => ⟨D, _, rfl, .inl ⟨SqL.of hD, fun dp hdp => ⟨_, _, rfl, ?_⟩⟩⟩⟩⟩
      have hJ : SmallJs (KM.joined ws) := small_joined g (by rw [← he, List.length_map]; exact h9)
      have hR := small_rings hJ
      have zJ := sm_two hJ
      have zR := sm_two hR
      have dJ : (PyData.list [dTT (KM.joined ws), dTT (KM.joined ws)]).depth ≤ 60 := by have := zJ.dep; omega
      have dR : (PyData.list [dTT (KM.rings ws), dTT (KM.rings ws)]).depth ≤ 60 := by have := zR.dep; omega
      have wJ := zJ.shown (by decide) (by decide)
      have wR := zR.shown (by decide) (by decide)
      have s14 : Same H1 (upd H3 dp (.tup (refsOf ps))) := sameUT (s2.trans s3) hdp
      have L4 : LotsAt K C (upd H3 dp (.tup (refsOf ps))) x ws := (L.same s3).same (sameU hdp)
      have hd4 : (upd H3 dp (.tup (refsOf ps))) dp = some (.tup (refsOf ps)) := upd_same
      have hP4 : PartsAt (upd H3 dp (.tup (refsOf ps))) ps := hP.same (sameU hdp)
      show tSeq _ _ _ _ (upd H3 dp (.tup (refsOf ps)))
      generalize (upd H3 dp (.tup (refsOf ps))) = H4 at s14 L4 hd4 hP4 ⊢
      -- the first reprs
      refine ⟨_, rfl, x, ws, rfl, L4, fun H5 p5 ps5 s5 hp5 hP5 he5 => ⟨_, rfl, x, ws, rfl, L4.same s5, fun H6 p6 ps6 s6 hp6 hP6 he6 => ⟨(by show 2 ≤ sizeLine; decide), fun l hl => ⟨l, _, rfl, dp_two upd_same (dp_parts (sameU hl _ _ (s6 _ _ hp5)) ((hP5.same s6).same (sameU hl)) he5) (dp_parts (sameU hl _ _ hp6) (hP6.same (sameU hl)) he6), zJ.sho, zJ.dic, dJ, wJ,
        _, rfl, _, rfl, (by show 2 ≤ sizeLine; decide), fun l2 hl2 => ?_⟩⟩⟩⟩
      have s46 := s5.trans (sameUT (o := .lst [.ref p5, .ref p6]) s6 hl)
      have s47 := sameUT (o := .lst [.ref dp, .ref dp]) s46 hl2
      have dd := dp_parts (K := K) (s47 _ _ hd4) (hP4.same s47) he
      refine ⟨l2, _, rfl, dp_two upd_same dd dd, zJ.sho, zJ.dic, dJ, wJ, rfl, _, rfl, ?_⟩
      rw [decide_eq_true rfl]
      refine iteF ?_
      show tSeq _ _ _ _ _
      have L7 := L4.same s47
      have hd7 := s47 _ _ hd4
      have hP7 := hP4.same s47
      have s17 := s14.trans s47
      generalize L2.upd _ l2 _ = H7 at s17 L7 hd7 hP7 ⊢
      -- rings
      have hw7 := Same.tup s17 (SqT.of (K := K) hwa)
      refine ⟨_, rfl, dp, rfl, ⟨_, SqT.of hd7⟩, fun R hR0 => lc_fm (walkT (fun e : Addr × List Nat => V.ref e.1) ps) (fun e => KM.ring ws e.2) (fun e => V.ref e.1) hR0 (fun H' s => SqT.of (s _ _ hd7)) (small1000 (by omega)) (fun e H8 K8 hn s k8 => ?_) (fun e H8 K8 hn _ s k8 => ?_) (fun H8 s8 hDl => ?_)⟩
      · have hj := joined_in g e.2 (by rw [← he]; exact List.mem_map.mpr ⟨e, hn, rfl⟩)
        exact ⟨_, rfl, _, rfl, wa, e.1, ws, e.2, rfl, Same.tup s hw7, g, SqT.of (s _ _ (hP7 e hn)), hj.2, hj.1, fun H9 s9 => ⟨_, rfl, k8 _ s9⟩⟩
      · exact ⟨_, rfl, k8 _ (Same.refl _)⟩
      refine ⟨R, _, rfl, .inl ⟨SqL.of hDl, fun rp hrp => ?_⟩⟩
      have s79 := sameUT (o := .tup (refsOf (ps.filter fun e => KM.ring ws e.2))) s8 hrp
      have hr9 : (upd H8 rp (.tup (refsOf (ps.filter fun e => KM.ring ws e.2)))) rp = some (.tup (refsOf (ps.filter fun e => KM.ring ws e.2))) := upd_same
      show tSeq _ _ _ _ (upd H8 rp (.tup (refsOf (ps.filter fun e => KM.ring ws e.2))))
      generalize (upd H8 rp (.tup (refsOf (ps.filter fun e => KM.ring ws e.2)))) = H9 at s79 hr9 ⊢
      have L9 := L7.same s79
      have hd9 := s79 _ _ hd7
      have hP9 := hP7.same s79
      have s19 := s17.trans s79
      have hPr9 : PartsAt H9 (ps.filter fun e => KM.ring ws e.2) := fun e h => hP9 e (List.mem_filter.mp h).1
      have her : (ps.filter fun e => KM.ring ws e.2).map (·.2) = KM.rings ws := by
        unfold KM.rings
        rw [← he, List.filter_map]
        rfl
      refine ⟨_, rfl, x, ws, rfl, L9, fun Ha pa psa sa hpa hPa hea => ⟨_, rfl, x, ws, rfl, L9.same sa, fun Hb pb psb sb hpb hPb heb => ⟨(by show 2 ≤ sizeLine; decide), fun l hl => ⟨l, _, rfl, dp_two upd_same (dp_parts (sameU hl _ _ (sb _ _ hpa)) ((hPa.same sb).same (sameU hl)) hea) (dp_parts (sameU hl _ _ hpb) (hPb.same (sameU hl)) heb), zR.sho, zR.dic, dR, wR,
        _, rfl, _, rfl, (by show 2 ≤ sizeLine; decide), fun l2 hl2 => ?_⟩⟩⟩⟩
      have s9b := sa.trans (sameUT (o := .lst [.ref pa, .ref pb]) sb hl)
      have s9c := sameUT (o := .lst [.ref rp, .ref rp]) s9b hl2
      have dd := dp_parts (K := K) (s9c _ _ hr9) (hPr9.same s9c) her
      refine ⟨l2, _, rfl, dp_two upd_same dd dd, zR.sho, zR.dic, dR, wR, rfl, _, rfl, ?_⟩
      rw [decide_eq_true rfl]
      refine iteF ?_
      show tSeq _ _ _ _ _
      have Lc := L9.same s9c
      have hdc := s9c _ _ hd9
      have hPc := hP9.same s9c
      have s1c := s19.trans s9c
      generalize L2.upd _ l2 _ = Hc at s1c Lc hdc hPc ⊢
      -- spots
      refine ⟨Nat.zero_le _, fun sp hsp => ?_⟩
      have s1d := sameUT (o := .lst []) s1c hsp
      have scd := sameU (o := .lst []) hsp
      have hsd : (upd Hc sp (.lst [])) sp = some (.lst ([] : List V)) := upd_same
      show tSeq _ _ _ _ (upd Hc sp (.lst []))
      generalize (upd Hc sp (.lst [])) = Hd at s1d scd hsd ⊢
      have hdd := scd _ _ hdc
      have hPd := hPc.same scd
      have flen : ∀ t, ((ps.take t).map (·.2)).flatten.length ≤ 9 := fun t => by
        have h1 := (joined_perm g).length_eq
        rw [← he] at h1
        have h2 : ((ps.take t).map (·.2)).flatten.length ≤ (ps.map (·.2)).flatten.length := by
          rw [← List.take_append_drop t ps, List.map_append, List.flatten_append, List.length_append]
          simp
        have h3 := (KM.core_keeps ws).len
        have h4 := g.2.1
        omega
      refine ⟨_, rfl, dp, rfl, ⟨_, SqT.of hdd⟩, for_tup (K := K) (a := dp) (xs := refsOf ps) (fun t σ H' => ∃ y5 sp, σ = [some (.ref ba), some (.int (0 + (j : Int))), some (.ref wa), some (.ref x), some (.ref dp), y5, some (.ref rp), some (.ref sp)] ∧ Same Hd H' ∧ H' sp = some (.lst (((ps.take t).map (·.2)).flatten.map nV)))
        ⟨_, sp, rfl, Same.refl _, hsd⟩ (fun t σ H' _ ⟨_, _, _, s, _⟩ => SqT.of (s _ _ hdd)) ?_ ?_⟩
      · rintro t v σ He ht ⟨y5, sp, rfl, se, hse⟩
        rw [List.getElem?_map] at ht
        obtain ⟨e, het, rfl⟩ := Option.map_eq_some_iff.mp ht
        have hm : e ∈ ps := List.mem_of_getElem? het
        have hee := se _ _ (hPd e hm)
        have hj9 := (joined_in g e.2 (by rw [← he]; exact List.mem_map.mpr ⟨e, hm, rfl⟩)).1
        refine ⟨_, rfl, _, rfl, e.1, _, rfl, .inr (SqT.of hee), fun lp hlp => ⟨sp, lp, _, _, rfl, rfl, sameU hlp _ _ hse, upd_same, ?_, fun q hq => ?_⟩⟩
        · rw [List.length_map, List.length_map]
          have := flen t
          exact Nat.le_of_lt (small1000 (by omega))
        · refine ⟨_, q, rfl, sameUT (sameUT se hlp) hq, ?_⟩
          have et : ps.take (t + 1) = ps.take t ++ [e] := by
            rw [List.take_add_one, het]
            rfl
          rw [upd_same, et, List.map_append, List.flatten_append, List.map_append]
          simp
      · rintro σ He ⟨y5, sp, rfl, se, hse⟩
        have ef : ((ps.take (refsOf ps).length).map (·.2)).flatten = (KM.joined ws).flatten := by
          rw [List.length_map, List.take_length, he]
        rw [ef] at hse
        have hse' : SqL K He sp (((KM.joined ws).flatten.map fun k : Nat => (k : Int)).map V.int) := by
          rw [List.map_map]
          exact SqL.of hse
        have hlen : ((KM.joined ws).flatten.map fun k : Nat => (k : Int)).length < 64 := by
          rw [List.length_map]
          have := flen ps.length
          rw [List.take_length, he] at this
          omega
        have Le := ((Lc.same scd).same se)
        refine ⟨_, rfl, sp, _, rfl, hse', hlen, fun ns' sq hper hsrt hsq => ?_⟩
        have ens := sorted_core hper hsrt (joined_perm g) (KM.core_keeps ws).asc
        subst ens
        have eV : ((KM.core ws).map fun k : Nat => (k : Int)).map V.int = (KM.core ws).map nV := by
          rw [List.map_map]
          rfl
        rw [eV]
        have sqe : (upd He sq (.lst ((KM.core ws).map nV))) sq = some (.lst ((KM.core ws).map nV)) := upd_same
        have sef := sameU (o := .lst ((KM.core ws).map nV)) hsq
        generalize (upd He sq (.lst ((KM.core ws).map nV))) = Hf at sqe sef ⊢
        have Lf := Le.same sef
        refine ⟨_, rfl, x, ws, rfl, Lf, fun Hg cp sg' hcp => ⟨cp, _, rfl, .inr (SqT.of hcp), fun cl hcl => ⟨dL (KM.core ws), dL (KM.core ws), dp_ints (SqL.of (sameU hcl _ _ (sg' _ _ sqe))), dp_ints (SqL.of upd_same), shaped_dL _, shaped_dL _, _, rfl, ?_⟩⟩⟩
        rw [eqv_dL, decide_eq_true rfl]
        refine iteF ?_
        have sfh := sameUT (o := .lst ((KM.core ws).map nV)) sg' hcl
        have Lh := Lf.same sfh
        have sdh := (se.trans sef).trans sfh
        have s1h := s1d.trans sdh
        have hwh := Same.tup s1h (SqT.of (K := K) hwa)
        generalize L2.upd _ cl _ = Hh at Lh s1h hwh ⊢
        refine ⟨_, rfl, x, ws, rfl, Lh, fun wa2 hwa2 => ⟨_, rfl, _, _, dp_words hwa2, dp_words hwh, (shaped_strs ws fun x hx c hc => (g.2.2.2 x hx c hc).2).2, (shaped_strs ws fun x hx c hc => (g.2.2.2 x hx c hc).2).2, _, rfl, ?_⟩⟩
        have eq : PyData.eqv (.tuple (ws.map fun w => PyData.str (S w))) (.tuple (ws.map fun w => PyData.str (S w))) = true := by
          simp only [PyData.eqv]
          exact eqv_strs ws
        rw [eq]
        exact iteF ⟨_, _, _, _, _, _, _, rfl, sH.trans (sb_of s1h), b1.same s1h⟩
    · rintro σ H' ⟨y1, y2, y3, y4, y5, y6, y7, rfl, s, b⟩
      exact k _ s
end
end K55

namespace K55
open PySem PySem.Spec PyProof.Rows L2 SX
/-- a tuple of parts -/
def JsAt (H : Hp) (p : Addr) (js : List (List Nat)) : Prop := ∃ ps, H p = some (.tup (refsOf ps)) ∧ PartsAt H ps ∧ ps.map (·.2) = js
theorem JsAt.same {H H' : Hp} {p : Addr} {js : List (List Nat)} (h : JsAt H p js) (s : Same H H') : JsAt H' p js := by
  obtain ⟨ps, h1, h2, h3⟩ := h
  exact ⟨ps, s _ _ h1, h2.same s, h3⟩
theorem JsAt.updL {H : Hp} {p D : Addr} {js : List (List Nat)} {acc acc' : List V} (h : JsAt H p js) (hD : H D = some (.lst acc)) : JsAt (upd H D (.lst acc')) p js := by
  obtain ⟨ps, h1, h2, h3⟩ := h
  have hne : ∀ b xs, H b = some (.tup xs) → (upd H D (.lst acc')) b = some (.tup xs) := fun b xs e => by
    rw [upd_ne (fun z => by rw [z, hD] at e; cases e)]
    exact e
  exact ⟨ps, hne _ _ h1, fun e he => hne _ _ (h2 e he), h3⟩
theorem JsAt.dp {K : PySem.W.Frag} {H : Hp} {p : Addr} {js : List (List Nat)} (h : JsAt H p js) : Dp K H (.ref p) (dTT js) := by
  obtain ⟨ps, h1, h2, h3⟩ := h
  exact dp_parts h1 h2 h3
theorem lay_dTT (js : List (List Nat)) : (dTT js).canLay0 = true ∧ (dTT js).depth ≤ 60 := by
  constructor
  · show PyData.canLay0 (.tuple (js.map dT)) = true
    simp only [PyData.canLay0]
    exact canLay_map (fun j => by simp only [PyData.canLay0]; exact canLay_map (fun k => by simp [PyData.canLay0]) j) js
  · show PyData.depth (.tuple (js.map dT)) ≤ 60
    have h := depth_map (g := dT) (n := 1) (fun j => by
      have := depth_map (g := dI) (n := 0) (fun k => by simp [PyData.depth]) j
      simp only [PyData.depth]
      omega) js
    simp only [PyData.depth]
    omega
theorem eqv_dTT (xs ys : List (List Nat)) : PyData.eqv (dTT xs) (dTT ys) = decide (xs = ys) := by
  simp only [PyData.eqv]
  exact eqv_map eqv_dT xs ys
theorem eqv_ldTT (xs ys : List (List (List Nat))) : PyData.eqv (.list (xs.map dTT)) (.list (ys.map dTT)) = decide (xs = ys) := by
  simp only [PyData.eqv]
  exact eqv_map eqv_dTT xs ys
theorem shaped_ldTT (xs : List (List (List Nat))) : SeqAt.shaped (.list (xs.map dTT)) = true := (show_map lay_dTT xs).1
def JsList (H : Hp) (D : Addr) (jss : List (List (List Nat))) : Prop := ∃ es : List (Addr × List (List Nat)), H D = some (.lst (es.map fun e => V.ref e.1)) ∧ (∀ e ∈ es, JsAt H e.1 e.2) ∧ es.map (·.2) = jss
theorem JsList.same {H H' : Hp} {D : Addr} {jss : List (List (List Nat))} (h : JsList H D jss) (s : Same H H') : JsList H' D jss := by
  obtain ⟨es, h1, h2, h3⟩ := h
  exact ⟨es, s _ _ h1, fun e he => (h2 e he).same s, h3⟩
theorem JsList.dp {K : PySem.W.Frag} {H : Hp} {D : Addr} {jss : List (List (List Nat))} (h : JsList H D jss) : Dp K H (.ref D) (.list (jss.map dTT)) := by
  obtain ⟨es, h1, h2, h3⟩ := h
  subst h3
  have e : PyData.list ((es.map (·.2)).map dTT) = .list (es.map fun e => dTT e.2) := by
    rw [List.map_map]
    rfl
  rw [e]
  exact .lst (SqL.of h1) (dp_all fun e he => (h2 e he).dp)
/-- a comprehension that makes tuples of parts -/
theorem lc_js {α : Type} {J : It} {G : Hp → Prop} {c : α → V} {ns : List α} (wk : Walk J ns.length G (YAt (ns.map c))) {i : Nat} {te : TE} {σ : L2.St} {H1 : Hp} {D : Addr} {Qd : Hp → Prop} (f : α → List (List Nat))
    (hD : H1 D = none) (hG : ∀ H, Same H1 H → G H) (hz : ns.length < sizeLine)
    (he : ∀ n H K, n ∈ ns → Same H1 H → (∀ H' p, Same H H' → JsAt H' p (f n) → K (.ref p) H') → te (σ.set i (some (c n))) H K)
    (hd : ∀ H, Same H1 H → JsList H D (ns.map f) → Qd H) :
    ∃ W : Nat → Nat → Hp → Prop, (∃ m, W 0 m (upd H1 D (.lst []))) ∧ ∀ k m H, W k m H →
      (J.stop k H ∧ Qd H) ∨ (J.go k H ∧ ∃ Nx : Hp → Prop, (∀ H', Nx H' → ∃ m', m' < m ∧ W (k + 1) m' H') ∧ ∀ x H', J.yld k H x H' → gName i x (wipe σ [i]) H' fun σ2 H2 => wipe σ2 [i] = wipe σ [i] ∧ tYes σ2 H2 fun b H3 =>
        if b = true then te σ2 H3 fun y H4 => ∃ acc, H4 D = some (.lst acc) ∧ acc.length < sizeLine ∧ Nx (upd H4 D (.lst (acc ++ [y]))) else Nx H3) := by
  refine lc_it wk (fun k H => Same H1 H ∧ JsList H D ((ns.take k).map f)) ⟨sameU hD, [], upd_same, (fun e he => by cases he), rfl⟩ (fun k H _ h => hG H h.1) ?_ ?_
  · intro k x H H' hk hP hY
    obtain ⟨hS, es, hDl, hes, hmap⟩ := hP
    obtain ⟨rfl, hx⟩ := hY
    rw [List.getElem?_map] at hx
    obtain ⟨n, hn, rfl⟩ := Option.map_eq_some_iff.mp hx
    have hm : n ∈ ns := List.mem_of_getElem? hn
    have et : ns.take (k + 1) = ns.take k ++ [n] := by
      rw [List.take_add_one, hn]
      rfl
    have ew : (wipe σ [i]).set i (some (c n)) = σ.set i (some (c n)) := by
      show (σ.set i none).set i (some (c n)) = σ.set i (some (c n))
      rw [List.set_set]
    unfold gName
    rw [ew]
    refine ⟨?_, ?_⟩
    · show (σ.set i (some (c n))).set i none = σ.set i none
      rw [List.set_set]
    · unfold tYes
      simp only [↓reduceIte]
      refine he n H' _ hm hS fun H4 p h4 hp => ?_
      have hD4 := h4 _ _ hDl
      refine ⟨_, hD4, ?_, sameW (hS.trans h4) hD, es ++ [(p, f n)], ?_, fun e hel => ?_, ?_⟩
      · have h1 : es.length = (ns.take k).length := by
          have := congrArg List.length hmap
          rw [List.length_map, List.length_map] at this
          exact this
        have h3 : (ns.take k).length ≤ ns.length := by
          rw [List.length_take]
          exact Nat.min_le_right _ _
        rw [List.length_map]
        omega
      · rw [upd_same, List.map_append]
        rfl
      · rcases List.mem_append.mp hel with z | z
        · exact ((hes e z).same h4).updL hD4
        · rw [List.mem_singleton.mp z]
          exact hp.updL hD4
      · rw [et, List.map_append, List.map_append, hmap]
        rfl
  · intro H hP
    obtain ⟨hS, hJ⟩ := hP
    rw [List.take_length] at hJ
    exact hd H hS hJ
/-! ### the fixed tests -/
def fitB (ws : KM.Ws) (ls : List Nat) : Bool := decide (1 ≤ ws.length) && decide (ws.length ≤ 9) && ws.all (fun w => decide (1 ≤ w.length) && decide (w.length ≤ 2) && w.all (fun c => decide (97 ≤ c) && decide (c ≤ 122)) && decide (w.Pairwise (· < ·)) && w.all (fun c => decide (c ∈ ls))) && decide (ls.length ≤ 8)
theorem fit_of {ws : KM.Ws} (ls : List Nat) (h : fitB ws ls = true) : Fit ws := by
  simp only [fitB, Bool.and_eq_true, decide_eq_true_eq, List.all_eq_true] at h
  obtain ⟨⟨⟨h1, h2⟩, h3⟩, h4⟩ := h
  refine ⟨h1, h2, fun w hw => ?_, ls, h4, fun w hw => (h3 w hw).2⟩
  obtain ⟨⟨⟨⟨a1, a2⟩, a3⟩, a4⟩, _⟩ := h3 w hw
  exact ⟨a1, a2, a3, a4⟩
abbrev w1 : KM.Ws := [[97, 98], [97, 99], [98, 99]]
abbrev w2 : KM.Ws := [[97, 98], [97, 98], [99], [99, 100], [100]]
abbrev w3 : KM.Ws := [[97, 98], [98, 99], [99, 100]]
abbrev w4 : KM.Ws := [[97, 98], [98, 99], [97, 99], [99, 100], [100, 101], [99, 101]]
abbrev w5 : KM.Ws := [[97], [97], [98]]
theorem fits : ∀ ws ∈ [w1, w2, w3, w4, w5], Fit ws := by
  intro ws h
  refine fit_of [97, 98, 99, 100, 101] ?_
  revert ws
  decide +kernel
abbrev due1 : List (List (List Nat)) := [[[0, 1, 2]], [[0, 1], [2, 3, 4]], [], [[0, 1, 2, 3, 4, 5]], [[0, 1]]]
abbrev due2 : List (List (List Nat)) := [[[0, 1, 2]], [], [], [], []]
theorem due1_is : [w1, w2, w3, w4, w5].map KM.joined = due1 := by decide +kernel
theorem due2_is : [w1, w2, w3, w4, w5].map KM.rings = due2 := by decide +kernel
end K55

namespace K55
open PySem PySem.Spec PyProof.Rows L2 SX
abbrev sLaw : Stmt := topS 40
/-- a def of the module that is called where no repr runs -/
def CalG (P : Program) (w : World) (K : PySem.W.Frag) (mg : Str → Option Value) (base : Heap) (x : Str) (k : Nat) (ps : List Str) (sp : Sp) : Prop :=
  ∃ f fd, mg x = some (.ref f) ∧ PySem.W.keepIn K (.ref f) = true ∧ FnG P w K mg base k f fd ps sp ∧ Binds K fd ps []
theorem pe_calG {X : Cx} {P : Program} {w : World} {K : PySem.W.Frag} {mg : Str → Option Value} {base : Heap} {A : Around} {x : Str} {k : Nat} {ps : List Str} {sp : Sp} {e : Expr} {es : List Expr} {t : TA} {p pos : Pos}
    (c : CalG P w K mg base x k ps sp) (hgd : A.guards = some []) (hr : Room k A) (hg : Gl X x) (ha : PA X (e :: es) t) (h1 : X.prog = P := by rfl) (h2 : X.w = w := by rfl) (h3 : X.K = K := by rfl) (h4 : X.mg = mg := by rfl) (h5 : X.base = base := by rfl) (h6 : X.A = A := by rfl)
    (hdb : (x == ("__debug__" : Str)) = false := by decide) (he : starEach (e :: es) X.env = (false, eval e X.env) :: starEach es X.env := by rfl) (hpl : (backTo pos (starEach es X.env)).any (·.1) = false := by rfl) :
    PE X (.Call (.Name x p) (e :: es) [] pos) (tCall sp [] E0 t) := by
  subst h1 h2 h3 h4 h5 h6
  obtain ⟨f, fd, a, b, F, bd⟩ := c
  exact pe_callG F hgd hr hg a b bd ha hdb he hpl
/-- a written tuple of words; of parts -/
def tW (ws : KM.Ws) : TE := fun _ H Q => ∀ p, H p = none → Q (.ref p) (upd H p (.tup (ws.map wS)))
def tJ (js : List (List Nat)) : TE := fun _ H Q => ∀ H' p, Same H H' → H p = none → JsAt H' p js → Q (.ref p) H'
theorem v1 : w1.map wS = [V.str "ab", .str "ac", .str "bc"] := by decide +kernel
theorem v2 : w2.map wS = [V.str "ab", .str "ab", .str "c", .str "cd", .str "d"] := by decide +kernel
theorem v3 : w3.map wS = [V.str "ab", .str "bc", .str "cd"] := by decide +kernel
theorem v4 : w4.map wS = [V.str "ab", .str "bc", .str "ac", .str "cd", .str "de", .str "ce"] := by decide +kernel
theorem v5 : w5.map wS = [V.str "a", .str "a", .str "b"] := by decide +kernel
section
variable {P : Program} {w : World} {K : PySem.W.Frag} {mg : Str → Option Value} {base : Heap} {C : Addr} {X : Cx}
theorem pj0 {e : Expr} (h : PE X e (tTup tNil)) : PE X e (tJ []) := PE.weak h fun σ H Q q => ⟨Nat.zero_le _, fun p hp => q _ p (sameU hp) hp ⟨[], upd_same, (fun e he => by cases he), rfl⟩⟩
theorem pj1 {e : Expr} {t : TA} {j : List Nat} (h : PE X e (tTup (tCons (tTup t) tNil))) (hl : j.length ≤ 9) (ht : ∀ σ H Q, Q (j.map nV) H → t σ H Q) : PE X e (tJ [j]) := PE.weak h fun σ H Q q => by
  refine ht σ H _ ⟨by rw [List.length_map]; exact Nat.le_of_lt (small1000 (by omega)), fun p1 h1 => ⟨(by show 1 ≤ sizeLine; decide), fun p2 h2 => ?_⟩⟩
  refine q _ p2 (sameUT (sameU h1) h2) (none_of (sameU h1) h2) ⟨[(p1, j)], upd_same, fun e he => ?_, rfl⟩
  rw [List.mem_singleton.mp he]
  exact sameU h2 _ _ upd_same
theorem pj2 {e : Expr} {t u : TA} {i j : List Nat} (h : PE X e (tTup (tCons (tTup t) (tCons (tTup u) tNil)))) (hl : i.length ≤ 9 ∧ j.length ≤ 9) (ht : ∀ σ H Q, Q (i.map nV) H → t σ H Q) (hu : ∀ σ H Q, Q (j.map nV) H → u σ H Q) : PE X e (tJ [i, j]) := PE.weak h fun σ H Q q => by
  refine ht σ H _ ⟨by rw [List.length_map]; exact Nat.le_of_lt (small1000 (by omega)), fun p1 h1 => hu σ _ _ ⟨by rw [List.length_map]; exact Nat.le_of_lt (small1000 (by omega)), fun p2 h2 => ⟨(by show 2 ≤ sizeLine; decide), fun p3 h3 => ?_⟩⟩⟩
  have s2 := sameUT (o := .tup (j.map nV)) (sameU (o := .tup (i.map nV)) h1) h2
  refine q _ p3 (sameUT s2 h3) (none_of s2 h3) ⟨[(p1, i), (p2, j)], upd_same, fun e he => ?_, rfl⟩
  rcases List.mem_cons.mp he with z | he
  · rw [z]
    exact sameU h3 _ _ (sameU h2 _ _ upd_same)
  · rw [List.mem_singleton.mp he]
    exact sameU h3 _ _ upd_same
abbrev nLaw : List Str := ["_law_script", "_law_some", "_law_due", "_law_words_here", "_law_spot"]
theorem scLaw : FnScope nLaw ["_law_script"] (defScope sLaw) := ⟨rfl, rfl, rfl, by decide +kernel, rfl, by decide +kernel, by decide +kernel⟩
def spLaw (K : PySem.W.Frag) : Sp := fun vs H Q _ => ∃ (sa : Addr) (ns : List Int), vs = [.ref sa] ∧ SqL K H sa (ns.map V.int) ∧ ns.length ≤ 63 ∧ ∀ H', Same H H' → Q (.bl true) H'
structure Lw (P : Program) (w : World) (K : PySem.W.Frag) (mg : Str → Option Value) (base : Heap) (C : Addr) : Prop where
  rt : Rt P w K mg base C
  bag : Cal P w K mg base "_law_bag" 1 ["_law_script", "_law_spot"] (spBag K)
  rig : CalG P w K mg base "_law_right" 9 ["_law_bag_here"] spRight
theorem ok_law {f : Addr} {fd : FuncData} (F : Fun K "law" "law" sLaw f fd) (T : Lw P w K mg base C) : FnG P w K mg base 10 f fd ["_law_script"] (spLaw K) := by
  have N := T.rt.en.nm
  refine okG F scLaw (fun vs H Q E h => ?_) (fun cdv A outer s H vs Q E hg hr h => ?_)
  · obtain ⟨sa, ns, rfl, _⟩ := h
    rfl
  · obtain ⟨sa, ns, rfl, hs, hn, k⟩ := h
    have hr1 : Room 1 _ := hr.mono (by decide)
    have hr5 : Room 5 _ := hr.mono (by decide)
    have hr8 : Room 8 _ := hr.mono (by decide)
    have hgd : (A.deeper (envOfC "law" (defScope sLaw) s.heap.objs.size f cdv)).guards = some [] := hg
    refine ⟨_, pss_cons (ps_set (i := 1) scLaw.nd rfl (.inl rfl) (pe_lst (pa_cons (PE.weak (t' := tW w1) (pe_tup (pa_cons pe_str (pa_cons pe_str (pa_cons pe_str pa_nil)))) (by intro σ H Q q; unfold tW at q; rw [v1] at q; exact ⟨by show 3 ≤ sizeLine; decide, q⟩))
          (pa_cons (PE.weak (t' := tW w2) (pe_tup (pa_cons pe_str (pa_cons pe_str (pa_cons pe_str (pa_cons pe_str (pa_cons pe_str pa_nil)))))) (by intro σ H Q q; unfold tW at q; rw [v2] at q; exact ⟨by show 5 ≤ sizeLine; decide, q⟩))
          (pa_cons (PE.weak (t' := tW w3) (pe_tup (pa_cons pe_str (pa_cons pe_str (pa_cons pe_str pa_nil)))) (by intro σ H Q q; unfold tW at q; rw [v3] at q; exact ⟨by show 3 ≤ sizeLine; decide, q⟩)) pa_nil)))))
      (pss_cons (ps_set (i := 1) scLaw.nd rfl (.inl rfl) (pe_op op_cat (pv 1) (pe_lst (pa_cons (PE.weak (t' := tW w4) (pe_tup (pa_cons pe_str (pa_cons pe_str (pa_cons pe_str (pa_cons pe_str (pa_cons pe_str (pa_cons pe_str pa_nil))))))) (by intro σ H Q q; unfold tW at q; rw [v4] at q; exact ⟨by show 6 ≤ sizeLine; decide, q⟩))
          (pa_cons (PE.weak (t' := tW w5) (pe_tup (pa_cons pe_str (pa_cons pe_str (pa_cons pe_str pa_nil)))) (by intro σ H Q q; unfold tW at q; rw [v5] at q; exact ⟨by show 3 ≤ sizeLine; decide, q⟩)) pa_nil)))))
      (pss_cons (ps_set (i := 2) scLaw.nd rfl (.inl rfl) (pe_lst (pa_cons (pj1 (j := [0, 1, 2]) (pe_tup (pa_cons (pe_tup (pa_cons pe_int (pa_cons pe_int (pa_cons pe_int pa_nil)))) pa_nil)) (by decide) (by exact fun _ _ _ q => q))
          (pa_cons (pj2 (i := [0, 1]) (j := [2, 3, 4]) (pe_tup (pa_cons (pe_tup (pa_cons pe_int (pa_cons pe_int pa_nil))) (pa_cons (pe_tup (pa_cons pe_int (pa_cons pe_int (pa_cons pe_int pa_nil)))) pa_nil))) (by decide) (by exact fun _ _ _ q => q) (by exact fun _ _ _ q => q))
          (pa_cons (pj0 (pe_tup pa_nil))
          (pa_cons (pj1 (j := [0, 1, 2, 3, 4, 5]) (pe_tup (pa_cons (pe_tup (pa_cons pe_int (pa_cons pe_int (pa_cons pe_int (pa_cons pe_int (pa_cons pe_int (pa_cons pe_int pa_nil))))))) pa_nil)) (by decide) (by exact fun _ _ _ q => q))
          (pa_cons (pj1 (j := [0, 1]) (pe_tup (pa_cons (pe_tup (pa_cons pe_int (pa_cons pe_int pa_nil))) pa_nil)) (by decide) (by exact fun _ _ _ q => q)) pa_nil)))))))
      (pss_cons (ps_if (pt_cmpR (neD K hr.units) (pe_lc (own := [("_law_words_here", 3)]) (g := gName 3) rfl scLaw.nd (pi_list (pv 1)) (blkOk_by (N := nLaw) (sc := defScope sLaw) (by decide +kernel))
            (fun _ _ _ _ _ => pg_name (i := 3) scLaw.nd rfl (.inl rfl)) (fun _ _ _ _ _ => pts_nil) (fun _ _ _ _ _ => pe_cal T.rt.jo hr8 (by rfl) (pa_cons (pe_mkV T.rt.ml hr5 (by rfl) T.rt.en.mgC (pv 3)) pa_nil))) (pv 2) (nomark _)) pss_never pss_nil)
      (pss_cons (ps_if (pt_cmpR (neD K hr.units) (pe_lc (own := [("_law_words_here", 3)]) (g := gName 3) rfl scLaw.nd (pi_list (pv 1)) (blkOk_by (N := nLaw) (sc := defScope sLaw) (by decide +kernel))
            (fun _ _ _ _ _ => pg_name (i := 3) scLaw.nd rfl (.inl rfl)) (fun _ _ _ _ _ => pts_nil) (fun _ _ _ _ _ => pe_cal T.rt.ri hr8 (by rfl) (pa_cons (pe_mkV T.rt.ml hr5 (by rfl) T.rt.en.mgC (pv 3)) pa_nil)))
            (pe_lst (pa_cons (pj1 (j := [0, 1, 2]) (pe_tup (pa_cons (pe_tup (pa_cons pe_int (pa_cons pe_int (pa_cons pe_int pa_nil)))) pa_nil)) (by decide) (by exact fun _ _ _ q => q)) (pa_cons (pj0 (pe_tup pa_nil)) (pa_cons (pj0 (pe_tup pa_nil)) (pa_cons (pj0 (pe_tup pa_nil)) (pa_cons (pj0 (pe_tup pa_nil)) pa_nil)))))) (nomark _)) pss_never pss_nil)
      (pss_one (ps_ret (pe_callB (allC K rfl) (by rfl) N.all (by decide +kernel) (pa_cons (pe_lc (own := [("_law_spot", 4)]) (g := gName 4) rfl scLaw.nd
          (pi_range1 (by rfl) N.range (pa_cons (pe_callB (call_max2 rfl) (by rfl) N.max (by decide +kernel) (pa_cons pe_int (pa_cons (pe_callB (call_min2 rfl) (by rfl) N.min (by decide +kernel) (pa_cons (pe_callB call_len_seq (by rfl) N.len (by decide +kernel) (pa_cons (pv 0) pa_nil)) (pa_cons pe_int pa_nil))) pa_nil))) pa_nil)) (blkOk_by (N := nLaw) (sc := defScope sLaw) (by decide +kernel))
          (fun _ _ _ _ _ => pg_name (i := 4) scLaw.nd rfl (.inl rfl)) (fun _ _ _ _ _ => pts_nil) (fun _ _ _ _ _ => pe_calG T.rig hgd hr (by rfl) (pa_cons (pe_cal T.bag hr1 (by rfl) (pa_cons (pv 0) (pa_cons (pv 4) pa_nil))) pa_nil))) pa_nil)))))))), ?_⟩
    -- some
    intro p1 h1 p2 h2 p3 h3
    refine ⟨(by show 3 ≤ sizeLine; decide), fun la hla => ⟨_, rfl, fun p4 h4 p5 h5 => ⟨(by show 2 ≤ sizeLine; decide), fun lb hlb => ⟨la, lb, _, _, rfl, rfl, sameU hlb _ _ (sameU h5 _ _ (sameU h4 _ _ upd_same)), upd_same, (by show 5 ≤ sizeLine; decide), fun lc hlc => ?_⟩⟩⟩⟩
    have k2 := sameU (o := .tup (w2.map wS)) h2
    have k3 := sameU (o := .tup (w3.map wS)) h3
    have k4 := sameU (o := .lst [.ref p1, .ref p2, .ref p3]) hla
    have k5 := sameU (o := .tup (w4.map wS)) h4
    have k6 := sameU (o := .tup (w5.map wS)) h5
    have k7 := sameU (o := .lst [.ref p4, .ref p5]) hlb
    have k8 := sameU (o := .lst ([.ref p1, .ref p2, .ref p3] ++ [.ref p4, .ref p5])) hlc
    have k78 := k7.trans k8
    have k68 := k6.trans k78
    have k58 := k5.trans k68
    have k48 := k4.trans k58
    have k38 := k3.trans k48
    have k28 := k2.trans k38
    have s0 := (sameU (o := .tup (w1.map wS)) h1).trans k28
    have e1 := k28 p1 _ upd_same
    have e2 := k38 p2 _ upd_same
    have e3 := k48 p3 _ upd_same
    have e4 := k68 p4 _ upd_same
    have e5 := k78 p5 _ upd_same
    have e6 := k8
    have hlist : (upd (upd (upd (upd (upd (upd (upd (upd H p1 (.tup (w1.map wS))) p2 (.tup (w2.map wS))) p3 (.tup (w3.map wS))) la (.lst [.ref p1, .ref p2, .ref p3])) p4 (.tup (w4.map wS))) p5 (.tup (w5.map wS))) lb (.lst [.ref p4, .ref p5])) lc (.lst ([.ref p1, .ref p2, .ref p3] ++ [.ref p4, .ref p5]))) lc =
      some (.lst (([(p1, w1), (p2, w2), (p3, w3), (p4, w4), (p5, w5)] : List (Addr × KM.Ws)).map fun e => V.ref e.1)) := upd_same
    have hall : ∀ e ∈ ([(p1, w1), (p2, w2), (p3, w3), (p4, w4), (p5, w5)] : List (Addr × KM.Ws)), (upd (upd (upd (upd (upd (upd (upd (upd H p1 (.tup (w1.map wS))) p2 (.tup (w2.map wS))) p3 (.tup (w3.map wS))) la (.lst [.ref p1, .ref p2, .ref p3])) p4 (.tup (w4.map wS))) p5 (.tup (w5.map wS))) lb (.lst [.ref p4, .ref p5])) lc (.lst ([.ref p1, .ref p2, .ref p3] ++ [.ref p4, .ref p5]))) e.1 = some (.tup (e.2.map wS)) := fun e he => by
      rcases List.mem_cons.mp he with z | he
      · rw [z]; exact e1
      rcases List.mem_cons.mp he with z | he
      · rw [z]; exact e2
      rcases List.mem_cons.mp he with z | he
      · rw [z]; exact e3
      rcases List.mem_cons.mp he with z | he
      · rw [z]; exact e4
      · rw [List.mem_singleton.mp he]; exact e5
    show tSeq _ _ _ _ (upd (upd (upd (upd (upd (upd (upd (upd H p1 (.tup (w1.map wS))) p2 (.tup (w2.map wS))) p3 (.tup (w3.map wS))) la (.lst [.ref p1, .ref p2, .ref p3])) p4 (.tup (w4.map wS))) p5 (.tup (w5.map wS))) lb (.lst [.ref p4, .ref p5])) lc (.lst ([.ref p1, .ref p2, .ref p3] ++ [.ref p4, .ref p5])))
    clear e1 e2 e3 e4 e5 e6
    generalize (upd (upd (upd (upd (upd (upd (upd (upd H p1 (.tup (w1.map wS))) p2 (.tup (w2.map wS))) p3 (.tup (w3.map wS))) la (.lst [.ref p1, .ref p2, .ref p3])) p4 (.tup (w4.map wS))) p5 (.tup (w5.map wS))) lb (.lst [.ref p4, .ref p5])) lc (.lst ([.ref p1, .ref p2, .ref p3] ++ [.ref p4, .ref p5]))) = H1 at s0 hlist hall ⊢
    have hfit : ∀ e ∈ ([(p1, w1), (p2, w2), (p3, w3), (p4, w4), (p5, w5)] : List (Addr × KM.Ws)), Fit e.2 := fun e he => fits e.2 (show e.2 ∈ ([(p1, w1), (p2, w2), (p3, w3), (p4, w4), (p5, w5)] : List (Addr × KM.Ws)).map (·.2) from List.mem_map.mpr ⟨e, he, rfl⟩)
    have hlen : ([(p1, w1), (p2, w2), (p3, w3), (p4, w4), (p5, w5)] : List (Addr × KM.Ws)).length = 5 := rfl
    have hd1 : ([(p1, w1), (p2, w2), (p3, w3), (p4, w4), (p5, w5)] : List (Addr × KM.Ws)).map (fun e => KM.joined e.2) = due1 := due1_is
    have hd2 : ([(p1, w1), (p2, w2), (p3, w3), (p4, w4), (p5, w5)] : List (Addr × KM.Ws)).map (fun e => KM.rings e.2) = due2 := due2_is
    generalize ([(p1, w1), (p2, w2), (p3, w3), (p4, w4), (p5, w5)] : List (Addr × KM.Ws)) = es at hlist hall hfit hlen hd1 hd2
    -- due
    intro G1 q1 t1 n1 j1 G2 q2 t2 n2 j2 G3 q3 t3 n3 j3 G4 q4 t4 n4 j4 G5 q5 t5 n5 j5
    refine ⟨(by show 5 ≤ sizeLine; decide), fun ld hld => ?_⟩
    have t6 := sameU (o := .lst [.ref q1, .ref q2, .ref q3, .ref q4, .ref q5]) hld
    have r5 := t5.trans t6
    have r4 := t4.trans r5
    have r3 := t3.trans r4
    have r2 := t2.trans r3
    have hdue : JsList (upd G5 ld (.lst [.ref q1, .ref q2, .ref q3, .ref q4, .ref q5])) ld due1 := ⟨[(q1, [[0, 1, 2]]), (q2, [[0, 1], [2, 3, 4]]), (q3, []), (q4, [[0, 1, 2, 3, 4, 5]]), (q5, [[0, 1]])], upd_same, fun e he => by
      rcases List.mem_cons.mp he with z | he
      · rw [z]; exact j1.same r2
      rcases List.mem_cons.mp he with z | he
      · rw [z]; exact j2.same r3
      rcases List.mem_cons.mp he with z | he
      · rw [z]; exact j3.same r4
      rcases List.mem_cons.mp he with z | he
      · rw [z]; exact j4.same r5
      · rw [List.mem_singleton.mp he]; exact j5.same t6, rfl⟩
    have r1 := t1.trans r2
    show tSeq _ _ _ _ (upd G5 ld (.lst [.ref q1, .ref q2, .ref q3, .ref q4, .ref q5]))
    generalize (upd G5 ld (.lst [.ref q1, .ref q2, .ref q3, .ref q4, .ref q5])) = H2 at hdue r1 ⊢
    have hl2 := r1 _ _ hlist
    have ha2 : ∀ e ∈ es, H2 e.1 = some (.tup (e.2.map wS)) := fun e he => r1 _ _ (hall e he)
    -- joined
    refine ⟨_, rfl, lc, rfl, ⟨_, SqL.of hl2⟩, fun D hD => lc_js (walkL (fun e : Addr × KM.Ws => V.ref e.1) es) (fun e => KM.joined e.2) hD (fun H' s => SqL.of (s _ _ hl2)) (small1000 (by omega)) (fun e H3 K3 he s k3 => ?_) (fun H3 s3 hJ => ?_)⟩
    · exact ⟨e.1, e.2, rfl, SqT.of (s _ _ (ha2 e he)), hfit e he, fun H4 x s4 L => ⟨x, e.2, rfl, L, fun H5 p ps s5 hp hP hee => k3 _ p (s4.trans s5) ⟨ps, hp, hP, hee⟩⟩⟩
    refine ⟨_, rfl, _, _, hJ.dp, (hdue.same s3).dp, shaped_ldTT _, shaped_ldTT _, _, rfl, ?_⟩
    rw [eqv_ldTT, decide_eq_true hd1]
    refine iteF ?_
    have hl3 := s3 _ _ hl2
    have ha3 : ∀ e ∈ es, H3 e.1 = some (.tup (e.2.map wS)) := fun e he => s3 _ _ (ha2 e he)
    -- odd_rings
    refine ⟨_, rfl, lc, rfl, ⟨_, SqL.of hl3⟩, fun D2 hD2 => lc_js (walkL (fun e : Addr × KM.Ws => V.ref e.1) es) (fun e => KM.rings e.2) hD2 (fun H' s => SqL.of (s _ _ hl3)) (small1000 (by omega)) (fun e H4 K4 he s k4 => ?_) (fun H4 s4 hR => ?_)⟩
    · exact ⟨e.1, e.2, rfl, SqT.of (s _ _ (ha3 e he)), hfit e he, fun H5 x s5 L => ⟨x, e.2, rfl, L, fun H6 p ps s6 hp hP hee => k4 _ p (s5.trans s6) ⟨ps, hp, hP, hee⟩⟩⟩
    clear t1 n1 j1 t2 n2 j2 t3 n3 j3 t4 n4 j4 t5 n5 j5 r2 r3 r4 r5 t6 hld
    intro G1 q1 t1 n1 j1 G2 q2 t2 n2 j2 G3 q3 t3 n3 j3 G4 q4 t4 n4 j4 G5 q5 t5 n5 j5
    refine ⟨(by show 5 ≤ sizeLine; decide), fun ld2 hld2 => ?_⟩
    have t6 := sameU (o := .lst [.ref q1, .ref q2, .ref q3, .ref q4, .ref q5]) hld2
    have r5 := t5.trans t6
    have r4 := t4.trans r5
    have r3 := t3.trans r4
    have r2 := t2.trans r3
    have hdue2 : JsList (upd G5 ld2 (.lst [.ref q1, .ref q2, .ref q3, .ref q4, .ref q5])) ld2 due2 := ⟨[(q1, [[0, 1, 2]]), (q2, []), (q3, []), (q4, []), (q5, [])], upd_same, fun e he => by
      rcases List.mem_cons.mp he with z | he
      · rw [z]; exact j1.same r2
      rcases List.mem_cons.mp he with z | he
      · rw [z]; exact j2.same r3
      rcases List.mem_cons.mp he with z | he
      · rw [z]; exact j3.same r4
      rcases List.mem_cons.mp he with z | he
      · rw [z]; exact j4.same r5
      · rw [List.mem_singleton.mp he]; exact j5.same t6, rfl⟩
    refine ⟨_, _, (hR.same (t1.trans r2)).dp, hdue2.dp, shaped_ldTT _, shaped_ldTT _, _, rfl, ?_⟩
    rw [eqv_ldTT, decide_eq_true hd2]
    refine iteF ?_
    have sF := ((s0.trans r1).trans s3).trans (s4.trans (t1.trans r2))
    show tNext _ _ (upd G5 ld2 (.lst [.ref q1, .ref q2, .ref q3, .ref q4, .ref q5]))
    generalize (upd G5 ld2 (.lst [.ref q1, .ref q2, .ref q3, .ref q4, .ref q5])) = HF at sF ⊢
    -- all
    have hsF := sF.seq hs
    obtain ⟨m, em, hm⟩ : ∃ m : Nat, (if (if (6 : Int) < ((ns.map V.int).length : Int) then (6 : Int) else ((ns.map V.int).length : Int)) > (2 : Int) then (if (6 : Int) < ((ns.map V.int).length : Int) then (6 : Int) else ((ns.map V.int).length : Int)) else (2 : Int)) = (m : Int) ∧ m ≤ 6 := by
      by_cases h6 : (6 : Int) < ((ns.map V.int).length : Int)
      · rw [if_pos h6]
        exact ⟨6, rfl, Nat.le_refl _⟩
      · rw [if_neg h6]
        by_cases h2 : ((ns.map V.int).length : Int) > 2
        · rw [if_pos h2]
          exact ⟨(ns.map V.int).length, rfl, by omega⟩
        · rw [if_neg h2]
          exact ⟨2, rfl, by omega⟩
    refine ⟨_, rfl, sa, _, rfl, .inl hsF, _, _, rfl, _, _, rfl, (m : Int), congrArg (fun z => [V.int z]) em, by omega, by omega, fun D3 hD3 => lc_m (walkR m) (fun _ => V.bl true) hD3 (fun _ _ => trivial) (by rw [List.length_range]; exact small1000 (by omega)) (fun i H5 K5 hi s5 k5 => ?_) (fun H5 s5 hDl => ?_)⟩
    · refine ⟨_, rfl, _, rfl, sa, i, ns, rfl, s5.seq hsF, by have := List.mem_range.mp hi; omega, fun H6 ba s6 hn6 hb6 => ⟨ba, rfl, hb6, fun H7 s7 => k5 _ ?_⟩⟩
      exact fun b o e => s7 b o (fun z => by rw [z, hn6] at e; cases e) (s6 b o e)
    · refine ⟨D3, (List.range m).map fun _ => true, rfl, SqL.of (by rw [hDl, List.map_map]; rfl), ?_⟩
      have ea : ((List.range m).map fun _ => true).all id = true := by
        rw [List.all_map]
        exact List.all_eq_true.mpr fun _ _ => rfl
      rw [ea]
      exact k _ (sF.trans s5)
end
end K55

namespace K55
open PySem PySem.Spec PyProof.Rows L2 SX
/-! ### What the top has written (each a fact that k_is finds) -/
theorem all_mk {l : PySem.W.OpenLaw} {w : World} {K : PySem.W.Frag} {h : Heap} {mg : Str → Option Value} {fa C pp f11 f12 f13 f14 f16 f18 f19 f20 f21 f22 f24 f25 f26 f27 f28 f29 f30 f32 f33 f34 f35 f36 f37 f38 f39 f40 fi fn fg : Addr} {rest : List Value} {t1 t2 t3 : Tok} (X : K.In h) (G : h.Ns mainGlobals mg) (hfa : mg "law" = some (.ref fa))
    {od11 an11 : Option Addr} {sl11 : Array (Option Value)} {oc11 kV11 dc11 pm11 cd11 ct11 : Value}
    {od12 an12 : Option Addr} {sl12 : Array (Option Value)} {oc12 kV12 dc12 pm12 cd12 ct12 : Value}
    {od13 an13 : Option Addr} {sl13 : Array (Option Value)} {oc13 kV13 dc13 pm13 cd13 ct13 : Value}
    {od14 an14 : Option Addr} {sl14 : Array (Option Value)} {oc14 kV14 dc14 pm14 cd14 ct14 : Value}
    {od16 an16 : Option Addr} {sl16 : Array (Option Value)} {oc16 kV16 dc16 pm16 cd16 ct16 : Value}
    {od18 an18 : Option Addr} {sl18 : Array (Option Value)} {oc18 kV18 dc18 pm18 cd18 ct18 : Value}
    {od19 an19 : Option Addr} {sl19 : Array (Option Value)} {oc19 kV19 dc19 pm19 cd19 ct19 : Value}
    {od20 an20 : Option Addr} {sl20 : Array (Option Value)} {oc20 kV20 dc20 pm20 cd20 ct20 : Value}
    {od21 an21 : Option Addr} {sl21 : Array (Option Value)} {oc21 kV21 dc21 pm21 cd21 ct21 : Value}
    {od22 an22 : Option Addr} {sl22 : Array (Option Value)} {oc22 kV22 dc22 pm22 cd22 ct22 : Value}
    {od24 an24 : Option Addr} {sl24 : Array (Option Value)} {oc24 kV24 dc24 pm24 cd24 ct24 : Value}
    {od25 an25 : Option Addr} {sl25 : Array (Option Value)} {oc25 kV25 dc25 pm25 cd25 ct25 : Value}
    {od26 an26 : Option Addr} {sl26 : Array (Option Value)} {oc26 kV26 dc26 pm26 cd26 ct26 : Value}
    {od27 an27 : Option Addr} {sl27 : Array (Option Value)} {oc27 kV27 dc27 pm27 cd27 ct27 : Value}
    {od28 an28 : Option Addr} {sl28 : Array (Option Value)} {oc28 kV28 dc28 pm28 cd28 ct28 : Value}
    {od29 an29 : Option Addr} {sl29 : Array (Option Value)} {oc29 kV29 dc29 pm29 cd29 ct29 : Value}
    {od30 an30 : Option Addr} {sl30 : Array (Option Value)} {oc30 kV30 dc30 pm30 cd30 ct30 : Value}
    {od32 an32 : Option Addr} {sl32 : Array (Option Value)} {oc32 kV32 dc32 pm32 cd32 ct32 : Value}
    {od33 an33 : Option Addr} {sl33 : Array (Option Value)} {oc33 kV33 dc33 pm33 cd33 ct33 : Value}
    {od34 an34 : Option Addr} {sl34 : Array (Option Value)} {oc34 kV34 dc34 pm34 cd34 ct34 : Value}
    {od35 an35 : Option Addr} {sl35 : Array (Option Value)} {oc35 kV35 dc35 pm35 cd35 ct35 : Value}
    {od36 an36 : Option Addr} {sl36 : Array (Option Value)} {oc36 kV36 dc36 pm36 cd36 ct36 : Value}
    {od37 an37 : Option Addr} {sl37 : Array (Option Value)} {oc37 kV37 dc37 pm37 cd37 ct37 : Value}
    {od38 an38 : Option Addr} {sl38 : Array (Option Value)} {oc38 kV38 dc38 pm38 cd38 ct38 : Value}
    {od39 an39 : Option Addr} {sl39 : Array (Option Value)} {oc39 kV39 dc39 pm39 cd39 ct39 : Value}
    {od40 an40 : Option Addr} {sl40 : Array (Option Value)} {oc40 kV40 dc40 pm40 cd40 ct40 : Value}
    {odi ani : Option Addr} {sli : Array (Option Value)} {oci kVi dci pmi cdi cti : Value}
    {odn ann : Option Addr} {sln : Array (Option Value)} {ocn kVn dcn pmn cdn ctn : Value}
    {odg ang : Option Addr} {slg : Array (Option Value)} {ocg kVg dcg pmg cdg ctg : Value}
    (aC : PySem.W.nsIn K mainGlobals "Lots" = some (some (.ref C)))
    (a11 : PySem.W.nsIn K mainGlobals "is_rising" = some (some (.ref f11)))
    (l11 : K.lookup f11 = some ⟨oc11, od11, .func (PySem.W.fnOf "is_rising" "is_rising" (defArgs (topS 11)) (defBody (topS 11)) (defScope (topS 11)) .none kV11 dc11 pm11 an11 cd11 ct11), sl11⟩)
    (c11 : PySem.W.codeIn K cd11 "is_rising" = true)
    (k11 : PySem.W.keepIn K (.ref f11) = true)
    (a12 : PySem.W.nsIn K mainGlobals "is_lot" = some (some (.ref f12)))
    (l12 : K.lookup f12 = some ⟨oc12, od12, .func (PySem.W.fnOf "is_lot" "is_lot" (defArgs (topS 12)) (defBody (topS 12)) (defScope (topS 12)) .none kV12 dc12 pm12 an12 cd12 ct12), sl12⟩)
    (c12 : PySem.W.codeIn K cd12 "is_lot" = true)
    (k12 : PySem.W.keepIn K (.ref f12) = true)
    (a13 : PySem.W.nsIn K mainGlobals "things_in" = some (some (.ref f13)))
    (l13 : K.lookup f13 = some ⟨oc13, od13, .func (PySem.W.fnOf "things_in" "things_in" (defArgs (topS 13)) (defBody (topS 13)) (defScope (topS 13)) .none kV13 dc13 pm13 an13 cd13 ct13), sl13⟩)
    (c13 : PySem.W.codeIn K cd13 "things_in" = true)
    (k13 : PySem.W.keepIn K (.ref f13) = true)
    (a14 : PySem.W.nsIn K mainGlobals "check_words" = some (some (.ref f14)))
    (l14 : K.lookup f14 = some ⟨oc14, od14, .func (PySem.W.fnOf "check_words" "check_words" (defArgs (topS 14)) (defBody (topS 14)) (defScope (topS 14)) .none kV14 dc14 pm14 an14 cd14 ct14), sl14⟩)
    (c14 : PySem.W.codeIn K cd14 "check_words" = true)
    (k14 : PySem.W.keepIn K (.ref f14) = true)
    (a16 : PySem.W.nsIn K mainGlobals "check_lots" = some (some (.ref f16)))
    (l16 : K.lookup f16 = some ⟨oc16, od16, .func (PySem.W.fnOf "check_lots" "check_lots" (defArgs (topS 16)) (defBody (topS 16)) (defScope (topS 16)) .none kV16 dc16 pm16 an16 cd16 ct16), sl16⟩)
    (c16 : PySem.W.codeIn K cd16 "check_lots" = true)
    (k16 : PySem.W.keepIn K (.ref f16) = true)
    (a18 : PySem.W.nsIn K mainGlobals "own_thing" = some (some (.ref f18)))
    (l18 : K.lookup f18 = some ⟨oc18, od18, .func (PySem.W.fnOf "own_thing" "own_thing" (defArgs (topS 18)) (defBody (topS 18)) (defScope (topS 18)) .none kV18 dc18 pm18 an18 cd18 ct18), sl18⟩)
    (c18 : PySem.W.codeIn K cd18 "own_thing" = true)
    (k18 : PySem.W.keepIn K (.ref f18) = true)
    (a19 : PySem.W.nsIn K mainGlobals "next_strike" = some (some (.ref f19)))
    (l19 : K.lookup f19 = some ⟨oc19, od19, .func (PySem.W.fnOf "next_strike" "next_strike" (defArgs (topS 19)) (defBody (topS 19)) (defScope (topS 19)) .none kV19 dc19 pm19 an19 cd19 ct19), sl19⟩)
    (c19 : PySem.W.codeIn K cd19 "next_strike" = true)
    (k19 : PySem.W.keepIn K (.ref f19) = true)
    (a20 : PySem.W.nsIn K mainGlobals "strikes_of" = some (some (.ref f20)))
    (l20 : K.lookup f20 = some ⟨oc20, od20, .func (PySem.W.fnOf "strikes_of" "strikes_of" (defArgs (topS 20)) (defBody (topS 20)) (defScope (topS 20)) .none kV20 dc20 pm20 an20 cd20 ct20), sl20⟩)
    (c20 : PySem.W.codeIn K cd20 "strikes_of" = true)
    (k20 : PySem.W.keepIn K (.ref f20) = true)
    (a21 : PySem.W.nsIn K mainGlobals "core_of" = some (some (.ref f21)))
    (l21 : K.lookup f21 = some ⟨oc21, od21, .func (PySem.W.fnOf "core_of" "core_of" (defArgs (topS 21)) (defBody (topS 21)) (defScope (topS 21)) .none kV21 dc21 pm21 an21 cd21 ct21), sl21⟩)
    (c21 : PySem.W.codeIn K cd21 "core_of" = true)
    (k21 : PySem.W.keepIn K (.ref f21) = true)
    (a22 : PySem.W.nsIn K mainGlobals "core" = some (some (.ref f22)))
    (l22 : K.lookup f22 = some ⟨oc22, od22, .func (PySem.W.fnOf "core" "core" (defArgs (topS 22)) (defBody (topS 22)) (defScope (topS 22)) .none kV22 dc22 pm22 an22 cd22 ct22), sl22⟩)
    (c22 : PySem.W.codeIn K cd22 "core" = true)
    (k22 : PySem.W.keepIn K (.ref f22) = true)
    (a24 : PySem.W.nsIn K mainGlobals "check_narrow" = some (some (.ref f24)))
    (l24 : K.lookup f24 = some ⟨oc24, od24, .func (PySem.W.fnOf "check_narrow" "check_narrow" (defArgs (topS 24)) (defBody (topS 24)) (defScope (topS 24)) .none kV24 dc24 pm24 an24 cd24 ct24), sl24⟩)
    (c24 : PySem.W.codeIn K cd24 "check_narrow" = true)
    (k24 : PySem.W.keepIn K (.ref f24) = true)
    (a25 : PySem.W.nsIn K mainGlobals "touch" = some (some (.ref f25)))
    (l25 : K.lookup f25 = some ⟨oc25, od25, .func (PySem.W.fnOf "touch" "touch" (defArgs (topS 25)) (defBody (topS 25)) (defScope (topS 25)) .none kV25 dc25 pm25 an25 cd25 ct25), sl25⟩)
    (c25 : PySem.W.codeIn K cd25 "touch" = true)
    (k25 : PySem.W.keepIn K (.ref f25) = true)
    (a26 : PySem.W.nsIn K mainGlobals "grown" = some (some (.ref f26)))
    (l26 : K.lookup f26 = some ⟨oc26, od26, .func (PySem.W.fnOf "grown" "grown" (defArgs (topS 26)) (defBody (topS 26)) (defScope (topS 26)) .none kV26 dc26 pm26 an26 cd26 ct26), sl26⟩)
    (c26 : PySem.W.codeIn K cd26 "grown" = true)
    (k26 : PySem.W.keepIn K (.ref f26) = true)
    (a27 : PySem.W.nsIn K mainGlobals "parts_of" = some (some (.ref f27)))
    (l27 : K.lookup f27 = some ⟨oc27, od27, .func (PySem.W.fnOf "parts_of" "parts_of" (defArgs (topS 27)) (defBody (topS 27)) (defScope (topS 27)) .none kV27 dc27 pm27 an27 cd27 ct27), sl27⟩)
    (c27 : PySem.W.codeIn K cd27 "parts_of" = true)
    (k27 : PySem.W.keepIn K (.ref f27) = true)
    (a28 : PySem.W.nsIn K mainGlobals "joined" = some (some (.ref f28)))
    (l28 : K.lookup f28 = some ⟨oc28, od28, .func (PySem.W.fnOf "joined" "joined" (defArgs (topS 28)) (defBody (topS 28)) (defScope (topS 28)) .none kV28 dc28 pm28 an28 cd28 ct28), sl28⟩)
    (c28 : PySem.W.codeIn K cd28 "joined" = true)
    (k28 : PySem.W.keepIn K (.ref f28) = true)
    (a29 : PySem.W.nsIn K mainGlobals "is_odd_ring" = some (some (.ref f29)))
    (l29 : K.lookup f29 = some ⟨oc29, od29, .func (PySem.W.fnOf "is_odd_ring" "is_odd_ring" (defArgs (topS 29)) (defBody (topS 29)) (defScope (topS 29)) .none kV29 dc29 pm29 an29 cd29 ct29), sl29⟩)
    (c29 : PySem.W.codeIn K cd29 "is_odd_ring" = true)
    (k29 : PySem.W.keepIn K (.ref f29) = true)
    (a30 : PySem.W.nsIn K mainGlobals "odd_rings" = some (some (.ref f30)))
    (l30 : K.lookup f30 = some ⟨oc30, od30, .func (PySem.W.fnOf "odd_rings" "odd_rings" (defArgs (topS 30)) (defBody (topS 30)) (defScope (topS 30)) .none kV30 dc30 pm30 an30 cd30 ct30), sl30⟩)
    (c30 : PySem.W.codeIn K cd30 "odd_rings" = true)
    (k30 : PySem.W.keepIn K (.ref f30) = true)
    (a32 : PySem.W.nsIn K mainGlobals "_law_bag" = some (some (.ref f32)))
    (l32 : K.lookup f32 = some ⟨oc32, od32, .func (PySem.W.fnOf "_law_bag" "_law_bag" (defArgs (topS 32)) (defBody (topS 32)) (defScope (topS 32)) .none kV32 dc32 pm32 an32 cd32 ct32), sl32⟩)
    (c32 : PySem.W.codeIn K cd32 "_law_bag" = true)
    (k32 : PySem.W.keepIn K (.ref f32) = true)
    (a33 : PySem.W.nsIn K mainGlobals "_law_take" = some (some (.ref f33)))
    (l33 : K.lookup f33 = some ⟨oc33, od33, .func (PySem.W.fnOf "_law_take" "_law_take" (defArgs (topS 33)) (defBody (topS 33)) (defScope (topS 33)) .none kV33 dc33 pm33 an33 cd33 ct33), sl33⟩)
    (c33 : PySem.W.codeIn K cd33 "_law_take" = true)
    (k33 : PySem.W.keepIn K (.ref f33) = true)
    (a34 : PySem.W.nsIn K mainGlobals "_law_of" = some (some (.ref f34)))
    (l34 : K.lookup f34 = some ⟨oc34, od34, .func (PySem.W.fnOf "_law_of" "_law_of" (defArgs (topS 34)) (defBody (topS 34)) (defScope (topS 34)) .none kV34 dc34 pm34 an34 cd34 ct34), sl34⟩)
    (c34 : PySem.W.codeIn K cd34 "_law_of" = true)
    (k34 : PySem.W.keepIn K (.ref f34) = true)
    (a35 : PySem.W.nsIn K mainGlobals "_law_left" = some (some (.ref f35)))
    (l35 : K.lookup f35 = some ⟨oc35, od35, .func (PySem.W.fnOf "_law_left" "_law_left" (defArgs (topS 35)) (defBody (topS 35)) (defScope (topS 35)) .none kV35 dc35 pm35 an35 cd35 ct35), sl35⟩)
    (c35 : PySem.W.codeIn K cd35 "_law_left" = true)
    (k35 : PySem.W.keepIn K (.ref f35) = true)
    (a36 : PySem.W.nsIn K mainGlobals "_law_joined" = some (some (.ref f36)))
    (l36 : K.lookup f36 = some ⟨oc36, od36, .func (PySem.W.fnOf "_law_joined" "_law_joined" (defArgs (topS 36)) (defBody (topS 36)) (defScope (topS 36)) .none kV36 dc36 pm36 an36 cd36 ct36), sl36⟩)
    (c36 : PySem.W.codeIn K cd36 "_law_joined" = true)
    (k36 : PySem.W.keepIn K (.ref f36) = true)
    (a37 : PySem.W.nsIn K mainGlobals "_law_is_ring" = some (some (.ref f37)))
    (l37 : K.lookup f37 = some ⟨oc37, od37, .func (PySem.W.fnOf "_law_is_ring" "_law_is_ring" (defArgs (topS 37)) (defBody (topS 37)) (defScope (topS 37)) .none kV37 dc37 pm37 an37 cd37 ct37), sl37⟩)
    (c37 : PySem.W.codeIn K cd37 "_law_is_ring" = true)
    (k37 : PySem.W.keepIn K (.ref f37) = true)
    (a38 : PySem.W.nsIn K mainGlobals "_law_web" = some (some (.ref f38)))
    (l38 : K.lookup f38 = some ⟨oc38, od38, .func (PySem.W.fnOf "_law_web" "_law_web" (defArgs (topS 38)) (defBody (topS 38)) (defScope (topS 38)) .none kV38 dc38 pm38 an38 cd38 ct38), sl38⟩)
    (c38 : PySem.W.codeIn K cd38 "_law_web" = true)
    (k38 : PySem.W.keepIn K (.ref f38) = true)
    (a39 : PySem.W.nsIn K mainGlobals "_law_right" = some (some (.ref f39)))
    (l39 : K.lookup f39 = some ⟨oc39, od39, .func (PySem.W.fnOf "_law_right" "_law_right" (defArgs (topS 39)) (defBody (topS 39)) (defScope (topS 39)) .none kV39 dc39 pm39 an39 cd39 ct39), sl39⟩)
    (c39 : PySem.W.codeIn K cd39 "_law_right" = true)
    (k39 : PySem.W.keepIn K (.ref f39) = true)
    (a40 : PySem.W.nsIn K mainGlobals "law" = some (some (.ref f40)))
    (l40 : K.lookup f40 = some ⟨oc40, od40, .func (PySem.W.fnOf "law" "law" (defArgs (topS 40)) (defBody (topS 40)) (defScope (topS 40)) .none kV40 dc40 pm40 an40 cd40 ct40), sl40⟩)
    (c40 : PySem.W.codeIn K cd40 "law" = true)
    (k40 : PySem.W.keepIn K (.ref f40) = true)
    (ai : PySem.W.findIn K (.ref C) "__init__" = some (some (.ref fi)))
    (ii : PySem.W.isFn K (.ref fi) = true)
    (li : K.lookup fi = some ⟨oci, odi, .func (PySem.W.fnOf "__init__" "Lots.__init__" (defArgs (inClass (topS 15) 0)) (defBody (inClass (topS 15) 0)) (defScope (inClass (topS 15) 0)) .none kVi dci pmi ani cdi cti), sli⟩)
    (ci : PySem.W.codeIn K cdi "Lots.__init__" = true)
    (ki : PySem.W.keepIn K (.ref fi) = true)
    (an : PySem.W.findIn K (.ref C) "__len__" = some (some (.ref fn)))
    (in0 : PySem.W.isFn K (.ref fn) = true)
    (ln : K.lookup fn = some ⟨ocn, odn, .func (PySem.W.fnOf "__len__" "Lots.__len__" (defArgs (inClass (topS 15) 4)) (defBody (inClass (topS 15) 4)) (defScope (inClass (topS 15) 4)) .none kVn dcn pmn ann cdn ctn), sln⟩)
    (cn : PySem.W.codeIn K cdn "Lots.__len__" = true)
    (kn : PySem.W.keepIn K (.ref fn) = true)
    (pa : PySem.W.findIn K (.ref C) "lots" = some (some (.ref pp)))
    (pg : PySem.W.specialIn K (.ref pp) "__get__" = some (some (.builtin "property.__get__")))
    (pt : PySem.W.takesIn K (.ref pp) = some true)
    (pr : PySem.W.recIn K pp "property" = some (.ref fg :: rest))
    (lg : K.lookup fg = some ⟨ocg, odg, .func (PySem.W.fnOf "lots" "Lots.lots" (defArgs (inClass (topS 15) 2)) (defBody (inClass (topS 15) 2)) (defScope (inClass (topS 15) 2)) .none kVg dcg pmg ang cdg ctg), slg⟩)
    (cg : PySem.W.codeIn K cdg "Lots.lots" = true)
    (kg : PySem.W.keepIn K (.ref fg) = true)
    (pgC : PySem.W.plainGet K C Str.empty = true)
    (hdC : PySem.W.hasDictIn K C = true)
    (poC : PySem.W.plainOver K C = true)
    (saC : PySem.W.findIn K (.ref C) "__setattr__" = some (some (.builtin "object.__setattr__")))
    (mkC : PySem.W.makesIn K C = true)
    (kcC : PySem.W.keepIn K (.ref C) = true)
    (nW : PySem.W.findIn K (.ref C) "words" = some none)
    (nL : PySem.W.findIn K (.ref C) "letters" = some none)
    (iha : PySem.W.findIn K (.ref C) "__class__" = some (some (.builtin "object.__class__")))
    (ihn : PySem.W.specialIn K (.builtin "object.__class__") "__get__" = some (some (.builtin "getset_descriptor.__get__")))
    (iht : PySem.W.takesIn K (.builtin "object.__class__") = some true)
    (ihm : PySem.W.mroIn K C (.type "object") = some true)
    (ihe : PySem.W.kitOne K (.ref C) (.ref C) = some true)
    (b_len : PySem.W.nsIn K mainGlobals "len" = some none)
    (b_range : PySem.W.nsIn K mainGlobals "range" = some none)
    (b_all : PySem.W.nsIn K mainGlobals "all" = some none)
    (b_any : PySem.W.nsIn K mainGlobals "any" = some none)
    (b_isinstance : PySem.W.nsIn K mainGlobals "isinstance" = some none)
    (b_str : PySem.W.nsIn K mainGlobals "str" = some none)
    (b_tuple : PySem.W.nsIn K mainGlobals "tuple" = some none)
    (b_list : PySem.W.nsIn K mainGlobals "list" = some none)
    (b_sorted : PySem.W.nsIn K mainGlobals "sorted" = some none)
    (b_set : PySem.W.nsIn K mainGlobals "set" = some none)
    (b_int : PySem.W.nsIn K mainGlobals "int" = some none)
    (b_abs : PySem.W.nsIn K mainGlobals "abs" = some none)
    (b_divmod : PySem.W.nsIn K mainGlobals "divmod" = some none)
    (b_min : PySem.W.nsIn K mainGlobals "min" = some none)
    (b_max : PySem.W.nsIn K mainGlobals "max" = some none)
    (b_repr : PySem.W.nsIn K mainGlobals "repr" = some none)
    (z1 : PySem.W.nsIn K mainGlobals "LETTERS" = some (some (.str "abcdefghijklmnopqrstuvwxyz" t1)))
    (z2 : PySem.W.nsIn K mainGlobals "MOST_LOTS" = some (some (.int 9 t2)))
    (z3 : PySem.W.nsIn K mainGlobals "MOST_THINGS" = some (some (.int 8 t3)))
    : ∃ fd : FuncData, (∀ (s : Shared) (v : Value), BindsTo s fd ⟨[v], []⟩ [("_law_script", v)]) ∧ ∀ base : Heap, K.In base → base.Ns mainGlobals mg → FnG l.prog w K mg base 10 fa fd ["_law_script"] (spLaw K) := by
  have e := hfa.symm.trans (PySem.W.mg_of X G a40)
  cases e
  have mg1 := fun {n : Str} {v : Value} (e : PySem.W.nsIn K mainGlobals n = some (some v)) => PySem.W.mg_of X G e
  have mg0 := fun {n : Str} (e : PySem.W.nsIn K mainGlobals n = some none) => PySem.W.mg_none_of X G e
  have N : Nm mg := ⟨mg0 b_len, mg0 b_range, mg0 b_all, mg0 b_any, mg0 b_isinstance, mg0 b_str, mg0 b_tuple, mg0 b_list, mg0 b_sorted, mg0 b_set, mg0 b_int, mg0 b_abs, mg0 b_divmod, mg0 b_min, mg0 b_max, mg0 b_repr, ⟨t1, mg1 z1⟩, ⟨t2, mg1 z2⟩, ⟨t3, mg1 z3⟩⟩
  have cl : Cls K C := ⟨pgC, hdC, poC, saC⟩
  have ic : C8.InsC K C := ⟨cl, iha, ihn, iht, ihm, ihe⟩
  have F11 := fun_mk (st := (topS 11)) l11 c11 k11
  have B11 := F11.binds (ps := ["value"]) fun _ _ _ _ _ _ us hl => match us, hl with | [_], _ => rfl
  have F12 := fun_mk (st := (topS 12)) l12 c12 k12
  have B12 := F12.binds (ps := ["value"]) fun _ _ _ _ _ _ us hl => match us, hl with | [_], _ => rfl
  have F13 := fun_mk (st := (topS 13)) l13 c13 k13
  have B13 := F13.binds (ps := ["words"]) fun _ _ _ _ _ _ us hl => match us, hl with | [_], _ => rfl
  have F14 := fun_mk (st := (topS 14)) l14 c14 k14
  have B14 := F14.binds (ps := ["words"]) fun _ _ _ _ _ _ us hl => match us, hl with | [_], _ => rfl
  have F16 := fun_mk (st := (topS 16)) l16 c16 k16
  have B16 := F16.binds (ps := ["value"]) fun _ _ _ _ _ _ us hl => match us, hl with | [_], _ => rfl
  have F18 := fun_mk (st := (topS 18)) l18 c18 k18
  have B18 := F18.binds (ps := ["lots", "left", "index"]) fun _ _ _ _ _ _ us hl => match us, hl with | [_, _, _], _ => rfl
  have F19 := fun_mk (st := (topS 19)) l19 c19 k19
  have B19 := F19.binds (ps := ["lots", "left"]) fun _ _ _ _ _ _ us hl => match us, hl with | [_, _], _ => rfl
  have F20 := fun_mk (st := (topS 20)) l20 c20 k20
  have B20 := F20.binds (ps := ["lots"]) fun _ _ _ _ _ _ us hl => match us, hl with | [_], _ => rfl
  have F21 := fun_mk (st := (topS 21)) l21 c21 k21
  have B21 := F21.binds (ps := ["lots"]) fun _ _ _ _ _ _ us hl => match us, hl with | [_], _ => rfl
  have F22 := fun_mk (st := (topS 22)) l22 c22 k22
  have B22 := F22.binds (ps := ["lots"]) fun _ _ _ _ _ _ us hl => match us, hl with | [_], _ => rfl
  have F24 := fun_mk (st := (topS 24)) l24 c24 k24
  have B24 := F24.binds (ps := ["lots"]) fun _ _ _ _ _ _ us hl => match us, hl with | [_], _ => rfl
  have F25 := fun_mk (st := (topS 25)) l25 c25 k25
  have B25 := F25.binds (ps := ["lots", "index", "other"]) fun _ _ _ _ _ _ us hl => match us, hl with | [_, _, _], _ => rfl
  have F26 := fun_mk (st := (topS 26)) l26 c26 k26
  have B26 := F26.binds (ps := ["lots", "part", "left"]) fun _ _ _ _ _ _ us hl => match us, hl with | [_, _, _], _ => rfl
  have F27 := fun_mk (st := (topS 27)) l27 c27 k27
  have B27 := F27.binds (ps := ["lots"]) fun _ _ _ _ _ _ us hl => match us, hl with | [_], _ => rfl
  have F28 := fun_mk (st := (topS 28)) l28 c28 k28
  have B28 := F28.binds (ps := ["lots"]) fun _ _ _ _ _ _ us hl => match us, hl with | [_], _ => rfl
  have F29 := fun_mk (st := (topS 29)) l29 c29 k29
  have B29 := F29.binds (ps := ["lots", "part"]) fun _ _ _ _ _ _ us hl => match us, hl with | [_, _], _ => rfl
  have F30 := fun_mk (st := (topS 30)) l30 c30 k30
  have B30 := F30.binds (ps := ["lots"]) fun _ _ _ _ _ _ us hl => match us, hl with | [_], _ => rfl
  have F32 := fun_mk (st := (topS 32)) l32 c32 k32
  have B32 := F32.binds (ps := ["_law_script", "_law_spot"]) fun _ _ _ _ _ _ us hl => match us, hl with | [_, _], _ => rfl
  have F33 := fun_mk (st := (topS 33)) l33 c33 k33
  have B33 := F33.binds (ps := ["_law_bag_here", "_law_many"]) fun _ _ _ _ _ _ us hl => match us, hl with | [_, _], _ => rfl
  have F34 := fun_mk (st := (topS 34)) l34 c34 k34
  have B34 := F34.binds (ps := ["_law_bag_here", "_law_things"]) fun _ _ _ _ _ _ us hl => match us, hl with | [_, _], _ => rfl
  have F35 := fun_mk (st := (topS 35)) l35 c35 k35
  have B35 := F35.binds (ps := ["_law_words_here"]) fun _ _ _ _ _ _ us hl => match us, hl with | [_], _ => rfl
  have F36 := fun_mk (st := (topS 36)) l36 c36 k36
  have B36 := F36.binds (ps := ["_law_words_here"]) fun _ _ _ _ _ _ us hl => match us, hl with | [_], _ => rfl
  have F37 := fun_mk (st := (topS 37)) l37 c37 k37
  have B37 := F37.binds (ps := ["_law_words_here", "_law_part"]) fun _ _ _ _ _ _ us hl => match us, hl with | [_, _], _ => rfl
  have F38 := fun_mk (st := (topS 38)) l38 c38 k38
  have B38 := F38.binds (ps := ["_law_bag_here", "_law_most"]) fun _ _ _ _ _ _ us hl => match us, hl with | [_, _], _ => rfl
  have F39 := fun_mk (st := (topS 39)) l39 c39 k39
  have B39 := F39.binds (ps := ["_law_bag_here"]) fun _ _ _ _ _ _ us hl => match us, hl with | [_], _ => rfl
  have F40 := fun_mk (st := (topS 40)) l40 c40 k40
  have B40 := F40.binds (ps := ["_law_script"]) fun _ _ _ _ _ _ us hl => match us, hl with | [_], _ => rfl
  have Fi := fun_mk (st := inClass (topS 15) 0) li ci ki
  have Bi := Fi.binds (ps := ["self", "lots"]) fun _ _ _ _ _ _ us hl => match us, hl with | [_, _], _ => rfl
  have Fn := fun_mk (st := inClass (topS 15) 4) ln cn kn
  have Bn := Fn.binds (ps := ["self"]) fun _ _ _ _ _ _ us hl => match us, hl with | [_], _ => rfl
  have Fg := fun_mk (st := inClass (topS 15) 2) lg cg kg
  have Bg := Fg.binds (ps := ["self"]) fun _ _ _ _ _ _ us hl => match us, hl with | [_], _ => rfl
  refine ⟨_, fun s v => ?_, fun base _ _ => ok_law (C := C) F40 ?_⟩
  · exact .of_eq rfl
  have en : En l.prog w K mg base C := ⟨N, cl, ic, mg1 aC, ⟨pp, fg, _, ⟨pa, pg, pt, ⟨rest, pr⟩⟩, ok_get Fg cl nW, Bg⟩, ⟨fn, _, an, in0, ok_len Fn N cl nW, Bn⟩⟩
  have c11 : Cal l.prog w K mg base "is_rising" _ _ _ := ⟨f11, _, mg1 a11, k11, ok_rising F11 N, B11⟩
  have c12 : Cal l.prog w K mg base "is_lot" _ _ _ := ⟨f12, _, mg1 a12, k12, ok_isLot F12 N c11, B12⟩
  have c13 : Cal l.prog w K mg base "things_in" _ _ _ := ⟨f13, _, mg1 a13, k13, ok_things F13 N, B13⟩
  have c14 : Cal l.prog w K mg base "check_words" _ _ _ := ⟨f14, _, mg1 a14, k14, ok_checkWords F14 N c12 c13, B14⟩
  have ml : MkL l.prog w K mg base C := ⟨⟨fi, _, ⟨mkC, ai, ii, kcC⟩, ok_init Fi cl nW nL c14 c13, Bi⟩⟩
  have c16 : Cal l.prog w K mg base "check_lots" _ _ _ := ⟨f16, _, mg1 a16, k16, ok_checkLots F16 en, B16⟩
  have c18 : Cal l.prog w K mg base "own_thing" _ _ _ := ⟨f18, _, mg1 a18, k18, ok_own F18 en, B18⟩
  have c19 : Cal l.prog w K mg base "next_strike" _ _ _ := ⟨f19, _, mg1 a19, k19, ok_next F19 c18, B19⟩
  have c20 : Cal l.prog w K mg base "strikes_of" _ _ _ := ⟨f20, _, mg1 a20, k20, ok_strikes F20 en c19, B20⟩
  have c21 : Cal l.prog w K mg base "core_of" _ _ _ := ⟨f21, _, mg1 a21, k21, ok_coreOf F21 en c20, B21⟩
  have c22 : Cal l.prog w K mg base "core" _ _ _ := ⟨f22, _, mg1 a22, k22, ok_core F22 c16 c21, B22⟩
  have c24 : Cal l.prog w K mg base "check_narrow" _ _ _ := ⟨f24, _, mg1 a24, k24, ok_narrow F24 en c16, B24⟩
  have c25 : Cal l.prog w K mg base "touch" _ _ _ := ⟨f25, _, mg1 a25, k25, ok_touch F25 en, B25⟩
  have c26 : Cal l.prog w K mg base "grown" _ _ _ := ⟨f26, _, mg1 a26, k26, ok_grown F26 en c25, B26⟩
  have c27 : Cal l.prog w K mg base "parts_of" _ _ _ := ⟨f27, _, mg1 a27, k27, ok_parts F27 en c21 c26, B27⟩
  have j28 := ok_joined F28 en c24 c27
  have c28 : Cal l.prog w K mg base "joined" _ _ _ := ⟨f28, _, mg1 a28, k28, j28, B28⟩
  have d28 : CalK l.prog w K mg base "joined" "lots" _ _ := ⟨f28, _, mg1 a28, k28, j28, fun s v => .of_eq rfl⟩
  have c29 : Cal l.prog w K mg base "is_odd_ring" _ _ _ := ⟨f29, _, mg1 a29, k29, ok_isRing F29 en, B29⟩
  have j30 := ok_rings F30 en c24 c27 c29
  have c30 : Cal l.prog w K mg base "odd_rings" _ _ _ := ⟨f30, _, mg1 a30, k30, j30, B30⟩
  have d30 : CalK l.prog w K mg base "odd_rings" "lots" _ _ := ⟨f30, _, mg1 a30, k30, j30, fun s v => .of_eq rfl⟩
  have c32 : Cal l.prog w K mg base "_law_bag" _ _ _ := ⟨f32, _, mg1 a32, k32, ok_bag F32 N, B32⟩
  have c33 : Cal l.prog w K mg base "_law_take" _ _ _ := ⟨f33, _, mg1 a33, k33, ok_take F33 N, B33⟩
  have c34 : Cal l.prog w K mg base "_law_of" _ _ _ := ⟨f34, _, mg1 a34, k34, ok_of F34 N c33, B34⟩
  have c35 : Cal l.prog w K mg base "_law_left" _ _ _ := ⟨f35, _, mg1 a35, k35, ok_left F35 N, B35⟩
  have c36 : Cal l.prog w K mg base "_law_joined" _ _ _ := ⟨f36, _, mg1 a36, k36, ok_ljoined F36 N c35, B36⟩
  have c37 : Cal l.prog w K mg base "_law_is_ring" _ _ _ := ⟨f37, _, mg1 a37, k37, ok_lring F37 N, B37⟩
  have c38 : Cal l.prog w K mg base "_law_web" _ _ _ := ⟨f38, _, mg1 a38, k38, ok_web F38 N c33 c34, B38⟩
  have rt : Rt l.prog w K mg base C := ⟨en, ml, c38, c36, c37, c28, d28, c30, d30, c22⟩
  exact ⟨rt, c32, ⟨f39, _, mg1 a39, k39, ok_right F39 rt, B39⟩⟩
theorem walk {l : PySem.W.OpenLaw} {q : Program} {loose : List Str} {XP : (Str → Option Value) → Heap → Prop} {YP : World → Heap → Prop} {d : DefRec} {K : Params → PySem.W.Frag} (hn : l.most = some 63) (hdf : d.params.defaults = [])
    (hY : ∀ (w : World) (h : Heap), YP w h → (K w.params).In h)
    (F : ∀ (w : World) (mg : Str → Option Value) (fa : Addr) (h : Heap), (K w.params).In h → h.Ns mainGlobals mg → mg d.name = some (.ref fa) →
      ∃ fd : FuncData, (∀ (s : Shared) (u : Value), BindsTo s fd ⟨[u], []⟩ [("_law_script", u)]) ∧ ∀ base : Heap, (K w.params).In base → base.Ns mainGlobals mg → FnG l.prog w (K w.params) mg base 10 fa fd ["_law_script"] (spLaw (K w.params))) :
    PySem.W.WalkO q loose XP YP l.row.toRowW d [] (fun f vs => PySem.call f vs) :=
  walk_ofG (n := 63) (k := 10) (x := "_law_script") (sp := fun w => spLaw (K w.params)) hn (by decide) hdf ⟨rfl, by decide, by decide⟩ hY F (fun _ _ a ns hl _ hS => ⟨a, ns, rfl, hS, hl, fun _ _ => rfl⟩)
end K55

open PySem PySem.W PyProof.Rows
set_option maxRecDepth 100000 in
set_option maxHeartbeats 0 in
theorem PySem.Challenge.cw_sameunions_k55_whole_joined_parts_holds : PySem.Challenge.rw_sameunions_k55_whole_joined_parts.Holds := by
  w_on; o_law; k_head; (case hw => w_witness2)
  k_fill
  refine K55.walk (l := PySem.Challenge.rw_sameunions_k55_whole_joined_parts) rfl rfl (fun w h Y => PySem.W.kIn_of Y) ?F
  case F =>
    intro w mg fa h KX G hmg
    refine' K55.all_mk KX G hmg ?aC ?a11 ?l11 ?c11 ?k11 ?a12 ?l12 ?c12 ?k12 ?a13 ?l13 ?c13 ?k13 ?a14 ?l14 ?c14 ?k14 ?a16 ?l16 ?c16 ?k16 ?a18 ?l18 ?c18 ?k18 ?a19 ?l19 ?c19 ?k19 ?a20 ?l20 ?c20 ?k20 ?a21 ?l21 ?c21 ?k21 ?a22 ?l22 ?c22 ?k22 ?a24 ?l24 ?c24 ?k24 ?a25 ?l25 ?c25 ?k25 ?a26 ?l26 ?c26 ?k26 ?a27 ?l27 ?c27 ?k27 ?a28 ?l28 ?c28 ?k28 ?a29 ?l29 ?c29 ?k29 ?a30 ?l30 ?c30 ?k30 ?a32 ?l32 ?c32 ?k32 ?a33 ?l33 ?c33 ?k33 ?a34 ?l34 ?c34 ?k34 ?a35 ?l35 ?c35 ?k35 ?a36 ?l36 ?c36 ?k36 ?a37 ?l37 ?c37 ?k37 ?a38 ?l38 ?c38 ?k38 ?a39 ?l39 ?c39 ?k39 ?a40 ?l40 ?c40 ?k40 ?ai ?ii ?li ?ci ?ki ?an ?in0 ?ln ?cn ?kn ?pa ?pg ?pt ?pr ?lg ?cg ?kg ?pgC ?hdC ?poC ?saC ?mkC ?kcC ?nW ?nL ?iha ?ihn ?iht ?ihm ?ihe ?b_len ?b_range ?b_all ?b_any ?b_isinstance ?b_str ?b_tuple ?b_list ?b_sorted ?b_set ?b_int ?b_abs ?b_divmod ?b_min ?b_max ?b_repr ?z1 ?z2 ?z3
    (case aC => k_is)
    (case a11 => k_is)
    (case l11 => k_is)
    (case c11 => k_is)
    (case k11 => k_is)
    (case a12 => k_is)
    (case l12 => k_is)
    (case c12 => k_is)
    (case k12 => k_is)
    (case a13 => k_is)
    (case l13 => k_is)
    (case c13 => k_is)
    (case k13 => k_is)
    (case a14 => k_is)
    (case l14 => k_is)
    (case c14 => k_is)
    (case k14 => k_is)
    (case a16 => k_is)
    (case l16 => k_is)
    (case c16 => k_is)
    (case k16 => k_is)
    (case a18 => k_is)
    (case l18 => k_is)
    (case c18 => k_is)
    (case k18 => k_is)
    (case a19 => k_is)
    (case l19 => k_is)
    (case c19 => k_is)
    (case k19 => k_is)
    (case a20 => k_is)
    (case l20 => k_is)
    (case c20 => k_is)
    (case k20 => k_is)
    (case a21 => k_is)
    (case l21 => k_is)
    (case c21 => k_is)
    (case k21 => k_is)
    (case a22 => k_is)
    (case l22 => k_is)
    (case c22 => k_is)
    (case k22 => k_is)
    (case a24 => k_is)
    (case l24 => k_is)
    (case c24 => k_is)
    (case k24 => k_is)
    (case a25 => k_is)
    (case l25 => k_is)
    (case c25 => k_is)
    (case k25 => k_is)
    (case a26 => k_is)
    (case l26 => k_is)
    (case c26 => k_is)
    (case k26 => k_is)
    (case a27 => k_is)
    (case l27 => k_is)
    (case c27 => k_is)
    (case k27 => k_is)
    (case a28 => k_is)
    (case l28 => k_is)
    (case c28 => k_is)
    (case k28 => k_is)
    (case a29 => k_is)
    (case l29 => k_is)
    (case c29 => k_is)
    (case k29 => k_is)
    (case a30 => k_is)
    (case l30 => k_is)
    (case c30 => k_is)
    (case k30 => k_is)
    (case a32 => k_is)
    (case l32 => k_is)
    (case c32 => k_is)
    (case k32 => k_is)
    (case a33 => k_is)
    (case l33 => k_is)
    (case c33 => k_is)
    (case k33 => k_is)
    (case a34 => k_is)
    (case l34 => k_is)
    (case c34 => k_is)
    (case k34 => k_is)
    (case a35 => k_is)
    (case l35 => k_is)
    (case c35 => k_is)
    (case k35 => k_is)
    (case a36 => k_is)
    (case l36 => k_is)
    (case c36 => k_is)
    (case k36 => k_is)
    (case a37 => k_is)
    (case l37 => k_is)
    (case c37 => k_is)
    (case k37 => k_is)
    (case a38 => k_is)
    (case l38 => k_is)
    (case c38 => k_is)
    (case k38 => k_is)
    (case a39 => k_is)
    (case l39 => k_is)
    (case c39 => k_is)
    (case k39 => k_is)
    (case a40 => k_is)
    (case l40 => k_is)
    (case c40 => k_is)
    (case k40 => k_is)
    (case ai => k_is)
    (case ii => k_is)
    (case li => k_is)
    (case ci => k_is)
    (case ki => k_is)
    (case an => k_is)
    (case in0 => k_is)
    (case ln => k_is)
    (case cn => k_is)
    (case kn => k_is)
    (case pa => k_is)
    (case pg => k_is)
    (case pt => k_is)
    (case pr => k_is)
    (case lg => k_is)
    (case cg => k_is)
    (case kg => k_is)
    (case pgC => k_is)
    (case hdC => k_is)
    (case poC => k_is)
    (case saC => k_is)
    (case mkC => k_is)
    (case kcC => k_is)
    (case nW => k_is)
    (case nL => k_is)
    (case iha => k_is)
    (case ihn => k_is)
    (case iht => k_is)
    (case ihm => k_is)
    (case ihe => first | k_is | rfl | decide +kernel)
    (case b_len => k_is)
    (case b_range => k_is)
    (case b_all => k_is)
    (case b_any => k_is)
    (case b_isinstance => k_is)
    (case b_str => k_is)
    (case b_tuple => k_is)
    (case b_list => k_is)
    (case b_sorted => k_is)
    (case b_set => k_is)
    (case b_int => k_is)
    (case b_abs => k_is)
    (case b_divmod => k_is)
    (case b_min => k_is)
    (case b_max => k_is)
    (case b_repr => k_is)
    (case z1 => k_is)
    (case z2 => k_is)
    (case z3 => k_is)

