import PyProof.Rows.All
import Wide.All
import OpenK.AllK
import Wide.FinOn
import KE.KOpsOwn
import KE.KSuper
import HandS.ForMost
import HandS.More
import HandS.Star
import HandS.SlotsOwn
import HandS.Style
import HandS.Walk
import HandS.IsInst
import HandS.DictComp
import PyProof.DictUpdate
import PyProof.DictDisplay
import HandS.ClsMeth
import HandS.Flow
import PySem.Challenge.RW_arccursors_k77_whole_rules_of_conditions
/-! The mathematics: conditions on keys and values, and why the finite search is complete. -/
namespace M77
abbrev Tx := List Nat
def chars : List Nat := (List.range 26).map (· + 97) ++ (List.range 10).map (· + 48)
def OkTx (t : Tx) : Prop := ∀ c ∈ t, c ∈ chars
def OkKey (k : Tx) : Prop := OkTx k ∧ 1 ≤ k.length ∧ k.length ≤ 20

/-- a simple condition -/
inductive Smp where
  | beg (t : Tx) | len (a b : Int) | val (l m : Option Int)
def Smp.holds : Smp → Tx → Int → Bool
  | .beg t, k, _ => t.isPrefixOf k
  | .len a b, k, _ => decide (a ≤ (k.length : Int)) && decide ((k.length : Int) ≤ b)
  | .val l m, _, v => (match l with | none => true | some x => decide (x ≤ v)) && (match m with | none => true | some x => decide (v ≤ x))
inductive Cond where
  | smp (s : Smp) | both (a b : Cond) | either (a b : Cond) | opp (a : Cond)
def Cond.holds : Cond → Tx → Int → Bool
  | .smp s, k, v => s.holds k v
  | .both a b, k, v => a.holds k v && b.holds k v
  | .either a b, k, v => a.holds k v || b.holds k v
  | .opp a, k, v => !a.holds k v
def Cond.simple : Cond → List Smp
  | .smp s => [s]
  | .both a b => a.simple ++ b.simple
  | .either a b => a.simple ++ b.simple
  | .opp a => a.simple
def Cond.depth : Cond → Nat
  | .smp _ => 0
  | .both a b => max a.depth b.depth + 1
  | .either a b => max a.depth b.depth + 1
  | .opp a => a.depth + 1

theorem holds_agree {k k' : Tx} {v v' : Int} : ∀ {c : Cond}, (∀ s ∈ c.simple, s.holds k v = s.holds k' v') → c.holds k v = c.holds k' v'
  | .smp s, h => h s (by simp [Cond.simple])
  | .both a b, h => by
    simp only [Cond.simple, List.mem_append] at h
    simp only [Cond.holds]
    rw [holds_agree (c := a) fun s hs => h s (.inl hs), holds_agree (c := b) fun s hs => h s (.inr hs)]
  | .either a b, h => by
    simp only [Cond.simple, List.mem_append] at h
    simp only [Cond.holds]
    rw [holds_agree (c := a) fun s hs => h s (.inl hs), holds_agree (c := b) fun s hs => h s (.inr hs)]
  | .opp a, h => by
    simp only [Cond.simple] at h
    simp only [Cond.holds]
    rw [holds_agree (c := a) h]

/-! ### extended -/
structure ExtOk (texts : List Tx) (L : Nat) (t f : Tx) : Prop where
  len : f.length = L
  ok : OkTx f
  pre : t <+: f
  no : ∀ u ∈ texts, t.length < u.length → ¬ u <+: f
section
variable {texts : List Tx} {L : Nat} {t f : Tx} {c : Nat}
theorem ext_base (ht : OkTx t) (hl : t.length = L) : ExtOk texts L t t :=
  ⟨hl, ht, List.prefix_refl t, fun u _ h p => by have := p.length_le; omega⟩
theorem ext_fill (ht : OkTx t) (hc : c ∈ chars) (hl : t.length < L) (ho : ∀ u ∈ texts, ¬ (t ++ [c]) <+: u) :
    ExtOk texts L t ((t ++ [c]) ++ List.replicate (L - (t ++ [c]).length) 97) := by
  refine ⟨by simp; omega, fun x hx => ?_, ?_, fun u hu h p => ?_⟩
  · rcases List.mem_append.mp hx with hx | hx
    · rcases List.mem_append.mp hx with hx | hx
      · exact ht x hx
      · rw [List.mem_singleton.mp hx]; exact hc
    · rw [(List.mem_replicate.mp hx).2]; decide
  · exact (List.prefix_append t [c]).trans (List.prefix_append _ _)
  · exact ho u hu (List.prefix_of_prefix_length_le (List.prefix_append _ _) p (by simp; omega))
theorem ext_rec (hn : t ++ [c] ∉ texts) (h : ExtOk texts L (t ++ [c]) f) : ExtOk texts L t f := by
  refine ⟨h.len, h.ok, (List.prefix_append t [c]).trans h.pre, fun u hu hl p => ?_⟩
  by_cases hq : u.length = (t ++ [c]).length
  · have e : u = t ++ [c] := (List.prefix_of_prefix_length_le p h.pre (by omega)).eq_of_length hq
    exact hn (e ▸ hu)
  · exact h.no u hu (by simp at hq ⊢; omega) p
theorem ext_none (hl : t.length < L) (h : ∀ c ∈ chars, t ++ [c] ∈ texts ∨ ∀ f, ¬ ExtOk texts L (t ++ [c]) f) : ∀ f, ¬ ExtOk texts L t f := by
  intro f e
  obtain ⟨r, hr⟩ := e.pre
  have hlen := e.len
  cases r with
  | nil => rw [List.append_nil] at hr; subst hr; omega
  | cons c r =>
    have hp : (t ++ [c]) <+: f := ⟨r, by rw [← hr]; simp⟩
    have hc : c ∈ chars := e.ok c (by rw [← hr]; simp)
    rcases h c hc with h | h
    · exact e.no _ h (by simp) hp
    · exact h f ⟨e.len, e.ok, hp, fun u hu hl p => e.no u hu (by simp at hl; omega) p⟩
end

/-! ### some_names, some_values -/
theorem longest (texts : List Tx) (k : Tx) (h : ∃ t ∈ texts, t <+: k) : ∃ t ∈ texts, t <+: k ∧ ∀ u ∈ texts, u <+: k → u.length ≤ t.length := by
  induction texts with
  | nil => obtain ⟨t, ht, _⟩ := h; cases ht
  | cons a r ih =>
    by_cases hr : ∃ t ∈ r, t <+: k
    · obtain ⟨t, ht, hp, hm⟩ := ih hr
      by_cases ha : a <+: k ∧ t.length < a.length
      · refine ⟨a, by simp, ha.1, fun u hu p => ?_⟩
        rcases List.mem_cons.mp hu with rfl | hu
        · exact Nat.le_refl _
        · have := hm u hu p; omega
      · refine ⟨t, List.mem_cons_of_mem _ ht, hp, fun u hu p => ?_⟩
        rcases List.mem_cons.mp hu with rfl | hu
        · exact Nat.le_of_not_lt fun z => ha ⟨p, z⟩
        · exact hm u hu p
    · obtain ⟨t, ht, hp⟩ := h
      rcases List.mem_cons.mp ht with rfl | ht
      · refine ⟨t, by simp, hp, fun u hu p => ?_⟩
        rcases List.mem_cons.mp hu with rfl | hu
        · exact Nat.le_refl _
        · exact absurd ⟨u, hu, p⟩ hr
      · exact absurd ⟨t, ht, hp⟩ hr
theorem greatest (ms : List Int) (n : Int) (h : ∃ m ∈ ms, m ≤ n) : ∃ m ∈ ms, m ≤ n ∧ ∀ x ∈ ms, x ≤ n → x ≤ m := by
  induction ms with
  | nil => obtain ⟨t, ht, _⟩ := h; cases ht
  | cons a r ih =>
    by_cases hr : ∃ m ∈ r, m ≤ n
    · obtain ⟨m, hm, hp, hx⟩ := ih hr
      by_cases ha : a ≤ n ∧ m < a
      · refine ⟨a, by simp, ha.1, fun u hu p => ?_⟩
        rcases List.mem_cons.mp hu with rfl | hu
        · exact Int.le_refl _
        · have := hx u hu p; omega
      · refine ⟨m, List.mem_cons_of_mem _ hm, hp, fun u hu p => ?_⟩
        rcases List.mem_cons.mp hu with rfl | hu
        · exact Int.not_lt.mp fun z => ha ⟨p, z⟩
        · exact hx u hu p
    · obtain ⟨m, hm, hp⟩ := h
      rcases List.mem_cons.mp hm with rfl | hm
      · refine ⟨m, by simp, hp, fun u hu p => ?_⟩
        rcases List.mem_cons.mp hu with rfl | hu
        · exact Int.le_refl _
        · exact absurd ⟨u, hu, p⟩ hr
      · exact absurd ⟨m, hm, hp⟩ hr
theorem least (ms : List Int) (h : ms ≠ []) : ∃ m ∈ ms, ∀ x ∈ ms, m ≤ x := by
  induction ms with
  | nil => exact absurd rfl h
  | cons a r ih =>
    by_cases hr : r = []
    · subst hr; exact ⟨a, by simp, fun x hx => by rcases List.mem_cons.mp hx with rfl | hx; exact Int.le_refl _; cases hx⟩
    · obtain ⟨m, hm, hx⟩ := ih hr
      by_cases ha : a ≤ m
      · exact ⟨a, by simp, fun x hx' => by rcases List.mem_cons.mp hx' with rfl | q; exact Int.le_refl _; exact Int.le_trans ha (hx x q)⟩
      · exact ⟨m, List.mem_cons_of_mem _ hm, fun x hx' => by rcases List.mem_cons.mp hx' with rfl | q; omega; exact hx x q⟩

/-- the names tell all keys apart that the simple conditions tell apart -/
structure NamesOk (ss : List Smp) (names : List Tx) : Prop where
  ok : ∀ n ∈ names, OkKey n
  all : ∀ k, OkKey k → ∃ n ∈ names, ∀ s ∈ ss, ∀ v, s.holds n v = s.holds k v
structure ValsOk (ss : List Smp) (vals : List Int) : Prop where
  all : ∀ v, ∃ x ∈ vals, ∀ s ∈ ss, ∀ k, s.holds k x = s.holds k v

theorem pre_iff {u k : Tx} : u.isPrefixOf k = true ↔ u <+: k := List.isPrefixOf_iff_prefix
theorem bool_of_iff {a b : Bool} (h : a = true ↔ b = true) : a = b := by cases a <;> cases b <;> simp_all

theorem names_ok {ss : List Smp} {texts names : List Tx} {marks : List Int} (h0 : [] ∈ texts) (ht : ∀ t, Smp.beg t ∈ ss → t ∈ texts) (h1 : (1 : Int) ∈ marks) (hm : ∀ a b, Smp.len a b ∈ ss → a ∈ marks ∧ b + 1 ∈ marks)
    (ok : ∀ n ∈ names, OkKey n)
    (all : ∀ t ∈ texts, ∀ L : Nat, ((L : Int) ∈ marks ∨ L = t.length ∨ L = t.length + 1) → 1 ≤ L → t.length ≤ L → L ≤ 20 → (∃ f, ExtOk texts L t f) → ∃ n ∈ names, ExtOk texts L t n) : NamesOk ss names := by
  refine ⟨ok, fun k hk => ?_⟩
  obtain ⟨kc, k1, k20⟩ := hk
  obtain ⟨t, htm, htp, htx⟩ := longest texts k ⟨[], h0, List.nil_prefix⟩
  by_cases hq : t.length = k.length
  · have e : t = k := htp.eq_of_length hq
    subst e
    obtain ⟨n, hn, hx⟩ := all t htm t.length (.inr (.inl rfl)) k1 (Nat.le_refl _) k20 ⟨t, ext_base kc rfl⟩
    have e : t = n := hx.pre.eq_of_length hx.len.symm
    exact ⟨n, hn, fun s _ v => by rw [e]⟩
  · have hlt : t.length < k.length := by have := htp.length_le; omega
    obtain ⟨m, hmm, hmn, hmx⟩ := greatest marks (k.length : Int) ⟨1, h1, by omega⟩
    have hm1 : 1 ≤ m := hmx 1 h1 (by omega)
    obtain ⟨L, hL⟩ : ∃ L : Nat, L = max m.toNat (t.length + 1) := ⟨_, rfl⟩
    have hLk : L ≤ k.length := by omega
    have hLm : m ≤ (L : Int) := by omega
    obtain ⟨n, hn, hx⟩ := all t htm L (by
      by_cases z : m.toNat ≤ t.length + 1
      · exact .inr (.inr (by omega))
      · refine .inl ?_
        have : (L : Int) = m := by omega
        rw [this]; exact hmm) (by omega) (by omega) (by omega) ⟨k.take L, by simp; omega, fun c hc => kc c (List.mem_of_mem_take hc),
          (List.prefix_take_iff.mpr ⟨htp, by omega⟩), fun u hu hl p => by
            have := htx u hu (p.trans (List.take_prefix _ _))
            omega⟩
    refine ⟨n, hn, fun s hs v => ?_⟩
    cases s with
    | beg u =>
      have hu := ht u hs
      refine bool_of_iff ?_
      simp only [Smp.holds, pre_iff]
      by_cases z : u.length ≤ t.length
      · constructor
        · intro p; exact (List.prefix_of_prefix_length_le p hx.pre z).trans htp
        · intro p; exact (List.prefix_of_prefix_length_le p htp z).trans hx.pre
      · constructor
        · intro p; exact absurd p (hx.no u hu (by omega))
        · intro p; exact absurd (htx u hu p) z
    | len a b =>
      obtain ⟨ha, hb⟩ := hm a b hs
      have e := hx.len
      have a1 : a ≤ (k.length : Int) → a ≤ m := hmx a ha
      have b1 : b + 1 ≤ (k.length : Int) → b + 1 ≤ m := hmx (b + 1) hb
      refine bool_of_iff ?_
      simp only [Smp.holds, Bool.and_eq_true, decide_eq_true_eq, e]
      constructor
      · rintro ⟨x, y⟩; exact ⟨by omega, Int.not_lt.mp fun z => by have := b1 (by omega); omega⟩
      · rintro ⟨x, y⟩; exact ⟨by have := a1 x; omega, by omega⟩
    | val l m => rfl

theorem vals_ok {ss : List Smp} {vals : List Int} (h0 : vals ≠ []) (hl : ∀ x m, Smp.val (some x) m ∈ ss → x ∈ vals ∧ x - 1 ∈ vals) (hm : ∀ l x, Smp.val l (some x) ∈ ss → x ∈ vals ∧ x + 1 ∈ vals) : ValsOk ss vals := by
  refine ⟨fun v => ?_⟩
  by_cases hv : ∃ x ∈ vals, x ≤ v
  · obtain ⟨m, hmm, hmv, hmx⟩ := greatest vals v hv
    refine ⟨m, hmm, fun s hs k => ?_⟩
    cases s with
    | beg u => rfl
    | len a b => rfl
    | val l u =>
      have e1 : ∀ x, l = some x → (x ≤ m ↔ x ≤ v) := fun x e => by
        subst e
        exact ⟨fun z => by omega, fun z => hmx x (hl x u hs).1 z⟩
      have e2 : ∀ x, u = some x → (m ≤ x ↔ v ≤ x) := fun x e => by
        subst e
        refine ⟨fun z => Int.not_lt.mp fun q => ?_, fun z => by omega⟩
        have := hmx (x + 1) (hm l x hs).2 (by omega)
        omega
      refine bool_of_iff ?_
      cases l <;> cases u <;> simp_all [Smp.holds]
  · obtain ⟨m, hmm, hmx⟩ := least vals h0
    have hvm : ∀ x ∈ vals, v < x := fun x hx => Int.not_le.mp fun z => hv ⟨x, hx, z⟩
    refine ⟨m, hmm, fun s hs k => ?_⟩
    cases s with
    | beg u => rfl
    | len a b => rfl
    | val l u =>
      have e1 : ∀ x, l = some x → (x ≤ m ↔ x ≤ v) := fun x e => by
        subst e
        obtain ⟨h1, h2⟩ := hl x u hs
        have := hvm x h1
        have := hmx (x - 1) h2
        exact ⟨fun z => by omega, fun z => by omega⟩
      have e2 : ∀ x, u = some x → (m ≤ x ↔ v ≤ x) := fun x e => by
        subst e
        obtain ⟨h1, h2⟩ := hm l x hs
        have := hvm x h1
        have := hmx x h1
        exact ⟨fun z => by omega, fun z => by omega⟩
      refine bool_of_iff ?_
      cases l <;> cases u <;> simp_all [Smp.holds]

/-- the search finds nothing: there is nothing -/
theorem search_none {c : Cond} {names : List Tx} {vals : List Int} (hn : NamesOk c.simple names) (hv : ValsOk c.simple vals) (h : ∀ n ∈ names, ∀ x ∈ vals, c.holds n x = false) : ∀ k v, OkKey k → c.holds k v = false := by
  intro k v hk
  obtain ⟨n, hn1, hn2⟩ := hn.all k hk
  obtain ⟨x, hx1, hx2⟩ := hv.all v
  rw [← h n hn1 x hx1]
  exact (holds_agree fun s hs => by rw [hn2 s hs, hx2 s hs]).symm

/-! ### what implies and are_alike tell -/
def Imp (a b : Cond) : Prop := ∀ k v, OkKey k → a.holds k v = true → b.holds k v = true
noncomputable def imp (a b : Cond) : Bool := @decide (Imp a b) (Classical.propDecidable _)
noncomputable def alike (a b : Cond) : Bool := imp a b && imp b a
theorem imp_iff {a b : Cond} : imp a b = true ↔ Imp a b := by unfold imp; exact @decide_eq_true_iff _ (Classical.propDecidable _)
theorem alike_iff {a b : Cond} : alike a b = true ↔ ∀ k v, OkKey k → a.holds k v = b.holds k v := by
  unfold alike
  rw [Bool.and_eq_true, imp_iff, imp_iff]
  constructor
  · rintro ⟨h1, h2⟩ k v hk
    exact bool_of_iff ⟨h1 k v hk, h2 k v hk⟩
  · intro h
    exact ⟨fun k v hk z => by rw [← h k v hk]; exact z, fun k v hk z => by rw [h k v hk]; exact z⟩
theorem imp_none {a b : Cond} (h : ∀ k v, OkKey k → (Cond.both a (.opp b)).holds k v = false) : imp a b = true := imp_iff.mpr fun k v hk ha => by
  have := h k v hk
  simp only [Cond.holds, ha, Bool.true_and] at this
  cases q : b.holds k v with
  | true => rfl
  | false => rw [q] at this; cases this
theorem imp_some {a b : Cond} {k : Tx} {v : Int} (hk : OkKey k) (h : (Cond.both a (.opp b)).holds k v = true) : imp a b = false := by
  cases q : imp a b with
  | false => rfl
  | true =>
    have := imp_iff.mp q k v hk
    simp only [Cond.holds, Bool.and_eq_true, Bool.not_eq_true'] at h
    rw [this h.1] at h
    cases h.2
/-- conditions that are the same everywhere -/
def Eqv (a b : Cond) : Prop := ∀ k v, a.holds k v = b.holds k v
theorem Eqv.imp {a b : Cond} (h : Eqv a b) : imp a b = true := imp_iff.mpr fun k v _ z => by rw [← h k v]; exact z
theorem Eqv.alike {a b : Cond} (h : Eqv a b) : alike a b = true := alike_iff.mpr fun k v _ => h k v
/-- the rules, pair by pair -/
def pairs (a b c : Cond) : List (Cond × Cond) := [(.both a b, .both b a), (.either a b, .either b a), (.both a a, a), (.either a a, a), (.opp (.opp a), a),
  (.both (.both a b) c, .both a (.both b c)), (.either (.either a b) c, .either a (.either b c)),
  (.both a (.either b c), .either (.both a b) (.both a c)), (.opp (.both a b), .either (.opp a) (.opp b)),
  (.either a (.both b c), .both (.either a b) (.either a c)), (.opp (.either a b), .both (.opp a) (.opp b))]
theorem pairs_eqv {a b c : Cond} : ∀ p ∈ pairs a b c, Eqv p.1 p.2 := by
  intro p hp k v
  simp only [pairs, List.mem_cons, List.mem_nil_iff, or_false] at hp
  rcases hp with rfl | rfl | rfl | rfl | rfl | rfl | rfl | rfl | rfl | rfl | rfl <;>
    (simp only [Cond.holds]; cases a.holds k v <;> cases b.holds k v <;> cases c.holds k v <;> rfl)
theorem imp_trans {a b c : Cond} (h1 : imp a b = true) (h2 : imp b c = true) : imp a c = true :=
  imp_iff.mpr fun k v hk z => imp_iff.mp h2 k v hk (imp_iff.mp h1 k v hk z)
theorem imp_and {a b : Cond} : imp (.both a b) a = true := imp_iff.mpr fun k v _ z => by simp only [Cond.holds, Bool.and_eq_true] at z; exact z.1
theorem imp_or {a b : Cond} : imp a (.either a b) = true := imp_iff.mpr fun k v _ z => by simp only [Cond.holds, Bool.or_eq_true]; exact .inl z
theorem imp_turn {a b : Cond} : imp a b = imp (.opp b) (.opp a) := bool_of_iff (by
  rw [imp_iff, imp_iff]
  constructor
  · intro h k v hk z
    simp only [Cond.holds, Bool.not_eq_true'] at z ⊢
    cases q : a.holds k v with
    | false => rfl
    | true => rw [h k v hk q] at z; cases z
  · intro h k v hk z
    have := h k v hk
    simp only [Cond.holds, Bool.not_eq_true'] at this
    cases q : b.holds k v with
    | true => rfl
    | false => rw [this q] at z; cases z)
theorem imp_alike {a b : Cond} : imp a b = alike (.both a b) a := bool_of_iff (by
  rw [imp_iff, alike_iff]
  constructor
  · intro h k v hk
    simp only [Cond.holds]
    cases q : a.holds k v with
    | false => rfl
    | true => rw [h k v hk q]; rfl
  · intro h k v hk z
    have := h k v hk
    simp only [Cond.holds, z, Bool.true_and] at this
    exact this)
/-- apart: a row of the exclusive or -/
def xor (a b : Cond) : Cond := .either (.both a (.opp b)) (.both b (.opp a))
theorem xor_none {a b : Cond} (h : ∀ k v, OkKey k → (xor a b).holds k v = false) : alike a b = true := alike_iff.mpr fun k v hk => by
  have := h k v hk
  simp only [xor, Cond.holds] at this
  cases p : a.holds k v <;> cases q : b.holds k v <;> simp_all
theorem xor_some {a b : Cond} {k : Tx} {v : Int} (hk : OkKey k) (h : (xor a b).holds k v = true) : alike a b = false ∧ (a.holds k v = b.holds k v → False) := by
  have ne : a.holds k v ≠ b.holds k v := fun e => by
    simp only [xor, Cond.holds] at h
    cases p : a.holds k v <;> cases q : b.holds k v <;> simp_all
  refine ⟨?_, ne⟩
  cases q : alike a b with
  | false => rfl
  | true => exact absurd (alike_iff.mp q k v hk) ne
theorem never {a : Cond} (k : Tx) (v : Int) : (Cond.both a (.opp a)).holds k v = false := by
  simp only [Cond.holds]; cases a.holds k v <;> rfl
theorem always {a : Cond} (k : Tx) (v : Int) : (Cond.either a (.opp a)).holds k v = true := by
  simp only [Cond.holds]; cases a.holds k v <;> rfl
theorem key_a : OkKey [97] := ⟨fun c hc => by rw [List.mem_singleton.mp hc]; decide, by decide, by decide⟩
end M77

set_option Elab.async false
set_option linter.all false
set_option maxRecDepth 100000
set_option maxHeartbeats 2000000
/-! Rules that the layer lacks, first part: methods and operators whose class is told by the heap. -/
namespace N77
open PySem PySem.Spec PyProof.Rows L2

section
variable {X : Cx} {o e fe : Expr} {es : List Expr} {m : Str} {pos apos : Pos} {ta tf : TE} {t : TA}
/-- an instance -/
abbrev Inst (H : Hp) (a C : Addr) (m : Str) : Prop := ∃ dx fs, H a = some (.ins C dx fs) ∧ fs.lookup m = none
/-- o.m(e, ..), the class told by the heap -/
def tMethD (X : Cx) (m : Str) (ta : TE) (t : TA) : TE := fun σ H Q => ta σ H fun x H1 => ∃ a C f, x = .ref a ∧ Inst H1 a C m ∧ Cls X.K C ∧ Meth X.K C m f ∧
  t σ H1 fun vs H2 => ∃ k sp, FnR X.prog X.w X.K X.mg X.base CX0 k f sp ∧ Room k X.A ∧ sp (.ref a :: vs) H2 Q E0
theorem pe_methD {pl : Sem Bool} (he : PE X o ta) (ha : PA X (e :: es) t)
    (hst : starEach (e :: es) X.env = (false, eval e X.env) :: starEach es X.env := by rfl) (hpl : (backTo pos (starEach es X.env)).any (·.1) = false := by rfl)
    (ht : eval (.Call (.Attribute o m apos) (e :: es) [] pos) X.env = (do
      let ov ← eval o X.env
      standAt apos.atName
      let (f, first) ← holding [ov] (getMethod ov m pl)
      callWith pos f first (backTo pos (starEach (e :: es) X.env)) (backToKw pos (keywordEach [] X.env))) := by rfl) :
    PE X (.Call (.Attribute o m apos) (e :: es) [] pos) (tMethD X m ta t) := by
  refine ⟨fun pins s σ H Q I h => ?_⟩
  refine PySem.W.methodCall_KW (pl := pl) (thn (he.run pins s σ H _ I h) fun u s1 ⟨x, H1, I1, rx, a, C, f, ex, ⟨dx, fs, ea, l⟩, c, hm, q⟩ => ?_) ht
  subst ex
  obtain rfl : u = Value.ref a := rx
  refine getmeth_ok I1 ea c hm l ?_
  refine PySem.W.callWith_K (first := [.ref a]) (h₀ := X.base) I.ok.mod.kin hm.kp (thn (ha.run pos pins s1 σ H1 _ I1 q) fun us s2 ⟨vs, H2, I2, r, k, sp, F, hr, q2⟩ => ⟨I2.kIn, ?_⟩) hst hpl
  exact wpAny_call (run_fnR (us := .ref a :: us) (vs := .ref a :: vs) F hr pass0 I2 (.cons rfl r) q2)

/-- f(e, ..), f an instance whose class the heap tells -/
def tCallOD (X : Cx) (tf : TE) (t : TA) : TE := fun σ H Q => tf σ H fun y H1 => ∃ a C g k sp, y = V.ref a ∧ StX.CallO X.K C g ∧ FnR X.prog X.w X.K X.mg X.base CX0 k g sp ∧ Room k X.A ∧
  t σ H1 fun vs H2 => (∃ dx fs, H2 a = some (.ins C dx fs)) ∧ sp (V.ref a :: vs) H2 Q E0
theorem pe_callOD (hf : PE X fe tf) (ha : PA X (e :: es) t)
    (ht : eval (.Call fe (e :: es) [] pos) X.env = (do callWith pos (← eval fe X.env) [] (backTo pos (starEach (e :: es) X.env)) (backToKw pos (keywordEach [] X.env))) := by rfl)
    (he : starEach (e :: es) X.env = (false, eval e X.env) :: starEach es X.env := by rfl) (hpl : (backTo pos (starEach es X.env)).any (·.1) = false := by rfl) : PE X (.Call fe (e :: es) [] pos) (tCallOD X tf t) := by
  refine ⟨fun pins s σ H Q I h => ?_⟩
  refine Call_ (thn (hf.run pins s σ H _ I h) fun u s1 ⟨y, H1, I1, ry, a, C, g, k, sp, ey, c, F, hr, q⟩ => ?_) ht
  subst ey
  obtain rfl : u = Value.ref a := ry
  refine StX.callO_with (thn (ha.run pos pins s1 σ H1 _ I1 q) fun us s2 ⟨vs, H2, I2, r, hi, q2⟩ => ?_) he hpl
  have hi' : StX.InsC X H2 a C := .inr hi
  obtain ⟨ox, od, J, hd⟩ := StX.insC_at I2 hi'
  exact ⟨⟨C, ox, od, J, hd⟩, StX.run_callO c F hr pass0 I2 hi' r q2⟩
end

/-! ### operators of own classes -/
section
open PySem.W
variable {prog : Program} {w : World} {A : Around} {E : Value → Shared → Prop} {s : Shared} {K : Frag} {x y C D f g : Addr} {ox oy : Obj} {od ody : Option Obj}
theorem own_bin2 {op : Operator} {Q : Value → Shared → Prop} (X : K.In s.heap) (I : InstAt s.heap x ox C od) (J : InstAt s.heap y oy D ody) (hne : C ≠ D) (hc : selfFirst K C = true) (hd : selfFirst K D = true)
    (hs : findIn K (.ref C) (PySem.dunder op.info.2) = some (some (.ref f))) (hf : isFn K (.ref f) = true) (hr : findIn K (.ref C) (dunderR op.info.2) = some none)
    (hs2 : findIn K (.ref D) (PySem.dunder op.info.2) = some (some (.ref g))) (hr2 : findIn K (.ref D) (dunderR op.info.2) = some none) (hsub : subIn K (.ref D) (.ref C) = some false)
    (h : wpAny (model prog w) A (call (.ref f) [.ref x, .ref y]) (PySem.W.CmpBack Q) E s) : wpAny (model prog w) A (binaryOp op (.ref x) (.ref y)) Q E s := by
  obtain ⟨cd, rest, hcd, hm⟩ := ksp_first hc
  obtain ⟨cd2, rest2, hcd2, hm2⟩ := ksp_first hd
  rcases hi : op.info with ⟨sym, nm'⟩
  rw [hi] at hs hr hs2 hr2
  dsimp only at hs hr hs2 hr2
  have one := ksp_try X I hs hf h
  obtain ⟨hh, g', d, tt, os⟩ := s
  have L1 : Looks (model prog w) hh (typeOf (.ref x)) (.ref C) := I.type
  have L2 : Looks (model prog w) hh (typeOf (.ref y)) (.ref D) := J.type
  have L3 : Looks (model prog w) hh (fillsNumberSlot (.ref C) nm') true := fills_K X hcd hm hs
  have L4 : Looks (model prog w) hh (fillsNumberSlot (.ref D) nm') true := fills_K X hcd2 hm2 hs2
  have L5 : Looks (model prog w) hh (isSubtype (.ref D) (.ref C)) false := looks_subIn X hsub
  have L6 : Looks (model prog w) hh (numberSlotInPython (.ref C) nm') true := ksp_inPy X hs hr (.inl rfl)
  have L7 : Looks (model prog w) hh (numberSlotInPython (.ref D) nm') true := ksp_inPy X hs2 hr2 (.inl rfl)
  have hne' : (Value.ref C == Value.ref D) = false := Bool.eq_false_iff.mpr fun q => by cases beq_iff_eq.mp q; exact hne rfl
  simp only [binaryOp, hi]
  refine wpAny_holding (wpAny_bind ?_)
  unfold binaryOp1
  refine wpAny_bind (L1.at (wpAny_bind (L2.at (wpAny_bind (L3.at ?_)))))
  simp only [hne', Bool.false_eq_true, if_false]
  ksp_lk
  refine wpAny_mono one (fun r s' hr' => ?_) fun _ _ e => e
  obtain ⟨v, rfl, hq⟩ := hr'
  ksp_lk
  exact hq
end
/-- what of the text two classes must have for an operator -/
structure Own2 (K : PySem.W.Frag) (nm : String) (C D f : Addr) : Prop where
  cs : PySem.W.selfFirst K C = true
  ds : PySem.W.selfFirst K D = true
  cf : PySem.W.findIn K (.ref C) (PySem.dunder nm) = some (some (.ref f))
  fn : PySem.W.isFn K (.ref f) = true
  cr : PySem.W.findIn K (.ref C) (dunderR nm) = some none
  df : ∃ g : Addr, PySem.W.findIn K (.ref D) (PySem.dunder nm) = some (some (.ref g))
  dr : PySem.W.findIn K (.ref D) (dunderR nm) = some none
  sub : C = D ∨ PySem.W.subIn K (.ref D) (.ref C) = some false
section
variable {X : Cx} {pins : List (Addr × Obj)} {σ : L2.St} {H : Hp} {s : Shared} {a C : Addr}
theorem inst_at (I : Inv X pins σ H s) (h : ∃ dx fs, H a = some (.ins C dx fs)) : ∃ ox od, PySem.W.InstAt s.heap a ox C od := by
  obtain ⟨dx, fs, h⟩ := h
  obtain ⟨mA, O, _⟩ := ins_get I.hok h
  obtain ⟨od, J, _⟩ := O.look
  exact ⟨_, _, J⟩
theorem ep_cmp {Q : VK} {u : Value} {s' : Shared} (h : EP X pins σ Q u s') : PySem.W.CmpBack (EP X pins σ Q) u s' := by
  obtain ⟨v, H', I, r, q⟩ := h
  cases v with
  | non => cases r; exact ⟨.non, H', I, rfl, q⟩
  | bl b => cases r; exact ⟨.bl b, H', I, rfl, q⟩
  | int i => obtain ⟨t, rfl⟩ := r; exact ⟨.int i, H', I, ⟨_, rfl⟩, q⟩
  | str x => obtain ⟨t, rfl⟩ := r; exact ⟨.str x, H', I, ⟨_, rfl⟩, q⟩
  | byt b => obtain ⟨t, rfl⟩ := r; exact ⟨.byt b, H', I, ⟨_, rfl⟩, q⟩
  | flt b => obtain ⟨t, rfl⟩ := r; exact ⟨.flt b, H', I, ⟨_, rfl⟩, q⟩
  | ref a => cases r; exact ⟨.ref a, H', I, rfl, q⟩
  | ty n => cases r; exact ⟨.ty n, H', I, rfl, q⟩
/-- x op y, both instances of own classes -/
def rBin (X : Cx) (nm : String) : R2 := fun x y H Q => ∃ a b C D f k sp, x = .ref a ∧ y = .ref b ∧ (∃ dx fs, H a = some (.ins C dx fs)) ∧ (∃ dx fs, H b = some (.ins D dx fs)) ∧ Own2 X.K nm C D f ∧
  FnR X.prog X.w X.K X.mg X.base CX0 k f sp ∧ Room k X.A ∧ sp [.ref a, .ref b] H Q E0
theorem op_bin {op : Operator} : OpR X (binaryOp op) (rBin X op.info.2) := by
  intro pins s σ H x y v u Q I rx ry h
  obtain ⟨a, b, C, D, f, k, sp, rfl, rfl, ia, ib, O, F, hr, q⟩ := h
  cases rx
  cases ry
  obtain ⟨ox, od, J⟩ := inst_at I ia
  obtain ⟨oy, od2, J2⟩ := inst_at I ib
  have run : wpAny (model X.prog X.w) X.A (call (.ref f) [.ref a, .ref b]) (PySem.W.CmpBack (EP X pins σ Q)) X.xe s :=
    thn (wpAny_call (run_fnR (us := [.ref a, .ref b]) (vs := [.ref a, .ref b]) F hr pass0 I (.cons rfl (.cons rfl .nil)) q)) fun u s' z => ep_cmp z
  rcases O.sub with e | e
  · subst e
    obtain ⟨m, Fr⟩ := I.fr
    exact PySem.W.binop_K Fr I.mod.kin J J2.type O.cs O.cf O.fn run
  · by_cases hne : C = D
    · subst hne
      obtain ⟨m, Fr⟩ := I.fr
      exact PySem.W.binop_K Fr I.mod.kin J J2.type O.cs O.cf O.fn run
    · obtain ⟨g, dg⟩ := O.df
      exact own_bin2 I.kIn J J2 hne O.cs O.ds O.cf O.fn O.cr dg O.dr e run
/-- ~x -/
def rInv (X : Cx) : V → Hp → VK → Prop := fun x H Q => ∃ a C f k sp, x = .ref a ∧ (∃ dx fs, H a = some (.ins C dx fs)) ∧ PySem.W.findIn X.K (.ref C) "__invert__" = some (some (.ref f)) ∧ PySem.W.isFn X.K (.ref f) = true ∧
  FnR X.prog X.w X.K X.mg X.base CX0 k f sp ∧ Room k X.A ∧ sp [.ref a] H Q E0
theorem un_own : UnR X (unaryOp .Invert) (rInv X) := by
  intro pins s σ H x v Q I rx h
  obtain ⟨a, C, f, k, sp, rfl, ia, hs, hf, F, hr, q⟩ := h
  cases rx
  obtain ⟨ox, od, J⟩ := inst_at I ia
  obtain ⟨m, Fr⟩ := I.fr
  exact PySem.W.ksp_inv Fr I.mod.kin J hs hf (wpAny_call (run_fnR (us := [.ref a]) (vs := [.ref a]) F hr pass0 I (.cons rfl .nil) q))
/-- len(x) -/
def rLenO (X : Cx) : List V → Hp → VK → Prop := fun xs H Q => ∃ a C f k sp, xs = [.ref a] ∧ (∃ dx fs, H a = some (.ins C dx fs)) ∧ PySem.W.findIn X.K (.ref C) "__len__" = some (some (.ref f)) ∧ PySem.W.isFn X.K (.ref f) = true ∧
  FnR X.prog X.w X.K X.mg X.base CX0 k f sp ∧ Room (k + 1) X.A ∧ sp [.ref a] H (fun v H' => ∃ n : Nat, v = .int n ∧ n < 2 ^ 63 ∧ Q v H') E0
theorem call_lenO : CallR X (.builtin "len") (rLenO X) := by
  intro pins s σ H xs us Q I r h
  obtain ⟨a, C, f, k, sp, rfl, ia, hs, hf, F, hr, q⟩ := h
  obtain ⟨u, rfl, ru⟩ := vals1 r
  cases ru
  obtain ⟨ox, od, J⟩ := inst_at I ia
  obtain ⟨m, Fr⟩ := I.fr
  refine PySem.W.len_K Fr I.mod.kin J hs hf (thn (wpAny_call (SlX.run_at (us := [.ref a]) (ws := [.ref a]) F hr.in1 I.env0.in1 pass0 I (.cons rfl .nil) q)) fun u s' z => ?_)
  obtain ⟨v, H', I', rv, n, en, hn, qq⟩ := z
  subst en
  obtain ⟨t, rfl⟩ := rv
  exact ⟨⟨by omega, by omega⟩, .int n, H', I'.tok _, ⟨_, rfl⟩, qq⟩
end

/-! ### a text's one sign, many times -/
section
variable {X : Cx}
theorem rep_cps (c : Nat) : ∀ n : Nat, ((List.replicate n #[c]).foldl (· ++ ·) #[]).toList = List.replicate n c := by
  have go : ∀ (n : Nat) (acc : Array Nat), ((List.replicate n #[c]).foldl (· ++ ·) acc).toList = acc.toList ++ List.replicate n c := by
    intro n
    induction n with
    | zero => intro acc; simp
    | succ n ih => intro acc; rw [List.replicate_succ, List.foldl_cons, ih, List.replicate_succ]; simp
  intro n
  rw [go]; simp
theorem op_mul_sign : OpR X (binaryOp .Mult) (fun x y H Q => ∃ (c : Nat) (i : Int), x = .str ⟨#[c]⟩ ∧ y = .int i ∧ 0 ≤ i ∧ i ≤ 1000 ∧ Q (.str ⟨(List.replicate i.toNat c).toArray⟩) H) := by
  intro pins s σ H x y v u Q I rx ry h
  obtain ⟨c, i, rfl, rfl, h0, h1, q⟩ := h
  obtain ⟨t, rfl⟩ := rx
  obtain ⟨t', rfl⟩ := ry
  have hl : (⟨#[c]⟩ : Str).length = 1 := rfl
  refine PySem.P.mul_str ?_ (fun a b => ?_) (fun a b => ?_) ?_
  · rw [decide_eq_false (by omega), decide_eq_false (by omega)]; rfl
  · rw [hl]
    have : (1 : Int) ≤ (2 ^ 63 - 1) / i := by
      refine (Int.le_ediv_iff_mul_le (by omega)).mpr (by omega)
    omega
  · rw [hl]
    show decide _ = false
    refine decide_eq_false ?_
    have := sizeLine_eq
    omega
  · by_cases z : i < 1
    · rw [if_pos z]
      have e : i = 0 := by omega
      subst e
      exact ⟨by decide, .str _, H, I.tok _, ⟨_, rfl⟩, q⟩
    · rw [if_neg z]
      by_cases z1 : i = 1
      · subst z1
        rw [if_pos (show ((1 : Int) == 1 || (⟨#[c]⟩ : Str).length == 0) = true by rfl)]
        exact ⟨.str _, H, I, ⟨_, rfl⟩, q⟩
      · have e : ¬ ((i == 1 || (⟨#[c]⟩ : Str).length == 0) = true) := by
          rw [hl]; simp [z1]
        rw [if_neg e]
        have e2 : (⟨(List.replicate i.toNat #[c]).foldl (· ++ ·) #[]⟩ : Str) = ⟨(List.replicate i.toNat c).toArray⟩ := by
          refine congrArg Str.mk (Array.toList_inj.mp ?_)
          rw [rep_cps]
        refine ⟨?_, .str _, H, I.tok _, ⟨_, rfl⟩, ?_⟩
        · rw [e2]
          show (List.replicate i.toNat c).toArray.size ≤ _
          rw [List.size_toArray, List.length_replicate]
          have := sizeLine_eq
          omega
        · rw [e2]; exact q
end
end N77

set_option Elab.async false
set_option linter.all false
set_option maxRecDepth 100000
set_option maxHeartbeats 2000000
/-! Rules that the layer lacks, second part: dicts with other dicts put into them. -/
namespace N77
open PySem PySem.Spec PyProof.Rows
section
variable {prog : Program} {w : World} {K : Type} [DecidableEq K] {knd : KeyKind prog w K} {A : Around} {E : Value → Shared → Prop} {s : Shared}
theorem dictPut_pairs {d : Addr} {kvs : List (K × Value)} {k : K} {key v : Value} {Q : Unit → Shared → Prop} (hkey : knd.is k key = true) (hm : s.heap.DictOf knd d kvs)
    (hQ : ∀ h', h'.DictOf knd d (stored kvs k v) → Heap.SameBut d s.heap h' → Q () { s with heap := h' })
    (hsz : kvs.length ≤ sizeLine) :
    wpAny (model prog w) A (dictPut d (knd.hash k) key v) Q E s := by
  obtain ⟨o, es, ep, ho, hc, hd, hk, hp, hn⟩ := hm
  have hes : es.size ≤ sizeLine := by have e1 := hp.length; have e2 : es.toList.length = es.size := by simp
                                      omega
  unfold dictPut
  refine wpAny_bind (wpAny_dictFind_of hkey ho hd hk ?_)
  have hidx : (es.findIdx? fun e => knd.is k e.key) = kvs.findIdx? fun kv => decide (kv.1 = k) := by
    rw [← hp.findIdx k]; obtain ⟨l⟩ := es; simp
  cases hi : es.findIdx? fun e => knd.is k e.key with
  | some i =>
    refine wpAny_updateDict ho hd (hQ _ ⟨_, _, ep, Heap.get?_update_self _ ho (Obj.isFreed_of_dict (Obj.data_mapDict hd _)),
      hc.mapDict _, Obj.data_mapDict hd _, hk.modify _ _, ?_, ?_⟩ (Heap.SameBut.update ..))
    · rw [stored, if_pos (any_of_findIdx_some (hidx ▸ hi))]
      have hl : (es.toList.findIdx? fun e => knd.is k e.key) = some i := by rw [← hi]; obtain ⟨l⟩ := es; simp
      have := hp.modify hn hl v
      obtain ⟨l⟩ := es
      simpa using this
    · rw [stored, if_pos (any_of_findIdx_some (hidx ▸ hi)), keys_map_store]; exact hn
  | none =>
    have hnot : k ∉ kvs.map (·.1) := not_mem_of_findIdx_none (hidx ▸ hi)
    have hany : ¬ (kvs.any fun kv => decide (kv.1 = k)) = true := by
      rw [List.any_eq_true]; rintro ⟨kv, hkv, he⟩
      exact hnot (List.mem_map.mpr ⟨kv, hkv, of_decide_eq_true he⟩)
    refine wpAny_updateDictKeys (hz := hes) ho hd (hQ _ ⟨_, _, ep + 1, Heap.get?_update_self _ ho (Obj.isFreed_of_dict (Obj.data_mapDictKeys hd _)),
      hc.mapDictKeys _, Obj.data_mapDictKeys hd _, hk.push hkey _, ?_, ?_⟩ (Heap.SameBut.update ..))
    · rw [stored, if_neg hany]
      have := hp.append hkey (knd.hash k) v
      obtain ⟨l⟩ := es
      simpa using this
    · rw [stored, if_neg hany, List.map_append, List.nodup_append]
      refine ⟨hn, by simp, ?_⟩
      intro a ha b hb
      simp only [List.map_cons, List.map_nil, List.mem_singleton] at hb
      subst hb
      exact fun e => hnot (e ▸ ha)

theorem merge_loop {d o : Addr} {kvs more : List (K × Value)} {oo : Obj} {eso : Array DictEntry} {epo : Nat} {Q : PUnit → Shared → Prop} (hdo : d ≠ o)
    (hd : s.heap.DictOf knd d kvs) (hoo : s.heap.get? o = some oo) (hdo' : oo.data = .dict eso epo) (hko : KeysOf knd eso) (hpo : True)
    (hg : ∀ (i : Nat) (h : i < eso.size), ∃ kv, more[i]? = some kv ∧ knd.is kv.1 eso[i].key = true ∧ eso[i].val = kv.2) (hlen : more.length = eso.size)
    (hsz : kvs.length + more.length ≤ sizeLine)
    (hQ : ∀ h', h'.DictOf knd d (merged kvs more) → Heap.SameBut d s.heap h' → Q PUnit.unit { s with heap := h' }) :
    wpAny (model prog w) A (forIn (List.range eso.size) PUnit.unit fun i (_ : PUnit) => (do
      let l' ← dictEntries o
      match l'[i]? with
        | some e => do
          holding [e.key, e.val] (dictPut d e.hash e.key e.val)
          let ep' ← dictEpoch o
          if (ep' != epo) = true then do
              (unsupported "dict.changed-during-merge" : Sem PUnit)
              pure (ForInStep.yield PUnit.unit)
            else pure (ForInStep.yield PUnit.unit)
        | _ => do
          (unsupported "dict.changed-during-merge" : Sem PUnit)
          pure (ForInStep.yield PUnit.unit) : Sem (ForInStep PUnit))) Q E s := by
  refine wpAny_forIn_list _
    (fun rest _ s' => ∃ h' i, s' = { s with heap := h' } ∧ rest = (List.range eso.size).drop i ∧ i ≤ eso.size ∧ h'.DictOf knd d (merged kvs (more.take i)) ∧ h'.get? o = some oo ∧ Heap.SameBut d s.heap h')
    _ ?_ ?_ _ _ ⟨s.heap, 0, rfl, by simp, Nat.zero_le _, by simpa [merged] using hd, hoo, Heap.SameBut.refl _ _⟩
  · rintro x rest b s' ⟨h', i, rfl, hr, hi, hd', hoo', hs'⟩
    have hlt : i < eso.size := by
      rcases Nat.lt_or_ge i eso.size with h | h
      · exact h
      · rw [List.drop_eq_nil_of_le (by simpa using h)] at hr; simp at hr
    obtain ⟨rfl, hrest⟩ : x = i ∧ rest = (List.range eso.size).drop (i + 1) := by
      rw [List.drop_eq_getElem_cons (by simpa using hlt)] at hr
      injection hr with h1 h2
      exact ⟨by simpa using h1, h2⟩
    refine wpAny_bind (wpAny_dictEntries hoo' hdo' ?_)
    rw [Array.getElem?_eq_getElem hlt]
    obtain ⟨⟨k, v⟩, hkv, hkey, hval⟩ := hg x hlt
    obtain ⟨k', hkey', hhash⟩ := hko eso[x] (Array.getElem_mem hlt)
    obtain rfl : k' = k := knd.inj _ _ _ hkey' hkey
    show wpAny _ _ (holding [eso[x].key, eso[x].val] (dictPut d eso[x].hash eso[x].key eso[x].val) >>= _) _ _ _
    rw [hhash, hval]
    have hmx : (merged kvs (more.take x)).length ≤ sizeLine := by
      have e1 := merged_length_le kvs (more.take x)
      have e2 : (more.take x).length ≤ more.length := by rw [List.length_take]; omega
      omega
    refine wpAny_bind (wpAny_holding (dictPut_pairs (hsz := hmx) hkey hd' fun h'' hd'' hs'' => ?_))
    have hoo'' : h''.get? o = some oo := (hs''.2 o (Ne.symm hdo)).trans hoo'
    refine wpAny_bind (wpAny_dictEpoch hoo'' hdo' ?_)
    rw [if_neg (by simp)]
    exact wpAny_pure ⟨h'', x + 1, rfl, hrest, hlt, by rw [merged_take_succ kvs more x (k', v) hkv]; exact hd'', hoo'', hs'.trans hs''⟩
  · rintro b s' ⟨h', i, rfl, hr, hi, hd', hoo', hs'⟩
    have hin : i = eso.size := by
      rcases Nat.lt_or_ge i eso.size with h | h
      · rw [List.drop_eq_getElem_cons (by simpa using h)] at hr; exact nomatch hr
      · exact Nat.le_antisymm hi h
    refine hQ h' ?_ hs'
    rw [hin, ← hlen, List.take_length] at hd'; exact hd'

theorem mergeMapping_pairs {d o : Addr} {kvs more : List (K × Value)} {Q : Unit → Shared → Prop} (hdo : d ≠ o) (hoS : (o == sysModules) = false) (hnr : ∀ k a, knd.is k (.ref a) = false)
    (hd : s.heap.DictOf knd d kvs) (ho : s.heap.DictOf knd o more)
    (hQ : ∀ h', h'.DictOf knd d (merged kvs more) → Heap.SameBut d s.heap h' → Q () { s with heap := h' })
    (hsz : kvs.length + more.length ≤ sizeLine) : wpAny (model prog w) A (mergeMapping d (.ref o) false) Q E s := by
  obtain ⟨od, esd, epd, hod, hcd, hdd, hkd, hpd, hnd⟩ := id hd
  obtain ⟨oo, eso, epo, hoo, hco, hdo', hko, hpo, hno⟩ := id ho
  have hlen : more.length = eso.size := by rw [← hpo.length]; simp
  have hg : ∀ (i : Nat) (h : i < eso.size), ∃ kv, more[i]? = some kv ∧ knd.is kv.1 eso[i].key = true ∧ eso[i].val = kv.2 := fun i hlt => by
    obtain ⟨kv, hkv⟩ : ∃ kv, more[i]? = some kv := ⟨more[i]'(by rw [hlen]; exact hlt), List.getElem?_eq_getElem _⟩
    obtain ⟨k, v⟩ := kv
    obtain ⟨hkey, hval⟩ := hpo.get? (e := eso[i]) (by simp [hlt]) hkv
    exact ⟨(k, v), hkv, hkey, hval⟩
  have empty_loop : ∀ {Q' : PUnit → Shared → Prop}, Q' PUnit.unit s → wpAny (model prog w) A (forIn eso PUnit.unit fun (e : DictEntry) (_ : PUnit) =>
      (match e.key with
        | Value.ref a => do
          let x ← specialOf e.key (Str.ofString "__eq__")
          if (x != some (Value.builtin "object.__eq__")) = true then
              if (Array.filter (fun x => x.hash == e.hash) eso).size > 1 then do
                (unsupported "dict.merge-into-an-empty-dict:keys-of-equal-hash" : Sem PUnit)
                pure (ForInStep.yield PUnit.unit)
              else pure (ForInStep.yield PUnit.unit)
            else pure (ForInStep.yield PUnit.unit)
        | x => pure (ForInStep.yield PUnit.unit) : Sem (ForInStep PUnit))) Q' E s := by
    intro Q' hq
    obtain ⟨l⟩ := eso
    rw [List.forIn_toArray]
    refine wpAny_forIn_list _ (fun rest _ s' => s' = s ∧ ∀ e ∈ rest, ∃ k, knd.is k e.key = true) _ ?_ ?_ _ _ ⟨rfl, fun e he => ?_⟩
    · rintro e rest b s' ⟨rfl, hk⟩
      obtain ⟨k, hke⟩ := hk e (by simp)
      have hk2 : ∀ a, e.key ≠ .ref a := fun a z => by rw [z, hnr k a] at hke; cases hke
      split
      · rename_i a z
        exact absurd z (hk2 a)
      · exact wpAny_pure ⟨rfl, fun e' he' => hk e' (List.mem_cons_of_mem _ he')⟩
    · rintro b s' ⟨rfl, _⟩
      exact hq
    · obtain ⟨k, h1, _⟩ := hko e (by simpa using he)
      exact ⟨k, h1⟩
  unfold mergeMapping
  refine wpAny_bind (wpAny_isInstance ho.typeIs isSubtype_dict_dict ?_)
  simp only [if_true]
  refine wpAny_bind (wpAny_specialOf ho.typeIs F.slot_dict_iter.lookup (wpAny_bind (wpAny_pure ?_)))
  simp only [beq_self_eq_true, hoS, Bool.false_eq_true, if_false]
  refine wpAny_bind (wpAny_dictEntries hod hdd ?_)
  have loop : wpAny (model prog w) A (do
      let l ← dictEntries o
      let epoch ← dictEpoch o
      forIn (List.range l.size) PUnit.unit fun i (_ : PUnit) => (do
        let l' ← dictEntries o
        match l'[i]? with
          | some e => do
            holding [e.key, e.val] (dictPut d e.hash e.key e.val)
            let ep' ← dictEpoch o
            if (ep' != epoch) = true then do
                (unsupported "dict.changed-during-merge" : Sem PUnit)
                pure (ForInStep.yield PUnit.unit)
              else pure (ForInStep.yield PUnit.unit)
          | _ => do
            (unsupported "dict.changed-during-merge" : Sem PUnit)
            pure (ForInStep.yield PUnit.unit) : Sem (ForInStep PUnit))
      pure ()) Q E s := by
    refine wpAny_bind (wpAny_dictEntries hoo hdo' (wpAny_bind (wpAny_dictEpoch hoo hdo' (wpAny_bind ?_))))
    exact merge_loop hdo hd hoo hdo' hko trivial hg hlen hsz fun h' a b => wpAny_pure (hQ h' a b)
  split
  · refine wpAny_bind (wpAny_dictEntries hoo hdo' (wpAny_bind (empty_loop loop)))
  · exact loop
end

open L2
section
variable {X : Cx} {pins : List (Addr × Obj)} {σ : L2.St} {H : Hp} {s : Shared} {d a : Addr} {ks more : List (Key × V)}
theorem key_noref {P : Program} {w : World} (k : Key) (a : Addr) : (mixKind P w).is k (.ref a) = false := by
  cases k <;> rfl
/-- the pairs of the dict at a are put into the dict at d -/
theorem d_merge {Q : Unit → Shared → Prop} {A : Around} {E : Value → Shared → Prop} (I : Inv X pins σ H s) (hd : H d = some (.dK ks)) (ha : Rd H a (.dK more)) (hne : a ≠ d) (hz : ks.length + more.length ≤ sizeLine)
    (h : ∀ s', Inv X pins σ (upd H d (.dK (mergeK ks more))) s' → Q () s') : wpAny (model X.prog X.w) A (mergeMapping d (.ref a) false) Q E s := by
  obtain ⟨z, hs, vs, rel, dd⟩ := dk_of I.hok hd
  obtain ⟨z2, hs2, vs2, rel2, dd2⟩ := dk_rd I.hok ha
  refine mergeMapping_pairs (knd := mixKind X.prog X.w) (Ne.symm hne) hs2 key_noref dd dd2 (fun h' dd' sb => h _ ?_) (by rw [← rel.length, ← rel2.length]; exact hz)
  have he : ∃ q, h'.get? d = some q := let ⟨q, _, _, hq, _⟩ := dd'; ⟨q, hq⟩
  exact d_write I (by rw [hd]; exact True.intro) sb he (dk_new (Nat.le_trans (length_mergeK more ks) hz) hs (rel2.merge rel) dd')
/-- the written pairs as a new dict -/
def rSub (trs : List (TE × TE)) (σ : L2.St) (H : Hp) (R : Addr → Hp → Prop) : Prop := ∀ p, H p = none → tPairs trs σ (upd H p (.dK [])) fun ps H2 => H2 p = some (.dK []) ∧
  ∃ kvs : List (Key × V), ps = kvs.map (fun kv => (kV kv.1, kv.2)) ∧ kvs.length ≤ 15 ∧ R p (upd H2 p (.dK (mergeK [] kvs)))
theorem d_sub {pos : Pos} {keys : List (Option Expr)} {values : List Expr} {trs : List (TE × TE)} {R : Addr → Hp → Prop} (hp : PPs X pos keys values trs) (hl : (pairTrees keys values X.env pos).length ≤ 15) (I : Inv X pins σ H s) (h : rSub trs σ H R) :
    wpAny (model X.prog X.w) X.A (subDict (pairTrees keys values X.env pos)) (fun p s' => ∃ H', Inv X pins σ H' s' ∧ R p H') X.xe s := by
  have hn := I.hok.fresh (Nat.le_refl s.heap.objs.size)
  have I1 := I.laid (a := s.heap.objs.size) (o := .dK []) (h' := s.heap.push { cls := .type "dict", data := .dict #[] }) (t' := s.toks) (fun _ _ q => Heap.get?_push_of_some _ q) (Nat.le_refl _) (dk_empty s.heap I.big)
  refine wpAny_subDict (knd := mixKind X.prog X.w) hl (thn (hp.run pins _ σ _ _ I1 (h _ hn)) fun ws s2 ⟨ps, H2, I2, rel, e, kvs, ep, lk, q2⟩ => ?_)
  subst ep
  obtain ⟨rs, c, rk⟩ := carries_of (P := X.prog) (w := X.w) rel
  obtain ⟨z, hd, vs0, r0, dd⟩ := dk_of I2.hok e
  cases r0
  refine ⟨rs, c, dd, fun h' dd' hs => ⟨_, ?_, q2⟩⟩
  have hz : (mergeK [] kvs).length ≤ sizeLine := by
    have h1 := length_mergeK kvs []
    rw [List.length_nil] at h1
    rw [sizeLine_eq]; omega
  have he : ∃ q, h'.get? s.heap.objs.size = some q := let ⟨q, _, _, hq, _⟩ := dd'; ⟨q, hq⟩
  exact d_write I2 (by rw [e]; exact True.intro) hs he (dk_new hz hd (rk.merge .nil) dd')

/-- {k: v, **e} -/
def tDKS (trs : List (TE × TE)) (te : TE) : TE := fun σ H Q => rSub trs σ H fun p H1 => te σ H1 fun z H3 => ∃ a ks more, z = .ref a ∧ H3 p = some (.dK ks) ∧ Rd H3 a (.dK more) ∧ a ≠ p ∧ ks.length + more.length ≤ sizeLine ∧
  Q (.ref p) (upd H3 p (.dK (mergeK ks more)))
/-- {**e, k: v, j: u} -/
def tDSK (te : TE) (trs : List (TE × TE)) : TE := fun σ H Q => ∀ p, H p = none → te σ (upd H p (.dK [])) fun z H1 => ∃ a ks more, z = .ref a ∧ H1 p = some (.dK ks) ∧ Rd H1 a (.dK more) ∧ a ≠ p ∧ ks.length + more.length ≤ sizeLine ∧
  rSub trs σ (upd H1 p (.dK (mergeK ks more))) fun q H2 => ∃ ks more, H2 p = some (.dK ks) ∧ H2 q = some (.dK more) ∧ q ≠ p ∧ ks.length + more.length ≤ sizeLine ∧ Q (.ref p) (upd H2 p (.dK (mergeK ks more)))
theorem disp_ks (a b c : Sem Value) : dictDisplay [(some a, b), (none, c)] = (do
      let x ← subDict [(a, b)]
      let m ← holding [Value.ref x] c
      (((holding [Value.ref x, m] (mergeMapping x m false)).onRaise fun e => do
                  let _ ← holding [Value.ref x, m, e] (runValue (Code.builtin "proto.let_go" { }))
                  pure ()).tryCatch
              fun e => do
              let isA ← isInstance e (Value.type "AttributeError")
              if isA = true then do
                  rule "dict.display.not-a-mapping"
                  let n ← typeNameOf m
                  raiseErrorMade "TypeError" (toString "'" ++ toString n ++ toString "' object is not a mapping")
                  throw e
                else throw e).onRaise
          fun e => do
          let _ ← holding [Value.ref x, e] (runValue (Code.builtin "proto.let_go" { }))
          pure ()
      pure (Value.ref x)) := by
  unfold dictDisplay
  simp only [List.forIn_cons, List.forIn_nil, pure_bind, List.nil_append, List.length_cons, List.length_nil, List.isEmpty_nil, List.isEmpty_cons, if_true, Bool.false_eq_true, if_false, bind_assoc, Nat.zero_add, Nat.reduceBEq]
  first | rfl | skip
theorem disp_sk (a b c d e : Sem Value) : dictDisplay [(none, c), (some a, b), (some d, e)] = (do
      let x ← alloc { cls := Value.type "dict", data := Data.dict #[] }
      let m ← holding [Value.ref x] c
      (((holding [Value.ref x, m] (mergeMapping x m false)).onRaise fun e => do
                  let _ ← holding [Value.ref x, m, e] (runValue (Code.builtin "proto.let_go" { }))
                  pure ()).tryCatch
              fun e => do
              let isA ← isInstance e (Value.type "AttributeError")
              if isA = true then do
                  rule "dict.display.not-a-mapping"
                  let n ← typeNameOf m
                  raiseErrorMade "TypeError" (toString "'" ++ toString n ++ toString "' object is not a mapping")
                  throw e
                else throw e).onRaise
          fun e => do
          let _ ← holding [Value.ref x, e] (runValue (Code.builtin "proto.let_go" { }))
          pure ()
      let sub ← holding [Value.ref x] (subDict [(a, b), (d, e)])
      (holding [Value.ref x, Value.ref sub] (mergeMapping x (Value.ref sub) false)).onRaise fun e => do
          let _ ← holding [Value.ref x, e] (runValue (Code.builtin "proto.let_go" { }))
          pure ()
      pure (Value.ref x)) := by
  unfold dictDisplay
  have e1 : (([(a, b)] ++ [(d, e)] : List (Sem Value × Sem Value)).length == 17) = false := rfl
  have e2 : ([(a, b)] ++ [(d, e)] : List (Sem Value × Sem Value)).isEmpty = false := rfl
  simp only [List.forIn_cons, List.forIn_nil, pure_bind, List.nil_append, List.length_cons, List.length_nil, List.isEmpty_nil, List.isEmpty_cons, if_true, Bool.false_eq_true, if_false, bind_assoc, Nat.zero_add, Nat.reduceBEq, e1, e2]
  first | rfl | skip
theorem pe_dks {pos : Pos} {k v e : Expr} {trs : List (TE × TE)} {te : TE} (hp : PPs X pos [some k] [v] trs) (he : PE X e te) : PE X (.Dict [some k, none] [v, e] pos) (tDKS trs te) := by
  refine ⟨fun pins s σ H Q I q => ?_⟩
  rw [arm_eval_Dict]
  refine wpAny_bind (wpAny_standAt ?_)
  show wpAny _ _ (dictDisplay [(some (eval k X.env), do let x ← eval v X.env; standAt pos; pure x), (none, do let x ← eval e X.env; standAt pos; pure x)]) _ _ _
  rw [disp_ks]
  refine wpAny_bind (thn (d_sub hp (by show 1 ≤ 15; decide) I q) fun p s1 ⟨H1, I1, q1⟩ => ?_)
  refine wpAny_bind (wpAny_holding (wpAny_bind (thn (he.run pins s1 σ H1 _ I1 q1) fun u s2 ⟨z, H3, I3, rz, a, ks, more, ez, e1, e2, ne, hz, q3⟩ => ?_)))
  subst ez
  cases rz
  refine wpAny_bind (wpAny_standAt (wpAny_pure ?_))
  refine wpAny_bind (wpAny_onRaise (wpAny_tryCatch (wpAny_onRaise (wpAny_holding (d_merge I3 e1 e2 ne hz fun s4 I4 => ?_)))))
  exact wpAny_pure ⟨.ref p, _, I4, rfl, q3⟩
theorem pe_dsk {pos : Pos} {k v k2 v2 e : Expr} {trs : List (TE × TE)} {te : TE} (he : PE X e te) (hp : PPs X pos [some k, some k2] [v, v2] trs) : PE X (.Dict [none, some k, some k2] [e, v, v2] pos) (tDSK te trs) := by
  refine ⟨fun pins s σ H Q I q => ?_⟩
  rw [arm_eval_Dict]
  refine wpAny_bind (wpAny_standAt ?_)
  show wpAny _ _ (dictDisplay [(none, do let x ← eval e X.env; standAt pos; pure x), (some (eval k X.env), do let x ← eval v X.env; standAt pos; pure x), (some (eval k2 X.env), do let x ← eval v2 X.env; standAt pos; pure x)]) _ _ _
  rw [disp_sk]
  have hn := I.hok.fresh (Nat.le_refl s.heap.objs.size)
  have I0 := I.laid (a := s.heap.objs.size) (o := .dK []) (h' := s.heap.push { cls := .type "dict", data := .dict #[] }) (t' := s.toks) (fun _ _ q => Heap.get?_push_of_some _ q) (Nat.le_refl _) (dk_empty s.heap I.big)
  have q := q _ hn
  refine wpAny_bind (wpAny_alloc ?_)
  generalize s.heap.objs.size = p at *
  refine wpAny_bind (wpAny_holding (wpAny_bind (thn (he.run pins _ σ _ _ I0 q) fun u s2 ⟨z, H3, I3, rz, a, ks, more, ez, e1, e2, ne, hz, q3⟩ => ?_)))
  subst ez
  cases rz
  refine wpAny_bind (wpAny_standAt (wpAny_pure ?_))
  refine wpAny_bind (wpAny_onRaise (wpAny_tryCatch (wpAny_onRaise (wpAny_holding (d_merge I3 e1 e2 ne hz fun s4 I4 => ?_)))))
  refine wpAny_bind (wpAny_holding (thn (d_sub hp (by show 2 ≤ 15; decide) I4 q3) fun q0 s5 ⟨H5, I5, ks5, more5, h1, h2, h3, h4, h5⟩ => ?_))
  refine wpAny_bind (wpAny_onRaise (wpAny_holding (d_merge I5 h1 (.inl h2) h3 h4 fun s6 I6 => ?_)))
  exact wpAny_pure ⟨.ref p, _, I6, rfl, h5⟩
/-- d.update(e) -/
def rUpd : V → List V → Hp → VK → Prop := fun x xs H Q => ∃ a b ks more, x = .ref a ∧ xs = [.ref b] ∧ H a = some (.dK ks) ∧ Rd H b (.dK more) ∧ b ≠ a ∧ ks.length + more.length ≤ sizeLine ∧ Q .non (upd H a (.dK (mergeK ks more)))
theorem mt_update : MtR X "dict.update" rUpd := by
  intro pins s σ H x xs v us Q I rx rs h
  obtain ⟨a, b, ks, more, rfl, rfl, ha, hb, ne, hz, q⟩ := h
  cases rx
  obtain ⟨u, rfl, ru⟩ := vals1 rs
  cases ru
  obtain ⟨z, hs, vs, rel, dd⟩ := dk_of I.hok ha
  obtain ⟨z2, hs2, vs2, rel2, dd2⟩ := dk_rd I.hok hb
  refine call_meetsIn PySem.F.slot_dict_update dd.typeIs PySem.F.entry_dict_update (PySem.F.args_dict_update_2 _ _) (meets_dict_update (mixKind X.prog X.w) a b (Ne.symm ne) hs2) ⟨vs, vs2, dd, dd2, by rw [← rel.length, ← rel2.length]; exact hz, fun h' dd' _ sb => ?_⟩
  have he : ∃ q, h'.get? a = some q := let ⟨q, _, _, hq, _⟩ := dd'; ⟨q, hq⟩
  exact ⟨.non, _, d_write I (by rw [ha]; exact True.intro) sb he (dk_new (Nat.le_trans (length_mergeK more ks) hz) hs (rel2.merge rel) dd'), rfl, q⟩
end
end N77

set_option Elab.async false
set_option linter.all false
set_option maxRecDepth 100000
set_option maxHeartbeats 2000000
/-! Rules that the layer lacks, third part: super().__init__(..) in a class of one's own. -/
namespace N77
open PySem PySem.Spec PyProof.Rows L2 ClX
/-- names: the parameters first; __class__ alone is captured -/
structure FnScopeS (N P : List Str) (sc : Scope) : Prop where
  kind : sc.kind = .function
  co : sc.isCoroutine = false
  gen : sc.isGenerator = false
  nd : N.Nodup
  pre : N.take P.length = P
  par : ∀ x ∈ P, sc.names.lookup x = some .local
  nocell : ∀ y ∈ sc.names, y.2 ≠ .cell
  free : ∀ y ∈ sc.names, y.2 = .free → y.1 = ("__class__" : Str)
def cxS (P : Program) (w : World) (K : PySem.W.Frag) (mg : Str → Option Value) (base : Heap) (N : List Str) (qual : Str) (scope : Scope) (f : Addr) (cd : Value) (cc : Addr) (A : Around) (outer : List Env) (s : Shared) (H : Hp) : Cx where
  prog := P
  w := w
  K := K
  mg := mg
  base := base
  A := A.deeper (PySem.W.ksEnv qual scope s.heap.objs.size f cd cc)
  N := N
  s_0 := s
  H_0 := H
  env := PySem.W.ksEnv qual scope s.heap.objs.size f cd cc
  outer := outer
  stack := PySem.W.ksEnv qual scope s.heap.objs.size f cd cc :: outer
  ex := []
  calm := true
  fn := fun _ => false
  pn := []
  xe := fun _ _ => False
theorem lookup_nodup {l : List (Str × Value)} (h : (l.map (·.1)).Nodup) {x : Str} {u : Value} (hm : (x, u) ∈ l) : l.lookup x = some u := by
  induction l with
  | nil => cases hm
  | cons p r ih =>
    obtain ⟨y, v⟩ := p
    rw [List.map_cons, List.nodup_cons] at h
    rcases List.mem_cons.mp hm with e | hm
    · cases e
      simp [List.lookup]
    · have hne : (x == y) = false := beq_eq_false_iff_ne.mpr fun e => h.1 (e ▸ List.mem_map_of_mem (f := (·.1)) hm)
      simp only [List.lookup, hne]
      exact ih h.2 hm
theorem inv_startS {P : Program} {w : World} {K : PySem.W.Frag} {mg : Str → Option Value} {base : Heap} {N ps : List Str} {qual : Str} {scope : Scope} {f cc D : Addr} {cd cl : Value} {cld : Option Addr} {csl : Array (Option Value)} {A : Around} {outer : List Env} {s : Shared} {H : Hp} {us : List Value} {vs : List V} {h₁ : Heap} {tk : Nat}
    (S : FnScopeS N ps scope) (hd : A.handled = none) (e0 : Env0 P w K mg base A outer s H) (hl : vs.length = ps.length) (r : Vals vs us) (hcc : K.lookup cc = some ⟨cl, cld, .cell (some (.ref D)), csl⟩)
    (hns : h₁.Ns s.heap.objs.size (fun x => (ps.zip us).reverse.lookup x)) (hk : ∀ b o, s.heap.get? b = some o → h₁.get? b = some o) :
    Inv (cxS P w K mg base N qual scope f cd cc A outer s H) [] (start N vs) H { s with heap := h₁, toks := tk } := by
  have hpl : ps.length ≤ N.length := by have := congrArg List.length S.pre; rw [List.length_take] at this; omega
  have hul : us.length = ps.length := by rw [← r.length]; exact hl
  have hcb : base.get? cc = some ⟨cl, cld, .cell (some (.ref D)), csl⟩ := e0.mod.kin _ _ hcc
  have noA : ∀ b : Addr, b ∉ (cxS P w K mg base N qual scope f cd cc A outer s H).ex := fun b z => absurd (show b ∈ ([] : List Addr) from z) (by simp)
  have cells : ∀ {x : Str} {c : Addr}, (cxS P w K mg base N qual scope f cd cc A outer s H).env.cells.lookup x = some c → x = ("__class__" : Str) ∧ c = cc := fun {x c} e => by
    have e : ([(("__class__" : Str), cc)] : List (Str × Addr)).lookup x = some c := e
    by_cases z : (x == ("__class__" : Str)) = true
    · simp only [List.lookup, z] at e
      exact ⟨beq_iff_eq.mp z, (Option.some.inj e).symm⟩
    · have z' : (x == ("__class__" : Str)) = false := by simpa using z
      simp only [List.lookup, z'] at e
      cases e
  refine ⟨⟨e0.mod, S.kind, rfl, rfl, Nat.le_refl _, fun y z c h1 h2 => by rw [(cells h1).1, (cells h2).1], fun y hy => ?_, fun y c e => ?_, fun _ => hd, Around.frames_deeper e0.frames, .inr ⟨rfl, rfl⟩, fun b z => absurd z (noA b), e0.bs, e0.bsz, fun b _ _ => noA b, fun b z => absurd z (noA b), e0.funs, e0.frf⟩,
    rfl, e0.bare, Un.kept hk, ⟨_, hns, fun i y v h1 h2 h3 => ?_⟩, fun y c h => ?_, e0.hok.fresh (Nat.le_refl _), fun y c h => ?_, fun p hp => absurd (show p ∈ ([] : List (Addr × Obj)) from hp) (by simp), e0.hok.kept hk, ?_⟩
  · have hy : scope.names.lookup y = some .cell ∨ scope.names.lookup y = some .free := hy
    rcases hy with hy | hy
    · exact absurd rfl (S.nocell _ (PySem.mem_of_lookup hy))
    · have e := S.free _ (PySem.mem_of_lookup hy) rfl
      have e : y = ("__class__" : Str) := e
      subst e
      exact ⟨cc, by rfl⟩
  · cases (show false = true from e)
  · have hi : i < vs.length := by
      unfold L2.start at h2
      by_cases hi : i < vs.length
      · exact hi
      · rw [List.getElem?_append_right (by simpa using hi)] at h2
        rw [List.getElem?_replicate] at h2
        split at h2 <;> cases h2
    have ha : vs[i]? = some v := by
      unfold L2.start at h2
      rw [List.getElem?_append_left (by simpa using hi), List.getElem?_map] at h2
      cases e : vs[i]? with
      | none => rw [e] at h2; cases h2
      | some a => rw [e] at h2; cases h2; rfl
    obtain ⟨u, hu, rv⟩ := r.get ha
    have hp : ps[i]? = some y := by
      rw [← S.pre, List.getElem?_take_of_lt (by omega)]; exact h1
    have ndP : ps.Nodup := by rw [← S.pre]; exact S.nd.sublist (List.take_sublist _ _)
    refine ⟨u, rv, .inl ⟨S.par y (List.mem_of_getElem? hp), ?_⟩⟩
    refine lookup_nodup ?_ (List.mem_reverse.mpr ?_)
    · rw [List.map_reverse, List.map_fst_zip (by omega)]
      exact (List.reverse_perm ps).nodup_iff.mpr ndP
    · refine List.mem_of_getElem? (i := i) ?_
      rw [List.getElem?_zip_eq_some]
      exact ⟨hp, hu⟩
  · obtain ⟨rfl, rfl⟩ := cells h
    exact ⟨_, _, hk _ _ (e0.bs _ _ hcb).1, rfl⟩
  · obtain ⟨rfl, rfl⟩ := cells h
    exact (e0.bs _ _ hcb).2
  · unfold L2.start
    show _ = N.length
    rw [List.length_append, List.length_map, List.length_replicate]
    omega

/-- a block that is the running def's own -/
structure PSsA (X : Cx) (body st : List Stmt) (t : TS) : Prop where
  run : ∀ (pins : List (Addr × Obj)) (s : Shared) (σ : L2.St) (H : Hp) (D : Ends), Inv X pins σ H s → t D σ H → _root_.PySem.wpAt (model X.prog X.w) X.A (.func body X.env) (execs st X.env) (SP X pins D) X.xe s
theorem pssA_cons {X : Cx} {body rest : List Stmt} {st : Stmt} {t u : TS} (h1 : PS X st t) (h2 : PSsA X body rest u) : PSsA X body (st :: rest) (tSeq t u) := by
  refine ⟨fun pins s σ H D I h => ?_⟩
  refine ks_wpAt_execs_cons (wpAt_of_wpAny (thn (h1.run pins s σ H { D with nx := u D } I h) fun f s1 q => ?_))
  cases f with
  | next =>
    obtain ⟨σ', H', I', q⟩ := q
    exact h2.run pins s1 σ' H' D I' q
  | ret v => exact q
  | brk => exact q
  | cont => exact q

theorem fn_ofS {P : Program} {w : World} {K : PySem.W.Frag} {mg : Str → Option Value} {base : Heap} {k : Nat} {f cc D : Addr} {name qual : Str} {params : Arguments} {body : List Stmt} {scope : Scope} {dV kV doc pm cdv ct oc cl : Value} {an od cld : Option Addr}
    {osl csl : Array (Option Value)} {N ps : List Str} {sp : Sp} (lk : K.lookup f = some ⟨oc, od, .func (PySem.W.ksFn name qual params body scope dV kV doc pm an cdv ct cc), osl⟩) (hcd : PySem.W.codeIn K cdv qual = true) (S : FnScopeS N ps scope)
    (hcc : K.lookup cc = some ⟨cl, cld, .cell (some (.ref D)), csl⟩) (len : ∀ vs H Q E, sp vs H Q E → vs.length = ps.length)
    (hbody : ∀ (A : Around) (outer : List Env) (s : Shared) (H : Hp) (vs : List V) (Q : VK) (E : XK), Room k (A.deeper (PySem.W.ksEnv qual scope s.heap.objs.size f cdv cc)) → sp vs H Q E →
      ∃ t, PSsA (cxS P w K mg base N qual scope f cdv cc A outer s H) body body t ∧ t { nx := fun _ H' => Q .non H', rt := Q } (start N vs) H) :
    FnOk P w K mg base CX0 (k + 1) f (PySem.W.ksFn name qual params body scope dV kV doc pm an cdv ct cc) ps sp := by
  refine ⟨len, fun A outer s H args us vs Q E hr e0 hb r hsp => ?_⟩
  have hl := len _ _ _ _ hsp
  have KX : K.In s.heap := e0.mod.kin.keeps fun b o e => (e0.bs b o e).1
  have lim : s.heap.NoLimit := e0.mod.nolimit.keeps fun b o e => (e0.bs b o e).1
  refine ks_codeAny_call_defAt (fd := PySem.W.ksFn name qual params body scope dV kV doc pm an cdv ct cc) (body := body) (binds := ps.zip us) hr.depth (KX _ _ lk) rfl lim (PySem.W.codeRec_of KX hcd) rfl hb S.nocell (fun y hy => S.par y.1 (List.of_mem_zip hy).1) (fun h₁ hns hk₁ => ?_) S.co S.gen S.kind
  obtain ⟨t, ht, hq⟩ := hbody A outer s H vs Q E (hr.deeper _) hsp
  have I : Inv (cxS P w K mg base N qual scope f cdv cc A outer s H) [] (start N vs) H { s with heap := h₁, toks := s.toks + (ps.zip us).length } := inv_startS S hr.hd e0 hl r hcc hns hk₁
  refine ks_wpAt_mono (ht.run [] _ (start N vs) H _ I hq) (fun fl s' hs => ?_) fun e s' hs => False.elim hs
  have fin : ∀ {σ' : L2.St} {H' : Hp} {v : V} {u : Value}, Inv (cxS P w K mg base N qual scope f cdv cc A outer s H) [] σ' H' s' → RelV v u → Q v H' → CE outer P w H s Q u s' :=
    fun {σ' H' v u} J rv q => ⟨v, H', J.os, J.bare, J.base, J.hok, rv, q⟩
  cases fl with
  | ret u =>
    obtain ⟨v, σ', H', J, rv, q⟩ := hs
    exact fin J rv q
  | next =>
    obtain ⟨σ', H', J, q⟩ := hs
    exact fin (v := V.non) (u := Value.none) J rfl q
  | brk =>
    obtain ⟨_, _, _, q⟩ := hs
    exact False.elim q
  | cont =>
    obtain ⟨_, _, _, q⟩ := hs
    exact False.elim q

/-- what of the text a def must have that says super().__init__(..): it stands at f in the class at D, the __init__ above it at f2 -/
structure SupC (P : Program) (K : PySem.W.Frag) (f cda cc D f2 : Addr) (fd : FuncData) : Prop where
  fn : ∃ oc od osl, K.lookup f = some ⟨oc, od, .func fd, osl⟩
  hp : ∃ ar, (fd.params.posonlyargs ++ fd.params.args).head? = some ar ∧ ar.arg = ("self" : Str)
  code : ∃ ccl cdd vs ccs file tf, K.lookup cda = some ⟨ccl, cdd, .fields vs, ccs⟩ ∧ vs[2]? = some (.str file tf) ∧ ((P.main.file : Str) == file) = true
  cell : ∃ cl cld csl, K.lookup cc = some ⟨cl, cld, .cell (some (.ref D)), csl⟩
  cls : ∃ cd, PySem.W.clsIn K D = some cd
  sub : PySem.W.mroIn K D (.ref D) = some true
  opq : PySem.W.nsIn K PySem.cStatics "thirdparty.any" = some none
  sup : PySem.W.ks_superIn K D D "__init__" = some (some (.ref f2))
  ty : PySem.W.typeIn K (.ref f2) = some (.type "function")
  fi : PySem.W.fnIn K f2 = true
  top : (P.main.scope.names.lookup ("super" : Str)).isSome = false
def tSuper (X : Cx) (D f2 : Addr) (t : TA) : TS := fun Dn σ H => ∃ x dx fs, σ[0]? = some (some (.ref x)) ∧ H x = some (.ins D dx fs) ∧ t σ H fun vs H1 => ∃ k sp, FnR X.prog X.w X.K X.mg X.base CX0 k f2 sp ∧ Room k X.A ∧
  sp (.ref x :: vs) H1 (fun _ H2 => Dn.nx σ H2) E0
theorem pssA_super {X : Cx} {body : List Stmt} {f cda cc D f2 : Addr} {fd : FuncData} {e : Expr} {es : List Expr} {t : TA} {p0 p1 apos cpos pos : Pos} {pl : Sem Bool} (SC : SupC X.prog X.K f cda cc D f2 fd) (hms : X.mg "super" = none)
    (hfu : X.env.func = some f) (hco : X.env.code = .ref cda) (hce : X.env.cells.lookup ("__class__" : Str) = some cc) (hN : X.N[0]? = some ("self" : Str)) (hks : X.env.kindOf "super" = some .globalImplicit) (hkc : X.env.kindOf "__class__" = some .free)
    (hkl : X.env.scope.names.lookup ("self" : Str) = some .local) (ha : PA X (e :: es) t)
    (hs : swapsWith (.Call (.Attribute (.Call (.Name "super" p0) [] [] p1) "__init__" apos) (e :: es) [] cpos) none pos.line X.env = pure false := by rfl)
    (hst : starEach (e :: es) X.env = (false, eval e X.env) :: starEach es X.env := by rfl) (hpl : (backTo cpos (starEach es X.env)).any (·.1) = false := by rfl)
    (he : eval (.Call (.Attribute (.Call (.Name "super" p0) [] [] p1) "__init__" apos) (e :: es) [] cpos) X.env = (do
      let ov ← attributeBase (.Call (.Name "super" p0) [] [] p1) "__init__" X.env (eval (.Call (.Name "super" p0) [] [] p1) X.env)
      standAt apos.atName
      let (f, first) ← holding [ov] (getMethod ov "__init__" pl)
      callWith cpos f first (backTo cpos (starEach (e :: es) X.env)) []) := by rfl) :
    PSsA X body [.Expr (.Call (.Attribute (.Call (.Name "super" p0) [] [] p1) "__init__" apos) (e :: es) [] cpos) pos] (tSuper X D f2 t) := by
  refine ⟨fun pins s σ H Dn I h => ?_⟩
  obtain ⟨x, dx, fs, hx0, hxi, q⟩ := h
  obtain ⟨oc, od, osl, hfn⟩ := SC.fn
  obtain ⟨ar, har, hself⟩ := SC.hp
  obtain ⟨ccl, cdd, vs, ccs, file, tf, hcode, hvs, hfile⟩ := SC.code
  obtain ⟨cl, cld, csl, hcell⟩ := SC.cell
  obtain ⟨cdD, hcls⟩ := SC.cls
  obtain ⟨m, hn, hl⟩ := id I.loc
  obtain ⟨u, ru, lk⟩ := hl 0 _ _ hN hx0 (.inl hkl)
  cases ru
  have hm : m ("self" : Str) = some (.ref x) := by
    rcases lk with ⟨_, z⟩ | ⟨z, _⟩
    · exact z
    · rcases z with z | z
      · have : X.env.scope.names.lookup ("self" : Str) = some .cell := z
        rw [hkl] at this; cases this
      · have : X.env.scope.names.lookup ("self" : Str) = some .free := z
        rw [hkl] at this; cases this
  obtain ⟨mA, O, _⟩ := ins_get I.hok hxi
  have hxo : s.heap.get? x = some (PySem.W.instObj D dx) := O.obj
  have KX := I.kIn
  obtain ⟨oD, hD1, hD2⟩ : ∃ oD, s.heap.get? D = some oD ∧ oD.data = .cls cdD := by
    have hD := hcls
    unfold PySem.W.clsIn at hD
    split at hD
    · rename_i c d cd' sl ho
      cases hD
      exact ⟨_, KX _ _ ho, rfl⟩
    · cases hD
  refine ks_wpAt_execs_cons (ks_wpAt_Expr_any (ks_wpAt_MethodCall (pl := pl) ?_ he) I.quiet hs)
  refine ks_wpAt_super_base (ar := ar) hks hkc rfl hfu (KX _ _ hfn) rfl har hco (KX _ _ hcode) rfl hvs hfile SC.top ?_
  obtain ⟨mb, hb1, hb2⟩ := I.mod.blt
  refine PySem.W.ks_loadName_global I.ok.kind hks (Calls.loadGlobal_builtin (by rw [I.ok.glob]; exact I.mod.glob.keeps I.bk) hms (by rw [I.ok.blt]; exact hb1.keeps I.bk) ((hb2 _ (by decide)).trans (by decide +kernel : bootBuiltins "super" = some (.type "super"))) ⟨rfl, ?_⟩)
  refine wpAny_loadName_free I.ok.kind hkc hce ⟨_, KX _ _ hcell, rfl⟩ ?_
  rw [hself]
  refine wpAny_loadName_local I.ok.kind hkl hn hm ?_
  refine ks_wpAny_isType_cls hD1 hD2 ⟨rfl, ?_⟩
  obtain ⟨hh, g, d, tk, os⟩ := s
  refine ks_wpAny_call_super (C := D) hD1 hD2 hxo rfl (fun c z => nomatch z) (PySem.W.looks_mroIn KX SC.sub) fun h' hso keep => ?_
  -- the super object lies at the heap's end
  have I1 : Inv X pins σ H ⟨h', g, d, tk, os⟩ := I.kept (t' := tk) keep
  have KX1 := I1.kIn
  have hsup := SC.sup
  unfold PySem.W.ks_superIn at hsup
  rw [hcls] at hsup
  obtain ⟨of, hof, hofc⟩ : ∃ of, h'.get? f2 = some of ∧ of.cls = .type "function" := by
    have ht' : (X.K.lookup f2).map (·.cls) = some (.type "function") := SC.ty
    cases z : X.K.lookup f2 with
    | none => rw [z] at ht'; cases ht'
    | some of => rw [z] at ht'; exact ⟨of, KX1 _ _ z, Option.some.inj ht'⟩
  have hxD : x ≠ D := fun z => by
    subst z
    rw [hxo] at hD1; cases hD1
    cases hD2
  refine ks_wpAny_getMethod_super (C := D) (D := D) (x := x) (f := f2) hso (PySem.W.looks_opaque KX1 SC.opq) (l₀ := cdD.mro) (fun A Q E s k q => wpAny_bind ((PySem.W.looks_clsIn KX1 hcls) A _ E s k (wpAny_pure q))) rfl KX1 hsup hof hofc hxD rfl ?_
  have I2 := met_new (g := f2) (C := x) I1
  refine callwith_cm (q := h'.objs.size) (g := f2) (C := x) I2 (base_none I1 (Nat.le_refl _)) SC.fi (thn (ha.run cpos _ _ σ H _ I2 q) fun us s3 ⟨vs3, H3, I3, r3, k, sp, F, hr, q3⟩ => ⟨⟨pin_at I3, I3.kIn⟩, ?_⟩) hst hpl
  refine thn (run_cm F hr pass0 I3 r3 q3) fun u4 s4 ⟨v4, H4, I4, _, q4⟩ => ?_
  exact wpAt_of_wpAny (wpAny_execs_nil ⟨σ, H4, I4, q4⟩)
end N77

set_option Elab.async false
set_option linter.all false
set_option maxRecDepth 100000
set_option maxHeartbeats 2000000
/-! The text by places; what a condition looks like in the heap; callees. -/
namespace N77
open PySem PySem.Spec PyProof.Rows L2 M77
def top (i : Nat) : Stmt := PySem.Challenge.pw_arccursors_k77_whole_rules_of_conditions.main.body.getD i (.Pass ⟨0, 0, 0, 0⟩)
abbrev sIsInt : Stmt := top 10
abbrev sInRange : Stmt := top 11
abbrev sCheckNum : Stmt := top 12
abbrev sIsKey : Stmt := top 13
abbrev sCheckKey : Stmt := top 14
abbrev sCheckVal : Stmt := top 16
abbrev sCInit : Stmt := inClass (top 19) 0
abbrev sCCall : Stmt := inClass (top 19) 2
abbrev sCAnd : Stmt := inClass (top 19) 4
abbrev sCOr : Stmt := inClass (top 19) 5
abbrev sCInv : Stmt := inClass (top 19) 6
abbrev sCLen : Stmt := inClass (top 19) 7
abbrev sCheckSimple : Stmt := top 20
abbrev sInitOf (i : Nat) : Stmt := inClass (top i) 0
abbrev sHoldsOf (i : Nat) : Stmt := inClass (top i) 1
abbrev sCheckCond : Stmt := top 27
abbrev sExtended : Stmt := top 28
abbrev sSomeNames : Stmt := top 29
abbrev sSomeValues : Stmt := top 30
abbrev sExample : Stmt := top 31
abbrev sSomeRow : Stmt := top 32
abbrev sImplies : Stmt := top 33
abbrev sAlike : Stmt := top 34
abbrev sLHand : Stmt := top 36
abbrev sLDraw : Stmt := top 37
abbrev sLKey : Stmt := top 38
abbrev sLCond : Stmt := top 39
abbrev sLPairs : Stmt := top 40
abbrev sLApart : Stmt := top 41
abbrev sLaw : Stmt := top 42

/-! ### texts -/
def S (t : Tx) : Str := ⟨t.toArray⟩
theorem S_tl (t : Tx) : TL.tl (S t) = t := rfl
theorem S_len (t : Tx) : (S t).length = t.length := by show t.toArray.size = _; simp
theorem S_inj {t u : Tx} (h : S t = S u) : t = u := by
  have := congrArg TL.tl h
  exact this
theorem S_app (t u : Tx) : S t ++ S u = S (t ++ u) := TL.ext_tl (by rw [TL.tl_append]; rfl)
theorem S_of (x : Str) : S (TL.tl x) = x := TL.mk_tl x
theorem V_S_inj {t u : Tx} (h : V.str (S t) = V.str (S u)) : t = u := S_inj (V.str.inj h)

/-! ### conditions in the heap -/
inductive Kd where
  | begins | length | value | both | either | opp
  deriving DecidableEq
def Smp.kd : Smp → Kd
  | .beg _ => .begins
  | .len _ _ => .length
  | .val _ _ => .value
def Cond.kd : Cond → Kd
  | .smp s => Smp.kd s
  | .both _ _ => .both
  | .either _ _ => .either
  | .opp _ => .opp
def optV : Option Int → V
  | none => .non
  | some i => .int i
def Smp.vals : Smp → List V
  | .beg t => [.str "begins", .str (S t)]
  | .len a b => [.str "length", .int a, .int b]
  | .val l m => [.str "value", optV l, optV m]
def flds (t l : Addr) : List (Str × V) := putF "own_simple" (.ref l) (putF "own_shape" (.ref t) [])
theorem ne_ss : ¬ (("own_shape" : Str) = "own_simple") := by decide +kernel
theorem flds_shape (t l : Addr) : (flds t l).lookup ("own_shape" : Str) = some (.ref t) := by
  unfold flds
  rw [lookup_putF, if_neg ne_ss, lookup_putF, if_pos rfl]
theorem flds_simple (t l : Addr) : (flds t l).lookup ("own_simple" : Str) = some (.ref l) := by
  unfold flds
  rw [lookup_putF, if_pos rfl]
theorem flds_no (t l : Addr) {m : Str} (h1 : ¬ m = "own_shape") (h2 : ¬ m = "own_simple") : (flds t l).lookup m = none := by
  unfold flds
  rw [lookup_putF, if_neg h2, lookup_putF, if_neg h1]
  all_goals rfl
/-- the simple conditions of a list -/
abbrev SmpsAt (H : Hp) : List V → List Smp → Prop := Paired fun v s => ∃ u, v = V.ref u ∧ H u = some (.tup (Smp.vals s))
/-- the condition c stands at a -/
def CondAt (ad : Kd → Addr) (H : Hp) : Cond → Addr → Prop
  | .smp s, a => ∃ dx t l us, H a = some (.ins (ad (Smp.kd s)) dx (flds t l)) ∧ H t = some (.tup (Smp.vals s)) ∧ H l = some (.lst us) ∧ SmpsAt H us [s]
  | .both c d, a => ∃ dx t l us p q, H a = some (.ins (ad .both) dx (flds t l)) ∧ H t = some (.tup [.str "and", .ref p, .ref q]) ∧ H l = some (.lst us) ∧ SmpsAt H us (c.simple ++ d.simple) ∧ CondAt ad H c p ∧ CondAt ad H d q
  | .either c d, a => ∃ dx t l us p q, H a = some (.ins (ad .either) dx (flds t l)) ∧ H t = some (.tup [.str "or", .ref p, .ref q]) ∧ H l = some (.lst us) ∧ SmpsAt H us (c.simple ++ d.simple) ∧ CondAt ad H c p ∧ CondAt ad H d q
  | .opp c, a => ∃ dx t l us p, H a = some (.ins (ad .opp) dx (flds t l)) ∧ H t = some (.tup [.str "not", .ref p]) ∧ H l = some (.lst us) ∧ SmpsAt H us c.simple ∧ CondAt ad H c p
theorem CondAt.core {ad : Kd → Addr} {H : Hp} {c : Cond} {a : Addr} (h : CondAt ad H c a) : ∃ dx t l us, H a = some (.ins (ad (Cond.kd c)) dx (flds t l)) ∧ H l = some (.lst us) ∧ SmpsAt H us c.simple := by
  cases c with
  | smp s => obtain ⟨dx, t, l, us, h1, h2, h3, h4⟩ := h; exact ⟨dx, t, l, us, h1, h3, h4⟩
  | both c d => obtain ⟨dx, t, l, us, p, q, h1, h2, h3, h4, _⟩ := h; exact ⟨dx, t, l, us, h1, h3, h4⟩
  | either c d => obtain ⟨dx, t, l, us, p, q, h1, h2, h3, h4, _⟩ := h; exact ⟨dx, t, l, us, h1, h3, h4⟩
  | opp c => obtain ⟨dx, t, l, us, p, h1, h2, h3, h4, _⟩ := h; exact ⟨dx, t, l, us, h1, h3, h4⟩
/-- what neither a draw nor a making changes -/
structure Fixed (o : HO) : Prop where
  pool : ∀ x y, o ≠ .lst [.int x, .int y]
  bare : ∀ C dx, o ≠ .ins C dx []
theorem fx_ins {C dx t l : Addr} : Fixed (.ins C dx (flds t l)) where
  pool := fun _ _ z => (by cases z)
  bare := fun C' dx' z => by
    have e : flds t l = [] := (HO.ins.inj z).2.2
    have h := flds_simple t l
    rw [e] at h
    cases h
theorem fx_tup {xs : List V} : Fixed (.tup xs) where
  pool := fun _ _ z => (by cases z)
  bare := fun _ _ z => (by cases z)
theorem SmpsAt.fixed {H : Hp} {us : List V} {ss : List Smp} (h : SmpsAt H us ss) : Fixed (.lst us) where
  pool := fun x y z => by
    cases z
    cases h with
    | cons r _ => obtain ⟨u, e, _⟩ := r; cases e
  bare := fun _ _ z => (by cases z)
theorem SmpsAt.mono {H H' : Hp} {us : List V} {ss : List Smp} (h : SmpsAt H us ss) (k : ∀ b o, H b = some o → Fixed o → H' b = some o) : SmpsAt H' us ss :=
  Paired.mapP h fun v s ⟨u, e, hu⟩ => ⟨u, e, k _ _ hu fx_tup⟩
theorem CondAt.mono {ad : Kd → Addr} {H H' : Hp} (k : ∀ b o, H b = some o → Fixed o → H' b = some o) : ∀ {c : Cond} {a : Addr}, CondAt ad H c a → CondAt ad H' c a
  | .smp s, a, h => by
    obtain ⟨dx, t, l, us, h1, h2, h3, h4⟩ := h
    exact ⟨dx, t, l, us, k _ _ h1 fx_ins, k _ _ h2 fx_tup, k _ _ h3 h4.fixed, h4.mono k⟩
  | .both c d, a, h => by
    obtain ⟨dx, t, l, us, p, q, h1, h2, h3, h4, h5, h6⟩ := h
    exact ⟨dx, t, l, us, p, q, k _ _ h1 fx_ins, k _ _ h2 fx_tup, k _ _ h3 h4.fixed, h4.mono k, CondAt.mono k h5, CondAt.mono k h6⟩
  | .either c d, a, h => by
    obtain ⟨dx, t, l, us, p, q, h1, h2, h3, h4, h5, h6⟩ := h
    exact ⟨dx, t, l, us, p, q, k _ _ h1 fx_ins, k _ _ h2 fx_tup, k _ _ h3 h4.fixed, h4.mono k, CondAt.mono k h5, CondAt.mono k h6⟩
  | .opp c, a, h => by
    obtain ⟨dx, t, l, us, p, h1, h2, h3, h4, h5⟩ := h
    exact ⟨dx, t, l, us, p, k _ _ h1 fx_ins, k _ _ h2 fx_tup, k _ _ h3 h4.fixed, h4.mono k, CondAt.mono k h5⟩
theorem CondAt.same {ad : Kd → Addr} {H H' : Hp} {c : Cond} {a : Addr} (h : CondAt ad H c a) (s : Same H H') : CondAt ad H' c a := h.mono fun b o e _ => s b o e
theorem SmpsAt.same {H H' : Hp} {us : List V} {ss : List Smp} (h : SmpsAt H us ss) (s : Same H H') : SmpsAt H' us ss := h.mono fun b o e _ => s b o e
/-- the pool at p is drawn from: all else stays -/
def Pool (H : Hp) (p : Addr) : Prop := ∃ x y, H p = some (.lst [.int x, .int y])
def Loose (H : Hp) (p : Addr) : Prop := ∀ o, H p = some o → ¬ Fixed o
theorem Pool.loose {H : Hp} {p : Addr} (h : Pool H p) : Loose H p := fun o e f => by
  obtain ⟨x, y, e2⟩ := h
  rw [e] at e2
  exact f.pool x y (Option.some.inj e2)
theorem bare_loose {H : Hp} {p C dx : Addr} (h : H p = some (.ins C dx [])) : Loose H p := fun o e f => by
  rw [e] at h
  exact f.bare C dx (Option.some.inj h)
def Keep (p : Addr) (H H' : Hp) : Prop := ∀ b o, H b = some o → b ≠ p → H' b = some o
theorem Keep.refl {p : Addr} {H : Hp} : Keep p H H := fun _ _ h _ => h
theorem Keep.trans {p : Addr} {H H1 H2 : Hp} (a : Keep p H H1) (b : Keep p H1 H2) : Keep p H H2 := fun c o h n => b c o (a c o h n) n
theorem _root_.L2.Same.keep {p : Addr} {H H' : Hp} (a : Same H H') : Keep p H H' := fun c o h _ => a c o h
theorem Pool.same {p : Addr} {H H' : Hp} (h : Pool H p) (a : Same H H') : Pool H' p := let ⟨x, y, e⟩ := h; ⟨x, y, a _ _ e⟩
theorem CondAt.keep {ad : Kd → Addr} {H H' : Hp} {c : Cond} {a p : Addr} (h : CondAt ad H c a) (hp : Loose H p) (k : Keep p H H') : CondAt ad H' c a := h.mono fun b o e f => k b o e fun z => by
  subst z
  exact hp o e f
theorem SmpsAt.keep {H H' : Hp} {us : List V} {ss : List Smp} {p : Addr} (h : SmpsAt H us ss) (hp : Loose H p) (k : Keep p H H') : SmpsAt H' us ss := h.mono fun b o e f => k b o e fun z => by
  subst z
  exact hp o e f
theorem same_upd {H : Hp} {p : Addr} {o : HO} (h : H p = none) : Same H (upd H p o) := fun b u e => by rw [upd_ne (ne_of_none e h)]; exact e
theorem keep_upd {H : Hp} {p : Addr} {o : HO} : Keep p H (upd H p o) := fun b u e n => by rw [upd_ne n]; exact e

/-! ### callees -/
def Cal (P : Program) (w : World) (K : PySem.W.Frag) (mg : Str → Option Value) (base : Heap) (x : Str) (k : Nat) (sp : Sp) : Prop :=
  ∃ f : Addr, mg x = some (.ref f) ∧ PySem.W.keepIn K (.ref f) = true ∧ FnR P w K mg base CX0 k f sp
/-- f(e, ..) -/
def tCal (sp : Sp) (t : TA) : TE := fun σ H Q => t σ H fun vs H1 => sp vs H1 Q E0
theorem pe_cal {X : Cx} {x : Str} {k : Nat} {sp : Sp} {p pos : Pos} {e : Expr} {es : List Expr} {t : TA} (c : Cal X.prog X.w X.K X.mg X.base x k sp) (hr : Room k X.A) (hg : Gl X x) (ha : PA X (e :: es) t) (hd : (x == ("__debug__" : Str)) = false := by decide)
    (he : starEach (e :: es) X.env = (false, eval e X.env) :: starEach es X.env := by rfl) (hpl : (backTo pos (starEach es X.env)).any (·.1) = false := by rfl) : PE X (.Call (.Name x p) (e :: es) [] pos) (tCal sp t) := by
  obtain ⟨f, hm, hk, F⟩ := c
  refine ⟨fun pins s σ H Q I h => ?_⟩
  refine wpAny_Call_Name_kw (ld_glob I hg hm ?_ hd)
  refine PySem.W.callWith_K (h₀ := X.base) I.ok.mod.kin hk (thn (ha.run pos pins s σ H _ I h) fun us s1 ⟨vs, H1, I1, r, q⟩ => ⟨I1.kIn, ?_⟩) he hpl
  exact wpAny_call (run_fnR F hr pass0 I1 r q)
/-- a class to be made by calling its name -/
def CalM (P : Program) (w : World) (K : PySem.W.Frag) (mg : Str → Option Value) (base : Heap) (x : Str) (C : Addr) (k : Nat) (sp : Sp) : Prop :=
  ∃ f : Addr, mg x = some (.ref C) ∧ Mk K C f ∧ FnR P w K mg base CX0 k f sp
theorem pe_mk {X : Cx} {x : Str} {C : Addr} {k : Nat} {sp : Sp} {p pos : Pos} {e : Expr} {es : List Expr} {t : TA} (c : CalM X.prog X.w X.K X.mg X.base x C k sp) (hr : Room (k + 1) X.A) (hg : Gl X x) (ha : PA X (e :: es) t) (hd : (x == ("__debug__" : Str)) = false := by decide)
    (he : starEach (e :: es) X.env = (false, eval e X.env) :: starEach es X.env := by rfl) (hpl : (backTo pos (starEach es X.env)).any (·.1) = false := by rfl) : PE X (.Call (.Name x p) (e :: es) [] pos) (StX.tMakeR C sp E0 t) := by
  obtain ⟨f, hm, M, F⟩ := c
  exact StX.pe_makeR M F hr hg hm pass0 ha hd he hpl
/-- what of the text a condition's class must have -/
structure ClsF (K : PySem.W.Frag) (C : Addr) : Prop where
  cl : Cls K C
  nsh : NoAttr K C "own_shape"
  nsi : NoAttr K C "own_simple"
/-- a def that says super() -/
structure FunS (P : Program) (K : PySem.W.Frag) (x qual : Str) (st : Stmt) (f : Addr) (fd : FuncData) (D f2 : Addr) : Prop where
  ex : ∃ (oc : Value) (od : Option Addr) (kV doc pm : Value) (an : Option Addr) (cda : Addr) (ct : Value) (osl : Array (Option Value)) (cc : Addr),
    fd = PySem.W.ksFn x qual (defArgs st) (defBody st) (defScope st) .none kV doc pm an (.ref cda) ct cc ∧ K.lookup f = some ⟨oc, od, .func fd, osl⟩ ∧ PySem.W.codeIn K (.ref cda) qual = true ∧ SupC P K f cda cc D f2 fd
  kp : PySem.W.keepIn K (.ref f) = true
section
variable {P : Program} {w : World} {K : PySem.W.Frag} {mg : Str → Option Value} {base : Heap}
theorem fnR_ofS {x qual : Str} {st : Stmt} {f D f2 : Addr} {fd : FuncData} {N ps : List Str} {k : Nat} {sp : Sp} (F : FunS P K x qual st f fd D f2) (Sc : FnScopeS N ps (defScope st))
    (hb : ∀ (kV doc pm : Value) (an : Option Addr) (cdv ct : Value) (cc : Addr) (us : List Value), us.length = ps.length → bindArgs (PySem.W.ksFn x qual (defArgs st) (defBody st) (defScope st) .none kV doc pm an cdv ct cc) ⟨us, []⟩ = pure (ps.zip us))
    (len : ∀ vs H Q E, sp vs H Q E → vs.length = ps.length)
    (hbody : ∀ (cda cc : Addr) (A : Around) (outer : List Env) (s : Shared) (H : Hp) (vs : List V) (Q : VK) (E : XK), SupC P K f cda cc D f2 fd → Room k (A.deeper (PySem.W.ksEnv qual (defScope st) s.heap.objs.size f (.ref cda) cc)) → sp vs H Q E →
      ∃ t, PSsA (cxS P w K mg base N qual (defScope st) f (.ref cda) cc A outer s H) (defBody st) (defBody st) t ∧ t { nx := fun _ H' => Q .non H', rt := Q } (L2.start N vs) H) : FnR P w K mg base CX0 (k + 1) f sp := by
  obtain ⟨oc, od, kV, doc, pm, an, cda, ct, osl, cc, rfl, lk, hcd, SC⟩ := F.ex
  obtain ⟨cl, cld, csl, hcc⟩ := SC.cell
  have h := fn_ofS (w := w) (mg := mg) (base := base) lk hcd Sc hcc len fun A outer s H vs Q E hr hsp => hbody cda cc A outer s H vs Q E SC hr hsp
  exact (h.raw (Binds.all (hb kV doc pm an (.ref cda) ct cc)) .nil).imp fun vs H Q E q => by rw [List.append_nil]; exact q
theorem fnR_of {x qual : Str} {st : Stmt} {f : Addr} {fd : FuncData} {N ps : List Str} {k : Nat} {sp : Sp} (F : Fun K x qual st f fd) (Sc : FnScope N ps (defScope st))
    (hb : ∀ (kV doc pm : Value) (an : Option Addr) (cdv ct : Value) (us : List Value), us.length = ps.length → bindArgs (PySem.W.fnOf x qual (defArgs st) (defBody st) (defScope st) .none kV doc pm an cdv ct) ⟨us, []⟩ = pure (ps.zip us))
    (len : ∀ vs H Q E, sp vs H Q E → vs.length = ps.length)
    (hbody : ∀ (cdv : Value) (A : Around) (outer : List Env) (s : Shared) (H : Hp) (vs : List V) (Q : VK) (E : XK), Room k (A.deeper (envOfC qual (defScope st) s.heap.objs.size f cdv)) → sp vs H Q E →
      ∃ t, PSs (cxOf CX0 P w K mg base N qual (defScope st) f cdv A outer s H E).nox (defBody st) t ∧ t { nx := fun _ H' => Q .non H', rt := Q } (L2.start N vs) H) : FnR P w K mg base CX0 (k + 1) f sp :=
  ((F.ok Sc len hbody).raw (F.binds hb) .nil).imp fun vs H Q E q => by rw [List.append_nil]; exact q
end
end N77

set_option Elab.async false
set_option linter.all false
set_option maxRecDepth 100000
set_option maxHeartbeats 4000000
namespace N77
open PySem PySem.Spec PyProof.Rows L2 M77
/-- the built-in names that no statement of the top binds -/
structure Bt (mg : Str → Option Value) : Prop where
  isinstance : mg "isinstance" = none
  int : mg "int" = none
  bool : mg "bool" = none
  str : mg "str" = none
  len : mg "len" = none
  all : mg "all" = none
  any : mg "any" = none
  max : mg "max" = none
  min : mg "min" = none
  sorted : mg "sorted" = none
  range : mg "range" = none
  super : mg "super" = none
/-- the constants -/
structure Ct (mg : Str → Option Value) : Prop where
  maxl : ∃ t, mg "MAX_LENGTH" = some (.int 20 t)
  chars : ∃ t, mg "CHARACTERS" = some (.str (S chars) t)
  most : ∃ t, mg "MOST_SIMPLE" = some (.int 30 t)
section
variable {P : Program} {w : World} {K : PySem.W.Frag} {mg : Str → Option Value} {base : Heap} {f : Addr} {fd : FuncData}
abbrev CAL (P : Program) (w : World) (K : PySem.W.Frag) (mg : Str → Option Value) (base : Heap) := Cal P w K mg base
/-! ### is_integer -/
def spIsInt : Sp := fun vs H Q _ => ∃ i : Int, vs = [.int i] ∧ Q (.bl true) H
theorem scIsInt : FnScope ["value"] ["value"] (defScope sIsInt) := ⟨rfl, rfl, rfl, by decide +kernel, rfl, by decide +kernel, by decide +kernel⟩
theorem ok_isInt (F : Fun K "is_integer" "is_integer" sIsInt f fd) (B : Bt mg) : FnR P w K mg base CX0 1 f spIsInt := by
  refine fnR_of F scIsInt (fun _ _ _ _ _ _ us hl => match us, hl with | [_], _ => rfl) (fun vs H Q E h => ?_) (fun cdv A outer s H vs Q E hr h => ?_)
  · obtain ⟨i, rfl, _⟩ := h; rfl
  · obtain ⟨i, rfl, k⟩ := h
    refine ⟨_, pss_one (ps_ret (pe_and (pe_callB call_isi rfl B.isinstance boot_isinstance (pa_cons (pv 0) (pa_cons (pe_bltn (v := .ty "int") rfl B.int boot_int rfl) pa_nil)))
      (pe_one (pe_not (pe_callB call_isi rfl B.isinstance boot_isinstance (pa_cons (pv 0) (pa_cons (pe_bltn (v := .ty "bool") rfl B.bool boot_bool rfl) pa_nil))))))), ?_⟩
    refine ⟨_, rfl, .int i, .ty "int", .type "int", .type "int", true, rfl, .ty "int", .base (.int i), kit_ty (by decide +kernel), true, rfl, iteT ?_⟩
    exact ⟨_, rfl, .int i, .ty "bool", .type "int", .type "bool", false, rfl, .ty "bool", .base (.int i), kit_ty (by decide +kernel), false, rfl, k⟩
/-! ### in_range, check_number, check_value -/
def spInRange : Sp := fun vs H Q _ => ∃ v a b : Int, vs = [.int v, .int a, .int b] ∧ a ≤ v ∧ v ≤ b ∧ Q (.bl true) H
def spNum : Sp := fun vs H Q _ => ∃ v a b : Int, vs = [.int v, .int a, .int b] ∧ a ≤ v ∧ v ≤ b ∧ Q .non H
theorem scInRange : FnScope ["value", "least", "most"] ["value", "least", "most"] (defScope sInRange) := ⟨rfl, rfl, rfl, by decide +kernel, rfl, by decide +kernel, by decide +kernel⟩
theorem ok_inRange (F : Fun K "in_range" "in_range" sInRange f fd) (c1 : Cal P w K mg base "is_integer" 1 spIsInt) : FnR P w K mg base CX0 2 f spInRange := by
  refine fnR_of F scInRange (fun _ _ _ _ _ _ us hl => match us, hl with | [_, _, _], _ => rfl) (fun vs H Q E h => ?_) (fun cdv A outer s H vs Q E hr h => ?_)
  · obtain ⟨_, _, _, rfl, _⟩ := h; rfl
  · obtain ⟨v, a, b, rfl, h1, h2, k⟩ := h
    refine ⟨_, pss_one (ps_ret (pe_and (pe_cal c1 hr rfl (pa_cons (pv 0) pa_nil)) (pe_one (pe_chain op_le op_le (pv 1) (pv 0) (pv 2))))), ?_⟩
    refine ⟨_, rfl, v, rfl, true, rfl, iteT ?_⟩
    refine ⟨_, rfl, _, rfl, a, v, rfl, rfl, true, congrArg V.bl (decide_eq_true h1), iteT ?_⟩
    refine ⟨_, rfl, v, b, rfl, rfl, ?_⟩
    show Q (.bl (decide (v ≤ b))) H
    rw [decide_eq_true h2]
    exact k
theorem scCheckNum : FnScope ["value", "least", "most"] ["value", "least", "most"] (defScope sCheckNum) := ⟨rfl, rfl, rfl, by decide +kernel, rfl, by decide +kernel, by decide +kernel⟩
theorem ok_checkNum (F : Fun K "check_number" "check_number" sCheckNum f fd) (c1 : Cal P w K mg base "in_range" 2 spInRange) : FnR P w K mg base CX0 3 f spNum := by
  refine fnR_of F scCheckNum (fun _ _ _ _ _ _ us hl => match us, hl with | [_, _, _], _ => rfl) (fun vs H Q E h => ?_) (fun cdv A outer s H vs Q E hr h => ?_)
  · obtain ⟨_, _, _, rfl, _⟩ := h; rfl
  · obtain ⟨v, a, b, rfl, h1, h2, k⟩ := h
    refine ⟨_, pss_one (ps_if (pt_not (pt_val (pe_cal c1 hr rfl (pa_cons (pv 0) (pa_cons (pv 1) (pa_cons (pv 2) pa_nil)))))) pss_never pss_nil), ?_⟩
    exact ⟨_, rfl, _, rfl, _, rfl, v, a, b, rfl, h1, h2, true, rfl, iteF k⟩
def spChkVal : Sp := fun vs H Q _ => ∃ i : Int, vs = [.int i] ∧ Q .non H
theorem scCheckVal : FnScope ["value"] ["value"] (defScope sCheckVal) := ⟨rfl, rfl, rfl, by decide +kernel, rfl, by decide +kernel, by decide +kernel⟩
theorem ok_checkVal (F : Fun K "check_value" "check_value" sCheckVal f fd) (c1 : Cal P w K mg base "is_integer" 1 spIsInt) : FnR P w K mg base CX0 2 f spChkVal := by
  refine fnR_of F scCheckVal (fun _ _ _ _ _ _ us hl => match us, hl with | [_], _ => rfl) (fun vs H Q E h => ?_) (fun cdv A outer s H vs Q E hr h => ?_)
  · obtain ⟨_, rfl, _⟩ := h; rfl
  · obtain ⟨i, rfl, k⟩ := h
    refine ⟨_, pss_one (ps_if (pt_not (pt_val (pe_cal c1 hr rfl (pa_cons (pv 0) pa_nil)))) pss_never pss_nil), ?_⟩
    exact ⟨_, rfl, i, rfl, true, rfl, iteF k⟩
/-! ### is_key, check_key -/
def spIsKey : Sp := fun vs H Q _ => ∃ k : Tx, vs = [.str (S k)] ∧ OkKey k ∧ ∀ H', Same H H' → Q (.bl true) H'
def spChkKey : Sp := fun vs H Q _ => ∃ k : Tx, vs = [.str (S k)] ∧ OkKey k ∧ ∀ H', Same H H' → Q .non H'
theorem scIsKey : FnScope ["value", "sign"] ["value"] (defScope sIsKey) := ⟨rfl, rfl, rfl, by decide +kernel, rfl, by decide +kernel, by decide +kernel⟩
theorem len20 {k : Tx} (h : k.length ≤ 20) : (S k).length ≤ sizeLine := by rw [S_len]; exact Nat.le_of_lt (small1000 (by omega))
theorem ok_isKey (F : Fun K "is_key" "is_key" sIsKey f fd) (B : Bt mg) (Z : Ct mg) : FnR P w K mg base CX0 1 f spIsKey := by
  refine fnR_of F scIsKey (fun _ _ _ _ _ _ us hl => match us, hl with | [_], _ => rfl) (fun vs H Q E h => ?_) (fun cdv A outer s H vs Q E hr h => ?_)
  · obtain ⟨_, rfl, _⟩ := h; rfl
  · obtain ⟨x, rfl, ⟨kc, k1, k20⟩, k⟩ := h
    obtain ⟨tm, hm⟩ := Z.maxl
    obtain ⟨tc, hc⟩ := Z.chars
    refine ⟨_, pss_cons (ps_if (PW.pt (pw_or (pt_not (pt_val (pe_callB call_isi rfl B.isinstance boot_isinstance (pa_cons (pv 0) (pa_cons (pe_bltn (v := .ty "str") rfl B.str boot_str rfl) pa_nil)))))
        (pw_or1 (pt_not (pt_chain op_le op_le pe_int (pe_callB call_len_str rfl B.len PySem.boot_len (pa_cons (pv 0) pa_nil)) (pe_glob (v := .int 20) rfl hm ⟨_, rfl⟩)))))) pss_never pss_nil)
      (pss_one (ps_ret (pe_callB (cr_all rfl) rfl B.all boot_all (pa_cons (pe_lc (own := [("sign", 1)]) (g := gName 1) rfl scIsKey.nd (pi_str (pv 0)) (blkOk_by (own := [("sign", 1)]) (N := ["value", "sign"]) (sc := defScope sIsKey) (by decide +kernel))
        (fun _ _ _ _ _ => pg_name (i := 1) scIsKey.nd rfl (Or.inl rfl)) (fun _ _ _ _ _ => pts_nil)
        (fun _ _ _ _ _ => pe_cmpR op_in_sign (pv 1) (pe_glob (v := .str (S chars)) rfl hc ⟨_, rfl⟩) rfl)) pa_nil)))), ?_⟩
    refine ⟨_, rfl, .str (S x), .ty "str", .type "str", .type "str", true, rfl, .ty "str", .base (.str _), kit_ty (by decide +kernel), true, rfl, iteF ?_⟩
    refine ⟨_, rfl, S x, rfl, len20 k20, 1, _, rfl, rfl, true, congrArg V.bl (decide_eq_true (by rw [S_len]; omega)), iteT ?_⟩
    refine ⟨_, _, rfl, rfl, true, congrArg V.bl (decide_eq_true (by rw [S_len]; omega)), iteF ?_⟩
    refine ⟨_, rfl, S x, rfl, fun D hD => ?_⟩
    refine lc_it walk_str (fun i H' => Same H H' ∧ H' D = some (.lst ((List.replicate i true).map V.bl))) ⟨same_upd hD, upd_same⟩ (fun _ _ _ _ => trivial) (fun i y H1 H' hi p hy => ?_) (fun H1 p => ?_)
    · obtain ⟨rfl, c, hc, rfl⟩ := hy
      obtain ⟨ps, pd⟩ := p
      have hcx : c ∈ x := List.mem_of_getElem? (by simpa [S] using hc)
      refine ⟨rfl, _, rfl, c, S chars, rfl, rfl, _, pd, ?_, ?_⟩
      · rw [List.length_map, List.length_replicate]
        have : i < x.length := by simpa [S] using hi
        exact small1000 (by omega)
      · refine ⟨fun b o e => by rw [upd_ne (ne_of_none e hD)]; exact ps b o e, ?_⟩
        rw [upd_same, List.replicate_succ', List.map_append]
        have e : decide (c ∈ (S chars).cps.toList) = true := decide_eq_true (kc c hcx)
        rw [e] <;> rfl
    · obtain ⟨ps, pd⟩ := p
      refine ⟨D, _, rfl, SqL.of pd, ?_⟩
      have e : ∀ n : Nat, (List.replicate n true).all id = true := fun n => by simp
      rw [e]
      exact k H1 ps
end
end N77

set_option Elab.async false
set_option linter.all false
set_option maxRecDepth 100000
set_option maxHeartbeats 4000000
namespace N77
open PySem PySem.Spec PyProof.Rows L2 M77
section
variable {P : Program} {w : World} {K : PySem.W.Frag} {mg : Str → Option Value} {base : Heap} {f D f2 : Addr} {fd : FuncData} {ad : Kd → Addr}
/-! ### Condition.__init__ -/
def spCInit (K : PySem.W.Frag) : Sp := fun vs H Q _ => ∃ (p C dx t l : Addr), vs = [.ref p, .ref t, .ref l] ∧ ClsF K C ∧ H p = some (.ins C dx []) ∧ Q .non (upd H p (.ins C dx (flds t l)))
theorem scCInit : FnScope ["self", "parts", "simple"] ["self", "parts", "simple"] (defScope sCInit) := ⟨rfl, rfl, rfl, by decide +kernel, rfl, by decide +kernel, by decide +kernel⟩
theorem ok_cInit (F : Fun K "__init__" "Condition.__init__" sCInit f fd) : FnR P w K mg base CX0 1 f (spCInit K) := by
  refine fnR_of F scCInit (fun _ _ _ _ _ _ us hl => match us, hl with | [_, _, _], _ => rfl) (fun vs H Q E h => ?_) (fun cdv A outer s H vs Q E hr h => ?_)
  · obtain ⟨_, _, _, _, _, rfl, _⟩ := h; rfl
  · obtain ⟨p, C, dx, t, l, rfl, T, hp, k⟩ := h
    refine ⟨_, pss_cons (ps_fld (pv 0) (pv 1) rfl) (pss_one (ps_fld (pv 0) (pv 2) rfl)), ?_⟩
    refine ⟨_, rfl, _, rfl, p, C, dx, [], rfl, hp, T.cl, T.nsh, (by show 0 < 1000; decide), ?_⟩
    refine ⟨_, rfl, _, rfl, p, C, dx, _, rfl, upd_same, T.cl, T.nsi, (by show 1 < 1000; decide), ?_⟩
    show Q .non (upd (upd H p _) p _)
    rw [upd_upd]
    exact k
/-! ### the makings -/
/-- what a making leaves -/
abbrev Made (ad : Kd → Addr) (H : Hp) (p : Addr) (c : Cond) (Q : VK) : Prop := ∀ H', Keep p H H' → CondAt ad H' c p → Q .non H'
def spBoth (ad : Kd → Addr) : Sp := fun vs H Q _ => ∃ (p dx a b : Addr) (c d : Cond), vs = [.ref p, .ref a, .ref b] ∧ H p = some (.ins (ad .both) dx []) ∧ CondAt ad H c a ∧ CondAt ad H d b ∧ c.simple.length + d.simple.length ≤ 1000 ∧ Made ad H p (.both c d) Q
def spEither (ad : Kd → Addr) : Sp := fun vs H Q _ => ∃ (p dx a b : Addr) (c d : Cond), vs = [.ref p, .ref a, .ref b] ∧ H p = some (.ins (ad .either) dx []) ∧ CondAt ad H c a ∧ CondAt ad H d b ∧ c.simple.length + d.simple.length ≤ 1000 ∧ Made ad H p (.either c d) Q
def spOpp (ad : Kd → Addr) : Sp := fun vs H Q _ => ∃ (p dx a : Addr) (c : Cond), vs = [.ref p, .ref a] ∧ H p = some (.ins (ad .opp) dx []) ∧ CondAt ad H c a ∧ Made ad H p (.opp c) Q
theorem scBoth : FnScopeS ["self", "one", "other"] ["self", "one", "other"] (defScope (sInitOf 24)) := ⟨rfl, rfl, rfl, by decide +kernel, rfl, by decide +kernel, by decide +kernel, by decide +kernel⟩
theorem SmpsAt.len {H : Hp} {us : List V} {ss : List Smp} (h : SmpsAt H us ss) : us.length = ss.length := Paired.length h
theorem Paired.app {α β : Type} {R : α → β → Prop} : ∀ {a c : List α} {b d : List β}, Paired R a b → Paired R c d → Paired R (a ++ c) (b ++ d)
  | _, _, _, _, .nil, q => q
  | _, _, _, _, .cons r t, q => .cons r (Paired.app t q)
theorem Keep.smps {H H' : Hp} {us : List V} {ss : List Smp} {p : Addr} (k : Keep p H H') (hp : Loose H p) (h : SmpsAt H us ss) : SmpsAt H' us ss := h.keep hp k
theorem ok_both (F : FunS P K "__init__" "Both.__init__" (sInitOf 24) f fd (ad .both) f2) (B : Bt mg) (T : ∀ d, ClsF K (ad d)) (CI : FnR P w K mg base CX0 1 f2 (spCInit K)) : FnR P w K mg base CX0 2 f (spBoth ad) := by
  refine fnR_ofS F scBoth (fun _ _ _ _ _ _ _ us hl => match us, hl with | [_, _, _], _ => rfl) (fun vs H Q E h => ?_) (fun cda cc A outer s H vs Q E SC hr h => ?_)
  · obtain ⟨_, _, _, _, _, _, rfl, _⟩ := h; rfl
  · obtain ⟨p, dx, a, b, c, d, rfl, hp, ha, hb, hz, k⟩ := h
    refine ⟨_, pssA_super SC B.super rfl rfl rfl rfl rfl rfl rfl (pa_cons (pe_tup (pa_cons pe_str (pa_cons (pv 1) (pa_cons (pv 2) pa_nil)))) (pa_cons (pe_op op_cat (pe_fld (pv 1) rfl) (pe_fld (pv 2) rfl)) pa_nil)), ?_⟩
    obtain ⟨da, ta, la, ua, a1, a2, a3⟩ := ha.core
    obtain ⟨db, tb, lb, ub, b1, b2, b3⟩ := hb.core
    refine ⟨p, dx, [], rfl, hp, _, rfl, _, rfl, (by show 3 ≤ sizeLine; decide), fun t ht => ?_⟩
    have st : Same H (upd H t (.tup [V.str "and", .ref a, .ref b])) := same_upd ht
    refine ⟨_, rfl, a, _, _, _, _, rfl, st _ _ a1, (T _).cl, (T _).nsi, flds_simple _ _, _, rfl, b, _, _, _, _, rfl, st _ _ b1, (T _).cl, (T _).nsi, flds_simple _ _, ?_⟩
    refine ⟨_, _, _, _, rfl, rfl, st _ _ a2, st _ _ b2, ?_, fun l hl => ?_⟩
    · rw [a3.len, b3.len]; exact Nat.le_of_lt (small1000 hz)
    have sl := same_upd (o := .lst (ua ++ ub)) hl
    have npt : p ≠ t := ne_of_none hp ht
    have npl : p ≠ l := ne_of_none (st _ _ hp) hl
    refine ⟨1, _, CI, hr, p, ad .both, dx, t, l, rfl, T _, sl _ _ (st _ _ hp), ?_⟩
    have kp : Keep p H (upd (upd (upd H t (.tup [V.str "and", .ref a, .ref b])) l (.lst (ua ++ ub))) p (.ins (ad .both) dx (flds t l))) := fun x o e n => by
      rw [upd_ne n]; exact sl _ _ (st _ _ e)
    refine k _ kp ⟨dx, t, l, ua ++ ub, a, b, upd_same, ?_, ?_, ?_, ha.keep (bare_loose hp) kp, hb.keep (bare_loose hp) kp⟩
    · rw [upd_ne (Ne.symm npt)]; exact sl _ _ upd_same
    · rw [upd_ne (Ne.symm npl)]; exact upd_same
    · exact Paired.app (a3.keep (bare_loose hp) kp) (b3.keep (bare_loose hp) kp)
theorem scEither : FnScopeS ["self", "one", "other"] ["self", "one", "other"] (defScope (sInitOf 25)) := ⟨rfl, rfl, rfl, by decide +kernel, rfl, by decide +kernel, by decide +kernel, by decide +kernel⟩
theorem ok_either (F : FunS P K "__init__" "Either.__init__" (sInitOf 25) f fd (ad .either) f2) (B : Bt mg) (T : ∀ d, ClsF K (ad d)) (CI : FnR P w K mg base CX0 1 f2 (spCInit K)) : FnR P w K mg base CX0 2 f (spEither ad) := by
  refine fnR_ofS F scEither (fun _ _ _ _ _ _ _ us hl => match us, hl with | [_, _, _], _ => rfl) (fun vs H Q E h => ?_) (fun cda cc A outer s H vs Q E SC hr h => ?_)
  · obtain ⟨_, _, _, _, _, _, rfl, _⟩ := h; rfl
  · obtain ⟨p, dx, a, b, c, d, rfl, hp, ha, hb, hz, k⟩ := h
    refine ⟨_, pssA_super SC B.super rfl rfl rfl rfl rfl rfl rfl (pa_cons (pe_tup (pa_cons pe_str (pa_cons (pv 1) (pa_cons (pv 2) pa_nil)))) (pa_cons (pe_op op_cat (pe_fld (pv 1) rfl) (pe_fld (pv 2) rfl)) pa_nil)), ?_⟩
    obtain ⟨da, ta, la, ua, a1, a2, a3⟩ := ha.core
    obtain ⟨db, tb, lb, ub, b1, b2, b3⟩ := hb.core
    refine ⟨p, dx, [], rfl, hp, _, rfl, _, rfl, (by show 3 ≤ sizeLine; decide), fun t ht => ?_⟩
    have st : Same H (upd H t (.tup [V.str "or", .ref a, .ref b])) := same_upd ht
    refine ⟨_, rfl, a, _, _, _, _, rfl, st _ _ a1, (T _).cl, (T _).nsi, flds_simple _ _, _, rfl, b, _, _, _, _, rfl, st _ _ b1, (T _).cl, (T _).nsi, flds_simple _ _, ?_⟩
    refine ⟨_, _, _, _, rfl, rfl, st _ _ a2, st _ _ b2, ?_, fun l hl => ?_⟩
    · rw [a3.len, b3.len]; exact Nat.le_of_lt (small1000 hz)
    have sl := same_upd (o := .lst (ua ++ ub)) hl
    have npt : p ≠ t := ne_of_none hp ht
    have npl : p ≠ l := ne_of_none (st _ _ hp) hl
    refine ⟨1, _, CI, hr, p, ad .either, dx, t, l, rfl, T _, sl _ _ (st _ _ hp), ?_⟩
    have kp : Keep p H (upd (upd (upd H t (.tup [V.str "or", .ref a, .ref b])) l (.lst (ua ++ ub))) p (.ins (ad .either) dx (flds t l))) := fun x o e n => by
      rw [upd_ne n]; exact sl _ _ (st _ _ e)
    refine k _ kp ⟨dx, t, l, ua ++ ub, a, b, upd_same, ?_, ?_, ?_, ha.keep (bare_loose hp) kp, hb.keep (bare_loose hp) kp⟩
    · rw [upd_ne (Ne.symm npt)]; exact sl _ _ upd_same
    · rw [upd_ne (Ne.symm npl)]; exact upd_same
    · exact Paired.app (a3.keep (bare_loose hp) kp) (b3.keep (bare_loose hp) kp)
theorem scOpp : FnScopeS ["self", "one"] ["self", "one"] (defScope (sInitOf 26)) := ⟨rfl, rfl, rfl, by decide +kernel, rfl, by decide +kernel, by decide +kernel, by decide +kernel⟩
theorem ok_opp (F : FunS P K "__init__" "Opposite.__init__" (sInitOf 26) f fd (ad .opp) f2) (B : Bt mg) (T : ∀ d, ClsF K (ad d)) (CI : FnR P w K mg base CX0 1 f2 (spCInit K)) : FnR P w K mg base CX0 2 f (spOpp ad) := by
  refine fnR_ofS F scOpp (fun _ _ _ _ _ _ _ us hl => match us, hl with | [_, _], _ => rfl) (fun vs H Q E h => ?_) (fun cda cc A outer s H vs Q E SC hr h => ?_)
  · obtain ⟨_, _, _, _, rfl, _⟩ := h; rfl
  · obtain ⟨p, dx, a, c, rfl, hp, ha, k⟩ := h
    refine ⟨_, pssA_super SC B.super rfl rfl rfl rfl rfl rfl rfl (pa_cons (pe_tup (pa_cons pe_str (pa_cons (pv 1) pa_nil))) (pa_cons (pe_fld (pv 1) rfl) pa_nil)), ?_⟩
    obtain ⟨da, ta, la, ua, a1, a2, a3⟩ := ha.core
    refine ⟨p, dx, [], rfl, hp, _, rfl, (by show 2 ≤ sizeLine; decide), fun t ht => ?_⟩
    have st : Same H (upd H t (.tup [V.str "not", .ref a])) := same_upd ht
    refine ⟨_, rfl, a, _, _, _, _, rfl, st _ _ a1, (T _).cl, (T _).nsi, flds_simple _ _, ?_⟩
    have npt : p ≠ t := ne_of_none hp ht
    refine ⟨1, _, CI, hr, p, ad .opp, dx, t, la, rfl, T _, st _ _ hp, ?_⟩
    have kp : Keep p H (upd (upd H t (.tup [V.str "not", .ref a])) p (.ins (ad .opp) dx (flds t la))) := fun x o e n => by
      rw [upd_ne n]; exact st _ _ e
    refine k _ kp ⟨dx, t, la, ua, a, upd_same, ?_, ?_, a3.keep (bare_loose hp) kp, ha.keep (bare_loose hp) kp⟩
    · rw [upd_ne (Ne.symm npt)]; exact upd_same
    · exact kp _ _ a2 (fun z => by subst z; rw [hp] at a2; cases a2)
/-! ### the simple ones -/
def spMk (ad : Kd → Addr) (s : Smp) (args : List V) : Sp := fun vs H Q _ => ∃ (p dx : Addr), vs = .ref p :: args ∧ H p = some (.ins (ad (Smp.kd s)) dx []) ∧ Made ad H p (.smp s) Q
def spBegins (ad : Kd → Addr) : Sp := fun vs H Q E => ∃ t : Tx, OkTx t ∧ t.length ≤ 20 ∧ spMk ad (.beg t) [.str (S t)] vs H Q E
def spLength (ad : Kd → Addr) : Sp := fun vs H Q E => ∃ a b : Int, 1 ≤ a ∧ a ≤ b ∧ b ≤ 20 ∧ spMk ad (.len a b) [.int a, .int b] vs H Q E
def spValue (ad : Kd → Addr) : Sp := fun vs H Q E => ∃ l m : Option Int, (∀ x y, l = some x → m = some y → x ≤ y) ∧ spMk ad (.val l m) [optV l, optV m] vs H Q E
/-- the end of such a making: two tuples, a list, the fields -/
theorem made_smp {H H0 : Hp} {p dx t u l : Addr} {s : Smp} {Q : VK} (hp : H p = some (.ins (ad (Smp.kd s)) dx [])) (k : Made ad H p (.smp s) Q) (sm : Same H H0) (ht : H0 t = none) (hu : upd H0 t (.tup (Smp.vals s)) u = none)
    (hl : upd (upd H0 t (.tup (Smp.vals s))) u (.tup (Smp.vals s)) l = none) :
    Q .non (upd (upd (upd (upd H0 t (.tup (Smp.vals s))) u (.tup (Smp.vals s))) l (.lst [.ref u])) p (.ins (ad (Smp.kd s)) dx (flds t l))) := by
  have s1 : Same H0 (upd H0 t (.tup (Smp.vals s))) := same_upd ht
  have s2 := same_upd (o := .tup (Smp.vals s)) hu
  have s3 := same_upd (o := .lst [.ref u]) hl
  have hp0 := sm _ _ hp
  have hp1 := s1 _ _ hp0
  have hp2 := s2 _ _ hp1
  have npt : t ≠ p := (ne_of_none hp0 ht).symm
  have npu : u ≠ p := (ne_of_none hp1 hu).symm
  have npl : l ≠ p := (ne_of_none hp2 hl).symm
  refine k _ (fun x o e n => by rw [upd_ne n]; exact s3 _ _ (s2 _ _ (s1 _ _ (sm _ _ e)))) ⟨dx, t, l, [.ref u], upd_same, ?_, ?_, .cons ⟨u, rfl, ?_⟩ .nil⟩
  · rw [upd_ne npt]; exact s3 _ _ (s2 _ _ upd_same)
  · rw [upd_ne npl]; exact upd_same
  · rw [upd_ne npu]; exact s3 _ _ upd_same
theorem scBegins : FnScopeS ["self", "text", "sign"] ["self", "text"] (defScope (sInitOf 21)) := ⟨rfl, rfl, rfl, by decide +kernel, rfl, by decide +kernel, by decide +kernel, by decide +kernel⟩
theorem ok_begins (F : FunS P K "__init__" "Begins.__init__" (sInitOf 21) f fd (ad .begins) f2) (B : Bt mg) (Z : Ct mg) (T : ∀ d, ClsF K (ad d)) (CI : FnR P w K mg base CX0 1 f2 (spCInit K)) : FnR P w K mg base CX0 2 f (spBegins ad) := by
  refine fnR_ofS F scBegins (fun _ _ _ _ _ _ _ us hl => match us, hl with | [_, _], _ => rfl) (fun vs H Q E h => ?_) (fun cda cc A outer s H vs Q E SC hr h => ?_)
  · obtain ⟨_, _, _, _, _, rfl, _⟩ := h; rfl
  · obtain ⟨x, kc, k20, p, dx, rfl, hp, k⟩ := h
    obtain ⟨tm, hm⟩ := Z.maxl
    obtain ⟨tc, hc⟩ := Z.chars
    refine ⟨_, pssA_cons (ps_if (PW.pt (pw_or (pt_not (pt_val (pe_callB call_isi rfl B.isinstance boot_isinstance (pa_cons (pv 1) (pa_cons (pe_bltn (v := .ty "str") rfl B.str boot_str rfl) pa_nil)))))
        (pw_or (pt_cmpR op_gt (pe_callB call_len_str rfl B.len PySem.boot_len (pa_cons (pv 1) pa_nil)) (pe_glob (v := .int 20) rfl hm ⟨_, rfl⟩) (nomark _))
        (pw_or1 (pt_not (pt_val (pe_callB (cr_all rfl) rfl B.all boot_all (pa_cons (pe_lc (own := [("sign", 2)]) (g := gName 2) rfl scBegins.nd (pi_str (pv 1)) (blkOk_by (own := [("sign", 2)]) (N := ["self", "text", "sign"]) (sc := defScope (sInitOf 21)) (by decide +kernel))
        (fun _ _ _ _ _ => pg_name (i := 2) scBegins.nd rfl (Or.inl rfl)) (fun _ _ _ _ _ => pts_nil)
        (fun _ _ _ _ _ => pe_cmpR op_in_sign (pv 2) (pe_glob (v := .str (S chars)) rfl hc ⟨_, rfl⟩) rfl)) pa_nil)))))))) pss_never pss_nil)
      (pssA_super SC B.super rfl rfl rfl rfl rfl rfl rfl (pa_cons (pe_tup (pa_cons pe_str (pa_cons (pv 1) pa_nil))) (pa_cons (pe_lst (pa_cons (pe_tup (pa_cons pe_str (pa_cons (pv 1) pa_nil))) pa_nil)) pa_nil))), ?_⟩
    refine ⟨_, rfl, .str (S x), .ty "str", .type "str", .type "str", true, rfl, .ty "str", .base (.str _), kit_ty (by decide +kernel), true, rfl, iteF ?_⟩
    refine ⟨_, rfl, S x, rfl, len20 k20, _, _, rfl, rfl, false, congrArg V.bl (decide_eq_false (by rw [S_len]; omega)), iteF ?_⟩
    refine ⟨_, rfl, S x, rfl, fun D hD => ?_⟩
    refine lc_it walk_str (fun i H' => Same H H' ∧ H' D = some (.lst ((List.replicate i true).map V.bl))) ⟨same_upd hD, upd_same⟩ (fun _ _ _ _ => trivial) (fun i y H1 H' hi p hy => ?_) (fun H1 p => ?_)
    · obtain ⟨rfl, c, hc, rfl⟩ := hy
      obtain ⟨ps, pd⟩ := p
      have hcx : c ∈ x := List.mem_of_getElem? (by simpa [S] using hc)
      refine ⟨rfl, _, rfl, c, S chars, rfl, rfl, _, pd, ?_, ?_⟩
      · rw [List.length_map, List.length_replicate]
        have : i < x.length := by simpa [S] using hi
        exact small1000 (by omega)
      · refine ⟨fun b o e => by rw [upd_ne (ne_of_none e hD)]; exact ps b o e, ?_⟩
        rw [upd_same, List.replicate_succ', List.map_append]
        have e : decide (c ∈ (S chars).cps.toList) = true := decide_eq_true (kc c hcx)
        rw [e] <;> rfl
    · obtain ⟨ps, pd⟩ := p
      refine ⟨D, _, rfl, SqL.of pd, true, congrArg V.bl (by simp), iteF ?_⟩
      refine ⟨p, dx, [], rfl, ps _ _ hp, _, rfl, (by show 2 ≤ sizeLine; decide), fun t ht => ?_⟩
      refine ⟨_, rfl, (by show 2 ≤ sizeLine; decide), fun u hu => ⟨(by show 1 ≤ sizeLine; decide), fun l hl => ?_⟩⟩
      refine ⟨1, _, CI, hr, p, ad .begins, dx, t, l, rfl, T _, same_upd hl _ _ (same_upd hu _ _ (same_upd ht _ _ (ps _ _ hp))), ?_⟩
      exact made_smp (s := .beg x) hp k ps ht hu hl
theorem scLength : FnScopeS ["self", "least", "most"] ["self", "least", "most"] (defScope (sInitOf 22)) := ⟨rfl, rfl, rfl, by decide +kernel, rfl, by decide +kernel, by decide +kernel, by decide +kernel⟩
theorem ok_length (F : FunS P K "__init__" "Length.__init__" (sInitOf 22) f fd (ad .length) f2) (B : Bt mg) (Z : Ct mg) (T : ∀ d, ClsF K (ad d)) (CI : FnR P w K mg base CX0 1 f2 (spCInit K)) (c1 : Cal P w K mg base "check_number" 3 spNum) : FnR P w K mg base CX0 4 f (spLength ad) := by
  refine fnR_ofS F scLength (fun _ _ _ _ _ _ _ us hl => match us, hl with | [_, _, _], _ => rfl) (fun vs H Q E h => ?_) (fun cda cc A outer s H vs Q E SC hr h => ?_)
  · obtain ⟨_, _, _, _, _, _, _, rfl, _⟩ := h; rfl
  · obtain ⟨a, b, h1, h2, h3, p, dx, rfl, hp, k⟩ := h
    obtain ⟨tm, hm⟩ := Z.maxl
    refine ⟨_, pssA_cons (ps_expr (pe_cal c1 hr rfl (pa_cons (pv 1) (pa_cons pe_int (pa_cons (pe_glob (v := .int 20) rfl hm ⟨_, rfl⟩) pa_nil)))))
      (pssA_cons (ps_expr (pe_cal c1 hr rfl (pa_cons (pv 2) (pa_cons pe_int (pa_cons (pe_glob (v := .int 20) rfl hm ⟨_, rfl⟩) pa_nil)))))
      (pssA_cons (ps_if (pt_cmpR op_gt (pv 1) (pv 2) (nomark _)) pss_never pss_nil)
      (pssA_super SC B.super rfl rfl rfl rfl rfl rfl rfl (pa_cons (pe_tup (pa_cons pe_str (pa_cons (pv 1) (pa_cons (pv 2) pa_nil)))) (pa_cons (pe_lst (pa_cons (pe_tup (pa_cons pe_str (pa_cons (pv 1) (pa_cons (pv 2) pa_nil)))) pa_nil)) pa_nil))))), ?_⟩
    refine ⟨_, rfl, a, 1, 20, rfl, h1, by omega, ?_⟩
    refine ⟨_, rfl, b, 1, 20, rfl, by omega, h3, ?_⟩
    refine ⟨_, rfl, _, rfl, a, b, rfl, rfl, false, congrArg V.bl (decide_eq_false (by omega)), iteF ?_⟩
    refine ⟨p, dx, [], rfl, hp, _, rfl, _, rfl, (by show 3 ≤ sizeLine; decide), fun t ht => ?_⟩
    refine ⟨_, rfl, _, rfl, (by show 3 ≤ sizeLine; decide), fun u hu => ⟨(by show 1 ≤ sizeLine; decide), fun l hl => ?_⟩⟩
    refine ⟨1, _, CI, hr.mono (by decide), p, ad .length, dx, t, l, rfl, T _, same_upd hl _ _ (same_upd hu _ _ (same_upd ht _ _ hp)), ?_⟩
    exact made_smp (s := .len a b) hp k (Same.refl _) ht hu hl
theorem scValue : FnScopeS ["self", "least", "most", "bound"] ["self", "least", "most"] (defScope (sInitOf 23)) := ⟨rfl, rfl, rfl, by decide +kernel, rfl, by decide +kernel, by decide +kernel, by decide +kernel⟩
theorem ok_value (F : FunS P K "__init__" "Value.__init__" (sInitOf 23) f fd (ad .value) f2) (B : Bt mg) (T : ∀ d, ClsF K (ad d)) (CI : FnR P w K mg base CX0 1 f2 (spCInit K)) (c1 : Cal P w K mg base "is_integer" 1 spIsInt) : FnR P w K mg base CX0 2 f (spValue ad) := by
  refine fnR_ofS F scValue (fun _ _ _ _ _ _ _ us hl => match us, hl with | [_, _, _], _ => rfl) (fun vs H Q E h => ?_) (fun cda cc A outer s H vs Q E SC hr h => ?_)
  · obtain ⟨_, _, _, _, _, rfl, _⟩ := h; rfl
  · obtain ⟨l, m, h1, p, dx, rfl, hp, k⟩ := h
    refine ⟨_, pssA_cons (ps_for PassesOwn.never rfl (pi_tup (pe_tup (pa_cons (pv 1) (pa_cons (pv 2) pa_nil)))) (pg_name (i := 3) scValue.nd rfl (Or.inl rfl))
        (pss_one (ps_if (PW.pt (pw_and (pt_cmpR op_notN (pv 3) pe_non (nomark _)) (pw_and1 (pt_not (pt_val (pe_cal c1 hr rfl (pa_cons (pv 3) pa_nil))))))) pss_never pss_nil)))
      (pssA_cons (ps_if (PW.pt (pw_and (pt_cmpR op_notN (pv 1) pe_non (nomark _)) (pw_and (pt_cmpR op_notN (pv 2) pe_non (nomark _)) (pw_and1 (pt_cmpR op_gt (pv 1) (pv 2) (nomark _)))))) pss_never pss_nil)
      (pssA_super SC B.super rfl rfl rfl rfl rfl rfl rfl (pa_cons (pe_tup (pa_cons pe_str (pa_cons (pv 1) (pa_cons (pv 2) pa_nil)))) (pa_cons (pe_lst (pa_cons (pe_tup (pa_cons pe_str (pa_cons (pv 1) (pa_cons (pv 2) pa_nil)))) pa_nil)) pa_nil)))), ?_⟩
    refine ⟨_, rfl, _, rfl, (by show 2 ≤ sizeLine; decide), fun tp htp => ⟨tp, rfl, ⟨_, SqT.of upd_same⟩, ?_⟩⟩
    have sm : Same H (upd H tp (.tup [optV l, optV m])) := same_upd htp
    refine for_tup (xs := [optV l, optV m]) (fun _ σ H' => ∃ v, σ = [some (V.ref p), some (optV l), some (optV m), v] ∧ H' = upd H tp (.tup [optV l, optV m])) ⟨none, rfl, rfl⟩ (fun i σ H' _ h => ?_) (fun i x σ H' hx h => ?_) (fun σ H' h => ?_)
    · obtain ⟨v, rfl, rfl⟩ := h
      exact SqT.of upd_same
    · obtain ⟨v, rfl, rfl⟩ := h
      obtain ⟨o, rfl⟩ : ∃ o, x = optV o := by
        rcases List.mem_cons.mp (List.mem_of_getElem? hx) with e | e
        · exact ⟨l, e⟩
        · exact ⟨m, List.mem_singleton.mp e⟩
      cases o with
      | none => exact ⟨_, rfl, rfl, false, rfl, iteF (iteF ⟨_, rfl, rfl⟩)⟩
      | some z => exact ⟨_, rfl, rfl, true, rfl, iteT ⟨_, rfl, z, rfl, true, rfl, iteF ⟨_, rfl, rfl⟩⟩⟩
    · obtain ⟨v, rfl, rfl⟩ := h
      have fin : tSuper (cxS P w K mg base ["self", "least", "most", "bound"] "Value.__init__" (defScope (sInitOf 23)) f (Value.ref cda) cc A outer s H) (ad Kd.value) f2
          (tCons (tTup (tCons (tC (V.str "value")) (tCons (tVar 1) (tCons (tVar 2) tNil)))) (tCons (tLst (tCons (tTup (tCons (tC (V.str "value")) (tCons (tVar 1) (tCons (tVar 2) tNil)))) tNil)) tNil))
          { nx := fun x H' => Q V.non H', rt := Q } [some (V.ref p), some (optV l), some (optV m), v] (upd H tp (.tup [optV l, optV m])) := by
        refine ⟨p, dx, [], rfl, sm _ _ hp, _, rfl, _, rfl, (by show 3 ≤ sizeLine; decide), fun t ht => ?_⟩
        refine ⟨_, rfl, _, rfl, (by show 3 ≤ sizeLine; decide), fun u hu => ⟨(by show 1 ≤ sizeLine; decide), fun l' hl => ?_⟩⟩
        refine ⟨1, _, CI, hr, p, ad .value, dx, t, l', rfl, T _, same_upd hl _ _ (same_upd hu _ _ (same_upd ht _ _ (sm _ _ hp))), ?_⟩
        exact made_smp (s := .val l m) hp k sm ht hu hl
      cases l with
      | none => exact ⟨_, rfl, rfl, false, rfl, iteF (iteF fin)⟩
      | some x =>
        cases m with
        | none => exact ⟨_, rfl, rfl, true, rfl, iteT ⟨_, rfl, rfl, false, rfl, iteF (iteF fin)⟩⟩
        | some y => exact ⟨_, rfl, rfl, true, rfl, iteT ⟨_, rfl, rfl, true, rfl, iteT ⟨_, rfl, _, rfl, x, y, rfl, rfl, false, congrArg V.bl (decide_eq_false (by have := h1 x y rfl rfl; omega)), iteF fin⟩⟩⟩
end
end N77

set_option Elab.async false
set_option linter.all false
set_option maxRecDepth 100000
set_option maxHeartbeats 4000000
namespace N77
open PySem PySem.Spec PyProof.Rows L2 M77
theorem ne_hs : ¬ (("holds" : Str) = "own_shape") := by decide +kernel
theorem ne_hm : ¬ (("holds" : Str) = "own_simple") := by decide +kernel
theorem starts_eq (k t : Tx) : Txt.startswith (S k) (S t) = t.isPrefixOf k := by
  unfold Txt.startswith
  rw [PySem.StrLaws.subAt_eq]
  show (decide (0 + (S t).length ≤ (S k).length) && ((k.drop 0).take (S t).length == t)) = t.isPrefixOf k
  rw [S_len, S_len, List.drop_zero]
  refine bool_of_iff ?_
  rw [Bool.and_eq_true, decide_eq_true_eq, pre_iff, beq_iff_eq]
  constructor
  · rintro ⟨_, h⟩; exact List.prefix_iff_eq_take.mpr h.symm
  · intro h; exact ⟨by have := h.length_le; omega, (List.prefix_iff_eq_take.mp h).symm⟩
section
variable {P : Program} {w : World} {K : PySem.W.Frag} {mg : Str → Option Value} {base : Heap} {f : Addr} {fd : FuncData} {ad : Kd → Addr} {fh : Kd → Addr}
def spHolds (ad : Kd → Addr) (n : Nat) (d : Kd) : Sp := fun vs H Q _ => ∃ (a : Addr) (c : Cond) (k : Tx) (v : Int), vs = [.ref a, .str (S k), .int v] ∧ CondAt ad H c a ∧ Cond.kd c = d ∧ c.depth ≤ n ∧ k.length ≤ 20 ∧ ∀ H', Same H H' → Q (.bl (c.holds k v)) H'
theorem scHold (i : Nat) (h : i = 21 ∨ i = 22 ∨ i = 24 ∨ i = 25 ∨ i = 26) : FnScope ["self", "key", "value"] ["self", "key", "value"] (defScope (sHoldsOf i)) := by
  rcases h with rfl | rfl | rfl | rfl | rfl <;> exact ⟨rfl, rfl, rfl, by decide +kernel, rfl, by decide +kernel, by decide +kernel⟩
theorem scHoldV : FnScope ["self", "key", "value", "least", "most"] ["self", "key", "value"] (defScope (sHoldsOf 23)) := ⟨rfl, rfl, rfl, by decide +kernel, rfl, by decide +kernel, by decide +kernel⟩
theorem ok_hBegins (F : Fun K "holds" "Begins.holds" (sHoldsOf 21) f fd) (T : ∀ d, ClsF K (ad d)) (n : Nat) : FnR P w K mg base CX0 (n + 1) f (spHolds ad n .begins) := by
  refine fnR_of F (scHold 21 (by decide)) (fun _ _ _ _ _ _ us hl => match us, hl with | [_, _, _], _ => rfl) (fun vs H Q E h => ?_) (fun cdv A outer s H vs Q E hr h => ?_)
  · obtain ⟨_, _, _, _, rfl, _⟩ := h; rfl
  · obtain ⟨a, c, x, v, rfl, ha, hk, hd, hx, k⟩ := h
    refine ⟨_, pss_one (ps_ret (pe_m1 PySem.F.slot_str_startswith PySem.F.type_str_startswith mt_startswith (pv 1) (pe_ix ix_tup (pe_fld (pv 0) rfl) pe_int (fun _ _ => rfl)))), ?_⟩
    cases c with
    | smp s =>
      cases s with
      | beg t =>
        obtain ⟨dx, tp, l, us, h1, h2, h3, h4⟩ := ha
        refine ⟨_, rfl, ⟨_, rfl⟩, _, rfl, a, _, _, _, _, rfl, h1, (T _).cl, (T _).nsh, flds_shape _ _, tp, _, 1, _, rfl, rfl, SqT.of h2, atI_nat (j := 1) rfl, S x, S t, rfl, rfl, ?_⟩
        rw [starts_eq]
        exact k H (Same.refl _)
      | _ => cases hk
    | _ => cases hk
theorem ok_hLength (F : Fun K "holds" "Length.holds" (sHoldsOf 22) f fd) (B : Bt mg) (T : ∀ d, ClsF K (ad d)) (n : Nat) : FnR P w K mg base CX0 (n + 1) f (spHolds ad n .length) := by
  refine fnR_of F (scHold 22 (by decide)) (fun _ _ _ _ _ _ us hl => match us, hl with | [_, _, _], _ => rfl) (fun vs H Q E h => ?_) (fun cdv A outer s H vs Q E hr h => ?_)
  · obtain ⟨_, _, _, _, rfl, _⟩ := h; rfl
  · obtain ⟨a, c, x, v, rfl, ha, hk, hd, hx, k⟩ := h
    refine ⟨_, pss_one (ps_ret (pe_chain op_le op_le (pe_ix ix_tup (pe_fld (pv 0) rfl) pe_int (fun _ _ => rfl)) (pe_callB call_len_str rfl B.len PySem.boot_len (pa_cons (pv 1) pa_nil)) (pe_ix ix_tup (pe_fld (pv 0) rfl) pe_int (fun _ _ => rfl)))), ?_⟩
    cases c with
    | smp s =>
      cases s with
      | len p q =>
        obtain ⟨dx, tp, l, us, h1, h2, h3, h4⟩ := ha
        refine ⟨_, rfl, a, _, _, _, _, rfl, h1, (T _).cl, (T _).nsh, flds_shape _ _, tp, _, 1, _, rfl, rfl, SqT.of h2, atI_nat (j := 1) rfl, ?_⟩
        refine ⟨_, rfl, S x, rfl, len20 hx, p, _, rfl, rfl, _, rfl, ?_⟩
        have kk := k H (Same.refl _)
        rw [S_len]
        simp only [Cond.holds, Smp.holds] at kk
        refine ite2 (fun z => ?_) fun z => ?_
        · refine ⟨_, rfl, a, _, _, _, _, rfl, h1, (T _).cl, (T _).nsh, flds_shape _ _, tp, _, 2, _, rfl, rfl, SqT.of h2, atI_nat (j := 2) rfl, _, q, rfl, rfl, ?_⟩
          rw [z, Bool.true_and] at kk
          exact kk
        · have z' : decide (p ≤ (x.length : Int)) = false := by simpa using z
          rw [z', Bool.false_and] at kk
          exact kk
      | _ => cases hk
    | _ => cases hk
theorem ok_hValue (F : Fun K "holds" "Value.holds" (sHoldsOf 23) f fd) (T : ∀ d, ClsF K (ad d)) (n : Nat) : FnR P w K mg base CX0 (n + 1) f (spHolds ad n .value) := by
  refine fnR_of F scHoldV (fun _ _ _ _ _ _ us hl => match us, hl with | [_, _, _], _ => rfl) (fun vs H Q E h => ?_) (fun cdv A outer s H vs Q E hr h => ?_)
  · obtain ⟨_, _, _, _, rfl, _⟩ := h; rfl
  · obtain ⟨a, c, x, v, rfl, ha, hk, hd, hx, k⟩ := h
    refine ⟨_, pss_cons (ps_asg (pe_slice sl_tup (pe_fld (pv 0) rfl) (po_some pe_int) po_none) (pg_tup rfl (pgs_cons (pg_name (i := 3) scHoldV.nd rfl (.inl rfl)) (pgs_cons (pg_name (i := 4) scHoldV.nd rfl (.inl rfl)) pgs_nil))))
      (pss_one (ps_ret (pe_and (pe_or (pe_cmpR op_isN (pv 3) pe_non (nomark _)) (pe_one (pe_cmpR op_le (pv 3) (pv 2) (nomark _)))) (pe_one (pe_or (pe_cmpR op_isN (pv 4) pe_non (nomark _)) (pe_one (pe_cmpR op_le (pv 2) (pv 4) (nomark _)))))))), ?_⟩
    cases c with
    | smp s =>
      cases s with
      | val p q =>
        obtain ⟨dx, tp, l, us, h1, h2, h3, h4⟩ := ha
        refine ⟨_, rfl, a, _, _, _, _, rfl, h1, (T _).cl, (T _).nsh, flds_shape _ _, 1, rfl, tp, _, rfl, SqT.of h2, ?_, fun t ht => ?_⟩
        · show ¬ (HT.sIx 3 0 (some 1) = 0 ∧ HT.sIx 3 3 none = 3)
          decide
        · have st := same_upd (o := .tup (cutV (Smp.vals (.val p q)) (some 1) none)) ht
          refine ⟨t, _, rfl, SqT.of upd_same, rfl, optV p, _, rfl, optV q, _, rfl, rfl, ?_⟩
          have kk : Q (.bl ((Smp.val p q).holds x v)) _ := k _ st
          cases p with
          | none =>
            refine ⟨_, rfl, rfl, true, rfl, iteT ⟨true, rfl, iteT ?_⟩⟩
            cases q with
            | none => exact ⟨_, rfl, rfl, true, rfl, iteT kk⟩
            | some y => exact ⟨_, rfl, rfl, false, rfl, iteF ⟨_, rfl, _, rfl, v, y, rfl, rfl, kk⟩⟩
          | some z =>
            refine ⟨_, rfl, rfl, false, rfl, iteF ⟨_, rfl, _, rfl, z, v, rfl, rfl, decide (z ≤ v), rfl, ite2 (fun h => ?_) fun h => ?_⟩⟩
            · have e : ∀ r : Option Int, (Smp.val (some z) r).holds x v = (Smp.val none r).holds x v := fun r => by simp only [Smp.holds, h]
              rw [e] at kk
              cases q with
              | none => exact ⟨_, rfl, rfl, true, rfl, iteT kk⟩
              | some y => exact ⟨_, rfl, rfl, false, rfl, iteF ⟨_, rfl, _, rfl, v, y, rfl, rfl, kk⟩⟩
            · have h' : decide (z ≤ v) = false := by simpa using h
              have e : (Smp.val (some z) q).holds x v = false := by simp only [Smp.holds, h', Bool.false_and]
              rw [e] at kk
              exact kk
      | _ => cases hk
    | _ => cases hk
/-- all of them, to a depth -/
def AllH (P : Program) (w : World) (K : PySem.W.Frag) (mg : Str → Option Value) (base : Heap) (ad fh : Kd → Addr) (n : Nat) : Prop := ∀ d, FnR P w K mg base CX0 (n + 1) (fh d) (spHolds ad n d)
theorem ok_hBoth (F : Fun K "holds" "Both.holds" (sHoldsOf 24) f fd) (T : ∀ d, ClsF K (ad d)) (M : ∀ d, Meth K (ad d) "holds" (fh d)) (n : Nat) (ih : ∀ m, n = m + 1 → AllH P w K mg base ad fh m) : FnR P w K mg base CX0 (n + 1) f (spHolds ad n .both) := by
  refine fnR_of F (scHold 24 (by decide)) (fun _ _ _ _ _ _ us hl => match us, hl with | [_, _, _], _ => rfl) (fun vs H Q E h => ?_) (fun cdv A outer s H vs Q E hr h => ?_)
  · obtain ⟨_, _, _, _, rfl, _⟩ := h; rfl
  · obtain ⟨a, c0, x, v, rfl, ha, hk, hd, hx, k⟩ := h
    refine ⟨_, pss_one (ps_ret (pe_and (pe_methD (pe_ix ix_tup (pe_fld (pv 0) rfl) pe_int (fun _ _ => rfl)) (pa_cons (pv 1) (pa_cons (pv 2) pa_nil))) (pe_one (pe_methD (pe_ix ix_tup (pe_fld (pv 0) rfl) pe_int (fun _ _ => rfl)) (pa_cons (pv 1) (pa_cons (pv 2) pa_nil)))))), ?_⟩
    cases c0 with
    | both c d =>
      obtain ⟨dx, tp, l, us, p, q, h1, h2, h3, h4, hc, hq⟩ := ha
      obtain ⟨m, rfl⟩ : ∃ m, n = m + 1 := ⟨n - 1, by simp only [Cond.depth] at hd; omega⟩
      have ih := ih m rfl
      simp only [Cond.depth] at hd
      obtain ⟨dc, tc, lc, uc, c1, _⟩ := hc.core
      refine ⟨_, rfl, a, _, _, _, _, rfl, h1, (T _).cl, (T _).nsh, flds_shape _ _, tp, _, 1, _, rfl, rfl, SqT.of h2, atI_nat (j := 1) rfl, p, ad (Cond.kd c), fh (Cond.kd c), rfl, ⟨dc, _, c1, flds_no _ _ ne_hs ne_hm⟩, (T _).cl, M _,
        _, rfl, _, rfl, m + 1, _, ih _, hr, p, c, x, v, rfl, hc, rfl, by omega, hx, fun H1 s1 => ⟨c.holds x v, rfl, ite2 (fun z => ?_) fun z => ?_⟩⟩
      · have hq1 := hq.same s1
        obtain ⟨dd, td, ld, ud, d1, _⟩ := hq1.core
        refine ⟨_, rfl, a, _, _, _, _, rfl, s1 _ _ h1, (T _).cl, (T _).nsh, flds_shape _ _, tp, _, 2, _, rfl, rfl, SqT.of (s1 _ _ h2), atI_nat (j := 2) rfl, q, ad (Cond.kd d), fh (Cond.kd d), rfl, ⟨dd, _, d1, flds_no _ _ ne_hs ne_hm⟩, (T _).cl, M _,
          _, rfl, _, rfl, m + 1, _, ih _, hr, q, d, x, v, rfl, hq1, rfl, by omega, hx, fun H2 s2 => ?_⟩
        have kk := k H2 (s1.trans s2)
        simp only [Cond.holds, z, Bool.true_and] at kk
        exact kk
      · have z' : c.holds x v = false := by simpa using z
        have kk := k H1 s1
        simp only [Cond.holds, z', Bool.false_and] at kk
        exact kk
    | smp s => cases s <;> cases hk
    | _ => cases hk
theorem ok_hEither (F : Fun K "holds" "Either.holds" (sHoldsOf 25) f fd) (T : ∀ d, ClsF K (ad d)) (M : ∀ d, Meth K (ad d) "holds" (fh d)) (n : Nat) (ih : ∀ m, n = m + 1 → AllH P w K mg base ad fh m) : FnR P w K mg base CX0 (n + 1) f (spHolds ad n .either) := by
  refine fnR_of F (scHold 25 (by decide)) (fun _ _ _ _ _ _ us hl => match us, hl with | [_, _, _], _ => rfl) (fun vs H Q E h => ?_) (fun cdv A outer s H vs Q E hr h => ?_)
  · obtain ⟨_, _, _, _, rfl, _⟩ := h; rfl
  · obtain ⟨a, c0, x, v, rfl, ha, hk, hd, hx, k⟩ := h
    refine ⟨_, pss_one (ps_ret (pe_or (pe_methD (pe_ix ix_tup (pe_fld (pv 0) rfl) pe_int (fun _ _ => rfl)) (pa_cons (pv 1) (pa_cons (pv 2) pa_nil))) (pe_one (pe_methD (pe_ix ix_tup (pe_fld (pv 0) rfl) pe_int (fun _ _ => rfl)) (pa_cons (pv 1) (pa_cons (pv 2) pa_nil)))))), ?_⟩
    cases c0 with
    | either c d =>
      obtain ⟨dx, tp, l, us, p, q, h1, h2, h3, h4, hc, hq⟩ := ha
      obtain ⟨m, rfl⟩ : ∃ m, n = m + 1 := ⟨n - 1, by simp only [Cond.depth] at hd; omega⟩
      have ih := ih m rfl
      simp only [Cond.depth] at hd
      obtain ⟨dc, tc, lc, uc, c1, _⟩ := hc.core
      refine ⟨_, rfl, a, _, _, _, _, rfl, h1, (T _).cl, (T _).nsh, flds_shape _ _, tp, _, 1, _, rfl, rfl, SqT.of h2, atI_nat (j := 1) rfl, p, ad (Cond.kd c), fh (Cond.kd c), rfl, ⟨dc, _, c1, flds_no _ _ ne_hs ne_hm⟩, (T _).cl, M _,
        _, rfl, _, rfl, m + 1, _, ih _, hr, p, c, x, v, rfl, hc, rfl, by omega, hx, fun H1 s1 => ⟨c.holds x v, rfl, ite2 (fun z => ?_) fun z => ?_⟩⟩
      · have kk := k H1 s1
        simp only [Cond.holds, z, Bool.true_or] at kk
        exact kk
      · have z' : c.holds x v = false := by simpa using z
        have hq1 := hq.same s1
        obtain ⟨dd, td, ld, ud, d1, _⟩ := hq1.core
        refine ⟨_, rfl, a, _, _, _, _, rfl, s1 _ _ h1, (T _).cl, (T _).nsh, flds_shape _ _, tp, _, 2, _, rfl, rfl, SqT.of (s1 _ _ h2), atI_nat (j := 2) rfl, q, ad (Cond.kd d), fh (Cond.kd d), rfl, ⟨dd, _, d1, flds_no _ _ ne_hs ne_hm⟩, (T _).cl, M _,
          _, rfl, _, rfl, m + 1, _, ih _, hr, q, d, x, v, rfl, hq1, rfl, by omega, hx, fun H2 s2 => ?_⟩
        have kk := k H2 (s1.trans s2)
        simp only [Cond.holds, z', Bool.false_or] at kk
        exact kk
    | smp s => cases s <;> cases hk
    | _ => cases hk
theorem ok_hOpp (F : Fun K "holds" "Opposite.holds" (sHoldsOf 26) f fd) (T : ∀ d, ClsF K (ad d)) (M : ∀ d, Meth K (ad d) "holds" (fh d)) (n : Nat) (ih : ∀ m, n = m + 1 → AllH P w K mg base ad fh m) : FnR P w K mg base CX0 (n + 1) f (spHolds ad n .opp) := by
  refine fnR_of F (scHold 26 (by decide)) (fun _ _ _ _ _ _ us hl => match us, hl with | [_, _, _], _ => rfl) (fun vs H Q E h => ?_) (fun cdv A outer s H vs Q E hr h => ?_)
  · obtain ⟨_, _, _, _, rfl, _⟩ := h; rfl
  · obtain ⟨a, c0, x, v, rfl, ha, hk, hd, hx, k⟩ := h
    refine ⟨_, pss_one (ps_ret (pe_not (pe_methD (pe_ix ix_tup (pe_fld (pv 0) rfl) pe_int (fun _ _ => rfl)) (pa_cons (pv 1) (pa_cons (pv 2) pa_nil))))), ?_⟩
    cases c0 with
    | opp c =>
      obtain ⟨dx, tp, l, us, p, h1, h2, h3, h4, hc⟩ := ha
      obtain ⟨m, rfl⟩ : ∃ m, n = m + 1 := ⟨n - 1, by simp only [Cond.depth] at hd; omega⟩
      have ih := ih m rfl
      simp only [Cond.depth] at hd
      obtain ⟨dc, tc, lc, uc, c1, _⟩ := hc.core
      exact ⟨_, rfl, a, _, _, _, _, rfl, h1, (T _).cl, (T _).nsh, flds_shape _ _, tp, _, 1, _, rfl, rfl, SqT.of h2, atI_nat (j := 1) rfl, p, ad (Cond.kd c), fh (Cond.kd c), rfl, ⟨dc, _, c1, flds_no _ _ ne_hs ne_hm⟩, (T _).cl, M _,
        _, rfl, _, rfl, m + 1, _, ih _, hr, p, c, x, v, rfl, hc, rfl, by omega, hx, fun H1 s1 => ⟨c.holds x v, rfl, k H1 s1⟩⟩
    | smp s => cases s <;> cases hk
    | _ => cases hk
/-- the six defs holds -/
structure HoldF (K : PySem.W.Frag) (fh : Kd → Addr) (fd : Kd → FuncData) : Prop where
  b : Fun K "holds" "Begins.holds" (sHoldsOf 21) (fh .begins) (fd .begins)
  l : Fun K "holds" "Length.holds" (sHoldsOf 22) (fh .length) (fd .length)
  v : Fun K "holds" "Value.holds" (sHoldsOf 23) (fh .value) (fd .value)
  a : Fun K "holds" "Both.holds" (sHoldsOf 24) (fh .both) (fd .both)
  o : Fun K "holds" "Either.holds" (sHoldsOf 25) (fh .either) (fd .either)
  n : Fun K "holds" "Opposite.holds" (sHoldsOf 26) (fh .opp) (fd .opp)
theorem allH {fds : Kd → FuncData} (F : HoldF K fh fds) (B : Bt mg) (T : ∀ d, ClsF K (ad d)) (M : ∀ d, Meth K (ad d) "holds" (fh d)) (n : Nat) : AllH P w K mg base ad fh n := by
  induction n with
  | zero =>
    intro d
    cases d with
    | begins => exact ok_hBegins F.b T 0
    | length => exact ok_hLength F.l B T 0
    | value => exact ok_hValue F.v T 0
    | both => exact ok_hBoth F.a T M 0 fun m e => by omega
    | either => exact ok_hEither F.o T M 0 fun m e => by omega
    | opp => exact ok_hOpp F.n T M 0 fun m e => by omega
  | succ n ih =>
    intro d
    cases d with
    | begins => exact ok_hBegins F.b T _
    | length => exact ok_hLength F.l B T _
    | value => exact ok_hValue F.v T _
    | both => exact ok_hBoth F.a T M _ fun m e => by cases e; exact ih
    | either => exact ok_hEither F.o T M _ fun m e => by cases e; exact ih
    | opp => exact ok_hOpp F.n T M _ fun m e => by cases e; exact ih
end
end N77

set_option Elab.async false
set_option linter.all false
set_option maxRecDepth 100000
set_option maxHeartbeats 4000000
namespace N77
open PySem PySem.Spec PyProof.Rows L2 M77
/-- what isinstance(x, Condition), len(x), x(..), x & y, x | y, ~x ask of the classes -/
structure OpF (K : PySem.W.Frag) (mg : Str → Option Value) (ad : Kd → Addr) (cC fl fc fa fo fi : Addr) : Prop where
  mg : mg "Condition" = some (.ref cC)
  isi : ∀ d, SlX.SIsi K (ad d)
  kit : ∀ d, PySem.W.kitOne K (.ref (ad d)) (.ref cC) = some true
  len : ∀ d, PySem.W.findIn K (.ref (ad d)) "__len__" = some (some (.ref fl))
  lenf : PySem.W.isFn K (.ref fl) = true
  call : ∀ d, StX.CallO K (ad d) fc
  and_ : ∀ d e, Own2 K "and" (ad d) (ad e) fa
  or_ : ∀ d e, Own2 K "or" (ad d) (ad e) fo
  inv : ∀ d, PySem.W.findIn K (.ref (ad d)) "__invert__" = some (some (.ref fi))
  invf : PySem.W.isFn K (.ref fi) = true
section
variable {P : Program} {w : World} {K : PySem.W.Frag} {mg : Str → Option Value} {base : Heap} {f : Addr} {fd : FuncData} {ad fh : Kd → Addr} {cC fl fc fa fo fi : Addr}
/-! ### __call__ -/
def spCall (ad : Kd → Addr) : Sp := fun vs H Q _ => ∃ (a : Addr) (c : Cond) (k : Tx) (v : Int), vs = [.ref a, .str (S k), .int v] ∧ CondAt ad H c a ∧ c.depth ≤ 6 ∧ OkKey k ∧ ∀ H', Same H H' → Q (.bl (c.holds k v)) H'
theorem scCall : FnScope ["self", "key", "value"] ["self", "key", "value"] (defScope sCCall) := ⟨rfl, rfl, rfl, by decide +kernel, rfl, by decide +kernel, by decide +kernel⟩
theorem scChkKey : FnScope ["value"] ["value"] (defScope sCheckKey) := ⟨rfl, rfl, rfl, by decide +kernel, rfl, by decide +kernel, by decide +kernel⟩
theorem ok_chkKey (F : Fun K "check_key" "check_key" sCheckKey f fd) (c1 : Cal P w K mg base "is_key" 1 spIsKey) : FnR P w K mg base CX0 2 f spChkKey := by
  refine fnR_of F scChkKey (fun _ _ _ _ _ _ us hl => match us, hl with | [_], _ => rfl) (fun vs H Q E h => ?_) (fun cdv A outer s H vs Q E hr h => ?_)
  · obtain ⟨_, rfl, _⟩ := h; rfl
  · obtain ⟨x, rfl, hx, k⟩ := h
    refine ⟨_, pss_one (ps_if (pt_not (pt_val (pe_cal c1 hr rfl (pa_cons (pv 0) pa_nil)))) pss_never pss_nil), ?_⟩
    exact ⟨_, rfl, x, rfl, hx, fun H' s1 => ⟨true, rfl, iteF (k H' s1)⟩⟩
theorem ok_call (F : Fun K "__call__" "Condition.__call__" sCCall f fd) (T : ∀ d, ClsF K (ad d)) (M : ∀ d, Meth K (ad d) "holds" (fh d)) (c1 : Cal P w K mg base "check_key" 2 spChkKey) (c2 : Cal P w K mg base "check_value" 2 spChkVal) (AH : AllH P w K mg base ad fh 6) :
    FnR P w K mg base CX0 8 f (spCall ad) := by
  refine fnR_of F scCall (fun _ _ _ _ _ _ us hl => match us, hl with | [_, _, _], _ => rfl) (fun vs H Q E h => ?_) (fun cdv A outer s H vs Q E hr h => ?_)
  · obtain ⟨_, _, _, _, rfl, _⟩ := h; rfl
  · obtain ⟨a, c, x, v, rfl, ha, hd, hx, k⟩ := h
    refine ⟨_, pss_cons (ps_expr (pe_cal c1 (hr.mono (by decide)) rfl (pa_cons (pv 1) pa_nil))) (pss_cons (ps_expr (pe_cal c2 (hr.mono (by decide)) rfl (pa_cons (pv 2) pa_nil)))
      (pss_one (ps_ret (pe_methD (pv 0) (pa_cons (pv 1) (pa_cons (pv 2) pa_nil)))))), ?_⟩
    refine ⟨_, rfl, x, rfl, hx, fun H1 s1 => ⟨_, rfl, v, rfl, ?_⟩⟩
    have ha1 := ha.same s1
    obtain ⟨dc, tc, lc, uc, h1, _⟩ := ha1.core
    exact ⟨_, rfl, a, _, fh (Cond.kd c), rfl, ⟨dc, _, h1, flds_no _ _ ne_hs ne_hm⟩, (T _).cl, M _, _, rfl, _, rfl, 7, _, AH _, hr, a, c, x, v, rfl, ha1, rfl, hd, hx.2.2, fun H2 s2 => k H2 (s1.trans s2)⟩
/-! ### __len__, check_simple, check_condition -/
def spLen (ad : Kd → Addr) : Sp := fun vs H Q _ => ∃ (a : Addr) (c : Cond), vs = [.ref a] ∧ CondAt ad H c a ∧ Q (.int c.simple.length) H
theorem scLen : FnScope ["self"] ["self"] (defScope sCLen) := ⟨rfl, rfl, rfl, by decide +kernel, rfl, by decide +kernel, by decide +kernel⟩
theorem ok_len (F : Fun K "__len__" "Condition.__len__" sCLen f fd) (B : Bt mg) (T : ∀ d, ClsF K (ad d)) : FnR P w K mg base CX0 1 f (spLen ad) := by
  refine fnR_of F scLen (fun _ _ _ _ _ _ us hl => match us, hl with | [_], _ => rfl) (fun vs H Q E h => ?_) (fun cdv A outer s H vs Q E hr h => ?_)
  · obtain ⟨_, _, rfl, _⟩ := h; rfl
  · obtain ⟨a, c, rfl, ha, k⟩ := h
    refine ⟨_, pss_one (ps_ret (pe_callB call_len rfl B.len PySem.boot_len (pa_cons (pe_fld (pv 0) rfl) pa_nil))), ?_⟩
    obtain ⟨dc, tc, lc, uc, h1, h2, h3⟩ := ha.core
    refine ⟨_, rfl, a, _, _, _, _, rfl, h1, (T _).cl, (T _).nsi, flds_simple _ _, _, uc.length, rfl, .inl ⟨uc, SqL.of h2, rfl⟩, ?_⟩
    rw [h3.len]
    exact k
def spSimple (ad : Kd → Addr) : Sp := fun vs H Q _ => ∃ (a b : Addr) (c d : Cond), vs = [.ref a, .ref b] ∧ CondAt ad H c a ∧ CondAt ad H d b ∧ c.simple.length + d.simple.length ≤ 30 ∧ Q .non H
theorem scSimple : FnScope ["one", "other"] ["one", "other"] (defScope sCheckSimple) := ⟨rfl, rfl, rfl, by decide +kernel, rfl, by decide +kernel, by decide +kernel⟩
theorem ok_simple (F : Fun K "check_simple" "check_simple" sCheckSimple f fd) (B : Bt mg) (Z : Ct mg) (O : OpF K mg ad cC fl fc fa fo fi) (L : FnR P w K mg base CX0 1 fl (spLen ad)) : FnR P w K mg base CX0 3 f (spSimple ad) := by
  refine fnR_of F scSimple (fun _ _ _ _ _ _ us hl => match us, hl with | [_, _], _ => rfl) (fun vs H Q E h => ?_) (fun cdv A outer s H vs Q E hr h => ?_)
  · obtain ⟨_, _, _, _, rfl, _⟩ := h; rfl
  · obtain ⟨a, b, c, d, rfl, ha, hb, hz, k⟩ := h
    obtain ⟨tm, hm⟩ := Z.most
    refine ⟨_, pss_one (ps_if (pt_cmpR op_gt (pe_op op_add (pe_callB call_lenO rfl B.len PySem.boot_len (pa_cons (pv 0) pa_nil)) (pe_callB call_lenO rfl B.len PySem.boot_len (pa_cons (pv 1) pa_nil))) (pe_glob (v := .int 30) rfl hm ⟨_, rfl⟩) (nomark _)) pss_never pss_nil), ?_⟩
    obtain ⟨dc, tc, lc, uc, h1, _⟩ := ha.core
    obtain ⟨dd, td, ld, ud, g1, _⟩ := hb.core
    refine ⟨_, rfl, a, _, fl, 1, _, rfl, ⟨_, _, h1⟩, O.len _, O.lenf, L, hr, a, c, rfl, ha, c.simple.length, rfl, by omega, ?_⟩
    refine ⟨_, rfl, b, _, fl, 1, _, rfl, ⟨_, _, g1⟩, O.len _, O.lenf, L, hr, b, d, rfl, hb, d.simple.length, rfl, by omega, ?_⟩
    exact ⟨_, _, rfl, rfl, _, _, rfl, rfl, false, congrArg V.bl (decide_eq_false (by omega)), iteF k⟩
def spChkCond (ad : Kd → Addr) : Sp := fun vs H Q _ => ∃ (a : Addr) (c : Cond), vs = [.ref a] ∧ CondAt ad H c a ∧ Q .non H
theorem scChkCond : FnScope ["value"] ["value"] (defScope sCheckCond) := ⟨rfl, rfl, rfl, by decide +kernel, rfl, by decide +kernel, by decide +kernel⟩
theorem ty_cond {H : Hp} {c : Cond} {a : Addr} (T : ∀ d, ClsF K (ad d)) (O : OpF K mg ad cC fl fc fa fo fi) (h : CondAt ad H c a) : TyX K H (.ref a) (.ref (ad (Cond.kd c))) := by
  obtain ⟨dc, tc, lc, uc, h1, _⟩ := h.core
  exact .base (.ins h1 (T (Cond.kd c)).cl (O.isi (Cond.kd c)).ca (O.isi (Cond.kd c)).cn (O.isi (Cond.kd c)).ct (O.isi (Cond.kd c)).cm)
theorem ok_chkCond (F : Fun K "check_condition" "check_condition" sCheckCond f fd) (B : Bt mg) (T : ∀ d, ClsF K (ad d)) (O : OpF K mg ad cC fl fc fa fo fi) : FnR P w K mg base CX0 1 f (spChkCond ad) := by
  refine fnR_of F scChkCond (fun _ _ _ _ _ _ us hl => match us, hl with | [_], _ => rfl) (fun vs H Q E h => ?_) (fun cdv A outer s H vs Q E hr h => ?_)
  · obtain ⟨_, _, rfl, _⟩ := h; rfl
  · obtain ⟨a, c, rfl, ha, k⟩ := h
    refine ⟨_, pss_one (ps_if (pt_not (pt_val (pe_callB call_isi rfl B.isinstance boot_isinstance (pa_cons (pv 0) (pa_cons (pe_glob (v := .ref cC) rfl O.mg rfl) pa_nil))))) pss_never pss_nil), ?_⟩
    exact ⟨_, rfl, .ref a, .ref cC, .ref (ad (Cond.kd c)), .ref cC, true, rfl, .own _, ty_cond T O ha, O.kit _, true, rfl, iteF k⟩
/-! ### __and__, __or__, __invert__ -/
def spAnd (ad : Kd → Addr) : Sp := fun vs H Q _ => ∃ (a b : Addr) (c d : Cond), vs = [.ref a, .ref b] ∧ CondAt ad H c a ∧ CondAt ad H d b ∧ c.simple.length + d.simple.length ≤ 30 ∧ ∀ r H', Same H H' → CondAt ad H' (.both c d) r → Q (.ref r) H'
def spOr (ad : Kd → Addr) : Sp := fun vs H Q _ => ∃ (a b : Addr) (c d : Cond), vs = [.ref a, .ref b] ∧ CondAt ad H c a ∧ CondAt ad H d b ∧ c.simple.length + d.simple.length ≤ 30 ∧ ∀ r H', Same H H' → CondAt ad H' (.either c d) r → Q (.ref r) H'
def spInv (ad : Kd → Addr) : Sp := fun vs H Q _ => ∃ (a : Addr) (c : Cond), vs = [.ref a] ∧ CondAt ad H c a ∧ ∀ r H', Same H H' → CondAt ad H' (.opp c) r → Q (.ref r) H'
/-- a making: the heap ahead of __init__, and what stays -/
theorem mk_same {H H' : Hp} {x dx C : Addr} (nx : H x = none) (nd : H dx = none) (k : Keep x (upd (upd H dx (.own x)) x (.ins C dx [])) H') : Same H H' := fun b o e =>
  k b o (by rw [upd_ne (ne_of_none e nx), upd_ne (ne_of_none e nd)]; exact e) (ne_of_none e nx)
theorem pre_same {H : Hp} {x dx C : Addr} (nx : H x = none) (nd : H dx = none) : Same H (upd (upd H dx (.own x)) x (.ins C dx [])) := fun b o e => by
  rw [upd_ne (ne_of_none e nx), upd_ne (ne_of_none e nd)]; exact e
theorem scAnd : FnScope ["self", "other"] ["self", "other"] (defScope sCAnd) := ⟨rfl, rfl, rfl, by decide +kernel, rfl, by decide +kernel, by decide +kernel⟩
theorem ok_and (F : Fun K "__and__" "Condition.__and__" sCAnd f fd) (B : Bt mg) (T : ∀ d, ClsF K (ad d)) (O : OpF K mg ad cC fl fc fa fo fi) (c1 : Cal P w K mg base "check_simple" 3 (spSimple ad)) (c2 : CalM P w K mg base "Both" (ad .both) 2 (spBoth ad)) : FnR P w K mg base CX0 4 f (spAnd ad) := by
  refine fnR_of F scAnd (fun _ _ _ _ _ _ us hl => match us, hl with | [_, _], _ => rfl) (fun vs H Q E h => ?_) (fun cdv A outer s H vs Q E hr h => ?_)
  · obtain ⟨_, _, _, _, rfl, _⟩ := h; rfl
  · obtain ⟨a, b, c, d, rfl, ha, hb, hz, k⟩ := h
    refine ⟨_, pss_cons (ps_if (pt_not (pt_val (pe_callB call_isi rfl B.isinstance boot_isinstance (pa_cons (pv 1) (pa_cons (pe_glob (v := .ref cC) rfl O.mg rfl) pa_nil))))) pss_never pss_nil)
      (pss_cons (ps_expr (pe_cal c1 hr rfl (pa_cons (pv 0) (pa_cons (pv 1) pa_nil)))) (pss_one (ps_ret (pe_mk c2 hr rfl (pa_cons (pv 0) (pa_cons (pv 1) pa_nil)))))), ?_⟩
    refine ⟨_, rfl, .ref b, .ref cC, .ref (ad (Cond.kd d)), .ref cC, true, rfl, .own _, ty_cond T O hb, O.kit _, true, rfl, iteF ?_⟩
    refine ⟨_, rfl, _, rfl, a, b, c, d, rfl, ha, hb, hz, _, rfl, _, rfl, fun x dx nx nd ne => ?_⟩
    have ps := pre_same (C := ad .both) nx nd
    exact ⟨x, dx, a, b, c, d, rfl, upd_same, ha.same ps, hb.same ps, by omega, fun H' kp hc => ⟨rfl, k x H' (mk_same nx nd kp) hc⟩⟩
theorem scOr : FnScope ["self", "other"] ["self", "other"] (defScope sCOr) := ⟨rfl, rfl, rfl, by decide +kernel, rfl, by decide +kernel, by decide +kernel⟩
theorem ok_or (F : Fun K "__or__" "Condition.__or__" sCOr f fd) (B : Bt mg) (T : ∀ d, ClsF K (ad d)) (O : OpF K mg ad cC fl fc fa fo fi) (c1 : Cal P w K mg base "check_simple" 3 (spSimple ad)) (c2 : CalM P w K mg base "Either" (ad .either) 2 (spEither ad)) : FnR P w K mg base CX0 4 f (spOr ad) := by
  refine fnR_of F scOr (fun _ _ _ _ _ _ us hl => match us, hl with | [_, _], _ => rfl) (fun vs H Q E h => ?_) (fun cdv A outer s H vs Q E hr h => ?_)
  · obtain ⟨_, _, _, _, rfl, _⟩ := h; rfl
  · obtain ⟨a, b, c, d, rfl, ha, hb, hz, k⟩ := h
    refine ⟨_, pss_cons (ps_if (pt_not (pt_val (pe_callB call_isi rfl B.isinstance boot_isinstance (pa_cons (pv 1) (pa_cons (pe_glob (v := .ref cC) rfl O.mg rfl) pa_nil))))) pss_never pss_nil)
      (pss_cons (ps_expr (pe_cal c1 hr rfl (pa_cons (pv 0) (pa_cons (pv 1) pa_nil)))) (pss_one (ps_ret (pe_mk c2 hr rfl (pa_cons (pv 0) (pa_cons (pv 1) pa_nil)))))), ?_⟩
    refine ⟨_, rfl, .ref b, .ref cC, .ref (ad (Cond.kd d)), .ref cC, true, rfl, .own _, ty_cond T O hb, O.kit _, true, rfl, iteF ?_⟩
    refine ⟨_, rfl, _, rfl, a, b, c, d, rfl, ha, hb, hz, _, rfl, _, rfl, fun x dx nx nd ne => ?_⟩
    have ps := pre_same (C := ad .either) nx nd
    exact ⟨x, dx, a, b, c, d, rfl, upd_same, ha.same ps, hb.same ps, by omega, fun H' kp hc => ⟨rfl, k x H' (mk_same nx nd kp) hc⟩⟩
theorem scInv : FnScope ["self"] ["self"] (defScope sCInv) := ⟨rfl, rfl, rfl, by decide +kernel, rfl, by decide +kernel, by decide +kernel⟩
theorem ok_inv (F : Fun K "__invert__" "Condition.__invert__" sCInv f fd) (c2 : CalM P w K mg base "Opposite" (ad .opp) 2 (spOpp ad)) : FnR P w K mg base CX0 4 f (spInv ad) := by
  refine fnR_of F scInv (fun _ _ _ _ _ _ us hl => match us, hl with | [_], _ => rfl) (fun vs H Q E h => ?_) (fun cdv A outer s H vs Q E hr h => ?_)
  · obtain ⟨_, _, rfl, _⟩ := h; rfl
  · obtain ⟨a, c, rfl, ha, k⟩ := h
    refine ⟨_, pss_one (ps_ret (pe_mk c2 hr rfl (pa_cons (pv 0) pa_nil))), ?_⟩
    refine ⟨_, rfl, fun x dx nx nd ne => ?_⟩
    have ps := pre_same (C := ad .opp) nx nd
    exact ⟨x, dx, a, c, rfl, upd_same, ha.same ps, fun H' kp hc => ⟨rfl, k x H' (mk_same nx nd kp) hc⟩⟩
end
end N77

set_option Elab.async false
set_option linter.all false
set_option maxRecDepth 100000
set_option maxHeartbeats 4000000
namespace N77
open PySem PySem.Spec PyProof.Rows L2 M77
/-! ### dicts that serve as sets -/
section
variable {α : Type} [DecidableEq α] {f : α → Key}
def tg (f : α → Key) (ks : List α) : List (Key × V) := ks.map fun k => (f k, V.bl true)
def addG (ks : List α) (k : α) : List α := if k ∈ ks then ks else ks ++ [k]
theorem mem_addG {ks : List α} {k x : α} : x ∈ addG ks k ↔ x ∈ ks ∨ x = k := by
  unfold addG
  by_cases h : k ∈ ks
  · rw [if_pos h]
    exact ⟨.inl, fun z => z.elim id fun e => e ▸ h⟩
  · rw [if_neg h]; simp
theorem len_addG (ks : List α) (k : α) : (addG ks k).length ≤ ks.length + 1 := by
  unfold addG
  by_cases h : k ∈ ks
  · rw [if_pos h]; omega
  · rw [if_neg h]; simp
theorem put_tg (hf : ∀ a b, f a = f b → a = b) (ks : List α) (k : α) : putK (tg f ks) (f k) (.bl true) = tg f (addG ks k) := by
  have hany : ((tg f ks).any fun kv => decide (kv.1 = f k)) = decide (k ∈ ks) := by
    rw [Bool.eq_iff_iff, List.any_eq_true, decide_eq_true_eq]
    unfold tg
    constructor
    · rintro ⟨kv, hkv, e⟩
      obtain ⟨a, ha, rfl⟩ := List.mem_map.mp hkv
      exact hf a k (of_decide_eq_true e) ▸ ha
    · intro h
      exact ⟨(f k, .bl true), List.mem_map.mpr ⟨k, h, rfl⟩, by simp⟩
  unfold putK addG
  rw [hany]
  by_cases h : k ∈ ks
  · rw [if_pos (decide_eq_true h), if_pos h]
    unfold tg
    rw [List.map_map]
    refine List.map_congr_left fun a _ => ?_
    show (if f a = f k then (f a, V.bl true) else (f a, V.bl true)) = _
    split <;> rfl
  · rw [if_neg (by rw [decide_eq_false h]; exact Bool.false_ne_true), if_neg h]
    unfold tg
    rw [List.map_append]
    rfl
theorem merge_tg (hf : ∀ a b, f a = f b → a = b) : ∀ (ms ks : List α), mergeK (tg f ks) (tg f ms) = tg f (ms.foldl addG ks)
  | [], ks => rfl
  | m :: ms, ks => by
    show mergeK (putK (tg f ks) (f m) (.bl true)) (tg f ms) = _
    rw [put_tg hf, merge_tg hf ms]
    rfl
theorem mem_fold : ∀ {ms ks : List α} {x : α}, x ∈ ms.foldl addG ks ↔ x ∈ ks ∨ x ∈ ms
  | [], ks, x => by simp
  | m :: ms, ks, x => by
    rw [List.foldl_cons, mem_fold, mem_addG, List.mem_cons, or_assoc]
theorem len_fold : ∀ (ms ks : List α), (ms.foldl addG ks).length ≤ ks.length + ms.length
  | [], ks => by simp
  | m :: ms, ks => by
    have h1 := len_fold ms (addG ks m)
    have h2 := len_addG ks m
    rw [List.foldl_cons, List.length_cons]; omega
theorem valV_tg (hf : ∀ a b, f a = f b → a = b) (ks : List α) (k : α) : (valV (tg f ks) (f k)).isSome = decide (k ∈ ks) := by
  rw [← valV_any]
  rw [Bool.eq_iff_iff, List.any_eq_true, decide_eq_true_eq]
  unfold tg
  constructor
  · rintro ⟨kv, hkv, e⟩
    obtain ⟨a, ha, rfl⟩ := List.mem_map.mp hkv
    exact hf a k (of_decide_eq_true e) ▸ ha
  · intro h
    exact ⟨(f k, .bl true), List.mem_map.mpr ⟨k, h, rfl⟩, by simp⟩
theorem valV_yes (hf : ∀ a b, f a = f b → a = b) {ks : List α} {k : α} (h : k ∈ ks) : (valV (tg f ks) (f k)).isSome = true := by
  rw [valV_tg hf]; exact decide_eq_true h
theorem valV_no (hf : ∀ a b, f a = f b → a = b) {ks : List α} {k : α} (h : k ∉ ks) : (valV (tg f ks) (f k)).isSome = false := by
  rw [valV_tg hf]; exact decide_eq_false h
theorem len_tg (ks : List α) : (tg f ks).length = ks.length := List.length_map ..
end
def kI (i : Int) : Key := Sum.inl i
def kT (t : Tx) : Key := Sum.inr (S t)
theorem kI_inj : ∀ a b, kI a = kI b → a = b := fun _ _ e => Sum.inl.inj e
theorem kT_inj : ∀ a b, kT a = kT b → a = b := fun _ _ e => S_inj (Sum.inr.inj e)
theorem small64 {n : Nat} (h : n ≤ 500) : n ≤ sizeLine := Nat.le_of_lt (small1000 (by omega))
theorem bv : decide (V.str ("begins" : Str) = V.str ("value" : Str)) = false := by decide +kernel
theorem lv : decide (V.str ("length" : Str) = V.str ("value" : Str)) = false := by decide +kernel
theorem bl' : decide (V.str ("begins" : Str) = V.str ("length" : Str)) = false := by decide +kernel
theorem vl' : decide (V.str ("value" : Str) = V.str ("length" : Str)) = false := by decide +kernel
theorem lb' : decide (V.str ("length" : Str) = V.str ("begins" : Str)) = false := by decide +kernel
theorem vb' : decide (V.str ("value" : Str) = V.str ("begins" : Str)) = false := by decide +kernel
theorem self' (x : Str) : decide (V.str x = V.str x) = true := decide_eq_true rfl
/-- the i-th of the simple ones -/
theorem SmpsAt.get {H : Hp} : ∀ {us : List V} {ss : List Smp} {i : Nat} {x : V}, SmpsAt H us ss → us[i]? = some x → ∃ s u, ss[i]? = some s ∧ x = V.ref u ∧ H u = some (.tup (Smp.vals s))
  | _, _, _, _, .nil, e => by simp at e
  | _, _, 0, x, .cons r _, e => by
    simp at e; subst e
    obtain ⟨u, h1, h2⟩ := r
    exact ⟨_, u, rfl, h1, h2⟩
  | _, _, i + 1, x, .cons _ t, e => by
    obtain ⟨s, u, h1, h2, h3⟩ := SmpsAt.get (i := i) t (by simpa using e)
    exact ⟨s, u, by simpa using h1, h2, h3⟩
/-! ### some_values -/
def covV (s : Smp) (ks : List Int) : Prop := match s with
  | .val l m => (∀ x, l = some x → x ∈ ks ∧ x - 1 ∈ ks) ∧ (∀ x, m = some x → x ∈ ks ∧ x + 1 ∈ ks)
  | _ => True
theorem covV.mono {s : Smp} {ks ks' : List Int} (h : covV s ks) (k : ∀ x ∈ ks, x ∈ ks') : covV s ks' := by
  cases s with
  | val l m => exact ⟨fun x e => ⟨k _ (h.1 x e).1, k _ (h.1 x e).2⟩, fun x e => ⟨k _ (h.2 x e).1, k _ (h.2 x e).2⟩⟩
  | _ => trivial
section
variable {P : Program} {w : World} {K : PySem.W.Frag} {mg : Str → Option Value} {base : Heap} {f : Addr} {fd : FuncData} {ad fh : Kd → Addr}
def rNotN : R2 := fun x y H Q => y = V.non ∧ Q (V.bl !decide (x = V.non)) H
/-- if parts[j] is not None: marks.update({parts[j]: True, parts[j] +- 1: True}) -/
def tUp (K : PySem.W.Frag) (j : Int) (d : Int → Int → Int) : TS := tIfS (tTest (tOp rNotN (tOp (rIxT K) (tVar 2) (tC (.int j))) (tC .non)))
  (tDrop (tBM K "dict" rUpd (tVar 1) (tCons (tDisp [(tOp (rIxT K) (tVar 2) (tC (.int j)), tC (.bl true)), (tOp (rI0 fun a b => .int (d a b)) (tOp (rIxT K) (tVar 2) (tC (.int j))) (tC (.int 1)), tC (.bl true))]) tNil))) tNext
theorem up_ok {D : Ends} {σ : L2.St} {H : Hp} {m u : Addr} {o : Option Int} {ks : List Int} {j : Nat} {vals : List V} {d : Int → Int → Int} (h1 : σ[1]? = some (some (.ref m))) (h2 : σ[2]? = some (some (.ref u))) (hu : H u = some (.tup vals)) (hj : vals[j]? = some (optV o)) (hm : H m = some (.dK (tg kI ks))) (hz : ks.length ≤ 400)
    (k : ∀ H2 ks2, Keep m H H2 → H2 m = some (.dK (tg kI ks2)) → (∀ x ∈ ks, x ∈ ks2) → ks2.length ≤ ks.length + 2 → (∀ x, o = some x → x ∈ ks2 ∧ d x 1 ∈ ks2) → D.nx σ H2) : tUp K j d D σ H := by
  cases o with
  | none => exact ⟨_, h2, u, vals, j, _, rfl, rfl, SqT.of hu, atI_nat hj, rfl, false, rfl, iteF (k H ks Keep.refl hm (fun _ z => z) (by omega) fun x e => by cases e)⟩
  | some x =>
    refine ⟨_, h2, u, vals, j, _, rfl, rfl, SqT.of hu, atI_nat hj, rfl, true, rfl, iteT ?_⟩
    refine ⟨_, h1, .inr (.inr (.inl ⟨rfl, .inl ⟨_, hm⟩⟩)), fun p hp => ?_⟩
    have s1 : Same H (upd H p (.dK [])) := same_upd hp
    have npm : p ≠ m := (ne_of_none hm hp).symm
    refine ⟨_, h2, u, vals, j, _, rfl, rfl, SqT.of (s1 _ _ hu), atI_nat hj, _, h2, u, vals, j, _, rfl, rfl, SqT.of (s1 _ _ hu), atI_nat hj, x, 1, rfl, rfl, upd_same, [(kI x, .bl true), (kI (d x 1), .bl true)], rfl, (by show 2 ≤ 15; decide), ?_⟩
    have e0 : mergeK [] [(kI x, V.bl true), (kI (d x 1), .bl true)] = tg kI ([x, d x 1].foldl addG []) := merge_tg (f := kI) kI_inj [x, d x 1] []
    rw [e0, upd_upd]
    refine ⟨m, p, tg kI ks, tg kI ([x, d x 1].foldl addG []), rfl, rfl, ?_, .inl upd_same, npm, ?_, ?_⟩
    · rw [upd_ne npm.symm]; exact hm
    · have := len_fold [x, d x 1] ([] : List Int)
      simp only [List.length_cons, List.length_nil] at this
      rw [len_tg, len_tg]
      exact small64 (by omega)
    · rw [merge_tg (f := kI) kI_inj]
      refine k _ _ (fun b o' e n => by rw [upd_ne n, upd_ne (ne_of_none e hp)]; exact e) upd_same (fun y hy => mem_fold.mpr (.inl hy)) ?_ fun y e => ?_
      · have a1 := len_fold ([x, d x 1].foldl addG ([] : List Int)) ks
        have a2 := len_fold [x, d x 1] ([] : List Int)
        simp only [List.length_cons, List.length_nil] at a2
        omega
      · cases e
        exact ⟨mem_fold.mpr (.inr (mem_fold.mpr (.inr (by simp)))), mem_fold.mpr (.inr (mem_fold.mpr (.inr (by simp))))⟩
def spVals : Sp := fun vs H Q _ => ∃ (l : Addr) (us : List V) (ss : List Smp), vs = [.ref l] ∧ H l = some (.lst us) ∧ SmpsAt H us ss ∧ ss.length ≤ 15 ∧
  ∀ H' p ys, Same H H' → H' p = some (.lst (ys.map V.int)) → ValsOk ss ys → Q (.ref p) H'
theorem scVals : FnScope ["simple", "marks", "parts"] ["simple"] (defScope sSomeValues) := ⟨rfl, rfl, rfl, by decide +kernel, rfl, by decide +kernel, by decide +kernel⟩
theorem ok_vals (F : Fun K "some_values" "some_values" sSomeValues f fd) (B : Bt mg) : FnR P w K mg base CX0 1 f spVals := by
  refine fnR_of F scVals (fun _ _ _ _ _ _ us hl => match us, hl with | [_], _ => rfl) (fun vs H Q E h => ?_) (fun cdv A outer s H vs Q E hr h => ?_)
  · obtain ⟨_, _, _, rfl, _⟩ := h; rfl
  · obtain ⟨l, us, ss, rfl, hl, hs, hz, k⟩ := h
    refine ⟨_, pss_cons (ps_set (i := 1) scVals.nd rfl (.inl rfl) (pe_disp (pps_cons pe_int pe_bl pps_nil) (by rfl) (by rfl) (fun z => by cases z) (by decide)))
      (pss_cons (ps_for PassesOwn.never rfl (pi_list (pv 0)) (pg_name (i := 2) scVals.nd rfl (Or.inl rfl))
        (pss_one (ps_if (pt_cmpR op_eq (pe_ix ix_tup (pv 2) pe_int (fun _ _ => rfl)) pe_str (nomark _))
          (pss_cons (ps_if (pt_cmpR op_notN (pe_ix ix_tup (pv 2) pe_int (fun _ _ => rfl)) pe_non (nomark _))
              (pss_one (ps_expr (pe_bm PySem.F.plainAttrs_dict PySem.F.slot_dict_update PySem.F.type_dict_update mt_update (pv 1) (pa_cons (pe_disp (pps_cons (pe_ix ix_tup (pv 2) pe_int (fun _ _ => rfl)) pe_bl (pps_cons (pe_op op_sub (pe_ix ix_tup (pv 2) pe_int (fun _ _ => rfl)) pe_int) pe_bl pps_nil)) (by rfl) (by rfl) (fun z => by cases z) (by decide)) pa_nil)))) pss_nil)
            (pss_one (ps_if (pt_cmpR op_notN (pe_ix ix_tup (pv 2) pe_int (fun _ _ => rfl)) pe_non (nomark _))
              (pss_one (ps_expr (pe_bm PySem.F.plainAttrs_dict PySem.F.slot_dict_update PySem.F.type_dict_update mt_update (pv 1) (pa_cons (pe_disp (pps_cons (pe_ix ix_tup (pv 2) pe_int (fun _ _ => rfl)) pe_bl (pps_cons (pe_op op_add (pe_ix ix_tup (pv 2) pe_int (fun _ _ => rfl)) pe_int) pe_bl pps_nil)) (by rfl) (by rfl) (fun z => by cases z) (by decide)) pa_nil)))) pss_nil))) pss_nil)))
      (pss_one (ps_ret (pe_callB (call_sortedDI rfl) rfl B.sorted boot_sorted (pa_cons (pv 1) pa_nil))))), ?_⟩
    refine fun m hm => ⟨upd_same, [(kI 0, .bl true)], rfl, by decide, ?_⟩
    have e0 : mergeK [] [(kI 0, V.bl true)] = tg kI [0] := rfl
    rw [e0, upd_upd]
    have sm : Same H (upd H m (.dK (tg kI [0]))) := same_upd hm
    have nml : ∀ {b o}, H b = some o → b ≠ m := fun e => ne_of_none e hm
    refine ⟨_, rfl, l, rfl, ⟨us, SqL.of (sm _ _ hl)⟩, ?_⟩
    refine for_list (xs := us) (fun i σ H' => ∃ ks v, σ = [some (.ref l), some (.ref m), v] ∧ Same H H' ∧ H' m = some (.dK (tg kI ks)) ∧ 0 ∈ ks ∧ ks.length ≤ 1 + 4 * i ∧ ∀ j s, j < i → ss[j]? = some s → covV s ks)
      ⟨[0], none, rfl, sm, upd_same, by simp, by simp, fun j s hj _ => by omega⟩ (fun i σ H' _ h => ?_) (fun i x σ H' hx h => ?_) (fun σ H' h => ?_)
    · obtain ⟨ks, v, rfl, s1, _⟩ := h
      exact SqL.of (s1 _ _ hl)
    · obtain ⟨ks, v, rfl, s1, h1, h2, h3, h4⟩ := h
      obtain ⟨sm0, u, hsi, rfl, hu0⟩ := hs.get hx
      have hu : H' u = some (.tup (Smp.vals sm0)) := s1 _ _ hu0
      have hi : i < us.length := (List.getElem?_eq_some_iff.mp hx).1
      have hiz : i < 15 := by have := hs.len; omega
      cases sm0 with
      | beg t =>
        refine ⟨_, rfl, u, _, 0, _, rfl, rfl, SqT.of hu, atI_nat (j := 0) rfl, rfl, false, congrArg V.bl bv, iteF ?_⟩
        refine ⟨ks, _, rfl, s1, h1, h2, by omega, fun j s' hj e => ?_⟩
        by_cases z : j = i
        · subst z; rw [hsi] at e; cases e; trivial
        · exact h4 j s' (by omega) e
      | len a b =>
        refine ⟨_, rfl, u, _, 0, _, rfl, rfl, SqT.of hu, atI_nat (j := 0) rfl, rfl, false, congrArg V.bl lv, iteF ?_⟩
        refine ⟨ks, _, rfl, s1, h1, h2, by omega, fun j s' hj e => ?_⟩
        by_cases z : j = i
        · subst z; rw [hsi] at e; cases e; trivial
        · exact h4 j s' (by omega) e
      | val a b =>
        refine ⟨_, rfl, u, _, 0, _, rfl, rfl, SqT.of hu, atI_nat (j := 0) rfl, rfl, true, congrArg V.bl (self' _), iteT ?_⟩
        refine up_ok (j := 1) (o := a) (u := u) (m := m) (d := fun p q => p - q) rfl rfl hu rfl h1 (by omega) fun H2 ks2 k2 g1 g2 g3 g4 => ?_
        have s2 : Same H H2 := fun b' o' e => k2 _ _ (s1 _ _ e) (nml e)
        refine up_ok (j := 2) (o := b) (u := u) (m := m) (d := fun p q => p + q) rfl rfl (s2 _ _ hu0) rfl g1 (by omega) fun H3 ks3 k3 f1 f2 f3 f4 => ?_
        refine ⟨ks3, _, rfl, fun b' o' e => k3 _ _ (s2 _ _ e) (nml e), f1, f2 _ (g2 _ h2), by omega, fun j s' hj e => ?_⟩
        by_cases z : j = i
        · subst z; rw [hsi] at e; cases e
          exact ⟨fun x e => ⟨f2 _ (g4 x e).1, f2 _ (g4 x e).2⟩, f4⟩
        · exact (h4 j s' (by omega) e).mono fun x hx => f2 _ (g2 _ hx)
    · obtain ⟨ks, v, rfl, s1, h1, h2, h3, h4⟩ := h
      have hlen := hs.len
      refine ⟨_, rfl, m, tg kI ks, ks, rfl, .inl h1, ?_, by omega, fun ys p perm srt hp => ?_⟩
      · unfold tg; rw [List.map_map]; rfl
      · have mem : ∀ x, x ∈ ks → x ∈ ys := fun x h => perm.mem_iff.mpr h
        have all : ∀ s, s ∈ ss → covV s ys := fun s hss => by
          obtain ⟨j, hj⟩ := List.getElem?_of_mem hss
          exact (h4 j s (by have := (List.getElem?_eq_some_iff.mp hj).1; omega) hj).mono mem
        refine k _ p ys (s1.trans (same_upd hp)) upd_same (vals_ok (fun e => ?_) (fun x m' hx => ?_) fun l' x hx => ?_)
        · rw [e] at mem; cases mem 0 h2
        · exact (all _ hx).1 x rfl
        · exact (all _ hx).2 x rfl
end
end N77

set_option Elab.async false
set_option linter.all false
set_option maxRecDepth 100000
set_option maxHeartbeats 4000000
namespace N77
open PySem PySem.Spec PyProof.Rows L2 M77
section
variable {P : Program} {w : World} {K : PySem.W.Frag} {mg : Str → Option Value} {base : Heap} {f : Addr} {fd : FuncData} {ad fh : Kd → Addr}
/-! ### extended -/
def spExt (n : Nat) : Sp := fun vs H Q _ => ∃ (t : Tx) (L : Nat) (d : Addr) (o : Obj) (ts : List Tx), vs = [.str (S t), .int L, .ref d] ∧ H d = some (.frz o (.dK (tg kT ts))) ∧ OkTx t ∧ t.length ≤ L ∧ L ≤ 20 ∧ L - t.length ≤ n ∧ ts.length ≤ 100 ∧
  (∀ H', Same H H' → (∀ g, ¬ ExtOk ts L t g) → Q .non H') ∧ (∀ H' g, Same H H' → ExtOk ts L t g → Q (.str (S g)) H')
theorem scExt : FnScope ["text", "length", "texts", "sign", "longer", "found", "other"] ["text", "length", "texts"] (defScope sExtended) := ⟨rfl, rfl, rfl, by decide +kernel, rfl, by decide +kernel, by decide +kernel⟩
theorem chars_len : (S chars).cps.size = 36 := by decide
theorem ext_call (F : Fun K "extended" "extended" sExtended f fd) (B : Bt mg) (Z : Ct mg) (hf : mg "extended" = some (.ref f)) (n : Nat) : FnR P w K mg base CX0 (n + 1) f (spExt n) := by
  obtain ⟨tc, hc⟩ := Z.chars
  induction n with
  | zero =>
    refine fnR_of F scExt (fun _ _ _ _ _ _ us hl => match us, hl with | [_, _, _], _ => rfl) (fun vs H Q E h => ?_) (fun cdv A outer s H vs Q E hr h => ?_)
    · obtain ⟨_, _, _, _, _, rfl, _⟩ := h; rfl
    · obtain ⟨t, L, d, o, ts, rfl, hd, ht, h1, h2, h3, h4, kn, ks⟩ := h
      refine ⟨_, pss_cons (ps_if (pt_cmpR op_eq (pe_callB call_len_str rfl B.len PySem.boot_len (pa_cons (pv 0) pa_nil)) (pv 1) (nomark _)) (pss_one (ps_ret (pv 0))) pss_nil) pss_never, ?_⟩
      refine ⟨_, rfl, S t, rfl, len20 (by omega), _, rfl, rfl, true, congrArg V.bl (decide_eq_true (by rw [S_len]; congr 1; omega)), iteT ?_⟩
      exact ⟨_, rfl, ks H t (Same.refl _) (ext_base ht (by omega))⟩
  | succ n ih =>
    have cs : Cal P w K mg base "extended" (n + 1) (spExt n) := ⟨f, hf, F.kp, ih⟩
    refine fnR_of F scExt (fun _ _ _ _ _ _ us hl => match us, hl with | [_, _, _], _ => rfl) (fun vs H Q E h => ?_) (fun cdv A outer s H vs Q E hr h => ?_)
    · obtain ⟨_, _, _, _, _, rfl, _⟩ := h; rfl
    · obtain ⟨t, L, d, o, ts, rfl, hd, ht, h1, h2, h3, h4, kn, ks⟩ := h
      have hu := hu_of hr
      refine ⟨_, pss_cons (ps_if (pt_cmpR op_eq (pe_callB call_len_str rfl B.len PySem.boot_len (pa_cons (pv 0) pa_nil)) (pv 1) (nomark _)) (pss_one (ps_ret (pv 0))) pss_nil)
        (pss_cons (ps_for PassesOwn.never rfl (pi_str (pe_glob (v := .str (S chars)) rfl hc ⟨_, rfl⟩)) (pg_name (i := 3) scExt.nd rfl (Or.inl rfl))
          (pss_cons (ps_set (i := 4) scExt.nd rfl (.inr rfl) (pe_op op_add_str (pv 0) (pv 3)))
          (pss_one (ps_if (pt_cmp (pc_dnotin hu (pv 4) (pv 2)))
            (pss_cons (ps_if (pt_not (pt_val (pe_callB (cr_any rfl) rfl B.any boot_any (pa_cons (pe_lc (own := [("other", 6)]) (g := gName 6) rfl scExt.nd (pi_keys (pv 2)) (blkOk_by (own := [("other", 6)]) (N := ["text", "length", "texts", "sign", "longer", "found", "other"]) (sc := defScope sExtended) (by decide +kernel))
                (fun _ _ _ _ _ => pg_name (i := 6) scExt.nd rfl (Or.inl rfl)) (fun _ _ _ _ _ => pts_nil)
                (fun _ _ _ _ _ => pe_m1 PySem.F.slot_str_startswith PySem.F.type_str_startswith mt_startswith (pv 6) (pv 4))) pa_nil))))
              (pss_one (ps_ret (pe_op op_add_str (pv 4) (pe_op op_mul_sign (pe_ix ix_str (pe_glob (v := .str (S chars)) rfl hc ⟨_, rfl⟩) pe_int (fun _ _ => rfl)) (pe_op op_sub (pv 1) (pe_callB call_len_str rfl B.len PySem.boot_len (pa_cons (pv 4) pa_nil))))))) pss_nil)
            (pss_cons (ps_set (i := 5) scExt.nd rfl (.inl rfl) (pe_cal cs hr rfl (pa_cons (pv 4) (pa_cons (pv 1) (pa_cons (pv 2) pa_nil)))))
            (pss_one (ps_if (pt_cmpR op_notN (pv 5) pe_non (nomark _)) (pss_one (ps_ret (pv 5))) pss_nil)))) pss_nil))))
        (pss_one (ps_ret pe_non))), ?_⟩
      refine ⟨_, rfl, S t, rfl, len20 (by omega), _, rfl, rfl, decide (t.length = L), ?_, ite2 (fun z => ?_) fun z => ?_⟩
      · exact congrArg V.bl (decide_eq_decide.mpr ⟨fun e => by have := V.int.inj e; rw [S_len] at this; omega, fun e => by rw [S_len, e]⟩)
      · exact ⟨_, rfl, ks H t (Same.refl _) (ext_base ht (of_decide_eq_true z))⟩
      · have z' : t.length < L := by have := of_decide_eq_false (by simpa using z : decide (t.length = L) = false); omega
        refine ⟨S chars, rfl, ?_⟩
        refine for_it walk_str (fun i σ H' => ∃ v3 v4 v5 v6, σ = [some (V.str (S t)), some (V.int L), some (V.ref d), v3, v4, v5, v6] ∧ Same H H' ∧ ∀ c ∈ chars.take i, t ++ [c] ∈ ts ∨ ∀ g, ¬ ExtOk ts L (t ++ [c]) g)
          ⟨none, none, none, none, rfl, Same.refl _, by simp⟩ (fun _ _ _ _ _ => trivial) (fun i x σ H1 H' hi p hy => ?_) (fun σ H1 p => ?_)
        · obtain ⟨rfl, c, hci, rfl⟩ := hy
          obtain ⟨v3, v4, v5, v6, rfl, s1, old⟩ := p
          have hci' : chars[i]? = some c := by simpa [S] using hci
          have hcc : c ∈ chars := List.mem_of_getElem? hci'
          have hd1 := s1 _ _ hd
          have take1 : chars.take (i + 1) = chars.take i ++ [c] := by rw [List.take_add_one, hci']; rfl
          have tl1 : (t ++ [c]).length = t.length + 1 := by simp
          have step : (t ++ [c] ∈ ts ∨ ∀ g, ¬ ExtOk ts L (t ++ [c]) g) → ∀ x ∈ chars.take (i + 1), t ++ [x] ∈ ts ∨ ∀ g, ¬ ExtOk ts L (t ++ [x]) g := fun h x hx => by
            rw [take1] at hx
            rcases List.mem_append.mp hx with hx | hx
            · exact old x hx
            · rw [List.mem_singleton.mp hx]; exact h
          refine ⟨_, rfl, _, rfl, S t, S [c], rfl, rfl, ?_, ?_⟩
          · rw [S_len, S_len]; exact small64 (by simp; omega)
          rw [S_app]
          by_cases hin : t ++ [c] ∈ ts
          · have e : (valV (tg kT ts) (kT (t ++ [c]))).isSome = true := valV_yes kT_inj hin
            exact ⟨_, rfl, _, rfl, d, _, rfl, .inl ⟨tg kT ts, kT (t ++ [c]), .inr ⟨o, hd1⟩, rfl, rfl⟩, false, congrArg (fun b => V.bl (!b)) e, iteF ⟨_, _, _, _, rfl, s1, step (.inl hin)⟩⟩
          have e : (valV (tg kT ts) (kT (t ++ [c]))).isSome = false := valV_no kT_inj hin
          refine ⟨_, rfl, _, rfl, d, _, rfl, .inl ⟨tg kT ts, kT (t ++ [c]), .inr ⟨o, hd1⟩, rfl, rfl⟩, true, congrArg (fun b => V.bl (!b)) e, iteT ?_⟩
          refine ⟨_, rfl, d, o, rfl, .inl ⟨tg kT ts, hd1, fun D hD => ?_⟩⟩
          refine lc_it walk_keys (fun j H2 => Same H' H2 ∧ H2 D = some (.lst (((ts.take j).map fun u => (t ++ [c]).isPrefixOf u).map V.bl))) ⟨same_upd hD, by rw [upd_same]; rfl⟩ (fun j H2 _ p => p.1 _ _ hd1) (fun j x H2 H3 hj p hy => ?_) (fun H2 p => ?_)
          · obtain ⟨rfl, k, v, hk, rfl⟩ := hy
            obtain ⟨ps, pd⟩ := p
            have hj' : j < ts.length := by rw [len_tg] at hj; exact hj
            obtain ⟨u, hu1⟩ : ∃ u, ts[j]? = some u := ⟨ts[j], List.getElem?_eq_getElem hj'⟩
            have ek : k = kT u := by
              unfold tg at hk
              rw [List.getElem?_map, hu1] at hk
              cases hk; rfl
            subst ek
            refine ⟨rfl, _, rfl, ⟨_, rfl⟩, _, rfl, S u, S (t ++ [c]), rfl, rfl, _, pd, ?_, ?_, ?_⟩
            · rw [List.length_map, List.length_map, List.length_take]; exact small1000 (by omega)
            · exact fun b o' e => by rw [upd_ne (ne_of_none e hD)]; exact ps b o' e
            · rw [upd_same, List.take_add_one, hu1, starts_eq]
              simp
          · obtain ⟨ps, pd⟩ := p
            rw [len_tg, List.take_length] at pd
            have s2 := s1.trans ps
            refine ⟨D, _, rfl, SqL.of pd, ((ts.map fun u => (t ++ [c]).isPrefixOf u).any id), rfl, ?_⟩
            have hany : ((ts.map fun u => (t ++ [c]).isPrefixOf u).any id) = true ↔ ∃ u ∈ ts, (t ++ [c]) <+: u := by
              rw [List.any_eq_true]
              constructor
              · rintro ⟨b, hb, e⟩
                obtain ⟨u, hu1, rfl⟩ := List.mem_map.mp hb
                exact ⟨u, hu1, pre_iff.mp e⟩
              · rintro ⟨u, hu1, e⟩
                exact ⟨_, List.mem_map.mpr ⟨u, hu1, rfl⟩, pre_iff.mpr e⟩
            cases ha : ((ts.map fun u => (t ++ [c]).isPrefixOf u).any id) with
            | false =>
              have hno : ∀ u ∈ ts, ¬ (t ++ [c]) <+: u := fun u hu1 p => by
                have := hany.mpr ⟨u, hu1, p⟩
                rw [ha] at this; cases this
              refine iteT ?_
              refine ⟨_, rfl, S chars, 0, 97, rfl, rfl, ?_, by decide, _, rfl, _, rfl, S (t ++ [c]), rfl, ?_, _, _, rfl, rfl, 97, _, rfl, rfl, ?_, ?_, S (t ++ [c]), S (List.replicate (L - (t ++ [c]).length) 97), rfl, ?_, ?_, ?_⟩
              · rw [S_len]; exact small64 (by decide)
              · rw [S_len, tl1]; exact small64 (by omega)
              · rw [S_len, tl1]; omega
              · rw [S_len, tl1]; omega
              · refine congrArg V.str (congrArg Str.mk (congrArg List.toArray (congrArg (fun n => List.replicate n 97) ?_)))
                rw [S_len]; omega
              · rw [S_len, S_len, tl1, List.length_replicate]; exact small64 (by omega)
              · rw [S_app]
                exact ks H2 _ s2 (ext_fill ht hcc z' hno)
            | true =>
              refine iteF ?_
              refine ⟨_, rfl, _, rfl, _, rfl, t ++ [c], L, d, o, ts, rfl, s2 _ _ hd, ?_, by omega, h2, by omega, h4, fun H3 s3 none' => ?_, fun H3 g s3 ok => ?_⟩
              · intro x hx
                rcases List.mem_append.mp hx with hx | hx
                · exact ht x hx
                · rw [List.mem_singleton.mp hx]; exact hcc
              · exact ⟨_, rfl, rfl, false, rfl, iteF ⟨_, _, _, _, rfl, s2.trans s3, step (.inr none')⟩⟩
              · exact ⟨_, rfl, rfl, true, rfl, iteT ⟨_, rfl, ks H3 g (s2.trans s3) (ext_rec hin ok)⟩⟩
        · obtain ⟨v3, v4, v5, v6, rfl, s1, all⟩ := p
          refine kn H1 s1 (ext_none z' fun c hc => all c ?_)
          rw [chars_len]
          rw [List.take_of_length_le (by decide)]
          exact hc
end
end N77

set_option Elab.async false
set_option linter.all false
set_option maxRecDepth 100000
set_option maxHeartbeats 4000000
namespace N77
open PySem PySem.Spec PyProof.Rows L2 M77
/-- a dict comprehension over it -/
theorem dc_it {J : It} {n : Nat} {G : Hp → Prop} {Y : Nat → Hp → V → Hp → Prop} (w : Walk J n G Y) {g : TG} {tt : TT} {tk tv : TE} {vs : List Nat} {σ : L2.St} {H1 : Hp} {D : Addr} {Qd : Hp → Prop} (Pv : Nat → Hp → Prop) (h0 : Pv 0 (upd H1 D (.dK []))) (hG : ∀ i H, i ≤ n → Pv i H → G H)
    (hs : ∀ i x H H', i < n → Pv i H → Y i H x H' → g x (wipe σ vs) H' fun σ2 H2 => wipe σ2 vs = wipe σ vs ∧ tt σ2 H2 fun b H3 =>
      if b = true then tk σ2 H3 fun y H4 => tv σ2 H4 fun z H5 => ∃ kvs k, y = kV k ∧ H5 D = some (.dK kvs) ∧ kvs.length < sizeLine ∧ Pv (i + 1) (upd H5 D (.dK (putK kvs k z))) else Pv (i + 1) H3) (hd : ∀ H, Pv n H → Qd H) :
    ∃ W : Nat → Nat → Hp → Prop, (∃ m, W 0 m (upd H1 D (.dK []))) ∧ ∀ i m H, W i m H →
      (J.stop i H ∧ Qd H) ∨ (J.go i H ∧ ∃ Nx : Hp → Prop, (∀ H', Nx H' → ∃ m', m' < m ∧ W (i + 1) m' H') ∧ ∀ x H', J.yld i H x H' → g x (wipe σ vs) H' fun σ2 H2 => wipe σ2 vs = wipe σ vs ∧ tt σ2 H2 fun b H3 =>
        if b = true then tk σ2 H3 fun y H4 => tv σ2 H4 fun z H5 => ∃ kvs k, y = kV k ∧ H5 D = some (.dK kvs) ∧ kvs.length < sizeLine ∧ Nx (upd H5 D (.dK (putK kvs k z))) else Nx H3) := by
  refine ⟨fun i m H => m = n - i ∧ i ≤ n ∧ Pv i H, ⟨n, by simp, Nat.zero_le _, h0⟩, ?_⟩
  rintro i m H ⟨rfl, hi, p⟩
  have q := hG i H hi p
  by_cases hlt : i < n
  · refine .inr ⟨w.goes i H hlt q, Pv (i + 1), fun H' p' => ⟨n - (i + 1), by omega, rfl, hlt, p'⟩, fun x H' y => hs i x H H' hlt p (w.yields i H x H' hlt q y)⟩
  · have e : i = n := by omega
    subst e
    exact .inl ⟨w.stops H q, hd H p⟩
theorem boot_max' : bootBuiltins "max" = some (.builtin "max") := by decide +kernel
theorem empty_S : (("" : Str)) = S [] := by decide +kernel
def SsOk (ss : List Smp) : Prop := ∀ t, Smp.beg t ∈ ss → OkTx t ∧ t.length ≤ 20
def covL (s : Smp) (ks : List Int) : Prop := match s with
  | .len a b => a ∈ ks ∧ b + 1 ∈ ks
  | _ => True
theorem covL.mono {s : Smp} {ks ks' : List Int} (h : covL s ks) (k : ∀ x ∈ ks, x ∈ ks') : covL s ks' := by
  cases s with
  | len a b => exact ⟨k _ h.1, k _ h.2⟩
  | _ => trivial
def covB (s : Smp) (ts : List Tx) : Prop := match s with
  | .beg t => t ∈ ts
  | _ => True
theorem covB.mono {s : Smp} {ks ks' : List Tx} (h : covB s ks) (k : ∀ x ∈ ks, x ∈ ks') : covB s ks' := by
  cases s with
  | beg t => exact k _ h
  | _ => trivial
def DoneT (ts : List Tx) (ks : List Int) (ns : List Tx) (t : Tx) : Prop := ∀ L : Nat, ((L : Int) ∈ ks ∨ L = t.length ∨ L = t.length + 1) → 1 ≤ L → t.length ≤ L → L ≤ 20 → (∃ f, ExtOk ts L t f) → ∃ n ∈ ns, ExtOk ts L t n
theorem DoneT.mono {ts : List Tx} {ks : List Int} {ns ns' : List Tx} {t : Tx} (h : DoneT ts ks ns t) (k : ∀ x ∈ ns, x ∈ ns') : DoneT ts ks ns' t := fun L a b c d e => by
  obtain ⟨n, hn, z⟩ := h L a b c d e
  exact ⟨n, k n hn, z⟩
theorem line_big {n : Nat} (h : n ≤ 10000) : n < sizeLine := by have := sizeLine_eq; omega
section
variable {P : Program} {w : World} {K : PySem.W.Frag} {mg : Str → Option Value} {base : Heap} {f : Addr} {fd : FuncData} {ad fh : Kd → Addr}
abbrev txs (ns : List Tx) : List V := ns.map fun n => V.str (S n)
def spNames : Sp := fun vs H Q _ => ∃ (l : Addr) (us : List V) (ss : List Smp), vs = [.ref l] ∧ H l = some (.lst us) ∧ SmpsAt H us ss ∧ ss.length ≤ 15 ∧ SsOk ss ∧
  ∀ H' p ns, Same H H' → H' p = some (.lst (txs ns)) → NamesOk ss ns → Q (.ref p) H'
theorem scNames : FnScope ["simple", "parts", "texts", "marks", "found", "text", "length", "key"] ["simple"] (defScope sSomeNames) := ⟨rfl, rfl, rfl, by decide +kernel, rfl, by decide +kernel, by decide +kernel⟩
theorem ok_names (F : Fun K "some_names" "some_names" sSomeNames f fd) (B : Bt mg) (Z : Ct mg) (cE : Cal P w K mg base "extended" 21 (spExt 20)) : FnR P w K mg base CX0 22 f spNames := by
  refine fnR_of F scNames (fun _ _ _ _ _ _ us hl => match us, hl with | [_], _ => rfl) (fun vs H Q E h => ?_) (fun cdv A outer s H vs Q E hr h => ?_)
  · obtain ⟨_, _, _, rfl, _⟩ := h; rfl
  · obtain ⟨l, us, ss, rfl, hl, hs, hz, hok, k⟩ := h
    obtain ⟨tm, hmax⟩ := Z.maxl
    refine ⟨_, pss_cons (ps_set (i := 2) scNames.nd rfl (.inl rfl) (pe_dks (pps_cons pe_str pe_bl pps_nil)
        (pe_dc (own := [("parts", 1)]) (g := gName 1) rfl scNames.nd (pi_list (pv 0)) (blkOk_by (own := [("parts", 1)]) (N := ["simple", "parts", "texts", "marks", "found", "text", "length", "key"]) (sc := defScope sSomeNames) (by decide +kernel))
          (fun _ _ _ _ _ => pg_name (i := 1) scNames.nd rfl (Or.inl rfl)) (fun _ _ _ _ _ => pts_one (pt_cmpR op_eq (pe_ix (r := rIxT K) ix_tup (pv 1) pe_int (fun _ _ => rfl)) pe_str (nomark _)))
          (fun _ _ _ _ _ => pe_ix (r := rIxT K) ix_tup (pv 1) pe_int (fun _ _ => rfl)) (fun _ _ _ _ _ => pe_bl))))
      (pss_cons (ps_set (i := 3) scNames.nd rfl (.inl rfl) (pe_disp (pps_cons pe_int pe_bl pps_nil) (by rfl) (by rfl) (fun z => by cases z) (by decide)))
      (pss_cons (ps_for PassesOwn.never rfl (pi_list (pv 0)) (pg_name (i := 1) scNames.nd rfl (Or.inl rfl))
        (pss_one (ps_if (pt_cmpR op_eq (pe_ix ix_tup (pv 1) pe_int (fun _ _ => rfl)) pe_str (nomark _))
          (pss_one (ps_expr (pe_bm PySem.F.plainAttrs_dict PySem.F.slot_dict_update PySem.F.type_dict_update mt_update (pv 3) (pa_cons (pe_disp (pps_cons (pe_ix ix_tup (pv 1) pe_int (fun _ _ => rfl)) pe_bl (pps_cons (pe_op op_add (pe_ix ix_tup (pv 1) pe_int (fun _ _ => rfl)) pe_int) pe_bl pps_nil)) (by rfl) (by rfl) (fun z => by cases z) (by decide)) pa_nil)))) pss_nil)))
      (pss_cons (ps_set (i := 4) scNames.nd rfl (.inl rfl) (pe_lst pa_nil))
      (pss_cons (ps_lock (ps_for PassesOwn.never rfl (pi_keys (pv 2)) (pg_name (i := 5) scNames.nd rfl (Or.inl rfl))
        (pss_one (ps_for PassesOwn.never rfl (pi_list (pe_callB (call_sortedDI rfl) rfl B.sorted boot_sorted (pa_cons (pe_dsk (pv 3) (pps_cons (pe_callB call_len_str rfl B.len PySem.boot_len (pa_cons (pv 5) pa_nil)) pe_bl (pps_cons (pe_op op_add (pe_callB call_len_str rfl B.len PySem.boot_len (pa_cons (pv 5) pa_nil)) pe_int) pe_bl pps_nil))) pa_nil))) (pg_name (i := 6) scNames.nd rfl (Or.inl rfl))
          (pss_one (ps_if (pt_chain op_le op_le (pe_callB (call_max2 rfl) rfl B.max boot_max' (pa_cons pe_int (pa_cons (pe_callB call_len_str rfl B.len PySem.boot_len (pa_cons (pv 5) pa_nil)) pa_nil))) (pv 6) (pe_glob (v := .int 20) rfl hmax ⟨_, rfl⟩))
            (pss_cons (ps_set (i := 7) scNames.nd rfl (.inl rfl) (pe_cal cE hr rfl (pa_cons (pv 5) (pa_cons (pv 6) (pa_cons (pv 2) pa_nil)))))
            (pss_one (ps_if (pt_cmpR op_notN (pv 7) pe_non (nomark _)) (pss_one (ps_expr (pe_bm PySem.F.plainAttrs_list PySem.F.slot_list_append PySem.F.type_list_append mt_append (pv 4) (pa_cons (pv 7) pa_nil)))) pss_nil))) pss_nil))))))
      (pss_one (ps_ret (pv 4))))))), ?_⟩
    -- texts
    refine fun p hp => ⟨upd_same, [(kT [], .bl true)], congrArg (fun x => [(V.str x, V.bl true)]) empty_S, by decide, ?_⟩
    have e0 : mergeK [] [(kT [], V.bl true)] = tg kT [[]] := rfl
    rw [e0, upd_upd]
    have sp : Same H (upd H p (.dK (tg kT [[]]))) := same_upd hp
    generalize hHp : upd H p (.dK (tg kT [[]])) = Hp1 at sp ⊢
    have hp1 : Hp1 p = some (.dK (tg kT [[]])) := by rw [← hHp]; exact upd_same
    refine ⟨_, rfl, l, rfl, ⟨us, SqL.of (sp _ _ hl)⟩, fun D hD => ?_⟩
    have hslen := hs.len
    refine dc_it (walk_list (K := K) (a := l) (xs := us)) (fun i H' => ∃ bs : List Tx, Same Hp1 H' ∧ H' D = some (.dK (tg kT bs)) ∧ bs.length ≤ i ∧ (∀ t ∈ bs, Smp.beg t ∈ ss) ∧ ∀ j s, j < i → ss[j]? = some s → covB s bs)
      ⟨[], same_upd hD, upd_same, by simp, by simp, fun j s hj _ => by omega⟩ (fun i H' _ h => by obtain ⟨bs, s1, _⟩ := h; exact SqL.of (s1 _ _ (sp _ _ hl))) (fun i x H1 H' hi h hy => ?_) (fun H1 h => ?_)
    · obtain ⟨rfl, hx⟩ := hy
      obtain ⟨bs, s1, g1, g2, g3, g4⟩ := h
      obtain ⟨sm0, u, hsi, rfl, hu0⟩ := hs.get hx
      have hu := s1 _ _ (sp _ _ hu0)
      have hiz : i < 15 := by omega
      cases sm0 with
      | beg t =>
        refine ⟨rfl, _, rfl, u, _, 0, _, rfl, rfl, SqT.of hu, atI_nat (j := 0) rfl, rfl, true, congrArg V.bl (self' _), ?_⟩
        refine ⟨_, rfl, u, _, 1, _, rfl, rfl, SqT.of hu, atI_nat (j := 1) rfl, tg kT bs, kT t, rfl, g1, ?_, ?_⟩
        · rw [len_tg]; exact small1000 (by omega)
        · rw [put_tg kT_inj]
          refine ⟨addG bs t, fun b o e => by rw [upd_ne (ne_of_none e hD)]; exact s1 _ _ e, upd_same, by have := len_addG bs t; omega, fun t' ht' => ?_, fun j s' hj e => ?_⟩
          · rcases mem_addG.mp ht' with z | z
            · exact g3 _ z
            · rw [z]; exact List.mem_of_getElem? hsi
          · by_cases z : j = i
            · subst z; rw [hsi] at e; cases e
              exact mem_addG.mpr (.inr rfl)
            · exact (g4 j s' (by omega) e).mono fun x hx => mem_addG.mpr (.inl hx)
      | len a b =>
        refine ⟨rfl, _, rfl, u, _, 0, _, rfl, rfl, SqT.of hu, atI_nat (j := 0) rfl, rfl, false, congrArg V.bl lb', ?_⟩
        refine ⟨bs, s1, g1, by omega, g3, fun j s' hj e => ?_⟩
        by_cases z : j = i
        · subst z; rw [hsi] at e; cases e; trivial
        · exact g4 j s' (by omega) e
      | val a b =>
        refine ⟨rfl, _, rfl, u, _, 0, _, rfl, rfl, SqT.of hu, atI_nat (j := 0) rfl, rfl, false, congrArg V.bl vb', ?_⟩
        refine ⟨bs, s1, g1, by omega, g3, fun j s' hj e => ?_⟩
        by_cases z : j = i
        · subst z; rw [hsi] at e; cases e; trivial
        · exact g4 j s' (by omega) e
    obtain ⟨bs, s1, g1, g2, g3, g4⟩ := h
    have nDp : D ≠ p := (ne_of_none hp1 hD).symm
    refine ⟨D, tg kT [[]], tg kT bs, rfl, s1 _ _ hp1, .inl g1, nDp, ?_, ?_⟩
    · rw [len_tg, len_tg]; exact small64 (by simp; omega)
    rw [merge_tg kT_inj]
    generalize hts : bs.foldl addG [[]] = ts
    have t0 : [] ∈ ts := by rw [← hts]; exact mem_fold.mpr (.inl (by simp))
    have tlen : ts.length ≤ 20 := by
      have := len_fold bs ([[]] : List Tx)
      rw [hts] at this
      simp only [List.length_cons, List.length_nil] at this
      omega
    have tin : ∀ t, Smp.beg t ∈ ss → t ∈ ts := fun t ht => by
      obtain ⟨j, hj⟩ := List.getElem?_of_mem ht
      rw [← hts]
      exact mem_fold.mpr (.inr (g4 j _ (by have := (List.getElem?_eq_some_iff.mp hj).1; omega) hj))
    have tok : ∀ t ∈ ts, OkTx t ∧ t.length ≤ 20 := fun t ht => by
      rw [← hts] at ht
      rcases mem_fold.mp ht with z | z
      · rw [List.mem_singleton.mp z]; exact ⟨fun c hc => (by cases hc), by simp⟩
      · exact hok t (g3 t z)
    -- the heap behind texts
    have sA : Same H (upd H1 p (.dK (tg kT ts))) := fun b o e => by
      rw [upd_ne (ne_of_none e hp)]
      exact s1 _ _ (sp _ _ e)
    generalize hHA : upd H1 p (.dK (tg kT ts)) = HA at sA ⊢
    have hpA : HA p = some (.dK (tg kT ts)) := by rw [← hHA]; exact upd_same
    -- marks
    refine fun m hm => ⟨upd_same, [(kI 1, .bl true)], rfl, by decide, ?_⟩
    have e1 : mergeK [] [(kI 1, V.bl true)] = tg kI [1] := rfl
    rw [e1, upd_upd]
    have npm : p ≠ m := ne_of_none hpA hm
    have nHm : ∀ {b o}, H b = some o → b ≠ m := fun e => ne_of_none (sA _ _ e) hm
    have nHp : ∀ {b o}, H b = some o → b ≠ p := fun e => ne_of_none e hp
    refine ⟨_, rfl, l, rfl, ⟨us, SqL.of (same_upd hm _ _ (sA _ _ hl))⟩, ?_⟩
    refine for_list (xs := us) (fun i σ H' => ∃ ks v1, σ = [some (.ref l), v1, some (.ref p), some (.ref m), none, none, none, none] ∧ Same H H' ∧ H' p = some (.dK (tg kT ts)) ∧ H' m = some (.dK (tg kI ks)) ∧ 1 ∈ ks ∧ ks.length ≤ 1 + 2 * i ∧ ∀ j s, j < i → ss[j]? = some s → covL s ks)
      ⟨[1], none, rfl, fun b o e => same_upd hm _ _ (sA _ _ e), same_upd hm _ _ hpA, upd_same, by simp, by simp, fun j s hj _ => by omega⟩ (fun i σ H' _ h => ?_) (fun i x σ H' hx h => ?_) (fun σ H' h => ?_)
    · obtain ⟨ks, v1, rfl, s2, _⟩ := h
      exact SqL.of (s2 _ _ hl)
    · obtain ⟨ks, v1, rfl, s2, f0, f1, f2, f3, f4⟩ := h
      obtain ⟨sm0, u, hsi, rfl, hu0⟩ := hs.get hx
      have hu : H' u = some (.tup (Smp.vals sm0)) := s2 _ _ hu0
      have hi : i < us.length := (List.getElem?_eq_some_iff.mp hx).1
      cases sm0 with
      | beg t =>
        refine ⟨_, rfl, u, _, 0, _, rfl, rfl, SqT.of hu, atI_nat (j := 0) rfl, rfl, false, congrArg V.bl bl', iteF ?_⟩
        refine ⟨ks, _, rfl, s2, f0, f1, f2, by omega, fun j s' hj e => ?_⟩
        by_cases z : j = i
        · subst z; rw [hsi] at e; cases e; trivial
        · exact f4 j s' (by omega) e
      | val a b =>
        refine ⟨_, rfl, u, _, 0, _, rfl, rfl, SqT.of hu, atI_nat (j := 0) rfl, rfl, false, congrArg V.bl vl', iteF ?_⟩
        refine ⟨ks, _, rfl, s2, f0, f1, f2, by omega, fun j s' hj e => ?_⟩
        by_cases z : j = i
        · subst z; rw [hsi] at e; cases e; trivial
        · exact f4 j s' (by omega) e
      | len a b =>
        refine ⟨_, rfl, u, _, 0, _, rfl, rfl, SqT.of hu, atI_nat (j := 0) rfl, rfl, true, congrArg V.bl (self' _), iteT ?_⟩
        refine ⟨_, rfl, .inr (.inr (.inl ⟨rfl, .inl ⟨_, f1⟩⟩)), fun q hq => ?_⟩
        have s3 : Same H' (upd H' q (.dK [])) := same_upd hq
        have nqm : q ≠ m := (ne_of_none f1 hq).symm
        refine ⟨_, rfl, u, _, 1, _, rfl, rfl, SqT.of (s3 _ _ hu), atI_nat (j := 1) rfl, _, rfl, u, _, 2, _, rfl, rfl, SqT.of (s3 _ _ hu), atI_nat (j := 2) rfl, b, 1, rfl, rfl, upd_same, [(kI a, .bl true), (kI (b + 1), .bl true)], rfl, (by show 2 ≤ 15; decide), ?_⟩
        have e2 : mergeK [] [(kI a, V.bl true), (kI (b + 1), .bl true)] = tg kI ([a, b + 1].foldl addG []) := merge_tg (f := kI) kI_inj [a, b + 1] []
        have a2 := len_fold [a, b + 1] ([] : List Int)
        simp only [List.length_cons, List.length_nil] at a2
        rw [e2, upd_upd]
        refine ⟨m, q, tg kI ks, tg kI ([a, b + 1].foldl addG []), rfl, rfl, ?_, .inl upd_same, nqm, ?_, ?_⟩
        · rw [upd_ne nqm.symm]; exact f1
        · rw [len_tg, len_tg]; exact small64 (by omega)
        rw [merge_tg (f := kI) kI_inj]
        have a1 := len_fold ([a, b + 1].foldl addG ([] : List Int)) ks
        refine ⟨_, _, rfl, fun b' o' e => ?_, ?_, upd_same, mem_fold.mpr (.inl f2), by omega, fun j s' hj e => ?_⟩
        · rw [upd_ne (nHm e), upd_ne (ne_of_none (s2 _ _ e) hq)]; exact s2 _ _ e
        · rw [upd_ne npm, upd_ne (ne_of_none f0 hq)]; exact f0
        · by_cases z : j = i
          · subst z; rw [hsi] at e; cases e
            exact ⟨mem_fold.mpr (.inr (mem_fold.mpr (.inr (by simp)))), mem_fold.mpr (.inr (mem_fold.mpr (.inr (by simp))))⟩
          · exact (f4 j s' (by omega) e).mono fun x hx => mem_fold.mpr (.inl hx)
    obtain ⟨ks, v1, rfl, s2, f0, f1, f2, f3, f4⟩ := h
    have covAll : ∀ a b, Smp.len a b ∈ ss → a ∈ ks ∧ b + 1 ∈ ks := fun a b h => by
      obtain ⟨j, hj⟩ := List.getElem?_of_mem h
      exact f4 j _ (by have := (List.getElem?_eq_some_iff.mp hj).1; omega) hj
    -- found
    refine ⟨by decide, fun fo hfo => ?_⟩
    have nfm : fo ≠ m := (ne_of_none f1 hfo).symm
    have nfp : fo ≠ p := (ne_of_none f0 hfo).symm
    have nHf : ∀ {b o}, H b = some o → b ≠ fo := fun e => ne_of_none (s2 _ _ e) hfo
    -- the loop over texts
    refine ⟨p, .dK (tg kT ts), ?_, True.intro, fun od => ?_⟩
    · rw [upd_ne nfp.symm]; exact f0
    refine ⟨_, rfl, p, od, rfl, .inl ⟨tg kT ts, upd_same, ?_⟩⟩
    refine for_it (walk_keys (d := p) (o := od) (kvs := tg kT ts)) (fun i σ H'' => ∃ ns v1 v5 v6 v7, σ = [some (.ref l), v1, some (.ref p), some (.ref m), some (.ref fo), v5, v6, v7] ∧ Same H H'' ∧ H'' p = some (.frz od (.dK (tg kT ts))) ∧ H'' m = some (.dK (tg kI ks)) ∧
        H'' fo = some (.lst (txs ns)) ∧ (∀ n ∈ ns, OkKey n) ∧ ns.length ≤ 64 * i ∧ ∀ j t, j < i → ts[j]? = some t → DoneT ts ks ns t)
      ⟨[], v1, none, none, none, rfl, fun b o e => ?_, upd_same, ?_, ?_, by simp, by simp, fun j t hj _ => by omega⟩ (fun i σ H'' _ h => by obtain ⟨ns, v1, v5, v6, v7, rfl, _, e, _⟩ := h; exact e) (fun i x σ H1z H'' hi h hy => ?_) (fun σ H'' h => ?_)
    · rw [upd_ne (nHp e), upd_ne (nHf e)]; exact s2 _ _ e
    · rw [upd_ne npm.symm, upd_ne nfm.symm]; exact f1
    · rw [upd_ne nfp]; exact upd_same
    · obtain ⟨rfl, kx, vx, hkx, rfl⟩ := hy
      obtain ⟨ns, v1', v5, v6, v7, rfl, s3, b0, b1, b2, b3, b4, b5⟩ := h
      have hi' : i < ts.length := by rw [len_tg] at hi; exact hi
      obtain ⟨t, hti⟩ : ∃ t, ts[i]? = some t := ⟨ts[i], List.getElem?_eq_getElem hi'⟩
      have ek : kx = kT t := by
        unfold tg at hkx
        rw [List.getElem?_map, hti] at hkx
        cases hkx; rfl
      subst ek
      obtain ⟨tok1, tok2⟩ := tok t (List.mem_of_getElem? hti)
      -- {**marks, len(text): True, len(text) + 1: True}
      refine fun q hq => ⟨_, rfl, m, [], tg kI ks, rfl, upd_same, .inl (same_upd hq _ _ b1), ne_of_none b1 hq, ?_, ?_⟩
      · rw [len_tg]; exact small64 (by simp; omega)
      have em : mergeK [] (tg kI ks) = tg kI (ks.foldl addG []) := merge_tg (f := kI) kI_inj ks []
      rw [em, upd_upd]
      have lks := len_fold ks ([] : List Int)
      simp only [List.length_nil] at lks
      have s4 : Same H'' (upd H'' q (.dK (tg kI (ks.foldl addG [])))) := same_upd hq
      refine fun q2 hq2 => ⟨_, rfl, S t, rfl, len20 tok2, _, rfl, S t, rfl, len20 tok2, _, _, rfl, rfl, upd_same, [(kI ((S t).length : Int), .bl true), (kI ((S t).length + 1 : Int), .bl true)], rfl, (by show 2 ≤ 15; decide), ?_⟩
      have e2 : mergeK [] [(kI ((S t).length : Int), V.bl true), (kI ((S t).length + 1 : Int), .bl true)] = tg kI ([((S t).length : Int), ((S t).length + 1 : Int)].foldl addG []) := merge_tg (f := kI) kI_inj [((S t).length : Int), ((S t).length + 1 : Int)] []
      have a2 := len_fold [((S t).length : Int), ((S t).length + 1 : Int)] ([] : List Int)
      simp only [List.length_cons, List.length_nil] at a2
      rw [e2, upd_upd]
      have nqq : q ≠ q2 := ne_of_none upd_same hq2
      refine ⟨_, _, (same_upd hq2 _ _ upd_same), upd_same, nqq.symm, ?_, ?_⟩
      · rw [len_tg, len_tg]; exact small64 (by omega)
      rw [merge_tg (f := kI) kI_inj]
      have a3 := len_fold ([((S t).length : Int), ((S t).length + 1 : Int)].foldl addG ([] : List Int)) (ks.foldl addG [])
      generalize hk2 : ([((S t).length : Int), ((S t).length + 1 : Int)].foldl addG ([] : List Int)).foldl addG (ks.foldl addG []) = ks2 at a3 ⊢
      have mem2 : ∀ L : Nat, ((L : Int) ∈ ks ∨ L = t.length ∨ L = t.length + 1) → (L : Int) ∈ ks2 := fun L h => by
        rw [← hk2]
        rcases h with h | h | h
        · exact mem_fold.mpr (.inl (mem_fold.mpr (.inr h)))
        · exact mem_fold.mpr (.inr (mem_fold.mpr (.inr (by rw [S_len, h]; simp))))
        · exact mem_fold.mpr (.inr (mem_fold.mpr (.inr (by rw [S_len, h]; simp))))
      refine ⟨q, _, ks2, rfl, .inl upd_same, ?_, by omega, fun ys ya perm srt hya => ?_⟩
      · unfold tg; rw [List.map_map]; rfl
      have hylen : ys.length ≤ 33 := by rw [perm.length_eq]; omega
      have nyf : ya ≠ fo := by
        refine (ne_of_none (o := .lst (txs ns)) ?_ hya).symm
        rw [upd_ne (ne_of_none b2 hq)]
        exact same_upd hq2 _ _ (s4 _ _ b2)
      -- all that stood stands
      have sB : Same H'' (upd (upd (upd (upd H'' q (.dK (tg kI (ks.foldl addG [])))) q2 (.dK (tg kI ([((S t).length : Int), ((S t).length + 1 : Int)].foldl addG [])))) q (.dK (tg kI ks2))) ya (.lst (ys.map V.int))) := fun b o e => by
        refine same_upd hya _ _ ?_
        rw [upd_ne (ne_of_none e hq)]
        exact same_upd hq2 _ _ (s4 _ _ e)
      generalize hHB : upd (upd (upd (upd H'' q (.dK (tg kI (ks.foldl addG [])))) q2 (.dK (tg kI ([((S t).length : Int), ((S t).length + 1 : Int)].foldl addG [])))) q (.dK (tg kI ks2))) ya (.lst (ys.map V.int)) = HB at sB ⊢
      have hyB : HB ya = some (.lst (ys.map V.int)) := by rw [← hHB]; exact upd_same
      refine ⟨ya, rfl, ⟨_, SqL.of hyB⟩, ?_⟩
      refine for_list (xs := ys.map V.int) (fun k σ H3 => ∃ ns v1 v6 v7, σ = [some (.ref l), v1, some (.ref p), some (.ref m), some (.ref fo), some (.str (S t)), v6, v7] ∧ Same H H3 ∧ H3 p = some (.frz od (.dK (tg kT ts))) ∧ H3 m = some (.dK (tg kI ks)) ∧
          H3 fo = some (.lst (txs ns)) ∧ H3 ya = some (.lst (ys.map V.int)) ∧ (∀ n ∈ ns, OkKey n) ∧ ns.length ≤ 64 * i + k ∧ (∀ j t, j < i → ts[j]? = some t → DoneT ts ks ns t) ∧
          ∀ L : Nat, (L : Int) ∈ ys.take k → 1 ≤ L → t.length ≤ L → L ≤ 20 → (∃ f, ExtOk ts L t f) → ∃ n ∈ ns, ExtOk ts L t n)
        ⟨ns, v1', v6, v7, rfl, s3.trans sB, sB _ _ b0, sB _ _ b1, sB _ _ b2, hyB, b3, by omega, b5, by simp⟩ (fun k σ H3 _ h => ?_) (fun k x σ H3 hx h => ?_) (fun σ H3 h => ?_)
      · obtain ⟨ns, v1, v6, v7, rfl, _, _, _, _, e, _⟩ := h
        exact SqL.of e
      · obtain ⟨ns, v1, v6, v7, rfl, s5, c0, c1, c2, c3, c4, c5, c6, c7⟩ := h
        obtain ⟨y, hy, rfl⟩ : ∃ y, ys[k]? = some y ∧ x = V.int y := by
          rw [List.getElem?_map] at hx
          cases e : ys[k]? with
          | none => rw [e] at hx; cases hx
          | some y => rw [e] at hx; exact ⟨y, rfl, (Option.some.inj hx).symm⟩
        have hkl : k < ys.length := (List.getElem?_eq_some_iff.mp hy).1
        have take1 : ys.take (k + 1) = ys.take k ++ [y] := by rw [List.take_add_one, hy]; rfl
        have skip : (∀ L : Nat, (L : Int) = y → 1 ≤ L → t.length ≤ L → L ≤ 20 → (∃ f, ExtOk ts L t f) → ∃ n ∈ ns, ExtOk ts L t n) → ∀ L : Nat, (L : Int) ∈ ys.take (k + 1) → 1 ≤ L → t.length ≤ L → L ≤ 20 → (∃ f, ExtOk ts L t f) → ∃ n ∈ ns, ExtOk ts L t n := fun h L hL a b c d => by
          rw [take1] at hL
          rcases List.mem_append.mp hL with hL | hL
          · exact c7 L hL a b c d
          · exact h L (List.mem_singleton.mp hL) a b c d
        have hm1 : ∀ n : Int, (if ((S t).length : Int) > 1 then ((S t).length : Int) else 1) ≤ n ↔ (1 ≤ n ∧ (t.length : Int) ≤ n) := fun n => by
          rw [S_len]
          split <;> omega
        refine ⟨_, rfl, S t, rfl, len20 tok2, 1, _, rfl, _, rfl, _, _, rfl, rfl, _, rfl, ite2 (fun z1 => ?_) fun z1 => ?_⟩
        · have z1' := (hm1 y).mp (of_decide_eq_true z1)
          refine ⟨_, _, rfl, rfl, decide (y ≤ 20), rfl, ite2 (fun z2 => ?_) fun z2 => ?_⟩
          · have z2' : y ≤ 20 := of_decide_eq_true z2
            obtain ⟨L, rfl⟩ : ∃ L : Nat, y = (L : Int) := ⟨y.toNat, by omega⟩
            refine ⟨_, rfl, _, rfl, _, rfl, t, L, p, od, ts, rfl, c0, tok1, by omega, by omega, by omega, by omega, fun H4 s6 none' => ?_, fun H4 g s6 ok => ?_⟩
            · refine ⟨_, rfl, rfl, false, rfl, iteF ?_⟩
              refine ⟨ns, _, _, _, rfl, s5.trans s6, s6 _ _ c0, s6 _ _ c1, s6 _ _ c2, s6 _ _ c3, c4, by omega, c6, skip fun L' e a b c d => ?_⟩
              have : L' = L := by omega
              subst this
              obtain ⟨g, hg⟩ := d
              exact absurd hg (none' g)
            · refine ⟨_, rfl, rfl, true, rfl, iteT ?_⟩
              refine ⟨_, rfl, .inl ⟨rfl, _, SqL.of (s6 _ _ c2)⟩, _, rfl, fo, _, _, rfl, rfl, s6 _ _ c2, ?_, ?_⟩
              · rw [List.length_map]; exact line_big (by omega)
              have et : txs ns ++ [V.str (S g)] = txs (ns ++ [g]) := (List.map_append (f := fun n => V.str (S n)) (l₁ := ns) (l₂ := [g])).symm
              rw [et]
              refine ⟨ns ++ [g], _, _, _, rfl, fun b o e => ?_, ?_, ?_, upd_same, ?_, fun n hn => ?_, by simp; omega, fun j t' hj e => (c6 j t' hj e).mono fun x hx => List.mem_append_left _ hx, fun L' hL' a b c d => ?_⟩
              · rw [upd_ne (nHf e)]; exact s6 _ _ (s5 _ _ e)
              · rw [upd_ne nfp.symm]; exact s6 _ _ c0
              · rw [upd_ne nfm.symm]; exact s6 _ _ c1
              · rw [upd_ne nyf]; exact s6 _ _ c3
              · rcases List.mem_append.mp hn with hn | hn
                · exact c4 n hn
                · rw [List.mem_singleton.mp hn]; exact ⟨ok.ok, by rw [ok.len]; omega, by rw [ok.len]; omega⟩
              · rw [take1] at hL'
                rcases List.mem_append.mp hL' with hL' | hL'
                · obtain ⟨n, hn, z⟩ := c7 L' hL' a b c d
                  exact ⟨n, List.mem_append_left _ hn, z⟩
                · have : L' = L := by have := List.mem_singleton.mp hL'; omega
                  subst this
                  exact ⟨g, by simp, ok⟩
          · exact ⟨ns, _, _, _, rfl, s5, c0, c1, c2, c3, c4, by omega, c6, skip fun L e a b c d => absurd c (by have := of_decide_eq_false (by simpa using z2 : decide (y ≤ 20) = false); omega)⟩
        · refine ⟨false, rfl, iteF ?_⟩
          have z1' : ¬ (1 ≤ y ∧ (t.length : Int) ≤ y) := fun z => z1 (decide_eq_true ((hm1 y).mpr z))
          exact ⟨ns, _, _, _, rfl, s5, c0, c1, c2, c3, c4, by omega, c6, skip fun L e a b c d => absurd ⟨by omega, by omega⟩ z1'⟩
      · obtain ⟨ns, v1, v6, v7, rfl, s5, c0, c1, c2, c3, c4, c5, c6, c7⟩ := h
        rw [List.length_map] at c5 c7
        rw [List.take_length] at c7
        refine ⟨ns, _, _, _, _, rfl, s5, c0, c1, c2, c4, by omega, fun j t' hj e => ?_⟩
        by_cases z : j = i
        · subst z
          rw [hti] at e; cases e
          exact fun L hL a b c d => c7 L (perm.mem_iff.mpr (mem2 L hL)) a b c d
        · exact c6 j t' (by omega) e
    · obtain ⟨ns, v1, v5, v6, v7, rfl, s3, b0, b1, b2, b3, b4, b5⟩ := h
      refine ⟨b0, _, rfl, k _ fo ns (fun b o e => ?_) ?_ (names_ok (texts := ts) (marks := ks) t0 tin f2 covAll b3 fun t ht => ?_)⟩
      · rw [upd_ne (nHp e)]; exact s3 _ _ e
      · rw [upd_ne nfp]; exact b2
      · obtain ⟨j, hj⟩ := List.getElem?_of_mem ht
        exact b5 j t (by rw [len_tg]; exact (List.getElem?_eq_some_iff.mp hj).1) hj
end
end N77

set_option Elab.async false
set_option linter.all false
set_option maxRecDepth 100000
set_option maxHeartbeats 4000000
namespace N77
open PySem PySem.Spec PyProof.Rows L2 M77
section
variable {P : Program} {w : World} {K : PySem.W.Frag} {mg : Str → Option Value} {base : Heap} {f : Addr} {fd : FuncData} {ad fh : Kd → Addr}
/-! ### example, some_row -/
def ExWish (H : Hp) (c : Cond) (Q : VK) : Prop := (∀ H', Same H H' → (∀ k v, OkKey k → c.holds k v = false) → Q .non H') ∧
  (∀ H' p k v, Same H H' → H' p = some (.tup [.str (S k), .int v]) → OkKey k → c.holds k v = true → Q (.ref p) H')
def spEx (ad : Kd → Addr) : Sp := fun vs H Q _ => ∃ (a : Addr) (c : Cond), vs = [.ref a] ∧ CondAt ad H c a ∧ c.simple.length ≤ 15 ∧ SsOk c.simple ∧ c.depth ≤ 6 ∧ ExWish H c Q
theorem scEx : FnScope ["condition", "simple", "values", "key", "value"] ["condition"] (defScope sExample) := ⟨rfl, rfl, rfl, by decide +kernel, rfl, by decide +kernel, by decide +kernel⟩
theorem ok_ex (F : Fun K "example" "example" sExample f fd) (T : ∀ d, ClsF K (ad d)) (M : ∀ d, Meth K (ad d) "holds" (fh d)) (AH : AllH P w K mg base ad fh 6) (cV : Cal P w K mg base "some_values" 1 spVals) (cN : Cal P w K mg base "some_names" 22 spNames) :
    FnR P w K mg base CX0 23 f (spEx ad) := by
  refine fnR_of F scEx (fun _ _ _ _ _ _ us hl => match us, hl with | [_], _ => rfl) (fun vs H Q E h => ?_) (fun cdv A outer s H vs Q E hr h => ?_)
  · obtain ⟨_, _, rfl, _⟩ := h; rfl
  · obtain ⟨a, c, rfl, ha, hz, hok, hd, kn, ks⟩ := h
    refine ⟨_, pss_cons (ps_set (i := 1) scEx.nd rfl (.inl rfl) (pe_fld (pv 0) rfl)) (pss_cons (ps_set (i := 2) scEx.nd rfl (.inl rfl) (pe_cal cV (hr.mono (by decide)) rfl (pa_cons (pv 1) pa_nil)))
      (pss_cons (ps_for PassesOwn.never rfl (pi_list (pe_cal cN hr rfl (pa_cons (pv 1) pa_nil))) (pg_name (i := 3) scEx.nd rfl (Or.inl rfl))
        (pss_one (ps_for PassesOwn.never rfl (pi_list (pv 2)) (pg_name (i := 4) scEx.nd rfl (Or.inl rfl))
          (pss_one (ps_if (pt_val (pe_methD (pv 0) (pa_cons (pv 3) (pa_cons (pv 4) pa_nil)))) (pss_one (ps_ret (pe_tup (pa_cons (pv 3) (pa_cons (pv 4) pa_nil))))) pss_nil)))))
      (pss_one (ps_ret pe_non)))), ?_⟩
    obtain ⟨dx, t, l, us, h1, h2, h3⟩ := ha.core
    refine ⟨_, rfl, a, _, _, _, _, rfl, h1, (T _).cl, (T _).nsi, flds_simple _ _, _, rfl, l, us, c.simple, rfl, h2, h3, hz, fun H1 va ys s1 hva vok => ?_⟩
    refine ⟨_, rfl, l, us, c.simple, rfl, s1 _ _ h2, h3.same s1, hz, hok, fun H2 na ns s2 hna nok => ⟨na, rfl, ⟨_, SqL.of hna⟩, ?_⟩⟩
    have s12 := s1.trans s2
    refine for_list (xs := txs ns) (fun i σ H' => ∃ v3 v4, σ = [some (.ref a), some (.ref l), some (.ref va), v3, v4] ∧ Same H2 H' ∧ ∀ n ∈ ns.take i, ∀ x ∈ ys, c.holds n x = false) ⟨none, none, rfl, Same.refl _, by simp⟩ (fun i σ H' _ h => ?_) (fun i x σ H' hx h => ?_) (fun σ H' h => ?_)
    · obtain ⟨v3, v4, rfl, s3, _⟩ := h
      exact SqL.of (s3 _ _ hna)
    · obtain ⟨v3, v4, rfl, s3, old⟩ := h
      obtain ⟨n, hn, rfl⟩ : ∃ n, ns[i]? = some n ∧ x = V.str (S n) := by
        have hx : (ns.map fun n => V.str (S n))[i]? = some x := hx
        rw [List.getElem?_map] at hx
        cases e : ns[i]? with
        | none => rw [e] at hx; cases hx
        | some y => rw [e] at hx; exact ⟨y, rfl, (Option.some.inj hx).symm⟩
      have nk := nok.ok n (List.mem_of_getElem? hn)
      have take1 : ns.take (i + 1) = ns.take i ++ [n] := by rw [List.take_add_one, hn]; rfl
      refine ⟨_, rfl, va, rfl, ⟨_, SqL.of (s3 _ _ (s2 _ _ hva))⟩, ?_⟩
      refine for_list (xs := ys.map V.int) (fun k σ H3 => ∃ v4, σ = [some (.ref a), some (.ref l), some (.ref va), some (.str (S n)), v4] ∧ Same H2 H3 ∧ ∀ x ∈ ys.take k, c.holds n x = false) ⟨v4, rfl, s3, by simp⟩ (fun k σ H3 _ h => ?_) (fun k x σ H3 hx h => ?_) (fun σ H3 h => ?_)
      · obtain ⟨v4, rfl, s4, _⟩ := h
        exact SqL.of (s4 _ _ (s2 _ _ hva))
      · obtain ⟨v4, rfl, s4, old2⟩ := h
        obtain ⟨y, hy, rfl⟩ : ∃ y, ys[k]? = some y ∧ x = V.int y := by
          rw [List.getElem?_map] at hx
          cases e : ys[k]? with
          | none => rw [e] at hx; cases hx
          | some y => rw [e] at hx; exact ⟨y, rfl, (Option.some.inj hx).symm⟩
        have ha3 := ha.same (s12.trans s4)
        obtain ⟨dc, tc, lc, uc, g1, _⟩ := ha3.core
        refine ⟨_, rfl, a, _, fh (Cond.kd c), rfl, ⟨dc, _, g1, flds_no _ _ ne_hs ne_hm⟩, (T _).cl, M _, _, rfl, _, rfl, 7, _, AH _, hr.mono (by decide), a, c, n, y, rfl, ha3, rfl, hd, nk.2.2, fun H4 s5 => ⟨c.holds n y, rfl, ite2 (fun z => ?_) fun z => ?_⟩⟩
        · refine ⟨_, rfl, _, rfl, (by show 2 ≤ sizeLine; decide), fun p hp => ?_⟩
          exact ks _ p n y ((s12.trans (s4.trans s5)).trans (same_upd hp)) upd_same nk z
        · refine ⟨_, rfl, s4.trans s5, fun x hx => ?_⟩
          rw [List.take_add_one, hy] at hx
          rcases List.mem_append.mp hx with hx | hx
          · exact old2 x hx
          · have e : x = y := by simpa using hx
            rw [e]; simpa using z
      · obtain ⟨v4, rfl, s4, old2⟩ := h
        rw [List.length_map, List.take_length] at old2
        refine ⟨_, _, rfl, s4, fun n' hn' x hx => ?_⟩
        rw [take1] at hn'
        rcases List.mem_append.mp hn' with hn' | hn'
        · exact old n' hn' x hx
        · rw [List.mem_singleton.mp hn']; exact old2 x hx
    · obtain ⟨v3, v4, rfl, s3, all⟩ := h
      have e : (txs ns).length = ns.length := List.length_map ..
      rw [e, List.take_length] at all
      exact kn H' (s12.trans s3) (search_none nok vok all)
theorem scRow : FnScope ["condition"] ["condition"] (defScope sSomeRow) := ⟨rfl, rfl, rfl, by decide +kernel, rfl, by decide +kernel, by decide +kernel⟩
theorem ok_row (F : Fun K "some_row" "some_row" sSomeRow f fd) (c1 : Cal P w K mg base "check_condition" 1 (spChkCond ad)) (c2 : Cal P w K mg base "example" 23 (spEx ad)) : FnR P w K mg base CX0 24 f (spEx ad) := by
  refine fnR_of F scRow (fun _ _ _ _ _ _ us hl => match us, hl with | [_], _ => rfl) (fun vs H Q E h => ?_) (fun cdv A outer s H vs Q E hr h => ?_)
  · obtain ⟨_, _, rfl, _⟩ := h; rfl
  · obtain ⟨a, c, rfl, ha, hz, hok, hd, k⟩ := h
    refine ⟨_, pss_cons (ps_expr (pe_cal c1 (hr.mono (by decide)) rfl (pa_cons (pv 0) pa_nil))) (pss_one (ps_ret (pe_cal c2 hr rfl (pa_cons (pv 0) pa_nil)))), ?_⟩
    exact ⟨_, rfl, a, c, rfl, ha, _, rfl, a, c, rfl, ha, hz, hok, hd, k⟩
/-! ### implies, are_alike -/
theorem SsOk.app {a b : List Smp} (h : SsOk a) (g : SsOk b) : SsOk (a ++ b) := fun t ht => (List.mem_append.mp ht).elim (h t) (g t)
def spImp (ad : Kd → Addr) : Sp := fun vs H Q _ => ∃ (a b : Addr) (c d : Cond), vs = [.ref a, .ref b] ∧ CondAt ad H c a ∧ CondAt ad H d b ∧ c.simple.length + d.simple.length ≤ 15 ∧ SsOk c.simple ∧ SsOk d.simple ∧ c.depth ≤ 4 ∧ d.depth ≤ 4 ∧ ∀ H', Same H H' → Q (.bl (imp c d)) H'
theorem scImp : FnScope ["one", "other"] ["one", "other"] (defScope sImplies) := ⟨rfl, rfl, rfl, by decide +kernel, rfl, by decide +kernel, by decide +kernel⟩
theorem ok_imp (F : Fun K "implies" "implies" sImplies f fd) (c1 : Cal P w K mg base "check_condition" 1 (spChkCond ad)) (c2 : Cal P w K mg base "example" 23 (spEx ad)) (m1 : CalM P w K mg base "Both" (ad .both) 2 (spBoth ad)) (m2 : CalM P w K mg base "Opposite" (ad .opp) 2 (spOpp ad)) :
    FnR P w K mg base CX0 24 f (spImp ad) := by
  refine fnR_of F scImp (fun _ _ _ _ _ _ us hl => match us, hl with | [_, _], _ => rfl) (fun vs H Q E h => ?_) (fun cdv A outer s H vs Q E hr h => ?_)
  · obtain ⟨_, _, _, _, rfl, _⟩ := h; rfl
  · obtain ⟨a, b, c, d, rfl, ha, hb, hz, hc, hdk, h1, h2, k⟩ := h
    refine ⟨_, pss_cons (ps_expr (pe_cal c1 (hr.mono (by decide)) rfl (pa_cons (pv 0) pa_nil))) (pss_cons (ps_expr (pe_cal c1 (hr.mono (by decide)) rfl (pa_cons (pv 1) pa_nil)))
      (pss_one (ps_ret (pe_cmpR op_isN (pe_cal c2 hr rfl (pa_cons (pe_mk m1 (hr.mono (by decide)) rfl (pa_cons (pv 0) (pa_cons (pe_mk m2 (hr.mono (by decide)) rfl (pa_cons (pv 1) pa_nil)) pa_nil))) pa_nil)) pe_non (nomark _))))), ?_⟩
    refine ⟨_, rfl, a, c, rfl, ha, _, rfl, b, d, rfl, hb, _, rfl, _, rfl, fun x dx nx nd ne => ?_⟩
    have ps := pre_same (C := ad .opp) nx nd
    refine ⟨x, dx, b, d, rfl, upd_same, hb.same ps, fun H1 k1 hx1 => ⟨rfl, fun y dy ny ndy ney => ?_⟩⟩
    have s1 : Same H H1 := mk_same nx nd k1
    have ps2 := pre_same (C := ad .both) ny ndy
    refine ⟨y, dy, a, x, c, .opp d, rfl, upd_same, (ha.same s1).same ps2, hx1.same ps2, by simp only [Cond.simple]; omega, fun H2 k2 hy2 => ⟨rfl, ?_⟩⟩
    have s2 : Same H H2 := s1.trans (mk_same ny ndy k2)
    refine ⟨y, .both c (.opp d), rfl, hy2, by simp only [Cond.simple, List.length_append]; omega, hc.app hdk, by simp only [Cond.depth]; omega, fun H3 s3 none' => ⟨rfl, ?_⟩, fun H3 p kk v s3 _ kok hold => ⟨rfl, ?_⟩⟩
    · have z := k H3 (s2.trans s3)
      rw [imp_none none'] at z
      exact z
    · have z := k H3 (s2.trans s3)
      rw [imp_some kok hold] at z
      exact z
def spAlike (ad : Kd → Addr) : Sp := fun vs H Q _ => ∃ (a b : Addr) (c d : Cond), vs = [.ref a, .ref b] ∧ CondAt ad H c a ∧ CondAt ad H d b ∧ c.simple.length + d.simple.length ≤ 15 ∧ SsOk c.simple ∧ SsOk d.simple ∧ c.depth ≤ 4 ∧ d.depth ≤ 4 ∧ ∀ H', Same H H' → Q (.bl (alike c d)) H'
theorem scAlike : FnScope ["one", "other"] ["one", "other"] (defScope sAlike) := ⟨rfl, rfl, rfl, by decide +kernel, rfl, by decide +kernel, by decide +kernel⟩
theorem ok_alike (F : Fun K "are_alike" "are_alike" sAlike f fd) (c1 : Cal P w K mg base "implies" 24 (spImp ad)) : FnR P w K mg base CX0 25 f (spAlike ad) := by
  refine fnR_of F scAlike (fun _ _ _ _ _ _ us hl => match us, hl with | [_, _], _ => rfl) (fun vs H Q E h => ?_) (fun cdv A outer s H vs Q E hr h => ?_)
  · obtain ⟨_, _, _, _, rfl, _⟩ := h; rfl
  · obtain ⟨a, b, c, d, rfl, ha, hb, hz, hc, hdk, h1, h2, k⟩ := h
    refine ⟨_, pss_one (ps_ret (pe_and (pe_cal c1 hr rfl (pa_cons (pv 0) (pa_cons (pv 1) pa_nil))) (pe_one (pe_cal c1 hr rfl (pa_cons (pv 1) (pa_cons (pv 0) pa_nil)))))), ?_⟩
    refine ⟨_, rfl, _, rfl, a, b, c, d, rfl, ha, hb, hz, hc, hdk, h1, h2, fun H1 s1 => ⟨imp c d, rfl, ite2 (fun z => ?_) fun z => ?_⟩⟩
    · refine ⟨_, rfl, _, rfl, b, a, d, c, rfl, hb.same s1, ha.same s1, by omega, hdk, hc, h2, h1, fun H2 s2 => ?_⟩
      have y := k H2 (s1.trans s2)
      unfold alike at y
      rw [z, Bool.true_and] at y
      exact y
    · have y := k H1 s1
      have z' : imp c d = false := by simpa using z
      unfold alike at y
      rw [z', Bool.false_and] at y
      exact y
end
end N77

set_option Elab.async false
set_option linter.all false
set_option maxRecDepth 100000
set_option maxHeartbeats 4000000
namespace N77
open PySem PySem.Spec PyProof.Rows L2 M77
theorem cutV_mem {xs : List V} {lo hi : Option Int} {x : V} (h : x ∈ cutV xs lo hi) : x ∈ xs := by
  unfold cutV at h
  exact List.mem_of_mem_drop (List.mem_of_mem_take h)
section
variable {P : Program} {w : World} {K : PySem.W.Frag} {mg : Str → Option Value} {base : Heap} {f : Addr} {fd : FuncData} {ad fh : Kd → Addr}
/-! ### _law_hand -/
def spHand (K : PySem.W.Frag) : Sp := fun vs H Q _ => ∃ (a : Addr) (ns : List Int) (i : Int), vs = [.ref a, .int i] ∧ SqL K H a (ns.map V.int) ∧ ns.length ≤ 63 ∧ ∀ H' p x y, Same H H' → H p = none → H' p = some (.lst [.int x, .int y]) → Q (.ref p) H'
theorem scHand : FnScope ["_law_script", "_law_k", "_law_cell", "_law_seed"] ["_law_script", "_law_k"] (defScope sLHand) := ⟨rfl, rfl, rfl, by decide +kernel, rfl, by decide +kernel, by decide +kernel⟩
theorem boot_int' : bootBuiltins "int" = some (.type "int") := by decide +kernel
theorem ok_hand (F : Fun K "_law_hand" "_law_hand" sLHand f fd) (B : Bt mg) : FnR P w K mg base CX0 1 f (spHand K) := by
  refine fnR_of F scHand (fun _ _ _ _ _ _ us hl => match us, hl with | [_, _], _ => rfl) (fun vs H Q E h => ?_) (fun cdv A outer s H vs Q E hr h => ?_)
  · obtain ⟨_, _, _, rfl, _⟩ := h; rfl
  · obtain ⟨a, ns, i, rfl, ha, hz, k⟩ := h
    refine ⟨_, pss_cons (ps_set (i := 2) scHand.nd rfl (.inl rfl) (pe_ix ix_list (pe_op op_cat (pe_slice sl_list (pv 0) (po_some (pv 1)) (po_some (pe_op op_add (pv 1) pe_int))) (pe_lst (pa_cons pe_int pa_nil))) pe_int (fun _ _ => rfl)))
      (pss_cons (ps_set (i := 3) scHand.nd rfl (.inl rfl) (pe_op op_mod (pe_op op_mul (pe_op op_add (pe_op op_add (pe_op op_mod (pv 2) pe_int) (pe_op op_mul pe_int (pv 1))) pe_int) pe_int) pe_int))
      (pss_one (ps_ret (pe_lst (pa_cons (pe_op op_mul (pe_callTy call_int1 rfl B.int boot_int' (pa_cons (pe_cmpR op_ge (pv 2) (pe_op op_pow pe_int pe_int) (nomark _)) pa_nil)) (pv 2)) (pa_cons (pv 3) pa_nil)))))), ?_⟩
    refine ⟨_, rfl, _, rfl, i, rfl, _, rfl, _, _, rfl, rfl, _, rfl, a, _, rfl, ha, fun p hp => ⟨(by show 1 ≤ sizeLine; decide), fun q hq => ?_⟩⟩
    have hcl := cutV_length (ns.map V.int) (some i) (some (i + 1))
    rw [List.length_map] at hcl
    refine ⟨p, q, _, _, rfl, rfl, same_upd hq _ _ upd_same, upd_same, ?_, fun r hr => ?_⟩
    · exact small64 (by simp; omega)
    have all : ∀ x ∈ cutV (ns.map V.int) (some i) (some (i + 1)) ++ [V.int 0], ∃ z, x = V.int z := fun x hx => by
      rcases List.mem_append.mp hx with hx | hx
      · obtain ⟨z, _, rfl⟩ := List.mem_map.mp (cutV_mem hx); exact ⟨z, rfl⟩
      · exact ⟨0, List.mem_singleton.mp hx⟩
    obtain ⟨x, hx⟩ : ∃ x, (cutV (ns.map V.int) (some i) (some (i + 1)) ++ [V.int 0])[0]? = some x := by
      cases e : cutV (ns.map V.int) (some i) (some (i + 1)) with
      | nil => exact ⟨_, rfl⟩
      | cons y r => exact ⟨_, rfl⟩
    obtain ⟨z, rfl⟩ := all x (List.mem_of_getElem? hx)
    refine ⟨r, _, 0, V.int z, rfl, rfl, SqL.of upd_same, atI_nat (j := 0) hx, ?_⟩
    refine ⟨_, rfl, z, 2147483647, rfl, rfl, (by show (0 : Int) < 2147483647; decide), _, rfl, 7919, i, rfl, rfl, .inl (by decide), _, _, rfl, rfl, _, 1, rfl, rfl, _, 48271, rfl, rfl, .inr (by decide), _, 2147483629, rfl, rfl, (by show (0 : Int) < 2147483629; decide), ?_⟩
    refine ⟨_, rfl, 10, 18, rfl, rfl, ⟨by decide, by decide, by decide⟩, z, _, rfl, rfl, .inr ⟨_, rfl, _, rfl, _, z, rfl, rfl, .inl ?_, _, rfl, (by show 2 ≤ sizeLine; decide), fun u hu => ?_⟩⟩
    · split <;> decide
    · have s1 : Same H (upd (upd (upd H p (.lst (cutV (ns.map V.int) (some i) (some (i + 1))))) q (.lst [V.int 0])) r (.lst (cutV (ns.map V.int) (some i) (some (i + 1)) ++ [V.int 0]))) := ((same_upd hp).trans (same_upd hq)).trans (same_upd hr)
      exact k _ u _ _ (s1.trans (same_upd hu)) (s1.free hu) upd_same
/-! ### _law_draw -/
def spDraw : Sp := fun vs H Q _ => ∃ (p : Addr) (n x y : Int), vs = [.ref p, .int n] ∧ H p = some (.lst [.int x, .int y]) ∧ 0 < n ∧ n ≤ 1000 ∧ ∀ r x' y', 0 ≤ r → r < n → Q (.int r) (upd H p (.lst [.int x', .int y']))
theorem scDraw : FnScope ["_law_pool", "_law_size", "_law_found"] ["_law_pool", "_law_size"] (defScope sLDraw) := ⟨rfl, rfl, rfl, by decide +kernel, rfl, by decide +kernel, by decide +kernel⟩
theorem ok_draw (F : Fun K "_law_draw" "_law_draw" sLDraw f fd) : FnR P w K mg base CX0 1 f spDraw := by
  refine fnR_of F scDraw (fun _ _ _ _ _ _ us hl => match us, hl with | [_, _], _ => rfl) (fun vs H Q E h => ?_) (fun cdv A outer s H vs Q E hr h => ?_)
  · obtain ⟨_, _, _, _, rfl, _⟩ := h; rfl
  · obtain ⟨p, n, x, y, rfl, hp, h0, h1, k⟩ := h
    refine ⟨_, pss_cons (ps_if (pt_cmpR op_gt (pe_ix ix_list (pv 0) pe_int (fun _ _ => rfl)) pe_int (nomark _))
        (pss_cons (ps_set (i := 2) scDraw.nd rfl (.inl rfl) (pe_op op_mod (pe_ix ix_list (pv 0) pe_int (fun _ _ => rfl)) (pv 1)))
        (pss_cons (ps_asg (pe_op op_fdiv (pe_ix ix_list (pv 0) pe_int (fun _ _ => rfl)) (pv 1)) (pg_sub (pv 0) pe_int set_list))
        (pss_one (ps_ret (pv 2))))) pss_nil)
      (pss_cons (ps_asg (pe_op op_mod (pe_op op_add (pe_op op_mul (pe_ix ix_list (pv 0) pe_int (fun _ _ => rfl)) pe_int) pe_int) pe_int) (pg_sub (pv 0) pe_int set_list))
      (pss_one (ps_ret (pe_op op_mod (pe_op op_fdiv (pe_op op_mod (pe_op op_mul (pe_ix ix_list (pv 0) pe_int (fun _ _ => rfl)) (pe_ix ix_list (pv 0) pe_int (fun _ _ => rfl))) pe_int) pe_int) (pv 1))))), ?_⟩
    refine ⟨_, rfl, p, _, 0, _, rfl, rfl, SqL.of hp, atI_nat (j := 0) rfl, x, 0, rfl, rfl, decide (0 < x), rfl, ite2 (fun z => ?_) fun z => ?_⟩
    · refine ⟨_, rfl, p, _, 0, _, rfl, rfl, SqL.of hp, atI_nat (j := 0) rfl, _, rfl, x, n, rfl, rfl, h0, ?_⟩
      refine ⟨_, rfl, p, _, 0, _, rfl, rfl, SqL.of hp, atI_nat (j := 0) rfl, _, rfl, x, n, rfl, rfl, ⟨h0, by omega⟩, _, rfl, p, _, 0, 0, rfl, rfl, hp, rfl, ?_⟩
      exact ⟨_, rfl, k (x % n) (x / n) y (Int.emod_nonneg _ (by omega)) (Int.emod_lt_of_pos _ h0)⟩
    · refine ⟨_, rfl, p, _, 1, _, rfl, rfl, SqL.of hp, atI_nat (j := 1) rfl, y, 48271, rfl, rfl, .inr (by decide), _, 11, rfl, rfl, _, 2147483647, rfl, rfl, (by show (0 : Int) < 2147483647; decide), _, rfl, p, _, 1, 1, rfl, rfl, hp, rfl, ?_⟩
      have b0 : 0 ≤ (y * 48271 + 11) % 2147483647 := Int.emod_nonneg _ (by decide)
      have b1 : (y * 48271 + 11) % 2147483647 < 2147483647 := Int.emod_lt_of_pos _ (by decide)
      refine ⟨_, rfl, p, _, 1, _, rfl, rfl, SqL.of upd_same, atI_nat (j := 1) rfl, _, rfl, p, _, 1, _, rfl, rfl, SqL.of upd_same, atI_nat (j := 1) rfl, _, _, rfl, rfl, .inl ⟨by omega, by omega⟩, _, 2147483629, rfl, rfl, (by show (0 : Int) < 2147483629; decide), _, 64, rfl, rfl, ⟨by decide, by decide⟩, _, rfl, _, n, rfl, rfl, h0, ?_⟩
      exact k _ x _ (Int.emod_nonneg _ (by omega)) (Int.emod_lt_of_pos _ h0)
/-! ### _law_key -/
theorem Keep.pool {p : Addr} {H H' : Hp} : True := trivial
def spKey : Sp := fun vs H Q _ => ∃ (p : Addr) (n : Int), vs = [.ref p, .int n] ∧ Pool H p ∧ 0 < n ∧ n ≤ 5 ∧ ∀ H' key, Keep p H H' → Pool H' p → OkKey key → Q (.str (S key)) H'
theorem scKey : FnScope ["_law_pool", "_law_many", "_law_turn"] ["_law_pool", "_law_many"] (defScope sLKey) := ⟨rfl, rfl, rfl, by decide +kernel, rfl, by decide +kernel, by decide +kernel⟩
def six : Tx := [97, 98, 122, 48, 57, 109]
theorem six_S : (("abz09m" : Str)) = S six := by decide +kernel
theorem join_S : ∀ l : List Nat, Txt.join (S []) (l.map fun c => S [c]) = S l := fun l => by
  show Builtin.Str.glued (S []) (l.map fun c => S [c]) = S l
  rw [StrLaws.glued_eq_join]
  induction l with
  | nil => rfl
  | cons c r ih =>
    cases r with
    | nil => rfl
    | cons d r =>
      show S [c] ++ S [] ++ Str.join (S []) ((d :: r).map fun c => S [c]) = S (c :: d :: r)
      rw [ih]
      apply Str.ext'
      simp [S, Str.cps_append]
theorem ones_sum : ∀ l : List Nat, ((l.map fun c => S [c]).map fun x => x.length).sum = l.length
  | [] => rfl
  | c :: r => by
    show (S [c]).length + ((r.map fun c => S [c]).map fun x => x.length).sum = (c :: r).length
    rw [ones_sum r, S_len]
    simp [Nat.add_comm]
theorem six_ok : ∀ c ∈ six, c ∈ chars := by decide +kernel
theorem ok_key (F : Fun K "_law_key" "_law_key" sLKey f fd) (B : Bt mg) (cD : Cal P w K mg base "_law_draw" 1 spDraw) : FnR P w K mg base CX0 2 f spKey := by
  refine fnR_of F scKey (fun _ _ _ _ _ _ us hl => match us, hl with | [_, _], _ => rfl) (fun vs H Q E h => ?_) (fun cdv A outer s H vs Q E hr h => ?_)
  · obtain ⟨_, _, rfl, _⟩ := h; rfl
  · obtain ⟨p, n, rfl, hp, h0, h1, k⟩ := h
    refine ⟨_, pss_one (ps_ret (pe_join pe_str (pe_lc (own := [("_law_turn", 2)]) (g := gName 2) rfl scKey.nd (pi_range1 rfl B.range (pa_cons (pe_op op_add pe_int (pe_cal cD hr rfl (pa_cons (pv 0) (pa_cons (pv 1) pa_nil)))) pa_nil))
      (blkOk_by (own := [("_law_turn", 2)]) (N := ["_law_pool", "_law_many", "_law_turn"]) (sc := defScope sLKey) (by decide +kernel))
      (fun _ _ _ _ _ => pg_name (i := 2) scKey.nd rfl (Or.inl rfl)) (fun _ _ _ _ _ => pts_nil)
      (fun _ _ _ _ _ => pe_ix ix_str pe_str (pe_cal cD hr rfl (pa_cons (pv 0) (pa_cons pe_int pa_nil))) (fun _ _ => rfl))))), ?_⟩
    rw [empty_S, six_S]
    obtain ⟨x0, y0, hp0⟩ := hp
    refine ⟨⟨_, rfl⟩, _, rfl, _, rfl, p, n, x0, y0, rfl, hp0, h0, by omega, fun r x1 y1 b0 b1 => ?_⟩
    refine ⟨_, _, rfl, rfl, _, rfl, by omega, by omega, fun D hD => ?_⟩
    have hne : D ≠ p := fun z => by
      rw [z, upd_same] at hD
      cases hD
    have hD0 : H D = none := by rw [upd_ne hne] at hD; exact hD
    refine lc_it walk_range (fun i H' => Keep p H H' ∧ Pool H' p ∧ ∃ l : List Nat, l.length = i ∧ (∀ c ∈ l, c ∈ chars) ∧ H' D = some (.lst (l.map fun c => V.str (S [c])))) ⟨?_, ?_, [], rfl, (fun _ h => nomatch h), upd_same⟩ (fun _ _ _ _ => trivial) (fun i y H1 H' hi q hy => ?_) (fun H1 q => ?_)
    · exact (keep_upd).trans ((same_upd hD).keep)
    · exact ⟨x1, y1, by rw [upd_ne (Ne.symm hne)]; exact upd_same⟩
    · obtain ⟨rfl, _⟩ := hy
      obtain ⟨qk, ⟨x2, y2, hp2⟩, l, rfl, hl, hd⟩ := q
      refine ⟨rfl, _, rfl, p, 6, x2, y2, rfl, hp2, by decide, by decide, fun r2 x3 y3 c0 c1 => ?_⟩
      obtain ⟨c, hc⟩ : ∃ c, six[r2.toNat]? = some c := ⟨six[r2.toNat]'(by show r2.toNat < 6; omega), List.getElem?_eq_getElem _⟩
      have hr2 : r2 = (r2.toNat : Int) := by omega
      refine ⟨S six, r2, c, rfl, rfl, by decide +kernel, by rw [hr2]; exact atI_nat hc, _, by rw [upd_ne hne]; exact hd, ?_, ?_, ?_, l ++ [c], by simp, ?_, ?_⟩
      · rw [List.length_map]; exact small1000 (by omega)
      · exact fun b o e n => by
          rw [upd_ne (ne_of_none e hD0), upd_ne n]; exact qk b o e n
      · exact ⟨x3, y3, by rw [upd_ne (Ne.symm hne)]; exact upd_same⟩
      · intro z hz
        rcases List.mem_append.mp hz with hz | hz
        · exact hl z hz
        · rw [List.mem_singleton.mp hz]; exact six_ok c (List.mem_of_getElem? hc)
      · rw [upd_same, List.map_append]; rfl
    · obtain ⟨qk, qp, l, hn, hl, hd⟩ := q
      refine ⟨S [], D, l.map fun c => S [c], rfl, rfl, .inl (SqL.of (by rw [List.map_map]; exact hd)), ?_, ?_⟩
      · rw [ones_sum, S_len]; simp; omega
      · rw [join_S]
        exact k H1 l qk qp ⟨hl, by omega, by omega⟩
end
end N77

set_option Elab.async false
set_option linter.all false
set_option maxRecDepth 100000
set_option maxHeartbeats 4000000
namespace N77
open PySem PySem.Spec PyProof.Rows L2 M77
section
variable {P : Program} {w : World} {K : PySem.W.Frag} {mg : Str → Option Value} {base : Heap} {f : Addr} {fd : FuncData} {ad fh : Kd → Addr} {cC fl fc fa fo fi : Addr}
/-! ### a draw, by what it leaves -/
def spDrw : Sp := fun vs H Q _ => ∃ (p : Addr) (n : Int), vs = [.ref p, .int n] ∧ Pool H p ∧ 0 < n ∧ n ≤ 1000 ∧ ∀ H' r, Keep p H H' → Pool H' p → 0 ≤ r → r < n → Q (.int r) H'
theorem cal_drw (c : Cal P w K mg base "_law_draw" 1 spDraw) : Cal P w K mg base "_law_draw" 1 spDrw := by
  obtain ⟨a, hm, hk, F⟩ := c
  refine ⟨a, hm, hk, F.imp fun vs H Q E h => ?_⟩
  obtain ⟨p, n, rfl, ⟨x, y, hp⟩, h0, h1, k⟩ := h
  exact ⟨p, n, x, y, rfl, hp, h0, h1, fun r x' y' b0 b1 => k _ r keep_upd ⟨x', y', upd_same⟩ b0 b1⟩
/-! ### the operators -/
structure Ops (P : Program) (w : World) (K : PySem.W.Frag) (mg : Str → Option Value) (base : Heap) (ad : Kd → Addr) (cC fl fc fa fo fi : Addr) : Prop where
  O : OpF K mg ad cC fl fc fa fo fi
  A : FnR P w K mg base CX0 4 fa (spAnd ad)
  R : FnR P w K mg base CX0 4 fo (spOr ad)
  I : FnR P w K mg base CX0 4 fi (spInv ad)
  C : FnR P w K mg base CX0 8 fc (spCall ad)
section
variable {X : Cx} {H : Hp} {Q : VK} {a b : Addr} {c d : Cond}
theorem rd_and (O : Ops X.prog X.w X.K X.mg X.base ad cC fl fc fa fo fi) (hr : Room 4 X.A) (ha : CondAt ad H c a) (hb : CondAt ad H d b) (hz : c.simple.length + d.simple.length ≤ 30)
    (k : ∀ r H', Same H H' → CondAt ad H' (.both c d) r → Q (.ref r) H') : rBin X "and" (.ref a) (.ref b) H Q := by
  obtain ⟨_, _, _, _, h1, _⟩ := ha.core
  obtain ⟨_, _, _, _, h2, _⟩ := hb.core
  exact ⟨a, b, _, _, fa, 4, _, rfl, rfl, ⟨_, _, h1⟩, ⟨_, _, h2⟩, O.O.and_ _ _, O.A, hr, a, b, c, d, rfl, ha, hb, hz, k⟩
theorem rd_or (O : Ops X.prog X.w X.K X.mg X.base ad cC fl fc fa fo fi) (hr : Room 4 X.A) (ha : CondAt ad H c a) (hb : CondAt ad H d b) (hz : c.simple.length + d.simple.length ≤ 30)
    (k : ∀ r H', Same H H' → CondAt ad H' (.either c d) r → Q (.ref r) H') : rBin X "or" (.ref a) (.ref b) H Q := by
  obtain ⟨_, _, _, _, h1, _⟩ := ha.core
  obtain ⟨_, _, _, _, h2, _⟩ := hb.core
  exact ⟨a, b, _, _, fo, 4, _, rfl, rfl, ⟨_, _, h1⟩, ⟨_, _, h2⟩, O.O.or_ _ _, O.R, hr, a, b, c, d, rfl, ha, hb, hz, k⟩
theorem rd_inv (O : Ops X.prog X.w X.K X.mg X.base ad cC fl fc fa fo fi) (hr : Room 4 X.A) (ha : CondAt ad H c a)
    (k : ∀ r H', Same H H' → CondAt ad H' (.opp c) r → Q (.ref r) H') : rInv X (.ref a) H Q := by
  obtain ⟨_, _, _, _, h1, _⟩ := ha.core
  exact ⟨a, _, fi, 4, _, rfl, ⟨_, _, h1⟩, O.O.inv _, O.O.invf, O.I, hr, a, c, rfl, ha, k⟩
end
/-! ### _law_condition -/
def spCond (ad : Kd → Addr) (dp : Nat) : Sp := fun vs H Q _ => ∃ (p : Addr), vs = [.ref p, .int dp] ∧ Pool H p ∧
  ∀ H' r c, Keep p H H' → Pool H' p → CondAt ad H' c r → c.simple.length ≤ dp + 1 → c.depth ≤ dp → SsOk c.simple → Q (.ref r) H'
theorem scCond : FnScope ["_law_pool", "_law_deep", "_law_way", "_law_least", "_law_one", "_law_other"] ["_law_pool", "_law_deep"] (defScope sLCond) := ⟨rfl, rfl, rfl, by decide +kernel, rfl, by decide +kernel, by decide +kernel⟩
theorem beg_ok {t : Tx} (h : OkTx t) (g : t.length ≤ 20) : SsOk [Smp.beg t] := fun u hu => by
  have e : Smp.beg u = Smp.beg t := List.mem_singleton.mp hu
  cases e
  exact ⟨h, g⟩
theorem len_ok {a b : Int} : SsOk [Smp.len a b] := fun u hu => by have e := List.mem_singleton.mp hu; cases e
theorem val_ok {a b : Option Int} : SsOk [Smp.val a b] := fun u hu => by have e := List.mem_singleton.mp hu; cases e
def menu : List Tx := [[], [97], [97, 98], [98], [48], [97, 98, 122]]
theorem menu_S : [V.str "", V.str "a", V.str "ab", V.str "b", V.str "0", V.str "abz"] = menu.map fun t => V.str (S t) := by decide +kernel
theorem menu_ok : ∀ t ∈ menu, (∀ c ∈ t, c ∈ chars) ∧ t.length ≤ 20 := by decide +kernel
/-- the heap ahead of __init__ when drawn in between -/
theorem pre_pool {H : Hp} {x dx C p : Addr} (nx : H x = none) (nd : H dx = none) (h : Pool H p) : Pool (upd (upd H dx (.own x)) x (.ins C dx [])) p := h.same (pre_same nx nd)
abbrev nCond : List Str := ["_law_pool", "_law_deep", "_law_way", "_law_least", "_law_one", "_law_other"]
theorem pool_ne {H : Hp} {p q : Addr} (h : Pool H p) (hq : H q = none) : q ≠ p := fun z => by
  obtain ⟨x, y, e⟩ := h
  rw [z, e] at hq
  cases hq
theorem Pool.upd {H : Hp} {p q : Addr} {o : HO} (h : Pool H p) (hq : H q = none) : Pool (L2.upd H q o) p := h.same (same_upd hq)
theorem pick2 (i : Int) {r : Int} (h0 : 0 ≤ r) (h1 : r < 2) : ∃ l : Option Int, (l = none ∨ l = some i) ∧ atI [V.non, V.int i] r = some (optV l) := by
  rcases (by omega : r = 0 ∨ r = 1) with rfl | rfl
  · exact ⟨none, .inl rfl, atI_nat (j := 0) rfl⟩
  · exact ⟨some i, .inr rfl, atI_nat (j := 1) rfl⟩
theorem cond_tail {cdv : Value} {A : Around} {outer : List Env} {s : Shared} {H0 H : Hp} {E : XK} {Q : VK} {p : Addr} (dp : Nat)
    (hr : Room 5 (A.deeper (envOfC "_law_condition" (defScope sLCond) s.heap.objs.size f cdv)))
    (cD : Cal P w K mg base "_law_draw" 1 spDrw) (cB : CalM P w K mg base "Begins" (ad .begins) 2 (spBegins ad)) (cL : CalM P w K mg base "Length" (ad .length) 4 (spLength ad)) (cV : CalM P w K mg base "Value" (ad .value) 2 (spValue ad))
    (k : ∀ H' r s, Keep p H H' → Pool H' p → CondAt ad H' (.smp s) r → SsOk [s] → Q (.ref r) H')
    {t : TS} (ht : PSs (cxOf CX0 P w K mg base nCond "_law_condition" (defScope sLCond) f cdv A outer s H0 E).nox ((defBody sLCond).drop 4) t)
    (go : ∀ H' y, dp = 1 → Keep p H H' → Pool H' p → 3 ≤ y → y < 7 → t { nx := fun _ H' => Q .non H', rt := Q } [some (.ref p), some (.int dp), some (.int y), none, none, none] H') :
    ∃ t, PSs (cxOf CX0 P w K mg base nCond "_law_condition" (defScope sLCond) f cdv A outer s H0 E).nox ((defBody sLCond).drop 1) t ∧
      ∀ H1 y, Keep p H H1 → Pool H1 p → 0 ≤ y → (y < 3 ∨ (dp = 1 ∧ y < 7)) → t { nx := fun _ H' => Q .non H', rt := Q } [some (.ref p), some (.int dp), some (.int y), none, none, none] H1 := by
  have hr1 := hr.mono (show 1 ≤ 5 by decide)
  refine ⟨_, (pss_cons (ps_if (pt_cmpR op_eq (pv 2) pe_int (nomark _)) (pss_one (ps_ret (pe_mk cB (hr.mono (by decide)) rfl (pa_cons (pe_ix ix_list (pe_lst (pa_cons pe_str (pa_cons pe_str (pa_cons pe_str (pa_cons pe_str (pa_cons pe_str (pa_cons pe_str pa_nil))))))) (pe_cal cD hr1 rfl (pa_cons (pv 0) (pa_cons pe_int pa_nil))) (fun _ _ => rfl)) pa_nil)))) pss_nil)
    (pss_cons (ps_if (pt_cmpR op_eq (pv 2) pe_int (nomark _)) (pss_cons (ps_set (i := 3) scCond.nd rfl (.inl rfl) (pe_op op_add pe_int (pe_cal cD hr1 rfl (pa_cons (pv 0) (pa_cons pe_int pa_nil)))))
      (pss_one (ps_ret (pe_mk cL hr rfl (pa_cons (pv 3) (pa_cons (pe_op op_add (pv 3) (pe_cal cD hr1 rfl (pa_cons (pv 0) (pa_cons pe_int pa_nil)))) pa_nil)))))) pss_nil)
    (pss_cons (ps_if (pt_cmpR op_eq (pv 2) pe_int (nomark _)) (pss_cons (ps_set (i := 3) scCond.nd rfl (.inl rfl) (pe_op op_sub (pe_cal cD hr1 rfl (pa_cons (pv 0) (pa_cons pe_int pa_nil))) pe_int))
      (pss_one (ps_ret (pe_mk cV (hr.mono (by decide)) rfl (pa_cons (pe_ix ix_list (pe_lst (pa_cons pe_non (pa_cons (pv 3) pa_nil))) (pe_cal cD hr1 rfl (pa_cons (pv 0) (pa_cons pe_int pa_nil))) (fun _ _ => rfl))
        (pa_cons (pe_ix ix_list (pe_lst (pa_cons pe_non (pa_cons (pe_op op_add (pv 3) (pe_cal cD hr1 rfl (pa_cons (pv 0) (pa_cons pe_int pa_nil)))) pa_nil))) (pe_cal cD hr1 rfl (pa_cons (pv 0) (pa_cons pe_int pa_nil))) (fun _ _ => rfl)) pa_nil)))))) pss_nil) ht))), ?_⟩
  intro H1 y kH pH y0 yb
  by_cases e0 : y = 0
  · subst e0
    refine ⟨_, rfl, rfl, true, congrArg V.bl (decide_eq_true rfl), iteT ⟨(by show 6 ≤ sizeLine; decide), fun q hq => ?_⟩⟩
    refine ⟨_, rfl, p, 6, rfl, pH.upd hq, by decide, by decide, fun H2 r k2 p2 b0 b1 => ?_⟩
    obtain ⟨tx, htx⟩ : ∃ tx, menu[r.toNat]? = some tx := ⟨menu[r.toNat]'(by show r.toNat < 6; omega), List.getElem?_eq_getElem _⟩
    have hr2 : r = (r.toNat : Int) := by omega
    obtain ⟨m1, m2⟩ := menu_ok tx (List.mem_of_getElem? htx)
    refine ⟨q, menu.map fun t => V.str (S t), r, .str (S tx), rfl, rfl, SqL.of (k2 _ _ (by rw [← menu_S]; exact upd_same) (pool_ne pH hq)), ?_, fun x dx nx nd ne => ?_⟩
    · rw [hr2]; exact atI_nat (by rw [List.getElem?_map, htx]; rfl)
    refine ⟨tx, m1, m2, x, dx, rfl, upd_same, fun H3 k3 c3 => ⟨rfl, k H3 x (.beg tx) ?_ ?_ c3 (beg_ok m1 m2)⟩⟩
    · exact kH.trans (((same_upd hq).keep).trans (k2.trans (mk_same nx nd k3).keep))
    · exact p2.same (mk_same nx nd k3)
  by_cases e1 : y = 1
  · subst e1
    refine ⟨_, rfl, rfl, false, congrArg V.bl (decide_eq_false (fun z => by cases z)), iteF ?_⟩
    refine ⟨_, rfl, rfl, true, congrArg V.bl (decide_eq_true rfl), iteT ?_⟩
    refine ⟨_, rfl, p, 4, rfl, pH, by decide, by decide, fun H2 r k2 p2 b0 b1 => ⟨_, _, rfl, rfl, _, rfl, ?_⟩⟩
    refine ⟨_, rfl, _, rfl, p, 3, rfl, p2, by decide, by decide, fun H3 r3 k3 p3 c0 c1 => ⟨_, _, rfl, rfl, fun x dx nx nd ne => ?_⟩⟩
    refine ⟨1 + r, 1 + r + r3, by omega, by omega, by omega, x, dx, rfl, upd_same, fun H4 k4 c4 => ⟨rfl, k H4 x (.len (1 + r) (1 + r + r3)) ?_ ?_ c4 len_ok⟩⟩
    · exact kH.trans (k2.trans (k3.trans (mk_same nx nd k4).keep))
    · exact p3.same (mk_same nx nd k4)
  by_cases e2 : y = 2
  · subst e2
    refine ⟨_, rfl, rfl, false, congrArg V.bl (decide_eq_false (fun z => by cases z)), iteF ?_⟩
    refine ⟨_, rfl, rfl, false, congrArg V.bl (decide_eq_false (fun z => by cases z)), iteF ?_⟩
    refine ⟨_, rfl, rfl, true, congrArg V.bl (decide_eq_true rfl), iteT ?_⟩
    refine ⟨_, rfl, p, 9, rfl, pH, by decide, by decide, fun H2 r k2 p2 b0 b1 => ⟨_, _, rfl, rfl, _, rfl, ?_⟩⟩
    show (2 : Nat) ≤ sizeLine ∧ _
    refine ⟨by decide, fun q hq => ⟨_, rfl, p, 2, rfl, p2.upd hq, by decide, by decide, fun H3 r3 k3 p3 c0 c1 => ?_⟩⟩
    obtain ⟨l, hl, al⟩ := pick2 (r - 4) c0 c1
    refine ⟨q, _, r3, optV l, rfl, rfl, SqL.of (k3 _ _ upd_same (pool_ne p2 hq)), al, ?_⟩
    refine ⟨_, rfl, _, rfl, p, 4, rfl, p3, by decide, by decide, fun H4 r4 k4 p4 d0 d1 => ⟨_, _, rfl, rfl, (by show 2 ≤ sizeLine; decide), fun q2 hq2 => ?_⟩⟩
    refine ⟨_, rfl, p, 2, rfl, p4.upd hq2, by decide, by decide, fun H5 r5 k5 p5 f0 f1 => ?_⟩
    obtain ⟨m, hm, am⟩ := pick2 (r - 4 + r4) f0 f1
    refine ⟨q2, _, r5, optV m, rfl, rfl, SqL.of (k5 _ _ upd_same (pool_ne p4 hq2)), am, fun x dx nx nd ne => ?_⟩
    refine ⟨l, m, fun i j ei ej => ?_, x, dx, rfl, upd_same, fun H6 k6 c6 => ⟨rfl, k H6 x (.val l m) ?_ ?_ c6 val_ok⟩⟩
    · rcases hl with hl | hl <;> rcases hm with hm | hm <;> subst hl <;> subst hm <;> cases ei <;> cases ej
      omega
    · exact kH.trans (k2.trans (((same_upd hq).keep).trans (k3.trans (k4.trans (((same_upd hq2).keep).trans (k5.trans (mk_same nx nd k6).keep))))))
    · exact p5.same (mk_same nx nd k6)
  · refine ⟨_, rfl, rfl, false, congrArg V.bl (decide_eq_false (fun z => e0 (V.int.inj z))), iteF ?_⟩
    refine ⟨_, rfl, rfl, false, congrArg V.bl (decide_eq_false (fun z => e1 (V.int.inj z))), iteF ?_⟩
    refine ⟨_, rfl, rfl, false, congrArg V.bl (decide_eq_false (fun z => e2 (V.int.inj z))), iteF ?_⟩
    rcases yb with yb | ⟨yd, yb⟩
    · omega
    · exact go H1 y yd kH pH (by omega) yb
theorem ok_cond0 (F : Fun K "_law_condition" "_law_condition" sLCond f fd)
    (cD : Cal P w K mg base "_law_draw" 1 spDrw) (cB : CalM P w K mg base "Begins" (ad .begins) 2 (spBegins ad)) (cL : CalM P w K mg base "Length" (ad .length) 4 (spLength ad)) (cV : CalM P w K mg base "Value" (ad .value) 2 (spValue ad)) :
    FnR P w K mg base CX0 6 f (spCond ad 0) := by
  refine fnR_of F scCond (fun _ _ _ _ _ _ us hl => match us, hl with | [_, _], _ => rfl) (fun vs H Q E h => ?_) (fun cdv A outer s H vs Q E hr h => ?_)
  · obtain ⟨_, rfl, _⟩ := h; rfl
  · obtain ⟨p, rfl, hp, k⟩ := h
    obtain ⟨t, ht, go⟩ := cond_tail (H := H) (Q := Q) (p := p) (H0 := H) (E := E) 0 hr cD cB cL cV (fun H' r s kk pp cc ss => k H' r (.smp s) kk pp cc (by show 1 ≤ 1; decide) (Nat.le_refl _) ss) pss_never (fun _ _ z => by cases z)
    refine ⟨_, pss_cons (ps_set (i := 2) scCond.nd rfl (.inl rfl) (pe_ifExp (pt_cmpR op_gt (pv 1) pe_int (nomark _)) (pe_cal cD (hr.mono (by decide)) rfl (pa_cons (pv 0) (pa_cons pe_int pa_nil))) (pe_cal cD (hr.mono (by decide)) rfl (pa_cons (pv 0) (pa_cons pe_int pa_nil))))) ht, ?_⟩
    refine ⟨_, rfl, _, _, rfl, rfl, false, rfl, iteF ⟨_, rfl, p, 3, rfl, hp, by decide, by decide, fun H1 r k1 p1 b0 b1 => ?_⟩⟩
    exact go H1 r k1 p1 b0 (.inl b1)
theorem ok_cond1 (F : Fun K "_law_condition" "_law_condition" sLCond f fd) (O : Ops P w K mg base ad cC fl fc fa fo fi) (c0 : Cal P w K mg base "_law_condition" 6 (spCond ad 0))
    (cD : Cal P w K mg base "_law_draw" 1 spDrw) (cB : CalM P w K mg base "Begins" (ad .begins) 2 (spBegins ad)) (cL : CalM P w K mg base "Length" (ad .length) 4 (spLength ad)) (cV : CalM P w K mg base "Value" (ad .value) 2 (spValue ad)) :
    FnR P w K mg base CX0 7 f (spCond ad 1) := by
  refine fnR_of F scCond (fun _ _ _ _ _ _ us hl => match us, hl with | [_, _], _ => rfl) (fun vs H Q E h => ?_) (fun cdv A outer s H vs Q E hr h => ?_)
  · obtain ⟨_, rfl, _⟩ := h; rfl
  · obtain ⟨p, rfl, hp, k⟩ := h
    have hr4 := hr.mono (show 4 ≤ 6 by decide)
    obtain ⟨t, ht, go⟩ := cond_tail (H := H) (Q := Q) (p := p) (H0 := H) (E := E) (ad := ad) 1 (hr.mono (by decide)) cD cB cL cV (fun H' r s kk pp cc ss => k H' r (.smp s) kk pp cc (by show 1 ≤ 2; decide) (Nat.zero_le _) ss)
      (pss_cons (ps_set (i := 4) scCond.nd rfl (.inl rfl) (pe_cal c0 hr rfl (pa_cons (pv 0) (pa_cons (pe_op op_sub (pv 1) pe_int) pa_nil))))
      (pss_cons (ps_if (pt_cmpR op_eq (pv 2) pe_int (nomark _)) (pss_one (ps_ret (pe_un un_own (pv 4)))) pss_nil)
      (pss_cons (ps_set (i := 5) scCond.nd rfl (.inl rfl) (pe_cal c0 hr rfl (pa_cons (pv 0) (pa_cons (pe_op op_sub (pv 1) pe_int) pa_nil))))
      (pss_one (ps_ret (pe_ifExp (pt_cmpR op_lt (pv 2) pe_int (nomark _)) (pe_op op_bin (pv 4) (pv 5)) (pe_op op_bin (pv 4) (pv 5))))))))
      (fun H1 y _ k1 p1 y3 y7 => by
        refine ⟨_, rfl, _, rfl, _, _, rfl, rfl, p, rfl, p1, fun H2 a c k2 p2 hc z2 d2 o2 => ?_⟩
        have kk := k1.trans k2
        by_cases e3 : y = 3
        · subst e3
          refine ⟨_, rfl, rfl, true, congrArg V.bl (decide_eq_true rfl), iteT ⟨_, rfl, ?_⟩⟩
          refine rd_inv O hr4 hc fun r H3 s3 hr3 => ?_
          exact k H3 r (.opp c) (kk.trans s3.keep) (p2.same s3) hr3 (by simp only [Cond.simple]; omega) (by simp only [Cond.depth]; omega) o2
        · refine ⟨_, rfl, rfl, false, congrArg V.bl (decide_eq_false (fun z => e3 (V.int.inj z))), iteF ?_⟩
          refine ⟨_, rfl, _, rfl, _, _, rfl, rfl, p, rfl, p2, fun H3 b d k3 p3 hd z3 d3 o3 => ?_⟩
          have hc3 := hc.keep p2.loose k3
          have kk3 := kk.trans k3
          have hs : c.simple.length + d.simple.length ≤ 2 := by omega
          refine ⟨_, rfl, _, _, rfl, rfl, _, rfl, ite2 (fun z => ?_) fun z => ?_⟩
          · refine ⟨_, rfl, _, rfl, rd_and O hr4 hc3 hd (by omega) fun r H4 s4 h4 => ?_⟩
            exact k H4 r (.both c d) (kk3.trans s4.keep) (p3.same s4) h4 (by simp only [Cond.simple, List.length_append]; omega) (by simp only [Cond.depth]; omega) (o2.app o3)
          · refine ⟨_, rfl, _, rfl, rd_or O hr4 hc3 hd (by omega) fun r H4 s4 h4 => ?_⟩
            exact k H4 r (.either c d) (kk3.trans s4.keep) (p3.same s4) h4 (by simp only [Cond.simple, List.length_append]; omega) (by simp only [Cond.depth]; omega) (o2.app o3))
    refine ⟨_, pss_cons (ps_set (i := 2) scCond.nd rfl (.inl rfl) (pe_ifExp (pt_cmpR op_gt (pv 1) pe_int (nomark _)) (pe_cal cD (hr.mono (by decide)) rfl (pa_cons (pv 0) (pa_cons pe_int pa_nil))) (pe_cal cD (hr.mono (by decide)) rfl (pa_cons (pv 0) (pa_cons pe_int pa_nil))))) ht, ?_⟩
    refine ⟨_, rfl, _, _, rfl, rfl, true, rfl, iteT ⟨_, rfl, p, 7, rfl, hp, by decide, by decide, fun H1 r k1 p1 b0 b1 => ?_⟩⟩
    exact go H1 r k1 p1 b0 (.inr ⟨rfl, b1⟩)
end
end N77

set_option Elab.async false
set_option linter.all false
set_option maxRecDepth 100000
set_option maxHeartbeats 8000000
namespace N77
open PySem PySem.Spec PyProof.Rows L2 M77
section
variable {P : Program} {w : World} {K : PySem.W.Frag} {mg : Str → Option Value} {base : Heap} {f : Addr} {fd : FuncData} {ad fh : Kd → Addr} {cC fl fc fa fo fi : Addr}
/-! ### _law_pairs -/
abbrev PairsAt (ad : Kd → Addr) (H : Hp) : List V → List (Cond × Cond) → Prop := Paired fun v pr => ∃ t l r, v = V.ref t ∧ H t = some (.tup [.ref l, .ref r]) ∧ CondAt ad H pr.1 l ∧ CondAt ad H pr.2 r
def spPairs (ad : Kd → Addr) : Sp := fun vs H Q _ => ∃ (a b c : Addr) (x y z : Cond), vs = [.ref a, .ref b, .ref c] ∧ CondAt ad H x a ∧ CondAt ad H y b ∧ CondAt ad H z c ∧ x.simple.length ≤ 2 ∧ y.simple.length ≤ 2 ∧ z.simple.length ≤ 2 ∧
  ∀ H' r us, Same H H' → H' r = some (.lst us) → PairsAt ad H' us (pairs x y z) → Q (.ref r) H'
theorem scPairs : FnScope ["_law_one", "_law_other", "_law_third", "_law_found"] ["_law_one", "_law_other", "_law_third"] (defScope sLPairs) := ⟨rfl, rfl, rfl, by decide +kernel, rfl, by decide +kernel, by decide +kernel⟩
theorem new_here {H : Hp} {p : Addr} {o : HO} (h : H p = none) : upd H p o p = some o := upd_same
theorem ok_pairs (F : Fun K "_law_pairs" "_law_pairs" sLPairs f fd) (O : Ops P w K mg base ad cC fl fc fa fo fi) : FnR P w K mg base CX0 5 f (spPairs ad) := by
  refine fnR_of F scPairs (fun _ _ _ _ _ _ us hl => match us, hl with | [_, _, _], _ => rfl) (fun vs H Q E h => ?_) (fun cdv A outer s H vs Q E hr h => ?_)
  · obtain ⟨_, _, _, _, _, _, rfl, _⟩ := h; rfl
  · obtain ⟨a, b, c, x, y, z, rfl, ha, hb, hc, zx, zy, zz, k⟩ := h
    refine ⟨_, pss_cons (ps_set (i := 3) scPairs.nd rfl (.inl rfl) (pe_lst (pa_cons (pe_tup (pa_cons (pe_op op_bin (pv 0) (pv 1)) (pa_cons (pe_op op_bin (pv 1) (pv 0)) pa_nil))) (pa_cons (pe_tup (pa_cons (pe_op op_bin (pv 0) (pv 1)) (pa_cons (pe_op op_bin (pv 1) (pv 0)) pa_nil))) (pa_cons (pe_tup (pa_cons (pe_op op_bin (pv 0) (pv 0)) (pa_cons (pv 0) pa_nil))) (pa_cons (pe_tup (pa_cons (pe_op op_bin (pv 0) (pv 0)) (pa_cons (pv 0) pa_nil))) (pa_cons (pe_tup (pa_cons (pe_un un_own (pe_un un_own (pv 0))) (pa_cons (pv 0) pa_nil))) pa_nil)))))))
      (pss_cons (ps_set (i := 3) scPairs.nd rfl (.inl rfl) (pe_op op_cat (pv 3) (pe_lst (pa_cons (pe_tup (pa_cons (pe_op op_bin (pe_op op_bin (pv 0) (pv 1)) (pv 2)) (pa_cons (pe_op op_bin (pv 0) (pe_op op_bin (pv 1) (pv 2))) pa_nil))) (pa_cons (pe_tup (pa_cons (pe_op op_bin (pe_op op_bin (pv 0) (pv 1)) (pv 2)) (pa_cons (pe_op op_bin (pv 0) (pe_op op_bin (pv 1) (pv 2))) pa_nil))) pa_nil)))))
      (pss_cons (ps_set (i := 3) scPairs.nd rfl (.inl rfl) (pe_op op_cat (pv 3) (pe_lst (pa_cons (pe_tup (pa_cons (pe_op op_bin (pv 0) (pe_op op_bin (pv 1) (pv 2))) (pa_cons (pe_op op_bin (pe_op op_bin (pv 0) (pv 1)) (pe_op op_bin (pv 0) (pv 2))) pa_nil))) (pa_cons (pe_tup (pa_cons (pe_un un_own (pe_op op_bin (pv 0) (pv 1))) (pa_cons (pe_op op_bin (pe_un un_own (pv 0)) (pe_un un_own (pv 1))) pa_nil))) pa_nil)))))
      (pss_one (ps_ret (pe_op op_cat (pv 3) (pe_lst (pa_cons (pe_tup (pa_cons (pe_op op_bin (pv 0) (pe_op op_bin (pv 1) (pv 2))) (pa_cons (pe_op op_bin (pe_op op_bin (pv 0) (pv 1)) (pe_op op_bin (pv 0) (pv 2))) pa_nil))) (pa_cons (pe_tup (pa_cons (pe_un un_own (pe_op op_bin (pv 0) (pv 1))) (pa_cons (pe_op op_bin (pe_un un_own (pv 0)) (pe_un un_own (pv 1))) pa_nil))) pa_nil)))))))), ?_⟩
    have sm : Same H H := Same.refl _
    refine ⟨_, rfl, _, rfl, rd_and O hr ha hb (by first | omega | (simp only [Cond.simple, List.length_append]; omega)) fun r1 H1 s1 h1 => ?_⟩
    replace ha := ha.same s1; replace hb := hb.same s1; replace hc := hc.same s1
    have sm := sm.trans s1
    refine ⟨_, rfl, _, rfl, rd_and O hr hb ha (by first | omega | (simp only [Cond.simple, List.length_append]; omega)) fun r2 H2 s2 h2 => ?_⟩
    replace ha := ha.same s2; replace hb := hb.same s2; replace hc := hc.same s2; replace h1 := h1.same s2
    have sm := sm.trans s2
    refine ⟨(by show 2 ≤ sizeLine; decide), fun t3 n3 => ?_⟩
    have s3 := same_upd (o := .tup [.ref r1, .ref r2]) n3
    have g3 := new_here (o := .tup [.ref r1, .ref r2]) n3
    replace ha := ha.same s3; replace hb := hb.same s3; replace hc := hc.same s3; replace h1 := h1.same s3; replace h2 := h2.same s3
    have sm := sm.trans s3
    refine ⟨_, rfl, _, rfl, rd_or O hr ha hb (by first | omega | (simp only [Cond.simple, List.length_append]; omega)) fun r4 H4 s4 h4 => ?_⟩
    replace ha := ha.same s4; replace hb := hb.same s4; replace hc := hc.same s4; replace h1 := h1.same s4; replace h2 := h2.same s4
    replace g3 := s4 _ _ g3
    have sm := sm.trans s4
    refine ⟨_, rfl, _, rfl, rd_or O hr hb ha (by first | omega | (simp only [Cond.simple, List.length_append]; omega)) fun r5 H5 s5 h5 => ?_⟩
    replace ha := ha.same s5; replace hb := hb.same s5; replace hc := hc.same s5; replace h1 := h1.same s5; replace h2 := h2.same s5; replace h4 := h4.same s5
    replace g3 := s5 _ _ g3
    have sm := sm.trans s5
    refine ⟨(by show 2 ≤ sizeLine; decide), fun t6 n6 => ?_⟩
    have s6 := same_upd (o := .tup [.ref r4, .ref r5]) n6
    have g6 := new_here (o := .tup [.ref r4, .ref r5]) n6
    replace ha := ha.same s6; replace hb := hb.same s6; replace hc := hc.same s6; replace h1 := h1.same s6; replace h2 := h2.same s6; replace h4 := h4.same s6; replace h5 := h5.same s6
    replace g3 := s6 _ _ g3
    have sm := sm.trans s6
    refine ⟨_, rfl, _, rfl, rd_and O hr ha ha (by first | omega | (simp only [Cond.simple, List.length_append]; omega)) fun r7 H7 s7 h7 => ?_⟩
    replace ha := ha.same s7; replace hb := hb.same s7; replace hc := hc.same s7; replace h1 := h1.same s7; replace h2 := h2.same s7; replace h4 := h4.same s7; replace h5 := h5.same s7
    replace g3 := s7 _ _ g3; replace g6 := s7 _ _ g6
    have sm := sm.trans s7
    refine ⟨_, rfl, (by show 2 ≤ sizeLine; decide), fun t8 n8 => ?_⟩
    have s8 := same_upd (o := .tup [.ref r7, .ref a]) n8
    have g8 := new_here (o := .tup [.ref r7, .ref a]) n8
    replace ha := ha.same s8; replace hb := hb.same s8; replace hc := hc.same s8; replace h1 := h1.same s8; replace h2 := h2.same s8; replace h4 := h4.same s8; replace h5 := h5.same s8; replace h7 := h7.same s8
    replace g3 := s8 _ _ g3; replace g6 := s8 _ _ g6
    have sm := sm.trans s8
    refine ⟨_, rfl, _, rfl, rd_or O hr ha ha (by first | omega | (simp only [Cond.simple, List.length_append]; omega)) fun r9 H9 s9 h9 => ?_⟩
    replace ha := ha.same s9; replace hb := hb.same s9; replace hc := hc.same s9; replace h1 := h1.same s9; replace h2 := h2.same s9; replace h4 := h4.same s9; replace h5 := h5.same s9; replace h7 := h7.same s9
    replace g3 := s9 _ _ g3; replace g6 := s9 _ _ g6; replace g8 := s9 _ _ g8
    have sm := sm.trans s9
    refine ⟨_, rfl, (by show 2 ≤ sizeLine; decide), fun t10 n10 => ?_⟩
    have s10 := same_upd (o := .tup [.ref r9, .ref a]) n10
    have g10 := new_here (o := .tup [.ref r9, .ref a]) n10
    replace ha := ha.same s10; replace hb := hb.same s10; replace hc := hc.same s10; replace h1 := h1.same s10; replace h2 := h2.same s10; replace h4 := h4.same s10; replace h5 := h5.same s10; replace h7 := h7.same s10; replace h9 := h9.same s10
    replace g3 := s10 _ _ g3; replace g6 := s10 _ _ g6; replace g8 := s10 _ _ g8
    have sm := sm.trans s10
    refine ⟨_, rfl, rd_inv O hr ha fun r11 H11 s11 h11 => ?_⟩
    replace ha := ha.same s11; replace hb := hb.same s11; replace hc := hc.same s11; replace h1 := h1.same s11; replace h2 := h2.same s11; replace h4 := h4.same s11; replace h5 := h5.same s11; replace h7 := h7.same s11; replace h9 := h9.same s11
    replace g3 := s11 _ _ g3; replace g6 := s11 _ _ g6; replace g8 := s11 _ _ g8; replace g10 := s11 _ _ g10
    have sm := sm.trans s11
    refine rd_inv O hr h11 fun r12 H12 s12 h12 => ?_
    replace ha := ha.same s12; replace hb := hb.same s12; replace hc := hc.same s12; replace h1 := h1.same s12; replace h2 := h2.same s12; replace h4 := h4.same s12; replace h5 := h5.same s12; replace h7 := h7.same s12; replace h9 := h9.same s12; replace h11 := h11.same s12
    replace g3 := s12 _ _ g3; replace g6 := s12 _ _ g6; replace g8 := s12 _ _ g8; replace g10 := s12 _ _ g10
    have sm := sm.trans s12
    refine ⟨_, rfl, (by show 2 ≤ sizeLine; decide), fun t13 n13 => ?_⟩
    have s13 := same_upd (o := .tup [.ref r12, .ref a]) n13
    have g13 := new_here (o := .tup [.ref r12, .ref a]) n13
    replace ha := ha.same s13; replace hb := hb.same s13; replace hc := hc.same s13; replace h1 := h1.same s13; replace h2 := h2.same s13; replace h4 := h4.same s13; replace h5 := h5.same s13; replace h7 := h7.same s13; replace h9 := h9.same s13; replace h11 := h11.same s13; replace h12 := h12.same s13
    replace g3 := s13 _ _ g3; replace g6 := s13 _ _ g6; replace g8 := s13 _ _ g8; replace g10 := s13 _ _ g10
    have sm := sm.trans s13
    refine ⟨(by show 5 ≤ sizeLine; decide), fun t14 n14 => ?_⟩
    have s14 := same_upd (o := .lst [.ref t3, .ref t6, .ref t8, .ref t10, .ref t13]) n14
    have g14 := new_here (o := .lst [.ref t3, .ref t6, .ref t8, .ref t10, .ref t13]) n14
    replace ha := ha.same s14; replace hb := hb.same s14; replace hc := hc.same s14; replace h1 := h1.same s14; replace h2 := h2.same s14; replace h4 := h4.same s14; replace h5 := h5.same s14; replace h7 := h7.same s14; replace h9 := h9.same s14; replace h11 := h11.same s14; replace h12 := h12.same s14
    replace g3 := s14 _ _ g3; replace g6 := s14 _ _ g6; replace g8 := s14 _ _ g8; replace g10 := s14 _ _ g10; replace g13 := s14 _ _ g13
    have sm := sm.trans s14
    refine ⟨_, rfl, ?_⟩
    refine ⟨_, rfl, _, rfl, rd_and O hr ha hb (by first | omega | (simp only [Cond.simple, List.length_append]; omega)) fun r15 H15 s15 h15 => ?_⟩
    replace ha := ha.same s15; replace hb := hb.same s15; replace hc := hc.same s15; replace h1 := h1.same s15; replace h2 := h2.same s15; replace h4 := h4.same s15; replace h5 := h5.same s15; replace h7 := h7.same s15; replace h9 := h9.same s15; replace h11 := h11.same s15; replace h12 := h12.same s15
    replace g3 := s15 _ _ g3; replace g6 := s15 _ _ g6; replace g8 := s15 _ _ g8; replace g10 := s15 _ _ g10; replace g13 := s15 _ _ g13; replace g14 := s15 _ _ g14
    have sm := sm.trans s15
    refine ⟨_, rfl, rd_and O hr h15 hc (by first | omega | (simp only [Cond.simple, List.length_append]; omega)) fun r16 H16 s16 h16 => ?_⟩
    replace ha := ha.same s16; replace hb := hb.same s16; replace hc := hc.same s16; replace h1 := h1.same s16; replace h2 := h2.same s16; replace h4 := h4.same s16; replace h5 := h5.same s16; replace h7 := h7.same s16; replace h9 := h9.same s16; replace h11 := h11.same s16; replace h12 := h12.same s16; replace h15 := h15.same s16
    replace g3 := s16 _ _ g3; replace g6 := s16 _ _ g6; replace g8 := s16 _ _ g8; replace g10 := s16 _ _ g10; replace g13 := s16 _ _ g13; replace g14 := s16 _ _ g14
    have sm := sm.trans s16
    refine ⟨_, rfl, _, rfl, _, rfl, rd_and O hr hb hc (by first | omega | (simp only [Cond.simple, List.length_append]; omega)) fun r17 H17 s17 h17 => ?_⟩
    replace ha := ha.same s17; replace hb := hb.same s17; replace hc := hc.same s17; replace h1 := h1.same s17; replace h2 := h2.same s17; replace h4 := h4.same s17; replace h5 := h5.same s17; replace h7 := h7.same s17; replace h9 := h9.same s17; replace h11 := h11.same s17; replace h12 := h12.same s17; replace h15 := h15.same s17; replace h16 := h16.same s17
    replace g3 := s17 _ _ g3; replace g6 := s17 _ _ g6; replace g8 := s17 _ _ g8; replace g10 := s17 _ _ g10; replace g13 := s17 _ _ g13; replace g14 := s17 _ _ g14
    have sm := sm.trans s17
    refine rd_and O hr ha h17 (by first | omega | (simp only [Cond.simple, List.length_append]; omega)) fun r18 H18 s18 h18 => ?_
    replace ha := ha.same s18; replace hb := hb.same s18; replace hc := hc.same s18; replace h1 := h1.same s18; replace h2 := h2.same s18; replace h4 := h4.same s18; replace h5 := h5.same s18; replace h7 := h7.same s18; replace h9 := h9.same s18; replace h11 := h11.same s18; replace h12 := h12.same s18; replace h15 := h15.same s18; replace h16 := h16.same s18; replace h17 := h17.same s18
    replace g3 := s18 _ _ g3; replace g6 := s18 _ _ g6; replace g8 := s18 _ _ g8; replace g10 := s18 _ _ g10; replace g13 := s18 _ _ g13; replace g14 := s18 _ _ g14
    have sm := sm.trans s18
    refine ⟨(by show 2 ≤ sizeLine; decide), fun t19 n19 => ?_⟩
    have s19 := same_upd (o := .tup [.ref r16, .ref r18]) n19
    have g19 := new_here (o := .tup [.ref r16, .ref r18]) n19
    replace ha := ha.same s19; replace hb := hb.same s19; replace hc := hc.same s19; replace h1 := h1.same s19; replace h2 := h2.same s19; replace h4 := h4.same s19; replace h5 := h5.same s19; replace h7 := h7.same s19; replace h9 := h9.same s19; replace h11 := h11.same s19; replace h12 := h12.same s19; replace h15 := h15.same s19; replace h16 := h16.same s19; replace h17 := h17.same s19; replace h18 := h18.same s19
    replace g3 := s19 _ _ g3; replace g6 := s19 _ _ g6; replace g8 := s19 _ _ g8; replace g10 := s19 _ _ g10; replace g13 := s19 _ _ g13; replace g14 := s19 _ _ g14
    have sm := sm.trans s19
    refine ⟨_, rfl, _, rfl, rd_or O hr ha hb (by first | omega | (simp only [Cond.simple, List.length_append]; omega)) fun r20 H20 s20 h20 => ?_⟩
    replace ha := ha.same s20; replace hb := hb.same s20; replace hc := hc.same s20; replace h1 := h1.same s20; replace h2 := h2.same s20; replace h4 := h4.same s20; replace h5 := h5.same s20; replace h7 := h7.same s20; replace h9 := h9.same s20; replace h11 := h11.same s20; replace h12 := h12.same s20; replace h15 := h15.same s20; replace h16 := h16.same s20; replace h17 := h17.same s20; replace h18 := h18.same s20
    replace g3 := s20 _ _ g3; replace g6 := s20 _ _ g6; replace g8 := s20 _ _ g8; replace g10 := s20 _ _ g10; replace g13 := s20 _ _ g13; replace g14 := s20 _ _ g14; replace g19 := s20 _ _ g19
    have sm := sm.trans s20
    refine ⟨_, rfl, rd_or O hr h20 hc (by first | omega | (simp only [Cond.simple, List.length_append]; omega)) fun r21 H21 s21 h21 => ?_⟩
    replace ha := ha.same s21; replace hb := hb.same s21; replace hc := hc.same s21; replace h1 := h1.same s21; replace h2 := h2.same s21; replace h4 := h4.same s21; replace h5 := h5.same s21; replace h7 := h7.same s21; replace h9 := h9.same s21; replace h11 := h11.same s21; replace h12 := h12.same s21; replace h15 := h15.same s21; replace h16 := h16.same s21; replace h17 := h17.same s21; replace h18 := h18.same s21; replace h20 := h20.same s21
    replace g3 := s21 _ _ g3; replace g6 := s21 _ _ g6; replace g8 := s21 _ _ g8; replace g10 := s21 _ _ g10; replace g13 := s21 _ _ g13; replace g14 := s21 _ _ g14; replace g19 := s21 _ _ g19
    have sm := sm.trans s21
    refine ⟨_, rfl, _, rfl, _, rfl, rd_or O hr hb hc (by first | omega | (simp only [Cond.simple, List.length_append]; omega)) fun r22 H22 s22 h22 => ?_⟩
    replace ha := ha.same s22; replace hb := hb.same s22; replace hc := hc.same s22; replace h1 := h1.same s22; replace h2 := h2.same s22; replace h4 := h4.same s22; replace h5 := h5.same s22; replace h7 := h7.same s22; replace h9 := h9.same s22; replace h11 := h11.same s22; replace h12 := h12.same s22; replace h15 := h15.same s22; replace h16 := h16.same s22; replace h17 := h17.same s22; replace h18 := h18.same s22; replace h20 := h20.same s22; replace h21 := h21.same s22
    replace g3 := s22 _ _ g3; replace g6 := s22 _ _ g6; replace g8 := s22 _ _ g8; replace g10 := s22 _ _ g10; replace g13 := s22 _ _ g13; replace g14 := s22 _ _ g14; replace g19 := s22 _ _ g19
    have sm := sm.trans s22
    refine rd_or O hr ha h22 (by first | omega | (simp only [Cond.simple, List.length_append]; omega)) fun r23 H23 s23 h23 => ?_
    replace ha := ha.same s23; replace hb := hb.same s23; replace hc := hc.same s23; replace h1 := h1.same s23; replace h2 := h2.same s23; replace h4 := h4.same s23; replace h5 := h5.same s23; replace h7 := h7.same s23; replace h9 := h9.same s23; replace h11 := h11.same s23; replace h12 := h12.same s23; replace h15 := h15.same s23; replace h16 := h16.same s23; replace h17 := h17.same s23; replace h18 := h18.same s23; replace h20 := h20.same s23; replace h21 := h21.same s23; replace h22 := h22.same s23
    replace g3 := s23 _ _ g3; replace g6 := s23 _ _ g6; replace g8 := s23 _ _ g8; replace g10 := s23 _ _ g10; replace g13 := s23 _ _ g13; replace g14 := s23 _ _ g14; replace g19 := s23 _ _ g19
    have sm := sm.trans s23
    refine ⟨(by show 2 ≤ sizeLine; decide), fun t24 n24 => ?_⟩
    have s24 := same_upd (o := .tup [.ref r21, .ref r23]) n24
    have g24 := new_here (o := .tup [.ref r21, .ref r23]) n24
    replace ha := ha.same s24; replace hb := hb.same s24; replace hc := hc.same s24; replace h1 := h1.same s24; replace h2 := h2.same s24; replace h4 := h4.same s24; replace h5 := h5.same s24; replace h7 := h7.same s24; replace h9 := h9.same s24; replace h11 := h11.same s24; replace h12 := h12.same s24; replace h15 := h15.same s24; replace h16 := h16.same s24; replace h17 := h17.same s24; replace h18 := h18.same s24; replace h20 := h20.same s24; replace h21 := h21.same s24; replace h22 := h22.same s24; replace h23 := h23.same s24
    replace g3 := s24 _ _ g3; replace g6 := s24 _ _ g6; replace g8 := s24 _ _ g8; replace g10 := s24 _ _ g10; replace g13 := s24 _ _ g13; replace g14 := s24 _ _ g14; replace g19 := s24 _ _ g19
    have sm := sm.trans s24
    refine ⟨(by show 2 ≤ sizeLine; decide), fun t25 n25 => ?_⟩
    have s25 := same_upd (o := .lst [.ref t19, .ref t24]) n25
    have g25 := new_here (o := .lst [.ref t19, .ref t24]) n25
    replace ha := ha.same s25; replace hb := hb.same s25; replace hc := hc.same s25; replace h1 := h1.same s25; replace h2 := h2.same s25; replace h4 := h4.same s25; replace h5 := h5.same s25; replace h7 := h7.same s25; replace h9 := h9.same s25; replace h11 := h11.same s25; replace h12 := h12.same s25; replace h15 := h15.same s25; replace h16 := h16.same s25; replace h17 := h17.same s25; replace h18 := h18.same s25; replace h20 := h20.same s25; replace h21 := h21.same s25; replace h22 := h22.same s25; replace h23 := h23.same s25
    replace g3 := s25 _ _ g3; replace g6 := s25 _ _ g6; replace g8 := s25 _ _ g8; replace g10 := s25 _ _ g10; replace g13 := s25 _ _ g13; replace g14 := s25 _ _ g14; replace g19 := s25 _ _ g19; replace g24 := s25 _ _ g24
    have sm := sm.trans s25
    refine ⟨t14, t25, _, _, rfl, rfl, g14, g25, (by show 5 + 2 ≤ sizeLine; decide), fun t26 n26 => ?_⟩
    have s26 := same_upd (o := .lst [.ref t3, .ref t6, .ref t8, .ref t10, .ref t13, .ref t19, .ref t24]) n26
    have g26 := new_here (o := .lst [.ref t3, .ref t6, .ref t8, .ref t10, .ref t13, .ref t19, .ref t24]) n26
    replace ha := ha.same s26; replace hb := hb.same s26; replace hc := hc.same s26; replace h1 := h1.same s26; replace h2 := h2.same s26; replace h4 := h4.same s26; replace h5 := h5.same s26; replace h7 := h7.same s26; replace h9 := h9.same s26; replace h11 := h11.same s26; replace h12 := h12.same s26; replace h15 := h15.same s26; replace h16 := h16.same s26; replace h17 := h17.same s26; replace h18 := h18.same s26; replace h20 := h20.same s26; replace h21 := h21.same s26; replace h22 := h22.same s26; replace h23 := h23.same s26
    replace g3 := s26 _ _ g3; replace g6 := s26 _ _ g6; replace g8 := s26 _ _ g8; replace g10 := s26 _ _ g10; replace g13 := s26 _ _ g13; replace g14 := s26 _ _ g14; replace g19 := s26 _ _ g19; replace g24 := s26 _ _ g24; replace g25 := s26 _ _ g25
    have sm := sm.trans s26
    refine ⟨_, rfl, ?_⟩
    refine ⟨_, rfl, _, rfl, _, rfl, rd_or O hr hb hc (by first | omega | (simp only [Cond.simple, List.length_append]; omega)) fun r27 H27 s27 h27 => ?_⟩
    replace ha := ha.same s27; replace hb := hb.same s27; replace hc := hc.same s27; replace h1 := h1.same s27; replace h2 := h2.same s27; replace h4 := h4.same s27; replace h5 := h5.same s27; replace h7 := h7.same s27; replace h9 := h9.same s27; replace h11 := h11.same s27; replace h12 := h12.same s27; replace h15 := h15.same s27; replace h16 := h16.same s27; replace h17 := h17.same s27; replace h18 := h18.same s27; replace h20 := h20.same s27; replace h21 := h21.same s27; replace h22 := h22.same s27; replace h23 := h23.same s27
    replace g3 := s27 _ _ g3; replace g6 := s27 _ _ g6; replace g8 := s27 _ _ g8; replace g10 := s27 _ _ g10; replace g13 := s27 _ _ g13; replace g14 := s27 _ _ g14; replace g19 := s27 _ _ g19; replace g24 := s27 _ _ g24; replace g25 := s27 _ _ g25; replace g26 := s27 _ _ g26
    have sm := sm.trans s27
    refine rd_and O hr ha h27 (by first | omega | (simp only [Cond.simple, List.length_append]; omega)) fun r28 H28 s28 h28 => ?_
    replace ha := ha.same s28; replace hb := hb.same s28; replace hc := hc.same s28; replace h1 := h1.same s28; replace h2 := h2.same s28; replace h4 := h4.same s28; replace h5 := h5.same s28; replace h7 := h7.same s28; replace h9 := h9.same s28; replace h11 := h11.same s28; replace h12 := h12.same s28; replace h15 := h15.same s28; replace h16 := h16.same s28; replace h17 := h17.same s28; replace h18 := h18.same s28; replace h20 := h20.same s28; replace h21 := h21.same s28; replace h22 := h22.same s28; replace h23 := h23.same s28; replace h27 := h27.same s28
    replace g3 := s28 _ _ g3; replace g6 := s28 _ _ g6; replace g8 := s28 _ _ g8; replace g10 := s28 _ _ g10; replace g13 := s28 _ _ g13; replace g14 := s28 _ _ g14; replace g19 := s28 _ _ g19; replace g24 := s28 _ _ g24; replace g25 := s28 _ _ g25; replace g26 := s28 _ _ g26
    have sm := sm.trans s28
    refine ⟨_, rfl, _, rfl, rd_and O hr ha hb (by first | omega | (simp only [Cond.simple, List.length_append]; omega)) fun r29 H29 s29 h29 => ?_⟩
    replace ha := ha.same s29; replace hb := hb.same s29; replace hc := hc.same s29; replace h1 := h1.same s29; replace h2 := h2.same s29; replace h4 := h4.same s29; replace h5 := h5.same s29; replace h7 := h7.same s29; replace h9 := h9.same s29; replace h11 := h11.same s29; replace h12 := h12.same s29; replace h15 := h15.same s29; replace h16 := h16.same s29; replace h17 := h17.same s29; replace h18 := h18.same s29; replace h20 := h20.same s29; replace h21 := h21.same s29; replace h22 := h22.same s29; replace h23 := h23.same s29; replace h27 := h27.same s29; replace h28 := h28.same s29
    replace g3 := s29 _ _ g3; replace g6 := s29 _ _ g6; replace g8 := s29 _ _ g8; replace g10 := s29 _ _ g10; replace g13 := s29 _ _ g13; replace g14 := s29 _ _ g14; replace g19 := s29 _ _ g19; replace g24 := s29 _ _ g24; replace g25 := s29 _ _ g25; replace g26 := s29 _ _ g26
    have sm := sm.trans s29
    refine ⟨_, rfl, _, rfl, rd_and O hr ha hc (by first | omega | (simp only [Cond.simple, List.length_append]; omega)) fun r30 H30 s30 h30 => ?_⟩
    replace ha := ha.same s30; replace hb := hb.same s30; replace hc := hc.same s30; replace h1 := h1.same s30; replace h2 := h2.same s30; replace h4 := h4.same s30; replace h5 := h5.same s30; replace h7 := h7.same s30; replace h9 := h9.same s30; replace h11 := h11.same s30; replace h12 := h12.same s30; replace h15 := h15.same s30; replace h16 := h16.same s30; replace h17 := h17.same s30; replace h18 := h18.same s30; replace h20 := h20.same s30; replace h21 := h21.same s30; replace h22 := h22.same s30; replace h23 := h23.same s30; replace h27 := h27.same s30; replace h28 := h28.same s30; replace h29 := h29.same s30
    replace g3 := s30 _ _ g3; replace g6 := s30 _ _ g6; replace g8 := s30 _ _ g8; replace g10 := s30 _ _ g10; replace g13 := s30 _ _ g13; replace g14 := s30 _ _ g14; replace g19 := s30 _ _ g19; replace g24 := s30 _ _ g24; replace g25 := s30 _ _ g25; replace g26 := s30 _ _ g26
    have sm := sm.trans s30
    refine rd_or O hr h29 h30 (by first | omega | (simp only [Cond.simple, List.length_append]; omega)) fun r31 H31 s31 h31 => ?_
    replace ha := ha.same s31; replace hb := hb.same s31; replace hc := hc.same s31; replace h1 := h1.same s31; replace h2 := h2.same s31; replace h4 := h4.same s31; replace h5 := h5.same s31; replace h7 := h7.same s31; replace h9 := h9.same s31; replace h11 := h11.same s31; replace h12 := h12.same s31; replace h15 := h15.same s31; replace h16 := h16.same s31; replace h17 := h17.same s31; replace h18 := h18.same s31; replace h20 := h20.same s31; replace h21 := h21.same s31; replace h22 := h22.same s31; replace h23 := h23.same s31; replace h27 := h27.same s31; replace h28 := h28.same s31; replace h29 := h29.same s31; replace h30 := h30.same s31
    replace g3 := s31 _ _ g3; replace g6 := s31 _ _ g6; replace g8 := s31 _ _ g8; replace g10 := s31 _ _ g10; replace g13 := s31 _ _ g13; replace g14 := s31 _ _ g14; replace g19 := s31 _ _ g19; replace g24 := s31 _ _ g24; replace g25 := s31 _ _ g25; replace g26 := s31 _ _ g26
    have sm := sm.trans s31
    refine ⟨(by show 2 ≤ sizeLine; decide), fun t32 n32 => ?_⟩
    have s32 := same_upd (o := .tup [.ref r28, .ref r31]) n32
    have g32 := new_here (o := .tup [.ref r28, .ref r31]) n32
    replace ha := ha.same s32; replace hb := hb.same s32; replace hc := hc.same s32; replace h1 := h1.same s32; replace h2 := h2.same s32; replace h4 := h4.same s32; replace h5 := h5.same s32; replace h7 := h7.same s32; replace h9 := h9.same s32; replace h11 := h11.same s32; replace h12 := h12.same s32; replace h15 := h15.same s32; replace h16 := h16.same s32; replace h17 := h17.same s32; replace h18 := h18.same s32; replace h20 := h20.same s32; replace h21 := h21.same s32; replace h22 := h22.same s32; replace h23 := h23.same s32; replace h27 := h27.same s32; replace h28 := h28.same s32; replace h29 := h29.same s32; replace h30 := h30.same s32; replace h31 := h31.same s32
    replace g3 := s32 _ _ g3; replace g6 := s32 _ _ g6; replace g8 := s32 _ _ g8; replace g10 := s32 _ _ g10; replace g13 := s32 _ _ g13; replace g14 := s32 _ _ g14; replace g19 := s32 _ _ g19; replace g24 := s32 _ _ g24; replace g25 := s32 _ _ g25; replace g26 := s32 _ _ g26
    have sm := sm.trans s32
    refine ⟨_, rfl, _, rfl, rd_and O hr ha hb (by first | omega | (simp only [Cond.simple, List.length_append]; omega)) fun r33 H33 s33 h33 => ?_⟩
    replace ha := ha.same s33; replace hb := hb.same s33; replace hc := hc.same s33; replace h1 := h1.same s33; replace h2 := h2.same s33; replace h4 := h4.same s33; replace h5 := h5.same s33; replace h7 := h7.same s33; replace h9 := h9.same s33; replace h11 := h11.same s33; replace h12 := h12.same s33; replace h15 := h15.same s33; replace h16 := h16.same s33; replace h17 := h17.same s33; replace h18 := h18.same s33; replace h20 := h20.same s33; replace h21 := h21.same s33; replace h22 := h22.same s33; replace h23 := h23.same s33; replace h27 := h27.same s33; replace h28 := h28.same s33; replace h29 := h29.same s33; replace h30 := h30.same s33; replace h31 := h31.same s33
    replace g3 := s33 _ _ g3; replace g6 := s33 _ _ g6; replace g8 := s33 _ _ g8; replace g10 := s33 _ _ g10; replace g13 := s33 _ _ g13; replace g14 := s33 _ _ g14; replace g19 := s33 _ _ g19; replace g24 := s33 _ _ g24; replace g25 := s33 _ _ g25; replace g26 := s33 _ _ g26; replace g32 := s33 _ _ g32
    have sm := sm.trans s33
    refine rd_inv O hr h33 fun r34 H34 s34 h34 => ?_
    replace ha := ha.same s34; replace hb := hb.same s34; replace hc := hc.same s34; replace h1 := h1.same s34; replace h2 := h2.same s34; replace h4 := h4.same s34; replace h5 := h5.same s34; replace h7 := h7.same s34; replace h9 := h9.same s34; replace h11 := h11.same s34; replace h12 := h12.same s34; replace h15 := h15.same s34; replace h16 := h16.same s34; replace h17 := h17.same s34; replace h18 := h18.same s34; replace h20 := h20.same s34; replace h21 := h21.same s34; replace h22 := h22.same s34; replace h23 := h23.same s34; replace h27 := h27.same s34; replace h28 := h28.same s34; replace h29 := h29.same s34; replace h30 := h30.same s34; replace h31 := h31.same s34; replace h33 := h33.same s34
    replace g3 := s34 _ _ g3; replace g6 := s34 _ _ g6; replace g8 := s34 _ _ g8; replace g10 := s34 _ _ g10; replace g13 := s34 _ _ g13; replace g14 := s34 _ _ g14; replace g19 := s34 _ _ g19; replace g24 := s34 _ _ g24; replace g25 := s34 _ _ g25; replace g26 := s34 _ _ g26; replace g32 := s34 _ _ g32
    have sm := sm.trans s34
    refine ⟨_, rfl, rd_inv O hr ha fun r35 H35 s35 h35 => ?_⟩
    replace ha := ha.same s35; replace hb := hb.same s35; replace hc := hc.same s35; replace h1 := h1.same s35; replace h2 := h2.same s35; replace h4 := h4.same s35; replace h5 := h5.same s35; replace h7 := h7.same s35; replace h9 := h9.same s35; replace h11 := h11.same s35; replace h12 := h12.same s35; replace h15 := h15.same s35; replace h16 := h16.same s35; replace h17 := h17.same s35; replace h18 := h18.same s35; replace h20 := h20.same s35; replace h21 := h21.same s35; replace h22 := h22.same s35; replace h23 := h23.same s35; replace h27 := h27.same s35; replace h28 := h28.same s35; replace h29 := h29.same s35; replace h30 := h30.same s35; replace h31 := h31.same s35; replace h33 := h33.same s35; replace h34 := h34.same s35
    replace g3 := s35 _ _ g3; replace g6 := s35 _ _ g6; replace g8 := s35 _ _ g8; replace g10 := s35 _ _ g10; replace g13 := s35 _ _ g13; replace g14 := s35 _ _ g14; replace g19 := s35 _ _ g19; replace g24 := s35 _ _ g24; replace g25 := s35 _ _ g25; replace g26 := s35 _ _ g26; replace g32 := s35 _ _ g32
    have sm := sm.trans s35
    refine ⟨_, rfl, rd_inv O hr hb fun r36 H36 s36 h36 => ?_⟩
    replace ha := ha.same s36; replace hb := hb.same s36; replace hc := hc.same s36; replace h1 := h1.same s36; replace h2 := h2.same s36; replace h4 := h4.same s36; replace h5 := h5.same s36; replace h7 := h7.same s36; replace h9 := h9.same s36; replace h11 := h11.same s36; replace h12 := h12.same s36; replace h15 := h15.same s36; replace h16 := h16.same s36; replace h17 := h17.same s36; replace h18 := h18.same s36; replace h20 := h20.same s36; replace h21 := h21.same s36; replace h22 := h22.same s36; replace h23 := h23.same s36; replace h27 := h27.same s36; replace h28 := h28.same s36; replace h29 := h29.same s36; replace h30 := h30.same s36; replace h31 := h31.same s36; replace h33 := h33.same s36; replace h34 := h34.same s36; replace h35 := h35.same s36
    replace g3 := s36 _ _ g3; replace g6 := s36 _ _ g6; replace g8 := s36 _ _ g8; replace g10 := s36 _ _ g10; replace g13 := s36 _ _ g13; replace g14 := s36 _ _ g14; replace g19 := s36 _ _ g19; replace g24 := s36 _ _ g24; replace g25 := s36 _ _ g25; replace g26 := s36 _ _ g26; replace g32 := s36 _ _ g32
    have sm := sm.trans s36
    refine rd_or O hr h35 h36 (by first | omega | (simp only [Cond.simple, List.length_append]; omega)) fun r37 H37 s37 h37 => ?_
    replace ha := ha.same s37; replace hb := hb.same s37; replace hc := hc.same s37; replace h1 := h1.same s37; replace h2 := h2.same s37; replace h4 := h4.same s37; replace h5 := h5.same s37; replace h7 := h7.same s37; replace h9 := h9.same s37; replace h11 := h11.same s37; replace h12 := h12.same s37; replace h15 := h15.same s37; replace h16 := h16.same s37; replace h17 := h17.same s37; replace h18 := h18.same s37; replace h20 := h20.same s37; replace h21 := h21.same s37; replace h22 := h22.same s37; replace h23 := h23.same s37; replace h27 := h27.same s37; replace h28 := h28.same s37; replace h29 := h29.same s37; replace h30 := h30.same s37; replace h31 := h31.same s37; replace h33 := h33.same s37; replace h34 := h34.same s37; replace h35 := h35.same s37; replace h36 := h36.same s37
    replace g3 := s37 _ _ g3; replace g6 := s37 _ _ g6; replace g8 := s37 _ _ g8; replace g10 := s37 _ _ g10; replace g13 := s37 _ _ g13; replace g14 := s37 _ _ g14; replace g19 := s37 _ _ g19; replace g24 := s37 _ _ g24; replace g25 := s37 _ _ g25; replace g26 := s37 _ _ g26; replace g32 := s37 _ _ g32
    have sm := sm.trans s37
    refine ⟨(by show 2 ≤ sizeLine; decide), fun t38 n38 => ?_⟩
    have s38 := same_upd (o := .tup [.ref r34, .ref r37]) n38
    have g38 := new_here (o := .tup [.ref r34, .ref r37]) n38
    replace ha := ha.same s38; replace hb := hb.same s38; replace hc := hc.same s38; replace h1 := h1.same s38; replace h2 := h2.same s38; replace h4 := h4.same s38; replace h5 := h5.same s38; replace h7 := h7.same s38; replace h9 := h9.same s38; replace h11 := h11.same s38; replace h12 := h12.same s38; replace h15 := h15.same s38; replace h16 := h16.same s38; replace h17 := h17.same s38; replace h18 := h18.same s38; replace h20 := h20.same s38; replace h21 := h21.same s38; replace h22 := h22.same s38; replace h23 := h23.same s38; replace h27 := h27.same s38; replace h28 := h28.same s38; replace h29 := h29.same s38; replace h30 := h30.same s38; replace h31 := h31.same s38; replace h33 := h33.same s38; replace h34 := h34.same s38; replace h35 := h35.same s38; replace h36 := h36.same s38; replace h37 := h37.same s38
    replace g3 := s38 _ _ g3; replace g6 := s38 _ _ g6; replace g8 := s38 _ _ g8; replace g10 := s38 _ _ g10; replace g13 := s38 _ _ g13; replace g14 := s38 _ _ g14; replace g19 := s38 _ _ g19; replace g24 := s38 _ _ g24; replace g25 := s38 _ _ g25; replace g26 := s38 _ _ g26; replace g32 := s38 _ _ g32
    have sm := sm.trans s38
    refine ⟨(by show 2 ≤ sizeLine; decide), fun t39 n39 => ?_⟩
    have s39 := same_upd (o := .lst [.ref t32, .ref t38]) n39
    have g39 := new_here (o := .lst [.ref t32, .ref t38]) n39
    replace ha := ha.same s39; replace hb := hb.same s39; replace hc := hc.same s39; replace h1 := h1.same s39; replace h2 := h2.same s39; replace h4 := h4.same s39; replace h5 := h5.same s39; replace h7 := h7.same s39; replace h9 := h9.same s39; replace h11 := h11.same s39; replace h12 := h12.same s39; replace h15 := h15.same s39; replace h16 := h16.same s39; replace h17 := h17.same s39; replace h18 := h18.same s39; replace h20 := h20.same s39; replace h21 := h21.same s39; replace h22 := h22.same s39; replace h23 := h23.same s39; replace h27 := h27.same s39; replace h28 := h28.same s39; replace h29 := h29.same s39; replace h30 := h30.same s39; replace h31 := h31.same s39; replace h33 := h33.same s39; replace h34 := h34.same s39; replace h35 := h35.same s39; replace h36 := h36.same s39; replace h37 := h37.same s39
    replace g3 := s39 _ _ g3; replace g6 := s39 _ _ g6; replace g8 := s39 _ _ g8; replace g10 := s39 _ _ g10; replace g13 := s39 _ _ g13; replace g14 := s39 _ _ g14; replace g19 := s39 _ _ g19; replace g24 := s39 _ _ g24; replace g25 := s39 _ _ g25; replace g26 := s39 _ _ g26; replace g32 := s39 _ _ g32; replace g38 := s39 _ _ g38
    have sm := sm.trans s39
    refine ⟨t26, t39, _, _, rfl, rfl, g26, g39, (by show 7 + 2 ≤ sizeLine; decide), fun t40 n40 => ?_⟩
    have s40 := same_upd (o := .lst [.ref t3, .ref t6, .ref t8, .ref t10, .ref t13, .ref t19, .ref t24, .ref t32, .ref t38]) n40
    have g40 := new_here (o := .lst [.ref t3, .ref t6, .ref t8, .ref t10, .ref t13, .ref t19, .ref t24, .ref t32, .ref t38]) n40
    replace ha := ha.same s40; replace hb := hb.same s40; replace hc := hc.same s40; replace h1 := h1.same s40; replace h2 := h2.same s40; replace h4 := h4.same s40; replace h5 := h5.same s40; replace h7 := h7.same s40; replace h9 := h9.same s40; replace h11 := h11.same s40; replace h12 := h12.same s40; replace h15 := h15.same s40; replace h16 := h16.same s40; replace h17 := h17.same s40; replace h18 := h18.same s40; replace h20 := h20.same s40; replace h21 := h21.same s40; replace h22 := h22.same s40; replace h23 := h23.same s40; replace h27 := h27.same s40; replace h28 := h28.same s40; replace h29 := h29.same s40; replace h30 := h30.same s40; replace h31 := h31.same s40; replace h33 := h33.same s40; replace h34 := h34.same s40; replace h35 := h35.same s40; replace h36 := h36.same s40; replace h37 := h37.same s40
    replace g3 := s40 _ _ g3; replace g6 := s40 _ _ g6; replace g8 := s40 _ _ g8; replace g10 := s40 _ _ g10; replace g13 := s40 _ _ g13; replace g14 := s40 _ _ g14; replace g19 := s40 _ _ g19; replace g24 := s40 _ _ g24; replace g25 := s40 _ _ g25; replace g26 := s40 _ _ g26; replace g32 := s40 _ _ g32; replace g38 := s40 _ _ g38; replace g39 := s40 _ _ g39
    have sm := sm.trans s40
    refine ⟨_, rfl, ?_⟩
    refine ⟨_, rfl, _, rfl, _, rfl, rd_and O hr hb hc (by first | omega | (simp only [Cond.simple, List.length_append]; omega)) fun r41 H41 s41 h41 => ?_⟩
    replace ha := ha.same s41; replace hb := hb.same s41; replace hc := hc.same s41; replace h1 := h1.same s41; replace h2 := h2.same s41; replace h4 := h4.same s41; replace h5 := h5.same s41; replace h7 := h7.same s41; replace h9 := h9.same s41; replace h11 := h11.same s41; replace h12 := h12.same s41; replace h15 := h15.same s41; replace h16 := h16.same s41; replace h17 := h17.same s41; replace h18 := h18.same s41; replace h20 := h20.same s41; replace h21 := h21.same s41; replace h22 := h22.same s41; replace h23 := h23.same s41; replace h27 := h27.same s41; replace h28 := h28.same s41; replace h29 := h29.same s41; replace h30 := h30.same s41; replace h31 := h31.same s41; replace h33 := h33.same s41; replace h34 := h34.same s41; replace h35 := h35.same s41; replace h36 := h36.same s41; replace h37 := h37.same s41
    replace g3 := s41 _ _ g3; replace g6 := s41 _ _ g6; replace g8 := s41 _ _ g8; replace g10 := s41 _ _ g10; replace g13 := s41 _ _ g13; replace g14 := s41 _ _ g14; replace g19 := s41 _ _ g19; replace g24 := s41 _ _ g24; replace g25 := s41 _ _ g25; replace g26 := s41 _ _ g26; replace g32 := s41 _ _ g32; replace g38 := s41 _ _ g38; replace g39 := s41 _ _ g39; replace g40 := s41 _ _ g40
    have sm := sm.trans s41
    refine rd_or O hr ha h41 (by first | omega | (simp only [Cond.simple, List.length_append]; omega)) fun r42 H42 s42 h42 => ?_
    replace ha := ha.same s42; replace hb := hb.same s42; replace hc := hc.same s42; replace h1 := h1.same s42; replace h2 := h2.same s42; replace h4 := h4.same s42; replace h5 := h5.same s42; replace h7 := h7.same s42; replace h9 := h9.same s42; replace h11 := h11.same s42; replace h12 := h12.same s42; replace h15 := h15.same s42; replace h16 := h16.same s42; replace h17 := h17.same s42; replace h18 := h18.same s42; replace h20 := h20.same s42; replace h21 := h21.same s42; replace h22 := h22.same s42; replace h23 := h23.same s42; replace h27 := h27.same s42; replace h28 := h28.same s42; replace h29 := h29.same s42; replace h30 := h30.same s42; replace h31 := h31.same s42; replace h33 := h33.same s42; replace h34 := h34.same s42; replace h35 := h35.same s42; replace h36 := h36.same s42; replace h37 := h37.same s42; replace h41 := h41.same s42
    replace g3 := s42 _ _ g3; replace g6 := s42 _ _ g6; replace g8 := s42 _ _ g8; replace g10 := s42 _ _ g10; replace g13 := s42 _ _ g13; replace g14 := s42 _ _ g14; replace g19 := s42 _ _ g19; replace g24 := s42 _ _ g24; replace g25 := s42 _ _ g25; replace g26 := s42 _ _ g26; replace g32 := s42 _ _ g32; replace g38 := s42 _ _ g38; replace g39 := s42 _ _ g39; replace g40 := s42 _ _ g40
    have sm := sm.trans s42
    refine ⟨_, rfl, _, rfl, rd_or O hr ha hb (by first | omega | (simp only [Cond.simple, List.length_append]; omega)) fun r43 H43 s43 h43 => ?_⟩
    replace ha := ha.same s43; replace hb := hb.same s43; replace hc := hc.same s43; replace h1 := h1.same s43; replace h2 := h2.same s43; replace h4 := h4.same s43; replace h5 := h5.same s43; replace h7 := h7.same s43; replace h9 := h9.same s43; replace h11 := h11.same s43; replace h12 := h12.same s43; replace h15 := h15.same s43; replace h16 := h16.same s43; replace h17 := h17.same s43; replace h18 := h18.same s43; replace h20 := h20.same s43; replace h21 := h21.same s43; replace h22 := h22.same s43; replace h23 := h23.same s43; replace h27 := h27.same s43; replace h28 := h28.same s43; replace h29 := h29.same s43; replace h30 := h30.same s43; replace h31 := h31.same s43; replace h33 := h33.same s43; replace h34 := h34.same s43; replace h35 := h35.same s43; replace h36 := h36.same s43; replace h37 := h37.same s43; replace h41 := h41.same s43; replace h42 := h42.same s43
    replace g3 := s43 _ _ g3; replace g6 := s43 _ _ g6; replace g8 := s43 _ _ g8; replace g10 := s43 _ _ g10; replace g13 := s43 _ _ g13; replace g14 := s43 _ _ g14; replace g19 := s43 _ _ g19; replace g24 := s43 _ _ g24; replace g25 := s43 _ _ g25; replace g26 := s43 _ _ g26; replace g32 := s43 _ _ g32; replace g38 := s43 _ _ g38; replace g39 := s43 _ _ g39; replace g40 := s43 _ _ g40
    have sm := sm.trans s43
    refine ⟨_, rfl, _, rfl, rd_or O hr ha hc (by first | omega | (simp only [Cond.simple, List.length_append]; omega)) fun r44 H44 s44 h44 => ?_⟩
    replace ha := ha.same s44; replace hb := hb.same s44; replace hc := hc.same s44; replace h1 := h1.same s44; replace h2 := h2.same s44; replace h4 := h4.same s44; replace h5 := h5.same s44; replace h7 := h7.same s44; replace h9 := h9.same s44; replace h11 := h11.same s44; replace h12 := h12.same s44; replace h15 := h15.same s44; replace h16 := h16.same s44; replace h17 := h17.same s44; replace h18 := h18.same s44; replace h20 := h20.same s44; replace h21 := h21.same s44; replace h22 := h22.same s44; replace h23 := h23.same s44; replace h27 := h27.same s44; replace h28 := h28.same s44; replace h29 := h29.same s44; replace h30 := h30.same s44; replace h31 := h31.same s44; replace h33 := h33.same s44; replace h34 := h34.same s44; replace h35 := h35.same s44; replace h36 := h36.same s44; replace h37 := h37.same s44; replace h41 := h41.same s44; replace h42 := h42.same s44; replace h43 := h43.same s44
    replace g3 := s44 _ _ g3; replace g6 := s44 _ _ g6; replace g8 := s44 _ _ g8; replace g10 := s44 _ _ g10; replace g13 := s44 _ _ g13; replace g14 := s44 _ _ g14; replace g19 := s44 _ _ g19; replace g24 := s44 _ _ g24; replace g25 := s44 _ _ g25; replace g26 := s44 _ _ g26; replace g32 := s44 _ _ g32; replace g38 := s44 _ _ g38; replace g39 := s44 _ _ g39; replace g40 := s44 _ _ g40
    have sm := sm.trans s44
    refine rd_and O hr h43 h44 (by first | omega | (simp only [Cond.simple, List.length_append]; omega)) fun r45 H45 s45 h45 => ?_
    replace ha := ha.same s45; replace hb := hb.same s45; replace hc := hc.same s45; replace h1 := h1.same s45; replace h2 := h2.same s45; replace h4 := h4.same s45; replace h5 := h5.same s45; replace h7 := h7.same s45; replace h9 := h9.same s45; replace h11 := h11.same s45; replace h12 := h12.same s45; replace h15 := h15.same s45; replace h16 := h16.same s45; replace h17 := h17.same s45; replace h18 := h18.same s45; replace h20 := h20.same s45; replace h21 := h21.same s45; replace h22 := h22.same s45; replace h23 := h23.same s45; replace h27 := h27.same s45; replace h28 := h28.same s45; replace h29 := h29.same s45; replace h30 := h30.same s45; replace h31 := h31.same s45; replace h33 := h33.same s45; replace h34 := h34.same s45; replace h35 := h35.same s45; replace h36 := h36.same s45; replace h37 := h37.same s45; replace h41 := h41.same s45; replace h42 := h42.same s45; replace h43 := h43.same s45; replace h44 := h44.same s45
    replace g3 := s45 _ _ g3; replace g6 := s45 _ _ g6; replace g8 := s45 _ _ g8; replace g10 := s45 _ _ g10; replace g13 := s45 _ _ g13; replace g14 := s45 _ _ g14; replace g19 := s45 _ _ g19; replace g24 := s45 _ _ g24; replace g25 := s45 _ _ g25; replace g26 := s45 _ _ g26; replace g32 := s45 _ _ g32; replace g38 := s45 _ _ g38; replace g39 := s45 _ _ g39; replace g40 := s45 _ _ g40
    have sm := sm.trans s45
    refine ⟨(by show 2 ≤ sizeLine; decide), fun t46 n46 => ?_⟩
    have s46 := same_upd (o := .tup [.ref r42, .ref r45]) n46
    have g46 := new_here (o := .tup [.ref r42, .ref r45]) n46
    replace ha := ha.same s46; replace hb := hb.same s46; replace hc := hc.same s46; replace h1 := h1.same s46; replace h2 := h2.same s46; replace h4 := h4.same s46; replace h5 := h5.same s46; replace h7 := h7.same s46; replace h9 := h9.same s46; replace h11 := h11.same s46; replace h12 := h12.same s46; replace h15 := h15.same s46; replace h16 := h16.same s46; replace h17 := h17.same s46; replace h18 := h18.same s46; replace h20 := h20.same s46; replace h21 := h21.same s46; replace h22 := h22.same s46; replace h23 := h23.same s46; replace h27 := h27.same s46; replace h28 := h28.same s46; replace h29 := h29.same s46; replace h30 := h30.same s46; replace h31 := h31.same s46; replace h33 := h33.same s46; replace h34 := h34.same s46; replace h35 := h35.same s46; replace h36 := h36.same s46; replace h37 := h37.same s46; replace h41 := h41.same s46; replace h42 := h42.same s46; replace h43 := h43.same s46; replace h44 := h44.same s46; replace h45 := h45.same s46
    replace g3 := s46 _ _ g3; replace g6 := s46 _ _ g6; replace g8 := s46 _ _ g8; replace g10 := s46 _ _ g10; replace g13 := s46 _ _ g13; replace g14 := s46 _ _ g14; replace g19 := s46 _ _ g19; replace g24 := s46 _ _ g24; replace g25 := s46 _ _ g25; replace g26 := s46 _ _ g26; replace g32 := s46 _ _ g32; replace g38 := s46 _ _ g38; replace g39 := s46 _ _ g39; replace g40 := s46 _ _ g40
    have sm := sm.trans s46
    refine ⟨_, rfl, _, rfl, rd_or O hr ha hb (by first | omega | (simp only [Cond.simple, List.length_append]; omega)) fun r47 H47 s47 h47 => ?_⟩
    replace ha := ha.same s47; replace hb := hb.same s47; replace hc := hc.same s47; replace h1 := h1.same s47; replace h2 := h2.same s47; replace h4 := h4.same s47; replace h5 := h5.same s47; replace h7 := h7.same s47; replace h9 := h9.same s47; replace h11 := h11.same s47; replace h12 := h12.same s47; replace h15 := h15.same s47; replace h16 := h16.same s47; replace h17 := h17.same s47; replace h18 := h18.same s47; replace h20 := h20.same s47; replace h21 := h21.same s47; replace h22 := h22.same s47; replace h23 := h23.same s47; replace h27 := h27.same s47; replace h28 := h28.same s47; replace h29 := h29.same s47; replace h30 := h30.same s47; replace h31 := h31.same s47; replace h33 := h33.same s47; replace h34 := h34.same s47; replace h35 := h35.same s47; replace h36 := h36.same s47; replace h37 := h37.same s47; replace h41 := h41.same s47; replace h42 := h42.same s47; replace h43 := h43.same s47; replace h44 := h44.same s47; replace h45 := h45.same s47
    replace g3 := s47 _ _ g3; replace g6 := s47 _ _ g6; replace g8 := s47 _ _ g8; replace g10 := s47 _ _ g10; replace g13 := s47 _ _ g13; replace g14 := s47 _ _ g14; replace g19 := s47 _ _ g19; replace g24 := s47 _ _ g24; replace g25 := s47 _ _ g25; replace g26 := s47 _ _ g26; replace g32 := s47 _ _ g32; replace g38 := s47 _ _ g38; replace g39 := s47 _ _ g39; replace g40 := s47 _ _ g40; replace g46 := s47 _ _ g46
    have sm := sm.trans s47
    refine rd_inv O hr h47 fun r48 H48 s48 h48 => ?_
    replace ha := ha.same s48; replace hb := hb.same s48; replace hc := hc.same s48; replace h1 := h1.same s48; replace h2 := h2.same s48; replace h4 := h4.same s48; replace h5 := h5.same s48; replace h7 := h7.same s48; replace h9 := h9.same s48; replace h11 := h11.same s48; replace h12 := h12.same s48; replace h15 := h15.same s48; replace h16 := h16.same s48; replace h17 := h17.same s48; replace h18 := h18.same s48; replace h20 := h20.same s48; replace h21 := h21.same s48; replace h22 := h22.same s48; replace h23 := h23.same s48; replace h27 := h27.same s48; replace h28 := h28.same s48; replace h29 := h29.same s48; replace h30 := h30.same s48; replace h31 := h31.same s48; replace h33 := h33.same s48; replace h34 := h34.same s48; replace h35 := h35.same s48; replace h36 := h36.same s48; replace h37 := h37.same s48; replace h41 := h41.same s48; replace h42 := h42.same s48; replace h43 := h43.same s48; replace h44 := h44.same s48; replace h45 := h45.same s48; replace h47 := h47.same s48
    replace g3 := s48 _ _ g3; replace g6 := s48 _ _ g6; replace g8 := s48 _ _ g8; replace g10 := s48 _ _ g10; replace g13 := s48 _ _ g13; replace g14 := s48 _ _ g14; replace g19 := s48 _ _ g19; replace g24 := s48 _ _ g24; replace g25 := s48 _ _ g25; replace g26 := s48 _ _ g26; replace g32 := s48 _ _ g32; replace g38 := s48 _ _ g38; replace g39 := s48 _ _ g39; replace g40 := s48 _ _ g40; replace g46 := s48 _ _ g46
    have sm := sm.trans s48
    refine ⟨_, rfl, rd_inv O hr ha fun r49 H49 s49 h49 => ?_⟩
    replace ha := ha.same s49; replace hb := hb.same s49; replace hc := hc.same s49; replace h1 := h1.same s49; replace h2 := h2.same s49; replace h4 := h4.same s49; replace h5 := h5.same s49; replace h7 := h7.same s49; replace h9 := h9.same s49; replace h11 := h11.same s49; replace h12 := h12.same s49; replace h15 := h15.same s49; replace h16 := h16.same s49; replace h17 := h17.same s49; replace h18 := h18.same s49; replace h20 := h20.same s49; replace h21 := h21.same s49; replace h22 := h22.same s49; replace h23 := h23.same s49; replace h27 := h27.same s49; replace h28 := h28.same s49; replace h29 := h29.same s49; replace h30 := h30.same s49; replace h31 := h31.same s49; replace h33 := h33.same s49; replace h34 := h34.same s49; replace h35 := h35.same s49; replace h36 := h36.same s49; replace h37 := h37.same s49; replace h41 := h41.same s49; replace h42 := h42.same s49; replace h43 := h43.same s49; replace h44 := h44.same s49; replace h45 := h45.same s49; replace h47 := h47.same s49; replace h48 := h48.same s49
    replace g3 := s49 _ _ g3; replace g6 := s49 _ _ g6; replace g8 := s49 _ _ g8; replace g10 := s49 _ _ g10; replace g13 := s49 _ _ g13; replace g14 := s49 _ _ g14; replace g19 := s49 _ _ g19; replace g24 := s49 _ _ g24; replace g25 := s49 _ _ g25; replace g26 := s49 _ _ g26; replace g32 := s49 _ _ g32; replace g38 := s49 _ _ g38; replace g39 := s49 _ _ g39; replace g40 := s49 _ _ g40; replace g46 := s49 _ _ g46
    have sm := sm.trans s49
    refine ⟨_, rfl, rd_inv O hr hb fun r50 H50 s50 h50 => ?_⟩
    replace ha := ha.same s50; replace hb := hb.same s50; replace hc := hc.same s50; replace h1 := h1.same s50; replace h2 := h2.same s50; replace h4 := h4.same s50; replace h5 := h5.same s50; replace h7 := h7.same s50; replace h9 := h9.same s50; replace h11 := h11.same s50; replace h12 := h12.same s50; replace h15 := h15.same s50; replace h16 := h16.same s50; replace h17 := h17.same s50; replace h18 := h18.same s50; replace h20 := h20.same s50; replace h21 := h21.same s50; replace h22 := h22.same s50; replace h23 := h23.same s50; replace h27 := h27.same s50; replace h28 := h28.same s50; replace h29 := h29.same s50; replace h30 := h30.same s50; replace h31 := h31.same s50; replace h33 := h33.same s50; replace h34 := h34.same s50; replace h35 := h35.same s50; replace h36 := h36.same s50; replace h37 := h37.same s50; replace h41 := h41.same s50; replace h42 := h42.same s50; replace h43 := h43.same s50; replace h44 := h44.same s50; replace h45 := h45.same s50; replace h47 := h47.same s50; replace h48 := h48.same s50; replace h49 := h49.same s50
    replace g3 := s50 _ _ g3; replace g6 := s50 _ _ g6; replace g8 := s50 _ _ g8; replace g10 := s50 _ _ g10; replace g13 := s50 _ _ g13; replace g14 := s50 _ _ g14; replace g19 := s50 _ _ g19; replace g24 := s50 _ _ g24; replace g25 := s50 _ _ g25; replace g26 := s50 _ _ g26; replace g32 := s50 _ _ g32; replace g38 := s50 _ _ g38; replace g39 := s50 _ _ g39; replace g40 := s50 _ _ g40; replace g46 := s50 _ _ g46
    have sm := sm.trans s50
    refine rd_and O hr h49 h50 (by first | omega | (simp only [Cond.simple, List.length_append]; omega)) fun r51 H51 s51 h51 => ?_
    replace ha := ha.same s51; replace hb := hb.same s51; replace hc := hc.same s51; replace h1 := h1.same s51; replace h2 := h2.same s51; replace h4 := h4.same s51; replace h5 := h5.same s51; replace h7 := h7.same s51; replace h9 := h9.same s51; replace h11 := h11.same s51; replace h12 := h12.same s51; replace h15 := h15.same s51; replace h16 := h16.same s51; replace h17 := h17.same s51; replace h18 := h18.same s51; replace h20 := h20.same s51; replace h21 := h21.same s51; replace h22 := h22.same s51; replace h23 := h23.same s51; replace h27 := h27.same s51; replace h28 := h28.same s51; replace h29 := h29.same s51; replace h30 := h30.same s51; replace h31 := h31.same s51; replace h33 := h33.same s51; replace h34 := h34.same s51; replace h35 := h35.same s51; replace h36 := h36.same s51; replace h37 := h37.same s51; replace h41 := h41.same s51; replace h42 := h42.same s51; replace h43 := h43.same s51; replace h44 := h44.same s51; replace h45 := h45.same s51; replace h47 := h47.same s51; replace h48 := h48.same s51; replace h49 := h49.same s51; replace h50 := h50.same s51
    replace g3 := s51 _ _ g3; replace g6 := s51 _ _ g6; replace g8 := s51 _ _ g8; replace g10 := s51 _ _ g10; replace g13 := s51 _ _ g13; replace g14 := s51 _ _ g14; replace g19 := s51 _ _ g19; replace g24 := s51 _ _ g24; replace g25 := s51 _ _ g25; replace g26 := s51 _ _ g26; replace g32 := s51 _ _ g32; replace g38 := s51 _ _ g38; replace g39 := s51 _ _ g39; replace g40 := s51 _ _ g40; replace g46 := s51 _ _ g46
    have sm := sm.trans s51
    refine ⟨(by show 2 ≤ sizeLine; decide), fun t52 n52 => ?_⟩
    have s52 := same_upd (o := .tup [.ref r48, .ref r51]) n52
    have g52 := new_here (o := .tup [.ref r48, .ref r51]) n52
    replace ha := ha.same s52; replace hb := hb.same s52; replace hc := hc.same s52; replace h1 := h1.same s52; replace h2 := h2.same s52; replace h4 := h4.same s52; replace h5 := h5.same s52; replace h7 := h7.same s52; replace h9 := h9.same s52; replace h11 := h11.same s52; replace h12 := h12.same s52; replace h15 := h15.same s52; replace h16 := h16.same s52; replace h17 := h17.same s52; replace h18 := h18.same s52; replace h20 := h20.same s52; replace h21 := h21.same s52; replace h22 := h22.same s52; replace h23 := h23.same s52; replace h27 := h27.same s52; replace h28 := h28.same s52; replace h29 := h29.same s52; replace h30 := h30.same s52; replace h31 := h31.same s52; replace h33 := h33.same s52; replace h34 := h34.same s52; replace h35 := h35.same s52; replace h36 := h36.same s52; replace h37 := h37.same s52; replace h41 := h41.same s52; replace h42 := h42.same s52; replace h43 := h43.same s52; replace h44 := h44.same s52; replace h45 := h45.same s52; replace h47 := h47.same s52; replace h48 := h48.same s52; replace h49 := h49.same s52; replace h50 := h50.same s52; replace h51 := h51.same s52
    replace g3 := s52 _ _ g3; replace g6 := s52 _ _ g6; replace g8 := s52 _ _ g8; replace g10 := s52 _ _ g10; replace g13 := s52 _ _ g13; replace g14 := s52 _ _ g14; replace g19 := s52 _ _ g19; replace g24 := s52 _ _ g24; replace g25 := s52 _ _ g25; replace g26 := s52 _ _ g26; replace g32 := s52 _ _ g32; replace g38 := s52 _ _ g38; replace g39 := s52 _ _ g39; replace g40 := s52 _ _ g40; replace g46 := s52 _ _ g46
    have sm := sm.trans s52
    refine ⟨(by show 2 ≤ sizeLine; decide), fun t53 n53 => ?_⟩
    have s53 := same_upd (o := .lst [.ref t46, .ref t52]) n53
    have g53 := new_here (o := .lst [.ref t46, .ref t52]) n53
    replace ha := ha.same s53; replace hb := hb.same s53; replace hc := hc.same s53; replace h1 := h1.same s53; replace h2 := h2.same s53; replace h4 := h4.same s53; replace h5 := h5.same s53; replace h7 := h7.same s53; replace h9 := h9.same s53; replace h11 := h11.same s53; replace h12 := h12.same s53; replace h15 := h15.same s53; replace h16 := h16.same s53; replace h17 := h17.same s53; replace h18 := h18.same s53; replace h20 := h20.same s53; replace h21 := h21.same s53; replace h22 := h22.same s53; replace h23 := h23.same s53; replace h27 := h27.same s53; replace h28 := h28.same s53; replace h29 := h29.same s53; replace h30 := h30.same s53; replace h31 := h31.same s53; replace h33 := h33.same s53; replace h34 := h34.same s53; replace h35 := h35.same s53; replace h36 := h36.same s53; replace h37 := h37.same s53; replace h41 := h41.same s53; replace h42 := h42.same s53; replace h43 := h43.same s53; replace h44 := h44.same s53; replace h45 := h45.same s53; replace h47 := h47.same s53; replace h48 := h48.same s53; replace h49 := h49.same s53; replace h50 := h50.same s53; replace h51 := h51.same s53
    replace g3 := s53 _ _ g3; replace g6 := s53 _ _ g6; replace g8 := s53 _ _ g8; replace g10 := s53 _ _ g10; replace g13 := s53 _ _ g13; replace g14 := s53 _ _ g14; replace g19 := s53 _ _ g19; replace g24 := s53 _ _ g24; replace g25 := s53 _ _ g25; replace g26 := s53 _ _ g26; replace g32 := s53 _ _ g32; replace g38 := s53 _ _ g38; replace g39 := s53 _ _ g39; replace g40 := s53 _ _ g40; replace g46 := s53 _ _ g46; replace g52 := s53 _ _ g52
    have sm := sm.trans s53
    refine ⟨t40, t53, _, _, rfl, rfl, g40, g53, (by show 9 + 2 ≤ sizeLine; decide), fun t54 n54 => ?_⟩
    have s54 := same_upd (o := .lst [.ref t3, .ref t6, .ref t8, .ref t10, .ref t13, .ref t19, .ref t24, .ref t32, .ref t38, .ref t46, .ref t52]) n54
    have g54 := new_here (o := .lst [.ref t3, .ref t6, .ref t8, .ref t10, .ref t13, .ref t19, .ref t24, .ref t32, .ref t38, .ref t46, .ref t52]) n54
    replace ha := ha.same s54; replace hb := hb.same s54; replace hc := hc.same s54; replace h1 := h1.same s54; replace h2 := h2.same s54; replace h4 := h4.same s54; replace h5 := h5.same s54; replace h7 := h7.same s54; replace h9 := h9.same s54; replace h11 := h11.same s54; replace h12 := h12.same s54; replace h15 := h15.same s54; replace h16 := h16.same s54; replace h17 := h17.same s54; replace h18 := h18.same s54; replace h20 := h20.same s54; replace h21 := h21.same s54; replace h22 := h22.same s54; replace h23 := h23.same s54; replace h27 := h27.same s54; replace h28 := h28.same s54; replace h29 := h29.same s54; replace h30 := h30.same s54; replace h31 := h31.same s54; replace h33 := h33.same s54; replace h34 := h34.same s54; replace h35 := h35.same s54; replace h36 := h36.same s54; replace h37 := h37.same s54; replace h41 := h41.same s54; replace h42 := h42.same s54; replace h43 := h43.same s54; replace h44 := h44.same s54; replace h45 := h45.same s54; replace h47 := h47.same s54; replace h48 := h48.same s54; replace h49 := h49.same s54; replace h50 := h50.same s54; replace h51 := h51.same s54
    replace g3 := s54 _ _ g3; replace g6 := s54 _ _ g6; replace g8 := s54 _ _ g8; replace g10 := s54 _ _ g10; replace g13 := s54 _ _ g13; replace g14 := s54 _ _ g14; replace g19 := s54 _ _ g19; replace g24 := s54 _ _ g24; replace g25 := s54 _ _ g25; replace g26 := s54 _ _ g26; replace g32 := s54 _ _ g32; replace g38 := s54 _ _ g38; replace g39 := s54 _ _ g39; replace g40 := s54 _ _ g40; replace g46 := s54 _ _ g46; replace g52 := s54 _ _ g52; replace g53 := s54 _ _ g53
    have sm := sm.trans s54
    refine k _ _ _ sm g54 ?_
    exact (.cons ⟨_, _, _, rfl, g3, h1, h2⟩ (.cons ⟨_, _, _, rfl, g6, h4, h5⟩ (.cons ⟨_, _, _, rfl, g8, h7, ha⟩ (.cons ⟨_, _, _, rfl, g10, h9, ha⟩ (.cons ⟨_, _, _, rfl, g13, h12, ha⟩ (.cons ⟨_, _, _, rfl, g19, h16, h18⟩ (.cons ⟨_, _, _, rfl, g24, h21, h23⟩ (.cons ⟨_, _, _, rfl, g32, h28, h31⟩ (.cons ⟨_, _, _, rfl, g38, h34, h37⟩ (.cons ⟨_, _, _, rfl, g46, h42, h45⟩ (.cons ⟨_, _, _, rfl, g52, h48, h51⟩ .nil)))))))))))
end
end N77

set_option Elab.async false
set_option linter.all false
set_option maxRecDepth 100000
set_option maxHeartbeats 8000000
namespace N77
open PySem PySem.Spec PyProof.Rows L2 M77
/-! ### a call of an instance, the place's own parts told -/
def tCallOP (P : Program) (w : World) (K : PySem.W.Frag) (mg : Str → Option Value) (base : Heap) (A : Around) (tf : TE) (t : TA) : TE := fun σ H Q => tf σ H fun y H1 => ∃ a C g k sp, y = V.ref a ∧ StX.CallO K C g ∧ FnR P w K mg base CX0 k g sp ∧ Room k A ∧
  t σ H1 fun vs H2 => (∃ dx fs, H2 a = some (.ins C dx fs)) ∧ sp (V.ref a :: vs) H2 Q E0
theorem pe_callOP {X : Cx} {fe e : Expr} {es : List Expr} {tf : TE} {t : TA} {pos : Pos} (P : Program) (w : World) (K : PySem.W.Frag) (mg : Str → Option Value) (base : Heap) (A : Around) (hf : PE X fe tf) (ha : PA X (e :: es) t)
    (h1 : X.prog = P) (h2 : X.w = w) (h3 : X.K = K) (h4 : X.mg = mg) (h5 : X.base = base) (h6 : X.A = A)
    (ht : eval (.Call fe (e :: es) [] pos) X.env = (do callWith pos (← eval fe X.env) [] (backTo pos (starEach (e :: es) X.env)) (backToKw pos (keywordEach [] X.env))) := by rfl)
    (he : starEach (e :: es) X.env = (false, eval e X.env) :: starEach es X.env := by rfl) (hpl : (backTo pos (starEach es X.env)).any (·.1) = false := by rfl) : PE X (.Call fe (e :: es) [] pos) (tCallOP P w K mg base A tf t) := by
  subst h1 h2 h3 h4 h5 h6
  exact pe_callOD hf ha ht he hpl
section
variable {P : Program} {w : World} {K : PySem.W.Frag} {mg : Str → Option Value} {base : Heap} {f : Addr} {fd : FuncData} {ad fh : Kd → Addr} {cC fl fc fa fo fi : Addr}
/-! ### _law_apart -/
structure Fit (ad : Kd → Addr) (H : Hp) (c : Cond) (a : Addr) : Prop where
  at_ : CondAt ad H c a
  sz : c.simple.length ≤ 2
  dp : c.depth ≤ 1
  ok : SsOk c.simple
theorem Fit.same {H H' : Hp} {c : Cond} {a : Addr} (h : Fit ad H c a) (s : Same H H') : Fit ad H' c a := ⟨h.at_.same s, h.sz, h.dp, h.ok⟩
theorem Fit.keep {H H' : Hp} {c : Cond} {a p : Addr} (h : Fit ad H c a) (hp : Pool H p) (s : Keep p H H') : Fit ad H' c a := ⟨h.at_.keep hp.loose s, h.sz, h.dp, h.ok⟩
def spApart (ad : Kd → Addr) : Sp := fun vs H Q _ => ∃ (a b : Addr) (x y : Cond), vs = [.ref a, .ref b] ∧ Fit ad H x a ∧ Fit ad H y b ∧ ∀ H', Same H H' → Q (.bl true) H'
theorem scApart : FnScope ["_law_one", "_law_other", "_law_row"] ["_law_one", "_law_other"] (defScope sLApart) := ⟨rfl, rfl, rfl, by decide +kernel, rfl, by decide +kernel, by decide +kernel⟩
theorem ok_apart (F : Fun K "_law_apart" "_law_apart" sLApart f fd) (O : Ops P w K mg base ad cC fl fc fa fo fi) (cR : Cal P w K mg base "some_row" 24 (spEx ad)) (cA : Cal P w K mg base "are_alike" 25 (spAlike ad)) : FnR P w K mg base CX0 26 f (spApart ad) := by
  refine fnR_of F scApart (fun _ _ _ _ _ _ us hl => match us, hl with | [_, _], _ => rfl) (fun vs H Q E h => ?_) (fun cdv A outer s H vs Q E hr h => ?_)
  · obtain ⟨_, _, _, _, rfl, _⟩ := h; rfl
  · obtain ⟨a, b, x, y, rfl, fa', fb', k⟩ := h
    have hr4 := hr.mono (show 4 ≤ 25 by decide)
    have hr8 := hr.mono (show 8 ≤ 25 by decide)
    refine ⟨_, pss_cons (ps_set (i := 2) scApart.nd rfl (.inl rfl) (pe_cal cR (hr.mono (by decide)) rfl (pa_cons (pe_op op_bin (pe_op op_bin (pv 0) (pe_un un_own (pv 1))) (pe_op op_bin (pv 1) (pe_un un_own (pv 0)))) pa_nil)))
      (pss_cons (ps_if (pt_cmpR op_isN (pv 2) pe_non (nomark _)) (pss_one (ps_ret (pe_cal cA hr rfl (pa_cons (pv 0) (pa_cons (pv 1) pa_nil))))) pss_nil)
      (pss_one (ps_ret (pe_and (pe_not (pe_cal cA hr rfl (pa_cons (pv 0) (pa_cons (pv 1) pa_nil)))) (pe_one (pe_cmpR op_ne
        (pe_callOD (pv 0) (pa_cons (pe_ix (r := rIxT K) ix_tup (pv 2) pe_int (fun _ _ => rfl)) (pa_cons (pe_ix (r := rIxT K) ix_tup (pv 2) pe_int (fun _ _ => rfl)) pa_nil)))
        (pe_callOD (pv 1) (pa_cons (pe_ix (r := rIxT K) ix_tup (pv 2) pe_int (fun _ _ => rfl)) (pa_cons (pe_ix (r := rIxT K) ix_tup (pv 2) pe_int (fun _ _ => rfl)) pa_nil))) (nomark _))))))), ?_⟩
    have za := fa'.sz
    have zb := fb'.sz
    have da := fa'.dp
    have db := fb'.dp
    have ha := fa'.at_
    have hb := fb'.at_
    refine ⟨_, rfl, _, rfl, rd_inv O hr4 hb fun r1 H1 s1 h1 => rd_and O hr4 (ha.same s1) h1 (by simp only [Cond.simple]; omega) fun r2 H2 s2 h2 => ?_⟩
    have hb2 := hb.same (s1.trans s2)
    refine ⟨_, rfl, _, rfl, rd_inv O hr4 (ha.same (s1.trans s2)) fun r3 H3 s3 h3 => rd_and O hr4 (hb2.same s3) h3 (by simp only [Cond.simple]; omega) fun r4 H4 s4 h4 => ?_⟩
    refine rd_or O hr4 (h2.same (s3.trans s4)) h4 (by simp only [Cond.simple, List.length_append]; omega) fun r5 H5 s5 h5 => ?_
    have s05 : Same H H5 := (s1.trans s2).trans ((s3.trans s4).trans s5)
    have okx : SsOk (M77.xor x y).simple := by
      simp only [M77.xor, Cond.simple]
      exact (fa'.ok.app fb'.ok).app (fb'.ok.app fa'.ok)
    have dpx : (M77.xor x y).depth ≤ 6 := by simp only [M77.xor, Cond.depth]; omega
    have szx : (M77.xor x y).simple.length ≤ 15 := by simp only [M77.xor, Cond.simple, List.length_append]; omega
    refine ⟨r5, M77.xor x y, rfl, h5, szx, okx, dpx, fun H6 s6 none' => ?_, fun H6 p kk v s6 hp6 kok hold => ?_⟩
    · have s06 := s05.trans s6
      refine ⟨_, rfl, rfl, true, rfl, iteT ⟨_, rfl, _, rfl, a, b, x, y, rfl, ha.same s06, hb.same s06, by omega, fa'.ok, fb'.ok, by omega, by omega, fun H7 s7 => ?_⟩⟩
      have z := k H7 (s06.trans s7)
      rw [← xor_none none'] at z
      exact z
    · have s06 := s05.trans s6
      obtain ⟨n1, n2⟩ := xor_some kok hold
      refine ⟨_, rfl, rfl, false, rfl, iteF ⟨_, rfl, _, rfl, a, b, x, y, rfl, ha.same s06, hb.same s06, by omega, fa'.ok, fb'.ok, by omega, by omega, fun H7 s7 => ⟨alike x y, rfl, true, by rw [n1]; rfl, iteT ?_⟩⟩⟩
      have ha7 := ha.same (s06.trans s7)
      have hb7 := hb.same (s06.trans s7)
      obtain ⟨_, _, _, _, ia, _⟩ := ha7.core
      have q7 := s7 _ _ hp6
      refine ⟨_, rfl, a, _, fc, 8, _, rfl, O.O.call _, O.C, hr8, _, rfl, p, _, 0, .str (S kk), rfl, rfl, SqT.of q7, atI_nat (j := 0) rfl, _, rfl, p, _, 1, .int v, rfl, rfl, SqT.of q7, atI_nat (j := 1) rfl, ⟨_, _, ia⟩, ?_⟩
      refine ⟨a, x, kk, v, rfl, ha7, by omega, kok, fun H8 s8 => ?_⟩
      have hb8 := hb7.same s8
      obtain ⟨_, _, _, _, ib, _⟩ := hb8.core
      have q8 := s8 _ _ q7
      refine ⟨_, rfl, b, _, fc, 8, _, rfl, O.O.call _, O.C, hr8, _, rfl, p, _, 0, .str (S kk), rfl, rfl, SqT.of q8, atI_nat (j := 0) rfl, _, rfl, p, _, 1, .int v, rfl, rfl, SqT.of q8, atI_nat (j := 1) rfl, ⟨_, _, ib⟩, ?_⟩
      refine ⟨b, y, kk, v, rfl, hb8, by omega, kok, fun H9 s9 => ⟨rfl, ?_⟩⟩
      have e : (!decide (V.bl (x.holds kk v) = V.bl (y.holds kk v))) = true := by
        rw [decide_eq_false (fun z => n2 (V.bl.inj z))]; rfl
      rw [e]
      exact k H9 (((s06.trans s7).trans s8).trans s9)
end
end N77

set_option Elab.async false
set_option linter.all false
set_option maxRecDepth 100000
set_option maxHeartbeats 8000000
namespace N77
open PySem PySem.Spec PyProof.Rows L2 M77
section
variable {P : Program} {w : World} {K : PySem.W.Frag} {mg : Str → Option Value} {base : Heap} {f : Addr} {fd : FuncData} {ad fh : Kd → Addr} {cC fl fc fa fo fi : Addr}
/-! ### law -/
def RowsAt (H : Hp) (us : List V) : Prop := ∀ v ∈ us, ∃ t k x, v = V.ref t ∧ H t = some (.tup [.str (S k), .int x]) ∧ OkKey k
theorem RowsAt.same {H H' : Hp} {us : List V} (h : RowsAt H us) (s : Same H H') : RowsAt H' us := fun v hv => by
  obtain ⟨t, k, x, e, h1, h2⟩ := h v hv
  exact ⟨t, k, x, e, s _ _ h1, h2⟩
theorem RowsAt.keep {H H' : Hp} {us : List V} {p : Addr} (h : RowsAt H us) (hp : Pool H p) (s : Keep p H H') : RowsAt H' us := fun v hv => by
  obtain ⟨t, k, x, e, h1, h2⟩ := h v hv
  refine ⟨t, k, x, e, s _ _ h1 (fun z => ?_), h2⟩
  subst z
  exact hp.loose _ h1 fx_tup
theorem keep_same {H H1 H2 : Hp} {p : Addr} (s : Same H H1) (hp : H p = none) (k : Keep p H1 H2) : Same H H2 := fun b o e => k b o (s b o e) (ne_of_none e hp)
structure PairOk (pr : Cond × Cond) : Prop where
  sz : pr.1.simple.length + pr.2.simple.length ≤ 15
  d1 : pr.1.depth ≤ 4
  d2 : pr.2.depth ≤ 4
  o1 : SsOk pr.1.simple
  o2 : SsOk pr.2.simple
theorem pairs_ok {x y z : Cond} (hx : x.simple.length ≤ 2) (hy : y.simple.length ≤ 2) (hz : z.simple.length ≤ 2) (dx : x.depth ≤ 1) (dy : y.depth ≤ 1) (dz : z.depth ≤ 1) (ox : SsOk x.simple) (oy : SsOk y.simple) (oz : SsOk z.simple) :
    ∀ pr ∈ pairs x y z, PairOk pr := by
  have xy := ox.app oy
  have yx := oy.app ox
  have xx := ox.app ox
  have yz := oy.app oz
  have xz := ox.app oz
  intro pr hp
  simp only [pairs, List.mem_cons, List.mem_nil_iff, or_false] at hp
  rcases hp with rfl | rfl | rfl | rfl | rfl | rfl | rfl | rfl | rfl | rfl | rfl
  · exact ⟨by simp only [Cond.simple, List.length_append]; omega, by simp only [Cond.depth]; omega, by simp only [Cond.depth]; omega, xy, yx⟩
  · exact ⟨by simp only [Cond.simple, List.length_append]; omega, by simp only [Cond.depth]; omega, by simp only [Cond.depth]; omega, xy, yx⟩
  · exact ⟨by simp only [Cond.simple, List.length_append]; omega, by simp only [Cond.depth]; omega, by show x.depth ≤ 4; omega, xx, ox⟩
  · exact ⟨by simp only [Cond.simple, List.length_append]; omega, by simp only [Cond.depth]; omega, by show x.depth ≤ 4; omega, xx, ox⟩
  · exact ⟨by simp only [Cond.simple]; omega, by simp only [Cond.depth]; omega, by show x.depth ≤ 4; omega, ox, ox⟩
  · exact ⟨by simp only [Cond.simple, List.length_append]; omega, by simp only [Cond.depth]; omega, by simp only [Cond.depth]; omega, xy.app oz, ox.app yz⟩
  · exact ⟨by simp only [Cond.simple, List.length_append]; omega, by simp only [Cond.depth]; omega, by simp only [Cond.depth]; omega, xy.app oz, ox.app yz⟩
  · exact ⟨by simp only [Cond.simple, List.length_append]; omega, by simp only [Cond.depth]; omega, by simp only [Cond.depth]; omega, ox.app yz, xy.app xz⟩
  · exact ⟨by simp only [Cond.simple, List.length_append]; omega, by simp only [Cond.depth]; omega, by simp only [Cond.depth]; omega, xy, xy⟩
  · exact ⟨by simp only [Cond.simple, List.length_append]; omega, by simp only [Cond.depth]; omega, by simp only [Cond.depth]; omega, ox.app yz, xy.app xz⟩
  · exact ⟨by simp only [Cond.simple, List.length_append]; omega, by simp only [Cond.depth]; omega, by simp only [Cond.depth]; omega, xy, xy⟩
theorem boot_min' : bootBuiltins "min" = some (.builtin "min") := by decide +kernel
abbrev nLaw : List Str := ["_law_script", "_law_k", "_law_pool", "_law_one", "_law_other", "_law_third", "_law_rows", "_law_left", "_law_right", "_law_turn", "_law_row"]
def spLaw (K : PySem.W.Frag) : Sp := fun vs H Q _ => ∃ (a : Addr) (ns : List Int), vs = [.ref a] ∧ SqL K H a (ns.map V.int) ∧ ns.length ≤ 63 ∧ ∀ H', Q (.bl true) H'
theorem scLaw : FnScope nLaw ["_law_script"] (defScope sLaw) := ⟨rfl, rfl, rfl, by decide +kernel, rfl, by decide +kernel, by decide +kernel⟩
structure Cals (P : Program) (w : World) (K : PySem.W.Frag) (mg : Str → Option Value) (base : Heap) (ad : Kd → Addr) : Prop where
  hand : Cal P w K mg base "_law_hand" 1 (spHand K)
  draw : Cal P w K mg base "_law_draw" 1 spDrw
  key : Cal P w K mg base "_law_key" 2 spKey
  cond : Cal P w K mg base "_law_condition" 7 (spCond ad 1)
  prs : Cal P w K mg base "_law_pairs" 5 (spPairs ad)
  apart : Cal P w K mg base "_law_apart" 26 (spApart ad)
  row : Cal P w K mg base "some_row" 24 (spEx ad)
  imp : Cal P w K mg base "implies" 24 (spImp ad)
  alike : Cal P w K mg base "are_alike" 25 (spAlike ad)
theorem Pool.other {H : Hp} {p D : Addr} {o : HO} (h : Pool H p) (ne : D ≠ p) : Pool (L2.upd H D o) p := let ⟨x, y, e⟩ := h; ⟨x, y, by rw [upd_ne (Ne.symm ne)]; exact e⟩
theorem SqL.same1 {H H' : Hp} {a : Addr} {xs : List V} (h : SqL K H a xs) (e : Same H H') : SqL K H' a xs :=
  h.elim (fun h => .inl (h.elim (fun h => .inl (e _ _ h)) fun ⟨o, h⟩ => .inr ⟨o, e _ _ h⟩)) fun h => .inr h
theorem rd_b6 {D : Ends} {H : Hp} {a b c : Addr} {x y z : Cond} {v0 v1 v2 v6 v7 v8 v9 v10 : Option V} (fx : Fit ad H x a) (fy : Fit ad H y b) (fz : Fit ad H z c)
    (k : ∀ H', Same H H' → D.nx [v0, v1, v2, some (.ref a), some (.ref b), some (.ref c), v6, v7, v8, v9, v10] H') :
    tIfS (tAnd (tB (tCal (spImp ad) (tCons (tVar 3) (tCons (tVar 4) tNil)))) (tAnd (tB (tCal (spImp ad) (tCons (tVar 4) (tCons (tVar 5) tNil)))) (tNot (tB (tCal (spImp ad) (tCons (tVar 3) (tCons (tVar 5) tNil)))))))
      (tRet (tC (V.bl false))) tNext D [v0, v1, v2, some (.ref a), some (.ref b), some (.ref c), v6, v7, v8, v9, v10] H := by
  have z1 := fx.sz; have z2 := fy.sz; have z3 := fz.sz; have d1 := fx.dp; have d2 := fy.dp; have d3 := fz.dp
  refine ⟨_, rfl, _, rfl, a, b, x, y, rfl, fx.at_, fy.at_, by omega, fx.ok, fy.ok, by omega, by omega, fun H1 s1 => ⟨imp x y, rfl, ite2 (fun e1 => ?_) fun _ => iteF (k H1 s1)⟩⟩
  refine ⟨_, rfl, _, rfl, b, c, y, z, rfl, fy.at_.same s1, fz.at_.same s1, by omega, fy.ok, fz.ok, by omega, by omega, fun H2 s2 => ⟨imp y z, rfl, ite2 (fun e2 => ?_) fun _ => iteF (k H2 (s1.trans s2))⟩⟩
  have s12 := s1.trans s2
  refine ⟨_, rfl, _, rfl, a, c, x, z, rfl, fx.at_.same s12, fz.at_.same s12, by omega, fx.ok, fz.ok, by omega, by omega, fun H3 s3 => ⟨true, congrArg V.bl (imp_trans e1 e2), iteF (k H3 (s12.trans s3))⟩⟩
theorem Paired.get1 {α β : Type} {R : α → β → Prop} : ∀ {l : List α} {m : List β} {i : Nat} {x : α}, Paired R l m → l[i]? = some x → ∃ y ∈ m, R x y
  | _, _, 0, _, .cons r _, e => by cases e; exact ⟨_, List.mem_cons_self, r⟩
  | _, _, i + 1, _, .cons _ t, e => by
    obtain ⟨y, hy, r⟩ := Paired.get1 (i := i) t e
    exact ⟨y, List.mem_cons_of_mem _ hy, r⟩
theorem PairsAt.same {H H' : Hp} {us : List V} {ps : List (Cond × Cond)} (h : PairsAt ad H us ps) (s : Same H H') : PairsAt ad H' us ps :=
  Paired.mapP h fun v pr ⟨t, l, r, e, h1, h2, h3⟩ => ⟨t, l, r, e, s _ _ h1, h2.same s, h3.same s⟩
theorem ok_law (F : Fun K "law" "law" sLaw f fd) (B : Bt mg) (O : Ops P w K mg base ad cC fl fc fa fo fi) (C : Cals P w K mg base ad) : FnOk P w K mg base CX0 27 f fd ["_law_script"] (spLaw K) := by
  refine F.ok scLaw (fun vs H Q E h => ?_) (fun cdv A outer s H vs Q E hr h => ?_)
  · obtain ⟨_, _, rfl, _⟩ := h; rfl
  have hu : (A.deeper (envOfC "law" (defScope sLaw) s.heap.objs.size f cdv)).units + 64 < cLine := by have := hr.un; omega
  have hr4 := hr.mono (show 4 ≤ 26 by decide)
  have hr8 := hr.mono (show 8 ≤ 26 by decide)
  refine ⟨_, pss_cons (ps_for PassesOwn.never rfl (pi_range1 rfl B.range (pa_cons (pe_callB (call_max2 rfl) rfl B.max boot_max' (pa_cons pe_int (pa_cons (pe_callB (call_min2 rfl) rfl B.min boot_min' (pa_cons (pe_callB call_len_seq rfl B.len PySem.boot_len (pa_cons (pv 0) pa_nil)) (pa_cons pe_int pa_nil))) pa_nil))) pa_nil)) (pg_name (i := 1) scLaw.nd rfl (Or.inl rfl))
      (pss_cons (ps_set (i := 2) scLaw.nd rfl (.inr rfl) (pe_cal C.hand (hr.mono (by decide)) rfl (pa_cons (pv 0) (pa_cons (pv 1) pa_nil))))
      (pss_cons (ps_par3 (i := 3) (j := 4) (l := 5) rfl scLaw.nd rfl rfl rfl (by decide) (by decide) (by decide) rfl rfl rfl
        (pa_cons (pe_cal C.cond (hr.mono (by decide)) rfl (pa_cons (pv 2) (pa_cons pe_int pa_nil))) (pa_cons (pe_cal C.cond (hr.mono (by decide)) rfl (pa_cons (pv 2) (pa_cons pe_int pa_nil))) (pa_cons (pe_cal C.cond (hr.mono (by decide)) rfl (pa_cons (pv 2) (pa_cons pe_int pa_nil))) pa_nil))) (by rfl))
      (pss_cons (ps_setLc (i := 6) (own := [("_law_turn", 9)]) (g := gName 9) rfl scLaw.nd rfl rfl (sw_true rfl rfl rfl rfl) (pi_range1 rfl B.range (pa_cons pe_int pa_nil))
        (blkOk_by (own := [("_law_turn", 9)]) (N := nLaw) (sc := defScope sLaw) (by decide +kernel))
        (fun _ _ _ _ _ => pg_name (i := 9) scLaw.nd rfl (Or.inl rfl)) (fun _ _ _ _ _ => pts_nil)
        (fun _ _ _ _ _ => pe_tup (pa_cons (pe_cal C.key (hr.mono (by decide)) rfl (pa_cons (pv 2) (pa_cons pe_int pa_nil))) (pa_cons (pe_op op_sub (pe_cal C.draw (hr.mono (by decide)) rfl (pa_cons (pv 2) (pa_cons pe_int pa_nil))) pe_int) pa_nil))))
      (pss_cons (ps_for PassesOwn.never rfl (pi_list (pe_cal C.prs (hr.mono (by decide)) rfl (pa_cons (pv 3) (pa_cons (pv 4) (pa_cons (pv 5) pa_nil))))) (pg_tup rfl (pgs_cons (pg_name (i := 7) scLaw.nd rfl (Or.inr rfl)) (pgs_cons (pg_name (i := 8) scLaw.nd rfl (Or.inr rfl)) pgs_nil)))
        (pss_cons (ps_if (pt_cmpR (op_neD hu) (pe_lc (own := [("_law_row", 10)]) (g := gName 10) rfl scLaw.nd (pi_list (pv 6))
          (blkOk_by (own := [("_law_row", 10)]) (N := nLaw) (sc := defScope sLaw) (by decide +kernel))
          (fun _ _ _ _ _ => pg_name (i := 10) scLaw.nd rfl (Or.inl rfl))
          (fun _ _ _ _ _ => pts_one (pt_cmpR op_ne
            (pe_callOP P w K mg base (A.deeper (envOfC "law" (defScope sLaw) s.heap.objs.size f cdv)) (pv 7) (pa_cons (pe_ix (r := rIxT K) ix_tup (pv 10) pe_int (fun _ _ => rfl)) (pa_cons (pe_ix (r := rIxT K) ix_tup (pv 10) pe_int (fun _ _ => rfl)) pa_nil)) rfl rfl rfl rfl rfl rfl)
            (pe_callOP P w K mg base (A.deeper (envOfC "law" (defScope sLaw) s.heap.objs.size f cdv)) (pv 8) (pa_cons (pe_ix (r := rIxT K) ix_tup (pv 10) pe_int (fun _ _ => rfl)) (pa_cons (pe_ix (r := rIxT K) ix_tup (pv 10) pe_int (fun _ _ => rfl)) pa_nil)) rfl rfl rfl rfl rfl rfl) (nomark _)))
          (fun _ _ _ _ _ => pv 10)) (pe_lst pa_nil) (nomark _)) (pss_one (ps_ret pe_bl)) pss_nil)
        (pss_one (ps_if (PW.pt (pw_or (pt_cmpR op_notBl (pe_cal C.alike (hr.mono (by decide)) rfl (pa_cons (pv 7) (pa_cons (pv 8) pa_nil))) pe_bl (nomark _)) (pw_or1 (pt_cmpR op_notBl (pe_cal C.imp (hr.mono (by decide)) rfl (pa_cons (pv 7) (pa_cons (pv 8) pa_nil))) pe_bl (nomark _))))) (pss_one (ps_ret pe_bl)) pss_nil))))
      (pss_cons (ps_if (PW.pt (pw_or (pt_not (pt_val (pe_cal C.imp (hr.mono (by decide)) rfl (pa_cons (pe_op op_bin (pv 3) (pv 4)) (pa_cons (pv 3) pa_nil))))) (pw_or (pt_not (pt_val (pe_cal C.imp (hr.mono (by decide)) rfl (pa_cons (pv 3) (pa_cons (pe_op op_bin (pv 3) (pv 4)) pa_nil))))) (pw_or1 (pt_not (pt_val (pe_cal C.apart hr rfl (pa_cons (pv 3) (pa_cons (pv 4) pa_nil))))))))) (pss_one (ps_ret pe_bl)) pss_nil)
      (pss_cons (ps_if (PW.pt (pw_and (pt_val (pe_cal C.imp (hr.mono (by decide)) rfl (pa_cons (pv 3) (pa_cons (pv 4) pa_nil)))) (pw_and (pt_val (pe_cal C.imp (hr.mono (by decide)) rfl (pa_cons (pv 4) (pa_cons (pv 5) pa_nil)))) (pw_and1 (pt_not (pt_val (pe_cal C.imp (hr.mono (by decide)) rfl (pa_cons (pv 3) (pa_cons (pv 5) pa_nil))))))))) (pss_one (ps_ret pe_bl)) pss_nil)
      (pss_cons (ps_if (PW.pt (pw_or (pt_cmpR op_ne (pe_cal C.imp (hr.mono (by decide)) rfl (pa_cons (pv 3) (pa_cons (pv 4) pa_nil))) (pe_cal C.imp (hr.mono (by decide)) rfl (pa_cons (pe_un un_own (pv 4)) (pa_cons (pe_un un_own (pv 3)) pa_nil))) (nomark _)) (pw_or1 (pt_cmpR op_ne (pe_cal C.imp (hr.mono (by decide)) rfl (pa_cons (pv 3) (pa_cons (pv 4) pa_nil))) (pe_cal C.alike (hr.mono (by decide)) rfl (pa_cons (pe_op op_bin (pv 3) (pv 4)) (pa_cons (pv 3) pa_nil))) (nomark _))))) (pss_one (ps_ret pe_bl)) pss_nil)
      (pss_one (ps_if (PW.pt (pw_or (pt_cmpR op_notN (pe_cal C.row (hr.mono (by decide)) rfl (pa_cons (pe_op op_bin (pv 3) (pe_un un_own (pv 3))) pa_nil)) pe_non (nomark _)) (pw_or1 (pt_cmpR op_isN (pe_cal C.row (hr.mono (by decide)) rfl (pa_cons (pe_op op_bin (pv 3) (pe_un un_own (pv 3))) pa_nil)) pe_non (nomark _))))) (pss_one (ps_ret pe_bl)) pss_nil))))))))))
    (pss_one (ps_ret pe_bl)), ?_⟩
  obtain ⟨a, ns, rfl, ha, hl, k⟩ := h
  refine ⟨_, rfl, a, ns.map V.int, rfl, .inl ha, _, _, rfl, _, _, rfl, _, rfl, ?_, ?_, ?_⟩
  · split <;> split <;> omega
  · rw [List.length_map]; split <;> split <;> omega
  refine for_it walk_range (fun i σ H' => Same H H' ∧ ∃ v1 v2 v3 v4 v5 v6 v7 v8 v9 v10 : Option V, σ = [some (.ref a), v1, v2, v3, v4, v5, v6, v7, v8, v9, v10]) ⟨Same.refl _, _, _, _, _, _, _, _, _, _, _, rfl⟩ (fun _ _ _ _ _ => trivial) (fun i x σ H1 H' hi q hy => ?_) (fun σ H' q => ?_)
  rotate_left
  · obtain ⟨_, _, _, _, _, _, _, _, _, _, _, rfl⟩ := q
    exact k H'
  obtain ⟨rfl, rfl⟩ := hy
  obtain ⟨s0, v1, v2, v3, v4, v5, v6, v7, v8, v9, v10, rfl⟩ := q
  -- the hand
  refine ⟨_, rfl, _, rfl, a, ns, _, rfl, SqL.same1 ha s0, hl, fun H2 p x0 y0 s2 np hp2 => ?_⟩
  have pl2 : Pool H2 p := ⟨x0, y0, hp2⟩
  -- three conditions
  refine ⟨_, rfl, p, rfl, pl2, fun H3 c1 x k3 pl3 hx zx dx ox => ?_⟩
  refine ⟨_, rfl, p, rfl, pl3, fun H4 c2 y k4 pl4 hy zy dy oy => ?_⟩
  refine ⟨_, rfl, p, rfl, pl4, fun H5 c3 z k5 pl5 hz zz dz oz => ⟨_, _, _, rfl, ?_⟩⟩
  have fx : Fit ad H3 x c1 := ⟨hx, zx, dx, ox⟩
  have fy : Fit ad H4 y c2 := ⟨hy, zy, dy, oy⟩
  have fz : Fit ad H5 z c3 := ⟨hz, zz, dz, oz⟩
  have fx := (fx.keep pl3 k4).keep pl4 k5
  have fy := fy.keep pl4 k5
  have k25 := k3.trans (k4.trans k5)
  clear hx hy hz
  -- the rows
  refine ⟨_, rfl, by decide, by decide, fun D hD => ?_⟩
  have dp := pool_ne pl5 hD
  refine lc_it walk_range (fun i H' => Keep p H5 H' ∧ Pool H' p ∧ ∃ us, us.length = i ∧ RowsAt H' us ∧ H' D = some (.lst us)) ⟨(same_upd hD).keep, pl5.upd hD, [], rfl, (fun _ h => nomatch h), upd_same⟩ (fun _ _ _ _ => trivial) (fun i y H6 H' hi q hy => ?_) (fun H6 q => ?_)
  · obtain ⟨rfl, _⟩ := hy
    obtain ⟨k6, pl6, us, hus, rows, hd⟩ := q
    refine ⟨rfl, _, rfl, p, 5, rfl, pl6, by decide, by decide, fun H7 key k7 pl7 ok7 => ⟨_, rfl, p, 15, rfl, pl7, by decide, by decide, fun H8 r k8 pl8 c0 c1 => ⟨_, _, rfl, rfl, (by show 2 ≤ sizeLine; decide), fun t nt => ?_⟩⟩⟩
    have k68 := k7.trans k8
    have hd8 := k68 _ _ hd dp
    have s9 := same_upd (o := .tup [.str (S key), .int (r - 7)]) nt
    have hd9 := s9 _ _ hd8
    refine ⟨us, hd9, ?_, ?_, ?_, us ++ [.ref t], by simp [hus], ?_, upd_same⟩
    · rw [hus]; exact small1000 (by have : i < 12 := hi; omega)
    · exact fun b o e n => by
        rw [upd_ne (ne_of_none e hD)]
        exact s9 _ _ (k68 _ _ (k6 _ _ e n) n)
    · exact (pl8.upd nt).other dp
    · intro v hv
      rcases List.mem_append.mp hv with hv | hv
      · obtain ⟨t', k', x', e, h1, h2⟩ := ((rows.keep pl6 k68).same s9) v hv
        refine ⟨t', k', x', e, ?_, h2⟩
        rw [upd_ne]; exact h1
        intro z; rw [z, hd9] at h1; cases h1
      · rw [List.mem_singleton.mp hv]
        refine ⟨t, key, r - 7, rfl, ?_, ok7⟩
        rw [upd_ne (Ne.symm (ne_of_none hd8 nt))]; exact upd_same
  obtain ⟨k6, pl6, us, hus, rows, hd⟩ := q
  have fx := fx.keep pl5 k6
  have fy := fy.keep pl5 k6
  have fz := fz.keep pl5 k6
  have s6 : Same H H6 := keep_same (s0.trans s2) (by
    cases e : H p with
    | none => rfl
    | some o => have := s0 _ _ e; rw [np] at this; cases this) (k25.trans k6)
  clear hi
  refine ⟨_, rfl, _, rfl, _, rfl, c1, c2, c3, x, y, z, rfl, fx.at_, fy.at_, fz.at_, zx, zy, zz, fun H7 L us7 s7 hL prs => ⟨L, rfl, ⟨_, SqL.of hL⟩, ?_⟩⟩
  have pok := pairs_ok zx zy zz dx dy dz ox oy oz
  refine for_list (xs := us7) (fun j σ H' => Same H7 H' ∧ ∃ w7 w8 : Option V, σ = [some (.ref a), some (V.int (0 + (i : Int))), some (.ref p), some (.ref c1), some (.ref c2), some (.ref c3), some (.ref D), w7, w8, v9, v10]) ⟨Same.refl _, _, _, rfl⟩ (fun j σ H' _ q => SqL.of (q.1 _ _ hL)) (fun j v σ H8 hv q => ?_) (fun σ H8 q => ?_)
  · obtain ⟨s8, w7, w8, rfl⟩ := q
    obtain ⟨pr, hpr, t, l, r, rfl, ht, hcl, hcr⟩ := Paired.get1 (PairsAt.same prs s8) hv
    have P1 := pok pr hpr
    have eqv := pairs_eqv pr hpr
    have hd8 := s8 _ _ (s7 _ _ hd)
    refine ⟨t, [.ref l, .ref r], rfl, SqT.of ht, rfl, _, _, rfl, _, _, rfl, rfl, ?_⟩
    refine ⟨_, rfl, D, rfl, ⟨_, SqL.of hd8⟩, fun D2 hD2 => ?_⟩
    refine lc_it (walk_list (xs := us)) (fun _ H' => Same H8 H' ∧ H' D2 = some (.lst [])) ⟨same_upd hD2, upd_same⟩ (fun j H' _ q => SqL.of (q.1 _ _ hd8)) (fun j v H9 H' hj q hv => ?_) (fun H9 q => ?_)
    · obtain ⟨rfl, hv⟩ := hv
      obtain ⟨s9, hd2⟩ := q
      obtain ⟨tr, kk, xv, rfl, htr, okk⟩ := (rows.same (s7.trans (s8.trans s9))) _ (List.mem_of_getElem? hv)
      have hcl := hcl.same s9
      have hcr := hcr.same s9
      obtain ⟨_, _, _, _, ia, _⟩ := hcl.core
      have d1 := P1.d1
      have d2 := P1.d2
      refine ⟨rfl, _, rfl, l, _, fc, 8, _, rfl, O.O.call _, O.C, hr8, _, rfl, tr, _, 0, .str (S kk), rfl, rfl, SqT.of htr, atI_nat (j := 0) rfl, _, rfl, tr, _, 1, .int xv, rfl, rfl, SqT.of htr, atI_nat (j := 1) rfl, ⟨_, _, ia⟩, ?_⟩
      refine ⟨l, pr.1, kk, xv, rfl, hcl, by omega, okk, fun H10 s10 => ?_⟩
      have hcr := hcr.same s10
      obtain ⟨_, _, _, _, ib, _⟩ := hcr.core
      have htr := s10 _ _ htr
      refine ⟨_, rfl, r, _, fc, 8, _, rfl, O.O.call _, O.C, hr8, _, rfl, tr, _, 0, .str (S kk), rfl, rfl, SqT.of htr, atI_nat (j := 0) rfl, _, rfl, tr, _, 1, .int xv, rfl, rfl, SqT.of htr, atI_nat (j := 1) rfl, ⟨_, _, ib⟩, ?_⟩
      refine ⟨r, pr.2, kk, xv, rfl, hcr, by omega, okk, fun H11 s11 => ⟨rfl, false, congrArg V.bl (by rw [eqv kk xv, decide_eq_true rfl]; rfl), iteF ⟨s9.trans (s10.trans s11), (s10.trans s11) _ _ hd2⟩⟩⟩
    obtain ⟨s9, hd2⟩ := q
    refine ⟨(by show 0 ≤ sizeLine; decide), fun D3 hD3 => ⟨.list [], .list [], .lst (SqL.of (same_upd hD3 _ _ hd2)) .nil, .lst (SqL.of upd_same) .nil, rfl, rfl, false, rfl, iteF ?_⟩⟩
    have s10 := s9.trans (same_upd (o := .lst []) hD3)
    refine ⟨_, rfl, _, rfl, l, r, pr.1, pr.2, rfl, hcl.same s10, hcr.same s10, P1.sz, P1.o1, P1.o2, P1.d1, P1.d2, fun H11 s11 => ⟨_, true, rfl, rfl, false, congrArg V.bl (by rw [M77.Eqv.alike eqv]; rfl), iteF ?_⟩⟩
    have s11 := s10.trans s11
    refine ⟨_, rfl, _, rfl, l, r, pr.1, pr.2, rfl, hcl.same s11, hcr.same s11, P1.sz, P1.o1, P1.o2, P1.d1, P1.d2, fun H12 s12 => ⟨_, true, rfl, rfl, false, congrArg V.bl (by rw [M77.Eqv.imp eqv]; rfl), iteF ?_⟩⟩
    exact ⟨s8.trans (s11.trans s12), _, _, rfl⟩
  obtain ⟨s8, w7, w8, rfl⟩ := q
  have s68 := s7.trans s8
  have fx := fx.same s68
  have fy := fy.same s68
  have fz := fz.same s68
  have s8 := s6.trans s68
  -- not implies(one & other, one) or not implies(one, one | other) or not _law_apart(one, other)
  refine ⟨_, rfl, _, rfl, rd_and O hr4 fx.at_ fy.at_ (by omega) fun r1 H9 s9 h1 => ?_⟩
  refine ⟨_, rfl, r1, c1, .both x y, x, rfl, h1, fx.at_.same s9, by simp only [Cond.simple, List.length_append]; omega, ox.app oy, ox, by simp only [Cond.depth]; omega, by omega, fun H10 s10 => ⟨true, congrArg V.bl imp_and, iteF ?_⟩⟩
  have s9 := s9.trans s10
  refine ⟨_, rfl, _, rfl, _, rfl, rd_or O hr4 (fx.at_.same s9) (fy.at_.same s9) (by omega) fun r2 H11 s11 h2 => ?_⟩
  have s9 := s9.trans s11
  refine ⟨c1, r2, x, .either x y, rfl, fx.at_.same s9, h2, by simp only [Cond.simple, List.length_append]; omega, ox, ox.app oy, by omega, by simp only [Cond.depth]; omega, fun H12 s12 => ⟨true, congrArg V.bl imp_or, iteF ?_⟩⟩
  have s9 := s9.trans s12
  refine ⟨_, rfl, _, rfl, c1, c2, x, y, rfl, fx.same s9, fy.same s9, fun H13 s13 => ⟨true, rfl, iteF ?_⟩⟩
  have s9 := s9.trans s13
  have fx := fx.same s9
  have fy := fy.same s9
  have fz := fz.same s9
  have s9 := s8.trans s9
  refine rd_b6 fx fy fz fun H14 s14 => ?_
  have fx := fx.same s14
  have fy := fy.same s14
  have s9 := s9.trans s14
  -- implies(one, other) != implies(~other, ~one) or implies(one, other) != are_alike(one & other, one)
  refine ⟨_, rfl, _, rfl, c1, c2, x, y, rfl, fx.at_, fy.at_, by omega, ox, oy, by omega, by omega, fun H15 s15 => ?_⟩
  have fx := fx.same s15
  have fy := fy.same s15
  have s9 := s9.trans s15
  refine ⟨_, rfl, rd_inv O hr4 fy.at_ fun r3 H16 s16 h3 => ⟨_, rfl, rd_inv O hr4 (fx.at_.same s16) fun r4 H17 s17 h4 => ?_⟩⟩
  refine ⟨r3, r4, .opp y, .opp x, rfl, h3.same s17, h4, by simp only [Cond.simple]; omega, oy, ox, by simp only [Cond.depth]; omega, by simp only [Cond.depth]; omega, fun H18 s18 => ⟨rfl, false, congrArg V.bl (by rw [← imp_turn, decide_eq_true rfl]; rfl), iteF ?_⟩⟩
  have s16 := s16.trans (s17.trans s18)
  have fx := fx.same s16
  have fy := fy.same s16
  have s9 := s9.trans s16
  refine ⟨_, rfl, _, rfl, c1, c2, x, y, rfl, fx.at_, fy.at_, by omega, ox, oy, by omega, by omega, fun H19 s19 => ?_⟩
  have fx := fx.same s19
  have fy := fy.same s19
  have s9 := s9.trans s19
  refine ⟨_, rfl, _, rfl, rd_and O hr4 fx.at_ fy.at_ (by omega) fun r5 H20 s20 h5 => ?_⟩
  refine ⟨_, rfl, r5, c1, .both x y, x, rfl, h5, fx.at_.same s20, by simp only [Cond.simple, List.length_append]; omega, ox.app oy, ox, by simp only [Cond.depth]; omega, by omega, fun H21 s21 => ⟨rfl, false, congrArg V.bl (by rw [← imp_alike, decide_eq_true rfl]; rfl), iteF ?_⟩⟩
  have s20 := s20.trans s21
  have fx := fx.same s20
  have s9 := s9.trans s20
  -- some_row(one & ~one) is not None or some_row(one | ~one) is None
  refine ⟨_, rfl, _, rfl, rd_inv O hr4 fx.at_ fun r6 H22 s22 h6 => rd_and O hr4 (fx.at_.same s22) h6 (by simp only [Cond.simple]; omega) fun r7 H23 s23 h7 => ?_⟩
  refine ⟨r7, .both x (.opp x), rfl, h7, by simp only [Cond.simple, List.length_append]; omega, ox.app ox, by simp only [Cond.depth]; omega, fun H24 s24 _ => ⟨rfl, false, rfl, iteF ?_⟩, fun _ _ kk xv _ _ _ hold => by rw [never] at hold; cases hold⟩
  have s22 := s22.trans (s23.trans s24)
  have fx := fx.same s22
  have s9 := s9.trans s22
  refine ⟨_, rfl, _, rfl, rd_inv O hr4 fx.at_ fun r8 H25 s25 h8 => rd_or O hr4 (fx.at_.same s25) h8 (by simp only [Cond.simple]; omega) fun r9 H26 s26 h9 => ?_⟩
  refine ⟨r9, .either x (.opp x), rfl, h9, by simp only [Cond.simple, List.length_append]; omega, ox.app ox, by simp only [Cond.depth]; omega, fun _ _ none' => absurd (none' [97] 0 key_a) (by rw [always]; decide), fun H27 p9 kk xv s27 _ _ _ => ⟨rfl, false, rfl, iteF ?_⟩⟩
  exact ⟨s9.trans (s25.trans (s26.trans s27)), _, _, _, _, _, _, _, _, _, _, rfl⟩
end
end N77

set_option Elab.async false
set_option linter.all false
set_option maxRecDepth 100000
set_option maxHeartbeats 8000000
namespace N77
open PySem PySem.Spec PyProof.Rows L2 M77

/-! ### the facts, put together -/
/-- a def of the module -/
def Pl (K : PySem.W.Frag) (mg : Str → Option Value) (x : Str) (st : Stmt) : Prop := ∃ f fd, mg x = some (.ref f) ∧ PySem.W.keepIn K (.ref f) = true ∧ Fun K x x st f fd
theorem pl_mk {K : PySem.W.Frag} {h : Heap} {mg : Str → Option Value} {x : Str} {st : Stmt} {f : Addr} {od an : Option Addr} {sl : Array (Option Value)} {oc kV dc pm cd ct : Value} (X : K.In h) (G : h.Ns mainGlobals mg)
    (a : PySem.W.nsIn K mainGlobals x = some (some (.ref f))) (l : K.lookup f = some ⟨oc, od, .func (PySem.W.fnOf x x (defArgs st) (defBody st) (defScope st) .none kV dc pm an cd ct), sl⟩) (c : PySem.W.codeIn K cd x = true) (k : PySem.W.keepIn K (.ref f) = true) : Pl K mg x st :=
  ⟨f, _, PySem.W.mg_of X G a, k, fun_mk l c k⟩
theorem Pl.cal {P : Program} {w : World} {K : PySem.W.Frag} {mg : Str → Option Value} {base : Heap} {x : Str} {st : Stmt} {k : Nat} {sp : Sp} (p : Pl K mg x st) (h : ∀ f fd, Fun K x x st f fd → FnR P w K mg base CX0 k f sp) : Cal P w K mg base x k sp :=
  let ⟨f, fd, hm, hk, F⟩ := p
  ⟨f, hm, hk, h f fd F⟩
/-- a condition's class -/
structure ClsAll (P : Program) (K : PySem.W.Frag) (mg : Str → Option Value) (x qi qh : Str) (i : Nat) (C CC fI fH fCI fc fa fo fi fl : Addr) (fdI fdH : FuncData) : Prop where
  mgx : mg x = some (.ref C)
  T : ClsF K C
  M : Meth K C "holds" fH
  H : Fun K "holds" qh (sHoldsOf i) fH fdH
  I : FunS P K "__init__" qi (sInitOf i) fI fdI C fCI
  mkf : Mk K C fI
  isi : SlX.SIsi K C
  kit : PySem.W.kitOne K (.ref C) (.ref CC) = some true
  len : PySem.W.findIn K (.ref C) "__len__" = some (some (.ref fl))
  call : StX.CallO K C fc
  and_ : PySem.W.findIn K (.ref C) "__and__" = some (some (.ref fa))
  or_ : PySem.W.findIn K (.ref C) "__or__" = some (some (.ref fo))
  inv : PySem.W.findIn K (.ref C) "__invert__" = some (some (.ref fi))
  rand : PySem.W.findIn K (.ref C) "__rand__" = some none
  ror : PySem.W.findIn K (.ref C) "__ror__" = some none
  self : PySem.W.selfFirst K C = true
theorem cls_mk {P : Program} {K : PySem.W.Frag} {h : Heap} {mg : Str → Option Value} {x qi qh : Str} {i : Nat} {C CC fI fH fCI fc fa fo fi fl cda cc : Addr} {ar : Arg} {oc1 kV1 dc1 pm1 cd1 ct1 : Value} {od1 an1 : Option Addr} {sl1 : Array (Option Value)} {oc2 kV2 dc2 pm2 ct2 : Value} {od2 an2 : Option Addr} {sl2 : Array (Option Value)} {ccl ecl : Value} {cdd ecd : Option Addr} {vs : Array Value} {ccs ecs : Array (Option Value)} {file : Str} {tf : Tok} {cd : ClassData} (X : K.In h) (G : h.Ns mainGlobals mg)
    (a : PySem.W.nsIn K mainGlobals x = some (some (.ref C)))
    (b : PySem.W.findIn K (.ref C) "holds" = some (some (.ref fH)))
    (b1 : PySem.W.isFn K (.ref fH) = true)
    (b2 : PySem.W.keepIn K (.ref fH) = true)
    (b3 : K.lookup fH = some ⟨oc1, od1, .func (PySem.W.fnOf "holds" qh (defArgs (sHoldsOf i)) (defBody (sHoldsOf i)) (defScope (sHoldsOf i)) .none kV1 dc1 pm1 an1 cd1 ct1), sl1⟩)
    (b4 : PySem.W.codeIn K cd1 qh = true)
    (c : PySem.W.findIn K (.ref C) "__init__" = some (some (.ref fI)))
    (c1 : PySem.W.isFn K (.ref fI) = true)
    (c2 : PySem.W.keepIn K (.ref fI) = true)
    (c3 : K.lookup fI = some ⟨oc2, od2, .func (PySem.W.ksFn "__init__" qi (defArgs (sInitOf i)) (defBody (sInitOf i)) (defScope (sInitOf i)) .none kV2 dc2 pm2 an2 (.ref cda) ct2 cc), sl2⟩)
    (c4 : PySem.W.codeIn K (.ref cda) qi = true)
    (hp : ((defArgs (sInitOf i)).posonlyargs ++ (defArgs (sInitOf i)).args).head? = some ar)
    (hp2 : ar.arg = ("self" : Str))
    (d1 : K.lookup cda = some ⟨ccl, cdd, .fields vs, ccs⟩)
    (d2 : vs[2]? = some (.str file tf))
    (d3 : ((P.main.file : Str) == file) = true)
    (d4 : K.lookup cc = some ⟨ecl, ecd, .cell (some (.ref C)), ecs⟩)
    (d5 : PySem.W.clsIn K C = some cd)
    (d6 : PySem.W.mroIn K C (.ref C) = some true)
    (d7 : PySem.W.nsIn K PySem.cStatics "thirdparty.any" = some none)
    (d8 : PySem.W.ks_superIn K C C "__init__" = some (some (.ref fCI)))
    (d9 : PySem.W.typeIn K (.ref fCI) = some (.type "function"))
    (d10 : PySem.W.fnIn K fCI = true)
    (d11 : (P.main.scope.names.lookup ("super" : Str)).isSome = false)
    (e1 : PySem.W.plainGet K C Str.empty = true)
    (e2 : PySem.W.hasDictIn K C = true)
    (e3 : PySem.W.plainOver K C = true)
    (e4 : PySem.W.findIn K (.ref C) "__setattr__" = some (some (.builtin "object.__setattr__")))
    (e5 : PySem.W.makesIn K C = true)
    (e6 : PySem.W.keepIn K (.ref C) = true)
    (e7 : PySem.W.findIn K (.ref C) "own_shape" = some none)
    (e8 : PySem.W.findIn K (.ref C) "own_simple" = some none)
    (f1 : PySem.W.findIn K (.ref C) "__class__" = some (some (.builtin "object.__class__")))
    (f2 : PySem.W.specialIn K (.builtin "object.__class__") "__get__" = some (some (.builtin "getset_descriptor.__get__")))
    (f3 : PySem.W.takesIn K (.builtin "object.__class__") = some true)
    (f4 : PySem.W.mroIn K C (.type "object") = some true)
    (g1 : PySem.W.kitOne K (.ref C) (.ref CC) = some true)
    (g2 : PySem.W.findIn K (.ref C) "__len__" = some (some (.ref fl)))
    (g3 : PySem.W.findIn K (.ref C) "__call__" = some (some (.ref fc)))
    (g4 : PySem.W.isFn K (.ref fc) = true)
    (g5 : PySem.W.fnIn K fc = true)
    (g6 : PySem.W.findIn K (.ref C) "__and__" = some (some (.ref fa)))
    (g7 : PySem.W.findIn K (.ref C) "__or__" = some (some (.ref fo)))
    (g8 : PySem.W.findIn K (.ref C) "__invert__" = some (some (.ref fi)))
    (g9 : PySem.W.findIn K (.ref C) "__rand__" = some none)
    (g10 : PySem.W.findIn K (.ref C) "__ror__" = some none)
    (g11 : PySem.W.selfFirst K C = true)
    : ClsAll P K mg x qi qh i C CC fI fH fCI fc fa fo fi fl (PySem.W.ksFn "__init__" qi (defArgs (sInitOf i)) (defBody (sInitOf i)) (defScope (sInitOf i)) .none kV2 dc2 pm2 an2 (.ref cda) ct2 cc) (PySem.W.fnOf "holds" qh (defArgs (sHoldsOf i)) (defBody (sHoldsOf i)) (defScope (sHoldsOf i)) .none kV1 dc1 pm1 an1 cd1 ct1) where
  mgx := PySem.W.mg_of X G a
  T := ⟨⟨e1, e2, e3, e4⟩, e7, e8⟩
  M := ⟨b, b1, b2⟩
  H := fun_mk b3 b4 b2
  I := ⟨⟨oc2, od2, kV2, dc2, pm2, an2, cda, ct2, sl2, cc, rfl, c3, c4, ⟨⟨_, _, _, c3⟩, ⟨ar, hp, hp2⟩, ⟨_, _, _, _, _, _, d1, d2, d3⟩, ⟨_, _, _, d4⟩, ⟨_, d5⟩, d6, d7, d8, d9, d10, d11⟩⟩, c2⟩
  mkf := ⟨e5, c, c1, e6⟩
  isi := ⟨f1, f2, f3, f4⟩
  kit := g1
  len := g2
  call := ⟨g3, g4, g5⟩
  and_ := g6
  or_ := g7
  inv := g8
  rand := g9
  ror := g10
  self := g11
theorem d_and : PySem.dunder "and" = "__and__" := by decide +kernel
theorem d_or : PySem.dunder "or" = "__or__" := by decide +kernel
theorem d_rand : dunderR "and" = "__rand__" := by decide +kernel
theorem d_ror : dunderR "or" = "__ror__" := by decide +kernel
/-- which of six -/
def six6 {α : Type} (a b c d e g : α) : Kd → α
  | .begins => a
  | .length => b
  | .value => c
  | .both => d
  | .either => e
  | .opp => g
theorem all_mk {P : Program} {w : World} {K : PySem.W.Frag} {mg : Str → Option Value} {CC fCI fc fa fo fi fl C_begins fI_begins fH_begins C_length fI_length fH_length C_value fI_value fH_value C_both fI_both fH_both C_either fI_either fH_either C_opp fI_opp fH_opp : Addr} {dI_begins dH_begins dI_length dH_length dI_value dH_value dI_both dH_both dI_either dH_either dI_opp dH_opp dCI dc da do_ di dl : FuncData} (B : Bt mg) (Z : Ct mg) (mC : mg "Condition" = some (.ref CC))
    (c_begins : ClsAll P K mg "Begins" "Begins.__init__" "Begins.holds" 21 C_begins CC fI_begins fH_begins fCI fc fa fo fi fl dI_begins dH_begins)
    (c_length : ClsAll P K mg "Length" "Length.__init__" "Length.holds" 22 C_length CC fI_length fH_length fCI fc fa fo fi fl dI_length dH_length)
    (c_value : ClsAll P K mg "Value" "Value.__init__" "Value.holds" 23 C_value CC fI_value fH_value fCI fc fa fo fi fl dI_value dH_value)
    (c_both : ClsAll P K mg "Both" "Both.__init__" "Both.holds" 24 C_both CC fI_both fH_both fCI fc fa fo fi fl dI_both dH_both)
    (c_either : ClsAll P K mg "Either" "Either.__init__" "Either.holds" 25 C_either CC fI_either fH_either fCI fc fa fo fi fl dI_either dH_either)
    (c_opp : ClsAll P K mg "Opposite" "Opposite.__init__" "Opposite.holds" 26 C_opp CC fI_opp fH_opp fCI fc fa fo fi fl dI_opp dH_opp)
    (m_fCI : Fun K "__init__" "Condition.__init__" sCInit fCI dCI)
    (m_fc : Fun K "__call__" "Condition.__call__" sCCall fc dc)
    (m_fa : Fun K "__and__" "Condition.__and__" sCAnd fa da)
    (m_fo : Fun K "__or__" "Condition.__or__" sCOr fo do_)
    (m_fi : Fun K "__invert__" "Condition.__invert__" sCInv fi di)
    (m_fl : Fun K "__len__" "Condition.__len__" sCLen fl dl)
    (i_fl : PySem.W.isFn K (.ref fl) = true) (i_fa : PySem.W.isFn K (.ref fa) = true) (i_fo : PySem.W.isFn K (.ref fo) = true) (i_fi : PySem.W.isFn K (.ref fi) = true)
    (sub : ∀ d e, d ≠ e → PySem.W.subIn K (.ref ((six6 C_begins C_length C_value C_both C_either C_opp) e)) (.ref ((six6 C_begins C_length C_value C_both C_either C_opp) d)) = some false)
    (p_is_integer : Pl K mg "is_integer" sIsInt)
    (p_in_range : Pl K mg "in_range" sInRange)
    (p_check_number : Pl K mg "check_number" sCheckNum)
    (p_is_key : Pl K mg "is_key" sIsKey)
    (p_check_key : Pl K mg "check_key" sCheckKey)
    (p_check_value : Pl K mg "check_value" sCheckVal)
    (p_check_simple : Pl K mg "check_simple" sCheckSimple)
    (p_check_condition : Pl K mg "check_condition" sCheckCond)
    (p_extended : Pl K mg "extended" sExtended)
    (p_some_names : Pl K mg "some_names" sSomeNames)
    (p_some_values : Pl K mg "some_values" sSomeValues)
    (p_example : Pl K mg "example" sExample)
    (p_some_row : Pl K mg "some_row" sSomeRow)
    (p_implies : Pl K mg "implies" sImplies)
    (p_are_alike : Pl K mg "are_alike" sAlike)
    (p__law_hand : Pl K mg "_law_hand" sLHand)
    (p__law_draw : Pl K mg "_law_draw" sLDraw)
    (p__law_key : Pl K mg "_law_key" sLKey)
    (p__law_condition : Pl K mg "_law_condition" sLCond)
    (p__law_pairs : Pl K mg "_law_pairs" sLPairs)
    (p__law_apart : Pl K mg "_law_apart" sLApart)
    {f : Addr} {fd : FuncData} (F : Fun K "law" "law" sLaw f fd) (base : Heap) : FnOk P w K mg base CX0 27 f fd ["_law_script"] (spLaw K) := by
  have T : ∀ d, ClsF K ((six6 C_begins C_length C_value C_both C_either C_opp) d) := fun d => by cases d; exact c_begins.T; exact c_length.T; exact c_value.T; exact c_both.T; exact c_either.T; exact c_opp.T
  have M : ∀ d, Meth K ((six6 C_begins C_length C_value C_both C_either C_opp) d) "holds" ((six6 fH_begins fH_length fH_value fH_both fH_either fH_opp) d) := fun d => by cases d; exact c_begins.M; exact c_length.M; exact c_value.M; exact c_both.M; exact c_either.M; exact c_opp.M
  have kit : ∀ d, PySem.W.kitOne K (.ref ((six6 C_begins C_length C_value C_both C_either C_opp) d)) (.ref CC) = some true := fun d => by cases d; exact c_begins.kit; exact c_length.kit; exact c_value.kit; exact c_both.kit; exact c_either.kit; exact c_opp.kit
  have isi : ∀ d, SlX.SIsi K ((six6 C_begins C_length C_value C_both C_either C_opp) d) := fun d => by cases d; exact c_begins.isi; exact c_length.isi; exact c_value.isi; exact c_both.isi; exact c_either.isi; exact c_opp.isi
  have len : ∀ d, PySem.W.findIn K (.ref ((six6 C_begins C_length C_value C_both C_either C_opp) d)) "__len__" = some (some (.ref fl)) := fun d => by cases d; exact c_begins.len; exact c_length.len; exact c_value.len; exact c_both.len; exact c_either.len; exact c_opp.len
  have call : ∀ d, StX.CallO K ((six6 C_begins C_length C_value C_both C_either C_opp) d) fc := fun d => by cases d; exact c_begins.call; exact c_length.call; exact c_value.call; exact c_both.call; exact c_either.call; exact c_opp.call
  have and_ : ∀ d, PySem.W.findIn K (.ref ((six6 C_begins C_length C_value C_both C_either C_opp) d)) "__and__" = some (some (.ref fa)) := fun d => by cases d; exact c_begins.and_; exact c_length.and_; exact c_value.and_; exact c_both.and_; exact c_either.and_; exact c_opp.and_
  have or_ : ∀ d, PySem.W.findIn K (.ref ((six6 C_begins C_length C_value C_both C_either C_opp) d)) "__or__" = some (some (.ref fo)) := fun d => by cases d; exact c_begins.or_; exact c_length.or_; exact c_value.or_; exact c_both.or_; exact c_either.or_; exact c_opp.or_
  have inv : ∀ d, PySem.W.findIn K (.ref ((six6 C_begins C_length C_value C_both C_either C_opp) d)) "__invert__" = some (some (.ref fi)) := fun d => by cases d; exact c_begins.inv; exact c_length.inv; exact c_value.inv; exact c_both.inv; exact c_either.inv; exact c_opp.inv
  have rand : ∀ d, PySem.W.findIn K (.ref ((six6 C_begins C_length C_value C_both C_either C_opp) d)) "__rand__" = some none := fun d => by cases d; exact c_begins.rand; exact c_length.rand; exact c_value.rand; exact c_both.rand; exact c_either.rand; exact c_opp.rand
  have ror : ∀ d, PySem.W.findIn K (.ref ((six6 C_begins C_length C_value C_both C_either C_opp) d)) "__ror__" = some none := fun d => by cases d; exact c_begins.ror; exact c_length.ror; exact c_value.ror; exact c_both.ror; exact c_either.ror; exact c_opp.ror
  have self : ∀ d, PySem.W.selfFirst K ((six6 C_begins C_length C_value C_both C_either C_opp) d) = true := fun d => by cases d; exact c_begins.self; exact c_length.self; exact c_value.self; exact c_both.self; exact c_either.self; exact c_opp.self
  have subs : ∀ d e, (six6 C_begins C_length C_value C_both C_either C_opp) d = (six6 C_begins C_length C_value C_both C_either C_opp) e ∨ PySem.W.subIn K (.ref ((six6 C_begins C_length C_value C_both C_either C_opp) e)) (.ref ((six6 C_begins C_length C_value C_both C_either C_opp) d)) = some false := fun d e => if h : d = e then .inl (by rw [h]) else .inr (sub d e h)
  have O : OpF K mg (six6 C_begins C_length C_value C_both C_either C_opp) CC fl fc fa fo fi := ⟨mC, isi, kit, len, i_fl, call, fun d e => ⟨self d, self e, by rw [d_and]; exact and_ d, i_fa, by rw [d_rand]; exact rand d, ⟨fa, by rw [d_and]; exact and_ e⟩, by rw [d_rand]; exact rand e, subs d e⟩,
    fun d e => ⟨self d, self e, by rw [d_or]; exact or_ d, i_fo, by rw [d_ror]; exact ror d, ⟨fo, by rw [d_or]; exact or_ e⟩, by rw [d_ror]; exact ror e, subs d e⟩, inv, i_fi⟩
  have HF : HoldF K (six6 fH_begins fH_length fH_value fH_both fH_either fH_opp) (six6 dH_begins dH_length dH_value dH_both dH_either dH_opp) := ⟨c_begins.H, c_length.H, c_value.H, c_both.H, c_either.H, c_opp.H⟩
  have AH : AllH P w K mg base (six6 C_begins C_length C_value C_both C_either C_opp) (six6 fH_begins fH_length fH_value fH_both fH_either fH_opp) 6 := allH HF B T M 6
  have q_isInt := p_is_integer.cal (P := P) (w := w) (base := base) fun f fd F => ok_isInt F B
  have q_inRange := p_in_range.cal fun f fd F => ok_inRange F q_isInt
  have q_num := p_check_number.cal fun f fd F => ok_checkNum F q_inRange
  have q_val := p_check_value.cal fun f fd F => ok_checkVal F q_isInt
  have q_isKey := p_is_key.cal (P := P) (w := w) (base := base) fun f fd F => ok_isKey F B Z
  have q_key := p_check_key.cal fun f fd F => ok_chkKey F q_isKey
  have CI : FnR P w K mg base CX0 1 fCI (spCInit K) := ok_cInit m_fCI
  have k_begins : CalM P w K mg base "Begins" ((six6 C_begins C_length C_value C_both C_either C_opp) .begins) 2 (spBegins (six6 C_begins C_length C_value C_both C_either C_opp)) := ⟨_, c_begins.mgx, c_begins.mkf, ok_begins (ad := (six6 C_begins C_length C_value C_both C_either C_opp)) c_begins.I B Z T CI⟩
  have k_length : CalM P w K mg base "Length" ((six6 C_begins C_length C_value C_both C_either C_opp) .length) 4 (spLength (six6 C_begins C_length C_value C_both C_either C_opp)) := ⟨_, c_length.mgx, c_length.mkf, ok_length (ad := (six6 C_begins C_length C_value C_both C_either C_opp)) c_length.I B Z T CI q_num⟩
  have k_value : CalM P w K mg base "Value" ((six6 C_begins C_length C_value C_both C_either C_opp) .value) 2 (spValue (six6 C_begins C_length C_value C_both C_either C_opp)) := ⟨_, c_value.mgx, c_value.mkf, ok_value (ad := (six6 C_begins C_length C_value C_both C_either C_opp)) c_value.I B T CI q_isInt⟩
  have k_both : CalM P w K mg base "Both" ((six6 C_begins C_length C_value C_both C_either C_opp) .both) 2 (spBoth (six6 C_begins C_length C_value C_both C_either C_opp)) := ⟨_, c_both.mgx, c_both.mkf, ok_both (ad := (six6 C_begins C_length C_value C_both C_either C_opp)) c_both.I B T CI⟩
  have k_either : CalM P w K mg base "Either" ((six6 C_begins C_length C_value C_both C_either C_opp) .either) 2 (spEither (six6 C_begins C_length C_value C_both C_either C_opp)) := ⟨_, c_either.mgx, c_either.mkf, ok_either (ad := (six6 C_begins C_length C_value C_both C_either C_opp)) c_either.I B T CI⟩
  have k_opp : CalM P w K mg base "Opposite" ((six6 C_begins C_length C_value C_both C_either C_opp) .opp) 2 (spOpp (six6 C_begins C_length C_value C_both C_either C_opp)) := ⟨_, c_opp.mgx, c_opp.mkf, ok_opp (ad := (six6 C_begins C_length C_value C_both C_either C_opp)) c_opp.I B T CI⟩
  have R_call := ok_call m_fc T M q_key q_val AH
  have R_len : FnR P w K mg base CX0 1 fl (spLen (six6 C_begins C_length C_value C_both C_either C_opp)) := ok_len m_fl B T
  have q_simple := p_check_simple.cal fun f fd F => ok_simple F B Z O R_len
  have q_cond := p_check_condition.cal (P := P) (w := w) (base := base) fun f fd F => ok_chkCond F B T O
  have R_and := ok_and m_fa B T O q_simple k_both
  have R_or := ok_or m_fo B T O q_simple k_either
  have R_inv := ok_inv m_fi k_opp
  have OP : Ops P w K mg base (six6 C_begins C_length C_value C_both C_either C_opp) CC fl fc fa fo fi := ⟨O, R_and, R_or, R_inv, R_call⟩
  have q_vals := p_some_values.cal (P := P) (w := w) (base := base) fun f fd F => ok_vals F B
  have q_ext : Cal P w K mg base "extended" 21 (spExt 20) := by
    obtain ⟨f, fd, hm, hk, F⟩ := p_extended
    exact ⟨f, hm, hk, ext_call F B Z hm 20⟩
  have q_names := p_some_names.cal fun f fd F => ok_names F B Z q_ext
  have q_ex := p_example.cal fun f fd F => ok_ex F T M AH q_vals q_names
  have q_row := p_some_row.cal fun f fd F => ok_row F q_cond q_ex
  have q_imp := p_implies.cal fun f fd F => ok_imp F q_cond q_ex k_both k_opp
  have q_alike := p_are_alike.cal fun f fd F => ok_alike F q_imp
  have q_hand := p__law_hand.cal (P := P) (w := w) (base := base) fun f fd F => ok_hand F B
  have q_draw := p__law_draw.cal (P := P) (w := w) (mg := mg) (base := base) fun f fd F => ok_draw F
  have q_lkey := p__law_key.cal fun f fd F => ok_key F B q_draw
  have q_drw := cal_drw q_draw
  have q_c0 := p__law_condition.cal fun f fd F => ok_cond0 F q_drw k_begins k_length k_value
  have q_c1 := p__law_condition.cal fun f fd F => ok_cond1 F OP q_c0 q_drw k_begins k_length k_value
  have q_pairs := p__law_pairs.cal fun f fd F => ok_pairs F OP
  have q_apart := p__law_apart.cal fun f fd F => ok_apart F OP q_row q_alike
  exact ok_law F B OP ⟨q_hand, q_drw, q_lkey, q_c1, q_pairs, q_apart, q_row, q_imp, q_alike⟩
theorem sub_mk {K : PySem.W.Frag} {C_begins C_length C_value C_both C_either C_opp : Addr}
    (u_begins_length : PySem.W.subIn K (.ref C_length) (.ref C_begins) = some false)
    (u_begins_value : PySem.W.subIn K (.ref C_value) (.ref C_begins) = some false)
    (u_begins_both : PySem.W.subIn K (.ref C_both) (.ref C_begins) = some false)
    (u_begins_either : PySem.W.subIn K (.ref C_either) (.ref C_begins) = some false)
    (u_begins_opp : PySem.W.subIn K (.ref C_opp) (.ref C_begins) = some false)
    (u_length_begins : PySem.W.subIn K (.ref C_begins) (.ref C_length) = some false)
    (u_length_value : PySem.W.subIn K (.ref C_value) (.ref C_length) = some false)
    (u_length_both : PySem.W.subIn K (.ref C_both) (.ref C_length) = some false)
    (u_length_either : PySem.W.subIn K (.ref C_either) (.ref C_length) = some false)
    (u_length_opp : PySem.W.subIn K (.ref C_opp) (.ref C_length) = some false)
    (u_value_begins : PySem.W.subIn K (.ref C_begins) (.ref C_value) = some false)
    (u_value_length : PySem.W.subIn K (.ref C_length) (.ref C_value) = some false)
    (u_value_both : PySem.W.subIn K (.ref C_both) (.ref C_value) = some false)
    (u_value_either : PySem.W.subIn K (.ref C_either) (.ref C_value) = some false)
    (u_value_opp : PySem.W.subIn K (.ref C_opp) (.ref C_value) = some false)
    (u_both_begins : PySem.W.subIn K (.ref C_begins) (.ref C_both) = some false)
    (u_both_length : PySem.W.subIn K (.ref C_length) (.ref C_both) = some false)
    (u_both_value : PySem.W.subIn K (.ref C_value) (.ref C_both) = some false)
    (u_both_either : PySem.W.subIn K (.ref C_either) (.ref C_both) = some false)
    (u_both_opp : PySem.W.subIn K (.ref C_opp) (.ref C_both) = some false)
    (u_either_begins : PySem.W.subIn K (.ref C_begins) (.ref C_either) = some false)
    (u_either_length : PySem.W.subIn K (.ref C_length) (.ref C_either) = some false)
    (u_either_value : PySem.W.subIn K (.ref C_value) (.ref C_either) = some false)
    (u_either_both : PySem.W.subIn K (.ref C_both) (.ref C_either) = some false)
    (u_either_opp : PySem.W.subIn K (.ref C_opp) (.ref C_either) = some false)
    (u_opp_begins : PySem.W.subIn K (.ref C_begins) (.ref C_opp) = some false)
    (u_opp_length : PySem.W.subIn K (.ref C_length) (.ref C_opp) = some false)
    (u_opp_value : PySem.W.subIn K (.ref C_value) (.ref C_opp) = some false)
    (u_opp_both : PySem.W.subIn K (.ref C_both) (.ref C_opp) = some false)
    (u_opp_either : PySem.W.subIn K (.ref C_either) (.ref C_opp) = some false)
    : ∀ d e, d ≠ e → PySem.W.subIn K (.ref ((six6 C_begins C_length C_value C_both C_either C_opp) e)) (.ref ((six6 C_begins C_length C_value C_both C_either C_opp) d)) = some false := fun d e h => by
  cases d <;> cases e
  · exact absurd rfl h
  · exact u_begins_length
  · exact u_begins_value
  · exact u_begins_both
  · exact u_begins_either
  · exact u_begins_opp
  · exact u_length_begins
  · exact absurd rfl h
  · exact u_length_value
  · exact u_length_both
  · exact u_length_either
  · exact u_length_opp
  · exact u_value_begins
  · exact u_value_length
  · exact absurd rfl h
  · exact u_value_both
  · exact u_value_either
  · exact u_value_opp
  · exact u_both_begins
  · exact u_both_length
  · exact u_both_value
  · exact absurd rfl h
  · exact u_both_either
  · exact u_both_opp
  · exact u_either_begins
  · exact u_either_length
  · exact u_either_value
  · exact u_either_both
  · exact absurd rfl h
  · exact u_either_opp
  · exact u_opp_begins
  · exact u_opp_length
  · exact u_opp_value
  · exact u_opp_both
  · exact u_opp_either
  · exact absurd rfl h
theorem bt_mk {K : PySem.W.Frag} {h : Heap} {mg : Str → Option Value} (X : K.In h) (G : h.Ns mainGlobals mg)
    (z_isinstance : PySem.W.nsIn K mainGlobals "isinstance" = some none)
    (z_int : PySem.W.nsIn K mainGlobals "int" = some none)
    (z_bool : PySem.W.nsIn K mainGlobals "bool" = some none)
    (z_str : PySem.W.nsIn K mainGlobals "str" = some none)
    (z_len : PySem.W.nsIn K mainGlobals "len" = some none)
    (z_all : PySem.W.nsIn K mainGlobals "all" = some none)
    (z_any : PySem.W.nsIn K mainGlobals "any" = some none)
    (z_max : PySem.W.nsIn K mainGlobals "max" = some none)
    (z_min : PySem.W.nsIn K mainGlobals "min" = some none)
    (z_sorted : PySem.W.nsIn K mainGlobals "sorted" = some none)
    (z_range : PySem.W.nsIn K mainGlobals "range" = some none)
    (z_super : PySem.W.nsIn K mainGlobals "super" = some none)
    : Bt mg := ⟨PySem.W.mg_none_of X G z_isinstance, PySem.W.mg_none_of X G z_int, PySem.W.mg_none_of X G z_bool, PySem.W.mg_none_of X G z_str, PySem.W.mg_none_of X G z_len, PySem.W.mg_none_of X G z_all, PySem.W.mg_none_of X G z_any, PySem.W.mg_none_of X G z_max, PySem.W.mg_none_of X G z_min, PySem.W.mg_none_of X G z_sorted, PySem.W.mg_none_of X G z_range, PySem.W.mg_none_of X G z_super⟩
theorem ct_mk {K : PySem.W.Frag} {h : Heap} {mg : Str → Option Value} {n k : Int} {t1 t2 t3 : Tok} {z : Str} (X : K.In h) (G : h.Ns mainGlobals mg)
    (a : PySem.W.nsIn K mainGlobals "MAX_LENGTH" = some (some (.int n t1))) (b : PySem.W.nsIn K mainGlobals "CHARACTERS" = some (some (.str z t2))) (c : PySem.W.nsIn K mainGlobals "MOST_SIMPLE" = some (some (.int k t3)))
    (ea : n = 20) (eb : z = S chars) (ec : k = 30) : Ct mg := by
  subst ea; subst eb; subst ec
  exact ⟨⟨_, PySem.W.mg_of X G a⟩, ⟨_, PySem.W.mg_of X G b⟩, ⟨_, PySem.W.mg_of X G c⟩⟩
theorem law_mk {l : PySem.W.OpenLaw} {w : World} {K : PySem.W.Frag} {h : Heap} {mg : Str → Option Value} {fa f : Addr} {od an : Option Addr} {sl : Array (Option Value)} {oc kV dc pm cd ct : Value} (X : K.In h) (G : h.Ns mainGlobals mg) (hfa : mg "law" = some (.ref fa))
    (a : PySem.W.nsIn K mainGlobals "law" = some (some (.ref f))) (lk : K.lookup f = some ⟨oc, od, .func (PySem.W.fnOf "law" "law" (defArgs sLaw) (defBody sLaw) (defScope sLaw) .none kV dc pm an cd ct), sl⟩) (c : PySem.W.codeIn K cd "law" = true) (k : PySem.W.keepIn K (.ref f) = true)
    (A : ∀ {f : Addr} {fd : FuncData}, Fun K "law" "law" sLaw f fd → ∀ base : Heap, FnOk l.prog w K mg base CX0 27 f fd ["_law_script"] (spLaw K)) :
    ∃ fd : FuncData, (∀ (s : Shared) (v : Value), BindsTo s fd ⟨[v], []⟩ [("_law_script", v)]) ∧ ∀ base : Heap, K.In base → base.Ns mainGlobals mg → FnOk l.prog w K mg base CX0 27 fa fd ["_law_script"] (spLaw K) := by
  have e := hfa.symm.trans (PySem.W.mg_of X G a)
  cases e
  exact ⟨_, fun s v => .of_eq rfl, fun base _ _ => A (fun_mk (st := sLaw) lk c k) base⟩
theorem walk {l : PySem.W.OpenLaw} {q : Program} {loose : List Str} {XP : (Str → Option Value) → Heap → Prop} {YP : World → Heap → Prop} {d : DefRec} {K : Params → PySem.W.Frag} (hn : l.most = some 63) (hdf : d.params.defaults = [])
    (hY : ∀ (w : World) (h : Heap), YP w h → (K w.params).In h)
    (F : ∀ (w : World) (mg : Str → Option Value) (fa : Addr) (h : Heap), (K w.params).In h → h.Ns mainGlobals mg → mg d.name = some (.ref fa) →
      ∃ fd : FuncData, (∀ (s : Shared) (u : Value), BindsTo s fd ⟨[u], []⟩ [("_law_script", u)]) ∧ ∀ base : Heap, (K w.params).In base → base.Ns mainGlobals mg → FnOk l.prog w (K w.params) mg base CX0 27 fa fd ["_law_script"] (spLaw (K w.params))) :
    PySem.W.WalkO q loose XP YP l.row.toRowW d [] (fun f vs => PySem.call f vs) :=
  L2.walk_of (n := 63) (k := 27) (x := "_law_script") (CX := fun _ => CX0) (sp := fun w => spLaw (K w.params)) hn (by decide) hdf ⟨rfl, by decide, by decide⟩ hY F (fun _ _ a ns hl _ hS => ⟨a, ns, rfl, hS, hl, fun _ => rfl⟩) fun _ _ _ _ _ z => z
end N77

open PySem PySem.W PyProof.Rows
set_option maxRecDepth 100000 in
set_option maxHeartbeats 0 in
theorem PySem.Challenge.cw_arccursors_k77_whole_rules_of_conditions_holds : PySem.Challenge.rw_arccursors_k77_whole_rules_of_conditions.Holds := by
  w_on; o_law; k_head; (case hw => w_witness2)
  k_fill
  refine N77.walk (l := PySem.Challenge.rw_arccursors_k77_whole_rules_of_conditions) rfl rfl (fun w h Y => PySem.W.kIn_of Y) ?F
  case F =>
    intro w mg fa h KX G hmg
    refine' N77.law_mk (l := PySem.Challenge.rw_arccursors_k77_whole_rules_of_conditions) KX G hmg ?law_a ?law_l ?law_c ?law_k ?A
    (case law_a => k_is)
    (case law_l => k_is)
    (case law_c => k_is)
    (case law_k => k_is)
    case A =>
      intro f fd F base
      refine' N77.all_mk (N77.bt_mk KX G ?z_isinstance ?z_int ?z_bool ?z_str ?z_len ?z_all ?z_any ?z_max ?z_min ?z_sorted ?z_range ?z_super) (N77.ct_mk KX G ?ct_a ?ct_b ?ct_c ?ct_ea ?ct_eb ?ct_ec) (PySem.W.mg_of KX G ?mC)
        (N77.cls_mk (x := "Begins") (qi := "Begins.__init__") (qh := "Begins.holds") (i := 21) KX G ?begins_a ?begins_b ?begins_b1 ?begins_b2 ?begins_b3 ?begins_b4 ?begins_c ?begins_c1 ?begins_c2 ?begins_c3 ?begins_c4 ?begins_hp ?begins_hp2 ?begins_d1 ?begins_d2 ?begins_d3 ?begins_d4 ?begins_d5 ?begins_d6 ?begins_d7 ?begins_d8 ?begins_d9 ?begins_d10 ?begins_d11 ?begins_e1 ?begins_e2 ?begins_e3 ?begins_e4 ?begins_e5 ?begins_e6 ?begins_e7 ?begins_e8 ?begins_f1 ?begins_f2 ?begins_f3 ?begins_f4 ?begins_g1 ?begins_g2 ?begins_g3 ?begins_g4 ?begins_g5 ?begins_g6 ?begins_g7 ?begins_g8 ?begins_g9 ?begins_g10 ?begins_g11)
        (N77.cls_mk (x := "Length") (qi := "Length.__init__") (qh := "Length.holds") (i := 22) KX G ?length_a ?length_b ?length_b1 ?length_b2 ?length_b3 ?length_b4 ?length_c ?length_c1 ?length_c2 ?length_c3 ?length_c4 ?length_hp ?length_hp2 ?length_d1 ?length_d2 ?length_d3 ?length_d4 ?length_d5 ?length_d6 ?length_d7 ?length_d8 ?length_d9 ?length_d10 ?length_d11 ?length_e1 ?length_e2 ?length_e3 ?length_e4 ?length_e5 ?length_e6 ?length_e7 ?length_e8 ?length_f1 ?length_f2 ?length_f3 ?length_f4 ?length_g1 ?length_g2 ?length_g3 ?length_g4 ?length_g5 ?length_g6 ?length_g7 ?length_g8 ?length_g9 ?length_g10 ?length_g11)
        (N77.cls_mk (x := "Value") (qi := "Value.__init__") (qh := "Value.holds") (i := 23) KX G ?value_a ?value_b ?value_b1 ?value_b2 ?value_b3 ?value_b4 ?value_c ?value_c1 ?value_c2 ?value_c3 ?value_c4 ?value_hp ?value_hp2 ?value_d1 ?value_d2 ?value_d3 ?value_d4 ?value_d5 ?value_d6 ?value_d7 ?value_d8 ?value_d9 ?value_d10 ?value_d11 ?value_e1 ?value_e2 ?value_e3 ?value_e4 ?value_e5 ?value_e6 ?value_e7 ?value_e8 ?value_f1 ?value_f2 ?value_f3 ?value_f4 ?value_g1 ?value_g2 ?value_g3 ?value_g4 ?value_g5 ?value_g6 ?value_g7 ?value_g8 ?value_g9 ?value_g10 ?value_g11)
        (N77.cls_mk (x := "Both") (qi := "Both.__init__") (qh := "Both.holds") (i := 24) KX G ?both_a ?both_b ?both_b1 ?both_b2 ?both_b3 ?both_b4 ?both_c ?both_c1 ?both_c2 ?both_c3 ?both_c4 ?both_hp ?both_hp2 ?both_d1 ?both_d2 ?both_d3 ?both_d4 ?both_d5 ?both_d6 ?both_d7 ?both_d8 ?both_d9 ?both_d10 ?both_d11 ?both_e1 ?both_e2 ?both_e3 ?both_e4 ?both_e5 ?both_e6 ?both_e7 ?both_e8 ?both_f1 ?both_f2 ?both_f3 ?both_f4 ?both_g1 ?both_g2 ?both_g3 ?both_g4 ?both_g5 ?both_g6 ?both_g7 ?both_g8 ?both_g9 ?both_g10 ?both_g11)
        (N77.cls_mk (x := "Either") (qi := "Either.__init__") (qh := "Either.holds") (i := 25) KX G ?either_a ?either_b ?either_b1 ?either_b2 ?either_b3 ?either_b4 ?either_c ?either_c1 ?either_c2 ?either_c3 ?either_c4 ?either_hp ?either_hp2 ?either_d1 ?either_d2 ?either_d3 ?either_d4 ?either_d5 ?either_d6 ?either_d7 ?either_d8 ?either_d9 ?either_d10 ?either_d11 ?either_e1 ?either_e2 ?either_e3 ?either_e4 ?either_e5 ?either_e6 ?either_e7 ?either_e8 ?either_f1 ?either_f2 ?either_f3 ?either_f4 ?either_g1 ?either_g2 ?either_g3 ?either_g4 ?either_g5 ?either_g6 ?either_g7 ?either_g8 ?either_g9 ?either_g10 ?either_g11)
        (N77.cls_mk (x := "Opposite") (qi := "Opposite.__init__") (qh := "Opposite.holds") (i := 26) KX G ?opp_a ?opp_b ?opp_b1 ?opp_b2 ?opp_b3 ?opp_b4 ?opp_c ?opp_c1 ?opp_c2 ?opp_c3 ?opp_c4 ?opp_hp ?opp_hp2 ?opp_d1 ?opp_d2 ?opp_d3 ?opp_d4 ?opp_d5 ?opp_d6 ?opp_d7 ?opp_d8 ?opp_d9 ?opp_d10 ?opp_d11 ?opp_e1 ?opp_e2 ?opp_e3 ?opp_e4 ?opp_e5 ?opp_e6 ?opp_e7 ?opp_e8 ?opp_f1 ?opp_f2 ?opp_f3 ?opp_f4 ?opp_g1 ?opp_g2 ?opp_g3 ?opp_g4 ?opp_g5 ?opp_g6 ?opp_g7 ?opp_g8 ?opp_g9 ?opp_g10 ?opp_g11)
        (L2.fun_mk (st := N77.sCInit) ?m_fCI_l ?m_fCI_c ?m_fCI_k)
        (L2.fun_mk (st := N77.sCCall) ?m_fc_l ?m_fc_c ?m_fc_k)
        (L2.fun_mk (st := N77.sCAnd) ?m_fa_l ?m_fa_c ?m_fa_k)
        (L2.fun_mk (st := N77.sCOr) ?m_fo_l ?m_fo_c ?m_fo_k)
        (L2.fun_mk (st := N77.sCInv) ?m_fi_l ?m_fi_c ?m_fi_k)
        (L2.fun_mk (st := N77.sCLen) ?m_fl_l ?m_fl_c ?m_fl_k)
        ?i_fl ?i_fa ?i_fo ?i_fi
        (N77.sub_mk ?u_begins_length ?u_begins_value ?u_begins_both ?u_begins_either ?u_begins_opp ?u_length_begins ?u_length_value ?u_length_both ?u_length_either ?u_length_opp ?u_value_begins ?u_value_length ?u_value_both ?u_value_either ?u_value_opp ?u_both_begins ?u_both_length ?u_both_value ?u_both_either ?u_both_opp ?u_either_begins ?u_either_length ?u_either_value ?u_either_both ?u_either_opp ?u_opp_begins ?u_opp_length ?u_opp_value ?u_opp_both ?u_opp_either)
        (N77.pl_mk (st := N77.sIsInt) KX G ?p_is_integer_a ?p_is_integer_l ?p_is_integer_c ?p_is_integer_k)
        (N77.pl_mk (st := N77.sInRange) KX G ?p_in_range_a ?p_in_range_l ?p_in_range_c ?p_in_range_k)
        (N77.pl_mk (st := N77.sCheckNum) KX G ?p_check_number_a ?p_check_number_l ?p_check_number_c ?p_check_number_k)
        (N77.pl_mk (st := N77.sIsKey) KX G ?p_is_key_a ?p_is_key_l ?p_is_key_c ?p_is_key_k)
        (N77.pl_mk (st := N77.sCheckKey) KX G ?p_check_key_a ?p_check_key_l ?p_check_key_c ?p_check_key_k)
        (N77.pl_mk (st := N77.sCheckVal) KX G ?p_check_value_a ?p_check_value_l ?p_check_value_c ?p_check_value_k)
        (N77.pl_mk (st := N77.sCheckSimple) KX G ?p_check_simple_a ?p_check_simple_l ?p_check_simple_c ?p_check_simple_k)
        (N77.pl_mk (st := N77.sCheckCond) KX G ?p_check_condition_a ?p_check_condition_l ?p_check_condition_c ?p_check_condition_k)
        (N77.pl_mk (st := N77.sExtended) KX G ?p_extended_a ?p_extended_l ?p_extended_c ?p_extended_k)
        (N77.pl_mk (st := N77.sSomeNames) KX G ?p_some_names_a ?p_some_names_l ?p_some_names_c ?p_some_names_k)
        (N77.pl_mk (st := N77.sSomeValues) KX G ?p_some_values_a ?p_some_values_l ?p_some_values_c ?p_some_values_k)
        (N77.pl_mk (st := N77.sExample) KX G ?p_example_a ?p_example_l ?p_example_c ?p_example_k)
        (N77.pl_mk (st := N77.sSomeRow) KX G ?p_some_row_a ?p_some_row_l ?p_some_row_c ?p_some_row_k)
        (N77.pl_mk (st := N77.sImplies) KX G ?p_implies_a ?p_implies_l ?p_implies_c ?p_implies_k)
        (N77.pl_mk (st := N77.sAlike) KX G ?p_are_alike_a ?p_are_alike_l ?p_are_alike_c ?p_are_alike_k)
        (N77.pl_mk (st := N77.sLHand) KX G ?p__law_hand_a ?p__law_hand_l ?p__law_hand_c ?p__law_hand_k)
        (N77.pl_mk (st := N77.sLDraw) KX G ?p__law_draw_a ?p__law_draw_l ?p__law_draw_c ?p__law_draw_k)
        (N77.pl_mk (st := N77.sLKey) KX G ?p__law_key_a ?p__law_key_l ?p__law_key_c ?p__law_key_k)
        (N77.pl_mk (st := N77.sLCond) KX G ?p__law_condition_a ?p__law_condition_l ?p__law_condition_c ?p__law_condition_k)
        (N77.pl_mk (st := N77.sLPairs) KX G ?p__law_pairs_a ?p__law_pairs_l ?p__law_pairs_c ?p__law_pairs_k)
        (N77.pl_mk (st := N77.sLApart) KX G ?p__law_apart_a ?p__law_apart_l ?p__law_apart_c ?p__law_apart_k)
        F base
      (case z_isinstance => k_is)
      (case z_int => k_is)
      (case z_bool => k_is)
      (case z_str => k_is)
      (case z_len => k_is)
      (case z_all => k_is)
      (case z_any => k_is)
      (case z_max => k_is)
      (case z_min => k_is)
      (case z_sorted => k_is)
      (case z_range => k_is)
      (case z_super => k_is)
      (case ct_a => k_is)
      (case ct_b => k_is)
      (case ct_c => k_is)
      (case ct_ea => exact rfl)
      (case ct_eb => first | exact rfl | decide +kernel)
      (case ct_ec => exact rfl)
      (case mC => k_is)
      (case begins_a => k_is)
      (case begins_b => k_is)
      (case begins_b1 => k_is)
      (case begins_b2 => k_is)
      (case begins_b3 => k_is)
      (case begins_b4 => k_is)
      (case begins_c => k_is)
      (case begins_c1 => k_is)
      (case begins_c2 => k_is)
      (case begins_c3 => k_is)
      (case begins_c4 => k_is)
      (case begins_hp => exact rfl)
      (case begins_hp2 => exact rfl)
      (case begins_d1 => k_is)
      (case begins_d2 => exact rfl)
      (case begins_d3 => first | exact rfl | decide +kernel)
      (case begins_d4 => k_is)
      (case begins_d5 => k_is)
      (case begins_d6 => k_is)
      (case begins_d7 => k_is)
      (case begins_d8 => ks_is)
      (case begins_d9 => k_is)
      (case begins_d10 => k_is)
      (case begins_d11 => first | exact rfl | decide +kernel)
      (case begins_e1 => k_is)
      (case begins_e2 => k_is)
      (case begins_e3 => k_is)
      (case begins_e4 => k_is)
      (case begins_e5 => k_is)
      (case begins_e6 => k_is)
      (case begins_e7 => k_is)
      (case begins_e8 => k_is)
      (case begins_f1 => k_is)
      (case begins_f2 => k_is)
      (case begins_f3 => k_is)
      (case begins_f4 => k_is)
      (case begins_g1 => kit_is)
      (case begins_g2 => k_is)
      (case begins_g3 => k_is)
      (case begins_g4 => k_is)
      (case begins_g5 => k_is)
      (case begins_g6 => k_is)
      (case begins_g7 => k_is)
      (case begins_g8 => k_is)
      (case begins_g9 => k_is)
      (case begins_g10 => k_is)
      (case begins_g11 => k_is)
      (case length_a => k_is)
      (case length_b => k_is)
      (case length_b1 => k_is)
      (case length_b2 => k_is)
      (case length_b3 => k_is)
      (case length_b4 => k_is)
      (case length_c => k_is)
      (case length_c1 => k_is)
      (case length_c2 => k_is)
      (case length_c3 => k_is)
      (case length_c4 => k_is)
      (case length_hp => exact rfl)
      (case length_hp2 => exact rfl)
      (case length_d1 => k_is)
      (case length_d2 => exact rfl)
      (case length_d3 => first | exact rfl | decide +kernel)
      (case length_d4 => k_is)
      (case length_d5 => k_is)
      (case length_d6 => k_is)
      (case length_d7 => k_is)
      (case length_d8 => ks_is)
      (case length_d9 => k_is)
      (case length_d10 => k_is)
      (case length_d11 => first | exact rfl | decide +kernel)
      (case length_e1 => k_is)
      (case length_e2 => k_is)
      (case length_e3 => k_is)
      (case length_e4 => k_is)
      (case length_e5 => k_is)
      (case length_e6 => k_is)
      (case length_e7 => k_is)
      (case length_e8 => k_is)
      (case length_f1 => k_is)
      (case length_f2 => k_is)
      (case length_f3 => k_is)
      (case length_f4 => k_is)
      (case length_g1 => kit_is)
      (case length_g2 => k_is)
      (case length_g3 => k_is)
      (case length_g4 => k_is)
      (case length_g5 => k_is)
      (case length_g6 => k_is)
      (case length_g7 => k_is)
      (case length_g8 => k_is)
      (case length_g9 => k_is)
      (case length_g10 => k_is)
      (case length_g11 => k_is)
      (case value_a => k_is)
      (case value_b => k_is)
      (case value_b1 => k_is)
      (case value_b2 => k_is)
      (case value_b3 => k_is)
      (case value_b4 => k_is)
      (case value_c => k_is)
      (case value_c1 => k_is)
      (case value_c2 => k_is)
      (case value_c3 => k_is)
      (case value_c4 => k_is)
      (case value_hp => exact rfl)
      (case value_hp2 => exact rfl)
      (case value_d1 => k_is)
      (case value_d2 => exact rfl)
      (case value_d3 => first | exact rfl | decide +kernel)
      (case value_d4 => k_is)
      (case value_d5 => k_is)
      (case value_d6 => k_is)
      (case value_d7 => k_is)
      (case value_d8 => ks_is)
      (case value_d9 => k_is)
      (case value_d10 => k_is)
      (case value_d11 => first | exact rfl | decide +kernel)
      (case value_e1 => k_is)
      (case value_e2 => k_is)
      (case value_e3 => k_is)
      (case value_e4 => k_is)
      (case value_e5 => k_is)
      (case value_e6 => k_is)
      (case value_e7 => k_is)
      (case value_e8 => k_is)
      (case value_f1 => k_is)
      (case value_f2 => k_is)
      (case value_f3 => k_is)
      (case value_f4 => k_is)
      (case value_g1 => kit_is)
      (case value_g2 => k_is)
      (case value_g3 => k_is)
      (case value_g4 => k_is)
      (case value_g5 => k_is)
      (case value_g6 => k_is)
      (case value_g7 => k_is)
      (case value_g8 => k_is)
      (case value_g9 => k_is)
      (case value_g10 => k_is)
      (case value_g11 => k_is)
      (case both_a => k_is)
      (case both_b => k_is)
      (case both_b1 => k_is)
      (case both_b2 => k_is)
      (case both_b3 => k_is)
      (case both_b4 => k_is)
      (case both_c => k_is)
      (case both_c1 => k_is)
      (case both_c2 => k_is)
      (case both_c3 => k_is)
      (case both_c4 => k_is)
      (case both_hp => exact rfl)
      (case both_hp2 => exact rfl)
      (case both_d1 => k_is)
      (case both_d2 => exact rfl)
      (case both_d3 => first | exact rfl | decide +kernel)
      (case both_d4 => k_is)
      (case both_d5 => k_is)
      (case both_d6 => k_is)
      (case both_d7 => k_is)
      (case both_d8 => ks_is)
      (case both_d9 => k_is)
      (case both_d10 => k_is)
      (case both_d11 => first | exact rfl | decide +kernel)
      (case both_e1 => k_is)
      (case both_e2 => k_is)
      (case both_e3 => k_is)
      (case both_e4 => k_is)
      (case both_e5 => k_is)
      (case both_e6 => k_is)
      (case both_e7 => k_is)
      (case both_e8 => k_is)
      (case both_f1 => k_is)
      (case both_f2 => k_is)
      (case both_f3 => k_is)
      (case both_f4 => k_is)
      (case both_g1 => kit_is)
      (case both_g2 => k_is)
      (case both_g3 => k_is)
      (case both_g4 => k_is)
      (case both_g5 => k_is)
      (case both_g6 => k_is)
      (case both_g7 => k_is)
      (case both_g8 => k_is)
      (case both_g9 => k_is)
      (case both_g10 => k_is)
      (case both_g11 => k_is)
      (case either_a => k_is)
      (case either_b => k_is)
      (case either_b1 => k_is)
      (case either_b2 => k_is)
      (case either_b3 => k_is)
      (case either_b4 => k_is)
      (case either_c => k_is)
      (case either_c1 => k_is)
      (case either_c2 => k_is)
      (case either_c3 => k_is)
      (case either_c4 => k_is)
      (case either_hp => exact rfl)
      (case either_hp2 => exact rfl)
      (case either_d1 => k_is)
      (case either_d2 => exact rfl)
      (case either_d3 => first | exact rfl | decide +kernel)
      (case either_d4 => k_is)
      (case either_d5 => k_is)
      (case either_d6 => k_is)
      (case either_d7 => k_is)
      (case either_d8 => ks_is)
      (case either_d9 => k_is)
      (case either_d10 => k_is)
      (case either_d11 => first | exact rfl | decide +kernel)
      (case either_e1 => k_is)
      (case either_e2 => k_is)
      (case either_e3 => k_is)
      (case either_e4 => k_is)
      (case either_e5 => k_is)
      (case either_e6 => k_is)
      (case either_e7 => k_is)
      (case either_e8 => k_is)
      (case either_f1 => k_is)
      (case either_f2 => k_is)
      (case either_f3 => k_is)
      (case either_f4 => k_is)
      (case either_g1 => kit_is)
      (case either_g2 => k_is)
      (case either_g3 => k_is)
      (case either_g4 => k_is)
      (case either_g5 => k_is)
      (case either_g6 => k_is)
      (case either_g7 => k_is)
      (case either_g8 => k_is)
      (case either_g9 => k_is)
      (case either_g10 => k_is)
      (case either_g11 => k_is)
      (case opp_a => k_is)
      (case opp_b => k_is)
      (case opp_b1 => k_is)
      (case opp_b2 => k_is)
      (case opp_b3 => k_is)
      (case opp_b4 => k_is)
      (case opp_c => k_is)
      (case opp_c1 => k_is)
      (case opp_c2 => k_is)
      (case opp_c3 => k_is)
      (case opp_c4 => k_is)
      (case opp_hp => exact rfl)
      (case opp_hp2 => exact rfl)
      (case opp_d1 => k_is)
      (case opp_d2 => exact rfl)
      (case opp_d3 => first | exact rfl | decide +kernel)
      (case opp_d4 => k_is)
      (case opp_d5 => k_is)
      (case opp_d6 => k_is)
      (case opp_d7 => k_is)
      (case opp_d8 => ks_is)
      (case opp_d9 => k_is)
      (case opp_d10 => k_is)
      (case opp_d11 => first | exact rfl | decide +kernel)
      (case opp_e1 => k_is)
      (case opp_e2 => k_is)
      (case opp_e3 => k_is)
      (case opp_e4 => k_is)
      (case opp_e5 => k_is)
      (case opp_e6 => k_is)
      (case opp_e7 => k_is)
      (case opp_e8 => k_is)
      (case opp_f1 => k_is)
      (case opp_f2 => k_is)
      (case opp_f3 => k_is)
      (case opp_f4 => k_is)
      (case opp_g1 => kit_is)
      (case opp_g2 => k_is)
      (case opp_g3 => k_is)
      (case opp_g4 => k_is)
      (case opp_g5 => k_is)
      (case opp_g6 => k_is)
      (case opp_g7 => k_is)
      (case opp_g8 => k_is)
      (case opp_g9 => k_is)
      (case opp_g10 => k_is)
      (case opp_g11 => k_is)
      (case m_fCI_l => k_is)
      (case m_fCI_c => k_is)
      (case m_fCI_k => k_is)
      (case m_fc_l => k_is)
      (case m_fc_c => k_is)
      (case m_fc_k => k_is)
      (case m_fa_l => k_is)
      (case m_fa_c => k_is)
      (case m_fa_k => k_is)
      (case m_fo_l => k_is)
      (case m_fo_c => k_is)
      (case m_fo_k => k_is)
      (case m_fi_l => k_is)
      (case m_fi_c => k_is)
      (case m_fi_k => k_is)
      (case m_fl_l => k_is)
      (case m_fl_c => k_is)
      (case m_fl_k => k_is)
      (case i_fl => k_is)
      (case i_fa => k_is)
      (case i_fo => k_is)
      (case i_fi => k_is)
      (case u_begins_length => k_is)
      (case u_begins_value => k_is)
      (case u_begins_both => k_is)
      (case u_begins_either => k_is)
      (case u_begins_opp => k_is)
      (case u_length_begins => k_is)
      (case u_length_value => k_is)
      (case u_length_both => k_is)
      (case u_length_either => k_is)
      (case u_length_opp => k_is)
      (case u_value_begins => k_is)
      (case u_value_length => k_is)
      (case u_value_both => k_is)
      (case u_value_either => k_is)
      (case u_value_opp => k_is)
      (case u_both_begins => k_is)
      (case u_both_length => k_is)
      (case u_both_value => k_is)
      (case u_both_either => k_is)
      (case u_both_opp => k_is)
      (case u_either_begins => k_is)
      (case u_either_length => k_is)
      (case u_either_value => k_is)
      (case u_either_both => k_is)
      (case u_either_opp => k_is)
      (case u_opp_begins => k_is)
      (case u_opp_length => k_is)
      (case u_opp_value => k_is)
      (case u_opp_both => k_is)
      (case u_opp_either => k_is)
      (case p_is_integer_a => k_is)
      (case p_is_integer_l => k_is)
      (case p_is_integer_c => k_is)
      (case p_is_integer_k => k_is)
      (case p_in_range_a => k_is)
      (case p_in_range_l => k_is)
      (case p_in_range_c => k_is)
      (case p_in_range_k => k_is)
      (case p_check_number_a => k_is)
      (case p_check_number_l => k_is)
      (case p_check_number_c => k_is)
      (case p_check_number_k => k_is)
      (case p_is_key_a => k_is)
      (case p_is_key_l => k_is)
      (case p_is_key_c => k_is)
      (case p_is_key_k => k_is)
      (case p_check_key_a => k_is)
      (case p_check_key_l => k_is)
      (case p_check_key_c => k_is)
      (case p_check_key_k => k_is)
      (case p_check_value_a => k_is)
      (case p_check_value_l => k_is)
      (case p_check_value_c => k_is)
      (case p_check_value_k => k_is)
      (case p_check_simple_a => k_is)
      (case p_check_simple_l => k_is)
      (case p_check_simple_c => k_is)
      (case p_check_simple_k => k_is)
      (case p_check_condition_a => k_is)
      (case p_check_condition_l => k_is)
      (case p_check_condition_c => k_is)
      (case p_check_condition_k => k_is)
      (case p_extended_a => k_is)
      (case p_extended_l => k_is)
      (case p_extended_c => k_is)
      (case p_extended_k => k_is)
      (case p_some_names_a => k_is)
      (case p_some_names_l => k_is)
      (case p_some_names_c => k_is)
      (case p_some_names_k => k_is)
      (case p_some_values_a => k_is)
      (case p_some_values_l => k_is)
      (case p_some_values_c => k_is)
      (case p_some_values_k => k_is)
      (case p_example_a => k_is)
      (case p_example_l => k_is)
      (case p_example_c => k_is)
      (case p_example_k => k_is)
      (case p_some_row_a => k_is)
      (case p_some_row_l => k_is)
      (case p_some_row_c => k_is)
      (case p_some_row_k => k_is)
      (case p_implies_a => k_is)
      (case p_implies_l => k_is)
      (case p_implies_c => k_is)
      (case p_implies_k => k_is)
      (case p_are_alike_a => k_is)
      (case p_are_alike_l => k_is)
      (case p_are_alike_c => k_is)
      (case p_are_alike_k => k_is)
      (case p__law_hand_a => k_is)
      (case p__law_hand_l => k_is)
      (case p__law_hand_c => k_is)
      (case p__law_hand_k => k_is)
      (case p__law_draw_a => k_is)
      (case p__law_draw_l => k_is)
      (case p__law_draw_c => k_is)
      (case p__law_draw_k => k_is)
      (case p__law_key_a => k_is)
      (case p__law_key_l => k_is)
      (case p__law_key_c => k_is)
      (case p__law_key_k => k_is)
      (case p__law_condition_a => k_is)
      (case p__law_condition_l => k_is)
      (case p__law_condition_c => k_is)
      (case p__law_condition_k => k_is)
      (case p__law_pairs_a => k_is)
      (case p__law_pairs_l => k_is)
      (case p__law_pairs_c => k_is)
      (case p__law_pairs_k => k_is)
      (case p__law_apart_a => k_is)
      (case p__law_apart_l => k_is)
      (case p__law_apart_c => k_is)
      (case p__law_apart_k => k_is)
