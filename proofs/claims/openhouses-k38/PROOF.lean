import PyProof.Rows.All
import Wide.All
import OpenK.AllK
import Wide.FinOn
import HandS.ForMost
import HandS.SetFor
import KE.SortCalls
import KE.DataMinMax
import KE.DataFind
import KE.KDictPairs
import HandS.Style
import HandS.NoneIn
import HandS.Conv
import HandS.Wide
import HandS.IsInst
import HandS.CallRecv
import HandS.Walk
import HandS.Codes
import PySem.Challenge.RW_openhouses_k38_whole_floors_judged
import KE.SortData
set_option Elab.async false
set_option linter.all false
set_option maxRecDepth 100000
set_option maxHeartbeats 4000000
/-! Plain mathematics: trees, distances. -/
namespace OH
section tree
variable {V : Type} [DecidableEq V]

/-- the greatest length, cost, many -/
def B30 : Int := 1000000000000000000000000000000

/-- where ways lead to from a place -/
def near (W : List (V × V × Int)) (v : V) : List (V × Int) :=
  W.flatMap fun e => (if e.1 = v then [(e.2.1, e.2.2)] else []) ++ (if e.2.1 = v then [(e.1, e.2.2)] else [])

theorem mem_near {W : List (V × V × Int)} {v u : V} {l : Int} : (u, l) ∈ near W v ↔ (v, u, l) ∈ W ∨ (u, v, l) ∈ W := by
  unfold near
  rw [List.mem_flatMap]
  constructor
  · rintro ⟨⟨a, b, k⟩, he, h⟩
    rcases List.mem_append.mp h with h | h
    · by_cases q : a = v
      · simp only [q, if_true] at h
        rw [List.mem_singleton] at h
        cases h
        exact .inl (q ▸ he)
      · simp [q] at h
    · by_cases q : b = v
      · simp only [q, if_true] at h
        rw [List.mem_singleton] at h
        cases h
        exact .inr (q ▸ he)
      · simp [q] at h
  · rintro (h | h)
    · exact ⟨_, h, List.mem_append.mpr (.inl (by simp))⟩
    · exact ⟨_, h, List.mem_append.mpr (.inr (by simp))⟩

inductive Grown : List V → List (V × V × Int) → Prop
  | one (r : V) : Grown [r] []
  | leaf {P : List V} {W : List (V × V × Int)} {a v : V} {l : Int} {e : V × V × Int} : Grown P W → a ∈ P → v ∉ P → 1 ≤ l → l ≤ B30 → (e = (a, v, l) ∨ e = (v, a, l)) → Grown (v :: P) (e :: W)

/-- a tree seen from a place r: for each other place the next one on the way to r -/
structure RT (P : List V) (W : List (V × V × Int)) (r : V) (par : V → V) (dep : V → Nat) (len : V → Int) : Prop where
  root : r ∈ P
  d0 : dep r = 0
  up : ∀ v ∈ P, v ≠ r → par v ∈ P ∧ dep v = dep (par v) + 1 ∧ 1 ≤ len v ∧ len v ≤ B30
  adj : ∀ v ∈ P, ∀ u l, (u, l) ∈ near W v ↔ (v ≠ r ∧ u = par v ∧ l = len v) ∨ (u ∈ P ∧ u ≠ r ∧ par u = v ∧ l = len u)
  dlt : ∀ v ∈ P, dep v < P.length

theorem Grown.ends {P : List V} {W : List (V × V × Int)} (g : Grown P W) : ∀ a b l, (a, b, l) ∈ W → a ∈ P ∧ b ∈ P ∧ a ≠ b := by
  induction g with
  | one r => intro a b l h; cases h
  | leaf g ha hv h1 h2 he ih =>
    intro a b l h
    rcases List.mem_cons.mp h with h | h
    · rcases he with he | he
      · rw [he] at h; cases h
        exact ⟨List.mem_cons_of_mem _ ha, List.mem_cons_self, fun z => hv (z ▸ ha)⟩
      · rw [he] at h; cases h
        exact ⟨List.mem_cons_self, List.mem_cons_of_mem _ ha, fun z => hv (z ▸ ha)⟩
    · obtain ⟨x, y, z⟩ := ih a b l h
      exact ⟨List.mem_cons_of_mem _ x, List.mem_cons_of_mem _ y, z⟩
theorem Grown.nodup {P : List V} {W : List (V × V × Int)} (g : Grown P W) : P.Nodup := by
  induction g with
  | one r => simp
  | leaf g ha hv h1 h2 he ih => exact List.nodup_cons.mpr ⟨hv, ih⟩
theorem Grown.len {P : List V} {W : List (V × V × Int)} (g : Grown P W) : W.length + 1 = P.length := by
  induction g with
  | one r => rfl
  | leaf g ha hv h1 h2 he ih => simp only [List.length_cons]; omega

theorem mem_near_cons {W : List (V × V × Int)} {v u a b : V} {l k : Int} : (u, l) ∈ near ((a, b, k) :: W) v ↔ (v = a ∧ u = b ∧ l = k) ∨ (u = a ∧ v = b ∧ l = k) ∨ (u, l) ∈ near W v := by
  rw [mem_near, mem_near, List.mem_cons, List.mem_cons, Prod.mk.injEq, Prod.mk.injEq, Prod.mk.injEq, Prod.mk.injEq]
  constructor
  · rintro ((h | h) | (h | h))
    · exact .inl h
    · exact .inr (.inr (.inl h))
    · exact .inr (.inl h)
    · exact .inr (.inr (.inr h))
  · rintro (h | h | h | h)
    · exact .inl (.inl h)
    · exact .inr (.inl h)
    · exact .inl (.inr h)
    · exact .inr (.inr h)

/-- a leaf is hung on: seen from an old place -/
theorem RT.grow {P : List V} {W : List (V × V × Int)} {r a v : V} {l : Int} {e : V × V × Int} {par : V → V} {dep : V → Nat} {len : V → Int} (t : RT P W r par dep len) (g : Grown P W) (ha : a ∈ P) (hv : v ∉ P) (h1 : 1 ≤ l) (h2 : l ≤ B30) (he : e = (a, v, l) ∨ e = (v, a, l)) :
    RT (v :: P) (e :: W) r (fun x => if x = v then a else par x) (fun x => if x = v then dep a + 1 else dep x) (fun x => if x = v then l else len x) := by
  have ne : ∀ x ∈ P, x ≠ v := fun x hx z => hv (z ▸ hx)
  have nW : ∀ u k, (u, k) ∉ near W v := fun u k h => by
    rcases mem_near.mp h with h | h
    · exact hv (g.ends _ _ _ h).1
    · exact hv (g.ends _ _ _ h).2.1
  have nr : ∀ u x k, (u, k) ∈ near W x → u ∈ P := fun u x k h => by
    rcases mem_near.mp h with h | h
    · exact (g.ends _ _ _ h).2.1
    · exact (g.ends _ _ _ h).1
  have hmem : ∀ x u k, (u, k) ∈ near (e :: W) x ↔ (x = a ∧ u = v ∧ k = l) ∨ (u = a ∧ x = v ∧ k = l) ∨ (u, k) ∈ near W x := fun x u k => by
    rcases he with he | he
    · rw [he, mem_near_cons]
    · rw [he, mem_near_cons]
      constructor
      · rintro (⟨p, q, r⟩ | ⟨p, q, r⟩ | h)
        · exact .inr (.inl ⟨q, p, r⟩)
        · exact .inl ⟨q, p, r⟩
        · exact .inr (.inr h)
      · rintro (⟨p, q, r⟩ | ⟨p, q, r⟩ | h)
        · exact .inr (.inl ⟨q, p, r⟩)
        · exact .inl ⟨q, p, r⟩
        · exact .inr (.inr h)
  have rv : r ≠ v := ne r t.root
  refine ⟨List.mem_cons_of_mem _ t.root, ?_, fun x hx hr => ?_, fun x hx u k => ?_, fun x hx => ?_⟩
  · show (if r = v then _ else dep r) = 0
    rw [if_neg rv]; exact t.d0
  · by_cases q : x = v
    · simp only [q, if_true]
      refine ⟨List.mem_cons_of_mem _ ha, ?_, h1, h2⟩
      rw [if_neg (ne a ha)]
    · have hx' : x ∈ P := (List.mem_cons.mp hx).resolve_left q
      obtain ⟨b1, b2, b3, b4⟩ := t.up x hx' hr
      simp only [q, if_false]
      refine ⟨List.mem_cons_of_mem _ b1, ?_, b3, b4⟩
      rw [if_neg (ne _ b1)]; exact b2
  · rw [hmem]
    by_cases q : x = v
    · subst q
      simp only [if_true]
      constructor
      · rintro (⟨p, _⟩ | ⟨p, _, r⟩ | h)
        · exact absurd (p ▸ ha) hv
        · exact .inl ⟨Ne.symm rv, p, r⟩
        · exact absurd h (nW _ _)
      · rintro (⟨_, p, r⟩ | ⟨p, q, s, r⟩)
        · exact .inr (.inl ⟨p, trivial, r⟩)
        · by_cases z : u = x
          · rw [if_pos z] at s; exact absurd (s ▸ ha) hv
          · rw [if_neg z] at s
            have hu : u ∈ P := (List.mem_cons.mp p).resolve_left z
            exact absurd (s ▸ (t.up u hu q).1) hv
    · have hx' : x ∈ P := (List.mem_cons.mp hx).resolve_left q
      simp only [q, if_false]
      rw [t.adj x hx']
      constructor
      · rintro (⟨p, q', r'⟩ | ⟨_, q', _⟩ | ⟨p, h1', h2'⟩ | ⟨p, h1', h2', h3'⟩)
        · refine .inr ⟨q' ▸ List.mem_cons_self, q' ▸ Ne.symm rv, ?_, ?_⟩
          · rw [if_pos q', p]
          · rw [if_pos q', r']
        · exact absurd q' (by simp)
        · exact .inl ⟨p, h1', h2'⟩
        · exact .inr ⟨List.mem_cons_of_mem _ p, h1', by rw [if_neg (ne u p)]; exact h2', by rw [if_neg (ne u p)]; exact h3'⟩
      · rintro (⟨p, h1', h2'⟩ | ⟨p, h1', h2', h3'⟩)
        · exact .inr (.inr (.inl ⟨p, h1', h2'⟩))
        · by_cases z : u = v
          · rw [if_pos z] at h2' h3'
            exact .inl ⟨h2'.symm, z, h3'⟩
          · rw [if_neg z] at h2' h3'
            exact .inr (.inr (.inr ⟨(List.mem_cons.mp p).resolve_left z, h1', h2', h3'⟩))
  · show (if x = v then dep a + 1 else dep x) < P.length + 1
    by_cases q : x = v
    · rw [if_pos q]; exact Nat.succ_lt_succ (t.dlt a ha)
    · rw [if_neg q]; exact Nat.lt_succ_of_lt (t.dlt x ((List.mem_cons.mp hx).resolve_left q))
/-- seen from the leaf itself -/
theorem RT.turn {P : List V} {W : List (V × V × Int)} {a v : V} {l : Int} {e : V × V × Int} {par : V → V} {dep : V → Nat} {len : V → Int} (t : RT P W a par dep len) (g : Grown P W) (hv : v ∉ P) (h1 : 1 ≤ l) (h2 : l ≤ B30) (he : e = (a, v, l) ∨ e = (v, a, l)) :
    RT (v :: P) (e :: W) v (fun x => if x = a then v else par x) (fun x => if x = v then 0 else dep x + 1) (fun x => if x = a then l else len x) := by
  have ha := t.root
  have ne : ∀ x ∈ P, x ≠ v := fun x hx z => hv (z ▸ hx)
  have nW : ∀ u k, (u, k) ∉ near W v := fun u k h => by
    rcases mem_near.mp h with h | h
    · exact hv (g.ends _ _ _ h).1
    · exact hv (g.ends _ _ _ h).2.1
  have hmem : ∀ x u k, (u, k) ∈ near (e :: W) x ↔ (x = a ∧ u = v ∧ k = l) ∨ (u = a ∧ x = v ∧ k = l) ∨ (u, k) ∈ near W x := fun x u k => by
    rcases he with he | he
    · rw [he, mem_near_cons]
    · rw [he, mem_near_cons]
      constructor
      · rintro (⟨p, q, r⟩ | ⟨p, q, r⟩ | h)
        · exact .inr (.inl ⟨q, p, r⟩)
        · exact .inl ⟨q, p, r⟩
        · exact .inr (.inr h)
      · rintro (⟨p, q, r⟩ | ⟨p, q, r⟩ | h)
        · exact .inr (.inl ⟨q, p, r⟩)
        · exact .inl ⟨q, p, r⟩
        · exact .inr (.inr h)
  have av : a ≠ v := ne a ha
  refine ⟨List.mem_cons_self, if_pos rfl, fun x hx hr => ?_, fun x hx u k => ?_, fun x hx => ?_⟩
  · have hx' : x ∈ P := (List.mem_cons.mp hx).resolve_left hr
    by_cases q : x = a
    · simp only [q, if_true]
      refine ⟨List.mem_cons_self, ?_, h1, h2⟩
      rw [if_neg av, t.d0]
    · obtain ⟨b1, b2, b3, b4⟩ := t.up x hx' q
      simp only [q, if_false]
      refine ⟨List.mem_cons_of_mem _ b1, ?_, b3, b4⟩
      rw [if_neg hr, if_neg (ne _ b1), b2]
  · rw [hmem]
    by_cases q : x = v
    · subst q
      constructor
      · rintro (⟨p, _⟩ | ⟨p, _, r⟩ | h)
        · exact absurd p.symm av
        · exact .inr ⟨p ▸ List.mem_cons_of_mem _ ha, p ▸ av, by rw [if_pos p], by rw [if_pos p, r]⟩
        · exact absurd h (nW _ _)
      · rintro (⟨p, _⟩ | ⟨p, q, s, r⟩)
        · exact absurd rfl p
        · by_cases z : u = a
          · rw [if_pos z] at r
            exact .inr (.inl ⟨z, rfl, r⟩)
          · rw [if_neg z] at s
            have hu : u ∈ P := (List.mem_cons.mp p).resolve_left q
            exact absurd (s ▸ (t.up u hu z).1) hv
    · have hx' : x ∈ P := (List.mem_cons.mp hx).resolve_left q
      rw [t.adj x hx']
      constructor
      · rintro (⟨p, q', r'⟩ | ⟨_, q', _⟩ | ⟨p, h1', h2'⟩ | ⟨p, h1', h2', h3'⟩)
        · exact .inl ⟨q, by rw [if_pos p]; exact q', by rw [if_pos p]; exact r'⟩
        · exact absurd q' q
        · exact .inl ⟨q, by rw [if_neg p]; exact h1', by rw [if_neg p]; exact h2'⟩
        · exact .inr ⟨List.mem_cons_of_mem _ p, ne u p, by rw [if_neg h1']; exact h2', by rw [if_neg h1']; exact h3'⟩
      · rintro (⟨p, h1', h2'⟩ | ⟨p, h1', h2', h3'⟩)
        · by_cases z : x = a
          · rw [if_pos z] at h1' h2'
            exact .inl ⟨z, h1', h2'⟩
          · rw [if_neg z] at h1' h2'
            exact .inr (.inr (.inl ⟨z, h1', h2'⟩))
        · by_cases z : u = a
          · rw [if_pos z] at h2'
            exact absurd h2'.symm q
          · rw [if_neg z] at h2' h3'
            exact .inr (.inr (.inr ⟨(List.mem_cons.mp p).resolve_left h1', z, h2', h3'⟩))
  · show (if x = v then 0 else dep x + 1) < P.length + 1
    by_cases q : x = v
    · rw [if_pos q]; exact Nat.succ_pos _
    · rw [if_neg q]; exact Nat.succ_lt_succ (t.dlt x ((List.mem_cons.mp hx).resolve_left q))

theorem Grown.rt {P : List V} {W : List (V × V × Int)} (g : Grown P W) : ∀ r ∈ P, ∃ par dep len, RT P W r par dep len := by
  induction g with
  | one r0 =>
    intro r hr
    have e : r = r0 := by simpa using hr
    subst e
    refine ⟨id, fun _ => 0, fun _ => 1, List.mem_singleton.mpr rfl, rfl, fun v hv h => absurd (List.mem_singleton.mp hv) h, fun v hv u l => ?_, fun v _ => Nat.one_pos⟩
    constructor
    · intro h
      rcases mem_near.mp h with h | h <;> cases h
    · rintro (⟨h, _⟩ | ⟨h1, h2, _⟩)
      · exact absurd (List.mem_singleton.mp hv) h
      · exact absurd (List.mem_singleton.mp h1) h2
  | leaf g ha hv h1 h2 he ih =>
    intro r hr
    rcases List.mem_cons.mp hr with rfl | hr
    · obtain ⟨par, dep, len, t⟩ := ih _ ha
      exact ⟨_, _, _, t.turn g hv h1 h2 he⟩
    · obtain ⟨par, dep, len, t⟩ := ih r hr
      exact ⟨_, _, _, t.grow g ha hv h1 h2 he⟩

theorem RT.perm {P P' : List V} {W W' : List (V × V × Int)} {r : V} {par : V → V} {dep : V → Nat} {len : V → Int} (t : RT P W r par dep len) (p : P'.Perm P) (q : W'.Perm W) : RT P' W' r par dep len where
  root := p.mem_iff.mpr t.root
  d0 := t.d0
  up := fun v hv hr => by
    obtain ⟨a, b⟩ := t.up v (p.mem_iff.mp hv) hr
    exact ⟨p.mem_iff.mpr a, b⟩
  adj := fun v hv u l => by
    have h := t.adj v (p.mem_iff.mp hv) u l
    rw [mem_near] at h ⊢
    rw [q.mem_iff, q.mem_iff, h, p.mem_iff]
  dlt := fun v hv => by rw [p.length_eq]; exact t.dlt v (p.mem_iff.mp hv)

/-- neighbours stand once each -/
theorem Grown.near_nodup {P : List V} {W : List (V × V × Int)} (g : Grown P W) : ∀ v, ((near W v).map (·.1)).Nodup := by
  induction g with
  | one r => intro v; simp [near]
  | @leaf P W a v l e g ha hv h1 h2 he ih =>
    intro x
    have nW : ∀ u k, (u, k) ∈ near W x → u ∈ P ∧ x ∈ P := fun u k h => by
      rcases mem_near.mp h with h | h
      · exact ⟨(g.ends _ _ _ h).2.1, (g.ends _ _ _ h).1⟩
      · exact ⟨(g.ends _ _ _ h).1, (g.ends _ _ _ h).2.1⟩
    have av : a ≠ v := fun z => hv (z ▸ ha)
    have key : near (e :: W) x = (if e.1 = x then [(e.2.1, e.2.2)] else []) ++ (if e.2.1 = x then [(e.1, e.2.2)] else []) ++ near W x := by
      unfold near
      rw [List.flatMap_cons]
    have fin : ∀ (y : V) (k : Int), (x = a ∧ y = v ∨ x = v ∧ y = a) → (((y, k) :: near W x).map (·.1)).Nodup := fun y k h => by
      refine List.nodup_cons.mpr ⟨fun hm => ?_, ih x⟩
      obtain ⟨⟨u, k'⟩, hu, hy⟩ := List.mem_map.mp hm
      obtain ⟨p, q⟩ := nW u k' hu
      have hy' : u = y := hy
      rcases h with ⟨_, h⟩ | ⟨h, _⟩
      · exact hv (h ▸ hy' ▸ p)
      · exact hv (h ▸ q)
    rw [key]
    rcases he with he | he <;> rw [he] <;> dsimp only
    · by_cases q1 : a = x
      · rw [if_pos q1, if_neg (fun z => av (q1.trans z.symm))]
        exact fin v l (.inl ⟨q1.symm, rfl⟩)
      · rw [if_neg q1]
        by_cases q2 : v = x
        · rw [if_pos q2]
          exact fin a l (.inr ⟨q2.symm, rfl⟩)
        · rw [if_neg q2]
          exact ih x
    · by_cases q1 : v = x
      · rw [if_pos q1, if_neg (fun z => av (z.trans q1.symm))]
        exact fin a l (.inr ⟨q1.symm, rfl⟩)
      · rw [if_neg q1]
        by_cases q2 : a = x
        · rw [if_pos q2]
          exact fin v l (.inl ⟨q2.symm, rfl⟩)
        · rw [if_neg q2]
          exact ih x
theorem near_perm {W W' : List (V × V × Int)} (q : W'.Perm W) (v : V) : (near W' v).Perm (near W v) := q.flatMap_right _

/-- a map that is a tree: places in any order, ways in any order -/
structure Tree (P : List V) (W : List (V × V × Int)) : Prop where
  grown : ∃ P' W', Grown P' W' ∧ P.Perm P' ∧ W.Perm W'
theorem Tree.rt {P : List V} {W : List (V × V × Int)} (t : Tree P W) : ∀ r ∈ P, ∃ par dep len, RT P W r par dep len := fun r hr => by
  obtain ⟨P', W', g, p, q⟩ := t.grown
  obtain ⟨par, dep, len, h⟩ := g.rt r (p.mem_iff.mp hr)
  exact ⟨par, dep, len, h.perm p q⟩
theorem Tree.nodup {P : List V} {W : List (V × V × Int)} (t : Tree P W) : P.Nodup := by
  obtain ⟨P', W', g, p, q⟩ := t.grown
  exact p.nodup_iff.mpr g.nodup
theorem Tree.len {P : List V} {W : List (V × V × Int)} (t : Tree P W) : W.length + 1 = P.length := by
  obtain ⟨P', W', g, p, q⟩ := t.grown
  rw [p.length_eq, q.length_eq]; exact g.len
theorem Tree.ends {P : List V} {W : List (V × V × Int)} (t : Tree P W) : ∀ a b l, (a, b, l) ∈ W → a ∈ P ∧ b ∈ P ∧ a ≠ b := fun a b l h => by
  obtain ⟨P', W', g, p, q⟩ := t.grown
  obtain ⟨x, y, z⟩ := g.ends a b l (q.mem_iff.mp h)
  exact ⟨p.mem_iff.mpr x, p.mem_iff.mpr y, z⟩
theorem Tree.near_nodup {P : List V} {W : List (V × V × Int)} (t : Tree P W) (v : V) : ((near W v).map (·.1)).Nodup := by
  obtain ⟨P', W', g, p, q⟩ := t.grown
  exact ((near_perm q v).map _).nodup_iff.mpr (g.near_nodup v)
theorem Tree.near_mem {P : List V} {W : List (V × V × Int)} (t : Tree P W) {v u : V} {l : Int} (h : (u, l) ∈ near W v) : u ∈ P ∧ v ∈ P := by
  rcases mem_near.mp h with h | h
  · exact ⟨(t.ends _ _ _ h).2.1, (t.ends _ _ _ h).1⟩
  · exact ⟨(t.ends _ _ _ h).1, (t.ends _ _ _ h).2.1⟩

/-! ### how far -/
def distN (par : V → V) (len : V → Int) : Nat → V → Int
  | 0, _ => 0
  | n + 1, v => distN par len n (par v) + len v
def dist (par : V → V) (dep : V → Nat) (len : V → Int) (v : V) : Int := distN par len (dep v) v
variable {P : List V} {W : List (V × V × Int)} {r s : V} {par par' : V → V} {dep dep' : V → Nat} {len len' : V → Int}
theorem RT.dep0 (t : RT P W r par dep len) {v : V} (hv : v ∈ P) (h : dep v = 0) : v = r := by
  by_cases q : v = r
  · exact q
  · have := (t.up v hv q).2.1
    omega
theorem RT.dist_root (t : RT P W r par dep len) : dist par dep len r = 0 := by
  unfold dist; rw [t.d0]; rfl
theorem RT.dist_up (t : RT P W r par dep len) {v : V} (hv : v ∈ P) (h : v ≠ r) : dist par dep len v = dist par dep len (par v) + len v := by
  unfold dist
  rw [(t.up v hv h).2.1]
  rfl
theorem RT.dist_bound (t : RT P W r par dep len) : ∀ (n : Nat) (v : V), v ∈ P → dep v = n → 0 ≤ dist par dep len v ∧ dist par dep len v ≤ n * B30 ∧ (v ≠ r → 1 ≤ dist par dep len v) := by
  intro n
  induction n with
  | zero =>
    intro v hv h
    have e := t.dep0 hv h
    subst e
    rw [t.dist_root]
    exact ⟨Int.le_refl 0, by simp, fun z => absurd rfl z⟩
  | succ n ih =>
    intro v hv h
    have q : v ≠ r := fun z => by rw [z, t.d0] at h; cases h
    obtain ⟨b1, b2, b3, b4⟩ := t.up v hv q
    obtain ⟨c1, c2, c3⟩ := ih (par v) b1 (by omega)
    rw [t.dist_up hv q]
    refine ⟨by omega, ?_, fun _ => by omega⟩
    have : ((n + 1 : Nat) : Int) * B30 = n * B30 + B30 := by
      rw [Int.natCast_add, Int.add_mul]; simp
    omega

/-! ### above and below -/
/-- v stands on the way from x to the root -/
def ancN (par : V → V) (v : V) : Nat → V → Bool
  | 0, x => decide (v = x)
  | n + 1, x => decide (v = x) || ancN par v n (par x)
def anc (par : V → V) (dep : V → Nat) (v x : V) : Bool := ancN par v (dep x) x
theorem RT.anc_iff (t : RT P W r par dep len) {v x : V} (hx : x ∈ P) : anc par dep v x = true ↔ v = x ∨ (x ≠ r ∧ anc par dep v (par x) = true) := by
  unfold anc
  by_cases q : x = r
  · subst q
    rw [t.d0]
    simp [ancN]
  · rw [(t.up x hx q).2.1]
    simp [ancN, q]
theorem RT.anc_self (t : RT P W r par dep len) {x : V} (hx : x ∈ P) : anc par dep x x = true := (t.anc_iff hx).mpr (.inl rfl)
theorem RT.anc_dep (t : RT P W r par dep len) {v : V} : ∀ (n : Nat) (x : V), x ∈ P → dep x = n → anc par dep v x = true → v ∈ P ∧ dep v ≤ dep x ∧ (dep v = dep x → v = x) := by
  intro n
  induction n with
  | zero =>
    intro x hx h a
    rcases (t.anc_iff hx).mp a with e | ⟨q, _⟩
    · exact ⟨e ▸ hx, by rw [e]; exact Nat.le_refl _, fun _ => e⟩
    · exact absurd (t.dep0 hx h) q
  | succ n ih =>
    intro x hx h a
    rcases (t.anc_iff hx).mp a with e | ⟨q, a⟩
    · exact ⟨e ▸ hx, by rw [e]; exact Nat.le_refl _, fun _ => e⟩
    · have b := t.up x hx q
      obtain ⟨c1, c2, c3⟩ := ih (par x) b.1 (by omega) a
      exact ⟨c1, by omega, fun z => by omega⟩
theorem RT.anc_trans (t : RT P W r par dep len) {u v : V} : ∀ (n : Nat) (x : V), x ∈ P → dep x = n → anc par dep u v = true → anc par dep v x = true → anc par dep u x = true := by
  intro n
  induction n with
  | zero =>
    intro x hx h a b
    rcases (t.anc_iff hx).mp b with e | ⟨q, _⟩
    · exact e ▸ a
    · exact absurd (t.dep0 hx h) q
  | succ n ih =>
    intro x hx h a b
    rcases (t.anc_iff hx).mp b with e | ⟨q, b⟩
    · exact e ▸ a
    · have c := t.up x hx q
      exact (t.anc_iff hx).mpr (.inr ⟨q, ih (par x) c.1 (by omega) a b⟩)
theorem RT.anc_root (t : RT P W r par dep len) : ∀ (n : Nat) (x : V), x ∈ P → dep x = n → anc par dep r x = true := by
  intro n
  induction n with
  | zero => intro x hx h; rw [t.dep0 hx h]; exact t.anc_self t.root
  | succ n ih =>
    intro x hx h
    have q : x ≠ r := fun z => by rw [z, t.d0] at h; cases h
    have c := t.up x hx q
    exact (t.anc_iff hx).mpr (.inr ⟨q, ih (par x) c.1 (by omega)⟩)
/-- below v: v, or below a child of v -/
theorem RT.anc_child (t : RT P W r par dep len) {v : V} : ∀ (n : Nat) (x : V), x ∈ P → dep x = n → (anc par dep v x = true ↔ v = x ∨ ∃ c, c ∈ P ∧ c ≠ r ∧ par c = v ∧ anc par dep c x = true) := by
  intro n
  induction n with
  | zero =>
    intro x hx h
    have e := t.dep0 hx h
    constructor
    · intro a
      rcases (t.anc_iff hx).mp a with e' | ⟨q, _⟩
      · exact .inl e'
      · exact absurd e q
    · rintro (e' | ⟨c, h1, h2, h3, h4⟩)
      · exact e' ▸ t.anc_self (e' ▸ hx)
      · obtain ⟨_, d2, _⟩ := t.anc_dep 0 x hx h h4
        have := (t.up c h1 h2).2.1
        omega
  | succ n ih =>
    intro x hx h
    have q : x ≠ r := fun z => by rw [z, t.d0] at h; cases h
    have b := t.up x hx q
    constructor
    · intro a
      rcases (t.anc_iff hx).mp a with e | ⟨_, a⟩
      · exact .inl e
      · rcases (ih (par x) b.1 (by omega)).mp a with e | ⟨c, h1, h2, h3, h4⟩
        · exact .inr ⟨x, hx, q, e.symm, t.anc_self hx⟩
        · exact .inr ⟨c, h1, h2, h3, (t.anc_iff hx).mpr (.inr ⟨q, h4⟩)⟩
    · rintro (e | ⟨c, h1, h2, h3, h4⟩)
      · exact e ▸ t.anc_self (e ▸ hx)
      · rcases (t.anc_iff hx).mp h4 with e | ⟨_, h4⟩
        · refine (t.anc_iff hx).mpr (.inr ⟨q, ?_⟩)
          rw [← e, h3]
          exact t.anc_self (h3 ▸ (t.up c h1 h2).1)
        · exact (t.anc_iff hx).mpr (.inr ⟨q, (ih (par x) b.1 (by omega)).mpr (.inr ⟨c, h1, h2, h3, h4⟩)⟩)
/-- of two places above one, the lower lies below the other -/
theorem RT.anc_lin (t : RT P W r par dep len) {u v : V} : ∀ (n : Nat) (x : V), x ∈ P → dep x = n → anc par dep u x = true → anc par dep v x = true → dep u = dep v → u = v := by
  intro n
  induction n with
  | zero =>
    intro x hx h a b e
    have h1 := t.anc_dep 0 x hx h a
    have h2 := t.anc_dep 0 x hx h b
    rw [h1.2.2 (by omega), h2.2.2 (by omega)]
  | succ n ih =>
    intro x hx h a b e
    have q : x ≠ r := fun z => by rw [z, t.d0] at h; cases h
    have c := t.up x hx q
    have h1 := t.anc_dep _ x hx h a
    have h2 := t.anc_dep _ x hx h b
    rcases (t.anc_iff hx).mp a with e1 | ⟨_, a⟩
    · rw [e1]
      exact (h2.2.2 (by rw [← e, e1])).symm
    · rcases (t.anc_iff hx).mp b with e2 | ⟨_, b⟩
      · rw [e2]
        exact h1.2.2 (by rw [e, e2])
      · exact ih (par x) c.1 (by omega) a b e

/-! ### two views of one tree -/
theorem RT.side_below (t : RT P W r par dep len) (t' : RT P W s par' dep' len') {c : V} (hc : c ∈ P) (hcr : c ≠ r) (hps : par c ≠ s) (hp : par' (par c) = c) :
    ∀ (n : Nat) (x : V), dep' x = n → x ∈ P → anc par dep c x = true → dep' x ≤ dep' c → anc par dep c s = true := by
  intro n
  induction n with
  | zero => intro x h hx a _; rw [← t'.dep0 hx h]; exact a
  | succ n ih =>
    intro x h hx a hd
    have q : x ≠ s := fun z => by rw [z, t'.d0] at h; cases h
    have b := t'.up x hx q
    have hpc := (t.up c hc hcr).1
    have hadj : (par' x, len' x) ∈ near W x := (t'.adj x hx _ _).mpr (.inl ⟨q, rfl, rfl⟩)
    refine ih (par' x) (by omega) b.1 ?_ (by omega)
    rcases (t.adj x hx _ _).mp hadj with ⟨xr, e, _⟩ | ⟨y1, y2, e, _⟩
    · rcases (t.anc_iff hx).mp a with e1 | ⟨_, a⟩
      · subst e1
        have := (t'.up (par c) hpc hps).2.1
        rw [hp] at this
        rw [e] at b
        omega
      · rw [e]; exact a
    · exact (t.anc_iff b.1).mpr (.inr ⟨y2, by rw [e]; exact a⟩)
theorem RT.side_above (t : RT P W r par dep len) (t' : RT P W s par' dep' len') {c : V} (hc : c ∈ P) (hcs : c ≠ s) (hp : par' c = par c) :
    ∀ (n : Nat) (x : V), dep' x = n → x ∈ P → anc par dep c x = false → dep' x + 1 ≤ dep' c → anc par dep c s = false := by
  intro n
  induction n with
  | zero => intro x h hx a _; rw [← t'.dep0 hx h]; exact a
  | succ n ih =>
    intro x h hx a hd
    have q : x ≠ s := fun z => by rw [z, t'.d0] at h; cases h
    have b := t'.up x hx q
    have hadj : (par' x, len' x) ∈ near W x := (t'.adj x hx _ _).mpr (.inl ⟨q, rfl, rfl⟩)
    refine ih (par' x) (by omega) b.1 ?_ (by omega)
    cases e0 : anc par dep c (par' x) with
    | false => rfl
    | true =>
      rcases (t.adj x hx _ _).mp hadj with ⟨xr, e, _⟩ | ⟨y1, y2, e, _⟩
      · rw [e] at e0
        rw [(t.anc_iff hx).mpr (.inr ⟨xr, e0⟩)] at a
        cases a
      · rcases (t.anc_iff b.1).mp e0 with e1 | ⟨_, e1⟩
        · have : dep' c < dep' x := by rw [e1]; omega
          omega
        · rw [e, a] at e1
          cases e1
/-- how far it is to s, from c and from its parent -/
theorem RT.step (t : RT P W r par dep len) (t' : RT P W s par' dep' len') {c : V} (hc : c ∈ P) (hcr : c ≠ r) :
    dist par' dep' len' c = if anc par dep c s = true then dist par' dep' len' (par c) - len c else dist par' dep' len' (par c) + len c := by
  have hpc := (t.up c hc hcr)
  have hadj : (par c, len c) ∈ near W c := (t.adj c hc _ _).mpr (.inl ⟨hcr, rfl, rfl⟩)
  rcases (t'.adj c hc _ _).mp hadj with ⟨q, e, el⟩ | ⟨q1, q2, e, el⟩
  · have h := t'.up c hc q
    have na : anc par dep c (par c) = false := by
      cases e0 : anc par dep c (par c) with
      | false => rfl
      | true =>
        have := (t.anc_dep _ _ hpc.1 rfl e0).2.1
        omega
    have f := t.side_above t' hc q e.symm _ (par c) rfl hpc.1 na (by rw [e]; omega)
    rw [f, if_neg (by decide), t'.dist_up hc q, ← e, el]
  · have f := t.side_below t' hc hcr q2 e _ c rfl hc (t.anc_self hc) (Nat.le_refl _)
    rw [f, if_pos rfl, t'.dist_up q1 q2, e, el]
    omega
end tree
end OH

/-! Plain mathematics: numbers with None, tables, what is due, the bound. -/
namespace OH
def plus : Option Int → Option Int → Option Int
  | some a, some b => some (a + b)
  | _, _ => none
def lesser : Option Int → Option Int → Option Int
  | none, b => b
  | some a, some b => if b < a then some b else some a
  | some a, none => some a
def leB : Option Int → Option Int → Bool
  | _, none => true
  | none, some _ => false
  | some a, some b => decide (a ≤ b)
abbrev LeO (a b : Option Int) : Prop := leB a b = true
theorem leO_none (a : Option Int) : LeO a none := by cases a <;> rfl
theorem leO_some {a b : Int} : LeO (some a) (some b) ↔ a ≤ b := by show decide (a ≤ b) = true ↔ _; exact decide_eq_true_iff
theorem leO_refl (a : Option Int) : LeO a a := by
  cases a with
  | none => rfl
  | some a => exact leO_some.mpr (Int.le_refl a)
theorem leO_trans {a b c : Option Int} (h : LeO a b) (k : LeO b c) : LeO a c := by
  cases c with
  | none => exact leO_none a
  | some c => cases b with
    | none => cases k
    | some b => cases a with
      | none => cases h
      | some a => exact leO_some.mpr (Int.le_trans (leO_some.mp h) (leO_some.mp k))
theorem lesser_left (a b : Option Int) : LeO (lesser a b) a := by
  cases a with
  | none => exact leO_none _
  | some a => cases b with
    | none => exact leO_refl _
    | some b =>
      show LeO (if b < a then some b else some a) (some a)
      by_cases h : b < a
      · rw [if_pos h]; exact leO_some.mpr (by omega)
      · rw [if_neg h]; exact leO_refl _
theorem lesser_right (a b : Option Int) : LeO (lesser a b) b := by
  cases a with
  | none => exact leO_refl _
  | some a => cases b with
    | none => exact leO_none _
    | some b =>
      show LeO (if b < a then some b else some a) (some b)
      by_cases h : b < a
      · rw [if_pos h]; exact leO_refl _
      · rw [if_neg h]; exact leO_some.mpr (by omega)
theorem lesser_or (a b : Option Int) : lesser a b = a ∨ lesser a b = b := by
  cases a with
  | none => exact .inr rfl
  | some a => cases b with
    | none => exact .inl rfl
    | some b =>
      show (if b < a then some b else some a) = _ ∨ _
      by_cases h : b < a
      · rw [if_pos h]; exact .inr (by rw [show lesser (some a) (some b) = (if b < a then some b else some a) from rfl, if_pos h])
      · rw [if_neg h]; exact .inl rfl
theorem plus_le {a b : Option Int} {x y : Int} (h : LeO a (some x)) (k : LeO b (some y)) : LeO (plus a b) (some (x + y)) := by
  cases a with
  | none => cases h
  | some a => cases b with
    | none => cases k
    | some b =>
      have h1 := leO_some.mp h
      have h2 := leO_some.mp k
      exact leO_some.mpr (by omega)
/-- none below nought -/
def NN (a : Option Int) : Prop := ∀ x, a = some x → 0 ≤ x
theorem nn_none : NN none := fun _ h => by cases h
theorem nn_some {x : Int} (h : 0 ≤ x) : NN (some x) := fun y e => by cases e; exact h
theorem nn_plus {a b : Option Int} (h : NN a) (k : NN b) : NN (plus a b) := by
  cases a with
  | none => exact nn_none
  | some a => cases b with
    | none => exact nn_none
    | some b => exact nn_some (by have := h a rfl; have := k b rfl; omega)
theorem nn_lesser {a b : Option Int} (h : NN a) (k : NN b) : NN (lesser a b) := by
  rcases lesser_or a b with e | e <;> rw [e] <;> assumption

def minL (f : Nat → Option Int) : Nat → Option Int
  | 0 => none
  | n + 1 => lesser (minL f n) (f n)
theorem minL_le (f : Nat → Option Int) : ∀ (n i : Nat), i < n → LeO (minL f n) (f i)
  | n + 1, i, h => by
    by_cases e : i = n
    · rw [e]; exact lesser_right _ _
    · exact leO_trans (lesser_left _ _) (minL_le f n i (by omega))
theorem minL_nn {f : Nat → Option Int} : ∀ (n : Nat), (∀ i, i < n → NN (f i)) → NN (minL f n)
  | 0, _ => nn_none
  | n + 1, h => nn_lesser (minL_nn n fun i hi => h i (by omega)) (h n (by omega))
theorem minL_congr {f g : Nat → Option Int} : ∀ (n : Nat), (∀ i, i < n → f i = g i) → minL f n = minL g n
  | 0, _ => rfl
  | n + 1, h => by
    show lesser (minL f n) (f n) = lesser (minL g n) (g n)
    rw [minL_congr n fun i hi => h i (by omega), h n (by omega)]

section table
variable {V : Type} [DecidableEq V]

def begunStep (und : V → V → Bool) (num : V → V → Nat → Option Int) (p : V) (h : Nat) (acc : Option Int) (sc : V × Int) : Option Int :=
  if und p sc.1 = true then lesser acc (plus (some sc.2) (num p sc.1 (h - 1))) else acc
def begun (sites : List (V × Int)) (und : V → V → Bool) (num : V → V → Nat → Option Int) (p : V) (h : Nat) : Option Int :=
  if h = 0 then none else sites.foldl (begunStep und num p h) none
def handed (sites : List (V × Int)) (und : V → V → Bool) (num : V → V → Nat → Option Int) (c s : V) (m : Nat) : Option Int :=
  if und c s = true then num c s m else lesser (num c s m) (begun sites und num c m)
def withChild (sites : List (V × Int)) (und : V → V → Bool) (num : V → V → Nat → Option Int) (s : V) (ahead : Nat → Option Int) (c : V) : Nat → Option Int :=
  fun h => minL (fun part => plus (ahead (h - part)) (handed sites und num c s part)) (h + 1)
def row0 : Nat → Option Int := fun h => if h = 0 then some 0 else none
def sumsF (sites : List (V × Int)) (und : V → V → Bool) (num : V → V → Nat → Option Int) (kids : List V) (s : V) : Nat → Option Int :=
  kids.foldl (withChild sites und num s) row0
def due (sites : List (V × Int)) (und : V → V → Bool) (num : V → V → Nat → Option Int) (kids : V → List V) (many : V → Int) (far : V → V → Int) (v s : V) (m : Nat) : Option Int :=
  plus (some (many v * far s v)) (sumsF sites und num (kids v) s m)
def lowest (sites : List (V × Int)) (und : V → V → Bool) (num : V → V → Nat → Option Int) (r : V) (R : Nat) : Option Int :=
  minL (fun i => begun sites und num r (i + 1)) R
def judged (P : List V) (sites : List (V × Int)) (R : Nat) (num due : V → V → Nat → Option Int) : Bool :=
  P.all fun p => sites.all fun sc => (List.range R).all fun m => leB (num p sc.1 m) (due p sc.1 m)
theorem judged_iff {P : List V} {sites : List (V × Int)} {R : Nat} {num due : V → V → Nat → Option Int} : judged P sites R num due = true ↔ ∀ p ∈ P, ∀ sc ∈ sites, ∀ m, m < R → LeO (num p sc.1 m) (due p sc.1 m) := by
  unfold judged
  rw [List.all_eq_true]
  constructor
  · intro h p hp sc hs m hm
    exact List.all_eq_true.mp (List.all_eq_true.mp (h p hp) sc hs) m (List.mem_range.mpr hm)
  · intro h p hp
    exact List.all_eq_true.mpr fun sc hs => List.all_eq_true.mpr fun m hm => h p hp sc hs m (List.mem_range.mp hm)

variable {sites : List (V × Int)} {und : V → V → Bool} {num num' : V → V → Nat → Option Int} {kids : V → List V} {many : V → Int} {far : V → V → Int}

theorem fold_le {α : Type} (g : Option Int → α → Option Int) (hg : ∀ acc x, LeO (g acc x) acc) : ∀ (l : List α) (acc : Option Int), LeO (l.foldl g acc) acc
  | [], acc => leO_refl acc
  | x :: l, acc => leO_trans (fold_le g hg l (g acc x)) (hg acc x)
theorem fold_mem {α : Type} (g : Option Int → α → Option Int) (hg : ∀ acc x, LeO (g acc x) acc) {y : Option Int} : ∀ (l : List α) (acc : Option Int) (x : α), x ∈ l → (∀ acc, LeO (g acc x) y) → LeO (l.foldl g acc) y
  | a :: l, acc, x, hx, h => by
    rcases List.mem_cons.mp hx with e | hx
    · rw [← e]
      exact leO_trans (fold_le g hg l (g acc x)) (h acc)
    · exact fold_mem g hg l (g acc a) x hx h
theorem begunStep_le (p : V) (h : Nat) (acc : Option Int) (sc : V × Int) : LeO (begunStep und num p h acc sc) acc := by
  unfold begunStep
  by_cases q : und p sc.1 = true
  · rw [if_pos q]; exact lesser_left _ _
  · rw [if_neg q]; exact leO_refl _
theorem begun_le {p : V} {h : Nat} {sc : V × Int} (hs : sc ∈ sites) (hu : und p sc.1 = true) : LeO (begun sites und num p (h + 1)) (plus (some sc.2) (num p sc.1 h)) := by
  unfold begun
  rw [if_neg (by omega)]
  refine fold_mem _ (begunStep_le p (h + 1)) sites none sc hs fun acc => ?_
  unfold begunStep
  rw [if_pos hu]
  exact lesser_right _ _
theorem fold_nn {α : Type} (g : Option Int → α → Option Int) : ∀ (l : List α) (acc : Option Int), NN acc → (∀ acc x, x ∈ l → NN acc → NN (g acc x)) → NN (l.foldl g acc)
  | [], acc, h, _ => h
  | x :: l, acc, h, hg => fold_nn g l (g acc x) (hg acc x List.mem_cons_self h) fun acc y hy => hg acc y (List.mem_cons_of_mem _ hy)
theorem begun_nn (hc : ∀ sc ∈ sites, 0 ≤ sc.2) {p : V} {h : Nat} (hn : ∀ sc ∈ sites, ∀ m, m + 1 = h → NN (num p sc.1 m)) : NN (begun sites und num p h) := by
  unfold begun
  by_cases q : h = 0
  · rw [if_pos q]; exact nn_none
  · rw [if_neg q]
    refine fold_nn _ _ _ nn_none fun acc x hx ha => ?_
    unfold begunStep
    by_cases u : und p x.1 = true
    · rw [if_pos u]
      exact nn_lesser ha (nn_plus (nn_some (hc x hx)) (hn x hx (h - 1) (by omega)))
    · rw [if_neg u]; exact ha
theorem handed_nn (hc : ∀ sc ∈ sites, 0 ≤ sc.2) {c s : V} {m : Nat} (h0 : NN (num c s m)) (hn : ∀ sc ∈ sites, ∀ k, k + 1 = m → NN (num c sc.1 k)) : NN (handed sites und num c s m) := by
  unfold handed
  by_cases u : und c s = true
  · rw [if_pos u]; exact h0
  · rw [if_neg u]
    exact nn_lesser h0 (begun_nn hc hn)
theorem sums_nn_aux (hc : ∀ sc ∈ sites, 0 ≤ sc.2) {s : V} {M : Nat} : ∀ (ks : List V) (ahead : Nat → Option Int), (∀ c ∈ ks, ∀ m, m ≤ M → NN (num c s m)) → (∀ c ∈ ks, ∀ sc ∈ sites, ∀ m, m ≤ M → NN (num c sc.1 m)) → (∀ m, m ≤ M → NN (ahead m)) → ∀ m, m ≤ M → NN (ks.foldl (withChild sites und num s) ahead m)
  | [], ahead, _, _, h => h
  | c :: ks, ahead, h1, h2, h => by
    refine sums_nn_aux hc ks _ (fun x hx => h1 x (List.mem_cons_of_mem _ hx)) (fun x hx => h2 x (List.mem_cons_of_mem _ hx)) fun m hm => ?_
    refine minL_nn _ fun i hi => nn_plus (h _ (by omega)) (handed_nn hc (h1 c List.mem_cons_self i (by omega)) fun sc hs k hk => h2 c List.mem_cons_self sc hs k (by omega))
theorem row0_nn (m : Nat) : NN (row0 m) := by
  unfold row0
  by_cases q : m = 0
  · rw [if_pos q]; exact nn_some (Int.le_refl 0)
  · rw [if_neg q]; exact nn_none
theorem due_nn (hc : ∀ sc ∈ sites, 0 ≤ sc.2) {v s : V} {M : Nat} (hm : 0 ≤ many v) (hf : 0 ≤ far s v) (h1 : ∀ c ∈ kids v, ∀ m, m ≤ M → NN (num c s m)) (h2 : ∀ c ∈ kids v, ∀ sc ∈ sites, ∀ m, m ≤ M → NN (num c sc.1 m)) : NN (due sites und num kids many far v s M) :=
  nn_plus (nn_some (Int.mul_nonneg hm hf)) (sums_nn_aux hc _ _ h1 h2 (fun m _ => row0_nn m) M (Nat.le_refl M))

/-! what is due hangs on the numbers of the children alone -/
theorem begun_congr {p : V} {h : Nat} (e : ∀ sc ∈ sites, ∀ m, m + 1 = h → num p sc.1 m = num' p sc.1 m) : begun sites und num p h = begun sites und num' p h := by
  unfold begun
  by_cases q : h = 0
  · rw [if_pos q, if_pos q]
  · rw [if_neg q, if_neg q]
    have : ∀ (l : List (V × Int)) (acc : Option Int), (∀ sc ∈ l, sc ∈ sites) → l.foldl (begunStep und num p h) acc = l.foldl (begunStep und num' p h) acc := by
      intro l
      induction l with
      | nil => intro acc _; rfl
      | cons x l ih =>
        intro acc hl
        rw [List.foldl_cons, List.foldl_cons, ih _ fun sc hs => hl sc (List.mem_cons_of_mem _ hs)]
        congr 1
        unfold begunStep
        rw [e x (hl x List.mem_cons_self) (h - 1) (by omega)]
    exact this sites none fun _ h => h
theorem handed_congr {c s : V} {m : Nat} (h0 : num c s m = num' c s m) (e : ∀ sc ∈ sites, ∀ k, k + 1 = m → num c sc.1 k = num' c sc.1 k) : handed sites und num c s m = handed sites und num' c s m := by
  unfold handed
  rw [h0, begun_congr e]
theorem sums_congr {s : V} {M : Nat} : ∀ (ks : List V) (ahead : Nat → Option Int) (ahead' : Nat → Option Int), (∀ c ∈ ks, ∀ m, m ≤ M → num c s m = num' c s m) → (∀ c ∈ ks, ∀ sc ∈ sites, ∀ m, m ≤ M → num c sc.1 m = num' c sc.1 m) → (∀ m, m ≤ M → ahead m = ahead' m) →
    ∀ m, m ≤ M → ks.foldl (withChild sites und num s) ahead m = ks.foldl (withChild sites und num' s) ahead' m
  | [], _, _, _, _, h => h
  | c :: ks, ahead, ahead', h1, h2, h => by
    refine sums_congr ks _ _ (fun x hx => h1 x (List.mem_cons_of_mem _ hx)) (fun x hx => h2 x (List.mem_cons_of_mem _ hx)) fun m hm => ?_
    unfold withChild
    refine minL_congr _ fun i hi => ?_
    rw [h (m - i) (by omega), handed_congr (h1 c List.mem_cons_self i (by omega)) fun sc hs k hk => h2 c List.mem_cons_self sc hs k (by omega)]
theorem due_congr {v s : V} {M : Nat} (h1 : ∀ c ∈ kids v, ∀ m, m ≤ M → num c s m = num' c s m) (h2 : ∀ c ∈ kids v, ∀ sc ∈ sites, ∀ m, m ≤ M → num c sc.1 m = num' c sc.1 m) : due sites und num kids many far v s M = due sites und num' kids many far v s M := by
  unfold due sumsF
  rw [sums_congr (kids v) row0 row0 h1 h2 (fun _ _ => rfl) M (Nat.le_refl M)]

/-! any share of the houses is no less -/
theorem sums_le {s : V} {n : V → Nat} {y : V → Int} : ∀ (ks : List V) (ahead : Nat → Option Int) (M : Nat) (x : Int), LeO (ahead M) (some x) → (∀ c ∈ ks, LeO (handed sites und num c s (n c)) (some (y c))) →
    LeO (ks.foldl (withChild sites und num s) ahead (M + (ks.map n).sum)) (some (x + (ks.map y).sum))
  | [], ahead, M, x, h, _ => by simpa using h
  | c :: ks, ahead, M, x, h, hy => by
    rw [List.foldl_cons, List.map_cons, List.map_cons, List.sum_cons, List.sum_cons]
    have e1 : M + (n c + (ks.map n).sum) = (M + n c) + (ks.map n).sum := by omega
    have e2 : x + (y c + (ks.map y).sum) = (x + y c) + (ks.map y).sum := by omega
    rw [e1, e2]
    refine sums_le ks _ (M + n c) (x + y c) ?_ fun a ha => hy a (List.mem_cons_of_mem _ ha)
    unfold withChild
    refine leO_trans (minL_le _ _ (n c) (by omega)) ?_
    show LeO (plus (ahead (M + n c - n c)) _) _
    rw [show M + n c - n c = M by omega]
    exact plus_le h (hy c List.mem_cons_self)

/-! ### sums -/
theorem sum_zero {α : Type} {f : α → Int} : ∀ (l : List α), (∀ x ∈ l, f x = 0) → (l.map f).sum = 0
  | [], _ => rfl
  | a :: l, h => by rw [List.map_cons, List.sum_cons, h a List.mem_cons_self, sum_zero l fun x hx => h x (List.mem_cons_of_mem _ hx)]; rfl
theorem sum_single {f : V → Int} {c : V} : ∀ (l : List V), l.Nodup → c ∈ l → (∀ x ∈ l, x ≠ c → f x = 0) → (l.map f).sum = f c
  | a :: l, hn, hc, h => by
    obtain ⟨h1, h2⟩ := List.nodup_cons.mp hn
    rw [List.map_cons, List.sum_cons]
    rcases List.mem_cons.mp hc with e | hc
    · rw [← e, sum_zero l fun x hx => h x (List.mem_cons_of_mem _ hx) fun z => h1 (by rw [← e, ← z]; exact hx)]
      omega
    · rw [h a List.mem_cons_self fun z => h1 (z ▸ hc), sum_single l h2 hc fun x hx => h x (List.mem_cons_of_mem _ hx)]
      omega
theorem sum_add {α : Type} {f g : α → Int} : ∀ (l : List α), (l.map fun x => f x + g x).sum = (l.map f).sum + (l.map g).sum
  | [] => rfl
  | a :: l => by rw [List.map_cons, List.map_cons, List.map_cons, List.sum_cons, List.sum_cons, List.sum_cons, sum_add l]; omega
theorem sum_swap {α β : Type} {f : α → β → Int} (ks : List β) : ∀ (l : List α), (l.map fun x => (ks.map fun c => f x c).sum).sum = (ks.map fun c => (l.map fun x => f x c).sum).sum
  | [] => by
    rw [List.map_nil]
    exact (sum_zero ks fun _ _ => rfl).symm
  | a :: l => by
    rw [List.map_cons, List.sum_cons, sum_swap ks l, ← sum_add]
    rfl
theorem sum_congr {α : Type} {f g : α → Int} (l : List α) (h : ∀ x ∈ l, f x = g x) : (l.map f).sum = (l.map g).sum := by rw [List.map_congr_left h]

/-! ### the nearest open house -/
theorem lex_min (f : V → Int) (g : V → Nat) : ∀ (l : List V), l ≠ [] → ∃ t ∈ l, ∀ u ∈ l, f t < f u ∨ (f t = f u ∧ g t ≤ g u)
  | [a], _ => ⟨a, List.mem_singleton.mpr rfl, fun u hu => by rw [List.mem_singleton.mp hu]; exact .inr ⟨rfl, Nat.le_refl _⟩⟩
  | a :: b :: l, _ => by
    obtain ⟨t, ht, h⟩ := lex_min f g (b :: l) (by simp)
    by_cases q : f a < f t ∨ (f a = f t ∧ g a ≤ g t)
    · refine ⟨a, List.mem_cons_self, fun u hu => ?_⟩
      rcases List.mem_cons.mp hu with e | hu
      · rw [e]; exact .inr ⟨rfl, Nat.le_refl _⟩
      · have := h u hu
        omega
    · refine ⟨t, List.mem_cons_of_mem _ ht, fun u hu => ?_⟩
      rcases List.mem_cons.mp hu with e | hu
      · rw [e]
        omega
      · exact h u hu
def listMin : List Int → Int
  | [] => 0
  | [a] => a
  | a :: b :: l => min a (listMin (b :: l))
theorem listMin_spec : ∀ (l : List Int), l ≠ [] → listMin l ∈ l ∧ ∀ x ∈ l, listMin l ≤ x
  | [a], _ => ⟨List.mem_singleton.mpr rfl, fun x hx => by rw [List.mem_singleton.mp hx]; exact Int.le_refl _⟩
  | a :: b :: l, _ => by
    obtain ⟨h1, h2⟩ := listMin_spec (b :: l) (by simp)
    show min a (listMin (b :: l)) ∈ _ ∧ ∀ x ∈ _, min a (listMin (b :: l)) ≤ x
    constructor
    · by_cases q : a ≤ listMin (b :: l)
      · rw [Int.min_eq_left q]; exact List.mem_cons_self
      · rw [Int.min_eq_right (by omega)]; exact List.mem_cons_of_mem _ h1
    · intro x hx
      rcases List.mem_cons.mp hx with e | hx
      · rw [e]; exact Int.min_le_left _ _
      · exact Int.le_trans (Int.min_le_right _ _) (h2 x hx)
theorem listMin_eq {l : List Int} {m : Int} (h : m ∈ l) (k : ∀ x ∈ l, m ≤ x) : listMin l = m := by
  obtain ⟨h1, h2⟩ := listMin_spec l (List.ne_nil_of_mem h)
  exact Int.le_antisymm (h2 m h) (k _ h1)

/-- the children of a place, in the places' order -/
def kidsOf (P : List V) (r : V) (par : V → V) (v : V) : List V := P.filter fun u => decide (u ≠ r ∧ par u = v)
theorem mem_kids {P : List V} {r : V} {par : V → V} {v u : V} : u ∈ kidsOf P r par v ↔ u ∈ P ∧ u ≠ r ∧ par u = v := by
  unfold kidsOf
  rw [List.mem_filter, decide_eq_true_iff]
def manyOf (folk : List (V × Int)) (v : V) : Int := (folk.lookup v).getD 0

section dp
variable {P : List V} {W : List (V × V × Int)} {r : V} {par : V → V} {dep : V → Nat} {len : V → Int} {O : List V} {folk : List (V × Int)} {a : V → V}

/-- how far, as the bound asks it -/
structure FarOk (P : List V) (r : V) (par : V → V) (dep : V → Nat) (len : V → Int) (far : V → V → Int) : Prop where
  zero : ∀ s ∈ P, far s s = 0
  pos : ∀ s ∈ P, ∀ x ∈ P, x ≠ s → 1 ≤ far s x
  step : ∀ s ∈ P, ∀ c ∈ P, c ≠ r → far s c = if anc par dep c s = true then far s (par c) - len c else far s (par c) + len c
/-- each place goes to a nearest open house, ties by a number of the house -/
structure Goes (P O : List V) (far : V → V → Int) (g : V → Nat) (a : V → V) : Prop where
  mem : ∀ v ∈ P, a v ∈ O
  least : ∀ v ∈ P, ∀ u ∈ O, far (a v) v < far u v ∨ (far (a v) v = far u v ∧ g (a v) ≤ g u)
  inj : ∀ u ∈ O, ∀ t ∈ O, g u = g t → u = t
theorem Goes.only {g : V → Nat} (G : Goes P O far g a) {v t : V} (hv : v ∈ P) (ht : t ∈ O) (h : ∀ u ∈ O, far t v < far u v ∨ (far t v = far u v ∧ g t ≤ g u)) : a v = t := by
  have h1 := G.least v hv t ht
  have h2 := h (a v) (G.mem v hv)
  exact G.inj _ (G.mem v hv) t ht (by omega)
theorem Goes.at {g : V → Nat} (G : Goes P O far g a) (F : FarOk P r par dep len far) (hO : ∀ t ∈ O, t ∈ P) {v : V} (hv : v ∈ O) : a v = v := by
  refine G.only (hO v hv) hv fun u hu => ?_
  rw [F.zero v (hO v hv)]
  by_cases q : v = u
  · subst q
    rw [F.zero v (hO v hv)]
    exact .inr ⟨rfl, Nat.le_refl _⟩
  · have := F.pos u (hO u hu) v (hO v hv) q
    omega
/-- where a parent goes to a house below its child, so does the child -/
theorem Goes.down {g : V → Nat} (G : Goes P O far g a) (T : RT P W r par dep len) (F : FarOk P r par dep len far) (hO : ∀ t ∈ O, t ∈ P) {c : V} (hc : c ∈ P) (hr : c ≠ r) (h : anc par dep c (a (par c)) = true) : a c = a (par c) := by
  have hp := (T.up c hc hr).1
  refine G.only hc (G.mem _ hp) fun u hu => ?_
  have h0 := G.least _ hp u hu
  have e1 := F.step _ (hO _ (G.mem _ hp)) c hc hr
  have e2 := F.step u (hO u hu) c hc hr
  have hl := (T.up c hc hr).2.2.1
  rw [if_pos h] at e1
  by_cases q : anc par dep c u = true
  · rw [if_pos q] at e2; omega
  · rw [if_neg q] at e2; omega
/-- where a child goes to a house that is not below it, so does its parent -/
theorem Goes.out {g : V → Nat} (G : Goes P O far g a) (T : RT P W r par dep len) (F : FarOk P r par dep len far) (hO : ∀ t ∈ O, t ∈ P) {c : V} (hc : c ∈ P) (hr : c ≠ r) (h : ¬ anc par dep c (a c) = true) : a (par c) = a c := by
  have hp := (T.up c hc hr).1
  refine G.only hp (G.mem _ hc) fun u hu => ?_
  have h0 := G.least _ hc u hu
  have e1 := F.step _ (hO _ (G.mem _ hc)) c hc hr
  have e2 := F.step u (hO u hu) c hc hr
  have hl := (T.up c hc hr).2.2.1
  rw [if_neg h] at e1
  by_cases q : anc par dep c u = true
  · rw [if_pos q] at e2; omega
  · rw [if_neg q] at e2; omega

/-- the sum over what is below v: v itself, then child by child -/
theorem RT.split (T : RT P W r par dep len) (hn : P.Nodup) {v : V} (f : V → Int) {t : V} (ht : t ∈ P) :
    (if anc par dep v t = true then f t else 0) = (if v = t then f t else 0) + ((kidsOf P r par v).map fun c => if anc par dep c t = true then f t else 0).sum := by
  have hk : (kidsOf P r par v).Nodup := hn.filter _
  have hi := T.anc_child (v := v) (dep t) t ht rfl
  by_cases e : v = t
  · rw [if_pos (hi.mpr (.inl e)), if_pos e, sum_zero _ fun c hc => ?_]
    · omega
    · obtain ⟨h1, h2, h3⟩ := mem_kids.mp hc
      refine if_neg fun z => ?_
      have := (T.anc_dep _ t ht rfl z).2.1
      have := (T.up c h1 h2).2.1
      rw [h3, e] at this
      omega
  · rw [if_neg e]
    by_cases q : anc par dep v t = true
    · rw [if_pos q]
      rcases hi.mp q with z | ⟨c, h1, h2, h3, h4⟩
      · exact absurd z e
      · rw [sum_single _ hk (mem_kids.mpr ⟨h1, h2, h3⟩) fun x hx hne => ?_]
        · rw [if_pos h4]; omega
        · obtain ⟨k1, k2, k3⟩ := mem_kids.mp hx
          refine if_neg fun z => hne ?_
          refine T.anc_lin _ t ht rfl z h4 ?_
          rw [(T.up x k1 k2).2.1, (T.up c h1 h2).2.1, k3, h3]
    · rw [if_neg q, sum_zero _ fun c hc => ?_]
      · rfl
      · obtain ⟨h1, h2, h3⟩ := mem_kids.mp hc
        exact if_neg fun z => q (hi.mpr (.inr ⟨c, h1, h2, h3, z⟩))
/-- the sum of f over those of l that are below v -/
def below (par : V → V) (dep : V → Nat) (l : List V) (f : V → Int) (v : V) : Int := (l.map fun t => if anc par dep v t = true then f t else 0).sum
theorem RT.below_split (T : RT P W r par dep len) (hn : P.Nodup) {l : List V} (hl : ∀ t ∈ l, t ∈ P) (f : V → Int) (v : V) :
    below par dep l f v = (l.map fun t => if v = t then f t else 0).sum + ((kidsOf P r par v).map fun c => below par dep l f c).sum := by
  unfold below
  rw [← sum_swap, ← sum_add]
  exact sum_congr _ fun t ht => T.split hn f (hl t ht)
theorem RT.below_places (T : RT P W r par dep len) (hn : P.Nodup) (f : V → Int) {v : V} (hv : v ∈ P) : below par dep P f v = f v + ((kidsOf P r par v).map fun c => below par dep P f c).sum := by
  rw [T.below_split hn (fun _ h => h) f v, sum_single P hn hv fun x hx hne => if_neg (Ne.symm hne), if_pos rfl]

/-- the weight of the open houses below v, but the one that v goes to -/
def others (par : V → V) (dep : V → Nat) (O : List V) (a : V → V) (wt : V → Int) (v : V) : Int := below par dep O (fun t => if t = a v then 0 else wt t) v
theorem others_split {g : V → Nat} (G : Goes P O far g a) (T : RT P W r par dep len) (F : FarOk P r par dep len far) (hn : P.Nodup) (hO : ∀ t ∈ O, t ∈ P) (hOn : O.Nodup) (wt : V → Int) {v : V} (hv : v ∈ P) :
    others par dep O a wt v = ((kidsOf P r par v).map fun c => if a c = a v then others par dep O a wt c else others par dep O a wt c + wt (a c)).sum := by
  unfold others
  rw [T.below_split hn hO, sum_zero O fun t ht => ?_, Int.zero_add]
  · refine sum_congr _ fun c hc => ?_
    obtain ⟨h1, h2, h3⟩ := mem_kids.mp hc
    by_cases e : a c = a v
    · rw [if_pos e, e]
    · rw [if_neg e]
      have hd : ¬ anc par dep c (a v) = true := fun z => e (by rw [← h3] at z ⊢; exact G.down T F hO h1 h2 z)
      have ho : anc par dep c (a c) = true := by
        by_cases z : anc par dep c (a c) = true
        · exact z
        · exact absurd (by rw [← h3]; exact (G.out T F hO h1 h2 z).symm) e
      unfold below
      have hm := G.mem c h1
      have e1 : wt (a c) = (O.map fun t => if t = a c then wt (a c) else 0).sum := by
        rw [sum_single O hOn hm fun x hx hne => if_neg hne, if_pos rfl]
      rw [e1, ← sum_add]
      refine sum_congr _ fun t ht => ?_
      dsimp only
      by_cases q : t = a c
      · subst q
        rw [if_pos ho, if_pos ho, if_neg e, if_pos rfl, if_pos rfl, Int.zero_add]
      · rw [if_neg q, if_neg q, Int.add_zero]
        by_cases z : anc par dep c t = true
        · rw [if_pos z, if_pos z]
          exact if_neg fun (y : t = a v) => hd (by rw [← y]; exact z)
        · rw [if_neg z, if_neg z]
  · by_cases e : v = t
    · rw [if_pos e]
      refine if_pos ?_
      rw [e, G.at F hO ht]
    · exact if_neg e

theorem sum_nat_cast {α : Type} {f : α → Nat} : ∀ (l : List α), ((l.map f).sum : Int) = (l.map fun x => (f x : Int)).sum
  | [] => rfl
  | a :: l => by rw [List.map_cons, List.map_cons, List.sum_cons, List.sum_cons, Int.natCast_add, sum_nat_cast l]
theorem sum_nonneg {α : Type} {f : α → Int} : ∀ (l : List α), (∀ x ∈ l, 0 ≤ f x) → 0 ≤ (l.map f).sum
  | [], _ => Int.le_refl 0
  | a :: l, h => by
    rw [List.map_cons, List.sum_cons]
    have := h a List.mem_cons_self
    have := sum_nonneg l fun x hx => h x (List.mem_cons_of_mem _ hx)
    omega
theorem sum_le {α : Type} {f g : α → Int} : ∀ (l : List α), (∀ x ∈ l, f x ≤ g x) → (l.map f).sum ≤ (l.map g).sum
  | [], _ => Int.le_refl 0
  | a :: l, h => by
    rw [List.map_cons, List.map_cons, List.sum_cons, List.sum_cons]
    have := h a List.mem_cons_self
    have := sum_le l fun x hx => h x (List.mem_cons_of_mem _ hx)
    omega
theorem sum_one {α : Type} : ∀ (l : List α), (l.map fun _ => (1 : Int)).sum = l.length
  | [] => rfl
  | a :: l => by rw [List.map_cons, List.sum_cons, sum_one l, List.length_cons]; omega
theorem others_nonneg (wt : V → Int) (h : ∀ t ∈ O, 0 ≤ wt t) (v : V) : 0 ≤ others par dep O a wt v := by
  unfold others below
  refine sum_nonneg _ fun t ht => ?_
  dsimp only
  by_cases z : anc par dep v t = true
  · rw [if_pos z]
    by_cases q : t = a v
    · rw [if_pos q]; exact Int.le_refl 0
    · rw [if_neg q]; exact h t ht
  · rw [if_neg z]; exact Int.le_refl 0
/-- how many -/
def cnt (par : V → V) (dep : V → Nat) (O : List V) (a : V → V) (v : V) : Nat := (others par dep O a (fun _ => 1) v).toNat
theorem cnt_eq (v : V) : (cnt par dep O a v : Int) = others par dep O a (fun _ => 1) v := Int.toNat_of_nonneg (others_nonneg _ (fun _ _ => by decide) v)
theorem others_all (hOn : O.Nodup) (wt : V → Int) {v : V} (hm : a v ∈ O) (h : ∀ t ∈ O, anc par dep v t = true) : others par dep O a wt v + wt (a v) = (O.map wt).sum := by
  have e1 : wt (a v) = (O.map fun t => if t = a v then wt (a v) else 0).sum := by
    rw [sum_single O hOn hm fun x hx hne => if_neg hne, if_pos rfl]
  unfold others below
  rw [e1, ← sum_add]
  refine sum_congr _ fun t ht => ?_
  dsimp only
  rw [if_pos (h t ht)]
  by_cases q : t = a v
  · rw [if_pos q, if_pos q, q, Int.zero_add]
  · rw [if_neg q, if_neg q, Int.add_zero]
theorem cnt_lt (hOn : O.Nodup) {v : V} (hm : a v ∈ O) : cnt par dep O a v < O.length := by
  have e := cnt_eq (par := par) (dep := dep) (O := O) (a := a) v
  have e1 : (1 : Int) = (O.map fun t => if t = a v then (1 : Int) else 0).sum := by
    rw [sum_single O hOn hm fun x hx hne => if_neg hne, if_pos rfl]
  have h : others par dep O a (fun _ => 1) v + 1 ≤ (O.map fun _ => (1 : Int)).sum := by
    unfold others below
    conv => lhs; rhs; rw [e1]
    rw [← sum_add]
    refine sum_le _ fun t _ => ?_
    dsimp only
    by_cases q : t = a v
    · rw [if_pos q, if_pos q]
      by_cases z : anc par dep v t = true
      · rw [if_pos z]; decide
      · rw [if_neg z]; decide
    · rw [if_neg q, if_neg q]
      by_cases z : anc par dep v t = true
      · rw [if_pos z]; decide
      · rw [if_neg z]; decide
  rw [sum_one] at h
  omega

/-- what the folk below v pay, and the other houses below -/
def pays (P : List V) (par : V → V) (dep : V → Nat) (O : List V) (far : V → V → Int) (many costOf : V → Int) (a : V → V) (v : V) : Int :=
  below par dep P (fun x => many x * far (a x) x) v + others par dep O a costOf v

theorem bound_at {g : V → Nat} {costOf : V → Int} {R : Nat} (G : Goes P O far g a) (T : RT P W r par dep len) (F : FarOk P r par dep len far) (hn : P.Nodup) (hO : ∀ t ∈ O, t ∈ P) (hOn : O.Nodup) (hOR : O.length ≤ R)
    (hs : ∀ t ∈ O, (t, costOf t) ∈ sites)
    (hj : ∀ p ∈ P, ∀ sc ∈ sites, ∀ m, m < R → LeO (num p sc.1 m) (due sites (anc par dep) num (kidsOf P r par) many far p sc.1 m)) :
    ∀ (k : Nat) (v : V), v ∈ P → P.length - dep v ≤ k → LeO (num v (a v) (cnt par dep O a v)) (some (pays P par dep O far many costOf a v)) := by
  intro k
  induction k with
  | zero =>
    intro v hv h
    have := T.dlt v hv
    omega
  | succ k ih =>
    intro v hv h
    have hav := G.mem v hv
    refine leO_trans (hj v hv _ (hs _ hav) _ (Nat.lt_of_lt_of_le (cnt_lt hOn hav) hOR)) ?_
    have e1 : cnt par dep O a v = 0 + ((kidsOf P r par v).map fun c => if a c = a v then cnt par dep O a c else cnt par dep O a c + 1).sum := by
      have : (cnt par dep O a v : Int) = (((kidsOf P r par v).map fun c => if a c = a v then cnt par dep O a c else cnt par dep O a c + 1).sum : Nat) := by
        rw [cnt_eq, others_split G T F hn hO hOn _ hv, sum_nat_cast]
        refine sum_congr _ fun c hc => ?_
        by_cases e : a c = a v
        · rw [if_pos e, if_pos e, cnt_eq]
        · rw [if_neg e, if_neg e, Int.natCast_add, cnt_eq]; rfl
      omega
    have e2 : pays P par dep O far many costOf a v = many v * far (a v) v + (0 + ((kidsOf P r par v).map fun c => if a c = a v then pays P par dep O far many costOf a c else pays P par dep O far many costOf a c + costOf (a c)).sum) := by
      unfold pays
      rw [T.below_places hn _ hv, others_split G T F hn hO hOn _ hv, Int.zero_add, Int.add_assoc, ← sum_add]
      congr 2
      refine List.map_congr_left fun c hc => ?_
      by_cases e : a c = a v
      · rw [if_pos e, if_pos e]
      · rw [if_neg e, if_neg e, Int.add_assoc]
    rw [e2]
    unfold due
    refine plus_le (leO_refl _) ?_
    rw [e1]
    unfold sumsF
    refine sums_le _ _ 0 0 (leO_refl (some 0)) fun c hc => ?_
    obtain ⟨h1, h2, h3⟩ := mem_kids.mp hc
    have hd := (T.up c h1 h2).2.1
    rw [h3] at hd
    have hdl := T.dlt c h1
    have hc' := ih c h1 (by omega)
    by_cases e : a c = a v
    · rw [if_pos e, if_pos e]
      unfold handed
      by_cases u : anc par dep c (a v) = true
      · rw [if_pos u, ← e]; exact hc'
      · rw [if_neg u, ← e]; exact leO_trans (lesser_left _ _) hc'
    · rw [if_neg e, if_neg e]
      have hd' : ¬ anc par dep c (a v) = true := fun z => e (by rw [← h3] at z ⊢; exact G.down T F hO h1 h2 z)
      have ho : anc par dep c (a c) = true := by
        by_cases z : anc par dep c (a c) = true
        · exact z
        · exact absurd (by rw [← h3]; exact (G.out T F hO h1 h2 z).symm) e
      unfold handed
      rw [if_neg hd']
      refine leO_trans (lesser_right _ _) (leO_trans (begun_le (hs _ (G.mem c h1)) ho) ?_)
      rw [Int.add_comm]
      exact plus_le (leO_refl _) hc'

theorem lookup_mem {folk : List (V × Int)} : ∀ {x : V} {m : Int}, (folk.map (·.1)).Nodup → (x, m) ∈ folk → folk.lookup x = some m := by
  induction folk with
  | nil => intro x m _ h; cases h
  | cons p l ih =>
    intro x m hn h
    obtain ⟨h1, h2⟩ := List.nodup_cons.mp hn
    obtain ⟨y, k⟩ := p
    rw [List.lookup_cons]
    rcases List.mem_cons.mp h with e | h
    · cases e
      simp
    · have : (x == y) = false := by
        rw [beq_eq_false_iff_ne]
        exact fun z => h1 (List.mem_map.mpr ⟨(x, m), h, z⟩)
      rw [this]
      exact ih h2 h
theorem lookup_not {folk : List (V × Int)} {x : V} (h : ¬ x ∈ folk.map (·.1)) : folk.lookup x = none := by
  induction folk with
  | nil => rfl
  | cons p l ih =>
    obtain ⟨y, k⟩ := p
    rw [List.lookup_cons]
    have : (x == y) = false := by
      rw [beq_eq_false_iff_ne]
      exact fun z => h (by rw [z]; exact List.mem_cons_self)
    rw [this]
    exact ih fun z => h (List.mem_cons_of_mem _ z)
theorem folk_sum {f : V → Int} (hn : P.Nodup) : ∀ (folk : List (V × Int)), (folk.map (·.1)).Nodup → (∀ pm ∈ folk, pm.1 ∈ P) → (P.map fun x => manyOf folk x * f x).sum = (folk.map fun pm => pm.2 * f pm.1).sum
  | [], _, _ => by
    refine sum_zero _ fun x _ => ?_
    show (0 : Int) * f x = 0
    exact Int.zero_mul _
  | (y, k) :: l, hf, hm => by
    obtain ⟨h1, h2⟩ := List.nodup_cons.mp hf
    rw [List.map_cons, List.sum_cons, ← folk_sum hn l h2 fun pm h => hm pm (List.mem_cons_of_mem _ h)]
    have e : k * f y = (P.map fun x => if x = y then k * f y else 0).sum := by
      rw [sum_single P hn (hm _ List.mem_cons_self) fun x hx hne => if_neg hne, if_pos rfl]
    show _ = k * f y + _
    rw [e, ← sum_add]
    refine sum_congr _ fun x _ => ?_
    unfold manyOf
    rw [List.lookup_cons]
    by_cases q : x = y
    · subst q
      rw [if_pos rfl, lookup_not h1]
      simp
    · rw [if_neg q, show (x == y) = false from beq_eq_false_iff_ne.mpr q]
      simp

/-- what an opening costs -/
def costO (folk : List (V × Int)) (far : V → V → Int) (costOf : V → Int) (O : List V) : Int := (O.map costOf).sum + (folk.map fun pm => pm.2 * listMin (O.map fun s => far s pm.1)).sum

/-- THE BOUND: whatever table holds, its low is no more than any opening costs -/
theorem bound {costOf : V → Int} {R : Nat} (T : RT P W r par dep len) (F : FarOk P r par dep len far) (hn : P.Nodup) (hO : ∀ t ∈ O, t ∈ P) (hOn : O.Nodup) (hOR : O.length ≤ R) (hO0 : O ≠ [])
    (hs : ∀ t ∈ O, (t, costOf t) ∈ sites) (hf : (folk.map (·.1)).Nodup) (hfP : ∀ pm ∈ folk, pm.1 ∈ P)
    (hj : ∀ p ∈ P, ∀ sc ∈ sites, ∀ m, m < R → LeO (num p sc.1 m) (due sites (anc par dep) num (kidsOf P r par) (manyOf folk) far p sc.1 m)) :
    LeO (lowest sites (anc par dep) num r R) (some (costO folk far costOf O)) := by
  have ex : ∀ v : V, ∃ t ∈ O, ∀ u ∈ O, far t v < far u v ∨ (far t v = far u v ∧ O.idxOf t ≤ O.idxOf u) := fun v => lex_min (fun t => far t v) (fun t => O.idxOf t) O hO0
  have G : Goes P O far (fun t => O.idxOf t) (fun v => Classical.choose (ex v)) := by
    refine ⟨fun v _ => (Classical.choose_spec (ex v)).1, fun v _ => (Classical.choose_spec (ex v)).2, fun u hu t ht e => ?_⟩
    have h1 := List.getElem_idxOf (List.idxOf_lt_length_iff.mpr hu)
    have h2 := List.getElem_idxOf (List.idxOf_lt_length_iff.mpr ht)
    rw [← h1, ← h2]
    congr 1
  generalize ha : (fun v => Classical.choose (ex v)) = a at G
  have hr := T.root
  have hall : ∀ t ∈ O, anc par dep r t = true := fun t ht => T.anc_root _ t (hO t ht) rfl
  have ho1 := others_all (par := par) (dep := dep) hOn costOf (G.mem r hr) hall
  have ho2 := others_all (par := par) (dep := dep) hOn (fun _ => 1) (G.mem r hr) hall
  rw [sum_one, ← cnt_eq] at ho2
  have hb := bound_at (many := manyOf folk) G T F hn hO hOn hOR hs hj P.length r hr (Nat.sub_le _ _)
  have hlen : cnt par dep O a r < R := Nat.lt_of_lt_of_le (cnt_lt hOn (G.mem r hr)) hOR
  unfold lowest
  refine leO_trans (minL_le _ R (cnt par dep O a r) hlen) ?_
  refine leO_trans (begun_le (hs _ (G.mem r hr)) (hall _ (G.mem r hr))) ?_
  have e : costO folk far costOf O = costOf (a r) + pays P par dep O far (manyOf folk) costOf a r := by
    unfold costO pays
    have e1 : below par dep P (fun x => manyOf folk x * far (a x) x) r = (folk.map fun pm => pm.2 * listMin (O.map fun s => far s pm.1)).sum := by
      unfold below
      rw [sum_congr P (g := fun x => manyOf folk x * far (a x) x) fun x hx => if_pos (T.anc_root _ x hx rfl), folk_sum (f := fun x => far (a x) x) hn folk hf hfP]
      refine sum_congr _ fun pm hpm => ?_
      congr 1
      refine (listMin_eq (l := O.map fun s => far s pm.1) (List.mem_map.mpr ⟨_, G.mem _ (hfP pm hpm), rfl⟩) fun x hx => ?_).symm
      obtain ⟨u, hu, rfl⟩ := List.mem_map.mp hx
      have := G.least _ (hfP pm hpm) u hu
      omega
    rw [e1, ← ho1]
    omega
  rw [e]
  exact plus_le (leO_refl _) hb
end dp
end table
end OH

/-! Plain mathematics: searches over a tree. -/
namespace OH
section srch
variable {V : Type} [DecidableEq V] {P : List V} {W : List (V × V × Int)} {r : V} {par : V → V} {dep : V → Nat} {len : V → Int}

/-- a search that marks what it will visit -/
structure S1 (P : List V) (r : V) (par : V → V) (F : V → Bool) (Wt : List V) (hr : Option V) : Prop where
  fP : ∀ v, F v = true → v ∈ P
  fr : F r = true
  fpar : ∀ v, F v = true → v ≠ r → F (par v) = true
  wt : ∀ v ∈ Wt, F v = true
  cl : ∀ v, F v = true → v ∉ Wt → hr ≠ some v → ∀ c ∈ P, c ≠ r → par c = v → F c = true
theorem S1.init (hr : r ∈ P) {F : V → Bool} (hF : ∀ v, F v = true ↔ v = r) : S1 P r par F [r] none :=
  ⟨fun v h => by rw [(hF v).mp h]; exact hr, (hF r).mpr rfl, fun v h n => absurd ((hF v).mp h) n, fun v h => by rw [List.mem_singleton.mp h]; exact (hF r).mpr rfl,
    fun v h n => absurd (List.mem_singleton.mpr ((hF v).mp h)) n⟩
theorem S1.pop {F : V → Bool} {Wt : List V} {h : V} (s : S1 P r par F (Wt ++ [h]) none) : S1 P r par F Wt (some h) ∧ F h = true := by
  refine ⟨⟨s.fP, s.fr, s.fpar, fun v hv => s.wt v (List.mem_append_left _ hv), fun v hv n hn => s.cl v hv (fun m => ?_) (by simp)⟩, s.wt h (by simp)⟩
  rcases List.mem_append.mp m with m | m
  · exact n m
  · exact hn (by rw [List.mem_singleton.mp m])
theorem S1.push {F F' : V → Bool} {Wt : List V} {h u : V} (s : S1 P r par F Wt (some h)) (hh : F h = true) (hu : u ∈ P) (hur : u ≠ r) (hp : par u = h) (hF : ∀ v, F' v = true ↔ v = u ∨ F v = true) : S1 P r par F' (Wt ++ [u]) (some h) := by
  refine ⟨fun v hv => ?_, (hF r).mpr (.inr s.fr), fun v hv n => ?_, fun v hv => ?_, fun v hv n hn c hc hcr e => ?_⟩
  · rcases (hF v).mp hv with e | hv
    · rw [e]; exact hu
    · exact s.fP v hv
  · rcases (hF v).mp hv with e | hv
    · rw [e, hp]; exact (hF h).mpr (.inr hh)
    · exact (hF _).mpr (.inr (s.fpar v hv n))
  · rcases List.mem_append.mp hv with hv | hv
    · exact (hF v).mpr (.inr (s.wt v hv))
    · exact (hF v).mpr (.inl (List.mem_singleton.mp hv))
  · rcases (hF v).mp hv with e1 | hv
    · exact absurd (List.mem_append_right _ (List.mem_singleton.mpr e1)) n
    · exact (hF c).mpr (.inr (s.cl v hv (fun m => n (List.mem_append_left _ m)) hn c hc hcr e))
theorem S1.done {F : V → Bool} {Wt : List V} {h : V} (s : S1 P r par F Wt (some h)) (hc : ∀ c ∈ P, c ≠ r → par c = h → F c = true) : S1 P r par F Wt none := by
  refine ⟨s.fP, s.fr, s.fpar, s.wt, fun v hv n _ c hcP hcr e => ?_⟩
  by_cases q : v = h
  · exact hc c hcP hcr (e.trans q)
  · exact s.cl v hv n (fun z => q (Option.some.inj z).symm) c hcP hcr e
theorem S1.all {F : V → Bool} (t : RT P W r par dep len) (s : S1 P r par F [] none) : ∀ v ∈ P, F v = true := by
  have : ∀ (n : Nat) (v : V), v ∈ P → dep v = n → F v = true := by
    intro n
    induction n with
    | zero => intro v hv h; rw [t.dep0 hv h]; exact s.fr
    | succ n ih =>
      intro v hv h
      have q : v ≠ r := fun z => by rw [z, t.d0] at h; cases h
      have b := t.up v hv q
      exact s.cl (par v) (ih (par v) b.1 (by omega)) (by simp) (by simp) v hv q rfl
  exact fun v hv => this _ v hv rfl
theorem S1.child {F : V → Bool} {Wt : List V} {hr : Option V} (t : RT P W r par dep len) (s : S1 P r par F Wt hr) {h u : V} {l : Int} (hh : F h = true) (hn : (u, l) ∈ near W h) (hu : F u = false) : u ∈ P ∧ u ≠ r ∧ par u = h ∧ l = len u := by
  rcases (t.adj h (s.fP h hh) u l).mp hn with ⟨q, e, _⟩ | ⟨a, b, c, d⟩
  · rw [e, s.fpar h hh q] at hu
    cases hu
  · exact ⟨a, b, c, d⟩
theorem RT.near_child (t : RT P W r par dep len) {h c : V} (hh : h ∈ P) (hc : c ∈ P) (hcr : c ≠ r) (e : par c = h) : ∃ l, (c, l) ∈ near W h := ⟨len c, (t.adj h hh c (len c)).mpr (.inr ⟨hc, hcr, e, rfl⟩)⟩

/-- a search that marks what it visits -/
structure S2 (P : List V) (r : V) (par : V → V) (F : V → Bool) (Wt : List V) (hr : Option V) : Prop where
  fP : ∀ v, F v = true → v ∈ P
  fpar : ∀ v, F v = true → v ≠ r → F (par v) = true
  root : F r = true ∨ r ∈ Wt
  nd : Wt.Nodup
  wt : ∀ v ∈ Wt, v ∈ P ∧ F v = false ∧ (v = r ∨ F (par v) = true)
  cl : ∀ v, F v = true → hr ≠ some v → ∀ c ∈ P, c ≠ r → par c = v → F c = true ∨ c ∈ Wt
theorem S2.init (hr : r ∈ P) {F : V → Bool} (hF : ∀ v, F v = false) : S2 P r par F [r] none :=
  ⟨fun v h => (Bool.false_ne_true ((hF v).symm.trans h)).elim, fun v h => (Bool.false_ne_true ((hF v).symm.trans h)).elim, .inr (List.mem_singleton.mpr rfl), by simp,
    fun v h => by rw [List.mem_singleton.mp h]; exact ⟨hr, hF r, .inl rfl⟩, fun v h => (Bool.false_ne_true ((hF v).symm.trans h)).elim⟩
/-- h is taken out of what waits, and marked -/
theorem S2.visit {F F' : V → Bool} {Wt Wt' : List V} {h : V} (t : RT P W r par dep len) (s : S2 P r par F Wt none) (hh : h ∈ Wt) (hsub : ∀ v, v ∈ Wt' ↔ v ∈ Wt ∧ v ≠ h) (hnd : Wt'.Nodup) (hF : ∀ v, F' v = true ↔ v = h ∨ F v = true) :
    S2 P r par F' Wt' (some h) ∧ (∀ c ∈ P, c ≠ r → par c = h → c ∉ Wt') := by
  obtain ⟨w1, w2, w3⟩ := s.wt h hh
  refine ⟨⟨fun v hv => ?_, fun v hv n => ?_, ?_, hnd, fun v hv => ?_, fun v hv hn c hc hcr e => ?_⟩, fun c hc hcr e m => ?_⟩
  · rcases (hF v).mp hv with e | hv
    · rw [e]; exact w1
    · exact s.fP v hv
  · rcases (hF v).mp hv with e | hv
    · subst e
      exact (hF _).mpr (.inr (w3.resolve_left n))
    · exact (hF _).mpr (.inr (s.fpar v hv n))
  · rcases s.root with q | q
    · exact .inl ((hF r).mpr (.inr q))
    · by_cases e : r = h
      · exact .inl ((hF r).mpr (.inl e))
      · exact .inr ((hsub r).mpr ⟨q, e⟩)
  · obtain ⟨m, n⟩ := (hsub v).mp hv
    obtain ⟨a, b, c⟩ := s.wt v m
    refine ⟨a, ?_, c.imp id fun z => (hF _).mpr (.inr z)⟩
    cases q : F' v with
    | false => rfl
    | true =>
      rcases (hF v).mp q with e | e
      · exact absurd e n
      · rw [b] at e; cases e
  · rcases (hF v).mp hv with e1 | hv
    · exact absurd (congrArg some e1.symm) hn
    · rcases s.cl v hv (by simp) c hc hcr e with q | q
      · exact .inl ((hF c).mpr (.inr q))
      · by_cases z : c = h
        · exact .inl ((hF c).mpr (.inl z))
        · exact .inr ((hsub c).mpr ⟨q, z⟩)
  · obtain ⟨m, _⟩ := (hsub c).mp m
    rcases (s.wt c m).2.2 with q | q
    · exact hcr q
    · rw [e, w2] at q; cases q
theorem S2.push {F : V → Bool} {Wt : List V} {h u : V} (s : S2 P r par F Wt (some h)) (hh : F h = true) (hu : u ∈ P) (hF : F u = false) (hp : par u = h) (hw : u ∉ Wt) : S2 P r par F (Wt ++ [u]) (some h) := by
  refine ⟨s.fP, s.fpar, s.root.imp id (List.mem_append_left _), ?_, fun v hv => ?_, fun v hv hn c hc hcr e => (s.cl v hv hn c hc hcr e).imp id (List.mem_append_left _)⟩
  · rw [List.nodup_append]
    refine ⟨s.nd, by simp, fun a ha b hb => ?_⟩
    rw [List.mem_singleton.mp hb]
    exact fun z => hw (z ▸ ha)
  · rcases List.mem_append.mp hv with hv | hv
    · exact s.wt v hv
    · rw [List.mem_singleton.mp hv]
      exact ⟨hu, hF, .inr (by rw [hp]; exact hh)⟩
theorem S2.done {F : V → Bool} {Wt : List V} {h : V} (s : S2 P r par F Wt (some h)) (hc : ∀ c ∈ P, c ≠ r → par c = h → F c = true ∨ c ∈ Wt) : S2 P r par F Wt none := by
  refine ⟨s.fP, s.fpar, s.root, s.nd, s.wt, fun v hv _ c hcP hcr e => ?_⟩
  by_cases q : v = h
  · exact hc c hcP hcr (e.trans q)
  · exact s.cl v hv (fun z => q (Option.some.inj z).symm) c hcP hcr e
theorem S2.all {F : V → Bool} (t : RT P W r par dep len) (s : S2 P r par F [] none) : ∀ v ∈ P, F v = true := by
  have hr : F r = true := s.root.resolve_right (by simp)
  have : ∀ (n : Nat) (v : V), v ∈ P → dep v = n → F v = true := by
    intro n
    induction n with
    | zero => intro v hv h; rw [t.dep0 hv h]; exact hr
    | succ n ih =>
      intro v hv h
      have q : v ≠ r := fun z => by rw [z, t.d0] at h; cases h
      have b := t.up v hv q
      exact (s.cl (par v) (ih (par v) b.1 (by omega)) (by simp) v hv q rfl).resolve_right (by simp)
  exact fun v hv => this _ v hv rfl
theorem S2.child {F : V → Bool} {Wt : List V} {hr : Option V} (t : RT P W r par dep len) (s : S2 P r par F Wt hr) {h u : V} {l : Int} (hh : F h = true) (hn : (u, l) ∈ near W h) (hu : F u = false) : u ∈ P ∧ u ≠ r ∧ par u = h ∧ l = len u := by
  rcases (t.adj h (s.fP h hh) u l).mp hn with ⟨q, e, _⟩ | ⟨a, b, c, d⟩
  · rw [e, s.fpar h hh q] at hu
    cases hu
  · exact ⟨a, b, c, d⟩

theorem nodup_sub_le {α : Type} [DecidableEq α] : ∀ {l m : List α}, l.Nodup → (∀ x ∈ l, x ∈ m) → l.length ≤ m.length
  | [], m, _, _ => Nat.zero_le _
  | a :: l, m, hn, hs => by
    obtain ⟨h1, h2⟩ := List.nodup_cons.mp hn
    have ha : a ∈ m := hs a List.mem_cons_self
    have := nodup_sub_le (l := l) (m := m.erase a) h2 fun x hx => (List.mem_erase_of_ne (fun (z : x = a) => h1 (by rw [← z]; exact hx))).mpr (hs x (List.mem_cons_of_mem _ hx))
    rw [List.length_erase_of_mem ha] at this
    have hp : 0 < m.length := List.length_pos_of_mem ha
    rw [List.length_cons]
    omega

/-! the places below, listed -/
def Un (P : List V) (r : V) (par : V → V) : Nat → V → List V
  | 0, v => [v]
  | n + 1, v => v :: (kidsOf P r par v).flatMap (Un P r par n)
def Ul (P : List V) (r : V) (par : V → V) (dep : V → Nat) (v : V) : List V := Un P r par (P.length - dep v) v
theorem RT.Ul_eq (t : RT P W r par dep len) {v : V} (hv : v ∈ P) : Ul P r par dep v = v :: (kidsOf P r par v).flatMap (Ul P r par dep) := by
  have hd := t.dlt v hv
  have e : P.length - dep v = (P.length - dep v - 1) + 1 := by omega
  unfold Ul
  rw [e]
  show v :: _ = v :: _
  congr 1
  have : ∀ (l : List V), (∀ c ∈ l, c ∈ kidsOf P r par v) → l.flatMap (Un P r par (P.length - dep v - 1)) = l.flatMap fun c => Un P r par (P.length - dep c) c := by
    intro l
    induction l with
    | nil => intro _; rfl
    | cons c l ih =>
      intro hl
      rw [List.flatMap_cons, List.flatMap_cons, ih fun x hx => hl x (List.mem_cons_of_mem _ hx)]
      obtain ⟨h1, h2, h3⟩ := mem_kids.mp (hl c List.mem_cons_self)
      have := (t.up c h1 h2).2.1
      rw [h3] at this
      rw [show P.length - dep c = P.length - dep v - 1 by omega]
  exact this _ fun _ h => h
theorem RT.mem_Ul (t : RT P W r par dep len) : ∀ (n : Nat) (v : V), v ∈ P → P.length - dep v ≤ n → ∀ x, x ∈ Ul P r par dep v ↔ x ∈ P ∧ anc par dep v x = true := by
  intro n
  induction n with
  | zero => intro v hv h; have := t.dlt v hv; omega
  | succ n ih =>
    intro v hv h x
    rw [t.Ul_eq hv, List.mem_cons, List.mem_flatMap]
    constructor
    · rintro (e | ⟨c, hc, hx⟩)
      · rw [e]; exact ⟨hv, t.anc_self hv⟩
      · obtain ⟨h1, h2, h3⟩ := mem_kids.mp hc
        have hd := (t.up c h1 h2).2.1
        rw [h3] at hd
        have := t.dlt c h1
        obtain ⟨a, b⟩ := (ih c h1 (by omega) x).mp hx
        exact ⟨a, (t.anc_child _ x a rfl).mpr (.inr ⟨c, h1, h2, h3, b⟩)⟩
    · rintro ⟨hx, a⟩
      rcases (t.anc_child _ x hx rfl).mp a with e | ⟨c, h1, h2, h3, b⟩
      · exact .inl e.symm
      · have hd := (t.up c h1 h2).2.1
        rw [h3] at hd
        have := t.dlt c h1
        exact .inr ⟨c, mem_kids.mpr ⟨h1, h2, h3⟩, (ih c h1 (by omega) x).mpr ⟨hx, b⟩⟩
theorem flat_len_lt {α β : Type} {l : List α} {F : α → List β} {c : α} (h : c ∈ l) : (F c).length ≤ (l.flatMap F).length := by
  induction l with
  | nil => cases h
  | cons a l ih =>
    rw [List.flatMap_cons, List.length_append]
    rcases List.mem_cons.mp h with e | h
    · rw [e]; omega
    · have := ih h; omega
theorem RT.Ul_lt (t : RT P W r par dep len) {c : V} (hc : c ∈ P) (hr : c ≠ r) : (Ul P r par dep c).length < (Ul P r par dep (par c)).length := by
  rw [t.Ul_eq (t.up c hc hr).1, List.length_cons]
  have := flat_len_lt (l := kidsOf P r par (par c)) (F := Ul P r par dep) (mem_kids.mpr ⟨hc, hr, rfl⟩)
  omega
end srch
end OH

/-! Plain mathematics: a walk by levels. -/
namespace OH
section bf
variable {V : Type} [DecidableEq V] {P : List V} {W : List (V × V × Int)} {r : V} {par : V → V} {dep : V → Nat} {len : V → Int}
structure Bf (P : List V) (r : V) (par : V → V) (O : List V) (n : Nat) : Prop where
  nd : O.Nodup
  sub : ∀ v ∈ O, v ∈ P
  hd : O[0]? = some r
  le : n ≤ O.length
  cl : ∀ i v, i < n → O[i]? = some v → ∀ c ∈ kidsOf P r par v, c ∈ O
  up : ∀ j v, O[j]? = some v → v ≠ r → ∃ i, i < n ∧ i < j ∧ O[i]? = some (par v)
theorem nd_ix' {l : List V} (hn : l.Nodup) {i j : Nat} {v : V} (hi : l[i]? = some v) (hj : l[j]? = some v) : i = j := by
  obtain ⟨h1, e1⟩ := List.getElem?_eq_some_iff.mp hi
  obtain ⟨h2, e2⟩ := List.getElem?_eq_some_iff.mp hj
  exact (List.getElem_inj hn).mp (e1.trans e2.symm)
theorem Bf.init (hr : r ∈ P) : Bf P r par [r] 0 := by
  refine ⟨by simp, fun v h => by rw [List.mem_singleton.mp h]; exact hr, rfl, Nat.zero_le _, fun i v h => absurd h (Nat.not_lt_zero _), fun j v h n => ?_⟩
  cases j with
  | zero => simp at h; exact absurd h.symm n
  | succ j => simp at h
theorem Bf.few {O : List V} {n : Nat} (b : Bf P r par O n) : O.length ≤ P.length := nodup_sub_le b.nd b.sub
theorem Bf.kid_not {O : List V} {n : Nat} (b : Bf P r par O n) {v c : V} (hv : O[n]? = some v) (hc : c ∈ kidsOf P r par v) : c ∉ O := fun h => by
  obtain ⟨h1, h2, h3⟩ := mem_kids.mp hc
  obtain ⟨j, hj⟩ := List.mem_iff_getElem?.mp h
  obtain ⟨i, i1, i2, i3⟩ := b.up j c hj h2
  rw [h3] at i3
  have := nd_ix' b.nd i3 hv
  omega
theorem Bf.par_in {O : List V} {n : Nat} (b : Bf P r par O n) {v : V} (hv : O[n]? = some v) (hr : v ≠ r) : par v ∈ O := by
  obtain ⟨i, i1, i2, i3⟩ := b.up n v hv hr
  exact List.mem_of_getElem? i3
theorem Bf.step {O : List V} {n : Nat} (b : Bf P r par O n) (hn : P.Nodup) {v : V} (hv : O[n]? = some v) : Bf P r par (O ++ kidsOf P r par v) (n + 1) := by
  have hlt : n < O.length := (List.getElem?_eq_some_iff.mp hv).1
  refine ⟨?_, fun u hu => ?_, ?_, by rw [List.length_append]; omega, fun i u hi hu c hc => ?_, fun j u hu hr => ?_⟩
  · rw [List.nodup_append]
    refine ⟨b.nd, hn.filter _, fun x hx y hy e => ?_⟩
    rw [e] at hx
    exact b.kid_not hv hy hx
  · rcases List.mem_append.mp hu with h | h
    · exact b.sub u h
    · exact (mem_kids.mp h).1
  · rw [List.getElem?_append_left (by omega)]; exact b.hd
  · rw [List.getElem?_append_left (by omega)] at hu
    by_cases e : i = n
    · rw [e, hv] at hu
      rw [Option.some.inj hu]
      exact List.mem_append_right _ hc
    · exact List.mem_append_left _ (b.cl i u (by omega) hu c hc)
  · by_cases hj : j < O.length
    · rw [List.getElem?_append_left hj] at hu
      obtain ⟨i, i1, i2, i3⟩ := b.up j u hu hr
      exact ⟨i, by omega, i2, by rw [List.getElem?_append_left (by omega)]; exact i3⟩
    · rw [List.getElem?_append_right (by omega)] at hu
      obtain ⟨h1, h2, h3⟩ := mem_kids.mp (List.mem_of_getElem? hu)
      exact ⟨n, by omega, by omega, by rw [List.getElem?_append_left hlt, h3]; exact hv⟩
theorem Bf.all {O : List V} (t : RT P W r par dep len) (b : Bf P r par O O.length) : ∀ v ∈ P, v ∈ O := by
  have : ∀ (n : Nat) (v : V), v ∈ P → dep v = n → v ∈ O := by
    intro n
    induction n with
    | zero => intro v hv h; rw [t.dep0 hv h]; exact List.mem_of_getElem? b.hd
    | succ n ih =>
      intro v hv h
      have q : v ≠ r := fun z => by rw [z, t.d0] at h; cases h
      have u := t.up v hv q
      obtain ⟨i, hi⟩ := List.mem_iff_getElem?.mp (ih (par v) u.1 (by omega))
      exact b.cl i _ (List.getElem?_eq_some_iff.mp hi).1 hi v (mem_kids.mpr ⟨hv, q, rfl⟩)
  exact fun v hv => this _ v hv rfl
/-- seen from behind, the children come first -/
theorem Bf.rev {O : List V} {n : Nat} (b : Bf P r par O n) {k : Nat} {v c : V} (hk : O.reverse[k]? = some v) (hc : c ∈ kidsOf P r par v) (ho : c ∈ O) : c ∈ O.reverse.take k := by
  obtain ⟨h1, h2, h3⟩ := mem_kids.mp hc
  obtain ⟨m, hm⟩ := List.mem_iff_getElem?.mp (List.mem_reverse.mpr ho)
  have lk := (List.getElem?_eq_some_iff.mp hk).1
  have lm := (List.getElem?_eq_some_iff.mp hm).1
  rw [List.length_reverse] at lk lm
  have e1 := hm
  rw [List.getElem?_reverse lm] at e1
  obtain ⟨i, i1, i2, i3⟩ := b.up _ c e1 h2
  have e2 := hk
  rw [List.getElem?_reverse lk, ← h3] at e2
  have := nd_ix' b.nd i3 e2
  refine List.mem_iff_getElem?.mpr ⟨m, ?_⟩
  rw [List.getElem?_take_of_lt (by omega)]
  exact hm
/-- the neighbours that are not yet there are the children -/
theorem Bf.near {O : List V} {n : Nat} (b : Bf P r par O n) (g : Tree P W) (t : RT P W r par dep len) {v : V} (hv : O[n]? = some v) : (((near W v).filter fun e => !decide (e.1 ∈ O)).map (·.1)).Perm (kidsOf P r par v) := by
  have hvP := b.sub v (List.mem_of_getElem? hv)
  refine (List.perm_ext_iff_of_nodup ?_ ?_).mpr fun u => ?_
  · exact (g.near_nodup v).sublist (List.filter_sublist.map _)
  · exact g.nodup.filter _
  · rw [List.mem_map]
    constructor
    · rintro ⟨⟨x, l⟩, hx, rfl⟩
      obtain ⟨h1, h2⟩ := List.mem_filter.mp hx
      rcases (t.adj v hvP x l).mp h1 with ⟨q, e, _⟩ | ⟨a, c, d, _⟩
      · have : x ∈ O := by rw [e]; exact b.par_in hv q
        simp [this] at h2
      · exact mem_kids.mpr ⟨a, c, d⟩
    · intro h
      obtain ⟨h1, h2, h3⟩ := mem_kids.mp h
      refine ⟨(u, len u), List.mem_filter.mpr ⟨(t.adj v hvP u _).mpr (.inr ⟨h1, h2, h3, rfl⟩), ?_⟩, rfl⟩
      simp [b.kid_not hv h]
end bf
end OH
namespace OH
section bf2
variable {V : Type} [DecidableEq V] {P : List V} {W : List (V × V × Int)} {r : V} {par : V → V} {dep : V → Nat} {len : V → Int}
theorem flat_len_sum {α β : Type} {F : α → List β} : ∀ l : List α, ((l.flatMap F).length : Int) = (l.map fun x => ((F x).length : Int)).sum
  | [] => rfl
  | a :: l => by rw [List.flatMap_cons, List.length_append, List.map_cons, List.sum_cons, Int.natCast_add, flat_len_sum l]
theorem RT.Ul_len (t : RT P W r par dep len) (hn : P.Nodup) : ∀ (n : Nat) (v : V), v ∈ P → P.length - dep v ≤ n → ((Ul P r par dep v).length : Int) = below par dep P (fun _ => 1) v := by
  intro n
  induction n with
  | zero => intro v hv h; have := t.dlt v hv; omega
  | succ n ih =>
    intro v hv h
    rw [t.Ul_eq hv, t.below_places hn _ hv, List.length_cons]
    have e : (((kidsOf P r par v).flatMap (Ul P r par dep)).length : Int) = ((kidsOf P r par v).map fun c => below par dep P (fun _ => 1) c).sum := by
      rw [flat_len_sum]
      refine sum_congr _ fun c hc => ?_
      obtain ⟨h1, h2, h3⟩ := mem_kids.mp hc
      have hd := (t.up c h1 h2).2.1
      rw [h3] at hd
      have := t.dlt c h1
      exact ih c h1 (by omega)
    omega
theorem RT.Ul_few (t : RT P W r par dep len) (hn : P.Nodup) {v : V} (hv : v ∈ P) : (Ul P r par dep v).length ≤ P.length := by
  have h1 := t.Ul_len hn _ v hv (Nat.le_refl _)
  have h2 : below par dep P (fun _ => 1) v ≤ (P.map fun _ => (1 : Int)).sum := by
    unfold below
    refine sum_le _ fun x _ => ?_
    split
    · exact Int.le_refl _
    · decide
  rw [sum_one] at h2
  omega
end bf2
theorem flat_take_len {α β : Type} {F : α → List β} (l : List α) (j : Nat) : ((l.take j).flatMap F).length ≤ (l.flatMap F).length := by
  have e : l.flatMap F = (l.take j).flatMap F ++ (l.drop j).flatMap F := by rw [← List.flatMap_append, List.take_append_drop]
  rw [e, List.length_append]
  omega
end OH

/-! Rules that the layer lacks: sorted, min, remove over data; dict(pairs) with tuple keys. -/
namespace L2
open PySem PySem.Spec PyProof.Rows

theorem each_data {X : Cx} {pins : List (Addr × Obj)} {σ : St} {H : Hp} {s : Shared} (I : Inv X pins σ H s) : ∀ {bs : List (V × PyData)} {us : List Value}, Vals (bs.map (·.1)) us → (∀ b ∈ bs, Dp X.K H b.1 b.2) →
    PySem.W.EachIs (fun (u : Value) (b : V × PyData) => RelV b.1 u ∧ ∃ as, PySem.Reads s.heap u b.2 as) us bs
  | [], us, r, _ => by cases r; exact .nil
  | b :: bs, us, r, h => by
    rw [List.map_cons] at r
    cases r with
    | cons r1 r2 => exact .cons ⟨r1, Dp.reads I _ _ _ (h b List.mem_cons_self) r1⟩ (each_data I r2 fun c hc => h c (List.mem_cons_of_mem _ hc))
theorem each_snd {R : Value → PyData → Prop} : ∀ {us : List Value} {bs : List (V × PyData)}, PySem.W.EachIs (fun u b => R u b.2) us bs → PySem.W.EachIs R us (bs.map (·.2))
  | _, _, .nil => .nil
  | _, _, .cons h t => .cons h (each_snd t)
theorem each_vals : ∀ {us : List Value} {bs : List (V × PyData)}, PySem.W.EachIs (fun u b => RelV b.1 u) us bs → Vals (bs.map (·.1)) us
  | _, _, .nil => .nil
  | _, _, .cons h t => .cons h (each_vals t)
/-- sorted(xs), xs a list of alike data of any length -/
def rSortedD (K : PySem.W.Frag) : List V → Hp → VK → Prop := fun vs H Q => ∃ (a : Addr) (bs : List (V × PyData)), vs = [.ref a] ∧ SqL K H a (bs.map (·.1)) ∧ (∀ b ∈ bs, Dp K H b.1 b.2) ∧ PySem.W.AllAlike (bs.map (·.2)) ∧ PySem.W.Sortable (bs.map (·.2)) ∧ (∀ b ∈ bs, b.2.depth ≤ 50) ∧
  ∀ (bs' : List (V × PyData)) (p : Addr), bs'.Perm bs → bs'.Pairwise (fun b c => PySem.W.dataLt c.2 b.2 = false) → H p = none → Q (.ref p) (upd H p (.lst (bs'.map (·.1))))
section
variable {X : Cx}
theorem cr_sortedD (hu : X.A.units + 64 < cLine) : CallR X (.builtin "sorted") (rSortedD X.K) := by
  intro pins s σ H vs us Q I r h
  obtain ⟨a, bs, rfl, hs, hd, hal, hso, hdp, q⟩ := h
  obtain ⟨its, rv, hl, hz⟩ := I.list hs
  obtain ⟨u, rfl, ru⟩ := vals1 r
  obtain rfl : u = Value.ref a := ru
  have hlen := rv.length
  rw [List.length_map] at hlen hz
  have keep : ∀ b o, s.heap.get? b = some o → (PySem.W.sortingHeap (PySem.W.copyHeap s.heap its) (s.heap.objs.size + 1) its).get? b = some o := fun b o e => PySem.W.sorting_copy_old e
  have each := each_data I rv hd
  have each2 := each_snd (R := fun u d => ∃ as, PySem.Reads (PySem.W.sortingHeap (PySem.W.copyHeap s.heap its) (s.heap.objs.size + 1) its) u d as) (each.mono fun u b ⟨_, as, z⟩ => ⟨as, PySem.W.reads_keeps keep z⟩)
  refine PySem.W.sorted_vals (s := s) (κ := PySem.W.dataKind (PySem.W.sortingHeap (PySem.W.copyHeap s.heap its) (s.heap.objs.size + 1) its) (bs.map (·.2))) hl.isList ?_ (by omega) ?_
  · refine PySem.W.SortsAt.data (s := { s with heap := PySem.W.sortingHeap (PySem.W.copyHeap s.heap its) (s.heap.objs.size + 1) its }) each2 hal hso fun d hm => ?_
    obtain ⟨b, hb, rfl⟩ := List.mem_map.mp hm
    have := hdp b hb
    show X.A.units + 1 + 1 + _ < cLine
    omega
  · have hk : PySem.W.EachIs (fun v (b : V × PyData) => (PySem.W.dataKind (PySem.W.sortingHeap (PySem.W.copyHeap s.heap its) (s.heap.objs.size + 1) its) (bs.map (·.2))).keyOf v = some (PySem.W.keyToks b.2)) its bs := by
      refine (PySem.W.each_mem each).mono fun u b ⟨⟨_, as, z⟩, hb⟩ => ?_
      exact PySem.W.dataKind_some hal (List.mem_map.mpr ⟨b, hb, rfl⟩) (PySem.W.reads_keeps keep z)
    have out := PySem.W.sortVals_each (rev := false) (κ := PySem.W.dataKind (PySem.W.sortingHeap (PySem.W.copyHeap s.heap its) (s.heap.objs.size + 1) its) (bs.map (·.2))) (fun b : V × PyData => PySem.W.keyToks b.2) (each.mono fun u b z => z.1) hk
    have hperm := List.mergeSort_perm bs (PySem.W.sortLe (PySem.W.dataKind (PySem.W.sortingHeap (PySem.W.copyHeap s.heap its) (s.heap.objs.size + 1) its) (bs.map (·.2))).toKeyOrd false fun b : V × PyData => PySem.W.keyToks b.2)
    have hpw := PySem.W.sort_pairwise (PySem.W.sortLe_total (PySem.W.dataKind (PySem.W.sortingHeap (PySem.W.copyHeap s.heap its) (s.heap.objs.size + 1) its) (bs.map (·.2))).toKeyOrd false fun b : V × PyData => PySem.W.keyToks b.2) bs
    generalize bs.mergeSort (PySem.W.sortLe (PySem.W.dataKind (PySem.W.sortingHeap (PySem.W.copyHeap s.heap its) (s.heap.objs.size + 1) its) (bs.map (·.2))).toKeyOrd false fun b : V × PyData => PySem.W.keyToks b.2) = bs' at out hperm hpw
    generalize PySem.W.sortVals (PySem.W.dataKind (PySem.W.sortingHeap (PySem.W.copyHeap s.heap its) (s.heap.objs.size + 1) its) (bs.map (·.2))) false its its = outs at out
    obtain ⟨n, hn⟩ := sortedAll_at s.heap its outs.toArray
    have hfree : s.heap.objs.size ≤ s.heap.objs.size + 1 := Nat.le_succ _
    have rvo := each_vals out
    refine ⟨.ref (s.heap.objs.size + 1), upd H (s.heap.objs.size + 1) (.lst (bs'.map (·.1))), I.laid (t' := s.toks) (fun b o e => sortedAll_old e) hfree ⟨?_, outs, n, rvo, hn⟩, rfl, q _ _ hperm (hpw.imp fun {b c} z => ?_) (I.hok.fresh hfree)⟩
    · rw [List.length_map, hperm.length_eq]
      exact hz
    · have z' : (!PyProof.Rows.lexLt itemOrd (PySem.W.keyToks c.2) (PySem.W.keyToks b.2)) = true := z
      show PyProof.Rows.lexLt itemOrd (PySem.W.keyToks c.2) (PySem.W.keyToks b.2) = false
      simpa using z'
end

/-- min(xs), xs a list of alike data: one of them -/
def rMinD (K : PySem.W.Frag) : List V → Hp → VK → Prop := fun vs H Q => ∃ (a : Addr) (xs : List V) (ds : List PyData), vs = [.ref a] ∧ SqL K H a xs ∧ DpAll K H xs ds ∧ ds ≠ [] ∧ PySem.W.AlikeAll ds ∧ PyData.depthAll ds ≤ 50 ∧ ∀ v ∈ xs, Q v H
section
variable {X : Cx}
theorem cr_minD (hc : X.calm = true) (hu : X.A.units + 64 < cLine) : CallR X (.builtin "min") (rMinD X.K) := by
  intro pins s σ H vs us Q I r h
  obtain ⟨a, xs, ds, rfl, hs, hd, h0, hal, hdp, q⟩ := h
  obtain ⟨its, rv, hl, hz⟩ := I.list hs
  obtain ⟨u, rfl, ru⟩ := vals1 r
  obtain rfl : u = Value.ref a := ru
  obtain ⟨as, hr⟩ := Dp.readsAll I ds xs its hd rv
  cases ds with
  | nil => exact absurd rfl h0
  | cons d ds =>
    refine PySem.W.min_list_data (I.ok.hd hc) hl.isList hr hal (by omega) fun i v h' tk bs hi _ k => ?_
    have hi' : its[i]? = some v := by simpa using hi
    have hil : i < its.length := (List.getElem?_eq_some_iff.mp hi').1
    have e : i < xs.length := by rw [rv.length]; exact hil
    obtain ⟨v', e1, r1⟩ := Vals.get rv (List.getElem?_eq_getElem e)
    rw [hi'] at e1
    cases e1
    exact ⟨xs[i], H, I.kept k, r1, q _ (List.getElem_mem e)⟩

/-- xs.remove(x), xs a list of data: the first that is == x -/
def rRemD (K : PySem.W.Frag) : V → List V → Hp → VK → Prop := fun x vs H Q => ∃ (l : Addr) (y : V) (xs : List V) (ds : List PyData) (d : PyData) (j : Nat), x = .ref l ∧ vs = [y] ∧ H l = some (.lst xs) ∧ DpAll K H xs ds ∧ Dp K H y d ∧ PyData.plainAll ds = true ∧ d.plain = true ∧ d.depth ≤ 50 ∧ PySem.SeqAt.dataPlace ds d = some j ∧ Q .non (upd H l (.lst (xs.eraseIdx j)))
theorem mt_removeD (hu : X.A.units + 64 < cLine) : MtM X "list.remove" (rRemD X.K) := by
  intro pins s σ H x xs v us Q I rx rxs h
  obtain ⟨l, y, zs, ds, d, j, rfl, rfl, hH, hds, hd, hpl, hp, hdp, hj, q⟩ := h
  cases rx
  obtain ⟨u, rfl, ru⟩ := rxs.one
  obtain ⟨z, its, n, r, hl, e⟩ := I.lstM hH
  obtain ⟨as, hr⟩ := Dp.readsAll I ds zs its hds r
  obtain ⟨bs, hb⟩ := Dp.reads I d y u hd ru
  refine PySem.SeqAt.remove_list_data (l := l) (vs := its.toArray) (xs := ds) (d := d) ⟨_, e, rfl, n, rfl⟩ hr hb hpl hp (by omega) hj (by rw [List.size_toArray]; omega) ?_
  have rr := r.eraseIdx j
  refine ⟨.non, _, I.lset (its' := its.eraseIdx j) (t' := s.toks) hH e ?_ rr ?_, rfl, q⟩
  · show its.toArray.eraseIdxIfInBounds j = (its.eraseIdx j).toArray
    rw [List.eraseIdxIfInBounds_toArray]
  · have := List.length_eraseIdx_le zs j
    omega
end
end L2

/-! dict(pairs) with tuple keys. -/
namespace L2
open PySem PySem.Spec PyProof.Rows
/-- the dict of some rows (key, the key's address, value) -/
def mergeT (kvs : List (List Key × V)) (rows : List (List Key × Addr × V)) : List (List Key × V) := rows.foldl (fun acc r => putK acc r.1 r.2.2) kvs
theorem length_mergeT : ∀ (rows : List (List Key × Addr × V)) (kvs : List (List Key × V)), (mergeT kvs rows).length ≤ kvs.length + rows.length
  | [], kvs => Nat.le_refl _
  | r :: rows, kvs => by
    have h1 := length_mergeT rows (putK kvs r.1 r.2.2)
    have h2 := length_putK kvs r.1 r.2.2
    rw [List.length_cons]
    show (mergeT (putK kvs r.1 r.2.2) rows).length ≤ _
    omega
abbrev KR : List (List Key × Addr × V) → List (List Key × Addr × Value) → Prop := Paired fun p q => p.1 = q.1 ∧ p.2.1 = q.2.1 ∧ RelV p.2.2 q.2.2
theorem KT.merge {H : Hp} : ∀ {rows : List (List Key × Addr × V)} {rs : List (List Key × Addr × Value)} {kvs : List (List Key × V)} {xs : List (List Key × Addr × Value)}, KR rows rs → (∀ r ∈ rows, H r.2.1 = some (.tup (r.1.map kV))) → KT H kvs xs → KT H (mergeT kvs rows) (storedAllH xs rs)
  | _, _, _, _, .nil, _, k => k
  | _, _, _, _, .cons (a := p) (b := q) h t, hk, k => by
    obtain ⟨e1, e2, e3⟩ := h
    obtain ⟨q1, q2, q3⟩ := q
    dsimp only at e1 e2 e3
    subst e1 e2
    have z := KT.merge t (fun r hr => hk r (List.mem_cons_of_mem _ hr)) (KT.put k p.1 (hk p List.mem_cons_self) e3)
    exact z
section
variable {X : Cx}
theorem rows_of {pins : List (Addr × Obj)} {σ : St} {H : Hp} {s : Shared} (I : Inv X pins σ H s) : ∀ {ps : List Addr} {rows : List (List Key × Addr × V)}, Paired (fun p r => SqT X.K H p [.ref r.2.1, r.2.2]) ps rows →
    ∃ rs : List (List Key × Addr × Value), KR rows rs ∧ rs.length = ps.length ∧ ∀ (j : Nat) (q : List Key × Addr × Value), rs[j]? = some q → ∃ b : Addr, ps[j]? = some b ∧ IsTup s.heap b #[.ref q.2.1, q.2.2]
  | _, _, .nil => ⟨[], .nil, rfl, fun j q e => by simp at e⟩
  | _, _, .cons (a := p) (b := r) h t => by
    obtain ⟨rs, k, hl, hp⟩ := rows_of I t
    obtain ⟨its, rv, ht, _⟩ := I.tuple h
    obtain ⟨u, y, ei, ru, ry⟩ := vals2 rv
    subst ei
    cases ru
    refine ⟨(r.1, r.2.1, y) :: rs, .cons ⟨rfl, rfl, ry⟩ k, by rw [List.length_cons, List.length_cons, hl], fun j q e => ?_⟩
    cases j with
    | zero =>
      have e' : (r.1, r.2.1, y) = q := Option.some.inj e
      subst e'
      exact ⟨p, rfl, ht⟩
    | succ j =>
      obtain ⟨b, e1, e2⟩ := hp j q (by simpa using e)
      exact ⟨b, by simpa using e1, e2⟩
def rDictT (K : PySem.W.Frag) : List V → Hp → VK → Prop := fun xs H Q => ∃ (a : Addr) (ps : List Addr) (rows : List (List Key × Addr × V)), xs = [.ref a] ∧ SqL K H a (ps.map V.ref) ∧ Paired (fun p r => SqT K H p [.ref r.2.1, r.2.2]) ps rows ∧ (∀ r ∈ rows, H r.2.1 = some (.tup (r.1.map kV))) ∧
    ∀ p, H p = none → Q (.ref p) (upd H p (.dT (mergeT [] rows)))
theorem call_dictT (hcalm : X.calm = true) (hu : X.A.units + 64 < cLine) : CallR X (.type "dict") (rDictT X.K) := by
  intro pins s σ H xs us Q I r q
  obtain ⟨a, ps, rows, ex, hq, hp, hkeys, q⟩ := q
  subst ex
  obtain ⟨u, eu, rx⟩ := vals1 r
  subst eu
  cases rx
  obtain ⟨its, rv, pl, hz⟩ := I.list hq
  have ei := refs_at rv
  subst ei
  rw [List.length_map] at hz
  obtain ⟨rs, rel, hl, hpr⟩ := rows_of I hp
  obtain ⟨o, n, ho, hc, hd, hdat⟩ := pl
  have hb : ∀ x ∈ rs, H x.2.1 = some (.tup (x.1.map kV)) := by
    have all : ∀ {l : List (List Key × Addr × V)} {m : List (List Key × Addr × Value)}, KR l m → (∀ r ∈ l, H r.2.1 = some (.tup (r.1.map kV))) → ∀ x ∈ m, H x.2.1 = some (.tup (x.1.map kV)) := by
      intro l m z
      induction z with
      | nil => intro _ x hx; exact nomatch hx
      | @cons p q' ps qs hq t ih =>
        intro hk x hx
        rcases List.mem_cons.mp hx with e | hx
        · subst e
          have := hk p List.mem_cons_self
          rw [hq.1, hq.2.1] at this
          exact this
        · exact ih (fun r hr => hk r (List.mem_cons_of_mem _ hr)) x hx
    exact all rel hkeys
  have hpairs : PairItems s.heap (ps.map Value.ref).toArray (fun j => ps.getD j 0) (rs.map fun x => (Value.ref x.2.1, x.2.2)) := by
    refine ⟨by simp [hl], fun j k v e => ?_⟩
    rw [List.getElem?_map] at e
    cases hj : rs[j]? with
    | none => rw [hj] at e; simp at e
    | some x =>
      rw [hj] at e
      simp only [Option.map_some, Option.some.injEq, Prod.mk.injEq] at e
      obtain ⟨e1, e2⟩ := e
      obtain ⟨b, hb1, hb2⟩ := hpr j x hj
      have eb : ps.getD j 0 = b := by rw [List.getD_eq_getElem?_getD, hb1]; rfl
      refine ⟨by simp [hb1], ?_⟩
      dsimp only
      rw [eb, ← e1, ← e2]
      exact .inl hb2
  have hlen : (rs.map fun x => ((Value.ref x.2.1, x.2.2) : Value × Value)).length = rs.length := List.length_map ..
  refine PySem.call_dict_pairsH (knd := tupleKind (mixKind X.prog X.w)) (ps := rs) (PairArg.list a (ps.map Value.ref).toArray (fun j => ps.getD j 0) (rs.map fun x => (Value.ref x.2.1, x.2.2))) (I.ok.hd hcalm) (show (tupleKind (mixKind X.prog X.w)).room X.A.in1.in1 from tupleKind_room_in1 (A := X.A.in1) (by show X.A.units + 1 + 1 < cLine; omega)) ⟨⟨o, n, ho, hc, hd, hdat⟩, hpairs⟩ ?_ ?_ ?_ ?_
  · refine ⟨hlen.symm, fun i key v hr => ?_⟩
    have hr' : (rs.map fun x => ((Value.ref x.2.1, x.2.2) : Value × Value))[i]? = some (key, v) := hr
    rw [List.getElem?_map] at hr'
    cases hj : rs[i]? with
    | none => rw [hj] at hr'; simp at hr'
    | some x =>
      rw [hj] at hr'
      simp only [Option.map_some, Option.some.injEq, Prod.mk.injEq] at hr'
      obtain ⟨e1, e2⟩ := hr'
      exact ⟨x.1, x.2.1, by rw [← e2], e1.symm⟩
  · intro h' hk x hx
    obtain ⟨o', arr, m, h2, h3, h4, h5⟩ := key_of I.hok (hb x hx)
    exact ⟨o', arr, m, hk _ _ (Nat.ne_of_lt (Heap.lt_size h2)) (by simp) h2, h3, h4, h5⟩
  · rw [hlen, hl]; exact hz
  · intro h' tk hd' k
    have hm : (s.heap.objs.size == sysModules) = false := beq_eq_false_iff_ne.mpr (Nat.ne_of_gt I.big)
    have hlen2 : (mergeT [] rows).length ≤ sizeLine := by
      have := length_mergeT rows []
      have e := Paired.length rel
      rw [List.length_nil, Nat.zero_add] at this
      omega
    have hfresh := I.hok.fresh (Nat.le_refl s.heap.objs.size)
    obtain ⟨o', es, ep, g1, g2, g3, g4, _, g5⟩ := hd'
    refine ⟨.ref s.heap.objs.size, upd H s.heap.objs.size (.dT (mergeT [] rows)), I.laid (t' := tk) (fun b o e => k b o (by simp) e) (Nat.le_refl _) ⟨hlen2, hm, storedAllH [] rs, ?_, o', es, ep, g1, g2, g3, g4, g5⟩, rfl, q _ hfresh⟩
    refine (KT.merge (H := H) rel hkeys .nil).keeps fun b ys eb => ?_
    rw [upd_ne (ne_of_none eb hfresh)]
    exact eb
end
end L2

/-! Rules by the fragment's name (for a comprehension's block); the built-ins' names. -/
namespace OH
open PySem PySem.Spec PyProof.Rows L2
section
variable {X : Cx} {K : PySem.W.Frag}
theorem ix_tupK (h : X.K = K) : IxR X (rIxT K) := by subst h; exact ix_tup
theorem ix_listK (h : X.K = K) : IxR X (rIxL K) := by subst h; exact ix_list
theorem op_inK (h : X.K = K) : OpR X (compareOp .In) (rIn K false) := by subst h; exact op_in_seq
theorem op_notInK (h : X.K = K) : OpR X (compareOp .NotIn) (rIn K true) := by subst h; exact op_notIn_seq
def rLenK (K : PySem.W.Frag) : List V → Hp → VK → Prop := fun xs H Q => ∃ p ys, xs = [.ref p] ∧ (SqL K H p ys ∨ SqT K H p ys) ∧ Q (.int (ys.length : Int)) H
theorem call_lenK (h : X.K = K) : CallR X (.builtin "len") (rLenK K) := by subst h; exact call_len_seq
theorem pg_tupK {es : List Expr} {k : Nat} {pos : Pos} {t : TGs} {n : Nat} (hK : X.K = K) (hc : X.calm = true) (h : PGs X es t)
    (hn : (assignEach es X.env).length = n := by rfl) (hst : (assignEach es X.env).findIdx? (·.1) = none := by rfl) : PG X (.Tuple es k pos) (gTup K n t) := by subst hK; exact pg_tup hc h hn hst
theorem op_neDK (h : X.K = K) (hu : X.A.units + 64 < cLine) : OpR X (compareOp .NotEq) (rNeD K) := by subst h; exact op_neD hu
end
structure Bt (mg : Str → Option Value) : Prop where
  abs_ : mg "abs" = none
  len_ : mg "len" = none
  list_ : mg "list" = none
  range_ : mg "range" = none
  sorted_ : mg "sorted" = none
  tuple_ : mg "tuple" = none
  max_ : mg "max" = none
  min_ : mg "min" = none
  dict_ : mg "dict" = none
  sum_ : mg "sum" = none
  any_ : mg "any" = none
  all_ : mg "all" = none
  isinstance_ : mg "isinstance" = none
  zip_ : mg "zip" = none
  int_ : mg "int" = none
  bool_ : mg "bool" = none
end OH

/-! The text by places. -/
namespace OH
open PySem L2
def topS (i : Nat) : Stmt := PySem.Challenge.pw_openhouses_k38_whole_floors_judged.main.body.getD i (.Pass ⟨0, 0, 0, 0⟩)
abbrev sc (s : Stmt) : Scope := C8.fnScope s
abbrev s_near_by : Stmt := topS 5
abbrev N_near_by : List Str := ["web", "near", "place", "one", "other", "length"]
theorem sc_near_by : FnScope N_near_by ["web"] (sc s_near_by) := C8.fnScope_by (by decide +kernel)
theorem v_near_by_0 : (sc s_near_by).names.lookup ("web" : Str) = some .local := by decide +kernel
theorem v_near_by_1 : (sc s_near_by).names.lookup ("near" : Str) = some .local := by decide +kernel
theorem v_near_by_2 : (sc s_near_by).names.lookup ("place" : Str) = some .local := by decide +kernel
theorem v_near_by_3 : (sc s_near_by).names.lookup ("one" : Str) = some .local := by decide +kernel
theorem v_near_by_4 : (sc s_near_by).names.lookup ("other" : Str) = some .local := by decide +kernel
theorem v_near_by_5 : (sc s_near_by).names.lookup ("length" : Str) = some .local := by decide +kernel
abbrev s_fars : Stmt := topS 6
abbrev N_fars : List Str := ["web", "place", "near", "found", "waiting", "much", "here", "there", "length"]
theorem sc_fars : FnScope N_fars ["web", "place"] (sc s_fars) := C8.fnScope_by (by decide +kernel)
theorem v_fars_0 : (sc s_fars).names.lookup ("web" : Str) = some .local := by decide +kernel
theorem v_fars_1 : (sc s_fars).names.lookup ("place" : Str) = some .local := by decide +kernel
theorem v_fars_2 : (sc s_fars).names.lookup ("near" : Str) = some .local := by decide +kernel
theorem v_fars_3 : (sc s_fars).names.lookup ("found" : Str) = some .local := by decide +kernel
theorem v_fars_4 : (sc s_fars).names.lookup ("waiting" : Str) = some .local := by decide +kernel
theorem v_fars_5 : (sc s_fars).names.lookup ("much" : Str) = some .local := by decide +kernel
theorem v_fars_6 : (sc s_fars).names.lookup ("here" : Str) = some .local := by decide +kernel
theorem v_fars_7 : (sc s_fars).names.lookup ("there" : Str) = some .local := by decide +kernel
theorem v_fars_8 : (sc s_fars).names.lookup ("length" : Str) = some .local := by decide +kernel
theorem g_fars_min : (sc s_fars).names.lookup ("min" : Str) = some .globalImplicit := by decide +kernel
theorem g_fars_near_by : (sc s_fars).names.lookup ("near_by" : Str) = some .globalImplicit := by decide +kernel
abbrev s_is_tree : Stmt := topS 8
abbrev N_is_tree : List Str := ["web"]
theorem sc_is_tree : FnScope N_is_tree ["web"] (sc s_is_tree) := C8.fnScope_by (by decide +kernel)
theorem v_is_tree_0 : (sc s_is_tree).names.lookup ("web" : Str) = some .local := by decide +kernel
theorem g_is_tree_len : (sc s_is_tree).names.lookup ("len" : Str) = some .globalImplicit := by decide +kernel
abbrev s_parents : Stmt := topS 9
abbrev N_parents : List Str := ["web", "near", "found", "waiting", "here", "there", "length"]
theorem sc_parents : FnScope N_parents ["web"] (sc s_parents) := C8.fnScope_by (by decide +kernel)
theorem v_parents_0 : (sc s_parents).names.lookup ("web" : Str) = some .local := by decide +kernel
theorem v_parents_1 : (sc s_parents).names.lookup ("near" : Str) = some .local := by decide +kernel
theorem v_parents_2 : (sc s_parents).names.lookup ("found" : Str) = some .local := by decide +kernel
theorem v_parents_3 : (sc s_parents).names.lookup ("waiting" : Str) = some .local := by decide +kernel
theorem v_parents_4 : (sc s_parents).names.lookup ("here" : Str) = some .local := by decide +kernel
theorem v_parents_5 : (sc s_parents).names.lookup ("there" : Str) = some .local := by decide +kernel
theorem v_parents_6 : (sc s_parents).names.lookup ("length" : Str) = some .local := by decide +kernel
theorem g_parents_near_by : (sc s_parents).names.lookup ("near_by" : Str) = some .globalImplicit := by decide +kernel
abbrev s_children : Stmt := topS 10
abbrev N_children : List Str := ["web", "place", "known", "one"]
theorem sc_children : FnScope N_children ["web", "place"] (sc s_children) := C8.fnScope_by (by decide +kernel)
theorem v_children_0 : (sc s_children).names.lookup ("web" : Str) = some .local := by decide +kernel
theorem v_children_1 : (sc s_children).names.lookup ("place" : Str) = some .cell := by decide +kernel
theorem v_children_2 : (sc s_children).names.lookup ("known" : Str) = some .cell := by decide +kernel
theorem g_children_parents : (sc s_children).names.lookup ("parents" : Str) = some .globalImplicit := by decide +kernel
abbrev s_below : Stmt := topS 11
abbrev N_below : List Str := ["web", "place", "known", "found", "one", "step"]
theorem sc_below : FnScope N_below ["web", "place"] (sc s_below) := C8.fnScope_by (by decide +kernel)
theorem v_below_0 : (sc s_below).names.lookup ("web" : Str) = some .local := by decide +kernel
theorem v_below_1 : (sc s_below).names.lookup ("place" : Str) = some .local := by decide +kernel
theorem v_below_2 : (sc s_below).names.lookup ("known" : Str) = some .local := by decide +kernel
theorem v_below_3 : (sc s_below).names.lookup ("found" : Str) = some .local := by decide +kernel
theorem v_below_4 : (sc s_below).names.lookup ("one" : Str) = some .local := by decide +kernel
theorem v_below_5 : (sc s_below).names.lookup ("step" : Str) = some .local := by decide +kernel
theorem g_below_parents : (sc s_below).names.lookup ("parents" : Str) = some .globalImplicit := by decide +kernel
abbrev s_need_tree : Stmt := topS 13
abbrev N_need_tree : List Str := ["case"]
theorem sc_need_tree : FnScope N_need_tree ["case"] (sc s_need_tree) := C8.fnScope_by (by decide +kernel)
theorem v_need_tree_0 : (sc s_need_tree).names.lookup ("case" : Str) = some .local := by decide +kernel
theorem g_need_tree_NoTree : (sc s_need_tree).names.lookup ("NoTree" : Str) = some .globalImplicit := by decide +kernel
theorem g_need_tree_is_tree : (sc s_need_tree).names.lookup ("is_tree" : Str) = some .globalImplicit := by decide +kernel
abbrev s_mores_of : Stmt := topS 14
abbrev N_mores_of : List Str := ["case", "many"]
theorem sc_mores_of : FnScope N_mores_of ["case"] (sc s_mores_of) := C8.fnScope_by (by decide +kernel)
theorem v_mores_of_0 : (sc s_mores_of).names.lookup ("case" : Str) = some .local := by decide +kernel
theorem v_mores_of_1 : (sc s_mores_of).names.lookup ("many" : Str) = some .local := by decide +kernel
theorem g_mores_of_len : (sc s_mores_of).names.lookup ("len" : Str) = some .globalImplicit := by decide +kernel
theorem g_mores_of_min : (sc s_mores_of).names.lookup ("min" : Str) = some .globalImplicit := by decide +kernel
abbrev s_keys_of : Stmt := topS 15
abbrev N_keys_of : List Str := ["case", "found", "place", "site", "cost", "more"]
theorem sc_keys_of : FnScope N_keys_of ["case"] (sc s_keys_of) := C8.fnScope_by (by decide +kernel)
theorem v_keys_of_0 : (sc s_keys_of).names.lookup ("case" : Str) = some .local := by decide +kernel
theorem v_keys_of_1 : (sc s_keys_of).names.lookup ("found" : Str) = some .local := by decide +kernel
theorem v_keys_of_2 : (sc s_keys_of).names.lookup ("place" : Str) = some .local := by decide +kernel
theorem v_keys_of_3 : (sc s_keys_of).names.lookup ("site" : Str) = some .local := by decide +kernel
theorem v_keys_of_4 : (sc s_keys_of).names.lookup ("cost" : Str) = some .local := by decide +kernel
theorem v_keys_of_5 : (sc s_keys_of).names.lookup ("more" : Str) = some .local := by decide +kernel
theorem g_keys_of_mores_of : (sc s_keys_of).names.lookup ("mores_of" : Str) = some .globalImplicit := by decide +kernel
theorem g_keys_of_range : (sc s_keys_of).names.lookup ("range" : Str) = some .globalImplicit := by decide +kernel
abbrev s_plus : Stmt := topS 16
abbrev N_plus : List Str := ["one", "other"]
theorem sc_plus : FnScope N_plus ["one", "other"] (sc s_plus) := C8.fnScope_by (by decide +kernel)
theorem v_plus_0 : (sc s_plus).names.lookup ("one" : Str) = some .local := by decide +kernel
theorem v_plus_1 : (sc s_plus).names.lookup ("other" : Str) = some .local := by decide +kernel
abbrev s_lesser : Stmt := topS 17
abbrev N_lesser : List Str := ["one", "other"]
theorem sc_lesser : FnScope N_lesser ["one", "other"] (sc s_lesser) := C8.fnScope_by (by decide +kernel)
theorem v_lesser_0 : (sc s_lesser).names.lookup ("one" : Str) = some .local := by decide +kernel
theorem v_lesser_1 : (sc s_lesser).names.lookup ("other" : Str) = some .local := by decide +kernel
abbrev s_Rinit : Stmt := inClass (topS 18) 0
abbrev N_Rinit : List Str := ["self", "case", "numbers", "place", "site", "cost"]
theorem sc_Rinit : FnScope N_Rinit ["self", "case", "numbers"] (sc s_Rinit) := C8.fnScope_by (by decide +kernel)
theorem v_Rinit_0 : (sc s_Rinit).names.lookup ("self" : Str) = some .local := by decide +kernel
theorem v_Rinit_1 : (sc s_Rinit).names.lookup ("case" : Str) = some .local := by decide +kernel
theorem v_Rinit_2 : (sc s_Rinit).names.lookup ("numbers" : Str) = some .local := by decide +kernel
theorem v_Rinit_3 : (sc s_Rinit).names.lookup ("place" : Str) = some .local := by decide +kernel
theorem v_Rinit_4 : (sc s_Rinit).names.lookup ("site" : Str) = some .local := by decide +kernel
theorem v_Rinit_5 : (sc s_Rinit).names.lookup ("cost" : Str) = some .local := by decide +kernel
theorem g_Rinit_below : (sc s_Rinit).names.lookup ("below" : Str) = some .globalImplicit := by decide +kernel
theorem g_Rinit_children : (sc s_Rinit).names.lookup ("children" : Str) = some .globalImplicit := by decide +kernel
theorem g_Rinit_dict : (sc s_Rinit).names.lookup ("dict" : Str) = some .globalImplicit := by decide +kernel
theorem g_Rinit_fars : (sc s_Rinit).names.lookup ("fars" : Str) = some .globalImplicit := by decide +kernel
theorem g_Rinit_list : (sc s_Rinit).names.lookup ("list" : Str) = some .globalImplicit := by decide +kernel
theorem g_Rinit_mores_of : (sc s_Rinit).names.lookup ("mores_of" : Str) = some .globalImplicit := by decide +kernel
abbrev s_Rbegun : Stmt := inClass (topS 18) 1
abbrev N_Rbegun : List Str := ["self", "place", "houses", "found", "site", "cost"]
theorem sc_Rbegun : FnScope N_Rbegun ["self", "place", "houses"] (sc s_Rbegun) := C8.fnScope_by (by decide +kernel)
theorem v_Rbegun_0 : (sc s_Rbegun).names.lookup ("self" : Str) = some .local := by decide +kernel
theorem v_Rbegun_1 : (sc s_Rbegun).names.lookup ("place" : Str) = some .local := by decide +kernel
theorem v_Rbegun_2 : (sc s_Rbegun).names.lookup ("houses" : Str) = some .local := by decide +kernel
theorem v_Rbegun_3 : (sc s_Rbegun).names.lookup ("found" : Str) = some .local := by decide +kernel
theorem v_Rbegun_4 : (sc s_Rbegun).names.lookup ("site" : Str) = some .local := by decide +kernel
theorem v_Rbegun_5 : (sc s_Rbegun).names.lookup ("cost" : Str) = some .local := by decide +kernel
theorem g_Rbegun_lesser : (sc s_Rbegun).names.lookup ("lesser" : Str) = some .globalImplicit := by decide +kernel
theorem g_Rbegun_plus : (sc s_Rbegun).names.lookup ("plus" : Str) = some .globalImplicit := by decide +kernel
abbrev s_Rhanded : Stmt := inClass (topS 18) 2
abbrev N_Rhanded : List Str := ["self", "child", "site", "more", "found"]
theorem sc_Rhanded : FnScope N_Rhanded ["self", "child", "site", "more"] (sc s_Rhanded) := C8.fnScope_by (by decide +kernel)
theorem v_Rhanded_0 : (sc s_Rhanded).names.lookup ("self" : Str) = some .local := by decide +kernel
theorem v_Rhanded_1 : (sc s_Rhanded).names.lookup ("child" : Str) = some .local := by decide +kernel
theorem v_Rhanded_2 : (sc s_Rhanded).names.lookup ("site" : Str) = some .local := by decide +kernel
theorem v_Rhanded_3 : (sc s_Rhanded).names.lookup ("more" : Str) = some .local := by decide +kernel
theorem v_Rhanded_4 : (sc s_Rhanded).names.lookup ("found" : Str) = some .local := by decide +kernel
theorem g_Rhanded_lesser : (sc s_Rhanded).names.lookup ("lesser" : Str) = some .globalImplicit := by decide +kernel
abbrev s_Rwith_child : Stmt := inClass (topS 18) 3
abbrev N_Rwith_child : List Str := ["self", "ahead", "child", "site", "some", "row", "houses", "least", "part"]
theorem sc_Rwith_child : FnScope N_Rwith_child ["self", "ahead", "child", "site"] (sc s_Rwith_child) := C8.fnScope_by (by decide +kernel)
theorem v_Rwith_child_0 : (sc s_Rwith_child).names.lookup ("self" : Str) = some .cell := by decide +kernel
theorem v_Rwith_child_1 : (sc s_Rwith_child).names.lookup ("ahead" : Str) = some .local := by decide +kernel
theorem v_Rwith_child_2 : (sc s_Rwith_child).names.lookup ("child" : Str) = some .cell := by decide +kernel
theorem v_Rwith_child_3 : (sc s_Rwith_child).names.lookup ("site" : Str) = some .cell := by decide +kernel
theorem v_Rwith_child_4 : (sc s_Rwith_child).names.lookup ("some" : Str) = some .local := by decide +kernel
theorem v_Rwith_child_5 : (sc s_Rwith_child).names.lookup ("row" : Str) = some .local := by decide +kernel
theorem v_Rwith_child_6 : (sc s_Rwith_child).names.lookup ("houses" : Str) = some .local := by decide +kernel
theorem v_Rwith_child_7 : (sc s_Rwith_child).names.lookup ("least" : Str) = some .local := by decide +kernel
theorem v_Rwith_child_8 : (sc s_Rwith_child).names.lookup ("part" : Str) = some .local := by decide +kernel
theorem g_Rwith_child_lesser : (sc s_Rwith_child).names.lookup ("lesser" : Str) = some .globalImplicit := by decide +kernel
theorem g_Rwith_child_plus : (sc s_Rwith_child).names.lookup ("plus" : Str) = some .globalImplicit := by decide +kernel
theorem g_Rwith_child_range : (sc s_Rwith_child).names.lookup ("range" : Str) = some .globalImplicit := by decide +kernel
abbrev s_Rsums : Stmt := inClass (topS 18) 4
abbrev N_Rsums : List Str := ["self", "place", "site", "rows", "child"]
theorem sc_Rsums : FnScope N_Rsums ["self", "place", "site"] (sc s_Rsums) := C8.fnScope_by (by decide +kernel)
theorem v_Rsums_0 : (sc s_Rsums).names.lookup ("self" : Str) = some .local := by decide +kernel
theorem v_Rsums_1 : (sc s_Rsums).names.lookup ("place" : Str) = some .local := by decide +kernel
theorem v_Rsums_2 : (sc s_Rsums).names.lookup ("site" : Str) = some .local := by decide +kernel
theorem v_Rsums_3 : (sc s_Rsums).names.lookup ("rows" : Str) = some .local := by decide +kernel
theorem v_Rsums_4 : (sc s_Rsums).names.lookup ("child" : Str) = some .local := by decide +kernel
abbrev s_Rown : Stmt := inClass (topS 18) 5
abbrev N_Rown : List Str := ["self", "place", "site"]
theorem sc_Rown : FnScope N_Rown ["self", "place", "site"] (sc s_Rown) := C8.fnScope_by (by decide +kernel)
theorem v_Rown_0 : (sc s_Rown).names.lookup ("self" : Str) = some .local := by decide +kernel
theorem v_Rown_1 : (sc s_Rown).names.lookup ("place" : Str) = some .local := by decide +kernel
theorem v_Rown_2 : (sc s_Rown).names.lookup ("site" : Str) = some .local := by decide +kernel
abbrev s_Rdue : Stmt := inClass (topS 18) 6
abbrev N_Rdue : List Str := ["self", "place", "site", "more"]
theorem sc_Rdue : FnScope N_Rdue ["self", "place", "site", "more"] (sc s_Rdue) := C8.fnScope_by (by decide +kernel)
theorem v_Rdue_0 : (sc s_Rdue).names.lookup ("self" : Str) = some .local := by decide +kernel
theorem v_Rdue_1 : (sc s_Rdue).names.lookup ("place" : Str) = some .local := by decide +kernel
theorem v_Rdue_2 : (sc s_Rdue).names.lookup ("site" : Str) = some .local := by decide +kernel
theorem v_Rdue_3 : (sc s_Rdue).names.lookup ("more" : Str) = some .local := by decide +kernel
theorem g_Rdue_plus : (sc s_Rdue).names.lookup ("plus" : Str) = some .globalImplicit := by decide +kernel
abbrev s_Rroot : Stmt := inClass (topS 18) 7
abbrev N_Rroot : List Str := ["self"]
theorem sc_Rroot : FnScope N_Rroot ["self"] (sc s_Rroot) := C8.fnScope_by (by decide +kernel)
theorem v_Rroot_0 : (sc s_Rroot).names.lookup ("self" : Str) = some .local := by decide +kernel
abbrev s_Rlow : Stmt := inClass (topS 18) 8
abbrev N_Rlow : List Str := ["self", "mores", "found", "houses"]
theorem sc_Rlow : FnScope N_Rlow ["self", "mores"] (sc s_Rlow) := C8.fnScope_by (by decide +kernel)
theorem v_Rlow_0 : (sc s_Rlow).names.lookup ("self" : Str) = some .local := by decide +kernel
theorem v_Rlow_1 : (sc s_Rlow).names.lookup ("mores" : Str) = some .local := by decide +kernel
theorem v_Rlow_2 : (sc s_Rlow).names.lookup ("found" : Str) = some .local := by decide +kernel
theorem v_Rlow_3 : (sc s_Rlow).names.lookup ("houses" : Str) = some .local := by decide +kernel
theorem g_Rlow_lesser : (sc s_Rlow).names.lookup ("lesser" : Str) = some .globalImplicit := by decide +kernel
theorem g_Rlow_range : (sc s_Rlow).names.lookup ("range" : Str) = some .globalImplicit := by decide +kernel
abbrev s_is_number : Stmt := topS 20
abbrev N_is_number : List Str := ["thing"]
theorem sc_is_number : FnScope N_is_number ["thing"] (sc s_is_number) := C8.fnScope_by (by decide +kernel)
theorem v_is_number_0 : (sc s_is_number).names.lookup ("thing" : Str) = some .local := by decide +kernel
theorem g_is_number_bool : (sc s_is_number).names.lookup ("bool" : Str) = some .globalImplicit := by decide +kernel
theorem g_is_number_int : (sc s_is_number).names.lookup ("int" : Str) = some .globalImplicit := by decide +kernel
theorem g_is_number_isinstance : (sc s_is_number).names.lookup ("isinstance" : Str) = some .globalImplicit := by decide +kernel
abbrev s_is_row : Stmt := topS 21
abbrev N_is_row : List Str := ["thing", "key", "more"]
theorem sc_is_row : FnScope N_is_row ["thing", "key"] (sc s_is_row) := C8.fnScope_by (by decide +kernel)
theorem v_is_row_0 : (sc s_is_row).names.lookup ("thing" : Str) = some .local := by decide +kernel
theorem v_is_row_1 : (sc s_is_row).names.lookup ("key" : Str) = some .local := by decide +kernel
theorem v_is_row_2 : (sc s_is_row).names.lookup ("more" : Str) = some .local := by decide +kernel
theorem g_is_row_bool : (sc s_is_row).names.lookup ("bool" : Str) = some .globalImplicit := by decide +kernel
theorem g_is_row_int : (sc s_is_row).names.lookup ("int" : Str) = some .globalImplicit := by decide +kernel
theorem g_is_row_is_number : (sc s_is_row).names.lookup ("is_number" : Str) = some .globalImplicit := by decide +kernel
theorem g_is_row_isinstance : (sc s_is_row).names.lookup ("isinstance" : Str) = some .globalImplicit := by decide +kernel
theorem g_is_row_len : (sc s_is_row).names.lookup ("len" : Str) = some .globalImplicit := by decide +kernel
theorem g_is_row_tuple : (sc s_is_row).names.lookup ("tuple" : Str) = some .globalImplicit := by decide +kernel
abbrev s_is_table : Stmt := topS 22
abbrev N_is_table : List Str := ["case", "thing", "keys", "row", "key"]
theorem sc_is_table : FnScope N_is_table ["case", "thing"] (sc s_is_table) := C8.fnScope_by (by decide +kernel)
theorem v_is_table_0 : (sc s_is_table).names.lookup ("case" : Str) = some .local := by decide +kernel
theorem v_is_table_1 : (sc s_is_table).names.lookup ("thing" : Str) = some .local := by decide +kernel
theorem v_is_table_2 : (sc s_is_table).names.lookup ("keys" : Str) = some .local := by decide +kernel
theorem g_is_table_all : (sc s_is_table).names.lookup ("all" : Str) = some .globalImplicit := by decide +kernel
theorem g_is_table_isinstance : (sc s_is_table).names.lookup ("isinstance" : Str) = some .globalImplicit := by decide +kernel
theorem g_is_table_keys_of : (sc s_is_table).names.lookup ("keys_of" : Str) = some .globalImplicit := by decide +kernel
theorem g_is_table_len : (sc s_is_table).names.lookup ("len" : Str) = some .globalImplicit := by decide +kernel
theorem g_is_table_list : (sc s_is_table).names.lookup ("list" : Str) = some .globalImplicit := by decide +kernel
theorem g_is_table_zip : (sc s_is_table).names.lookup ("zip" : Str) = some .globalImplicit := by decide +kernel
abbrev s_is_greater : Stmt := topS 23
abbrev N_is_greater : List Str := ["number", "due"]
theorem sc_is_greater : FnScope N_is_greater ["number", "due"] (sc s_is_greater) := C8.fnScope_by (by decide +kernel)
theorem v_is_greater_0 : (sc s_is_greater).names.lookup ("number" : Str) = some .local := by decide +kernel
theorem v_is_greater_1 : (sc s_is_greater).names.lookup ("due" : Str) = some .local := by decide +kernel
abbrev s_holds : Stmt := topS 24
abbrev N_holds : List Str := ["case", "table", "reckoner", "key", "number"]
theorem sc_holds : FnScope N_holds ["case", "table"] (sc s_holds) := C8.fnScope_by (by decide +kernel)
theorem v_holds_0 : (sc s_holds).names.lookup ("case" : Str) = some .local := by decide +kernel
theorem v_holds_1 : (sc s_holds).names.lookup ("table" : Str) = some .local := by decide +kernel
theorem v_holds_2 : (sc s_holds).names.lookup ("reckoner" : Str) = some .cell := by decide +kernel
theorem g_holds_Reckoner : (sc s_holds).names.lookup ("Reckoner" : Str) = some .globalImplicit := by decide +kernel
theorem g_holds_any : (sc s_holds).names.lookup ("any" : Str) = some .globalImplicit := by decide +kernel
theorem g_holds_dict : (sc s_holds).names.lookup ("dict" : Str) = some .globalImplicit := by decide +kernel
theorem g_holds_is_table : (sc s_holds).names.lookup ("is_table" : Str) = some .globalImplicit := by decide +kernel
theorem g_holds_need_tree : (sc s_holds).names.lookup ("need_tree" : Str) = some .globalImplicit := by decide +kernel
abbrev s_low_of : Stmt := topS 25
abbrev N_low_of : List Str := ["case", "table"]
theorem sc_low_of : FnScope N_low_of ["case", "table"] (sc s_low_of) := C8.fnScope_by (by decide +kernel)
theorem v_low_of_0 : (sc s_low_of).names.lookup ("case" : Str) = some .local := by decide +kernel
theorem v_low_of_1 : (sc s_low_of).names.lookup ("table" : Str) = some .local := by decide +kernel
theorem g_low_of_Reckoner : (sc s_low_of).names.lookup ("Reckoner" : Str) = some .globalImplicit := by decide +kernel
theorem g_low_of_dict : (sc s_low_of).names.lookup ("dict" : Str) = some .globalImplicit := by decide +kernel
theorem g_low_of_mores_of : (sc s_low_of).names.lookup ("mores_of" : Str) = some .globalImplicit := by decide +kernel
theorem g_low_of_need_tree : (sc s_low_of).names.lookup ("need_tree" : Str) = some .globalImplicit := by decide +kernel
abbrev s_Lbegin : Stmt := topS 27
abbrev N_Lbegin : List Str := ["_law_script"]
theorem sc_Lbegin : FnScope N_Lbegin ["_law_script"] (sc s_Lbegin) := C8.fnScope_by (by decide +kernel)
theorem v_Lbegin_0 : (sc s_Lbegin).names.lookup ("_law_script" : Str) = some .local := by decide +kernel
abbrev s_Lmixed : Stmt := topS 28
abbrev N_Lmixed : List Str := ["_law_cell", "_law_k", "_law_one", "_law_two"]
theorem sc_Lmixed : FnScope N_Lmixed ["_law_cell", "_law_k"] (sc s_Lmixed) := C8.fnScope_by (by decide +kernel)
theorem v_Lmixed_0 : (sc s_Lmixed).names.lookup ("_law_cell" : Str) = some .local := by decide +kernel
theorem v_Lmixed_1 : (sc s_Lmixed).names.lookup ("_law_k" : Str) = some .local := by decide +kernel
theorem v_Lmixed_2 : (sc s_Lmixed).names.lookup ("_law_one" : Str) = some .local := by decide +kernel
theorem v_Lmixed_3 : (sc s_Lmixed).names.lookup ("_law_two" : Str) = some .local := by decide +kernel
abbrev s_Ltake : Stmt := topS 29
abbrev N_Ltake : List Str := ["_law_state", "_law_most", "_law_k", "_law_script", "_law_cell", "_law_found"]
theorem sc_Ltake : FnScope N_Ltake ["_law_state", "_law_most"] (sc s_Ltake) := C8.fnScope_by (by decide +kernel)
theorem v_Ltake_0 : (sc s_Ltake).names.lookup ("_law_state" : Str) = some .local := by decide +kernel
theorem v_Ltake_1 : (sc s_Ltake).names.lookup ("_law_most" : Str) = some .local := by decide +kernel
theorem v_Ltake_2 : (sc s_Ltake).names.lookup ("_law_k" : Str) = some .local := by decide +kernel
theorem v_Ltake_3 : (sc s_Ltake).names.lookup ("_law_script" : Str) = some .local := by decide +kernel
theorem v_Ltake_4 : (sc s_Ltake).names.lookup ("_law_cell" : Str) = some .local := by decide +kernel
theorem v_Ltake_5 : (sc s_Ltake).names.lookup ("_law_found" : Str) = some .local := by decide +kernel
theorem g_Ltake__law_mixed : (sc s_Ltake).names.lookup ("_law_mixed" : Str) = some .globalImplicit := by decide +kernel
theorem g_Ltake_abs : (sc s_Ltake).names.lookup ("abs" : Str) = some .globalImplicit := by decide +kernel
theorem g_Ltake_len : (sc s_Ltake).names.lookup ("len" : Str) = some .globalImplicit := by decide +kernel
abbrev s_Lorder : Stmt := topS 30
abbrev N_Lorder : List Str := ["_law_state", "_law_many", "_law_left", "_law_found", "_law_k"]
theorem sc_Lorder : FnScope N_Lorder ["_law_state", "_law_many"] (sc s_Lorder) := C8.fnScope_by (by decide +kernel)
theorem v_Lorder_0 : (sc s_Lorder).names.lookup ("_law_state" : Str) = some .local := by decide +kernel
theorem v_Lorder_1 : (sc s_Lorder).names.lookup ("_law_many" : Str) = some .local := by decide +kernel
theorem v_Lorder_2 : (sc s_Lorder).names.lookup ("_law_left" : Str) = some .local := by decide +kernel
theorem v_Lorder_3 : (sc s_Lorder).names.lookup ("_law_found" : Str) = some .local := by decide +kernel
theorem v_Lorder_4 : (sc s_Lorder).names.lookup ("_law_k" : Str) = some .local := by decide +kernel
theorem g_Lorder__law_take : (sc s_Lorder).names.lookup ("_law_take" : Str) = some .globalImplicit := by decide +kernel
theorem g_Lorder_len : (sc s_Lorder).names.lookup ("len" : Str) = some .globalImplicit := by decide +kernel
theorem g_Lorder_list : (sc s_Lorder).names.lookup ("list" : Str) = some .globalImplicit := by decide +kernel
theorem g_Lorder_range : (sc s_Lorder).names.lookup ("range" : Str) = some .globalImplicit := by decide +kernel
abbrev s_Lnames : Stmt := topS 31
abbrev N_Lnames : List Str := ["_law_state", "_law_many", "_law_letters", "_law_base", "_law_start", "_law_size", "_law_at", "_law_found", "_law_k", "_law_one"]
theorem sc_Lnames : FnScope N_Lnames ["_law_state", "_law_many"] (sc s_Lnames) := C8.fnScope_by (by decide +kernel)
theorem v_Lnames_0 : (sc s_Lnames).names.lookup ("_law_state" : Str) = some .cell := by decide +kernel
theorem v_Lnames_1 : (sc s_Lnames).names.lookup ("_law_many" : Str) = some .local := by decide +kernel
theorem v_Lnames_2 : (sc s_Lnames).names.lookup ("_law_letters" : Str) = some .cell := by decide +kernel
theorem v_Lnames_3 : (sc s_Lnames).names.lookup ("_law_base" : Str) = some .local := by decide +kernel
theorem v_Lnames_4 : (sc s_Lnames).names.lookup ("_law_start" : Str) = some .local := by decide +kernel
theorem v_Lnames_5 : (sc s_Lnames).names.lookup ("_law_size" : Str) = some .local := by decide +kernel
theorem v_Lnames_6 : (sc s_Lnames).names.lookup ("_law_at" : Str) = some .local := by decide +kernel
theorem v_Lnames_7 : (sc s_Lnames).names.lookup ("_law_found" : Str) = some .cell := by decide +kernel
theorem v_Lnames_8 : (sc s_Lnames).names.lookup ("_law_k" : Str) = some .local := by decide +kernel
theorem v_Lnames_9 : (sc s_Lnames).names.lookup ("_law_one" : Str) = some .local := by decide +kernel
theorem g_Lnames__law_order : (sc s_Lnames).names.lookup ("_law_order" : Str) = some .globalImplicit := by decide +kernel
theorem g_Lnames__law_take : (sc s_Lnames).names.lookup ("_law_take" : Str) = some .globalImplicit := by decide +kernel
theorem g_Lnames_range : (sc s_Lnames).names.lookup ("range" : Str) = some .globalImplicit := by decide +kernel
abbrev s_Lnumber : Stmt := topS 32
abbrev N_Lnumber : List Str := ["_law_state", "_law_least_here", "_law_way"]
theorem sc_Lnumber : FnScope N_Lnumber ["_law_state", "_law_least_here"] (sc s_Lnumber) := C8.fnScope_by (by decide +kernel)
theorem v_Lnumber_0 : (sc s_Lnumber).names.lookup ("_law_state" : Str) = some .local := by decide +kernel
theorem v_Lnumber_1 : (sc s_Lnumber).names.lookup ("_law_least_here" : Str) = some .local := by decide +kernel
theorem v_Lnumber_2 : (sc s_Lnumber).names.lookup ("_law_way" : Str) = some .local := by decide +kernel
theorem g_Lnumber__law_take : (sc s_Lnumber).names.lookup ("_law_take" : Str) = some .globalImplicit := by decide +kernel
abbrev s_Ltree : Stmt := topS 33
abbrev N_Ltree : List Str := ["_law_state", "_law_least_here", "_law_most", "_law_many", "_law_names_here", "_law_shape_here", "_law_ways", "_law_k", "_law_ahead", "_law_one", "_law_other"]
theorem sc_Ltree : FnScope N_Ltree ["_law_state", "_law_least_here", "_law_most"] (sc s_Ltree) := C8.fnScope_by (by decide +kernel)
theorem v_Ltree_0 : (sc s_Ltree).names.lookup ("_law_state" : Str) = some .local := by decide +kernel
theorem v_Ltree_1 : (sc s_Ltree).names.lookup ("_law_least_here" : Str) = some .local := by decide +kernel
theorem v_Ltree_2 : (sc s_Ltree).names.lookup ("_law_most" : Str) = some .local := by decide +kernel
theorem v_Ltree_3 : (sc s_Ltree).names.lookup ("_law_many" : Str) = some .local := by decide +kernel
theorem v_Ltree_4 : (sc s_Ltree).names.lookup ("_law_names_here" : Str) = some .local := by decide +kernel
theorem v_Ltree_5 : (sc s_Ltree).names.lookup ("_law_shape_here" : Str) = some .local := by decide +kernel
theorem v_Ltree_6 : (sc s_Ltree).names.lookup ("_law_ways" : Str) = some .local := by decide +kernel
theorem v_Ltree_7 : (sc s_Ltree).names.lookup ("_law_k" : Str) = some .local := by decide +kernel
theorem v_Ltree_8 : (sc s_Ltree).names.lookup ("_law_ahead" : Str) = some .local := by decide +kernel
theorem v_Ltree_9 : (sc s_Ltree).names.lookup ("_law_one" : Str) = some .local := by decide +kernel
theorem v_Ltree_10 : (sc s_Ltree).names.lookup ("_law_other" : Str) = some .local := by decide +kernel
theorem g_Ltree__law_names : (sc s_Ltree).names.lookup ("_law_names" : Str) = some .globalImplicit := by decide +kernel
theorem g_Ltree__law_number : (sc s_Ltree).names.lookup ("_law_number" : Str) = some .globalImplicit := by decide +kernel
theorem g_Ltree__law_take : (sc s_Ltree).names.lookup ("_law_take" : Str) = some .globalImplicit := by decide +kernel
theorem g_Ltree_max : (sc s_Ltree).names.lookup ("max" : Str) = some .globalImplicit := by decide +kernel
theorem g_Ltree_range : (sc s_Ltree).names.lookup ("range" : Str) = some .globalImplicit := by decide +kernel
theorem g_Ltree_sorted : (sc s_Ltree).names.lookup ("sorted" : Str) = some .globalImplicit := by decide +kernel
theorem g_Ltree_tuple : (sc s_Ltree).names.lookup ("tuple" : Str) = some .globalImplicit := by decide +kernel
abbrev s_Lsome : Stmt := topS 34
abbrev N_Lsome : List Str := ["_law_state", "_law_places", "_law_most", "_law_many", "_law_k"]
theorem sc_Lsome : FnScope N_Lsome ["_law_state", "_law_places", "_law_most"] (sc s_Lsome) := C8.fnScope_by (by decide +kernel)
theorem v_Lsome_0 : (sc s_Lsome).names.lookup ("_law_state" : Str) = some .local := by decide +kernel
theorem v_Lsome_1 : (sc s_Lsome).names.lookup ("_law_places" : Str) = some .cell := by decide +kernel
theorem v_Lsome_2 : (sc s_Lsome).names.lookup ("_law_most" : Str) = some .local := by decide +kernel
theorem v_Lsome_3 : (sc s_Lsome).names.lookup ("_law_many" : Str) = some .local := by decide +kernel
theorem g_Lsome__law_order : (sc s_Lsome).names.lookup ("_law_order" : Str) = some .globalImplicit := by decide +kernel
theorem g_Lsome__law_take : (sc s_Lsome).names.lookup ("_law_take" : Str) = some .globalImplicit := by decide +kernel
theorem g_Lsome_len : (sc s_Lsome).names.lookup ("len" : Str) = some .globalImplicit := by decide +kernel
theorem g_Lsome_min : (sc s_Lsome).names.lookup ("min" : Str) = some .globalImplicit := by decide +kernel
theorem g_Lsome_sorted : (sc s_Lsome).names.lookup ("sorted" : Str) = some .globalImplicit := by decide +kernel
abbrev s_Lcase : Stmt := topS 35
abbrev N_Lcase : List Str := ["_law_state", "_law_here", "_law_sites", "_law_folk", "_law_some_here", "_law_live", "_law_limit", "_law_place"]
theorem sc_Lcase : FnScope N_Lcase ["_law_state", "_law_here", "_law_sites", "_law_folk"] (sc s_Lcase) := C8.fnScope_by (by decide +kernel)
theorem v_Lcase_0 : (sc s_Lcase).names.lookup ("_law_state" : Str) = some .cell := by decide +kernel
theorem v_Lcase_1 : (sc s_Lcase).names.lookup ("_law_here" : Str) = some .local := by decide +kernel
theorem v_Lcase_2 : (sc s_Lcase).names.lookup ("_law_sites" : Str) = some .local := by decide +kernel
theorem v_Lcase_3 : (sc s_Lcase).names.lookup ("_law_folk" : Str) = some .local := by decide +kernel
theorem v_Lcase_4 : (sc s_Lcase).names.lookup ("_law_some_here" : Str) = some .local := by decide +kernel
theorem v_Lcase_5 : (sc s_Lcase).names.lookup ("_law_live" : Str) = some .local := by decide +kernel
theorem v_Lcase_6 : (sc s_Lcase).names.lookup ("_law_limit" : Str) = some .local := by decide +kernel
theorem g_Lcase__law_some : (sc s_Lcase).names.lookup ("_law_some" : Str) = some .globalImplicit := by decide +kernel
theorem g_Lcase__law_take : (sc s_Lcase).names.lookup ("_law_take" : Str) = some .globalImplicit := by decide +kernel
theorem g_Lcase_len : (sc s_Lcase).names.lookup ("len" : Str) = some .globalImplicit := by decide +kernel
theorem g_Lcase_tuple : (sc s_Lcase).names.lookup ("tuple" : Str) = some .globalImplicit := by decide +kernel
abbrev s_Lnear : Stmt := topS 36
abbrev N_Lnear : List Str := ["_law_here", "_law_found", "_law_place", "_law_one", "_law_other", "_law_length"]
theorem sc_Lnear : FnScope N_Lnear ["_law_here"] (sc s_Lnear) := C8.fnScope_by (by decide +kernel)
theorem v_Lnear_0 : (sc s_Lnear).names.lookup ("_law_here" : Str) = some .local := by decide +kernel
theorem v_Lnear_1 : (sc s_Lnear).names.lookup ("_law_found" : Str) = some .local := by decide +kernel
theorem v_Lnear_2 : (sc s_Lnear).names.lookup ("_law_place" : Str) = some .local := by decide +kernel
theorem v_Lnear_3 : (sc s_Lnear).names.lookup ("_law_one" : Str) = some .local := by decide +kernel
theorem v_Lnear_4 : (sc s_Lnear).names.lookup ("_law_other" : Str) = some .local := by decide +kernel
theorem v_Lnear_5 : (sc s_Lnear).names.lookup ("_law_length" : Str) = some .local := by decide +kernel
abbrev s_Lfars : Stmt := topS 37
abbrev N_Lfars : List Str := ["_law_here", "_law_start", "_law_near_here", "_law_found", "_law_waiting", "_law_place", "_law_other", "_law_length"]
theorem sc_Lfars : FnScope N_Lfars ["_law_here", "_law_start"] (sc s_Lfars) := C8.fnScope_by (by decide +kernel)
theorem v_Lfars_0 : (sc s_Lfars).names.lookup ("_law_here" : Str) = some .local := by decide +kernel
theorem v_Lfars_1 : (sc s_Lfars).names.lookup ("_law_start" : Str) = some .local := by decide +kernel
theorem v_Lfars_2 : (sc s_Lfars).names.lookup ("_law_near_here" : Str) = some .local := by decide +kernel
theorem v_Lfars_3 : (sc s_Lfars).names.lookup ("_law_found" : Str) = some .local := by decide +kernel
theorem v_Lfars_4 : (sc s_Lfars).names.lookup ("_law_waiting" : Str) = some .local := by decide +kernel
theorem v_Lfars_5 : (sc s_Lfars).names.lookup ("_law_place" : Str) = some .local := by decide +kernel
theorem v_Lfars_6 : (sc s_Lfars).names.lookup ("_law_other" : Str) = some .local := by decide +kernel
theorem v_Lfars_7 : (sc s_Lfars).names.lookup ("_law_length" : Str) = some .local := by decide +kernel
theorem g_Lfars__law_near : (sc s_Lfars).names.lookup ("_law_near" : Str) = some .globalImplicit := by decide +kernel
abbrev s_Lunder : Stmt := topS 38
abbrev N_Lunder : List Str := ["_law_here", "_law_near_here", "_law_order_here", "_law_lower", "_law_under_here", "_law_at", "_law_place", "_law_child", "_law_other", "_law_length"]
theorem sc_Lunder : FnScope N_Lunder ["_law_here"] (sc s_Lunder) := C8.fnScope_by (by decide +kernel)
theorem v_Lunder_0 : (sc s_Lunder).names.lookup ("_law_here" : Str) = some .local := by decide +kernel
theorem v_Lunder_1 : (sc s_Lunder).names.lookup ("_law_near_here" : Str) = some .local := by decide +kernel
theorem v_Lunder_2 : (sc s_Lunder).names.lookup ("_law_order_here" : Str) = some .cell := by decide +kernel
theorem v_Lunder_3 : (sc s_Lunder).names.lookup ("_law_lower" : Str) = some .local := by decide +kernel
theorem v_Lunder_4 : (sc s_Lunder).names.lookup ("_law_under_here" : Str) = some .local := by decide +kernel
theorem v_Lunder_5 : (sc s_Lunder).names.lookup ("_law_at" : Str) = some .local := by decide +kernel
theorem v_Lunder_6 : (sc s_Lunder).names.lookup ("_law_place" : Str) = some .local := by decide +kernel
theorem v_Lunder_7 : (sc s_Lunder).names.lookup ("_law_child" : Str) = some .local := by decide +kernel
theorem g_Lunder__law_near : (sc s_Lunder).names.lookup ("_law_near" : Str) = some .globalImplicit := by decide +kernel
theorem g_Lunder_len : (sc s_Lunder).names.lookup ("len" : Str) = some .globalImplicit := by decide +kernel
theorem g_Lunder_sorted : (sc s_Lunder).names.lookup ("sorted" : Str) = some .globalImplicit := by decide +kernel
abbrev s_Lplus : Stmt := topS 39
abbrev N_Lplus : List Str := ["_law_one", "_law_other"]
theorem sc_Lplus : FnScope N_Lplus ["_law_one", "_law_other"] (sc s_Lplus) := C8.fnScope_by (by decide +kernel)
theorem v_Lplus_0 : (sc s_Lplus).names.lookup ("_law_one" : Str) = some .local := by decide +kernel
theorem v_Lplus_1 : (sc s_Lplus).names.lookup ("_law_other" : Str) = some .local := by decide +kernel
abbrev s_Lless : Stmt := topS 40
abbrev N_Lless : List Str := ["_law_one", "_law_other"]
theorem sc_Lless : FnScope N_Lless ["_law_one", "_law_other"] (sc s_Lless) := C8.fnScope_by (by decide +kernel)
theorem v_Lless_0 : (sc s_Lless).names.lookup ("_law_one" : Str) = some .local := by decide +kernel
theorem v_Lless_1 : (sc s_Lless).names.lookup ("_law_other" : Str) = some .local := by decide +kernel
abbrev s_Lmores : Stmt := topS 41
abbrev N_Lmores : List Str := ["_law_case_here"]
theorem sc_Lmores : FnScope N_Lmores ["_law_case_here"] (sc s_Lmores) := C8.fnScope_by (by decide +kernel)
theorem v_Lmores_0 : (sc s_Lmores).names.lookup ("_law_case_here" : Str) = some .local := by decide +kernel
theorem g_Lmores_len : (sc s_Lmores).names.lookup ("len" : Str) = some .globalImplicit := by decide +kernel
theorem g_Lmores_min : (sc s_Lmores).names.lookup ("min" : Str) = some .globalImplicit := by decide +kernel
abbrev s_Lkeys : Stmt := topS 42
abbrev N_Lkeys : List Str := ["_law_case_here", "_law_found", "_law_place", "_law_site", "_law_charge", "_law_more"]
theorem sc_Lkeys : FnScope N_Lkeys ["_law_case_here"] (sc s_Lkeys) := C8.fnScope_by (by decide +kernel)
theorem v_Lkeys_0 : (sc s_Lkeys).names.lookup ("_law_case_here" : Str) = some .local := by decide +kernel
theorem v_Lkeys_1 : (sc s_Lkeys).names.lookup ("_law_found" : Str) = some .local := by decide +kernel
theorem v_Lkeys_2 : (sc s_Lkeys).names.lookup ("_law_place" : Str) = some .local := by decide +kernel
theorem v_Lkeys_3 : (sc s_Lkeys).names.lookup ("_law_site" : Str) = some .local := by decide +kernel
theorem v_Lkeys_4 : (sc s_Lkeys).names.lookup ("_law_charge" : Str) = some .local := by decide +kernel
theorem v_Lkeys_5 : (sc s_Lkeys).names.lookup ("_law_more" : Str) = some .local := by decide +kernel
theorem g_Lkeys__law_mores : (sc s_Lkeys).names.lookup ("_law_mores" : Str) = some .globalImplicit := by decide +kernel
theorem g_Lkeys_range : (sc s_Lkeys).names.lookup ("range" : Str) = some .globalImplicit := by decide +kernel
abbrev s_Lbegun : Stmt := topS 43
abbrev N_Lbegun : List Str := ["_law_case_here", "_law_under_here", "_law_numbers", "_law_place", "_law_houses", "_law_found", "_law_site", "_law_charge"]
theorem sc_Lbegun : FnScope N_Lbegun ["_law_case_here", "_law_under_here", "_law_numbers", "_law_place", "_law_houses"] (sc s_Lbegun) := C8.fnScope_by (by decide +kernel)
theorem v_Lbegun_0 : (sc s_Lbegun).names.lookup ("_law_case_here" : Str) = some .local := by decide +kernel
theorem v_Lbegun_1 : (sc s_Lbegun).names.lookup ("_law_under_here" : Str) = some .local := by decide +kernel
theorem v_Lbegun_2 : (sc s_Lbegun).names.lookup ("_law_numbers" : Str) = some .local := by decide +kernel
theorem v_Lbegun_3 : (sc s_Lbegun).names.lookup ("_law_place" : Str) = some .local := by decide +kernel
theorem v_Lbegun_4 : (sc s_Lbegun).names.lookup ("_law_houses" : Str) = some .local := by decide +kernel
theorem v_Lbegun_5 : (sc s_Lbegun).names.lookup ("_law_found" : Str) = some .local := by decide +kernel
theorem v_Lbegun_6 : (sc s_Lbegun).names.lookup ("_law_site" : Str) = some .local := by decide +kernel
theorem v_Lbegun_7 : (sc s_Lbegun).names.lookup ("_law_charge" : Str) = some .local := by decide +kernel
theorem g_Lbegun__law_less : (sc s_Lbegun).names.lookup ("_law_less" : Str) = some .globalImplicit := by decide +kernel
theorem g_Lbegun__law_plus : (sc s_Lbegun).names.lookup ("_law_plus" : Str) = some .globalImplicit := by decide +kernel
abbrev s_Lhanded : Stmt := topS 44
abbrev N_Lhanded : List Str := ["_law_case_here", "_law_under_here", "_law_numbers", "_law_child", "_law_site", "_law_more", "_law_found"]
theorem sc_Lhanded : FnScope N_Lhanded ["_law_case_here", "_law_under_here", "_law_numbers", "_law_child", "_law_site", "_law_more"] (sc s_Lhanded) := C8.fnScope_by (by decide +kernel)
theorem v_Lhanded_0 : (sc s_Lhanded).names.lookup ("_law_case_here" : Str) = some .local := by decide +kernel
theorem v_Lhanded_1 : (sc s_Lhanded).names.lookup ("_law_under_here" : Str) = some .local := by decide +kernel
theorem v_Lhanded_2 : (sc s_Lhanded).names.lookup ("_law_numbers" : Str) = some .local := by decide +kernel
theorem v_Lhanded_3 : (sc s_Lhanded).names.lookup ("_law_child" : Str) = some .local := by decide +kernel
theorem v_Lhanded_4 : (sc s_Lhanded).names.lookup ("_law_site" : Str) = some .local := by decide +kernel
theorem v_Lhanded_5 : (sc s_Lhanded).names.lookup ("_law_more" : Str) = some .local := by decide +kernel
theorem v_Lhanded_6 : (sc s_Lhanded).names.lookup ("_law_found" : Str) = some .local := by decide +kernel
theorem g_Lhanded__law_begun : (sc s_Lhanded).names.lookup ("_law_begun" : Str) = some .globalImplicit := by decide +kernel
theorem g_Lhanded__law_less : (sc s_Lhanded).names.lookup ("_law_less" : Str) = some .globalImplicit := by decide +kernel
abbrev s_Lshape : Stmt := topS 45
abbrev N_Lshape : List Str := ["_law_case_here", "_law_lower", "_law_under_here", "_law_far_of", "_law_site", "_law_charge"]
theorem sc_Lshape : FnScope N_Lshape ["_law_case_here"] (sc s_Lshape) := C8.fnScope_by (by decide +kernel)
theorem v_Lshape_0 : (sc s_Lshape).names.lookup ("_law_case_here" : Str) = some .local := by decide +kernel
theorem v_Lshape_1 : (sc s_Lshape).names.lookup ("_law_lower" : Str) = some .local := by decide +kernel
theorem v_Lshape_2 : (sc s_Lshape).names.lookup ("_law_under_here" : Str) = some .local := by decide +kernel
theorem v_Lshape_3 : (sc s_Lshape).names.lookup ("_law_far_of" : Str) = some .local := by decide +kernel
theorem v_Lshape_4 : (sc s_Lshape).names.lookup ("_law_site" : Str) = some .local := by decide +kernel
theorem v_Lshape_5 : (sc s_Lshape).names.lookup ("_law_charge" : Str) = some .local := by decide +kernel
theorem g_Lshape__law_fars : (sc s_Lshape).names.lookup ("_law_fars" : Str) = some .globalImplicit := by decide +kernel
theorem g_Lshape__law_under : (sc s_Lshape).names.lookup ("_law_under" : Str) = some .globalImplicit := by decide +kernel
abbrev s_Ldue : Stmt := topS 46
abbrev N_Ldue : List Str := ["_law_case_here", "_law_shape_here", "_law_numbers", "_law_key", "_law_lower", "_law_under_here", "_law_far_of", "_law_place", "_law_site", "_law_more", "_law_sums", "_law_child", "_law_one", "_law_row", "_law_houses", "_law_least_here", "_law_part", "_law_own"]
theorem sc_Ldue : FnScope N_Ldue ["_law_case_here", "_law_shape_here", "_law_numbers", "_law_key"] (sc s_Ldue) := C8.fnScope_by (by decide +kernel)
theorem v_Ldue_0 : (sc s_Ldue).names.lookup ("_law_case_here" : Str) = some .cell := by decide +kernel
theorem v_Ldue_1 : (sc s_Ldue).names.lookup ("_law_shape_here" : Str) = some .local := by decide +kernel
theorem v_Ldue_2 : (sc s_Ldue).names.lookup ("_law_numbers" : Str) = some .cell := by decide +kernel
theorem v_Ldue_3 : (sc s_Ldue).names.lookup ("_law_key" : Str) = some .local := by decide +kernel
theorem v_Ldue_4 : (sc s_Ldue).names.lookup ("_law_lower" : Str) = some .local := by decide +kernel
theorem v_Ldue_5 : (sc s_Ldue).names.lookup ("_law_under_here" : Str) = some .cell := by decide +kernel
theorem v_Ldue_6 : (sc s_Ldue).names.lookup ("_law_far_of" : Str) = some .local := by decide +kernel
theorem v_Ldue_7 : (sc s_Ldue).names.lookup ("_law_place" : Str) = some .local := by decide +kernel
theorem v_Ldue_8 : (sc s_Ldue).names.lookup ("_law_site" : Str) = some .cell := by decide +kernel
theorem v_Ldue_9 : (sc s_Ldue).names.lookup ("_law_more" : Str) = some .local := by decide +kernel
theorem v_Ldue_10 : (sc s_Ldue).names.lookup ("_law_sums" : Str) = some .local := by decide +kernel
theorem v_Ldue_11 : (sc s_Ldue).names.lookup ("_law_child" : Str) = some .cell := by decide +kernel
theorem v_Ldue_12 : (sc s_Ldue).names.lookup ("_law_one" : Str) = some .local := by decide +kernel
theorem v_Ldue_13 : (sc s_Ldue).names.lookup ("_law_row" : Str) = some .local := by decide +kernel
theorem v_Ldue_14 : (sc s_Ldue).names.lookup ("_law_houses" : Str) = some .local := by decide +kernel
theorem v_Ldue_15 : (sc s_Ldue).names.lookup ("_law_least_here" : Str) = some .local := by decide +kernel
theorem v_Ldue_16 : (sc s_Ldue).names.lookup ("_law_part" : Str) = some .local := by decide +kernel
theorem v_Ldue_17 : (sc s_Ldue).names.lookup ("_law_own" : Str) = some .local := by decide +kernel
theorem g_Ldue__law_less : (sc s_Ldue).names.lookup ("_law_less" : Str) = some .globalImplicit := by decide +kernel
theorem g_Ldue__law_plus : (sc s_Ldue).names.lookup ("_law_plus" : Str) = some .globalImplicit := by decide +kernel
theorem g_Ldue_dict : (sc s_Ldue).names.lookup ("dict" : Str) = some .globalImplicit := by decide +kernel
theorem g_Ldue_list : (sc s_Ldue).names.lookup ("list" : Str) = some .globalImplicit := by decide +kernel
theorem g_Ldue_range : (sc s_Ldue).names.lookup ("range" : Str) = some .globalImplicit := by decide +kernel
abbrev s_Lopenings : Stmt := topS 47
abbrev N_Lopenings : List Str := ["_law_case_here", "_law_found", "_law_site", "_law_charge", "_law_one"]
theorem sc_Lopenings : FnScope N_Lopenings ["_law_case_here"] (sc s_Lopenings) := C8.fnScope_by (by decide +kernel)
theorem v_Lopenings_0 : (sc s_Lopenings).names.lookup ("_law_case_here" : Str) = some .cell := by decide +kernel
theorem v_Lopenings_1 : (sc s_Lopenings).names.lookup ("_law_found" : Str) = some .local := by decide +kernel
theorem v_Lopenings_2 : (sc s_Lopenings).names.lookup ("_law_site" : Str) = some .cell := by decide +kernel
theorem v_Lopenings_3 : (sc s_Lopenings).names.lookup ("_law_charge" : Str) = some .local := by decide +kernel
abbrev s_Lcost : Stmt := topS 48
abbrev N_Lcost : List Str := ["_law_case_here", "_law_far_of", "_law_opening", "_law_costs", "_law_found", "_law_place", "_law_many", "_law_site"]
theorem sc_Lcost : FnScope N_Lcost ["_law_case_here", "_law_far_of", "_law_opening"] (sc s_Lcost) := C8.fnScope_by (by decide +kernel)
theorem v_Lcost_0 : (sc s_Lcost).names.lookup ("_law_case_here" : Str) = some .local := by decide +kernel
theorem v_Lcost_1 : (sc s_Lcost).names.lookup ("_law_far_of" : Str) = some .cell := by decide +kernel
theorem v_Lcost_2 : (sc s_Lcost).names.lookup ("_law_opening" : Str) = some .local := by decide +kernel
theorem v_Lcost_3 : (sc s_Lcost).names.lookup ("_law_costs" : Str) = some .cell := by decide +kernel
theorem v_Lcost_4 : (sc s_Lcost).names.lookup ("_law_found" : Str) = some .local := by decide +kernel
theorem v_Lcost_5 : (sc s_Lcost).names.lookup ("_law_place" : Str) = some .cell := by decide +kernel
theorem v_Lcost_6 : (sc s_Lcost).names.lookup ("_law_many" : Str) = some .local := by decide +kernel
theorem g_Lcost_dict : (sc s_Lcost).names.lookup ("dict" : Str) = some .globalImplicit := by decide +kernel
theorem g_Lcost_list : (sc s_Lcost).names.lookup ("list" : Str) = some .globalImplicit := by decide +kernel
theorem g_Lcost_min : (sc s_Lcost).names.lookup ("min" : Str) = some .globalImplicit := by decide +kernel
theorem g_Lcost_sum : (sc s_Lcost).names.lookup ("sum" : Str) = some .globalImplicit := by decide +kernel
abbrev s_Lleast : Stmt := topS 49
abbrev N_Lleast : List Str := ["_law_case_here", "_law_far_of", "_law_site", "_law_charge", "_law_opening"]
theorem sc_Lleast : FnScope N_Lleast ["_law_case_here"] (sc s_Lleast) := C8.fnScope_by (by decide +kernel)
theorem v_Lleast_0 : (sc s_Lleast).names.lookup ("_law_case_here" : Str) = some .cell := by decide +kernel
theorem v_Lleast_1 : (sc s_Lleast).names.lookup ("_law_far_of" : Str) = some .cell := by decide +kernel
theorem v_Lleast_2 : (sc s_Lleast).names.lookup ("_law_site" : Str) = some .local := by decide +kernel
theorem v_Lleast_3 : (sc s_Lleast).names.lookup ("_law_charge" : Str) = some .local := by decide +kernel
theorem g_Lleast__law_fars : (sc s_Lleast).names.lookup ("_law_fars" : Str) = some .globalImplicit := by decide +kernel
theorem g_Lleast__law_openings : (sc s_Lleast).names.lookup ("_law_openings" : Str) = some .globalImplicit := by decide +kernel
theorem g_Lleast_min : (sc s_Lleast).names.lookup ("min" : Str) = some .globalImplicit := by decide +kernel
abbrev s_Lwritten : Stmt := topS 50
abbrev N_Lwritten : List Str := ["_law_state", "_law_due_here", "_law_way"]
theorem sc_Lwritten : FnScope N_Lwritten ["_law_state", "_law_due_here"] (sc s_Lwritten) := C8.fnScope_by (by decide +kernel)
theorem v_Lwritten_0 : (sc s_Lwritten).names.lookup ("_law_state" : Str) = some .local := by decide +kernel
theorem v_Lwritten_1 : (sc s_Lwritten).names.lookup ("_law_due_here" : Str) = some .local := by decide +kernel
theorem v_Lwritten_2 : (sc s_Lwritten).names.lookup ("_law_way" : Str) = some .local := by decide +kernel
theorem g_Lwritten__law_number : (sc s_Lwritten).names.lookup ("_law_number" : Str) = some .globalImplicit := by decide +kernel
theorem g_Lwritten__law_take : (sc s_Lwritten).names.lookup ("_law_take" : Str) = some .globalImplicit := by decide +kernel
theorem g_Lwritten_max : (sc s_Lwritten).names.lookup ("max" : Str) = some .globalImplicit := by decide +kernel
abbrev s_Lfloor : Stmt := topS 51
abbrev N_Lfloor : List Str := ["_law_state", "_law_case_here", "_law_shape_here", "_law_lower", "_law_under_here", "_law_far_of", "_law_numbers", "_law_size", "_law_place", "_law_site", "_law_charge", "_law_more", "_law_key"]
theorem sc_Lfloor : FnScope N_Lfloor ["_law_state", "_law_case_here", "_law_shape_here"] (sc s_Lfloor) := C8.fnScope_by (by decide +kernel)
theorem v_Lfloor_0 : (sc s_Lfloor).names.lookup ("_law_state" : Str) = some .local := by decide +kernel
theorem v_Lfloor_1 : (sc s_Lfloor).names.lookup ("_law_case_here" : Str) = some .local := by decide +kernel
theorem v_Lfloor_2 : (sc s_Lfloor).names.lookup ("_law_shape_here" : Str) = some .local := by decide +kernel
theorem v_Lfloor_3 : (sc s_Lfloor).names.lookup ("_law_lower" : Str) = some .local := by decide +kernel
theorem v_Lfloor_4 : (sc s_Lfloor).names.lookup ("_law_under_here" : Str) = some .cell := by decide +kernel
theorem v_Lfloor_5 : (sc s_Lfloor).names.lookup ("_law_far_of" : Str) = some .local := by decide +kernel
theorem v_Lfloor_6 : (sc s_Lfloor).names.lookup ("_law_numbers" : Str) = some .local := by decide +kernel
theorem v_Lfloor_7 : (sc s_Lfloor).names.lookup ("_law_size" : Str) = some .local := by decide +kernel
theorem v_Lfloor_8 : (sc s_Lfloor).names.lookup ("_law_place" : Str) = some .local := by decide +kernel
theorem v_Lfloor_9 : (sc s_Lfloor).names.lookup ("_law_site" : Str) = some .local := by decide +kernel
theorem v_Lfloor_10 : (sc s_Lfloor).names.lookup ("_law_charge" : Str) = some .local := by decide +kernel
theorem v_Lfloor_11 : (sc s_Lfloor).names.lookup ("_law_more" : Str) = some .local := by decide +kernel
theorem v_Lfloor_12 : (sc s_Lfloor).names.lookup ("_law_key" : Str) = some .local := by decide +kernel
theorem g_Lfloor__law_due : (sc s_Lfloor).names.lookup ("_law_due" : Str) = some .globalImplicit := by decide +kernel
theorem g_Lfloor__law_mores : (sc s_Lfloor).names.lookup ("_law_mores" : Str) = some .globalImplicit := by decide +kernel
theorem g_Lfloor__law_written : (sc s_Lfloor).names.lookup ("_law_written" : Str) = some .globalImplicit := by decide +kernel
theorem g_Lfloor_range : (sc s_Lfloor).names.lookup ("range" : Str) = some .globalImplicit := by decide +kernel
theorem g_Lfloor_sorted : (sc s_Lfloor).names.lookup ("sorted" : Str) = some .globalImplicit := by decide +kernel
abbrev s_Ljudged : Stmt := topS 52
abbrev N_Ljudged : List Str := ["_law_case_here", "_law_shape_here", "_law_numbers", "_law_key", "_law_due_here"]
theorem sc_Ljudged : FnScope N_Ljudged ["_law_case_here", "_law_shape_here", "_law_numbers"] (sc s_Ljudged) := C8.fnScope_by (by decide +kernel)
theorem v_Ljudged_0 : (sc s_Ljudged).names.lookup ("_law_case_here" : Str) = some .local := by decide +kernel
theorem v_Ljudged_1 : (sc s_Ljudged).names.lookup ("_law_shape_here" : Str) = some .local := by decide +kernel
theorem v_Ljudged_2 : (sc s_Ljudged).names.lookup ("_law_numbers" : Str) = some .local := by decide +kernel
theorem v_Ljudged_3 : (sc s_Ljudged).names.lookup ("_law_key" : Str) = some .local := by decide +kernel
theorem v_Ljudged_4 : (sc s_Ljudged).names.lookup ("_law_due_here" : Str) = some .local := by decide +kernel
theorem g_Ljudged__law_due : (sc s_Ljudged).names.lookup ("_law_due" : Str) = some .globalImplicit := by decide +kernel
theorem g_Ljudged__law_keys : (sc s_Ljudged).names.lookup ("_law_keys" : Str) = some .globalImplicit := by decide +kernel
abbrev s_Lbent : Stmt := topS 53
abbrev N_Lbent : List Str := ["_law_state", "_law_number_here", "_law_way"]
theorem sc_Lbent : FnScope N_Lbent ["_law_state", "_law_number_here"] (sc s_Lbent) := C8.fnScope_by (by decide +kernel)
theorem v_Lbent_0 : (sc s_Lbent).names.lookup ("_law_state" : Str) = some .local := by decide +kernel
theorem v_Lbent_1 : (sc s_Lbent).names.lookup ("_law_number_here" : Str) = some .local := by decide +kernel
theorem v_Lbent_2 : (sc s_Lbent).names.lookup ("_law_way" : Str) = some .local := by decide +kernel
theorem g_Lbent__law_number : (sc s_Lbent).names.lookup ("_law_number" : Str) = some .globalImplicit := by decide +kernel
theorem g_Lbent__law_take : (sc s_Lbent).names.lookup ("_law_take" : Str) = some .globalImplicit := by decide +kernel
theorem g_Lbent_max : (sc s_Lbent).names.lookup ("max" : Str) = some .globalImplicit := by decide +kernel
abbrev s_Lbounds : Stmt := topS 54
abbrev N_Lbounds : List Str := ["_law_case_here", "_law_shape_here", "_law_numbers", "_law_table", "_law_lowest", "_law_houses", "_law_found", "_law_key"]
theorem sc_Lbounds : FnScope N_Lbounds ["_law_case_here", "_law_shape_here", "_law_numbers"] (sc s_Lbounds) := C8.fnScope_by (by decide +kernel)
theorem v_Lbounds_0 : (sc s_Lbounds).names.lookup ("_law_case_here" : Str) = some .local := by decide +kernel
theorem v_Lbounds_1 : (sc s_Lbounds).names.lookup ("_law_shape_here" : Str) = some .local := by decide +kernel
theorem v_Lbounds_2 : (sc s_Lbounds).names.lookup ("_law_numbers" : Str) = some .cell := by decide +kernel
theorem v_Lbounds_3 : (sc s_Lbounds).names.lookup ("_law_table" : Str) = some .local := by decide +kernel
theorem v_Lbounds_4 : (sc s_Lbounds).names.lookup ("_law_lowest" : Str) = some .local := by decide +kernel
theorem v_Lbounds_5 : (sc s_Lbounds).names.lookup ("_law_houses" : Str) = some .local := by decide +kernel
theorem v_Lbounds_6 : (sc s_Lbounds).names.lookup ("_law_found" : Str) = some .local := by decide +kernel
theorem g_Lbounds__law_begun : (sc s_Lbounds).names.lookup ("_law_begun" : Str) = some .globalImplicit := by decide +kernel
theorem g_Lbounds__law_keys : (sc s_Lbounds).names.lookup ("_law_keys" : Str) = some .globalImplicit := by decide +kernel
theorem g_Lbounds__law_least : (sc s_Lbounds).names.lookup ("_law_least" : Str) = some .globalImplicit := by decide +kernel
theorem g_Lbounds__law_less : (sc s_Lbounds).names.lookup ("_law_less" : Str) = some .globalImplicit := by decide +kernel
theorem g_Lbounds__law_mores : (sc s_Lbounds).names.lookup ("_law_mores" : Str) = some .globalImplicit := by decide +kernel
theorem g_Lbounds_bool : (sc s_Lbounds).names.lookup ("bool" : Str) = some .globalImplicit := by decide +kernel
theorem g_Lbounds_int : (sc s_Lbounds).names.lookup ("int" : Str) = some .globalImplicit := by decide +kernel
theorem g_Lbounds_isinstance : (sc s_Lbounds).names.lookup ("isinstance" : Str) = some .globalImplicit := by decide +kernel
theorem g_Lbounds_low_of : (sc s_Lbounds).names.lookup ("low_of" : Str) = some .globalImplicit := by decide +kernel
theorem g_Lbounds_range : (sc s_Lbounds).names.lookup ("range" : Str) = some .globalImplicit := by decide +kernel
abbrev s_law : Stmt := topS 55
abbrev N_law : List Str := ["_law_script", "_law_state", "_law_here", "_law_case_here", "_law_shape_here", "_law_keys_here", "_law_numbers", "_law_turn", "_law_key", "_law_due_here", "_law_table", "_law_given", "_law_told"]
theorem sc_law : FnScope N_law ["_law_script"] (sc s_law) := C8.fnScope_by (by decide +kernel)
theorem v_law_0 : (sc s_law).names.lookup ("_law_script" : Str) = some .local := by decide +kernel
theorem v_law_1 : (sc s_law).names.lookup ("_law_state" : Str) = some .local := by decide +kernel
theorem v_law_2 : (sc s_law).names.lookup ("_law_here" : Str) = some .local := by decide +kernel
theorem v_law_3 : (sc s_law).names.lookup ("_law_case_here" : Str) = some .local := by decide +kernel
theorem v_law_4 : (sc s_law).names.lookup ("_law_shape_here" : Str) = some .local := by decide +kernel
theorem v_law_5 : (sc s_law).names.lookup ("_law_keys_here" : Str) = some .local := by decide +kernel
theorem v_law_6 : (sc s_law).names.lookup ("_law_numbers" : Str) = some .cell := by decide +kernel
theorem v_law_7 : (sc s_law).names.lookup ("_law_turn" : Str) = some .local := by decide +kernel
theorem v_law_8 : (sc s_law).names.lookup ("_law_key" : Str) = some .local := by decide +kernel
theorem v_law_9 : (sc s_law).names.lookup ("_law_due_here" : Str) = some .local := by decide +kernel
theorem v_law_10 : (sc s_law).names.lookup ("_law_table" : Str) = some .local := by decide +kernel
theorem v_law_11 : (sc s_law).names.lookup ("_law_given" : Str) = some .local := by decide +kernel
theorem v_law_12 : (sc s_law).names.lookup ("_law_told" : Str) = some .local := by decide +kernel
theorem g_law__law_begin : (sc s_law).names.lookup ("_law_begin" : Str) = some .globalImplicit := by decide +kernel
theorem g_law__law_bent : (sc s_law).names.lookup ("_law_bent" : Str) = some .globalImplicit := by decide +kernel
theorem g_law__law_bounds : (sc s_law).names.lookup ("_law_bounds" : Str) = some .globalImplicit := by decide +kernel
theorem g_law__law_case : (sc s_law).names.lookup ("_law_case" : Str) = some .globalImplicit := by decide +kernel
theorem g_law__law_floor : (sc s_law).names.lookup ("_law_floor" : Str) = some .globalImplicit := by decide +kernel
theorem g_law__law_judged : (sc s_law).names.lookup ("_law_judged" : Str) = some .globalImplicit := by decide +kernel
theorem g_law__law_keys : (sc s_law).names.lookup ("_law_keys" : Str) = some .globalImplicit := by decide +kernel
theorem g_law__law_shape : (sc s_law).names.lookup ("_law_shape" : Str) = some .globalImplicit := by decide +kernel
theorem g_law__law_take : (sc s_law).names.lookup ("_law_take" : Str) = some .globalImplicit := by decide +kernel
theorem g_law__law_tree : (sc s_law).names.lookup ("_law_tree" : Str) = some .globalImplicit := by decide +kernel
theorem g_law_bool : (sc s_law).names.lookup ("bool" : Str) = some .globalImplicit := by decide +kernel
theorem g_law_holds : (sc s_law).names.lookup ("holds" : Str) = some .globalImplicit := by decide +kernel
theorem g_law_isinstance : (sc s_law).names.lookup ("isinstance" : Str) = some .globalImplicit := by decide +kernel
theorem g_law_len : (sc s_law).names.lookup ("len" : Str) = some .globalImplicit := by decide +kernel
theorem g_law_list : (sc s_law).names.lookup ("list" : Str) = some .globalImplicit := by decide +kernel
theorem g_law_range : (sc s_law).names.lookup ("range" : Str) = some .globalImplicit := by decide +kernel
end OH

/-! Heaps, data, short words. -/
namespace OH
open PySem PySem.Spec PyProof.Rows L2

abbrev St := L2.St
/-- None or a number -/
def oV : Option Int → V
  | none => .non
  | some i => .int i
theorem oV_inj {a b : Option Int} (h : oV a = oV b) : a = b := by
  cases a <;> cases b <;> cases h <;> rfl
theorem same_new {H : Hp} {p : Addr} {o : HO} (h : H p = none) : Same H (upd H p o) := fun b x e => by
  rw [upd_ne (ne_of_none e h)]
  exact e
theorem same_mut {H H' : Hp} {p : Addr} {o : HO} (e : Same H H') (h : H p = none) : Same H (upd H' p o) := fun a u ha => by
  rw [upd_ne (ne_of_none ha h)]
  exact e a u ha
/-- a new object, by what is known of it -/
theorem new_obj {H : Hp} {p : Addr} {o : HO} {C : Hp → Prop} (hp : H p = none) (h : ∀ H1, Same H H1 → H1 p = some o → C H1) : C (upd H p o) := h _ (same_new hp) upd_same
/-- all but x kept -/
def Ext (x : Addr) (H H' : Hp) : Prop := ∀ b o, H b = some o → b ≠ x → H' b = some o
theorem Ext.refl (x : Addr) (H : Hp) : Ext x H H := fun _ _ h _ => h
theorem Ext.trans {x : Addr} {H H1 H2 : Hp} (a : Ext x H H1) (b : Ext x H1 H2) : Ext x H H2 := fun c o h n => b c o (a c o h n) n
theorem Ext.of {x : Addr} {H H' : Hp} (s : Same H H') : Ext x H H' := fun b o h _ => s b o h
theorem Ext.upd {x : Addr} {H : Hp} {o : HO} : Ext x H (L2.upd H x o) := fun b u h n => by rw [upd_ne n]; exact h
theorem Ext.mut {x p : Addr} {H H' : Hp} {o : HO} (e : Ext x H H') (hp : H p = none) : Ext x H (L2.upd H' p o) := fun b u h n => by rw [upd_ne (ne_of_none h hp)]; exact e b u h n
/-- a change of one object: the rest stays -/
theorem chg {H : Hp} {p : Addr} {o : HO} {C : Hp → Prop} (h : ∀ H1, Ext p H H1 → H1 p = some o → (∀ b, b ≠ p → H1 b = H b) → C H1) : C (upd H p o) := h _ Ext.upd upd_same fun b n => upd_ne n
theorem Same.mut_of {H H1 H2 : Hp} {p : Addr} (e : Same H H1) (hp : H p = none) (x : Ext p H1 H2) : Same H H2 := fun b o h => x b o (e b o h) (ne_of_none h hp)
theorem Ext.mut_of {x p : Addr} {H H1 H2 : Hp} (e : Ext x H H1) (hp : H p = none) (k : Ext p H1 H2) : Ext x H H2 := fun b o h n => k b o (e b o h n) (ne_of_none h hp)
/-- tuples stay -/
def Tk (H H' : Hp) : Prop := ∀ b xs, H b = some (.tup xs) → H' b = some (.tup xs)
theorem Tk.refl (H : Hp) : Tk H H := fun _ _ h => h
theorem Tk.trans {H H1 H2 : Hp} (a : Tk H H1) (b : Tk H1 H2) : Tk H H2 := fun c o h => b c o (a c o h)
theorem tk_same {H H' : Hp} (s : Same H H') : Tk H H' := fun b xs h => s b _ h
def NoTup (o : HO) : Prop := ∀ xs, o ≠ .tup xs
theorem nt_lst {xs : List V} : NoTup (.lst xs) := fun _ h => by cases h
theorem nt_dK {xs : List (Key × V)} : NoTup (.dK xs) := fun _ h => by cases h
theorem nt_dT {xs : List (List Key × V)} : NoTup (.dT xs) := fun _ h => by cases h
theorem tk_ext {x : Addr} {H H' : Hp} {o : HO} (s : Ext x H H') (h : H x = some o) (n : NoTup o) : Tk H H' := fun b xs e => s b _ e fun z => by
  subst z
  rw [h] at e
  exact n xs (Option.some.inj e)
/-- a list or a tuple that is read, behind an extension -/
theorem Ext.seq {K : PySem.W.Frag} {x a : Addr} {H H' : Hp} {xs : List V} (e : Ext x H H') (n : a ≠ x) (h : SqL K H a xs) : SqL K H' a xs := by
  rcases h with (h | ⟨o, h⟩) | h
  · exact .inl (.inl (e _ _ h n))
  · exact .inl (.inr ⟨o, e _ _ h n⟩)
  · exact .inr h

/-! ### rows -/
def wayV (e : Str × Str × Int) : List V := [.str e.1, .str e.2.1, .int e.2.2]
def pairV (e : Str × Int) : List V := [.str e.1, .int e.2]
def keyV (e : Str × Str × Nat) : List V := [.str e.1, .str e.2.1, .int (e.2.2 : Int)]
def keyK (e : Str × Str × Nat) : List Key := [.inr e.1, .inr e.2.1, .inl (e.2.2 : Int)]
theorem keyV_eq (e : Str × Str × Nat) : keyV e = (keyK e).map kV := rfl
/-- tuples stand at some addresses -/
abbrev Tups (H : Hp) (as : List Addr) (rows : List (List V)) : Prop := Paired (fun a r => H a = some (.tup r)) as rows
theorem Tups.tk {H H' : Hp} {as : List Addr} {rows : List (List V)} (t : Tups H as rows) (k : Tk H H') : Tups H' as rows := Paired.mapP t fun _ _ h => k _ _ h
theorem Paired.get {α β : Type} {R : α → β → Prop} : ∀ {as : List α} {bs : List β}, Paired R as bs → ∀ {i : Nat} {b : β}, bs[i]? = some b → ∃ a, as[i]? = some a ∧ R a b
  | _, _, .nil, i, b, h => by simp at h
  | _, _, .cons (a := a) r t, 0, b, h => by
    simp at h
    subst h
    exact ⟨a, rfl, r⟩
  | _, _, .cons r t, i + 1, b, h => by
    obtain ⟨a, h1, h2⟩ := Paired.get t (i := i) (b := b) (by simpa using h)
    exact ⟨a, by simpa using h1, h2⟩
theorem Paired.getL {α β : Type} {R : α → β → Prop} : ∀ {as : List α} {bs : List β}, Paired R as bs → ∀ {i : Nat} {a : α}, as[i]? = some a → ∃ b, bs[i]? = some b ∧ R a b
  | _, _, .nil, i, b, h => by simp at h
  | _, _, .cons (b := b) r t, 0, a, h => by
    simp at h
    subst h
    exact ⟨b, rfl, r⟩
  | _, _, .cons r t, i + 1, a, h => by
    obtain ⟨b, h1, h2⟩ := Paired.getL t (i := i) (a := a) (by simpa using h)
    exact ⟨b, by simpa using h1, h2⟩
theorem Tups.at {α : Type} {H : Hp} {as : List Addr} {rows : List α} {g : α → List V} (t : Tups H as (rows.map g)) {i : Nat} {e : α} (h : rows[i]? = some e) : ∃ a, as[i]? = some a ∧ H a = some (.tup (g e)) :=
  Paired.get t (by rw [List.getElem?_map, h]; rfl)
theorem Tups.len {α : Type} {H : Hp} {as : List Addr} {rows : List α} {g : α → List V} (t : Tups H as (rows.map g)) : as.length = rows.length := by
  rw [Paired.length t, List.length_map]
theorem Tups.snoc {H : Hp} : ∀ {as : List Addr} {rows : List (List V)} {a : Addr} {r : List V}, Tups H as rows → H a = some (.tup r) → Tups H (as ++ [a]) (rows ++ [r])
  | _, _, _, _, .nil, h => .cons h .nil
  | _, _, _, _, .cons q t, h => .cons q (Tups.snoc t h)

structure MapAt (H : Hp) (a : Addr) (P : List Str) (W : List (Str × Str × Int)) : Prop where
  ex : ∃ (ap aw : Addr) (ws : List Addr), H a = some (.tup [.ref ap, .ref aw]) ∧ H ap = some (.tup (P.map V.str)) ∧ H aw = some (.tup (ws.map V.ref)) ∧ Tups H ws (W.map wayV)
theorem MapAt.tk {H H' : Hp} {a : Addr} {P : List Str} {W : List (Str × Str × Int)} (m : MapAt H a P W) (k : Tk H H') : MapAt H' a P W := by
  obtain ⟨ap, aw, ws, h1, h2, h3, h4⟩ := m.ex
  exact ⟨ap, aw, ws, k _ _ h1, k _ _ h2, k _ _ h3, h4.tk k⟩
structure RowsAt (H : Hp) (a : Addr) (rows : List (Str × Int)) : Prop where
  ex : ∃ as : List Addr, H a = some (.tup (as.map V.ref)) ∧ Tups H as (rows.map pairV)
theorem RowsAt.tk {H H' : Hp} {a : Addr} {rows : List (Str × Int)} (m : RowsAt H a rows) (k : Tk H H') : RowsAt H' a rows := by
  obtain ⟨as, h1, h2⟩ := m.ex
  exact ⟨as, k _ _ h1, h2.tk k⟩
/-- a case, as data -/
structure Cse where
  P : List Str
  W : List (Str × Str × Int)
  sites : List (Str × Int)
  folk : List (Str × Int)
  lim : Option Int
def Cse.R (C : Cse) : Nat := match C.lim with
  | none => C.sites.length
  | some l => min l.toNat C.sites.length
structure CaseAt (H : Hp) (c : Addr) (C : Cse) : Prop where
  ex : ∃ (am asi af : Addr), H c = some (.tup [.ref am, .ref asi, .ref af, oV C.lim]) ∧ MapAt H am C.P C.W ∧ RowsAt H asi C.sites ∧ RowsAt H af C.folk
theorem CaseAt.tk {H H' : Hp} {c : Addr} {C : Cse} (m : CaseAt H c C) (k : Tk H H') : CaseAt H' c C := by
  obtain ⟨am, asi, af, h1, h2, h3, h4⟩ := m.ex
  exact ⟨am, asi, af, k _ _ h1, h2.tk k, h3.tk k, h4.tk k⟩
/-- text order -/
abbrev slt (x y : Str) : Prop := x.cps.toList < y.cps.toList
structure Cse.Ok (C : Cse) : Prop where
  tree : Tree C.P C.W
  few : C.P.length ≤ 9
  rise : C.P.Pairwise slt
  nm : ∀ v ∈ C.P, PyData.strOk v = true
  sN : (C.sites.map (·.1)).Nodup
  sP : ∀ e ∈ C.sites, e.1 ∈ C.P ∧ 0 ≤ e.2 ∧ e.2 ≤ B30
  s1 : 1 ≤ C.sites.length ∧ C.sites.length ≤ 9
  fN : (C.folk.map (·.1)).Nodup
  fP : ∀ e ∈ C.folk, e.1 ∈ C.P ∧ 1 ≤ e.2 ∧ e.2 ≤ B30
  f1 : C.folk.length ≤ 9
  lim1 : ∀ l, C.lim = some l → 1 ≤ l
theorem Cse.Ok.R1 {C : Cse} (o : C.Ok) : 1 ≤ C.R ∧ C.R ≤ C.sites.length ∧ C.R ≤ 9 := by
  have h1 := o.s1
  unfold Cse.R
  cases e : C.lim with
  | none => dsimp only; omega
  | some l =>
    have := o.lim1 l e
    dsimp only
    omega

/-! ### dicts -/
/-- a dict from places to lists of texts -/
structure StrsAt (H : Hp) (d : Addr) (P : List Str) (g : Str → List Str) : Prop where
  ex : ∃ kvs, H d = some (.dK kvs) ∧ ∀ v ∈ P, ∃ l, valV kvs (.inr v) = some (.ref l) ∧ H l = some (.lst ((g v).map V.str))
theorem StrsAt.same {H H' : Hp} {d : Addr} {P : List Str} {g : Str → List Str} (m : StrsAt H d P g) (s : Same H H') : StrsAt H' d P g := by
  obtain ⟨kvs, h1, h2⟩ := m.ex
  refine ⟨kvs, s _ _ h1, fun v hv => ?_⟩
  obtain ⟨l, a, b⟩ := h2 v hv
  exact ⟨l, a, s _ _ b⟩
structure FarsAt (H : Hp) (d : Addr) (P : List Str) (f : Str → Int) : Prop where
  ex : ∃ kvs, H d = some (.dK kvs) ∧ ∀ v ∈ P, valV kvs (.inr v) = some (.int (f v))
theorem FarsAt.same {H H' : Hp} {d : Addr} {P : List Str} {f : Str → Int} (m : FarsAt H d P f) (s : Same H H') : FarsAt H' d P f := by
  obtain ⟨kvs, h1, h2⟩ := m.ex
  exact ⟨kvs, s _ _ h1, h2⟩
theorem FarsAt.ext {H H' : Hp} {d x : Addr} {P : List Str} {f : Str → Int} (m : FarsAt H d P f) (s : Ext x H H') (n : d ≠ x) : FarsAt H' d P f := by
  obtain ⟨kvs, h1, h2⟩ := m.ex
  exact ⟨kvs, s _ _ h1 n, h2⟩
/-- a dict from some places to such dicts -/
structure FarOfAt (H : Hp) (d : Addr) (S P : List Str) (far : Str → Str → Int) : Prop where
  ex : ∃ kvs, H d = some (.dK kvs) ∧ ∀ s ∈ S, ∃ e, valV kvs (.inr s) = some (.ref e) ∧ FarsAt H e P (far s)
theorem FarOfAt.same {H H' : Hp} {d : Addr} {S P : List Str} {far : Str → Str → Int} (m : FarOfAt H d S P far) (s : Same H H') : FarOfAt H' d S P far := by
  obtain ⟨kvs, h1, h2⟩ := m.ex
  refine ⟨kvs, s _ _ h1, fun v hv => ?_⟩
  obtain ⟨l, a, b⟩ := h2 v hv
  exact ⟨l, a, b.same s⟩
/-- neighbours -/
structure NearAt (H : Hp) (d : Addr) (P : List Str) (W : List (Str × Str × Int)) : Prop where
  ex : ∃ kvs, H d = some (.dK kvs) ∧ ∀ v ∈ P, ∃ (l : Addr) (as : List Addr), valV kvs (.inr v) = some (.ref l) ∧ H l = some (.lst (as.map V.ref)) ∧ Tups H as ((near W v).map pairV)
theorem NearAt.same {H H' : Hp} {d : Addr} {P : List Str} {W : List (Str × Str × Int)} (m : NearAt H d P W) (s : Same H H') : NearAt H' d P W := by
  obtain ⟨kvs, h1, h2⟩ := m.ex
  refine ⟨kvs, s _ _ h1, fun v hv => ?_⟩
  obtain ⟨l, as, a, b, c⟩ := h2 v hv
  exact ⟨l, as, a, s _ _ b, c.tk (tk_same s)⟩
/-- numbers: at the places of Pd all keys stand -/
def NumK (kvs : List (List Key × V)) (Pd : List Str) (S : List Str) (R : Nat) (num : Str → Str → Nat → Option Int) : Prop := ∀ p ∈ Pd, ∀ s ∈ S, ∀ m, m < R → valV kvs (keyK (p, s, m)) = some (oV (num p s m))
structure NumsAt (H : Hp) (d : Addr) (Pd S : List Str) (R : Nat) (num : Str → Str → Nat → Option Int) : Prop where
  ex : ∃ kvs, H d = some (.dT kvs) ∧ NumK kvs Pd S R num
theorem NumsAt.same {H H' : Hp} {d : Addr} {Pd S : List Str} {R : Nat} {num : Str → Str → Nat → Option Int} (m : NumsAt H d Pd S R num) (s : Same H H') : NumsAt H' d Pd S R num := by
  obtain ⟨kvs, h1, h2⟩ := m.ex
  exact ⟨kvs, s _ _ h1, h2⟩
theorem NumsAt.ext {H H' : Hp} {d x : Addr} {Pd S : List Str} {R : Nat} {num : Str → Str → Nat → Option Int} (m : NumsAt H d Pd S R num) (s : Ext x H H') (n : d ≠ x) : NumsAt H' d Pd S R num := by
  obtain ⟨kvs, h1, h2⟩ := m.ex
  exact ⟨kvs, s _ _ h1 n, h2⟩

/-! ### loops over rows -/
section loops
variable {K : PySem.W.Frag} {a : Addr} {as : List Addr} {tb : TS} {D : Ends} {σ : St} {H : Hp}
theorem for_strs {P : List Str} {i : Nat} (Pv : Nat → St → Hp → Prop) (h0 : Pv 0 σ H) (ha : ∀ k σ H, Pv k σ H → H a = some (.tup (P.map V.str)))
    (hs : ∀ k p σ H, P[k]? = some p → Pv k σ H → tb { D with nx := Pv (k + 1), ct := Pv (k + 1), bk := D.nx } (σ.set i (some (.str p))) H) (hd : ∀ σ H, Pv P.length σ H → D.nx σ H) :
    ∃ W : Nat → Nat → St → Hp → Prop, (∃ m, W 0 m σ H) ∧ ∀ k m σ H, W k m σ H →
      ((Itt K a).stop k H ∧ D.nx σ H) ∨ ((Itt K a).go k H ∧ ∃ N : St → Hp → Prop, (∀ σ' H', N σ' H' → ∃ m', m' < m ∧ W (k + 1) m' σ' H') ∧ ∀ x H', (Itt K a).yld k H x H' → gName i x σ H' fun σ2 H2 => tb { D with nx := N, ct := N, bk := D.nx } σ2 H2) := by
  refine for_tup (xs := P.map V.str) Pv h0 (fun k σ H _ p => SqT.of (ha k σ H p)) (fun k x σ H hx p => ?_) (fun σ H p => hd σ H (by rw [List.length_map] at p; exact p))
  rw [List.getElem?_map] at hx
  cases e : P[k]? with
  | none => rw [e] at hx; cases hx
  | some q =>
    rw [e] at hx
    cases hx
    exact hs k q σ H e p
theorem for_rows {rows : List (Str × Int)} {i j : Nat} (Pv : Nat → St → Hp → Prop) (h0 : Pv 0 σ H) (ha : ∀ k σ H, Pv k σ H → H a = some (.tup (as.map V.ref)) ∧ Tups H as (rows.map pairV))
    (hs : ∀ k s c σ H, rows[k]? = some (s, c) → Pv k σ H → tb { D with nx := Pv (k + 1), ct := Pv (k + 1), bk := D.nx } ((σ.set i (some (.str s))).set j (some (.int c))) H) (hd : ∀ σ H, Pv rows.length σ H → D.nx σ H) :
    ∃ W : Nat → Nat → St → Hp → Prop, (∃ m, W 0 m σ H) ∧ ∀ k m σ H, W k m σ H →
      ((Itt K a).stop k H ∧ D.nx σ H) ∨ ((Itt K a).go k H ∧ ∃ N : St → Hp → Prop, (∀ σ' H', N σ' H' → ∃ m', m' < m ∧ W (k + 1) m' σ' H') ∧ ∀ x H', (Itt K a).yld k H x H' → gTup K 2 (gCons (gName i) (gCons (gName j) gNil)) x σ H' fun σ2 H2 => tb { D with nx := N, ct := N, bk := D.nx } σ2 H2) := by
  refine for_tup (xs := as.map V.ref) Pv h0 (fun k σ H _ p => SqT.of (ha k σ H p).1) (fun k x σ H hx p => ?_) (fun σ H p => ?_)
  · rw [List.getElem?_map] at hx
    cases e : as[k]? with
    | none => rw [e] at hx; cases hx
    | some q =>
      rw [e] at hx
      cases hx
      obtain ⟨r, h1, h2⟩ := Paired.getL (ha k σ H p).2 e
      rw [List.getElem?_map] at h1
      cases e2 : rows[k]? with
      | none => rw [e2] at h1; cases h1
      | some sc =>
        rw [e2] at h1
        cases h1
        exact ⟨q, _, rfl, SqT.of h2, rfl, _, _, rfl, _, _, rfl, rfl, hs k sc.1 sc.2 σ H e2 p⟩
  · rw [List.length_map] at p
    have e := (ha _ σ H p).2.len
    rw [e] at p
    exact hd σ H p
theorem for_ways {rows : List (Str × Str × Int)} {i j l : Nat} (Pv : Nat → St → Hp → Prop) (h0 : Pv 0 σ H) (ha : ∀ k σ H, Pv k σ H → H a = some (.tup (as.map V.ref)) ∧ Tups H as (rows.map wayV))
    (hs : ∀ k e σ H, rows[k]? = some e → Pv k σ H → tb { D with nx := Pv (k + 1), ct := Pv (k + 1), bk := D.nx } (((σ.set i (some (.str e.1))).set j (some (.str e.2.1))).set l (some (.int e.2.2))) H) (hd : ∀ σ H, Pv rows.length σ H → D.nx σ H) :
    ∃ W : Nat → Nat → St → Hp → Prop, (∃ m, W 0 m σ H) ∧ ∀ k m σ H, W k m σ H →
      ((Itt K a).stop k H ∧ D.nx σ H) ∨ ((Itt K a).go k H ∧ ∃ N : St → Hp → Prop, (∀ σ' H', N σ' H' → ∃ m', m' < m ∧ W (k + 1) m' σ' H') ∧ ∀ x H', (Itt K a).yld k H x H' → gTup K 3 (gCons (gName i) (gCons (gName j) (gCons (gName l) gNil))) x σ H' fun σ2 H2 => tb { D with nx := N, ct := N, bk := D.nx } σ2 H2) := by
  refine for_tup (xs := as.map V.ref) Pv h0 (fun k σ H _ p => SqT.of (ha k σ H p).1) (fun k x σ H hx p => ?_) (fun σ H p => ?_)
  · rw [List.getElem?_map] at hx
    cases e : as[k]? with
    | none => rw [e] at hx; cases hx
    | some q =>
      rw [e] at hx
      cases hx
      obtain ⟨r, h1, h2⟩ := Paired.getL (ha k σ H p).2 e
      rw [List.getElem?_map] at h1
      cases e2 : rows[k]? with
      | none => rw [e2] at h1; cases h1
      | some sc =>
        rw [e2] at h1
        cases h1
        exact ⟨q, _, rfl, SqT.of h2, rfl, _, _, rfl, _, _, rfl, _, _, rfl, rfl, hs k sc σ H e2 p⟩
  · rw [List.length_map] at p
    have e := (ha _ σ H p).2.len
    rw [e] at p
    exact hd σ H p
/-- a list of pairs -/
theorem for_rowsL {rows : List (Str × Int)} {i j : Nat} (Pv : Nat → St → Hp → Prop) (h0 : Pv 0 σ H) (ha : ∀ k σ H, Pv k σ H → H a = some (.lst (as.map V.ref)) ∧ Tups H as (rows.map pairV))
    (hs : ∀ k s c σ H, rows[k]? = some (s, c) → Pv k σ H → tb { D with nx := Pv (k + 1), ct := Pv (k + 1), bk := D.nx } ((σ.set i (some (.str s))).set j (some (.int c))) H) (hd : ∀ σ H, Pv rows.length σ H → D.nx σ H) :
    ∃ W : Nat → Nat → St → Hp → Prop, (∃ m, W 0 m σ H) ∧ ∀ k m σ H, W k m σ H →
      ((Itl K a).stop k H ∧ D.nx σ H) ∨ ((Itl K a).go k H ∧ ∃ N : St → Hp → Prop, (∀ σ' H', N σ' H' → ∃ m', m' < m ∧ W (k + 1) m' σ' H') ∧ ∀ x H', (Itl K a).yld k H x H' → gTup K 2 (gCons (gName i) (gCons (gName j) gNil)) x σ H' fun σ2 H2 => tb { D with nx := N, ct := N, bk := D.nx } σ2 H2) := by
  refine for_list (xs := as.map V.ref) Pv h0 (fun k σ H _ p => SqL.of (ha k σ H p).1) (fun k x σ H hx p => ?_) (fun σ H p => ?_)
  · rw [List.getElem?_map] at hx
    cases e : as[k]? with
    | none => rw [e] at hx; cases hx
    | some q =>
      rw [e] at hx
      cases hx
      obtain ⟨r, h1, h2⟩ := Paired.getL (ha k σ H p).2 e
      rw [List.getElem?_map] at h1
      cases e2 : rows[k]? with
      | none => rw [e2] at h1; cases h1
      | some sc =>
        rw [e2] at h1
        cases h1
        exact ⟨q, _, rfl, SqT.of h2, rfl, _, _, rfl, _, _, rfl, rfl, hs k sc.1 sc.2 σ H e2 p⟩
  · rw [List.length_map] at p
    have e := (ha _ σ H p).2.len
    rw [e] at p
    exact hd σ H p
/-- a list of texts -/
theorem for_strsL {P : List Str} {i : Nat} (Pv : Nat → St → Hp → Prop) (h0 : Pv 0 σ H) (ha : ∀ k σ H, Pv k σ H → H a = some (.lst (P.map V.str)))
    (hs : ∀ k p σ H, P[k]? = some p → Pv k σ H → tb { D with nx := Pv (k + 1), ct := Pv (k + 1), bk := D.nx } (σ.set i (some (.str p))) H) (hd : ∀ σ H, Pv P.length σ H → D.nx σ H) :
    ∃ W : Nat → Nat → St → Hp → Prop, (∃ m, W 0 m σ H) ∧ ∀ k m σ H, W k m σ H →
      ((Itl K a).stop k H ∧ D.nx σ H) ∨ ((Itl K a).go k H ∧ ∃ N : St → Hp → Prop, (∀ σ' H', N σ' H' → ∃ m', m' < m ∧ W (k + 1) m' σ' H') ∧ ∀ x H', (Itl K a).yld k H x H' → gName i x σ H' fun σ2 H2 => tb { D with nx := N, ct := N, bk := D.nx } σ2 H2) := by
  refine for_list (xs := P.map V.str) Pv h0 (fun k σ H _ p => SqL.of (ha k σ H p)) (fun k x σ H hx p => ?_) (fun σ H p => hd σ H (by rw [List.length_map] at p; exact p))
  rw [List.getElem?_map] at hx
  cases e : P[k]? with
  | none => rw [e] at hx; cases hx
  | some q =>
    rw [e] at hx
    cases hx
    exact hs k q σ H e p
end loops
theorem sz9 {n : Nat} (h : n ≤ 100000) : n < sizeLine := Nat.lt_of_le_of_lt h (by decide)
theorem sz9' {n : Nat} (h : n ≤ 100000) : n ≤ sizeLine := Nat.le_of_lt (sz9 h)
theorem take_snoc {α : Type} {l : List α} {k : Nat} {x : α} (h : l[k]? = some x) : l.take (k + 1) = l.take k ++ [x] := by
  rw [List.take_add_one, h]; rfl
theorem take_len {α : Type} (l : List α) : l.take l.length = l := List.take_length
theorem inV_strs {x : Str} (ys : List Str) : inV (.str x) (ys.map V.str) = decide (x ∈ ys) := by
  induction ys with
  | nil => rfl
  | cons y ys ih =>
    have e : inV (.str x) ((y :: ys).map V.str) = (eqV (.str y) (.str x) || inV (.str x) (ys.map V.str)) := rfl
    have e2 : eqV (.str y) (.str x) = decide (y = x) := by
      first | rfl | simp [eqV]
    rw [e, ih, e2]
    by_cases q : y = x
    · subst q; simp
    · simp [q, Ne.symm q]
theorem flat_strs (ys : List Str) : (ys.map V.str).all flatV = true := by
  rw [List.all_map, List.all_eq_true]
  intro x _
  rfl
end OH

namespace OH
open PySem PySem.Spec PyProof.Rows L2
theorem for_rng {n i : Nat} {tb : TS} {D : Ends} {σ : St} {H : Hp} (Pv : Nat → St → Hp → Prop) (h0 : Pv 0 σ H)
    (hs : ∀ k σ H, k < n → Pv k σ H → tb { D with nx := Pv (k + 1), ct := Pv (k + 1), bk := D.nx } (σ.set i (some (.int (k : Int)))) H) (hd : ∀ σ H, Pv n σ H → D.nx σ H) :
    ∃ W : Nat → Nat → St → Hp → Prop, (∃ m, W 0 m σ H) ∧ ∀ k m σ H, W k m σ H →
      ((Itr 0 ((n : Int)).toNat).stop k H ∧ D.nx σ H) ∨ ((Itr 0 ((n : Int)).toNat).go k H ∧ ∃ N : St → Hp → Prop, (∀ σ' H', N σ' H' → ∃ m', m' < m ∧ W (k + 1) m' σ' H') ∧ ∀ x H', (Itr 0 ((n : Int)).toNat).yld k H x H' → gName i x σ H' fun σ2 H2 => tb { D with nx := N, ct := N, bk := D.nx } σ2 H2) := by
  rw [Int.toNat_natCast]
  refine for_range (lo := 0) (n := n) Pv h0 (fun k σ H hk p => ?_) hd
  rw [Int.zero_add]
  exact hs k σ H hk p
/-- range(lo, hi) -/
theorem for_rng2 {lo hi i : Nat} {tb : TS} {D : Ends} {σ : St} {H : Hp} (Pv : Nat → St → Hp → Prop) (h0 : Pv 0 σ H)
    (hs : ∀ k σ H, lo + k < hi → Pv k σ H → tb { D with nx := Pv (k + 1), ct := Pv (k + 1), bk := D.nx } (σ.set i (some (.int ((lo + k : Nat) : Int)))) H) (hd : ∀ σ H, Pv (hi - lo) σ H → D.nx σ H) :
    ∃ W : Nat → Nat → St → Hp → Prop, (∃ m, W 0 m σ H) ∧ ∀ k m σ H, W k m σ H →
      ((Itr (lo : Int) ((hi : Int) - (lo : Int)).toNat).stop k H ∧ D.nx σ H) ∨ ((Itr (lo : Int) ((hi : Int) - (lo : Int)).toNat).go k H ∧ ∃ N : St → Hp → Prop, (∀ σ' H', N σ' H' → ∃ m', m' < m ∧ W (k + 1) m' σ' H') ∧ ∀ x H', (Itr (lo : Int) ((hi : Int) - (lo : Int)).toNat).yld k H x H' → gName i x σ H' fun σ2 H2 => tb { D with nx := N, ct := N, bk := D.nx } σ2 H2) := by
  have e : ((hi : Int) - (lo : Int)).toNat = hi - lo := by omega
  rw [e]
  refine for_range (lo := (lo : Int)) (n := hi - lo) Pv h0 (fun k σ H hk p => ?_) hd
  have e2 : (lo : Int) + (k : Int) = ((lo + k : Nat) : Int) := by omega
  rw [e2]
  exact hs k σ H (by omega) p
/-- the comprehension over range(n) -/
theorem lc_rng {n i : Nat} {te : TE} {tt : TT} {vs : List Nat} {σ : St} {H1 : Hp} {D : Addr} {Qd : Hp → Prop} (Pv : Nat → Hp → Prop) (h0 : Pv 0 (upd H1 D (.lst [])))
    (hs : ∀ k H, k < n → Pv k H → wipe ((wipe σ vs).set i (some (.int (k : Int)))) vs = wipe σ vs ∧ tt ((wipe σ vs).set i (some (.int (k : Int)))) H fun b H3 =>
      if b = true then te ((wipe σ vs).set i (some (.int (k : Int)))) H3 fun y H4 => ∃ acc, H4 D = some (.lst acc) ∧ acc.length < sizeLine ∧ Pv (k + 1) (upd H4 D (.lst (acc ++ [y]))) else Pv (k + 1) H3) (hd : ∀ H, Pv n H → Qd H) :
    ∃ W : Nat → Nat → Hp → Prop, (∃ m, W 0 m (upd H1 D (.lst []))) ∧ ∀ k m H, W k m H →
      ((Itr 0 ((n : Int)).toNat).stop k H ∧ Qd H) ∨ ((Itr 0 ((n : Int)).toNat).go k H ∧ ∃ Nx : Hp → Prop, (∀ H', Nx H' → ∃ m', m' < m ∧ W (k + 1) m' H') ∧ ∀ x H', (Itr 0 ((n : Int)).toNat).yld k H x H' → gName i x (wipe σ vs) H' fun σ2 H2 => wipe σ2 vs = wipe σ vs ∧ tt σ2 H2 fun b H3 =>
        if b = true then te σ2 H3 fun y H4 => ∃ acc, H4 D = some (.lst acc) ∧ acc.length < sizeLine ∧ Nx (upd H4 D (.lst (acc ++ [y]))) else Nx H3) := by
  rw [Int.toNat_natCast]
  refine L2.lc_range (lo := 0) (n := n) Pv h0 (fun k H hk p => ?_) hd
  rw [Int.zero_add]
  exact hs k H hk p
/-! ### keys -/
def Cse.keysL (C : Cse) : List (Str × Str × Nat) := C.P.flatMap fun p => C.sites.flatMap fun s => (List.range C.R).map fun m => (p, s.1, m)
theorem pre_flat {α β : Type} {l : List α} {k : Nat} {x : α} {F : α → List β} {q : List β} (h : l[k]? = some x) (hq : q <+: F x) : (l.take k).flatMap F ++ q <+: l.flatMap F := by
  obtain ⟨r, hr⟩ := hq
  have e : l = l.take k ++ x :: l.drop (k + 1) := by
    obtain ⟨hk, hx⟩ := List.getElem?_eq_some_iff.mp h
    rw [← hx, ← List.drop_eq_getElem_cons hk, List.take_append_drop]
  refine ⟨r ++ (l.drop (k + 1)).flatMap F, ?_⟩
  conv => rhs; rw [e]
  rw [List.flatMap_append, List.flatMap_cons, ← hr]
  simp only [List.append_assoc]
theorem pre_rng {β : Type} {n i : Nat} (f : Nat → β) (h : i ≤ n) : (List.range i).map f <+: (List.range n).map f := by
  refine ⟨((List.range n).drop i).map f, ?_⟩
  have e : List.range i = (List.range n).take i := by rw [List.take_range, Nat.min_eq_left h]
  rw [e, ← List.map_append, List.take_append_drop]
theorem flat_snoc {α β : Type} {l : List α} {k : Nat} {x : α} {F : α → List β} (h : l[k]? = some x) : (l.take (k + 1)).flatMap F = (l.take k).flatMap F ++ F x := by
  rw [take_snoc h, List.flatMap_append, List.flatMap_cons, List.flatMap_nil, List.append_nil]
theorem rng_snoc {β : Type} (f : Nat → β) (i : Nat) : (List.range (i + 1)).map f = (List.range i).map f ++ [f i] := by
  rw [List.range_succ, List.map_append, List.map_cons, List.map_nil]
/-- a list of new tuples, being made -/
structure ListI (H0 H : Hp) (l : Addr) (rows : List (List V)) : Prop where
  same : Same H0 H
  fresh : H0 l = none
  ex : ∃ ks : List Addr, H l = some (.lst (ks.map V.ref)) ∧ Tups H ks rows
theorem ListI.add {H0 H : Hp} {l t : Addr} {rows : List (List V)} {r : List V} {ks : List Addr} (I : ListI H0 H l rows) (hk : H l = some (.lst (ks.map V.ref))) (ht : Tups H ks rows) (nt : H t = none) : ListI H0 (upd (upd H t (.tup r)) l (.lst (ks.map V.ref ++ [V.ref t]))) l (rows ++ [r]) := by
  have tl : t ≠ l := fun z => by rw [z, hk] at nt; cases nt
  have k1 : Tk H (upd (upd H t (.tup r)) l (.lst (ks.map V.ref ++ [V.ref t]))) := (tk_same (same_new nt)).trans (tk_ext (x := l) Ext.upd (show upd H t (.tup r) l = some (.lst (ks.map V.ref)) by rw [upd_ne (Ne.symm tl)]; exact hk) nt_lst)
  refine ⟨same_mut (I.same.trans (same_new nt)) I.fresh, I.fresh, ks ++ [t], ?_, (ht.tk k1).snoc (by rw [upd_ne tl, upd_same])⟩
  rw [upd_same, List.map_append]
  rfl
end OH

namespace OH
open PySem PySem.Spec PyProof.Rows L2
/-! ### data -/
theorem dp_strs {K : PySem.W.Frag} {H : Hp} : ∀ (xs : List Str), DpAll K H (xs.map V.str) (xs.map PyData.str)
  | [] => .nil
  | x :: xs => .cons (.str x) (dp_strs xs)
abbrev NmOk (x : Str) : Prop := PyData.strOk x = true
theorem lay_strs : ∀ xs : List Str, (∀ x ∈ xs, NmOk x) → PyData.canLayAll0 (xs.map PyData.str) = true
  | [], _ => by simp [PyData.canLayAll0]
  | x :: xs, h => by
    have h1 : PyData.strOk x = true := h x List.mem_cons_self
    simp [PyData.canLayAll0, PyData.canLay0, h1, lay_strs xs fun y hy => h y (List.mem_cons_of_mem _ hy)]
theorem depth_strs : ∀ xs : List Str, PyData.depthAll (xs.map PyData.str) ≤ 1
  | [] => by simp [PyData.depthAll]
  | x :: xs => by
    have h := depth_strs xs
    simp only [List.map_cons, PyData.depthAll, PyData.depth]
    omega
theorem shaped_of {ds : List PyData} (h1 : PyData.canLayAll0 ds = true) (h2 : PyData.depthAll ds ≤ 50) : SeqAt.shaped (.list ds) = true := by
  have h3 : PyData.depth (.list ds) ≤ 64 := by
    simp only [PyData.depth]
    omega
  show (PyData.canLay0 (.list ds) && decide (PyData.depth (.list ds) ≤ 64)) = true
  rw [Bool.and_eq_true]
  exact ⟨by simp only [PyData.canLay0]; exact h1, decide_eq_true h3⟩
theorem shaped_strs (xs : List Str) (h : ∀ x ∈ xs, NmOk x) : SeqAt.shaped (.list (xs.map PyData.str)) = true := shaped_of (lay_strs xs h) (by have := depth_strs xs; omega)
theorem shaped_nil : SeqAt.shaped (.list []) = true := shaped_of (by simp [PyData.canLayAll0]) (by simp [PyData.depthAll])
theorem eqv_nil (ds : List PyData) : PyData.eqv (.list ds) (.list []) = ds.isEmpty := by
  cases ds with
  | nil => simp [PyData.eqv, PyData.eqvAll]
  | cons d ds => simp [PyData.eqv, PyData.eqvAll]
/-- the pairs (number, place) that wait -/
def ipV (e : Int × Str) : List V := [.int e.1, .str e.2]
def ipD (e : Int × Str) : PyData := .tuple [.int e.1, .str e.2]
theorem dp_ips {K : PySem.W.Frag} {H : Hp} : ∀ {as : List Addr} {es : List (Int × Str)}, Tups H as (es.map ipV) → DpAll K H (as.map V.ref) (es.map ipD)
  | as, [], t => by cases t; exact .nil
  | as, e :: es, t => by
    rw [List.map_cons] at t
    cases t with
    | cons h t => exact .cons (.tup (SqT.of h) (.cons (.int _) (.cons (.str _) .nil))) (dp_ips t)
theorem lay_ips : ∀ es : List (Int × Str), (∀ e ∈ es, NmOk e.2) → PyData.canLayAll0 (es.map ipD) = true
  | [], _ => by simp [PyData.canLayAll0]
  | e :: es, h => by
    have h1 : PyData.strOk e.2 = true := h e List.mem_cons_self
    simp [PyData.canLayAll0, PyData.canLay0, ipD, h1, lay_ips es fun y hy => h y (List.mem_cons_of_mem _ hy)]
theorem depth_ips : ∀ es : List (Int × Str), PyData.depthAll (es.map ipD) ≤ 2
  | [] => by simp [PyData.depthAll]
  | e :: es => by
    have h := depth_ips es
    simp only [List.map_cons, PyData.depthAll, PyData.depth, ipD]
    omega
theorem shaped_ips (es : List (Int × Str)) (h : ∀ e ∈ es, NmOk e.2) : SeqAt.shaped (.list (es.map ipD)) = true := shaped_of (lay_ips es h) (by have := depth_ips es; omega)
theorem plain_ips : ∀ es : List (Int × Str), PyData.plainAll (es.map ipD) = true
  | [] => by simp [PyData.plainAll]
  | e :: es => by simp [PyData.plainAll, PyData.plain, ipD, plain_ips es]
theorem eqv_ip (e f : Int × Str) : PyData.eqv (ipD e) (ipD f) = decide (e = f) := by
  obtain ⟨a, x⟩ := e
  obtain ⟨b, y⟩ := f
  have h : PyData.eqv (ipD (a, x)) (ipD (b, y)) = ((a == b) && ((x == y) && true)) := by simp only [ipD, PyData.eqv, PyData.eqvAll]
  rw [h]
  by_cases h1 : a = b
  · by_cases h2 : x = y
    · subst h1 h2; simp
    · have : (x == y) = false := beq_eq_false_iff_ne.mpr h2
      rw [this, decide_eq_false (fun z => h2 (Prod.mk.inj z).2)]
      simp
  · have : (a == b) = false := beq_eq_false_iff_ne.mpr h1
    rw [this, decide_eq_false (fun z => h1 (Prod.mk.inj z).1)]
    simp

/-! ### a search's dict and what waits -/
structure SI (P : List Str) (r : Str) (par : Str → Str) (val : Str → V) (Hb H : Hp) (d wt : Addr) (kvs : List (Key × V)) (Wt : List Str) (hr : Option Str) : Prop where
  same : Same Hb H
  fd : Hb d = none
  fw : Hb wt = none
  ne : d ≠ wt
  hd : H d = some (.dK kvs)
  hw : H wt = some (.lst (Wt.map V.str))
  nd : (kvs.map (·.1)).Nodup
  ks : ∀ k ∈ kvs.map (·.1), ∃ v ∈ P, k = Sum.inr v
  val : ∀ v x, valV kvs (.inr v) = some x → x = val v
  s1 : S1 P r par (fun v => (valV kvs (.inr v)).isSome) Wt hr
  wl : Wt.length ≤ kvs.length
theorem keys_le {P : List Str} {kvs : List (Key × V)} (nd : (kvs.map (·.1)).Nodup) (ks : ∀ k ∈ kvs.map (·.1), ∃ v ∈ P, k = Sum.inr v) : kvs.length ≤ P.length := by
  have h := nodup_sub_le (m := P.map (fun v => (Sum.inr v : Key))) nd fun k hk => by
    obtain ⟨v, hv, e⟩ := ks k hk
    exact List.mem_map.mpr ⟨v, hv, e.symm⟩
  rw [List.length_map, List.length_map] at h
  exact h
theorem keys_put {P : List Str} {kvs : List (Key × V)} {u : Str} {x : V} (nd : (kvs.map (·.1)).Nodup) (ks : ∀ k ∈ kvs.map (·.1), ∃ v ∈ P, k = Sum.inr v) (hu : u ∈ P) (hn : valV kvs (.inr u) = none) :
    ((putK kvs (Sum.inr u) x).map (·.1)).Nodup ∧ (∀ k ∈ (putK kvs (Sum.inr u) x).map (·.1), ∃ v ∈ P, k = Sum.inr v) ∧ (putK kvs (Sum.inr u) x).length = kvs.length + 1 := by
  refine ⟨nd_putK x nd hn, fun k hk => ?_, by rw [putK_new x hn, List.length_append]; rfl⟩
  rw [putK_new x hn, List.map_append] at hk
  rcases List.mem_append.mp hk with hk | hk
  · exact ks k hk
  · exact ⟨u, hu, by simpa using hk⟩
theorem put_some {kvs : List (Key × V)} {u : Str} {x : V} (v : Str) : (valV (putK kvs (Sum.inr u) x) (.inr v)).isSome = true ↔ v = u ∨ (valV kvs (.inr v)).isSome = true := by
  rw [valV_put]
  by_cases q : v = u
  · rw [if_pos (by rw [q])]; simp [q]
  · rw [if_neg (fun z => q (Sum.inr.inj z))]; simp [q]
theorem SI.push {P : List Str} {r h u : Str} {par : Str → Str} {val : Str → V} {Hb H : Hp} {d wt : Addr} {kvs : List (Key × V)} {Wt : List Str} (I : SI P r par val Hb H d wt kvs Wt (some h)) (hh : (valV kvs (.inr h)).isSome = true) (hu : u ∈ P) (hur : u ≠ r) (hp : par u = h) (hn : valV kvs (.inr u) = none) :
    SI P r par val Hb (upd (upd H d (.dK (putK kvs (Sum.inr u) (val u)))) wt (.lst (Wt.map V.str ++ [V.str u]))) d wt (putK kvs (Sum.inr u) (val u)) (Wt ++ [u]) (some h) := by
  obtain ⟨k1, k2, k3⟩ := keys_put (x := val u) I.nd I.ks hu hn
  refine ⟨same_mut (same_mut I.same I.fd) I.fw, I.fd, I.fw, I.ne, ?_, ?_, k1, k2, fun v x hx => ?_, I.s1.push hh hu hur hp put_some, ?_⟩
  · rw [upd_ne I.ne, upd_same]
  · rw [upd_same, List.map_append]; rfl
  · rw [valV_put] at hx
    by_cases q : v = u
    · rw [if_pos (by rw [q])] at hx
      rw [q]
      exact (Option.some.inj hx).symm
    · rw [if_neg (fun z => q (Sum.inr.inj z))] at hx
      exact I.val v x hx
  · rw [List.length_append, k3]
    have := I.wl
    simp
    omega
theorem SI.pop {P : List Str} {r h : Str} {par : Str → Str} {val : Str → V} {Hb H : Hp} {d wt : Addr} {kvs : List (Key × V)} {Wt : List Str} (I : SI P r par val Hb H d wt kvs (Wt ++ [h]) none) :
    SI P r par val Hb (upd H wt (.lst (Wt.map V.str))) d wt kvs Wt (some h) ∧ (valV kvs (.inr h)).isSome = true := by
  obtain ⟨a, b⟩ := I.s1.pop
  refine ⟨⟨same_mut I.same I.fw, I.fd, I.fw, I.ne, by rw [upd_ne I.ne]; exact I.hd, upd_same, I.nd, I.ks, I.val, a, ?_⟩, b⟩
  have := I.wl
  rw [List.length_append] at this
  simp at this
  omega
theorem SI.grow {P : List Str} {r : Str} {par : Str → Str} {val : Str → V} {Hb H H' : Hp} {d wt : Addr} {kvs : List (Key × V)} {Wt : List Str} {hr : Option Str} (I : SI P r par val Hb H d wt kvs Wt hr) (s : Same H H') : SI P r par val Hb H' d wt kvs Wt hr :=
  ⟨I.same.trans s, I.fd, I.fw, I.ne, s _ _ I.hd, s _ _ I.hw, I.nd, I.ks, I.val, I.s1, I.wl⟩
end OH

namespace OH
open PySem PySem.Spec PyProof.Rows L2
/-! ### comprehensions over rows -/
section comps
variable {K : PySem.W.Frag} {a : Addr} {as : List Addr} {tt : TT} {te : TE} {vs : List Nat} {σ : St} {H1 : Hp} {D : Addr} {Qd : Hp → Prop}
theorem lc_strs {P : List Str} {i : Nat} (Pv : Nat → Hp → Prop) (h0 : Pv 0 (upd H1 D (.lst []))) (ha : ∀ k H, Pv k H → H a = some (.tup (P.map V.str)))
    (hs : ∀ k p H, P[k]? = some p → Pv k H → wipe ((wipe σ vs).set i (some (.str p))) vs = wipe σ vs ∧ tt ((wipe σ vs).set i (some (.str p))) H fun b H3 =>
      if b = true then te ((wipe σ vs).set i (some (.str p))) H3 fun y H4 => ∃ acc, H4 D = some (.lst acc) ∧ acc.length < sizeLine ∧ Pv (k + 1) (upd H4 D (.lst (acc ++ [y]))) else Pv (k + 1) H3) (hd : ∀ H, Pv P.length H → Qd H) :
    ∃ W : Nat → Nat → Hp → Prop, (∃ m, W 0 m (upd H1 D (.lst []))) ∧ ∀ k m H, W k m H →
      ((Itt K a).stop k H ∧ Qd H) ∨ ((Itt K a).go k H ∧ ∃ Nx : Hp → Prop, (∀ H', Nx H' → ∃ m', m' < m ∧ W (k + 1) m' H') ∧ ∀ x H', (Itt K a).yld k H x H' → gName i x (wipe σ vs) H' fun σ2 H2 => wipe σ2 vs = wipe σ vs ∧ tt σ2 H2 fun b H3 =>
        if b = true then te σ2 H3 fun y H4 => ∃ acc, H4 D = some (.lst acc) ∧ acc.length < sizeLine ∧ Nx (upd H4 D (.lst (acc ++ [y]))) else Nx H3) := by
  refine L2.lc_tup (xs := P.map V.str) Pv h0 (fun k H _ p => SqT.of (ha k H p)) (fun k x H hx p => ?_) (fun H p => hd H (by rw [List.length_map] at p; exact p))
  rw [List.getElem?_map] at hx
  cases e : P[k]? with
  | none => rw [e] at hx; cases hx
  | some q =>
    rw [e] at hx
    cases hx
    exact hs k q H e p
theorem lc_strsL {P : List Str} {i : Nat} (Pv : Nat → Hp → Prop) (h0 : Pv 0 (upd H1 D (.lst []))) (ha : ∀ k H, Pv k H → H a = some (.lst (P.map V.str)))
    (hs : ∀ k p H, P[k]? = some p → Pv k H → wipe ((wipe σ vs).set i (some (.str p))) vs = wipe σ vs ∧ tt ((wipe σ vs).set i (some (.str p))) H fun b H3 =>
      if b = true then te ((wipe σ vs).set i (some (.str p))) H3 fun y H4 => ∃ acc, H4 D = some (.lst acc) ∧ acc.length < sizeLine ∧ Pv (k + 1) (upd H4 D (.lst (acc ++ [y]))) else Pv (k + 1) H3) (hd : ∀ H, Pv P.length H → Qd H) :
    ∃ W : Nat → Nat → Hp → Prop, (∃ m, W 0 m (upd H1 D (.lst []))) ∧ ∀ k m H, W k m H →
      ((Itl K a).stop k H ∧ Qd H) ∨ ((Itl K a).go k H ∧ ∃ Nx : Hp → Prop, (∀ H', Nx H' → ∃ m', m' < m ∧ W (k + 1) m' H') ∧ ∀ x H', (Itl K a).yld k H x H' → gName i x (wipe σ vs) H' fun σ2 H2 => wipe σ2 vs = wipe σ vs ∧ tt σ2 H2 fun b H3 =>
        if b = true then te σ2 H3 fun y H4 => ∃ acc, H4 D = some (.lst acc) ∧ acc.length < sizeLine ∧ Nx (upd H4 D (.lst (acc ++ [y]))) else Nx H3) := by
  refine L2.lc_list (xs := P.map V.str) Pv h0 (fun k H _ p => SqL.of (ha k H p)) (fun k x H hx p => ?_) (fun H p => hd H (by rw [List.length_map] at p; exact p))
  rw [List.getElem?_map] at hx
  cases e : P[k]? with
  | none => rw [e] at hx; cases hx
  | some q =>
    rw [e] at hx
    cases hx
    exact hs k q H e p
theorem lc_rows {rows : List (Str × Int)} {i j : Nat} (Pv : Nat → Hp → Prop) (h0 : Pv 0 (upd H1 D (.lst []))) (ha : ∀ k H, Pv k H → H a = some (.tup (as.map V.ref)) ∧ Tups H as (rows.map pairV))
    (hs : ∀ k s c H, rows[k]? = some (s, c) → Pv k H → wipe (((wipe σ vs).set i (some (.str s))).set j (some (.int c))) vs = wipe σ vs ∧ tt (((wipe σ vs).set i (some (.str s))).set j (some (.int c))) H fun b H3 =>
      if b = true then te (((wipe σ vs).set i (some (.str s))).set j (some (.int c))) H3 fun y H4 => ∃ acc, H4 D = some (.lst acc) ∧ acc.length < sizeLine ∧ Pv (k + 1) (upd H4 D (.lst (acc ++ [y]))) else Pv (k + 1) H3) (hd : ∀ H, Pv rows.length H → Qd H) :
    ∃ W : Nat → Nat → Hp → Prop, (∃ m, W 0 m (upd H1 D (.lst []))) ∧ ∀ k m H, W k m H →
      ((Itt K a).stop k H ∧ Qd H) ∨ ((Itt K a).go k H ∧ ∃ Nx : Hp → Prop, (∀ H', Nx H' → ∃ m', m' < m ∧ W (k + 1) m' H') ∧ ∀ x H', (Itt K a).yld k H x H' → gTup K 2 (gCons (gName i) (gCons (gName j) gNil)) x (wipe σ vs) H' fun σ2 H2 => wipe σ2 vs = wipe σ vs ∧ tt σ2 H2 fun b H3 =>
        if b = true then te σ2 H3 fun y H4 => ∃ acc, H4 D = some (.lst acc) ∧ acc.length < sizeLine ∧ Nx (upd H4 D (.lst (acc ++ [y]))) else Nx H3) := by
  refine L2.lc_tup (xs := as.map V.ref) Pv h0 (fun k H _ p => SqT.of (ha k H p).1) (fun k x H hx p => ?_) (fun H p => ?_)
  · rw [List.getElem?_map] at hx
    cases e : as[k]? with
    | none => rw [e] at hx; cases hx
    | some q =>
      rw [e] at hx
      cases hx
      obtain ⟨r, h1, h2⟩ := Paired.getL (ha k H p).2 e
      rw [List.getElem?_map] at h1
      cases e2 : rows[k]? with
      | none => rw [e2] at h1; cases h1
      | some sc =>
        rw [e2] at h1
        cases h1
        exact ⟨q, _, rfl, SqT.of h2, rfl, _, _, rfl, _, _, rfl, rfl, hs k sc.1 sc.2 H e2 p⟩
  · rw [List.length_map] at p
    have e := (ha _ H p).2.len
    rw [e] at p
    exact hd H p
theorem lc_rowsL {rows : List (Str × Int)} {i j : Nat} (Pv : Nat → Hp → Prop) (h0 : Pv 0 (upd H1 D (.lst []))) (ha : ∀ k H, Pv k H → H a = some (.lst (as.map V.ref)) ∧ Tups H as (rows.map pairV))
    (hs : ∀ k s c H, rows[k]? = some (s, c) → Pv k H → wipe (((wipe σ vs).set i (some (.str s))).set j (some (.int c))) vs = wipe σ vs ∧ tt (((wipe σ vs).set i (some (.str s))).set j (some (.int c))) H fun b H3 =>
      if b = true then te (((wipe σ vs).set i (some (.str s))).set j (some (.int c))) H3 fun y H4 => ∃ acc, H4 D = some (.lst acc) ∧ acc.length < sizeLine ∧ Pv (k + 1) (upd H4 D (.lst (acc ++ [y]))) else Pv (k + 1) H3) (hd : ∀ H, Pv rows.length H → Qd H) :
    ∃ W : Nat → Nat → Hp → Prop, (∃ m, W 0 m (upd H1 D (.lst []))) ∧ ∀ k m H, W k m H →
      ((Itl K a).stop k H ∧ Qd H) ∨ ((Itl K a).go k H ∧ ∃ Nx : Hp → Prop, (∀ H', Nx H' → ∃ m', m' < m ∧ W (k + 1) m' H') ∧ ∀ x H', (Itl K a).yld k H x H' → gTup K 2 (gCons (gName i) (gCons (gName j) gNil)) x (wipe σ vs) H' fun σ2 H2 => wipe σ2 vs = wipe σ vs ∧ tt σ2 H2 fun b H3 =>
        if b = true then te σ2 H3 fun y H4 => ∃ acc, H4 D = some (.lst acc) ∧ acc.length < sizeLine ∧ Nx (upd H4 D (.lst (acc ++ [y]))) else Nx H3) := by
  refine L2.lc_list (xs := as.map V.ref) Pv h0 (fun k H _ p => SqL.of (ha k H p).1) (fun k x H hx p => ?_) (fun H p => ?_)
  · rw [List.getElem?_map] at hx
    cases e : as[k]? with
    | none => rw [e] at hx; cases hx
    | some q =>
      rw [e] at hx
      cases hx
      obtain ⟨r, h1, h2⟩ := Paired.getL (ha k H p).2 e
      rw [List.getElem?_map] at h1
      cases e2 : rows[k]? with
      | none => rw [e2] at h1; cases h1
      | some sc =>
        rw [e2] at h1
        cases h1
        exact ⟨q, _, rfl, SqT.of h2, rfl, _, _, rfl, _, _, rfl, rfl, hs k sc.1 sc.2 H e2 p⟩
  · rw [List.length_map] at p
    have e := (ha _ H p).2.len
    rw [e] at p
    exact hd H p
/-- a list of refs, one name -/
theorem lc_refsL {α : Type} {rows : List α} {f : α → List V} {i : Nat} (Pv : Nat → Hp → Prop) (h0 : Pv 0 (upd H1 D (.lst []))) (ha : ∀ k H, Pv k H → H a = some (.lst (as.map V.ref)) ∧ Tups H as (rows.map f))
    (hs : ∀ k q r H, as[k]? = some q → rows[k]? = some r → H q = some (.tup (f r)) → Pv k H → wipe ((wipe σ vs).set i (some (.ref q))) vs = wipe σ vs ∧ tt ((wipe σ vs).set i (some (.ref q))) H fun b H3 =>
      if b = true then te ((wipe σ vs).set i (some (.ref q))) H3 fun y H4 => ∃ acc, H4 D = some (.lst acc) ∧ acc.length < sizeLine ∧ Pv (k + 1) (upd H4 D (.lst (acc ++ [y]))) else Pv (k + 1) H3) (hd : ∀ H, Pv rows.length H → Qd H) :
    ∃ W : Nat → Nat → Hp → Prop, (∃ m, W 0 m (upd H1 D (.lst []))) ∧ ∀ k m H, W k m H →
      ((Itl K a).stop k H ∧ Qd H) ∨ ((Itl K a).go k H ∧ ∃ Nx : Hp → Prop, (∀ H', Nx H' → ∃ m', m' < m ∧ W (k + 1) m' H') ∧ ∀ x H', (Itl K a).yld k H x H' → gName i x (wipe σ vs) H' fun σ2 H2 => wipe σ2 vs = wipe σ vs ∧ tt σ2 H2 fun b H3 =>
        if b = true then te σ2 H3 fun y H4 => ∃ acc, H4 D = some (.lst acc) ∧ acc.length < sizeLine ∧ Nx (upd H4 D (.lst (acc ++ [y]))) else Nx H3) := by
  refine lc_list (xs := as.map V.ref) Pv h0 (fun k H _ p => SqL.of (ha k H p).1) (fun k x H hx p => ?_) (fun H p => ?_)
  · rw [List.getElem?_map] at hx
    cases e : as[k]? with
    | none => rw [e] at hx; cases hx
    | some q =>
      rw [e] at hx
      cases hx
      obtain ⟨r, h1, h2⟩ := Paired.getL (ha k H p).2 e
      rw [List.getElem?_map] at h1
      cases e2 : rows[k]? with
      | none => rw [e2] at h1; cases h1
      | some sc =>
        rw [e2] at h1
        cases h1
        exact hs k q sc H e e2 h2 p
  · rw [List.length_map] at p
    have e := (ha _ H p).2.len
    rw [e] at p
    exact hd H p
end comps
section loops2
variable {K : PySem.W.Frag} {a : Addr} {as : List Addr} {tb : TS} {D : Ends} {σ : St} {H : Hp}
/-- a list of refs, one name -/
theorem for_refsL {α : Type} {rows : List α} {f : α → List V} {i : Nat} (Pv : Nat → St → Hp → Prop) (h0 : Pv 0 σ H) (ha : ∀ k σ H, Pv k σ H → H a = some (.lst (as.map V.ref)) ∧ Tups H as (rows.map f))
    (hs : ∀ k q r σ H, as[k]? = some q → rows[k]? = some r → H q = some (.tup (f r)) → Pv k σ H → tb { D with nx := Pv (k + 1), ct := Pv (k + 1), bk := D.nx } (σ.set i (some (.ref q))) H) (hd : ∀ σ H, Pv rows.length σ H → D.nx σ H) :
    ∃ W : Nat → Nat → St → Hp → Prop, (∃ m, W 0 m σ H) ∧ ∀ k m σ H, W k m σ H →
      ((Itl K a).stop k H ∧ D.nx σ H) ∨ ((Itl K a).go k H ∧ ∃ N : St → Hp → Prop, (∀ σ' H', N σ' H' → ∃ m', m' < m ∧ W (k + 1) m' σ' H') ∧ ∀ x H', (Itl K a).yld k H x H' → gName i x σ H' fun σ2 H2 => tb { D with nx := N, ct := N, bk := D.nx } σ2 H2) := by
  refine for_list (xs := as.map V.ref) Pv h0 (fun k σ H _ p => SqL.of (ha k σ H p).1) (fun k x σ H hx p => ?_) (fun σ H p => ?_)
  · rw [List.getElem?_map] at hx
    cases e : as[k]? with
    | none => rw [e] at hx; cases hx
    | some q =>
      rw [e] at hx
      cases hx
      obtain ⟨r, h1, h2⟩ := Paired.getL (ha k σ H p).2 e
      rw [List.getElem?_map] at h1
      cases e2 : rows[k]? with
      | none => rw [e2] at h1; cases h1
      | some sc =>
        rw [e2] at h1
        cases h1
        exact hs k q sc σ H e e2 h2 p
  · rw [List.length_map] at p
    have e := (ha _ σ H p).2.len
    rw [e] at p
    exact hd σ H p
end loops2
/-- a new list, being made -/
structure LI (H0 H : Hp) (l : Addr) (xs : List V) : Prop where
  same : Same H0 H
  fresh : H0 l = none
  at_ : H l = some (.lst xs)
theorem LI.nil {H : Hp} {l : Addr} (h : H l = none) : LI H (upd H l (.lst [])) l [] := ⟨same_new h, h, upd_same⟩
theorem LI.grow {H0 H H' : Hp} {l : Addr} {xs : List V} (I : LI H0 H l xs) (s : Same H H') : LI H0 H' l xs := ⟨I.same.trans s, I.fresh, s _ _ I.at_⟩
theorem LI.put {H0 H : Hp} {l : Addr} {xs ys : List V} (I : LI H0 H l xs) : LI H0 (upd H l (.lst ys)) l ys := ⟨same_mut I.same I.fresh, I.fresh, upd_same⟩
end OH

namespace OH
open PySem PySem.Spec PyProof.Rows L2
/-! ### sorted -/
theorem perm_map_inv {α β : Type} {f : α → β} {l l' : List β} (p : l.Perm l') : ∀ xs, l = xs.map f → ∃ ys : List α, ys.Perm xs ∧ l' = ys.map f := by
  induction p with
  | nil =>
    intro xs h
    cases xs with
    | nil => exact ⟨[], .nil, rfl⟩
    | cons a xs => cases h
  | cons x p ih =>
    intro xs h
    cases xs with
    | nil => cases h
    | cons a xs =>
      rw [List.map_cons] at h
      obtain ⟨h1, h2⟩ := List.cons.inj h
      obtain ⟨ys, e1, e2⟩ := ih xs h2
      exact ⟨a :: ys, e1.cons a, by rw [List.map_cons, h1, e2]⟩
  | swap x y l =>
    intro xs h
    cases xs with
    | nil => cases h
    | cons a xs =>
      cases xs with
      | nil => cases h
      | cons b xs =>
        rw [List.map_cons, List.map_cons] at h
        obtain ⟨h1, h2⟩ := List.cons.inj h
        obtain ⟨h2, h3⟩ := List.cons.inj h2
        exact ⟨b :: a :: xs, .swap a b xs, by rw [List.map_cons, List.map_cons, h1, h2, h3]⟩
  | trans p q ih1 ih2 =>
    intro xs h
    obtain ⟨ys, e1, e2⟩ := ih1 xs h
    obtain ⟨zs, e3, e4⟩ := ih2 ys e2
    exact ⟨zs, e3.trans e1, e4⟩
abbrev sle (x y : Str) : Prop := ¬ slt y x
theorem slt_irrefl (x : Str) : ¬ slt x x := List.lt_irrefl _
theorem slt_trans {x y z : Str} (h : slt x y) (k : slt y z) : slt x z := List.lt_trans h k
theorem sle_antisymm {x y : Str} (h : sle x y) (k : sle y x) : x = y := by
  have h1 : x.cps.toList ≤ y.cps.toList := List.not_lt.mp h
  have h2 : y.cps.toList ≤ x.cps.toList := List.not_lt.mp k
  have h3 := List.le_antisymm h1 h2
  obtain ⟨⟨a⟩⟩ := x
  obtain ⟨⟨b⟩⟩ := y
  have : a = b := h3
  rw [this]
theorem slt_of {x y : Str} (h : sle x y) (n : x ≠ y) : slt x y := by
  apply Decidable.byContradiction
  intro z
  exact n (sle_antisymm h z)
theorem sle_of {x y : Str} (h : slt x y) : sle x y := fun k => slt_irrefl x (slt_trans h k)
/-- sorted lists are one -/
theorem sorted_eq {ys zs : List Str} (p : ys.Perm zs) (h : ys.Pairwise sle) (k : zs.Pairwise slt) : ys = zs :=
  List.Perm.eq_of_pairwise (le := sle) (fun a b _ _ h1 h2 => sle_antisymm h1 h2) h (k.imp sle_of) p
theorem sorted_lt {ys : List Str} (h : ys.Pairwise sle) (n : ys.Nodup) : ys.Pairwise slt := by
  have := h.and n
  exact this.imp fun ⟨a, b⟩ => slt_of a b
section
variable {K : PySem.W.Frag} {H : Hp} {a : Addr} {Q : VK}
theorem srt_strs {xs : List Str} (hq : SqL K H a (xs.map V.str)) (q : ∀ (ys : List Str) (p : Addr), ys.Perm xs → ys.Pairwise sle → H p = none → Q (.ref p) (upd H p (.lst (ys.map V.str)))) : rSortedD K [.ref a] H Q := by
  have e1 : (xs.map fun x => (V.str x, PyData.str x)).map (·.1) = xs.map V.str := by rw [List.map_map]; rfl
  refine ⟨a, xs.map fun x => (V.str x, PyData.str x), rfl, by rw [e1]; exact hq, fun b hb => ?_, fun d hd d' hd' => ?_, .inr fun d hd => ?_, fun b hb => ?_, fun bs' p hp hw hn => ?_⟩
  · obtain ⟨x, _, rfl⟩ := List.mem_map.mp hb
    exact .str x
  · rw [List.map_map] at hd hd'
    obtain ⟨x, _, rfl⟩ := List.mem_map.mp hd
    obtain ⟨y, _, rfl⟩ := List.mem_map.mp hd'
    show PySem.W.alike (.str x) (.str y) = true
    simp only [PySem.W.alike]
  · rw [List.map_map] at hd
    obtain ⟨x, _, rfl⟩ := List.mem_map.mp hd
    exact ⟨fun z => (by cases z), fun ys z => (by cases z)⟩
  · obtain ⟨x, _, rfl⟩ := List.mem_map.mp hb
    simp [PyData.depth]
  · obtain ⟨ys, p1, rfl⟩ := perm_map_inv hp.symm xs rfl
    have e2 : (ys.map fun x => (V.str x, PyData.str x)).map (·.1) = ys.map V.str := by rw [List.map_map]; rfl
    rw [e2]
    refine q ys p p1 ?_ hn
    rw [List.pairwise_map] at hw
    refine hw.imp fun {x y} h => ?_
    dsimp only at h
    rw [PySem.W.dataLt_str] at h
    exact of_decide_eq_false h
theorem paired_zs {α : Type} {f : α → List V} : ∀ {zs : List (Addr × α)}, (∀ z ∈ zs, H z.1 = some (.tup (f z.2))) → Tups H (zs.map (·.1)) ((zs.map (·.2)).map f)
  | [], _ => .nil
  | z :: zs, h => .cons (h z List.mem_cons_self) (paired_zs fun y hy => h y (List.mem_cons_of_mem _ hy))
theorem zip_tups {α : Type} {f : α → List V} : ∀ {as : List Addr} {rows : List α}, Tups H as (rows.map f) → ∃ zs : List (Addr × α), as = zs.map (·.1) ∧ rows = zs.map (·.2) ∧ ∀ z ∈ zs, H z.1 = some (.tup (f z.2))
  | _, [], t => by cases t; exact ⟨[], rfl, rfl, fun z h => by cases h⟩
  | _, r :: rows, t => by
    rw [List.map_cons] at t
    cases t with
    | cons h t =>
      obtain ⟨zs, e1, e2, e3⟩ := zip_tups t
      refine ⟨(_, r) :: zs, by rw [List.map_cons, ← e1], by rw [List.map_cons, ← e2], fun z hz => ?_⟩
      rcases List.mem_cons.mp hz with rfl | hz
      · exact h
      · exact e3 z hz
theorem srt_tups {α : Type} {f : α → List V} {d : α → PyData} {as : List Addr} {rows : List α} (hq : SqL K H a (as.map V.ref)) (ht : Tups H as (rows.map f)) (hD : ∀ b r, H b = some (.tup (f r)) → Dp K H (.ref b) (d r))
    (hal : ∀ x y, PySem.W.alike (d x) (d y) = true) (hc : ∀ x, ∃ y r, d x = .tuple (y :: r)) (hdp : ∀ x, (d x).depth ≤ 50)
    (q : ∀ (as' : List Addr) (rows' : List α) (p : Addr), rows'.Perm rows → rows'.Pairwise (fun b c => PySem.W.dataLt (d c) (d b) = false) → Tups H as' (rows'.map f) → H p = none → Q (.ref p) (upd H p (.lst (as'.map V.ref)))) : rSortedD K [.ref a] H Q := by
  obtain ⟨zs, rfl, rfl, hz⟩ := zip_tups ht
  have e1 : ∀ zs : List (Addr × α), (zs.map fun z => (V.ref z.1, d z.2)).map (·.1) = (zs.map (·.1)).map V.ref := fun zs => by rw [List.map_map, List.map_map]; rfl
  refine ⟨a, zs.map fun z => (V.ref z.1, d z.2), rfl, by rw [e1]; exact hq, fun b hb => ?_, fun u hd u' hd' => ?_, .inl fun u hd => ?_, fun b hb => ?_, fun bs' p hp hw hn => ?_⟩
  · obtain ⟨z, hm, rfl⟩ := List.mem_map.mp hb
    exact hD z.1 z.2 (hz z hm)
  · rw [List.map_map] at hd hd'
    obtain ⟨x, _, rfl⟩ := List.mem_map.mp hd
    obtain ⟨y, _, rfl⟩ := List.mem_map.mp hd'
    exact hal _ _
  · rw [List.map_map] at hd
    obtain ⟨x, _, rfl⟩ := List.mem_map.mp hd
    exact hc _
  · obtain ⟨x, _, rfl⟩ := List.mem_map.mp hb
    exact hdp _
  · obtain ⟨ys, p1, rfl⟩ := perm_map_inv hp.symm zs rfl
    rw [e1]
    refine q _ (ys.map (·.2)) p (p1.map _) ?_ (paired_zs fun z hm => hz z (p1.mem_iff.mp hm)) hn
    rw [List.pairwise_map] at hw ⊢
    exact hw
end
theorem ip_le {b c : Int × Str} (h : PySem.W.dataLt (ipD c) (ipD b) = false) : b.1 ≤ c.1 := by
  apply Decidable.byContradiction
  intro n
  have h1 : PySem.W.alike (PyData.int c.1) (PyData.int b.1) = true := by simp only [PySem.W.alike]
  have h2 : PyData.eqv (PyData.int c.1) (PyData.int b.1) = false := by
    simp only [PyData.eqv]
    exact beq_eq_false_iff_ne.mpr (by omega)
  have h3 : PySem.W.alike (PyData.str c.2) (PyData.str b.2) = true := by simp only [PySem.W.alike]
  have e := PySem.W.dataLt_pair h1 h3
  rw [h2, if_neg Bool.false_ne_true, PySem.W.dataLt_int, decide_eq_true (by omega)] at e
  rw [show PySem.W.dataLt (ipD c) (ipD b) = true from e] at h
  cases h
end OH

namespace OH
open PySem PySem.Spec PyProof.Rows L2
def spPlus : Sp := fun vs H Q _ => ∃ a b : Option Int, vs = [oV a, oV b] ∧ Q (oV (plus a b)) H
def spLess : Sp := fun vs H Q _ => ∃ a b : Option Int, vs = [oV a, oV b] ∧ Q (oV (lesser a b)) H
section
variable {P : Program} {w : World} {K : PySem.W.Frag} {mg : Str → Option Value} {base : Heap}
theorem cal_plus {f : Addr} {fd : FuncData} (D : C8.Def K mg "plus" s_plus f fd) (b : L2.Binds K fd ["one", "other"] []) (T : Bt mg) : C8.Cal P w K mg base 1 "plus" spPlus [] := by
  refine C8.cal0 D b .nil sc_plus (fun vs H Q E h => ?_) (fun cdv A outer s H vs Q E hr h => ?_)
  · obtain ⟨x, y, rfl, _⟩ := h
    rfl
  · obtain ⟨x, y, rfl, q⟩ := h
    have hu := hu_of hr
    have hu64 := hr.units
    refine ⟨_, (pss_cons (ps_if (PW.pt (pw_or (pt_cmp (pc_isN (pv 0 rfl (.inl v_plus_0)))) (pw_or1 (pt_cmp (pc_isN (pv 1 rfl (.inl v_plus_1))))))) (pss_one (ps_ret pe_non)) pss_nil)
      (pss_one (ps_ret (pe_op op_add (pv 0 rfl (.inl v_plus_0)) (pv 1 rfl (.inl v_plus_1)))))), ?_⟩
    cases x with
    | none => exact ⟨_, rfl, _, rfl, q⟩
    | some x =>
      cases y with
      | none => exact ⟨_, rfl, _, rfl, _, rfl, _, rfl, q⟩
      | some y => exact ⟨_, rfl, _, rfl, _, rfl, _, rfl, _, rfl, _, rfl, _, _, rfl, rfl, q⟩
theorem cal_Lplus {f : Addr} {fd : FuncData} (D : C8.Def K mg "_law_plus" s_Lplus f fd) (b : L2.Binds K fd ["_law_one", "_law_other"] []) (T : Bt mg) : C8.Cal P w K mg base 1 "_law_plus" spPlus [] := by
  refine C8.cal0 D b .nil sc_Lplus (fun vs H Q E h => ?_) (fun cdv A outer s H vs Q E hr h => ?_)
  · obtain ⟨x, y, rfl, _⟩ := h
    rfl
  · obtain ⟨x, y, rfl, q⟩ := h
    have hu := hu_of hr
    have hu64 := hr.units
    refine ⟨_, (pss_cons (ps_if (PW.pt (pw_or (pt_cmp (pc_isN (pv 0 rfl (.inl v_Lplus_0)))) (pw_or1 (pt_cmp (pc_isN (pv 1 rfl (.inl v_Lplus_1))))))) (pss_one (ps_ret pe_non)) pss_nil)
      (pss_one (ps_ret (pe_op op_add (pv 0 rfl (.inl v_Lplus_0)) (pv 1 rfl (.inl v_Lplus_1)))))), ?_⟩
    cases x with
    | none => exact ⟨_, rfl, _, rfl, q⟩
    | some x =>
      cases y with
      | none => exact ⟨_, rfl, _, rfl, _, rfl, _, rfl, q⟩
      | some y => exact ⟨_, rfl, _, rfl, _, rfl, _, rfl, _, rfl, _, rfl, _, _, rfl, rfl, q⟩
theorem cal_lesser {f : Addr} {fd : FuncData} (D : C8.Def K mg "lesser" s_lesser f fd) (b : L2.Binds K fd ["one", "other"] []) (T : Bt mg) : C8.Cal P w K mg base 1 "lesser" spLess [] := by
  refine C8.cal0 D b .nil sc_lesser (fun vs H Q E h => ?_) (fun cdv A outer s H vs Q E hr h => ?_)
  · obtain ⟨x, y, rfl, _⟩ := h
    rfl
  · obtain ⟨x, y, rfl, q⟩ := h
    have hu := hu_of hr
    have hu64 := hr.units
    refine ⟨_, (pss_cons (ps_if (PW.pt (pw_or (pt_cmp (pc_isN (pv 0 rfl (.inl v_lesser_0)))) (pw_or1 (PW.pt (pw_and (pt_cmp (pc_notN (pv 1 rfl (.inl v_lesser_1)))) (pw_and1 (pt_cmpR op_lt (pv 1 rfl (.inl v_lesser_1)) (pv 0 rfl (.inl v_lesser_0)) (nomark _)))))))) (pss_one (ps_ret (pv 1 rfl (.inl v_lesser_1)))) pss_nil)
      (pss_one (ps_ret (pv 0 rfl (.inl v_lesser_0))))), ?_⟩
    cases x with
    | none => exact ⟨_, rfl, _, rfl, _, rfl, q⟩
    | some x =>
      cases y with
      | none => exact ⟨_, rfl, _, rfl, _, rfl, _, rfl, _, rfl, q⟩
      | some y =>
        refine ⟨_, rfl, _, rfl, _, rfl, _, rfl, _, rfl, _, rfl, _, _, rfl, rfl, _, rfl, ?_⟩
        have e : lesser (some x) (some y) = if y < x then some y else some x := rfl
        rw [e] at q
        refine ite2 (fun h => ?_) (fun h => ?_)
        · rw [if_pos (of_decide_eq_true h)] at q
          exact ⟨_, rfl, q⟩
        · rw [if_neg (fun z => h (decide_eq_true z))] at q
          exact ⟨_, rfl, q⟩
theorem cal_Lless {f : Addr} {fd : FuncData} (D : C8.Def K mg "_law_less" s_Lless f fd) (b : L2.Binds K fd ["_law_one", "_law_other"] []) (T : Bt mg) : C8.Cal P w K mg base 1 "_law_less" spLess [] := by
  refine C8.cal0 D b .nil sc_Lless (fun vs H Q E h => ?_) (fun cdv A outer s H vs Q E hr h => ?_)
  · obtain ⟨x, y, rfl, _⟩ := h
    rfl
  · obtain ⟨x, y, rfl, q⟩ := h
    have hu := hu_of hr
    have hu64 := hr.units
    refine ⟨_, (pss_cons (ps_if (PW.pt (pw_or (pt_cmp (pc_isN (pv 0 rfl (.inl v_Lless_0)))) (pw_or1 (PW.pt (pw_and (pt_cmp (pc_notN (pv 1 rfl (.inl v_Lless_1)))) (pw_and1 (pt_cmpR op_lt (pv 1 rfl (.inl v_Lless_1)) (pv 0 rfl (.inl v_Lless_0)) (nomark _)))))))) (pss_one (ps_ret (pv 1 rfl (.inl v_Lless_1)))) pss_nil)
      (pss_one (ps_ret (pv 0 rfl (.inl v_Lless_0))))), ?_⟩
    cases x with
    | none => exact ⟨_, rfl, _, rfl, _, rfl, q⟩
    | some x =>
      cases y with
      | none => exact ⟨_, rfl, _, rfl, _, rfl, _, rfl, _, rfl, q⟩
      | some y =>
        refine ⟨_, rfl, _, rfl, _, rfl, _, rfl, _, rfl, _, rfl, _, _, rfl, rfl, _, rfl, ?_⟩
        have e : lesser (some x) (some y) = if y < x then some y else some x := rfl
        rw [e] at q
        refine ite2 (fun h => ?_) (fun h => ?_)
        · rw [if_pos (of_decide_eq_true h)] at q
          exact ⟨_, rfl, q⟩
        · rw [if_neg (fun z => h (decide_eq_true z))] at q
          exact ⟨_, rfl, q⟩
end
/-- how many mores a case has -/
def spMores : Sp := fun vs H Q _ => ∃ (c : Addr) (C : Cse), vs = [.ref c] ∧ CaseAt H c C ∧ (∀ l, C.lim = some l → 1 ≤ l) ∧ Q (.int (C.R : Int)) H
def spIsTree : Sp := fun vs H Q _ => ∃ (a : Addr) (P : List Str) (W : List (Str × Str × Int)), vs = [.ref a] ∧ MapAt H a P W ∧ W.length + 1 = P.length ∧ Q (.bl true) H
def spNeed : Sp := fun vs H Q _ => ∃ (c : Addr) (C : Cse), vs = [.ref c] ∧ CaseAt H c C ∧ C.W.length + 1 = C.P.length ∧ Q .non H
section
variable {P : Program} {w : World} {K : PySem.W.Frag} {mg : Str → Option Value} {base : Heap}
theorem cal_mores_of {f : Addr} {fd : FuncData} (D : C8.Def K mg "mores_of" s_mores_of f fd) (b : L2.Binds K fd ["case"] []) (T : Bt mg) : C8.Cal P w K mg base 1 "mores_of" spMores [] := by
  refine C8.cal0 D b .nil sc_mores_of (fun vs H Q E h => ?_) (fun cdv A outer s H vs Q E hr h => ?_)
  · obtain ⟨c, C, rfl, _⟩ := h
    rfl
  · obtain ⟨c, C, rfl, hC, hl, q⟩ := h
    have hu := hu_of hr
    have hu64 := hr.units
    refine ⟨_, (pss_cons (ps_set (i := 1) sc_mores_of.nd rfl (.inl v_mores_of_1) (pe_callB call_len_seq g_mores_of_len T.len_ (by decide +kernel) (pa_cons (pe_ix ix_tup (pv 0 rfl (.inl v_mores_of_0)) pe_int (fun _ _ => rfl)) pa_nil)))
      (pss_cons (ps_if (pt_cmp (pc_notN (pe_ix ix_tup (pv 0 rfl (.inl v_mores_of_0)) pe_int (fun _ _ => rfl)))) (pss_one (ps_set (i := 1) sc_mores_of.nd rfl (.inl v_mores_of_1) (pe_callB (call_min2 rfl) g_mores_of_min T.min_ (by decide +kernel) (pa_cons (pv 1 rfl (.inl v_mores_of_1)) (pa_cons (pe_ix ix_tup (pv 0 rfl (.inl v_mores_of_0)) pe_int (fun _ _ => rfl)) pa_nil))))) pss_nil)
      (pss_one (ps_ret (pv 1 rfl (.inl v_mores_of_1)))))), ?_⟩
    obtain ⟨am, asi, af, h1, h2, h3, h4⟩ := hC.ex
    obtain ⟨ss, h5, h6⟩ := h3.ex
    have e6 : ((ss.map V.ref).length : Int) = C.sites.length := by rw [List.length_map, h6.len]
    refine ⟨_, rfl, _, _, _, _, rfl, rfl, SqT.of h1, atI_nat (j := 1) rfl, _, _, rfl, .inr (SqT.of h5), ?_⟩
    refine ⟨_, rfl, _, _, _, _, rfl, rfl, SqT.of h1, atI_nat (j := 3) rfl, ?_⟩
    unfold Cse.R at q
    cases e : C.lim with
    | none =>
      rw [e] at q
      rw [← e6] at q
      exact ⟨_, rfl, ⟨_, rfl, q⟩⟩
    | some l =>
      rw [e] at q h1
      have := hl l e
      refine ⟨_, rfl, ?_⟩
      refine ⟨_, rfl, _, rfl, _, _, _, _, rfl, rfl, SqT.of h1, atI_nat (j := 3) rfl, _, _, rfl, ?_⟩
      refine ⟨_, rfl, ?_⟩
      have e7 : (if l < ((ss.map V.ref).length : Int) then l else ((ss.map V.ref).length : Int)) = ((min l.toNat C.sites.length : Nat) : Int) := by
        rw [e6]
        by_cases z : l < (C.sites.length : Int)
        · rw [if_pos z]; omega
        · rw [if_neg z]; omega
      rw [e7]
      exact q
theorem cal_Lmores {f : Addr} {fd : FuncData} (D : C8.Def K mg "_law_mores" s_Lmores f fd) (b : L2.Binds K fd ["_law_case_here"] []) (T : Bt mg) : C8.Cal P w K mg base 1 "_law_mores" spMores [] := by
  refine C8.cal0 D b .nil sc_Lmores (fun vs H Q E h => ?_) (fun cdv A outer s H vs Q E hr h => ?_)
  · obtain ⟨c, C, rfl, _⟩ := h
    rfl
  · obtain ⟨c, C, rfl, hC, hl, q⟩ := h
    have hu := hu_of hr
    have hu64 := hr.units
    refine ⟨_, (pss_cons (ps_if (pt_cmp (pc_isN (pe_ix ix_tup (pv 0 rfl (.inl v_Lmores_0)) pe_int (fun _ _ => rfl)))) (pss_one (ps_ret (pe_callB call_len_seq g_Lmores_len T.len_ (by decide +kernel) (pa_cons (pe_ix ix_tup (pv 0 rfl (.inl v_Lmores_0)) pe_int (fun _ _ => rfl)) pa_nil)))) pss_nil)
      (pss_one (ps_ret (pe_callB (call_min2 rfl) g_Lmores_min T.min_ (by decide +kernel) (pa_cons (pe_ix ix_tup (pv 0 rfl (.inl v_Lmores_0)) pe_int (fun _ _ => rfl)) (pa_cons (pe_callB call_len_seq g_Lmores_len T.len_ (by decide +kernel) (pa_cons (pe_ix ix_tup (pv 0 rfl (.inl v_Lmores_0)) pe_int (fun _ _ => rfl)) pa_nil)) pa_nil)))))), ?_⟩
    obtain ⟨am, asi, af, h1, h2, h3, h4⟩ := hC.ex
    obtain ⟨ss, h5, h6⟩ := h3.ex
    have e6 : ((ss.map V.ref).length : Int) = C.sites.length := by rw [List.length_map, h6.len]
    refine ⟨_, rfl, _, _, _, _, rfl, rfl, SqT.of h1, atI_nat (j := 3) rfl, ?_⟩
    unfold Cse.R at q
    cases e : C.lim with
    | none =>
      rw [e] at q
      rw [← e6] at q
      exact ⟨_, rfl, _, rfl, _, _, _, _, rfl, rfl, SqT.of h1, atI_nat (j := 1) rfl, _, _, rfl, .inr (SqT.of h5), q⟩
    | some l =>
      rw [e] at q h1
      have := hl l e
      refine ⟨_, rfl, ?_⟩
      refine ⟨_, rfl, _, _, _, _, rfl, rfl, SqT.of h1, atI_nat (j := 3) rfl, _, rfl, _, _, _, _, rfl, rfl, SqT.of h1, atI_nat (j := 1) rfl, _, _, rfl, .inr (SqT.of h5), _, _, rfl, ?_⟩
      have e7 : (if ((ss.map V.ref).length : Int) < l then ((ss.map V.ref).length : Int) else l) = ((min l.toNat C.sites.length : Nat) : Int) := by
        rw [e6]
        by_cases z : (C.sites.length : Int) < l
        · rw [if_pos z]; omega
        · rw [if_neg z]; omega
      rw [e7]
      exact q
theorem cal_is_tree {f : Addr} {fd : FuncData} (D : C8.Def K mg "is_tree" s_is_tree f fd) (b : L2.Binds K fd ["web"] []) (T : Bt mg) : C8.Cal P w K mg base 1 "is_tree" spIsTree [] := by
  refine C8.cal0 D b .nil sc_is_tree (fun vs H Q E h => ?_) (fun cdv A outer s H vs Q E hr h => ?_)
  · obtain ⟨a, Pl, W, rfl, _⟩ := h
    rfl
  · obtain ⟨a, Pl, W, rfl, hM, hl, q⟩ := h
    have hu := hu_of hr
    have hu64 := hr.units
    refine ⟨_, (pss_one (ps_ret (pe_cmpR op_eq (pe_op op_add (pe_callB call_len_seq g_is_tree_len T.len_ (by decide +kernel) (pa_cons (pe_ix ix_tup (pv 0 rfl (.inl v_is_tree_0)) pe_int (fun _ _ => rfl)) pa_nil)) pe_int) (pe_callB call_len_seq g_is_tree_len T.len_ (by decide +kernel) (pa_cons (pe_ix ix_tup (pv 0 rfl (.inl v_is_tree_0)) pe_int (fun _ _ => rfl)) pa_nil)) (nomark _)))), ?_⟩
    obtain ⟨ap, aw, ws, h1, h2, h3, h4⟩ := hM.ex
    refine ⟨_, rfl, _, _, _, _, rfl, rfl, SqT.of h1, atI_nat (j := 1) rfl, _, _, rfl, .inr (SqT.of h3), _, _, rfl, rfl, _, rfl, _, _, _, _, rfl, rfl, SqT.of h1, atI_nat (j := 0) rfl, _, _, rfl, .inr (SqT.of h2), rfl, ?_⟩
    have e1 : ((ws.map V.ref).length : Int) = W.length := by rw [List.length_map, h4.len]
    rw [e1, List.length_map, decide_eq_true (show V.int ((W.length : Int) + 1) = V.int (Pl.length : Int) by congr 1; omega)]
    exact q
theorem cal_need_tree {f : Addr} {fd : FuncData} (D : C8.Def K mg "need_tree" s_need_tree f fd) (b : L2.Binds K fd ["case"] []) (T : Bt mg) (c_is_tree : C8.Cal P w K mg base 1 "is_tree" spIsTree []) : C8.Cal P w K mg base 2 "need_tree" spNeed [] := by
  refine C8.cal0 D b .nil sc_need_tree (fun vs H Q E h => ?_) (fun cdv A outer s H vs Q E hr h => ?_)
  · obtain ⟨c, C, rfl, _⟩ := h
    rfl
  · obtain ⟨c, C, rfl, hC, hl, q⟩ := h
    have hu := hu_of hr
    have hu64 := hr.units
    refine ⟨_, (pss_one (ps_if (pt_not (pt_val (C8.pe_c c_is_tree hr (by decide) g_need_tree_is_tree (pa_cons (pe_ix ix_tup (pv 0 rfl (.inl v_need_tree_0)) pe_int (fun _ _ => rfl)) pa_nil)))) (pss_one ps_never) pss_nil)), ?_⟩
    obtain ⟨am, asi, af, h1, h2, h3, h4⟩ := hC.ex
    refine ⟨_, rfl, _, _, _, _, rfl, rfl, SqT.of h1, atI_nat (j := 0) rfl, am, C.P, C.W, rfl, h2, hl, _, rfl, ?_⟩
    exact q
end
end OH

namespace OH
open PySem PySem.Spec PyProof.Rows L2
/-- a dict of lists of pairs, being made -/
structure NearI (H0 H : Hp) (d : Addr) (kvs : List (Key × V)) (Q : List Str) (g : Str → List (Str × Int)) : Prop where
  hd : H d = some (.dK kvs)
  at_ : ∀ v ∈ Q, ∃ (l : Addr) (as : List Addr), valV kvs (.inr v) = some (.ref l) ∧ H l = some (.lst (as.map V.ref)) ∧ Tups H as ((g v).map pairV) ∧ H0 l = none ∧ l ≠ d
  inj : ∀ u ∈ Q, ∀ v ∈ Q, ∀ l, valV kvs (.inr u) = some (.ref l) → valV kvs (.inr v) = some (.ref l) → u = v
theorem NearI.add {H0 H : Hp} {d la t : Addr} {kvs : List (Key × V)} {Q : List Str} {g : Str → List (Str × Int)} {x : Str} {as : List Addr} {r : Str × Int} (I : NearI H0 H d kvs Q g) (hx : x ∈ Q) (hl : valV kvs (.inr x) = some (.ref la)) (hla : H la = some (.lst (as.map V.ref))) (has : Tups H as ((g x).map pairV)) (nt : H t = none) :
    NearI H0 (upd (upd H t (.tup (pairV r))) la (.lst (as.map V.ref ++ [V.ref t]))) d kvs Q (fun v => if v = x then g v ++ [r] else g v) := by
  obtain ⟨la', as', e1, e2, e3, e4, e5⟩ := I.at_ x hx
  rw [hl] at e1
  cases e1
  have tla : t ≠ la := fun z => by rw [z, hla] at nt; cases nt
  have k1 : Tk H (upd (upd H t (.tup (pairV r))) la (.lst (as.map V.ref ++ [V.ref t]))) := (tk_same (same_new nt)).trans (tk_ext (x := la) Ext.upd (show upd H t (.tup (pairV r)) la = some (.lst (as.map V.ref)) by rw [upd_ne (Ne.symm tla)]; exact hla) nt_lst)
  have ht : upd (upd H t (.tup (pairV r))) la (.lst (as.map V.ref ++ [V.ref t])) t = some (.tup (pairV r)) := by rw [upd_ne tla, upd_same]
  refine ⟨?_, fun v hv => ?_, I.inj⟩
  · rw [upd_ne (Ne.symm e5), upd_ne (ne_of_none I.hd nt)]
    exact I.hd
  · by_cases q : v = x
    · subst q
      refine ⟨la, as ++ [t], hl, ?_, ?_, e4, e5⟩
      · rw [upd_same, List.map_append]; rfl
      · rw [if_pos rfl, List.map_append]
        exact (has.tk k1).snoc ht
    · obtain ⟨l, bs, f1, f2, f3, f4, f5⟩ := I.at_ v hv
      have ne : l ≠ la := fun z => q (I.inj v hv x hx la (z ▸ f1) hl)
      refine ⟨l, bs, f1, ?_, ?_, f4, f5⟩
      · rw [upd_ne ne, upd_ne (ne_of_none f2 nt)]
        exact f2
      · rw [if_neg q]
        exact f3.tk k1
theorem near_len (W : List (Str × Str × Int)) (v : Str) : (near W v).length ≤ 2 * W.length := by
  induction W with
  | nil => exact Nat.le_refl _
  | cons e W ih =>
    have : near (e :: W) v = ((if e.1 = v then [(e.2.1, e.2.2)] else []) ++ (if e.2.1 = v then [(e.1, e.2.2)] else [])) ++ near W v := by
      unfold near
      rw [List.flatMap_cons]
    rw [this, List.length_append, List.length_append, List.length_cons]
    have h1 : ((if e.1 = v then [(e.2.1, e.2.2)] else []) : List (Str × Int)).length ≤ 1 := by split <;> simp
    have h2 : ((if e.2.1 = v then [(e.1, e.2.2)] else []) : List (Str × Int)).length ≤ 1 := by split <;> simp
    omega
theorem near_snoc (W : List (Str × Str × Int)) (e : Str × Str × Int) (v : Str) : near (W ++ [e]) v = near W v ++ ((if e.1 = v then [(e.2.1, e.2.2)] else []) ++ (if e.2.1 = v then [(e.1, e.2.2)] else [])) := by
  unfold near
  rw [List.flatMap_append, List.flatMap_cons, List.flatMap_nil, List.append_nil]
/-- what near_by promises -/
def spNear : Sp := fun vs H Q _ => ∃ (a : Addr) (P : List Str) (W : List (Str × Str × Int)), vs = [.ref a] ∧ MapAt H a P W ∧ (∀ x y l, (x, y, l) ∈ W → x ∈ P ∧ y ∈ P ∧ x ≠ y) ∧ P.length ≤ 1000 ∧ W.length ≤ 1000 ∧
  ∀ d H', Same H H' → H d = none → NearAt H' d P W → Q (.ref d) H'
section
variable {P : Program} {w : World} {K : PySem.W.Frag} {mg : Str → Option Value} {base : Heap}
theorem cal_near_by {f : Addr} {fd : FuncData} (D : C8.Def K mg "near_by" s_near_by f fd) (b : L2.Binds K fd ["web"] []) (T : Bt mg) : C8.Cal P w K mg base 1 "near_by" spNear [] := by
  refine C8.cal0 D b .nil sc_near_by (fun vs H Q E h => ?_) (fun cdv A outer s H vs Q E hr h => ?_)
  · obtain ⟨a, Pl, W, rfl, _⟩ := h
    rfl
  · obtain ⟨a, Pl, W, rfl, hM, hE, hPl, hWl, q⟩ := h
    have hu := hu_of hr
    have hu64 := hr.units
    refine ⟨_, (pss_cons (ps_set (i := 1) sc_near_by.nd rfl (.inl v_near_by_1) pe_dnewK)
      (pss_cons (ps_for PassesOwn.never rfl (pi_tup (pe_ix ix_tup (pv 0 rfl (.inl v_near_by_0)) pe_int (fun _ _ => rfl))) (pg_name (i := 2) sc_near_by.nd rfl (.inl v_near_by_2))
        (pss_one (ps_dput hu (pv 1 rfl (.inl v_near_by_1)) (pv 2 rfl (.inl v_near_by_2)) (pe_lst pa_nil) rfl)))
      (pss_cons (ps_for PassesOwn.never rfl (pi_tup (pe_ix ix_tup (pv 0 rfl (.inl v_near_by_0)) pe_int (fun _ _ => rfl))) (pg_tup rfl (pgs_cons (pg_name (i := 3) sc_near_by.nd rfl (.inl v_near_by_3)) (pgs_cons (pg_name (i := 4) sc_near_by.nd rfl (.inl v_near_by_4)) (pgs_cons (pg_name (i := 5) sc_near_by.nd rfl (.inl v_near_by_5)) pgs_nil))))
        (pss_cons (ps_expr (pe_bm PySem.F.plainAttrs_list PySem.F.slot_list_append PySem.F.type_list_append mt_append (pe_dget hu (pv 1 rfl (.inl v_near_by_1)) (pv 3 rfl (.inl v_near_by_3)) (fun _ _ => rfl)) (pa_cons (pe_tup (pa_cons (pv 4 rfl (.inl v_near_by_4)) (pa_cons (pv 5 rfl (.inl v_near_by_5)) pa_nil))) pa_nil)))
        (pss_one (ps_expr (pe_bm PySem.F.plainAttrs_list PySem.F.slot_list_append PySem.F.type_list_append mt_append (pe_dget hu (pv 1 rfl (.inl v_near_by_1)) (pv 4 rfl (.inl v_near_by_4)) (fun _ _ => rfl)) (pa_cons (pe_tup (pa_cons (pv 3 rfl (.inl v_near_by_3)) (pa_cons (pv 5 rfl (.inl v_near_by_5)) pa_nil))) pa_nil))))))
      (pss_one (ps_ret (pv 1 rfl (.inl v_near_by_1))))))), ?_⟩
    obtain ⟨ap, aw, ws, h1, h2, h3, h4⟩ := hM.ex
    intro d hd
    refine new_obj hd fun H1 s1 e1 => ?_
    refine ⟨_, rfl, _, _, _, _, rfl, rfl, SqT.of (s1 _ _ h1), atI_nat (j := 0) rfl, ap, rfl, ⟨_, SqT.of (s1 _ _ h2)⟩, ?_⟩
    refine for_strs (P := Pl) (fun k σ H2 => ∃ (y2 y3 y4 y5 : Option V) (kvs : List (Key × V)), σ = [some (.ref a), some (.ref d), y2, y3, y4, y5] ∧ Same H H2 ∧ kvs.length ≤ k ∧ NearI H H2 d kvs (Pl.take k) (fun _ => []))
      ⟨_, _, _, _, [], rfl, s1, Nat.le_refl _, e1, fun v hv => by simp at hv, fun u hu => by simp at hu⟩ (fun k σ H2 ⟨_, _, _, _, _, _, s2, _⟩ => s2 _ _ h2) (fun k p σ H2 hp ⟨y2, y3, y4, y5, kvs, eσ, s2, hk, I⟩ => ?_) (fun σ H2 ⟨y2, y3, y4, y5, kvs, eσ, s2, hk, I⟩ => ?_)
    · subst eσ
      have hkl : k < Pl.length := (List.getElem?_eq_some_iff.mp hp).1
      refine ⟨Nat.zero_le _, fun l nl => ?_⟩
      have ld : l ≠ d := fun z => by rw [z, I.hd] at nl; cases nl
      refine ⟨_, rfl, _, rfl, d, _, rfl, DPut.k (k := Sum.inr p) (by rw [upd_ne (Ne.symm ld)]; exact I.hd) (sz9 (by omega)), ?_⟩
      have s3 : Same H (upd (upd H2 l (.lst [])) d (.dK (putK kvs (.inr p) (.ref l)))) := same_mut (s2.trans (same_new nl)) hd
      refine ⟨_, _, _, _, putK kvs (.inr p) (.ref l), rfl, s3, Nat.le_trans (length_putK _ _ _) (Nat.succ_le_succ hk), upd_same, fun v hv => ?_, fun u hu v hv l' => ?_⟩
      · rw [take_snoc hp] at hv
        by_cases q : v = p
        · subst q
          refine ⟨l, [], by rw [valV_put, if_pos rfl], by rw [upd_ne ld, upd_same]; rfl, .nil, s2.free nl, ld⟩
        · have hv' : v ∈ Pl.take k := (List.mem_append.mp hv).resolve_right (fun z => q (List.mem_singleton.mp z))
          obtain ⟨l', as, f1, f2, f3, f4, f5⟩ := I.at_ v hv'
          cases f3 with
          | nil =>
            refine ⟨l', [], by rw [valV_put, if_neg (fun z => q (Sum.inr.inj z))]; exact f1, by rw [upd_ne f5, upd_ne (ne_of_none f2 nl)]; exact f2, .nil, f4, f5⟩
      · rw [take_snoc hp] at hu hv
        rw [valV_put, valV_put]
        have old : ∀ z ∈ Pl.take k ++ [p], z ≠ p → z ∈ Pl.take k := fun z hz hn => (List.mem_append.mp hz).resolve_right (fun y => hn (List.mem_singleton.mp y))
        have nol : ∀ z ∈ Pl.take k, valV kvs (.inr z) ≠ some (.ref l) := fun z hz e => by
          obtain ⟨l', as, f1, f2, _⟩ := I.at_ z hz
          rw [e] at f1
          cases f1
          rw [nl] at f2
          cases f2
        by_cases qu : u = p
        · by_cases qv : v = p
          · exact fun _ _ => qu.trans qv.symm
          · rw [if_pos (by rw [qu]), if_neg (fun z => qv (Sum.inr.inj z))]
            intro g1 g2
            cases g1
            exact absurd g2 (nol v (old v hv qv))
        · by_cases qv : v = p
          · rw [if_neg (fun z => qu (Sum.inr.inj z)), if_pos (by rw [qv])]
            intro g1 g2
            cases g2
            exact absurd g1 (nol u (old u hu qu))
          · rw [if_neg (fun z => qu (Sum.inr.inj z)), if_neg (fun z => qv (Sum.inr.inj z))]
            exact I.inj u (old u hu qu) v (old v hv qv) l'
    · subst eσ
      rw [take_len] at I
      refine ⟨_, rfl, _, _, _, _, rfl, rfl, SqT.of (s2 _ _ h1), atI_nat (j := 1) rfl, aw, rfl, ⟨_, SqT.of (s2 _ _ h3)⟩, ?_⟩
      refine for_ways (rows := W) (as := ws) (fun k σ H3 => ∃ (y2 y3 y4 y5 : Option V), σ = [some (.ref a), some (.ref d), y2, y3, y4, y5] ∧ Same H H3 ∧ NearI H H3 d kvs Pl (near (W.take k)))
        ⟨_, _, _, _, rfl, s2, I⟩ (fun k σ H3 ⟨_, _, _, _, _, s3, _⟩ => ⟨s3 _ _ h3, h4.tk (tk_same s3)⟩) (fun k e σ H3 he ⟨y2, y3, y4, y5, eσ, s3, I3⟩ => ?_) (fun σ H3 ⟨y2, y3, y4, y5, eσ, s3, I3⟩ => ?_)
      · subst eσ
        obtain ⟨x, y, c⟩ := e
        have hkl : k < W.length := (List.getElem?_eq_some_iff.mp he).1
        obtain ⟨hx, hy, hxy⟩ := hE x y c (List.mem_of_getElem? he)
        obtain ⟨lx, as, f1, f2, f3, f4, f5⟩ := I3.at_ x hx
        have gx : DGet H3 d (kV (.inr x)) (some (.ref lx)) := f1 ▸ DGet.k (k := Sum.inr x) I3.hd
        refine ⟨_, rfl, _, rfl, d, .ref lx, rfl, gx, .inl ⟨rfl, _, SqL.of f2⟩, _, rfl, _, rfl, (by show 2 ≤ sizeLine; decide), fun t nt => ?_⟩
        have lt1 : lx ≠ t := ne_of_none f2 nt
        have hl1 := near_len (W.take k) x
        rw [List.length_take] at hl1
        have e1 := f3.len
        refine ⟨lx, _, _, rfl, rfl, by rw [upd_ne lt1]; exact f2, by rw [List.length_map]; exact sz9 (by omega), ?_⟩
        have I4 := I3.add (r := (y, c)) hx f1 f2 f3 nt
        have s4 : Same H (upd (upd H3 t (.tup (pairV (y, c)))) lx (.lst (as.map V.ref ++ [V.ref t]))) := same_mut (s3.trans (same_new nt)) f4
        obtain ⟨ly, bs, g1, g2, g3, g4, g5⟩ := I4.at_ y hy
        have gy : DGet (upd (upd H3 t (.tup (pairV (y, c)))) lx (.lst (as.map V.ref ++ [V.ref t]))) d (kV (.inr y)) (some (.ref ly)) := g1 ▸ DGet.k (k := Sum.inr y) I4.hd
        refine ⟨_, rfl, _, rfl, d, .ref ly, rfl, gy, .inl ⟨rfl, _, SqL.of g2⟩, _, rfl, _, rfl, (by show 2 ≤ sizeLine; decide), fun t2 nt2 => ?_⟩
        have lt2 : ly ≠ t2 := ne_of_none g2 nt2
        have hl2 := near_len (W.take k) y
        rw [List.length_take] at hl2
        have e2 := g3.len
        rw [if_neg (Ne.symm hxy)] at e2
        refine ⟨ly, _, _, rfl, rfl, by rw [upd_ne lt2]; exact g2, by rw [List.length_map]; exact sz9 (by omega), ?_⟩
        have I5 := I4.add (r := (x, c)) hy g1 g2 g3 nt2
        have s5 : Same H (upd (upd (upd (upd H3 t (.tup (pairV (y, c)))) lx (.lst (as.map V.ref ++ [V.ref t]))) t2 (.tup (pairV (x, c)))) ly (.lst (bs.map V.ref ++ [V.ref t2]))) := same_mut (s4.trans (same_new nt2)) g4
        refine ⟨_, _, _, _, rfl, s5, ?_⟩
        have eg : (fun v => if v = y then (if v = x then near (W.take k) v ++ [(y, c)] else near (W.take k) v) ++ [(x, c)] else (if v = x then near (W.take k) v ++ [(y, c)] else near (W.take k) v)) = near (W.take (k + 1)) := by
          funext v
          rw [take_snoc he, near_snoc]
          dsimp only
          by_cases q1 : v = y
          · have q2 : ¬ v = x := fun z => hxy (z.symm.trans q1)
            rw [if_pos q1, if_neg q2, if_neg (fun z => q2 z.symm), if_pos q1.symm, List.nil_append]
          · rw [if_neg q1]
            by_cases q2 : v = x
            · rw [if_pos q2, if_pos q2.symm, if_neg (fun z => q1 z.symm), List.append_nil]
            · rw [if_neg q2, if_neg (fun z => q2 z.symm), if_neg (fun z => q1 z.symm), List.append_nil, List.append_nil]
        rw [eg] at I5
        exact I5
      · subst eσ
        rw [take_len] at I3
        exact ⟨_, rfl, q d H3 s3 hd ⟨kvs, I3.hd, fun v hv => by
          obtain ⟨l, as, f1, f2, f3, _⟩ := I3.at_ v hv
          exact ⟨l, as, f1, f2, f3⟩⟩⟩
theorem cal_Lnear {f : Addr} {fd : FuncData} (D : C8.Def K mg "_law_near" s_Lnear f fd) (b : L2.Binds K fd ["_law_here"] []) (T : Bt mg) : C8.Cal P w K mg base 1 "_law_near" spNear [] := by
  refine C8.cal0 D b .nil sc_Lnear (fun vs H Q E h => ?_) (fun cdv A outer s H vs Q E hr h => ?_)
  · obtain ⟨a, Pl, W, rfl, _⟩ := h
    rfl
  · obtain ⟨a, Pl, W, rfl, hM, hE, hPl, hWl, q⟩ := h
    have hu := hu_of hr
    have hu64 := hr.units
    refine ⟨_, (pss_cons (ps_set (i := 1) sc_Lnear.nd rfl (.inl v_Lnear_1) pe_dnewK)
      (pss_cons (ps_for PassesOwn.never rfl (pi_tup (pe_ix ix_tup (pv 0 rfl (.inl v_Lnear_0)) pe_int (fun _ _ => rfl))) (pg_name (i := 2) sc_Lnear.nd rfl (.inl v_Lnear_2))
        (pss_one (ps_dput hu (pv 1 rfl (.inl v_Lnear_1)) (pv 2 rfl (.inl v_Lnear_2)) (pe_lst pa_nil) rfl)))
      (pss_cons (ps_for PassesOwn.never rfl (pi_tup (pe_ix ix_tup (pv 0 rfl (.inl v_Lnear_0)) pe_int (fun _ _ => rfl))) (pg_tup rfl (pgs_cons (pg_name (i := 3) sc_Lnear.nd rfl (.inl v_Lnear_3)) (pgs_cons (pg_name (i := 4) sc_Lnear.nd rfl (.inl v_Lnear_4)) (pgs_cons (pg_name (i := 5) sc_Lnear.nd rfl (.inl v_Lnear_5)) pgs_nil))))
        (pss_cons (ps_expr (pe_bm PySem.F.plainAttrs_list PySem.F.slot_list_append PySem.F.type_list_append mt_append (pe_dget hu (pv 1 rfl (.inl v_Lnear_1)) (pv 3 rfl (.inl v_Lnear_3)) (fun _ _ => rfl)) (pa_cons (pe_tup (pa_cons (pv 4 rfl (.inl v_Lnear_4)) (pa_cons (pv 5 rfl (.inl v_Lnear_5)) pa_nil))) pa_nil)))
        (pss_one (ps_expr (pe_bm PySem.F.plainAttrs_list PySem.F.slot_list_append PySem.F.type_list_append mt_append (pe_dget hu (pv 1 rfl (.inl v_Lnear_1)) (pv 4 rfl (.inl v_Lnear_4)) (fun _ _ => rfl)) (pa_cons (pe_tup (pa_cons (pv 3 rfl (.inl v_Lnear_3)) (pa_cons (pv 5 rfl (.inl v_Lnear_5)) pa_nil))) pa_nil))))))
      (pss_one (ps_ret (pv 1 rfl (.inl v_Lnear_1))))))), ?_⟩
    obtain ⟨ap, aw, ws, h1, h2, h3, h4⟩ := hM.ex
    intro d hd
    refine new_obj hd fun H1 s1 e1 => ?_
    refine ⟨_, rfl, _, _, _, _, rfl, rfl, SqT.of (s1 _ _ h1), atI_nat (j := 0) rfl, ap, rfl, ⟨_, SqT.of (s1 _ _ h2)⟩, ?_⟩
    refine for_strs (P := Pl) (fun k σ H2 => ∃ (y2 y3 y4 y5 : Option V) (kvs : List (Key × V)), σ = [some (.ref a), some (.ref d), y2, y3, y4, y5] ∧ Same H H2 ∧ kvs.length ≤ k ∧ NearI H H2 d kvs (Pl.take k) (fun _ => []))
      ⟨_, _, _, _, [], rfl, s1, Nat.le_refl _, e1, fun v hv => by simp at hv, fun u hu => by simp at hu⟩ (fun k σ H2 ⟨_, _, _, _, _, _, s2, _⟩ => s2 _ _ h2) (fun k p σ H2 hp ⟨y2, y3, y4, y5, kvs, eσ, s2, hk, I⟩ => ?_) (fun σ H2 ⟨y2, y3, y4, y5, kvs, eσ, s2, hk, I⟩ => ?_)
    · subst eσ
      have hkl : k < Pl.length := (List.getElem?_eq_some_iff.mp hp).1
      refine ⟨Nat.zero_le _, fun l nl => ?_⟩
      have ld : l ≠ d := fun z => by rw [z, I.hd] at nl; cases nl
      refine ⟨_, rfl, _, rfl, d, _, rfl, DPut.k (k := Sum.inr p) (by rw [upd_ne (Ne.symm ld)]; exact I.hd) (sz9 (by omega)), ?_⟩
      have s3 : Same H (upd (upd H2 l (.lst [])) d (.dK (putK kvs (.inr p) (.ref l)))) := same_mut (s2.trans (same_new nl)) hd
      refine ⟨_, _, _, _, putK kvs (.inr p) (.ref l), rfl, s3, Nat.le_trans (length_putK _ _ _) (Nat.succ_le_succ hk), upd_same, fun v hv => ?_, fun u hu v hv l' => ?_⟩
      · rw [take_snoc hp] at hv
        by_cases q : v = p
        · subst q
          refine ⟨l, [], by rw [valV_put, if_pos rfl], by rw [upd_ne ld, upd_same]; rfl, .nil, s2.free nl, ld⟩
        · have hv' : v ∈ Pl.take k := (List.mem_append.mp hv).resolve_right (fun z => q (List.mem_singleton.mp z))
          obtain ⟨l', as, f1, f2, f3, f4, f5⟩ := I.at_ v hv'
          cases f3 with
          | nil =>
            refine ⟨l', [], by rw [valV_put, if_neg (fun z => q (Sum.inr.inj z))]; exact f1, by rw [upd_ne f5, upd_ne (ne_of_none f2 nl)]; exact f2, .nil, f4, f5⟩
      · rw [take_snoc hp] at hu hv
        rw [valV_put, valV_put]
        have old : ∀ z ∈ Pl.take k ++ [p], z ≠ p → z ∈ Pl.take k := fun z hz hn => (List.mem_append.mp hz).resolve_right (fun y => hn (List.mem_singleton.mp y))
        have nol : ∀ z ∈ Pl.take k, valV kvs (.inr z) ≠ some (.ref l) := fun z hz e => by
          obtain ⟨l', as, f1, f2, _⟩ := I.at_ z hz
          rw [e] at f1
          cases f1
          rw [nl] at f2
          cases f2
        by_cases qu : u = p
        · by_cases qv : v = p
          · exact fun _ _ => qu.trans qv.symm
          · rw [if_pos (by rw [qu]), if_neg (fun z => qv (Sum.inr.inj z))]
            intro g1 g2
            cases g1
            exact absurd g2 (nol v (old v hv qv))
        · by_cases qv : v = p
          · rw [if_neg (fun z => qu (Sum.inr.inj z)), if_pos (by rw [qv])]
            intro g1 g2
            cases g2
            exact absurd g1 (nol u (old u hu qu))
          · rw [if_neg (fun z => qu (Sum.inr.inj z)), if_neg (fun z => qv (Sum.inr.inj z))]
            exact I.inj u (old u hu qu) v (old v hv qv) l'
    · subst eσ
      rw [take_len] at I
      refine ⟨_, rfl, _, _, _, _, rfl, rfl, SqT.of (s2 _ _ h1), atI_nat (j := 1) rfl, aw, rfl, ⟨_, SqT.of (s2 _ _ h3)⟩, ?_⟩
      refine for_ways (rows := W) (as := ws) (fun k σ H3 => ∃ (y2 y3 y4 y5 : Option V), σ = [some (.ref a), some (.ref d), y2, y3, y4, y5] ∧ Same H H3 ∧ NearI H H3 d kvs Pl (near (W.take k)))
        ⟨_, _, _, _, rfl, s2, I⟩ (fun k σ H3 ⟨_, _, _, _, _, s3, _⟩ => ⟨s3 _ _ h3, h4.tk (tk_same s3)⟩) (fun k e σ H3 he ⟨y2, y3, y4, y5, eσ, s3, I3⟩ => ?_) (fun σ H3 ⟨y2, y3, y4, y5, eσ, s3, I3⟩ => ?_)
      · subst eσ
        obtain ⟨x, y, c⟩ := e
        have hkl : k < W.length := (List.getElem?_eq_some_iff.mp he).1
        obtain ⟨hx, hy, hxy⟩ := hE x y c (List.mem_of_getElem? he)
        obtain ⟨lx, as, f1, f2, f3, f4, f5⟩ := I3.at_ x hx
        have gx : DGet H3 d (kV (.inr x)) (some (.ref lx)) := f1 ▸ DGet.k (k := Sum.inr x) I3.hd
        refine ⟨_, rfl, _, rfl, d, .ref lx, rfl, gx, .inl ⟨rfl, _, SqL.of f2⟩, _, rfl, _, rfl, (by show 2 ≤ sizeLine; decide), fun t nt => ?_⟩
        have lt1 : lx ≠ t := ne_of_none f2 nt
        have hl1 := near_len (W.take k) x
        rw [List.length_take] at hl1
        have e1 := f3.len
        refine ⟨lx, _, _, rfl, rfl, by rw [upd_ne lt1]; exact f2, by rw [List.length_map]; exact sz9 (by omega), ?_⟩
        have I4 := I3.add (r := (y, c)) hx f1 f2 f3 nt
        have s4 : Same H (upd (upd H3 t (.tup (pairV (y, c)))) lx (.lst (as.map V.ref ++ [V.ref t]))) := same_mut (s3.trans (same_new nt)) f4
        obtain ⟨ly, bs, g1, g2, g3, g4, g5⟩ := I4.at_ y hy
        have gy : DGet (upd (upd H3 t (.tup (pairV (y, c)))) lx (.lst (as.map V.ref ++ [V.ref t]))) d (kV (.inr y)) (some (.ref ly)) := g1 ▸ DGet.k (k := Sum.inr y) I4.hd
        refine ⟨_, rfl, _, rfl, d, .ref ly, rfl, gy, .inl ⟨rfl, _, SqL.of g2⟩, _, rfl, _, rfl, (by show 2 ≤ sizeLine; decide), fun t2 nt2 => ?_⟩
        have lt2 : ly ≠ t2 := ne_of_none g2 nt2
        have hl2 := near_len (W.take k) y
        rw [List.length_take] at hl2
        have e2 := g3.len
        rw [if_neg (Ne.symm hxy)] at e2
        refine ⟨ly, _, _, rfl, rfl, by rw [upd_ne lt2]; exact g2, by rw [List.length_map]; exact sz9 (by omega), ?_⟩
        have I5 := I4.add (r := (x, c)) hy g1 g2 g3 nt2
        have s5 : Same H (upd (upd (upd (upd H3 t (.tup (pairV (y, c)))) lx (.lst (as.map V.ref ++ [V.ref t]))) t2 (.tup (pairV (x, c)))) ly (.lst (bs.map V.ref ++ [V.ref t2]))) := same_mut (s4.trans (same_new nt2)) g4
        refine ⟨_, _, _, _, rfl, s5, ?_⟩
        have eg : (fun v => if v = y then (if v = x then near (W.take k) v ++ [(y, c)] else near (W.take k) v) ++ [(x, c)] else (if v = x then near (W.take k) v ++ [(y, c)] else near (W.take k) v)) = near (W.take (k + 1)) := by
          funext v
          rw [take_snoc he, near_snoc]
          dsimp only
          by_cases q1 : v = y
          · have q2 : ¬ v = x := fun z => hxy (z.symm.trans q1)
            rw [if_pos q1, if_neg q2, if_neg (fun z => q2 z.symm), if_pos q1.symm, List.nil_append]
          · rw [if_neg q1]
            by_cases q2 : v = x
            · rw [if_pos q2, if_pos q2.symm, if_neg (fun z => q1 z.symm), List.append_nil]
            · rw [if_neg q2, if_neg (fun z => q2 z.symm), if_neg (fun z => q1 z.symm), List.append_nil, List.append_nil]
        rw [eg] at I5
        exact I5
      · subst eσ
        rw [take_len] at I3
        exact ⟨_, rfl, q d H3 s3 hd ⟨kvs, I3.hd, fun v hv => by
          obtain ⟨l, as, f1, f2, f3, _⟩ := I3.at_ v hv
          exact ⟨l, as, f1, f2, f3⟩⟩⟩
end
end OH

namespace OH
open PySem PySem.Spec PyProof.Rows L2
/-- all keys of a table, new -/
def spKeys : Sp := fun vs H Q _ => ∃ (c : Addr) (C : Cse), vs = [.ref c] ∧ CaseAt H c C ∧ (∀ l, C.lim = some l → 1 ≤ l) ∧ C.keysL.length ≤ 10000 ∧ C.R ≤ 1000 ∧
  ∀ (l : Addr) (ks : List Addr) H', Same H H' → H l = none → H' l = some (.lst (ks.map V.ref)) → Tups H' ks (C.keysL.map keyV) → Q (.ref l) H'
section
variable {P : Program} {w : World} {K : PySem.W.Frag} {mg : Str → Option Value} {base : Heap}
theorem cal_keys_of {f : Addr} {fd : FuncData} (D : C8.Def K mg "keys_of" s_keys_of f fd) (b : L2.Binds K fd ["case"] []) (T : Bt mg) (c_mores_of : C8.Cal P w K mg base 1 "mores_of" spMores []) : C8.Cal P w K mg base 2 "keys_of" spKeys [] := by
  refine C8.cal0 D b .nil sc_keys_of (fun vs H Q E h => ?_) (fun cdv A outer s H vs Q E hr h => ?_)
  · obtain ⟨c, C, rfl, _⟩ := h
    rfl
  · obtain ⟨c, C, rfl, hC, hl, hz, hR, q⟩ := h
    have hu := hu_of hr
    have hu64 := hr.units
    refine ⟨_, (pss_cons (ps_set (i := 1) sc_keys_of.nd rfl (.inl v_keys_of_1) (pe_lst pa_nil))
      (pss_cons (ps_for PassesOwn.never rfl (pi_tup (pe_ix ix_tup (pe_ix ix_tup (pv 0 rfl (.inl v_keys_of_0)) pe_int (fun _ _ => rfl)) pe_int (fun _ _ => rfl))) (pg_name (i := 2) sc_keys_of.nd rfl (.inl v_keys_of_2))
        (pss_one (ps_for PassesOwn.never rfl (pi_tup (pe_ix ix_tup (pv 0 rfl (.inl v_keys_of_0)) pe_int (fun _ _ => rfl))) (pg_tup rfl (pgs_cons (pg_name (i := 3) sc_keys_of.nd rfl (.inl v_keys_of_3)) (pgs_cons (pg_name (i := 4) sc_keys_of.nd rfl (.inl v_keys_of_4)) pgs_nil)))
          (pss_one (ps_for PassesOwn.never rfl (pi_range1 g_keys_of_range T.range_ (pa_cons (C8.pe_c c_mores_of hr (by decide) g_keys_of_mores_of (pa_cons (pv 0 rfl (.inl v_keys_of_0)) pa_nil)) pa_nil)) (pg_name (i := 5) sc_keys_of.nd rfl (.inl v_keys_of_5))
            (pss_one (ps_expr (pe_bm PySem.F.plainAttrs_list PySem.F.slot_list_append PySem.F.type_list_append mt_append (pv 1 rfl (.inl v_keys_of_1)) (pa_cons (pe_tup (pa_cons (pv 2 rfl (.inl v_keys_of_2)) (pa_cons (pv 3 rfl (.inl v_keys_of_3)) (pa_cons (pv 5 rfl (.inl v_keys_of_5)) pa_nil)))) pa_nil)))))))))
      (pss_one (ps_ret (pv 1 rfl (.inl v_keys_of_1)))))), ?_⟩
    obtain ⟨am, asi, af, h1, hM, hS, hF⟩ := hC.ex
    obtain ⟨ap, aw, ws, h2, h3, h4, h5⟩ := hM.ex
    obtain ⟨ss, h6, h7⟩ := hS.ex
    refine ⟨Nat.zero_le _, fun l nl => ?_⟩
    have I0 : ListI H (upd H l (.lst [])) l (([] : List (Str × Str × Nat)).map keyV) := ⟨same_new nl, nl, [], upd_same, .nil⟩
    generalize upd H l (.lst []) = H1 at I0 ⊢
    refine ⟨_, rfl, _, _, _, _, rfl, rfl, SqT.of (I0.same _ _ h1), atI_nat (j := 0) rfl, _, _, _, _, rfl, rfl, SqT.of (I0.same _ _ h2), atI_nat (j := 0) rfl, ap, rfl, ⟨_, SqT.of (I0.same _ _ h3)⟩, ?_⟩
    refine for_strs (P := C.P) (fun k σ H2 => ∃ (y2 y3 y4 y5 : Option V), σ = [some (.ref c), some (.ref l), y2, y3, y4, y5] ∧ ListI H H2 l (((C.P.take k).flatMap fun p => C.sites.flatMap fun s => (List.range C.R).map fun m => (p, s.1, m)).map keyV))
      ⟨_, _, _, _, rfl, I0⟩ (fun k σ H2 ⟨_, _, _, _, _, I⟩ => I.same _ _ h3) (fun k p σ H2 hp ⟨y2, y3, y4, y5, eσ, I⟩ => ?_) (fun σ H2 ⟨y2, y3, y4, y5, eσ, I⟩ => ?_)
    · subst eσ
      refine ⟨_, rfl, _, _, _, _, rfl, rfl, SqT.of (I.same _ _ h1), atI_nat (j := 1) rfl, asi, rfl, ⟨_, SqT.of (I.same _ _ h6)⟩, ?_⟩
      refine for_rows (rows := C.sites) (as := ss) (fun j σ H3 => ∃ (y3 y4 y5 : Option V), σ = [some (.ref c), some (.ref l), some (.str p), y3, y4, y5] ∧ ListI H H3 l (((C.P.take k).flatMap (fun p => C.sites.flatMap fun s => (List.range C.R).map fun m => (p, s.1, m)) ++ (C.sites.take j).flatMap fun s => (List.range C.R).map fun m => (p, s.1, m)).map keyV))
        ⟨_, _, _, rfl, by rw [List.take_zero, List.flatMap_nil, List.append_nil]; exact I⟩ (fun j σ H3 ⟨_, _, _, _, I⟩ => ⟨I.same _ _ h6, h7.tk (tk_same I.same)⟩) (fun j s x σ H3 hs ⟨y3, y4, y5, eσ, I3⟩ => ?_) (fun σ H3 ⟨y3, y4, y5, eσ, I3⟩ => ?_)
      · subst eσ
        refine ⟨_, rfl, c, C, rfl, hC.tk (tk_same I3.same), hl, _, rfl, by omega, by omega, ?_⟩
        refine for_rng (n := C.R) (fun i σ H4 => ∃ (y5 : Option V), σ = [some (.ref c), some (.ref l), some (.str p), some (.str s), some (.int x), y5] ∧ ListI H H4 l (((C.P.take k).flatMap (fun p => C.sites.flatMap fun s => (List.range C.R).map fun m => (p, s.1, m)) ++ ((C.sites.take j).flatMap (fun s => (List.range C.R).map fun m => (p, s.1, m)) ++ (List.range i).map fun m => (p, s, m))).map keyV))
          ⟨_, rfl, by rw [List.range_zero, List.map_nil, List.append_nil]; exact I3⟩ (fun i σ H4 hi ⟨y5, eσ, I4⟩ => ?_) (fun σ H4 ⟨y5, eσ, I4⟩ => ?_)
        · subst eσ
          obtain ⟨ks, g1, g2⟩ := I4.ex
          refine ⟨.ref l, rfl, .inl ⟨rfl, _, SqL.of g1⟩, _, rfl, _, rfl, _, rfl, (by show 3 ≤ sizeLine; decide), fun t nt => ?_⟩
          have I5 := I4.add (r := keyV (p, s, i)) g1 g2 nt
          have hpre : ((C.P.take k).flatMap (fun p => C.sites.flatMap fun s => (List.range C.R).map fun m => (p, s.1, m)) ++ ((C.sites.take j).flatMap (fun s => (List.range C.R).map fun m => (p, s.1, m)) ++ (List.range i).map fun m => (p, s, m))) <+: C.keysL :=
            pre_flat (F := fun p => C.sites.flatMap fun s => (List.range C.R).map fun m => (p, s.1, m)) hp (pre_flat (F := fun s : Str × Int => (List.range C.R).map fun m => (p, s.1, m)) hs (pre_rng _ (Nat.le_of_lt hi)))
          have hlen := hpre.length_le
          have e1 := g2.len
          refine ⟨l, _, _, rfl, rfl, by rw [upd_ne (ne_of_none g1 nt)]; exact g1, by rw [List.length_map]; exact sz9 (by omega), ?_⟩
          refine ⟨_, rfl, ?_⟩
          rw [rng_snoc, ← List.append_assoc, ← List.append_assoc, List.map_append]
          rw [← List.append_assoc] at I5
          exact I5
        · subst eσ
          refine ⟨_, _, _, rfl, ?_⟩
          rw [flat_snoc hs]
          exact I4
      · subst eσ
        refine ⟨_, _, _, _, rfl, ?_⟩
        rw [flat_snoc hp]
        rw [take_len] at I3
        exact I3
    · subst eσ
      rw [take_len] at I
      obtain ⟨ks, g1, g2⟩ := I.ex
      exact ⟨_, rfl, q l ks H2 I.same nl g1 g2⟩
theorem cal_Lkeys {f : Addr} {fd : FuncData} (D : C8.Def K mg "_law_keys" s_Lkeys f fd) (b : L2.Binds K fd ["_law_case_here"] []) (T : Bt mg) (c_Lmores : C8.Cal P w K mg base 1 "_law_mores" spMores []) : C8.Cal P w K mg base 2 "_law_keys" spKeys [] := by
  refine C8.cal0 D b .nil sc_Lkeys (fun vs H Q E h => ?_) (fun cdv A outer s H vs Q E hr h => ?_)
  · obtain ⟨c, C, rfl, _⟩ := h
    rfl
  · obtain ⟨c, C, rfl, hC, hl, hz, hR, q⟩ := h
    have hu := hu_of hr
    have hu64 := hr.units
    refine ⟨_, (pss_cons (ps_set (i := 1) sc_Lkeys.nd rfl (.inl v_Lkeys_1) (pe_lst pa_nil))
      (pss_cons (ps_for PassesOwn.never rfl (pi_tup (pe_ix ix_tup (pe_ix ix_tup (pv 0 rfl (.inl v_Lkeys_0)) pe_int (fun _ _ => rfl)) pe_int (fun _ _ => rfl))) (pg_name (i := 2) sc_Lkeys.nd rfl (.inl v_Lkeys_2))
        (pss_one (ps_for PassesOwn.never rfl (pi_tup (pe_ix ix_tup (pv 0 rfl (.inl v_Lkeys_0)) pe_int (fun _ _ => rfl))) (pg_tup rfl (pgs_cons (pg_name (i := 3) sc_Lkeys.nd rfl (.inl v_Lkeys_3)) (pgs_cons (pg_name (i := 4) sc_Lkeys.nd rfl (.inl v_Lkeys_4)) pgs_nil)))
          (pss_one (ps_for PassesOwn.never rfl (pi_range1 g_Lkeys_range T.range_ (pa_cons (C8.pe_c c_Lmores hr (by decide) g_Lkeys__law_mores (pa_cons (pv 0 rfl (.inl v_Lkeys_0)) pa_nil)) pa_nil)) (pg_name (i := 5) sc_Lkeys.nd rfl (.inl v_Lkeys_5))
            (pss_one (ps_expr (pe_bm PySem.F.plainAttrs_list PySem.F.slot_list_append PySem.F.type_list_append mt_append (pv 1 rfl (.inl v_Lkeys_1)) (pa_cons (pe_tup (pa_cons (pv 2 rfl (.inl v_Lkeys_2)) (pa_cons (pv 3 rfl (.inl v_Lkeys_3)) (pa_cons (pv 5 rfl (.inl v_Lkeys_5)) pa_nil)))) pa_nil)))))))))
      (pss_one (ps_ret (pv 1 rfl (.inl v_Lkeys_1)))))), ?_⟩
    obtain ⟨am, asi, af, h1, hM, hS, hF⟩ := hC.ex
    obtain ⟨ap, aw, ws, h2, h3, h4, h5⟩ := hM.ex
    obtain ⟨ss, h6, h7⟩ := hS.ex
    refine ⟨Nat.zero_le _, fun l nl => ?_⟩
    have I0 : ListI H (upd H l (.lst [])) l (([] : List (Str × Str × Nat)).map keyV) := ⟨same_new nl, nl, [], upd_same, .nil⟩
    generalize upd H l (.lst []) = H1 at I0 ⊢
    refine ⟨_, rfl, _, _, _, _, rfl, rfl, SqT.of (I0.same _ _ h1), atI_nat (j := 0) rfl, _, _, _, _, rfl, rfl, SqT.of (I0.same _ _ h2), atI_nat (j := 0) rfl, ap, rfl, ⟨_, SqT.of (I0.same _ _ h3)⟩, ?_⟩
    refine for_strs (P := C.P) (fun k σ H2 => ∃ (y2 y3 y4 y5 : Option V), σ = [some (.ref c), some (.ref l), y2, y3, y4, y5] ∧ ListI H H2 l (((C.P.take k).flatMap fun p => C.sites.flatMap fun s => (List.range C.R).map fun m => (p, s.1, m)).map keyV))
      ⟨_, _, _, _, rfl, I0⟩ (fun k σ H2 ⟨_, _, _, _, _, I⟩ => I.same _ _ h3) (fun k p σ H2 hp ⟨y2, y3, y4, y5, eσ, I⟩ => ?_) (fun σ H2 ⟨y2, y3, y4, y5, eσ, I⟩ => ?_)
    · subst eσ
      refine ⟨_, rfl, _, _, _, _, rfl, rfl, SqT.of (I.same _ _ h1), atI_nat (j := 1) rfl, asi, rfl, ⟨_, SqT.of (I.same _ _ h6)⟩, ?_⟩
      refine for_rows (rows := C.sites) (as := ss) (fun j σ H3 => ∃ (y3 y4 y5 : Option V), σ = [some (.ref c), some (.ref l), some (.str p), y3, y4, y5] ∧ ListI H H3 l (((C.P.take k).flatMap (fun p => C.sites.flatMap fun s => (List.range C.R).map fun m => (p, s.1, m)) ++ (C.sites.take j).flatMap fun s => (List.range C.R).map fun m => (p, s.1, m)).map keyV))
        ⟨_, _, _, rfl, by rw [List.take_zero, List.flatMap_nil, List.append_nil]; exact I⟩ (fun j σ H3 ⟨_, _, _, _, I⟩ => ⟨I.same _ _ h6, h7.tk (tk_same I.same)⟩) (fun j s x σ H3 hs ⟨y3, y4, y5, eσ, I3⟩ => ?_) (fun σ H3 ⟨y3, y4, y5, eσ, I3⟩ => ?_)
      · subst eσ
        refine ⟨_, rfl, c, C, rfl, hC.tk (tk_same I3.same), hl, _, rfl, by omega, by omega, ?_⟩
        refine for_rng (n := C.R) (fun i σ H4 => ∃ (y5 : Option V), σ = [some (.ref c), some (.ref l), some (.str p), some (.str s), some (.int x), y5] ∧ ListI H H4 l (((C.P.take k).flatMap (fun p => C.sites.flatMap fun s => (List.range C.R).map fun m => (p, s.1, m)) ++ ((C.sites.take j).flatMap (fun s => (List.range C.R).map fun m => (p, s.1, m)) ++ (List.range i).map fun m => (p, s, m))).map keyV))
          ⟨_, rfl, by rw [List.range_zero, List.map_nil, List.append_nil]; exact I3⟩ (fun i σ H4 hi ⟨y5, eσ, I4⟩ => ?_) (fun σ H4 ⟨y5, eσ, I4⟩ => ?_)
        · subst eσ
          obtain ⟨ks, g1, g2⟩ := I4.ex
          refine ⟨.ref l, rfl, .inl ⟨rfl, _, SqL.of g1⟩, _, rfl, _, rfl, _, rfl, (by show 3 ≤ sizeLine; decide), fun t nt => ?_⟩
          have I5 := I4.add (r := keyV (p, s, i)) g1 g2 nt
          have hpre : ((C.P.take k).flatMap (fun p => C.sites.flatMap fun s => (List.range C.R).map fun m => (p, s.1, m)) ++ ((C.sites.take j).flatMap (fun s => (List.range C.R).map fun m => (p, s.1, m)) ++ (List.range i).map fun m => (p, s, m))) <+: C.keysL :=
            pre_flat (F := fun p => C.sites.flatMap fun s => (List.range C.R).map fun m => (p, s.1, m)) hp (pre_flat (F := fun s : Str × Int => (List.range C.R).map fun m => (p, s.1, m)) hs (pre_rng _ (Nat.le_of_lt hi)))
          have hlen := hpre.length_le
          have e1 := g2.len
          refine ⟨l, _, _, rfl, rfl, by rw [upd_ne (ne_of_none g1 nt)]; exact g1, by rw [List.length_map]; exact sz9 (by omega), ?_⟩
          refine ⟨_, rfl, ?_⟩
          rw [rng_snoc, ← List.append_assoc, ← List.append_assoc, List.map_append]
          rw [← List.append_assoc] at I5
          exact I5
        · subst eσ
          refine ⟨_, _, _, rfl, ?_⟩
          rw [flat_snoc hs]
          exact I4
      · subst eσ
        refine ⟨_, _, _, _, rfl, ?_⟩
        rw [flat_snoc hp]
        rw [take_len] at I3
        exact I3
    · subst eσ
      rw [take_len] at I
      obtain ⟨ks, g1, g2⟩ := I.ex
      exact ⟨_, rfl, q l ks H2 I.same nl g1 g2⟩
end
end OH

namespace OH
open PySem PySem.Spec PyProof.Rows L2
def parVal (r : Str) (par : Str → Str) (v : Str) : V := if v = r then .non else .str (par v)
/-- the parent of each place -/
def spParents : Sp := fun vs H Q _ => ∃ (a : Addr) (P : List Str) (W : List (Str × Str × Int)) (r : Str) (tl : List Str) (par : Str → Str) (dep : Str → Nat) (len : Str → Int), vs = [.ref a] ∧ MapAt H a P W ∧ P = r :: tl ∧ Tree P W ∧ RT P W r par dep len ∧ P.length ≤ 1000 ∧ (∀ v ∈ P, NmOk v) ∧
  ∀ d kvs H', Same H H' → H d = none → H' d = some (.dK kvs) → (∀ v ∈ P, valV kvs (.inr v) = some (parVal r par v)) → Q (.ref d) H'
/-- how far all places are from one -/
def spFars : Sp := fun vs H Q _ => ∃ (a : Addr) (P : List Str) (W : List (Str × Str × Int)) (s : Str) (par : Str → Str) (dep : Str → Nat) (len : Str → Int), vs = [.ref a, .str s] ∧ MapAt H a P W ∧ Tree P W ∧ RT P W s par dep len ∧ P.length ≤ 1000 ∧ (∀ v ∈ P, NmOk v) ∧
  ∀ d H', Same H H' → H d = none → FarsAt H' d P (dist par dep len) → Q (.ref d) H'
theorem isSome_of {kvs : List (Key × V)} {v : Str} {val : Str → V} (hv : ∀ v x, valV kvs (.inr v) = some x → x = val v) (h : (valV kvs (.inr v)).isSome = true) : valV kvs (.inr v) = some (val v) := by
  cases e : valV kvs (.inr v) with
  | none => rw [e] at h; cases h
  | some x => rw [hv v x e]
section
variable {P : Program} {w : World} {K : PySem.W.Frag} {mg : Str → Option Value} {base : Heap}
theorem cal_parents {f : Addr} {fd : FuncData} (D : C8.Def K mg "parents" s_parents f fd) (b : L2.Binds K fd ["web"] []) (T : Bt mg) (c_near_by : C8.Cal P w K mg base 1 "near_by" spNear []) : C8.Cal P w K mg base 2 "parents" spParents [] := by
  refine C8.cal0 D b .nil sc_parents (fun vs H Q E h => ?_) (fun cdv A outer s H vs Q E hr h => ?_)
  · obtain ⟨a, Pl, W, r, tl, par, dep, len, rfl, _⟩ := h
    rfl
  · obtain ⟨a, Pl, W, r, tl, par, dep, len, rfl, hM, hr0, hT, hRT, hz, hnm, q⟩ := h
    have hu := hu_of hr
    have hu64 := hr.units
    refine ⟨_, (pss_cons (ps_set (i := 1) sc_parents.nd rfl (.inl v_parents_1) (C8.pe_c c_near_by hr (by decide) g_parents_near_by (pa_cons (pv 0 rfl (.inl v_parents_0)) pa_nil)))
      (pss_cons (ps_set (i := 2) sc_parents.nd rfl (.inl v_parents_2) (pe_disp (pps_cons (pe_ix ix_tup (pe_ix ix_tup (pv 0 rfl (.inl v_parents_0)) pe_int (fun _ _ => rfl)) pe_int (fun _ _ => rfl)) pe_non pps_nil) (by rfl) (by rfl) (fun z => by cases z) (by decide)))
      (pss_cons (ps_set (i := 3) sc_parents.nd rfl (.inl v_parents_3) (pe_lst (pa_cons (pe_ix ix_tup (pe_ix ix_tup (pv 0 rfl (.inl v_parents_0)) pe_int (fun _ _ => rfl)) pe_int (fun _ _ => rfl)) pa_nil)))
      (pss_cons (ps_while PassesOwn.never (pt_cmpR (op_neD hu64) (pv 3 rfl (.inl v_parents_3)) (pe_lst pa_nil) (nomark _))
        (pss_cons (ps_set (i := 4) sc_parents.nd rfl (.inl v_parents_4) (pe_bm0 PySem.F.plainAttrs_list PySem.F.slot_list_pop PySem.F.type_list_pop mt_pop (pv 3 rfl (.inl v_parents_3))))
        (pss_one (ps_for PassesOwn.never rfl (pi_list (pe_dget hu (pv 1 rfl (.inl v_parents_1)) (pv 4 rfl (.inl v_parents_4)) (fun _ _ => rfl))) (pg_tup rfl (pgs_cons (pg_name (i := 5) sc_parents.nd rfl (.inl v_parents_5)) (pgs_cons (pg_name (i := 6) sc_parents.nd rfl (.inl v_parents_6)) pgs_nil)))
          (pss_one (ps_if (pt_cmp (pc_dnotin hu (pv 5 rfl (.inl v_parents_5)) (pv 2 rfl (.inl v_parents_2)))) (pss_cons (ps_dput hu (pv 2 rfl (.inl v_parents_2)) (pv 5 rfl (.inl v_parents_5)) (pv 4 rfl (.inl v_parents_4)) rfl)
            (pss_one (ps_expr (pe_bm PySem.F.plainAttrs_list PySem.F.slot_list_append PySem.F.type_list_append mt_append (pv 3 rfl (.inl v_parents_3)) (pa_cons (pv 5 rfl (.inl v_parents_5)) pa_nil))))) pss_nil))))))
      (pss_one (ps_ret (pv 2 rfl (.inl v_parents_2)))))))), ?_⟩
    obtain ⟨ap, aw, ws, h1, h2, h3, h4⟩ := hM.ex
    refine ⟨_, rfl, a, Pl, W, rfl, hM, hT.ends, hz, by have := hT.len; omega, fun nd Hn sn fn hN => ?_⟩
    have eP : (Pl.map V.str)[0]? = some (V.str r) := by rw [hr0]; rfl
    intro d fd
    refine ⟨_, rfl, _, _, _, _, rfl, rfl, SqT.of (same_new fd _ _ (sn _ _ h1)), atI_nat (j := 0) rfl, _, _, _, _, rfl, rfl, SqT.of (same_new fd _ _ (sn _ _ h2)), atI_nat (j := 0) eP, upd_same, [(Sum.inr r, V.non)], rfl, (by show 1 ≤ 15; decide), ?_⟩
    rw [upd_upd]
    have s1 : Same Hn (upd Hn d (.dK (mergeK [] [((Sum.inr r : Key), V.non)]))) := same_new fd
    have e1 : upd Hn d (.dK (mergeK [] [((Sum.inr r : Key), V.non)])) d = some (.dK [(Sum.inr r, V.non)]) := upd_same
    generalize upd Hn d (.dK (mergeK [] [((Sum.inr r : Key), V.non)])) = H1 at s1 e1 ⊢
    refine ⟨_, rfl, _, _, _, _, rfl, rfl, SqT.of (s1 _ _ (sn _ _ h1)), atI_nat (j := 0) rfl, _, _, _, _, rfl, rfl, SqT.of (s1 _ _ (sn _ _ h2)), atI_nat (j := 0) eP, (by show 1 ≤ sizeLine; decide), fun wt fw => ?_⟩
    have I0 : SI Pl r par (parVal r par) Hn (upd H1 wt (.lst [V.str r])) d wt [(Sum.inr r, V.non)] [r] none := by
      refine ⟨s1.trans (same_new fw), fd, s1.free fw, (fun z => by rw [← z, e1] at fw; cases fw), same_new fw _ _ e1, upd_same, by simp, fun k hk => ⟨r, hRT.root, by simpa using hk⟩, fun v x hx => ?_, S1.init hRT.root fun v => ?_, Nat.le_refl _⟩
      · by_cases z : v = r
        · rw [z, valV_pos rfl] at hx
          cases hx
          unfold parVal
          rw [if_pos z]
        · rw [valV_neg (fun y => z (Sum.inr.inj y).symm)] at hx
          cases hx
      · by_cases z : v = r
        · rw [z, valV_pos rfl]
          simp
        · rw [valV_neg (fun y => z (Sum.inr.inj y).symm)]
          simp [z]
          rfl
    generalize upd H1 wt (.lst [V.str r]) = H2 at I0 ⊢
    refine ⟨fun m σ H3 => ∃ (y4 y5 y6 : Option V) (kvs : List (Key × V)) (Wt : List Str), σ = [some (.ref a), some (.ref nd), some (.ref d), some (.ref wt), y4, y5, y6] ∧ SI Pl r par (parVal r par) Hn H3 d wt kvs Wt none ∧ m = 2 * (Pl.length - kvs.length) + Wt.length,
      ⟨_, _, _, _, _, _, rfl, I0, rfl⟩, fun m σ H3 ⟨y4, y5, y6, kvs, Wt, eσ, I, em⟩ => ?_⟩
    subst eσ
    have hWn : ∀ x ∈ Wt, NmOk x := fun x hx => hnm x (I.s1.fP x (I.s1.wt x hx))
    refine ⟨_, rfl, Nat.zero_le _, fun en fe => ⟨_, _, .lst (SqL.of (same_new fe _ _ I.hw)) (dp_strs Wt), .lst (SqL.of upd_same) .nil, shaped_strs Wt hWn, shaped_nil, _, rfl, ?_⟩⟩
    have I1 := I.grow (same_new (o := .lst []) fe)
    generalize upd H3 en (.lst []) = H4 at I1 ⊢
    rw [eqv_nil]
    rcases List.eq_nil_or_concat Wt with e | ⟨Wt0, h, e⟩
    · subst e
      refine iteF ?_
      have hall := I1.s1.all hRT
      refine ⟨_, rfl, q d kvs H4 (sn.trans I1.same) (sn.free fd) I1.hd fun v hv => isSome_of I1.val (hall v hv)⟩
    · rw [List.concat_eq_append] at e
      subst e
      have ene : (List.map PyData.str (Wt0 ++ [h])).isEmpty = false := by simp
      rw [ene]
      refine iteT ?_
      have I2 := I1.pop
      have ew : ((Wt0 ++ [h]).map V.str)[((Wt0 ++ [h]).map V.str).length - 1]? = some (V.str h) := by simp
      have ed : ((Wt0 ++ [h]).map V.str).dropLast = Wt0.map V.str := by simp
      refine ⟨fun σ' H' => ∃ (y4 y5 y6 : Option V) (kvs : List (Key × V)) (Wt : List Str), σ' = [some (.ref a), some (.ref nd), some (.ref d), some (.ref wt), y4, y5, y6] ∧ SI Pl r par (parVal r par) Hn H' d wt kvs Wt none ∧ 2 * (Pl.length - kvs.length) + Wt.length < m,
        fun σ' H' ⟨z4, z5, z6, kvs', Wt', e1, e2, e3⟩ => ⟨_, e3, _, _, _, _, _, e1, e2, rfl⟩, ?_⟩
      refine ⟨_, rfl, .inl ⟨rfl, _, SqL.of I1.hw⟩, wt, _, _, rfl, rfl, I1.hw, ew, ?_⟩
      rw [ed]
      obtain ⟨I3, hh⟩ := I2
      generalize upd H4 wt (.lst (Wt0.map V.str)) = H5 at I3 ⊢
      have hhP : h ∈ Pl := I3.s1.fP h hh
      obtain ⟨nk, k1, k2⟩ := hN.ex
      obtain ⟨l, as, g3, g4n, g5n⟩ := k2 h hhP
      have g4 := I3.same _ _ g4n
      have g5 := g5n.tk (tk_same I3.same)
      have gD : DGet H5 nd (kV (.inr h)) (some (.ref l)) := g3 ▸ DGet.k (k := Sum.inr h) (I3.same _ _ k1)
      refine ⟨_, rfl, _, rfl, nd, .ref l, rfl, gD, l, rfl, ⟨_, SqL.of g4⟩, ?_⟩
      have hm0 : 2 * (Pl.length - kvs.length) + Wt0.length < m := by
        rw [em, List.length_append]
        simp
      refine for_rowsL (rows := near W h) (as := as) (fun j σ H6 => ∃ (y5 y6 : Option V) (kvs : List (Key × V)) (Wt : List Str), σ = [some (.ref a), some (.ref nd), some (.ref d), some (.ref wt), some (.str h), y5, y6] ∧ SI Pl r par (parVal r par) Hn H6 d wt kvs Wt (some h) ∧ (valV kvs (.inr h)).isSome = true ∧ 2 * (Pl.length - kvs.length) + Wt.length < m ∧ (∀ e ∈ (near W h).take j, (valV kvs (.inr e.1)).isSome = true) ∧ Tups H6 as ((near W h).map pairV))
        ⟨_, _, _, _, rfl, I3, hh, hm0, fun e he => by simp at he, g5⟩ (fun j σ H6 ⟨_, _, _, _, _, I6, _, _, _, t6⟩ => ⟨I6.same _ _ g4n, t6⟩) (fun j u lu σ H6 hu ⟨y5, y6, kvs, Wt, eσ, I6, hh6, hm6, hd6, t6⟩ => ?_) (fun σ H6 ⟨y5, y6, kvs, Wt, eσ, I6, hh6, hm6, hd6, t6⟩ => ?_)
      · subst eσ
        refine ⟨_, rfl, _, rfl, d, _, rfl, DGet.k (k := Sum.inr u) I6.hd, _, rfl, ?_⟩
        have hun : (u, lu) ∈ near W h := List.mem_of_getElem? hu
        cases ev : valV kvs (Sum.inr u : Key) with
        | some x =>
          refine iteF ?_
          refine ⟨_, _, _, _, rfl, I6, hh6, hm6, fun e he => ?_, t6⟩
          rw [take_snoc hu] at he
          rcases List.mem_append.mp he with he | he
          · exact hd6 e he
          · rw [List.mem_singleton.mp he, ev]; rfl
        | none =>
          refine iteT ?_
          obtain ⟨c1, c2, c3, c4⟩ := I6.s1.child hRT hh6 hun (show (valV kvs (Sum.inr u)).isSome = false by rw [ev]; rfl)
          have hvl : parVal r par u = V.str h := by unfold parVal; rw [if_neg c2, c3]
          have I7 := I6.push hh6 c1 c2 c3 ev
          rw [hvl] at I7
          have hk1 := keys_le I6.nd I6.ks
          obtain ⟨_, _, hk3⟩ := keys_put (x := V.str h) I6.nd I6.ks c1 ev
          have hk2 := keys_le I7.nd I7.ks
          refine ⟨_, rfl, _, rfl, _, rfl, d, _, rfl, DPut.k (k := Sum.inr u) I6.hd (sz9 (by omega)), ?_⟩
          refine ⟨_, rfl, .inl ⟨rfl, _, SqL.of (by rw [upd_ne (Ne.symm I6.ne)]; exact I6.hw)⟩, _, rfl, wt, _, _, rfl, rfl, by rw [upd_ne (Ne.symm I6.ne)]; exact I6.hw, by rw [List.length_map]; exact sz9 (by have := I6.wl; omega), ?_⟩
          refine ⟨_, _, _, _, rfl, I7, put_some _ |>.mpr (.inr hh6), ?_, fun e he => ?_, t6.tk ((tk_ext (x := d) Ext.upd I6.hd nt_dK).trans (tk_ext (x := wt) Ext.upd (by rw [upd_ne (Ne.symm I6.ne)]; exact I6.hw) nt_lst))⟩
          · rw [hk3, List.length_append]
            rw [hk3] at hk2
            simp only [List.length_cons, List.length_nil]
            omega
          · rw [take_snoc hu] at he
            rcases List.mem_append.mp he with he | he
            · exact (put_some _).mpr (.inr (hd6 e he))
            · rw [List.mem_singleton.mp he]
              exact (put_some _).mpr (.inl rfl)
      · subst eσ
        rw [take_len] at hd6
        refine ⟨_, _, _, _, _, rfl, ⟨I6.same, I6.fd, I6.fw, I6.ne, I6.hd, I6.hw, I6.nd, I6.ks, I6.val, I6.s1.done fun c hc hcr e => ?_, I6.wl⟩, hm6⟩
        obtain ⟨lc, hlc⟩ := hRT.near_child hhP hc hcr e
        exact hd6 _ hlc
end
end OH

namespace OH
open PySem PySem.Spec PyProof.Rows L2
section
variable {P : Program} {w : World} {K : PySem.W.Frag} {mg : Str → Option Value} {base : Heap}
theorem cal_Lfars {f : Addr} {fd : FuncData} (D : C8.Def K mg "_law_fars" s_Lfars f fd) (b : L2.Binds K fd ["_law_here", "_law_start"] []) (T : Bt mg) (c_Lnear : C8.Cal P w K mg base 1 "_law_near" spNear []) : C8.Cal P w K mg base 2 "_law_fars" spFars [] := by
  refine C8.cal0 D b .nil sc_Lfars (fun vs H Q E h => ?_) (fun cdv A outer s H vs Q E hr h => ?_)
  · obtain ⟨a, Pl, W, r, par, dep, len, rfl, _⟩ := h
    rfl
  · obtain ⟨a, Pl, W, r, par, dep, len, rfl, hM, hT, hRT, hz, hnm, q⟩ := h
    have hu := hu_of hr
    have hu64 := hr.units
    refine ⟨_, (pss_cons (ps_set (i := 2) sc_Lfars.nd rfl (.inl v_Lfars_2) (C8.pe_c c_Lnear hr (by decide) g_Lfars__law_near (pa_cons (pv 0 rfl (.inl v_Lfars_0)) pa_nil)))
      (pss_cons (ps_set (i := 3) sc_Lfars.nd rfl (.inl v_Lfars_3) (pe_disp (pps_cons (pv 1 rfl (.inl v_Lfars_1)) pe_int pps_nil) (by rfl) (by rfl) (fun z => by cases z) (by decide)))
      (pss_cons (ps_set (i := 4) sc_Lfars.nd rfl (.inl v_Lfars_4) (pe_lst (pa_cons (pv 1 rfl (.inl v_Lfars_1)) pa_nil)))
      (pss_cons (ps_while PassesOwn.never (pt_cmpR (op_neD hu64) (pv 4 rfl (.inl v_Lfars_4)) (pe_lst pa_nil) (nomark _))
        (pss_cons (ps_set (i := 5) sc_Lfars.nd rfl (.inl v_Lfars_5) (pe_bm0 PySem.F.plainAttrs_list PySem.F.slot_list_pop PySem.F.type_list_pop mt_pop (pv 4 rfl (.inl v_Lfars_4))))
        (pss_one (ps_for PassesOwn.never rfl (pi_list (pe_dget hu (pv 2 rfl (.inl v_Lfars_2)) (pv 5 rfl (.inl v_Lfars_5)) (fun _ _ => rfl))) (pg_tup rfl (pgs_cons (pg_name (i := 6) sc_Lfars.nd rfl (.inl v_Lfars_6)) (pgs_cons (pg_name (i := 7) sc_Lfars.nd rfl (.inl v_Lfars_7)) pgs_nil)))
          (pss_one (ps_if (pt_cmp (pc_dnotin hu (pv 6 rfl (.inl v_Lfars_6)) (pv 3 rfl (.inl v_Lfars_3)))) (pss_cons (ps_dput hu (pv 3 rfl (.inl v_Lfars_3)) (pv 6 rfl (.inl v_Lfars_6)) (pe_op op_add (pe_dget hu (pv 3 rfl (.inl v_Lfars_3)) (pv 5 rfl (.inl v_Lfars_5)) (fun _ _ => rfl)) (pv 7 rfl (.inl v_Lfars_7))) rfl)
            (pss_one (ps_expr (pe_bm PySem.F.plainAttrs_list PySem.F.slot_list_append PySem.F.type_list_append mt_append (pv 4 rfl (.inl v_Lfars_4)) (pa_cons (pv 6 rfl (.inl v_Lfars_6)) pa_nil))))) pss_nil))))))
      (pss_one (ps_ret (pv 3 rfl (.inl v_Lfars_3)))))))), ?_⟩
    obtain ⟨ap, aw, ws, h1, h2, h3, h4⟩ := hM.ex
    refine ⟨_, rfl, a, Pl, W, rfl, hM, hT.ends, hz, by have := hT.len; omega, fun nd Hn sn fn hN => ?_⟩
    intro d fd
    refine ⟨_, rfl, upd_same, [(Sum.inr r, V.int 0)], rfl, (by show 1 ≤ 15; decide), ?_⟩
    rw [upd_upd]
    have s1 : Same Hn (upd Hn d (.dK (mergeK [] [((Sum.inr r : Key), V.int 0)]))) := same_new fd
    have e1 : upd Hn d (.dK (mergeK [] [((Sum.inr r : Key), V.int 0)])) d = some (.dK [(Sum.inr r, V.int 0)]) := upd_same
    generalize upd Hn d (.dK (mergeK [] [((Sum.inr r : Key), V.int 0)])) = H1 at s1 e1 ⊢
    refine ⟨_, rfl, (by show 1 ≤ sizeLine; decide), fun wt fw => ?_⟩
    have I0 : SI Pl r par ((fun v => V.int (dist par dep len v))) Hn (upd H1 wt (.lst [V.str r])) d wt [(Sum.inr r, V.int 0)] [r] none := by
      refine ⟨s1.trans (same_new fw), fd, s1.free fw, (fun z => by rw [← z, e1] at fw; cases fw), same_new fw _ _ e1, upd_same, by simp, fun k hk => ⟨r, hRT.root, by simpa using hk⟩, fun v x hx => ?_, S1.init hRT.root fun v => ?_, Nat.le_refl _⟩
      · by_cases z : v = r
        · rw [z, valV_pos rfl] at hx
          cases hx
          show V.int 0 = V.int (dist par dep len v)
          rw [z, hRT.dist_root]
        · rw [valV_neg (fun y => z (Sum.inr.inj y).symm)] at hx
          cases hx
      · by_cases z : v = r
        · rw [z, valV_pos rfl]
          simp
        · rw [valV_neg (fun y => z (Sum.inr.inj y).symm)]
          simp [z]
          rfl
    generalize upd H1 wt (.lst [V.str r]) = H2 at I0 ⊢
    refine ⟨fun m σ H3 => ∃ (y5 y6 y7 : Option V) (kvs : List (Key × V)) (Wt : List Str), σ = [some (.ref a), some (.str r), some (.ref nd), some (.ref d), some (.ref wt), y5, y6, y7] ∧ SI Pl r par ((fun v => V.int (dist par dep len v))) Hn H3 d wt kvs Wt none ∧ m = 2 * (Pl.length - kvs.length) + Wt.length,
      ⟨_, _, _, _, _, _, rfl, I0, rfl⟩, fun m σ H3 ⟨y5, y6, y7, kvs, Wt, eσ, I, em⟩ => ?_⟩
    subst eσ
    have hWn : ∀ x ∈ Wt, NmOk x := fun x hx => hnm x (I.s1.fP x (I.s1.wt x hx))
    refine ⟨_, rfl, Nat.zero_le _, fun en fe => ⟨_, _, .lst (SqL.of (same_new fe _ _ I.hw)) (dp_strs Wt), .lst (SqL.of upd_same) .nil, shaped_strs Wt hWn, shaped_nil, _, rfl, ?_⟩⟩
    have I1 := I.grow (same_new (o := .lst []) fe)
    generalize upd H3 en (.lst []) = H4 at I1 ⊢
    rw [eqv_nil]
    rcases List.eq_nil_or_concat Wt with e | ⟨Wt0, h, e⟩
    · subst e
      refine iteF ?_
      have hall := I1.s1.all hRT
      refine ⟨_, rfl, q d H4 (sn.trans I1.same) (sn.free fd) ⟨kvs, I1.hd, fun v hv => isSome_of I1.val (hall v hv)⟩⟩
    · rw [List.concat_eq_append] at e
      subst e
      have ene : (List.map PyData.str (Wt0 ++ [h])).isEmpty = false := by simp
      rw [ene]
      refine iteT ?_
      have I2 := I1.pop
      have ew : ((Wt0 ++ [h]).map V.str)[((Wt0 ++ [h]).map V.str).length - 1]? = some (V.str h) := by simp
      have ed : ((Wt0 ++ [h]).map V.str).dropLast = Wt0.map V.str := by simp
      refine ⟨fun σ' H' => ∃ (y5 y6 y7 : Option V) (kvs : List (Key × V)) (Wt : List Str), σ' = [some (.ref a), some (.str r), some (.ref nd), some (.ref d), some (.ref wt), y5, y6, y7] ∧ SI Pl r par ((fun v => V.int (dist par dep len v))) Hn H' d wt kvs Wt none ∧ 2 * (Pl.length - kvs.length) + Wt.length < m,
        fun σ' H' ⟨z5, z6, z7, kvs', Wt', e1, e2, e3⟩ => ⟨_, e3, _, _, _, _, _, e1, e2, rfl⟩, ?_⟩
      refine ⟨_, rfl, .inl ⟨rfl, _, SqL.of I1.hw⟩, wt, _, _, rfl, rfl, I1.hw, ew, ?_⟩
      rw [ed]
      obtain ⟨I3, hh⟩ := I2
      generalize upd H4 wt (.lst (Wt0.map V.str)) = H5 at I3 ⊢
      have hhP : h ∈ Pl := I3.s1.fP h hh
      obtain ⟨nk, k1, k2⟩ := hN.ex
      obtain ⟨l, as, g3, g4n, g5n⟩ := k2 h hhP
      have g4 := I3.same _ _ g4n
      have g5 := g5n.tk (tk_same I3.same)
      have gD : DGet H5 nd (kV (.inr h)) (some (.ref l)) := g3 ▸ DGet.k (k := Sum.inr h) (I3.same _ _ k1)
      refine ⟨_, rfl, _, rfl, nd, .ref l, rfl, gD, l, rfl, ⟨_, SqL.of g4⟩, ?_⟩
      have hm0 : 2 * (Pl.length - kvs.length) + Wt0.length < m := by
        rw [em, List.length_append]
        simp
      refine for_rowsL (rows := near W h) (as := as) (fun j σ H6 => ∃ (y6 y7 : Option V) (kvs : List (Key × V)) (Wt : List Str), σ = [some (.ref a), some (.str r), some (.ref nd), some (.ref d), some (.ref wt), some (.str h), y6, y7] ∧ SI Pl r par ((fun v => V.int (dist par dep len v))) Hn H6 d wt kvs Wt (some h) ∧ (valV kvs (.inr h)).isSome = true ∧ 2 * (Pl.length - kvs.length) + Wt.length < m ∧ (∀ e ∈ (near W h).take j, (valV kvs (.inr e.1)).isSome = true) ∧ Tups H6 as ((near W h).map pairV))
        ⟨_, _, _, _, rfl, I3, hh, hm0, fun e he => by simp at he, g5⟩ (fun j σ H6 ⟨_, _, _, _, _, I6, _, _, _, t6⟩ => ⟨I6.same _ _ g4n, t6⟩) (fun j u lu σ H6 hu ⟨y6, y7, kvs, Wt, eσ, I6, hh6, hm6, hd6, t6⟩ => ?_) (fun σ H6 ⟨y6, y7, kvs, Wt, eσ, I6, hh6, hm6, hd6, t6⟩ => ?_)
      · subst eσ
        refine ⟨_, rfl, _, rfl, d, _, rfl, DGet.k (k := Sum.inr u) I6.hd, _, rfl, ?_⟩
        have hun : (u, lu) ∈ near W h := List.mem_of_getElem? hu
        cases ev : valV kvs (Sum.inr u : Key) with
        | some x =>
          refine iteF ?_
          refine ⟨_, _, _, _, rfl, I6, hh6, hm6, fun e he => ?_, t6⟩
          rw [take_snoc hu] at he
          rcases List.mem_append.mp he with he | he
          · exact hd6 e he
          · rw [List.mem_singleton.mp he, ev]; rfl
        | none =>
          refine iteT ?_
          obtain ⟨c1, c2, c3, c4⟩ := I6.s1.child hRT hh6 hun (show (valV kvs (Sum.inr u)).isSome = false by rw [ev]; rfl)
          have hvl : V.int (dist par dep len u) = V.int (dist par dep len h + lu) := by rw [hRT.dist_up c1 c2, c3, c4]
          have I7 := I6.push hh6 c1 c2 c3 ev
          rw [hvl] at I7
          have hk1 := keys_le I6.nd I6.ks
          obtain ⟨_, _, hk3⟩ := keys_put (x := V.int (dist par dep len h + lu)) I6.nd I6.ks c1 ev
          have hk2 := keys_le I7.nd I7.ks
          have gh : DGet H6 d (kV (.inr h)) (some (.int (dist par dep len h))) := by
            have := DGet.k (k := Sum.inr h) I6.hd
            rw [isSome_of I6.val hh6] at this
            exact this
          refine ⟨_, rfl, _, rfl, d, _, rfl, gh, _, rfl, _, _, rfl, rfl, _, rfl, _, rfl, d, _, rfl, DPut.k (k := Sum.inr u) I6.hd (sz9 (by omega)), ?_⟩
          refine ⟨_, rfl, .inl ⟨rfl, _, SqL.of (by rw [upd_ne (Ne.symm I6.ne)]; exact I6.hw)⟩, _, rfl, wt, _, _, rfl, rfl, by rw [upd_ne (Ne.symm I6.ne)]; exact I6.hw, by rw [List.length_map]; exact sz9 (by have := I6.wl; omega), ?_⟩
          refine ⟨_, _, _, _, rfl, I7, put_some _ |>.mpr (.inr hh6), ?_, fun e he => ?_, t6.tk ((tk_ext (x := d) Ext.upd I6.hd nt_dK).trans (tk_ext (x := wt) Ext.upd (by rw [upd_ne (Ne.symm I6.ne)]; exact I6.hw) nt_lst))⟩
          · rw [hk3, List.length_append]
            rw [hk3] at hk2
            simp only [List.length_cons, List.length_nil]
            omega
          · rw [take_snoc hu] at he
            rcases List.mem_append.mp he with he | he
            · exact (put_some _).mpr (.inr (hd6 e he))
            · rw [List.mem_singleton.mp he]
              exact (put_some _).mpr (.inl rfl)
      · subst eσ
        rw [take_len] at hd6
        refine ⟨_, _, _, _, _, rfl, ⟨I6.same, I6.fd, I6.fw, I6.ne, I6.hd, I6.hw, I6.nd, I6.ks, I6.val, I6.s1.done fun c hc hcr e => ?_, I6.wl⟩, hm6⟩
        obtain ⟨lc, hlc⟩ := hRT.near_child hhP hc hcr e
        exact hd6 _ hlc
end
end OH

namespace OH
open PySem PySem.Spec PyProof.Rows L2
theorem ifT {c A B : Prop} [Decidable c] (hc : c) (h : A) : if c then A else B := by rw [if_pos hc]; exact h
theorem ifF {c A B : Prop} [Decidable c] (hc : ¬ c) (h : B) : if c then A else B := by rw [if_neg hc]; exact h
theorem alike_ips (es : List (Int × Str)) : PySem.W.AlikeAll (es.map ipD) := by
  refine ⟨fun x hx y hy => ?_, fun x hx => ?_⟩
  · obtain ⟨e, _, rfl⟩ := List.mem_map.mp hx
    obtain ⟨f, _, rfl⟩ := List.mem_map.mp hy
    simp [ipD, PySem.W.alike, PySem.W.alikeAll]
  · obtain ⟨e, _, rfl⟩ := List.mem_map.mp hx
    intro z
    cases z
theorem place_ips {e : Int × Str} : ∀ {es : List (Int × Str)}, e ∈ es → ∃ j, PySem.SeqAt.dataPlace (es.map ipD) (ipD e) = some j ∧ es[j]? = some e := by
  intro es
  have key : ∀ (es : List (Int × Str)), PySem.SeqAt.dataPlace (es.map ipD) (ipD e) = es.findIdx? fun y => decide (y = e) := by
    intro es
    unfold PySem.SeqAt.dataPlace
    rw [List.findIdx?_map]
    congr 1
    funext y
    exact eqv_ip y e
  intro h
  rw [key]
  cases hf : es.findIdx? fun y => decide (y = e) with
  | none =>
    rw [List.findIdx?_eq_none_iff] at hf
    have := hf e h
    simp at this
  | some j =>
    rw [List.findIdx?_eq_some_iff_getElem] at hf
    obtain ⟨hj, he, _⟩ := hf
    exact ⟨j, rfl, by rw [List.getElem?_eq_getElem hj, of_decide_eq_true he]⟩
theorem Paired.erase {α β : Type} {R : α → β → Prop} : ∀ {as : List α} {bs : List β} (j : Nat), Paired R as bs → Paired R (as.eraseIdx j) (bs.eraseIdx j)
  | _, _, _, .nil => .nil
  | _, _, 0, .cons r t => t
  | _, _, j + 1, .cons r t => .cons r (Paired.erase j t)
theorem map_erase {α β : Type} (f : α → β) : ∀ (l : List α) (j : Nat), (l.eraseIdx j).map f = (l.map f).eraseIdx j
  | [], j => by simp
  | a :: l, 0 => rfl
  | a :: l, j + 1 => by simp [map_erase f l j]
theorem mem_erase_nd {α : Type} {x : α} : ∀ {l : List α} {j : Nat}, l.Nodup → l[j]? = some x → ∀ v, v ∈ l.eraseIdx j ↔ v ∈ l ∧ v ≠ x
  | [], j, _, h, v => by simp at h
  | a :: l, 0, hn, h, v => by
    have e : a = x := Option.some.inj h
    subst e
    obtain ⟨h1, h2⟩ := List.nodup_cons.mp hn
    show v ∈ l ↔ _
    rw [List.mem_cons]
    exact ⟨fun m => ⟨.inr m, fun z => h1 (z ▸ m)⟩, fun ⟨m, n⟩ => m.resolve_left n⟩
  | a :: l, j + 1, hn, h, v => by
    obtain ⟨h1, h2⟩ := List.nodup_cons.mp hn
    have hx : x ∈ l := List.mem_of_getElem? (i := j) h
    show v ∈ a :: l.eraseIdx j ↔ _
    rw [List.mem_cons, List.mem_cons, mem_erase_nd h2 h v]
    constructor
    · rintro (e | ⟨m, n⟩)
      · exact ⟨.inl e, fun z => h1 (by rw [← e, z]; exact hx)⟩
      · exact ⟨.inr m, n⟩
    · rintro ⟨e | m, n⟩
      · exact .inl e
      · exact .inr ⟨m, n⟩
theorem nodup_erase {α : Type} {l : List α} (j : Nat) (h : l.Nodup) : (l.eraseIdx j).Nodup := h.sublist (List.eraseIdx_sublist l j)
/-- a search by numbers: its dict and what waits -/
structure FI (P : List Str) (r : Str) (par : Str → Str) (D : Str → Int) (Hb H : Hp) (d wt : Addr) (kvs : List (Key × V)) (es : List (Int × Str)) (hr : Option Str) : Prop where
  same : Same Hb H
  fd : Hb d = none
  fw : Hb wt = none
  ne : d ≠ wt
  hd : H d = some (.dK kvs)
  hw : ∃ as : List Addr, H wt = some (.lst (as.map V.ref)) ∧ Tups H as (es.map ipV)
  nd : (kvs.map (·.1)).Nodup
  ks : ∀ k ∈ kvs.map (·.1), ∃ v ∈ P, k = Sum.inr v
  val : ∀ v x, valV kvs (.inr v) = some x → x = .int (D v)
  ev : ∀ e ∈ es, e.1 = D e.2
  s2 : S2 P r par (fun v => (valV kvs (.inr v)).isSome) (es.map (·.2)) hr
theorem FI.grow {P : List Str} {r : Str} {par : Str → Str} {D : Str → Int} {Hb H H' : Hp} {d wt : Addr} {kvs : List (Key × V)} {es : List (Int × Str)} {hr : Option Str} (I : FI P r par D Hb H d wt kvs es hr) (s : Same H H') : FI P r par D Hb H' d wt kvs es hr := by
  obtain ⟨as, h1, h2⟩ := I.hw
  exact ⟨I.same.trans s, I.fd, I.fw, I.ne, s _ _ I.hd, ⟨as, s _ _ h1, h2.tk (tk_same s)⟩, I.nd, I.ks, I.val, I.ev, I.s2⟩
theorem FI.few {P : List Str} {r : Str} {par : Str → Str} {D : Str → Int} {Hb H : Hp} {d wt : Addr} {kvs : List (Key × V)} {es : List (Int × Str)} {hr : Option Str} (I : FI P r par D Hb H d wt kvs es hr) : es.length ≤ P.length := by
  have := nodup_sub_le (m := P) I.s2.nd fun v hv => (I.s2.wt v hv).1
  rw [List.length_map] at this
  exact this
section
variable {P : Program} {w : World} {K : PySem.W.Frag} {mg : Str → Option Value} {base : Heap}
theorem cal_fars {f : Addr} {fd : FuncData} (D : C8.Def K mg "fars" s_fars f fd) (b : L2.Binds K fd ["web", "place"] []) (T : Bt mg) (c_near_by : C8.Cal P w K mg base 1 "near_by" spNear []) : C8.Cal P w K mg base 2 "fars" spFars [] := by
  refine C8.cal0 D b .nil sc_fars (fun vs H Q E h => ?_) (fun cdv A outer s H vs Q E hr h => ?_)
  · obtain ⟨a, Pl, W, r, par, dep, len, rfl, _⟩ := h
    rfl
  · obtain ⟨a, Pl, W, r, par, dep, len, rfl, hM, hT, hRT, hz, hnm, q⟩ := h
    have hu := hu_of hr
    have hu64 := hr.units
    refine ⟨_, (pss_cons (ps_set (i := 2) sc_fars.nd rfl (.inl v_fars_2) (C8.pe_c c_near_by hr (by decide) g_fars_near_by (pa_cons (pv 0 rfl (.inl v_fars_0)) pa_nil)))
      (pss_cons (ps_set (i := 3) sc_fars.nd rfl (.inl v_fars_3) pe_dnewK)
      (pss_cons (ps_set (i := 4) sc_fars.nd rfl (.inl v_fars_4) (pe_lst (pa_cons (pe_tup (pa_cons pe_int (pa_cons (pv 1 rfl (.inl v_fars_1)) pa_nil))) pa_nil)))
      (pss_cons (ps_while PassesOwn.never (pt_cmpR (op_neD hu64) (pv 4 rfl (.inl v_fars_4)) (pe_lst pa_nil) (nomark _))
        (pss_cons (ps_asg (pe_callB (cr_minD rfl hu64) g_fars_min T.min_ (by decide +kernel) (pa_cons (pv 4 rfl (.inl v_fars_4)) pa_nil)) (pg_tup rfl (pgs_cons (pg_name (i := 5) sc_fars.nd rfl (.inl v_fars_5)) (pgs_cons (pg_name (i := 6) sc_fars.nd rfl (.inl v_fars_6)) pgs_nil))))
        (pss_cons (ps_expr (pe_bm PySem.F.plainAttrs_list PySem.F.slot_list_remove PySem.F.type_list_remove (mt_removeD hu64) (pv 4 rfl (.inl v_fars_4)) (pa_cons (pe_tup (pa_cons (pv 5 rfl (.inl v_fars_5)) (pa_cons (pv 6 rfl (.inl v_fars_6)) pa_nil))) pa_nil)))
        (pss_one (ps_if (pt_cmp (pc_dnotin hu (pv 6 rfl (.inl v_fars_6)) (pv 3 rfl (.inl v_fars_3)))) (pss_cons (ps_dput hu (pv 3 rfl (.inl v_fars_3)) (pv 6 rfl (.inl v_fars_6)) (pv 5 rfl (.inl v_fars_5)) rfl)
          (pss_one (ps_for PassesOwn.never rfl (pi_list (pe_dget hu (pv 2 rfl (.inl v_fars_2)) (pv 6 rfl (.inl v_fars_6)) (fun _ _ => rfl))) (pg_tup rfl (pgs_cons (pg_name (i := 7) sc_fars.nd rfl (.inl v_fars_7)) (pgs_cons (pg_name (i := 8) sc_fars.nd rfl (.inl v_fars_8)) pgs_nil)))
            (pss_one (ps_if (pt_cmp (pc_dnotin hu (pv 7 rfl (.inl v_fars_7)) (pv 3 rfl (.inl v_fars_3)))) (pss_one (ps_expr (pe_bm PySem.F.plainAttrs_list PySem.F.slot_list_append PySem.F.type_list_append mt_append (pv 4 rfl (.inl v_fars_4)) (pa_cons (pe_tup (pa_cons (pe_op op_add (pv 5 rfl (.inl v_fars_5)) (pv 8 rfl (.inl v_fars_8))) (pa_cons (pv 7 rfl (.inl v_fars_7)) pa_nil))) pa_nil)))) pss_nil))))) pss_nil)))))
      (pss_one (ps_ret (pv 3 rfl (.inl v_fars_3)))))))), ?_⟩
    obtain ⟨ap, aw, ws, h1, h2, h3, h4⟩ := hM.ex
    refine ⟨_, rfl, a, Pl, W, rfl, hM, hT.ends, hz, by have := hT.len; omega, fun nd Hn sn fn hN => ?_⟩
    obtain ⟨nk, k1, k2⟩ := hN.ex
    intro d fd
    have s1 : Same Hn (upd Hn d (.dK [])) := same_new fd
    have e1 : upd Hn d (.dK []) d = some (.dK []) := upd_same
    generalize upd Hn d (.dK []) = H1 at s1 e1 ⊢
    refine ⟨_, rfl, (by show 2 ≤ sizeLine; decide), fun t0 ft => ⟨(by show 1 ≤ sizeLine; decide), fun wt fw => ?_⟩⟩
    have twt : t0 ≠ wt := fun z => by rw [z, upd_same] at fw; cases fw
    have dt0 : d ≠ t0 := ne_of_none e1 ft
    have I0 : FI Pl r par (dist par dep len) Hn (upd (upd H1 t0 (.tup [V.int 0, V.str r])) wt (.lst [V.ref t0])) d wt [] [(0, r)] none := by
      refine ⟨(s1.trans (same_new ft)).trans (same_new fw), fd, (s1.trans (same_new ft)).free fw, (fun z => by rw [← z, upd_ne dt0, e1] at fw; cases fw), same_new fw _ _ (same_new ft _ _ e1), ⟨[t0], upd_same, .cons (by rw [upd_ne twt, upd_same]; rfl) .nil⟩, List.nodup_nil, fun k hk => by simp at hk, fun v x hx => by simp [valV_nil] at hx, fun e he => ?_, S2.init hRT.root fun v => rfl⟩
      rw [List.mem_singleton.mp he]
      exact hRT.dist_root.symm
    generalize upd (upd H1 t0 (.tup [V.int 0, V.str r])) wt (.lst [V.ref t0]) = H2 at I0 ⊢
    refine ⟨fun m σ H3 => ∃ (y5 y6 y7 y8 : Option V) (kvs : List (Key × V)) (es : List (Int × Str)), σ = [some (.ref a), some (.str r), some (.ref nd), some (.ref d), some (.ref wt), y5, y6, y7, y8] ∧ FI Pl r par (dist par dep len) Hn H3 d wt kvs es none ∧ m = Pl.length - kvs.length,
      ⟨_, _, _, _, _, _, _, rfl, I0, rfl⟩, fun m σ H3 ⟨y5, y6, y7, y8, kvs, es, eσ, I, em⟩ => ?_⟩
    subst eσ
    have hen : ∀ e ∈ es, NmOk e.2 := fun e he => hnm _ (I.s2.wt e.2 (List.mem_map.mpr ⟨e, he, rfl⟩)).1
    obtain ⟨as, hw, ht⟩ := I.hw
    refine ⟨_, rfl, Nat.zero_le _, fun en fe => ⟨_, _, .lst (SqL.of (same_new fe _ _ hw)) (dp_ips (ht.tk (tk_same (same_new fe)))), .lst (SqL.of upd_same) .nil, shaped_ips es hen, shaped_nil, _, rfl, ?_⟩⟩
    have I1 := I.grow (same_new (o := .lst []) fe)
    have hw1 := same_new (o := .lst []) fe _ _ hw
    have ht1 := ht.tk (tk_same (same_new (o := .lst []) fe))
    generalize upd H3 en (.lst []) = H4 at I1 hw1 ht1 ⊢
    rw [eqv_nil]
    by_cases hes : es = []
    · subst hes
      refine iteF ?_
      have hall := I1.s2.all hRT
      exact ⟨_, rfl, q d H4 (sn.trans I1.same) (sn.free fd) ⟨kvs, I1.hd, fun v hv => isSome_of (val := fun v => V.int (dist par dep len v)) I1.val (hall v hv)⟩⟩
    · have ene : (es.map ipD).isEmpty = false := by
        cases es with
        | nil => exact absurd rfl hes
        | cons e l => rfl
      rw [ene]
      refine iteT ?_
      refine ⟨fun σ' H' => ∃ (y5 y6 y7 y8 : Option V) (kvs : List (Key × V)) (es : List (Int × Str)), σ' = [some (.ref a), some (.str r), some (.ref nd), some (.ref d), some (.ref wt), y5, y6, y7, y8] ∧ FI Pl r par (dist par dep len) Hn H' d wt kvs es none ∧ Pl.length - kvs.length < m,
        fun σ' H' ⟨z5, z6, z7, z8, kvs', es', e1, e2, e3⟩ => ⟨_, e3, _, _, _, _, _, _, e1, e2, rfl⟩, ?_⟩
      refine ⟨_, rfl, wt, as.map V.ref, es.map ipD, rfl, SqL.of hw1, dp_ips ht1, (by
        intro z
        exact hes (List.map_eq_nil_iff.mp z)), alike_ips es, by have := depth_ips es; omega, fun v hv => ?_⟩
      obtain ⟨b, hb, rfl⟩ := List.mem_map.mp hv
      obtain ⟨i, hi, hib⟩ := List.getElem_of_mem hb
      have hib' : as[i]? = some b := by rw [List.getElem?_eq_getElem hi, hib]
      obtain ⟨row, hrow, hHb⟩ := Paired.getL ht1 hib'
      rw [List.getElem?_map] at hrow
      obtain ⟨e, hei, he2⟩ := Option.map_eq_some_iff.mp hrow
      subst he2
      have hee : e ∈ es := List.mem_of_getElem? hei
      refine ⟨b, _, rfl, SqT.of hHb, rfl, _, _, rfl, _, _, rfl, rfl, ?_⟩
      refine ⟨_, rfl, .inl ⟨rfl, _, SqL.of hw1⟩, _, rfl, _, rfl, (by show 2 ≤ sizeLine; decide), fun t nt => ?_⟩
      obtain ⟨j, hj, hje⟩ := place_ips hee
      have twt2 : wt ≠ t := ne_of_none hw1 nt
      refine ⟨wt, .ref t, _, _, ipD e, j, rfl, rfl, by rw [upd_ne twt2]; exact hw1, dp_ips (ht1.tk (tk_same (same_new nt))), .tup (SqT.of upd_same) (.cons (.int _) (.cons (.str _) .nil)), plain_ips es, by simp [ipD, PyData.plain, PyData.plainAll], by simp [ipD, PyData.depth, PyData.depthAll], hj, ?_⟩
      obtain ⟨mu, h⟩ := e
      have hD : mu = dist par dep len h := I1.ev _ hee
      have hsn : (es.map (·.2))[j]? = some h := by rw [List.getElem?_map, hje]; rfl
      have hmem : ∀ v, v ∈ (es.eraseIdx j).map (·.2) ↔ v ∈ es.map (·.2) ∧ v ≠ h := fun v => by rw [map_erase]; exact mem_erase_nd I1.s2.nd hsn v
      obtain ⟨w1, w2, w3⟩ := I1.s2.wt h (List.mem_of_getElem? hsn)
      have hvn : valV kvs (Sum.inr h : Key) = none := by
        cases ev : valV kvs (Sum.inr h : Key) with
        | none => rfl
        | some x => rw [ev] at w2; cases w2
      have s5 : Same Hn (upd (upd H4 t (.tup [V.int mu, V.str h])) wt (.lst ((as.map V.ref).eraseIdx j))) := same_mut (I1.same.trans (same_new nt)) I1.fw
      have hd5 : upd (upd H4 t (.tup [V.int mu, V.str h])) wt (.lst ((as.map V.ref).eraseIdx j)) d = some (.dK kvs) := by rw [upd_ne I1.ne, upd_ne (ne_of_none I1.hd nt)]; exact I1.hd
      have tk5 : Tk H4 (upd (upd H4 t (.tup [V.int mu, V.str h])) wt (.lst ((as.map V.ref).eraseIdx j))) := (tk_same (same_new nt)).trans (tk_ext (x := wt) Ext.upd (by rw [upd_ne twt2]; exact hw1) nt_lst)
      have hw5 : upd (upd H4 t (.tup [V.int mu, V.str h])) wt (.lst ((as.map V.ref).eraseIdx j)) wt = some (.lst ((as.eraseIdx j).map V.ref)) := by rw [upd_same, map_erase]
      have ht5 : Tups (upd (upd H4 t (.tup [V.int mu, V.str h])) wt (.lst ((as.map V.ref).eraseIdx j))) (as.eraseIdx j) ((es.eraseIdx j).map ipV) := by rw [map_erase]; exact Paired.erase j (ht1.tk tk5)
      have hee : ∀ e ∈ es.eraseIdx j, e.1 = dist par dep len e.2 := fun e he => I1.ev e (List.mem_of_mem_eraseIdx he)
      have hkl := keys_le I1.nd I1.ks
      obtain ⟨c1, c2, c3⟩ := keys_put (x := V.int mu) I1.nd I1.ks w1 hvn
      have hkl2 := keys_le c1 c2
      obtain ⟨v1, v2⟩ := I1.s2.visit hRT (List.mem_of_getElem? hsn) hmem (by rw [map_erase]; exact nodup_erase j I1.s2.nd) (put_some (kvs := kvs) (u := h) (x := V.int mu))
      refine ⟨_, rfl, _, rfl, d, _, rfl, DGet.k (k := Sum.inr h) hd5, _, rfl, ?_⟩
      refine ifT (show (!(valV kvs (Sum.inr h)).isSome) = true by rw [hvn]; rfl) ?_
      refine ⟨_, rfl, _, rfl, _, rfl, d, _, rfl, DPut.k (k := Sum.inr h) hd5 (sz9 (by omega)), ?_⟩
      have I6 : FI Pl r par (dist par dep len) Hn (upd (upd (upd H4 t (.tup [V.int mu, V.str h])) wt (.lst ((as.map V.ref).eraseIdx j))) d (.dK (putK kvs (Sum.inr h) (V.int mu)))) d wt (putK kvs (Sum.inr h) (V.int mu)) (es.eraseIdx j) (some h) := by
        refine ⟨same_mut s5 fd, fd, I1.fw, I1.ne, upd_same, ⟨as.eraseIdx j, by rw [upd_ne (Ne.symm I1.ne)]; exact hw5, ht5.tk (tk_ext (x := d) Ext.upd hd5 nt_dK)⟩, c1, c2, fun v x hx => ?_, hee, v1⟩
        rw [valV_put] at hx
        by_cases qv : v = h
        · rw [if_pos (by rw [qv])] at hx
          rw [qv, ← hD]
          exact (Option.some.inj hx).symm
        · rw [if_neg (fun z => qv (Sum.inr.inj z))] at hx
          exact I1.val v x hx
      have hh : (valV (putK kvs (Sum.inr h) (V.int mu)) (.inr h)).isSome = true := (put_some h).mpr (.inl rfl)
      obtain ⟨l, bs, g3, g4n, g5n⟩ := k2 h w1
      have g4 := I6.same _ _ g4n
      have gD : DGet (upd (upd (upd H4 t (.tup [V.int mu, V.str h])) wt (.lst ((as.map V.ref).eraseIdx j))) d (.dK (putK kvs (Sum.inr h) (V.int mu)))) nd (kV (.inr h)) (some (.ref l)) := g3 ▸ DGet.k (k := Sum.inr h) (I6.same _ _ k1)
      refine ⟨_, rfl, _, rfl, nd, .ref l, rfl, gD, l, rfl, ⟨_, SqL.of g4⟩, ?_⟩
      refine for_rowsL (rows := near W h) (as := bs) (fun i σ H7 => ∃ (y7 y8 : Option V) (fs : List (Int × Str)), σ = [some (.ref a), some (.str r), some (.ref nd), some (.ref d), some (.ref wt), some (.int mu), some (.str h), y7, y8] ∧ FI Pl r par (dist par dep len) Hn H7 d wt (putK kvs (Sum.inr h) (V.int mu)) fs (some h) ∧ (∀ e ∈ (near W h).take i, (valV (putK kvs (Sum.inr h) (V.int mu)) (.inr e.1)).isSome = true ∨ e.1 ∈ fs.map (·.2)) ∧ (∀ v ∈ fs.map (·.2), v ∈ (es.eraseIdx j).map (·.2) ∨ v ∈ ((near W h).take i).map (·.1)) ∧ Tups H7 bs ((near W h).map pairV))
        ⟨_, _, _, rfl, I6, fun e he => by simp at he, fun v hv => .inl hv, g5n.tk (tk_same I6.same)⟩ (fun i σ H7 ⟨_, _, _, _, I7, _, _, t7⟩ => ⟨I7.same _ _ g4n, t7⟩) (fun i u lu σ H7 hu ⟨y7, y8, fs, eσ, I7, hd7, hn7, t7⟩ => ?_) (fun σ H7 ⟨y7, y8, fs, eσ, I7, hd7, hn7, t7⟩ => ?_)
      · subst eσ
        have hun : (u, lu) ∈ near W h := List.mem_of_getElem? hu
        refine ⟨_, rfl, _, rfl, d, _, rfl, DGet.k (k := Sum.inr u) I7.hd, _, rfl, ?_⟩
        cases ev : valV (putK kvs (Sum.inr h) (V.int mu)) (Sum.inr u : Key) with
        | some x =>
          refine iteF ?_
          refine ⟨_, _, _, rfl, I7, fun e he => ?_, fun v hv => ?_, t7⟩
          · rw [take_snoc hu] at he
            rcases List.mem_append.mp he with he | he
            · exact hd7 e he
            · rw [List.mem_singleton.mp he, ev]
              exact .inl rfl
          · refine (hn7 v hv).imp id fun z => ?_
            rw [take_snoc hu, List.map_append]
            exact List.mem_append_left _ z
        | none =>
          refine iteT ?_
          obtain ⟨d1, d2, d3, d4⟩ := I7.s2.child hRT hh hun (show (valV (putK kvs (Sum.inr h) (V.int mu)) (Sum.inr u)).isSome = false by rw [ev]; rfl)
          have huw : u ∉ fs.map (·.2) := fun m => by
            rcases hn7 u m with z | z
            · exact v2 u d1 d2 d3 z
            · have hnn := hT.near_nodup h
              obtain ⟨p, hp, ep⟩ := List.mem_map.mp z
              obtain ⟨i', hi', ei'⟩ := List.getElem_of_mem hp
              rw [List.getElem_take] at ei'
              rw [List.length_take] at hi'
              have x1 : ((near W h).map (·.1))[i']? = some u := by rw [List.getElem?_map, List.getElem?_eq_getElem (by omega), ei', ← ep]; rfl
              have x2 : ((near W h).map (·.1))[i]? = some u := by rw [List.getElem?_map, hu]; rfl
              have := nd_ix hnn x1 x2
              omega
          obtain ⟨cs, hw7, ht7⟩ := I7.hw
          have hfew := I7.few
          have e7 := ht7.len
          refine ⟨_, rfl, .inl ⟨rfl, _, SqL.of hw7⟩, _, rfl, _, rfl, _, _, rfl, rfl, _, rfl, (by show 2 ≤ sizeLine; decide), fun t2 nt2 => ?_⟩
          have wt2 : wt ≠ t2 := ne_of_none hw7 nt2
          refine ⟨wt, _, _, rfl, rfl, by rw [upd_ne wt2]; exact hw7, by rw [List.length_map]; exact sz9 (by omega), ?_⟩
          have tk8 : Tk H7 (upd (upd H7 t2 (.tup [V.int (mu + lu), V.str u])) wt (.lst (cs.map V.ref ++ [V.ref t2]))) := (tk_same (same_new nt2)).trans (tk_ext (x := wt) Ext.upd (by rw [upd_ne wt2]; exact hw7) nt_lst)
          refine ⟨_, _, fs ++ [(mu + lu, u)], rfl, ⟨same_mut (I7.same.trans (same_new nt2)) I7.fw, I7.fd, I7.fw, I7.ne, by rw [upd_ne I7.ne, upd_ne (ne_of_none I7.hd nt2)]; exact I7.hd, ⟨cs ++ [t2], by rw [upd_same, List.map_append]; rfl, by rw [List.map_append]; exact (ht7.tk tk8).snoc (by rw [upd_ne (Ne.symm wt2), upd_same]; rfl)⟩, I7.nd, I7.ks, I7.val, fun e he => ?_, ?_⟩, fun e he => ?_, fun v hv => ?_, t7.tk tk8⟩
          · rcases List.mem_append.mp he with he | he
            · exact I7.ev e he
            · rw [List.mem_singleton.mp he]
              show mu + lu = dist par dep len u
              rw [hRT.dist_up d1 d2, d3, ← d4, hD]
          · rw [List.map_append]
            exact I7.s2.push hh d1 (by rw [ev]; rfl) d3 huw
          · rw [List.map_append]
            rw [take_snoc hu] at he
            rcases List.mem_append.mp he with he | he
            · exact (hd7 e he).imp id (List.mem_append_left _)
            · rw [List.mem_singleton.mp he]
              exact .inr (List.mem_append_right _ (by simp))
          · rw [List.map_append] at hv
            rw [take_snoc hu, List.map_append]
            rcases List.mem_append.mp hv with hv | hv
            · exact (hn7 v hv).imp id (List.mem_append_left _)
            · exact .inr (List.mem_append_right _ (by simpa using hv))
      · subst eσ
        rw [take_len] at hd7
        refine ⟨_, _, _, _, _, fs, rfl, ⟨I7.same, I7.fd, I7.fw, I7.ne, I7.hd, I7.hw, I7.nd, I7.ks, I7.val, I7.ev, I7.s2.done fun c hc hcr e => ?_⟩, by omega⟩
        obtain ⟨lc, hlc⟩ := hRT.near_child w1 hc hcr e
        exact hd7 _ hlc
end
end OH

namespace OH
open PySem PySem.Spec PyProof.Rows L2
/-- a map that is a tree, its first place the root -/
structure Rooted (P : List Str) (W : List (Str × Str × Int)) (r : Str) (par : Str → Str) (dep : Str → Nat) (len : Str → Int) : Prop where
  hd : ∃ tl, P = r :: tl
  tree : Tree P W
  rt : RT P W r par dep len
  few : P.length ≤ 1000
  nm : ∀ v ∈ P, NmOk v
def spSub (f : List Str → Str → (Str → Str) → (Str → Nat) → Str → List Str) : Sp := fun vs H Q _ => ∃ (a : Addr) (P : List Str) (W : List (Str × Str × Int)) (r : Str) (par : Str → Str) (dep : Str → Nat) (len : Str → Int) (v : Str), vs = [.ref a, .str v] ∧ MapAt H a P W ∧ Rooted P W r par dep len ∧ v ∈ P ∧
  ∀ l H', Same H H' → H l = none → H' l = some (.lst ((f P r par dep v).map V.str)) → Q (.ref l) H'
def subP (P : List Str) (par : Str → Str) (dep : Str → Nat) (v : Str) : List Str := P.filter fun x => anc par dep v x
abbrev spChildren : Sp := spSub fun P r par _ v => kidsOf P r par v
abbrev spBelow : Sp := spSub fun P _ par dep v => subP P par dep v
theorem filt_snoc {α : Type} {l : List α} {k : Nat} {x : α} {f : α → Bool} (h : l[k]? = some x) : (l.take (k + 1)).filter f = (l.take k).filter f ++ (if f x = true then [x] else []) := by
  rw [take_snoc h, List.filter_append]
  congr 1
  by_cases q : f x = true
  · rw [if_pos q, List.filter_cons_of_pos q, List.filter_nil]
  · rw [if_neg q, List.filter_cons_of_neg q, List.filter_nil]
theorem filt_few {α : Type} {l : List α} {f : α → Bool} {k : Nat} : ((l.take k).filter f).length ≤ l.length := Nat.le_trans (List.length_filter_le _ _) (by rw [List.length_take]; omega)
section
variable {P : Program} {w : World} {K : PySem.W.Frag} {mg : Str → Option Value} {base : Heap}
theorem cal_children {f : Addr} {fd : FuncData} (D : C8.Def K mg "children" s_children f fd) (b : L2.Binds K fd ["web", "place"] []) (T : Bt mg) (c_parents : C8.Cal P w K mg base 2 "parents" spParents []) : C8.Cal P w K mg base 3 "children" spChildren [] := by
  refine C8.cal0 D b .nil sc_children (fun vs H Q E h => ?_) (fun cdv A outer s H vs Q E hr h => ?_)
  · obtain ⟨a, Pl, W, r, par, dep, len, v, rfl, _⟩ := h
    rfl
  · obtain ⟨a, Pl, W, r, par, dep, len, v, rfl, hM, hR, hv, q⟩ := h
    have hu := hu_of hr
    have hu64 := hr.units
    refine ⟨_, (pss_cons (ps_set (i := 2) sc_children.nd rfl (.inr v_children_2) (C8.pe_c c_parents hr (by decide) g_children_parents (pa_cons (pv 0 rfl (.inl v_children_0)) pa_nil)))
      (pss_one (ps_ret (pe_lc (own := [("one", 3)]) rfl sc_children.nd (pi_tup (pe_ix ix_tup (pv 0 rfl (.inl v_children_0)) pe_int (fun _ _ => rfl))) (blkOk_by (own := [("one", 3)]) (N := N_children) (sc := sc s_children) (by decide +kernel)) (fun _ _ _ _ _ => (pg_name (i := 3) sc_children.nd rfl (.inl rfl) (.inr rfl))) (fun _ _ _ _ _ => pts_one (pt_cmpR op_eq (pe_dget hu (pv 2) (pv 3) (fun _ _ => rfl)) (pv 1) (nomark _))) (fun _ _ _ _ _ => (pv 3)))))), ?_⟩
    obtain ⟨ap, aw, ws, h1, h2, h3, h4⟩ := hM.ex
    obtain ⟨tl, hP⟩ := hR.hd
    refine ⟨_, rfl, a, Pl, W, r, tl, par, dep, len, rfl, hM, hP, hR.tree, hR.rt, hR.few, hR.nm, fun d kvs Hn sn fn hd hk => ?_⟩
    refine ⟨_, rfl, _, _, _, _, rfl, rfl, SqT.of (sn _ _ h1), atI_nat (j := 0) rfl, ap, rfl, ⟨_, SqT.of (sn _ _ h2)⟩, fun D nD => ?_⟩
    refine lc_strs (P := Pl) (fun k H2 => LI Hn H2 D (((Pl.take k).filter fun u => decide (u ≠ r ∧ par u = v)).map V.str))
      (LI.nil nD) (fun k H2 I => I.same _ _ (sn _ _ h2)) (fun k p H2 hp I => ?_) (fun H2 I => ?_)
    · have gD : DGet H2 d (kV (.inr p)) (some (parVal r par p)) := hk p (List.mem_of_getElem? hp) ▸ DGet.k (k := Sum.inr p) (I.same _ _ hd)
      refine ⟨rfl, _, rfl, _, rfl, d, _, rfl, gD, _, rfl, ?_⟩
      have hsc : scal (parVal r par p) (V.str v) = true := by unfold parVal; split <;> rfl
      have hdec : decide (parVal r par p = V.str v) = decide (p ≠ r ∧ par p = v) := by
        unfold parVal
        by_cases z : p = r
        · rw [if_pos z]; simp [z]
        · rw [if_neg z]; simp [z]
      refine ⟨hsc, _, rfl, ?_⟩
      rw [hdec, filt_snoc hp]
      by_cases z : p ≠ r ∧ par p = v
      · rw [decide_eq_true z]
        refine iteT ⟨_, rfl, _, I.at_, sz9 (by rw [List.length_map]; exact Nat.le_trans filt_few (by have := hR.few; omega)), ?_⟩
        rw [if_pos rfl, List.map_append]
        exact I.put
      · rw [decide_eq_false z]
        refine iteF ?_
        rw [if_neg Bool.false_ne_true, List.append_nil]
        exact I
    · rw [take_len] at I
      exact q D H2 (sn.trans I.same) (sn.free nD) I.at_
theorem cal_below {f : Addr} {fd : FuncData} (D : C8.Def K mg "below" s_below f fd) (b : L2.Binds K fd ["web", "place"] []) (T : Bt mg) (c_parents : C8.Cal P w K mg base 2 "parents" spParents []) : C8.Cal P w K mg base 3 "below" spBelow [] := by
  refine C8.cal0 D b .nil sc_below (fun vs H Q E h => ?_) (fun cdv A outer s H vs Q E hr h => ?_)
  · obtain ⟨a, Pl, W, r, par, dep, len, v, rfl, _⟩ := h
    rfl
  · obtain ⟨a, Pl, W, r, par, dep, len, v, rfl, hM, hR, hv, q⟩ := h
    have hu := hu_of hr
    have hu64 := hr.units
    refine ⟨_, (pss_cons (ps_set (i := 2) sc_below.nd rfl (.inl v_below_2) (C8.pe_c c_parents hr (by decide) g_below_parents (pa_cons (pv 0 rfl (.inl v_below_0)) pa_nil)))
      (pss_cons (ps_set (i := 3) sc_below.nd rfl (.inl v_below_3) (pe_lst pa_nil))
      (pss_cons (ps_for PassesOwn.never rfl (pi_tup (pe_ix ix_tup (pv 0 rfl (.inl v_below_0)) pe_int (fun _ _ => rfl))) (pg_name (i := 4) sc_below.nd rfl (.inl v_below_4))
        (pss_cons (ps_set (i := 5) sc_below.nd rfl (.inl v_below_5) (pv 4 rfl (.inl v_below_4)))
        (pss_cons (ps_while PassesOwn.never (PW.pt (pw_and (pt_cmp (pc_notN (pv 5 rfl (.inl v_below_5)))) (pw_and1 (pt_cmpR op_ne (pv 5 rfl (.inl v_below_5)) (pv 1 rfl (.inl v_below_1)) (nomark _)))))
          (pss_one (ps_set (i := 5) sc_below.nd rfl (.inl v_below_5) (pe_dget hu (pv 2 rfl (.inl v_below_2)) (pv 5 rfl (.inl v_below_5)) (fun _ _ => rfl)))))
        (pss_one (ps_if (pt_cmpR op_eq (pv 5 rfl (.inl v_below_5)) (pv 1 rfl (.inl v_below_1)) (nomark _)) (pss_one (ps_expr (pe_bm PySem.F.plainAttrs_list PySem.F.slot_list_append PySem.F.type_list_append mt_append (pv 3 rfl (.inl v_below_3)) (pa_cons (pv 4 rfl (.inl v_below_4)) pa_nil)))) pss_nil)))))
      (pss_one (ps_ret (pv 3 rfl (.inl v_below_3))))))), ?_⟩
    obtain ⟨ap, aw, ws, h1, h2, h3, h4⟩ := hM.ex
    obtain ⟨tl, hP⟩ := hR.hd
    refine ⟨_, rfl, a, Pl, W, r, tl, par, dep, len, rfl, hM, hP, hR.tree, hR.rt, hR.few, hR.nm, fun d kvs Hn sn fn hd hk => ?_⟩
    refine ⟨Nat.zero_le _, fun l nl => ?_⟩
    have I0 := LI.nil nl
    generalize upd Hn l (.lst []) = H1 at I0 ⊢
    refine ⟨_, rfl, _, _, _, _, rfl, rfl, SqT.of (I0.same _ _ (sn _ _ h1)), atI_nat (j := 0) rfl, ap, rfl, ⟨_, SqT.of (I0.same _ _ (sn _ _ h2))⟩, ?_⟩
    refine for_strs (P := Pl) (fun k σ H2 => ∃ (y4 y5 : Option V), σ = [some (.ref a), some (.str v), some (.ref d), some (.ref l), y4, y5] ∧ LI Hn H2 l (((Pl.take k).filter fun x => anc par dep v x).map V.str))
      ⟨_, _, rfl, I0⟩ (fun k σ H2 ⟨_, _, _, I⟩ => I.same _ _ (sn _ _ h2)) (fun k p σ H2 hp ⟨y4, y5, eσ, I⟩ => ?_) (fun σ H2 ⟨y4, y5, eσ, I⟩ => ?_)
    · subst eσ
      have hpP := List.mem_of_getElem? hp
      refine ⟨_, rfl, ?_⟩
      refine ⟨fun m σ H3 => ∃ st : Option Str, σ = [some (.ref a), some (.str v), some (.ref d), some (.ref l), some (.str p), some (match st with | none => V.non | some x => .str x)] ∧ H3 = H2 ∧ (match st with | none => anc par dep v p = false ∧ m = 0 | some x => x ∈ Pl ∧ anc par dep v p = anc par dep v x ∧ m = dep x + 1),
        ⟨_, some p, rfl, rfl, hpP, rfl, rfl⟩, fun m σ H3 ⟨st, eσ, eH, hst⟩ => ?_⟩
      subst eσ eH
      have fin : ∀ b : Bool, anc par dep v p = b → (b = false → LI Hn H3 l (((Pl.take (k + 1)).filter fun x => anc par dep v x).map V.str)) ∧ (b = true → LI Hn (upd H3 l (.lst ((((Pl.take k).filter fun x => anc par dep v x).map V.str) ++ [V.str p]))) l (((Pl.take (k + 1)).filter fun x => anc par dep v x).map V.str)) := fun b hb => by
        rw [filt_snoc hp]
        refine ⟨fun e => ?_, fun e => ?_⟩
        · rw [if_neg (by rw [hb, e]; exact Bool.false_ne_true), List.append_nil]; exact I
        · rw [if_pos (by rw [hb, e]), List.map_append]; exact I.put
      cases st with
      | none =>
        obtain ⟨e1, e2⟩ := hst
        refine ⟨_, rfl, _, rfl, ?_⟩
        refine ⟨_, rfl, _, rfl, rfl, _, rfl, ?_⟩
        exact ⟨_, _, rfl, (fin _ e1).1 rfl⟩
      | some x =>
        obtain ⟨e1, e2, e3⟩ := hst
        refine ⟨_, rfl, _, rfl, ?_⟩
        refine ⟨_, rfl, _, rfl, rfl, _, rfl, ?_⟩
        by_cases z : x = v
        · subst z
          rw [decide_eq_true rfl]
          refine ⟨_, rfl, _, rfl, rfl, _, rfl, ?_⟩
          rw [decide_eq_true rfl]
          refine iteT ⟨_, rfl, .inl ⟨rfl, _, SqL.of I.at_⟩, _, rfl, l, _, _, rfl, rfl, I.at_, sz9 (by rw [List.length_map]; exact Nat.le_trans filt_few (by have := hR.few; omega)), ?_⟩
          exact ⟨_, _, rfl, (fin _ (e2.trans (hR.rt.anc_self e1))).2 rfl⟩
        · rw [decide_eq_false (fun y => z (V.str.inj y))]
          refine iteT ?_
          have gD : DGet H3 d (kV (.inr x)) (some (parVal r par x)) := hk x e1 ▸ DGet.k (k := Sum.inr x) (I.same _ _ hd)
          refine ⟨fun σ' H' => ∃ st : Option Str, σ' = [some (.ref a), some (.str v), some (.ref d), some (.ref l), some (.str p), some (match st with | none => V.non | some x => .str x)] ∧ H' = H3 ∧ (match st with | none => anc par dep v p = false | some y => y ∈ Pl ∧ anc par dep v p = anc par dep v y ∧ dep y + 1 < m), fun σ' H' ⟨st, s1, s2, s3⟩ => ?_, ?_⟩
          · cases st with
            | none => exact ⟨0, by omega, none, s1, s2, s3, rfl⟩
            | some y => exact ⟨_, s3.2.2, some y, s1, s2, s3.1, s3.2.1, rfl⟩
          · refine ⟨_, rfl, _, rfl, d, _, rfl, gD, ?_⟩
            by_cases zr : x = r
            · refine ⟨none, ?_, rfl, ?_⟩
              · unfold parVal; rw [if_pos zr]; rfl
              · show anc par dep v p = false
                rw [e2]
                cases ha : anc par dep v x with
                | false => rfl
                | true =>
                  rcases (hR.rt.anc_iff e1).mp ha with y | ⟨y, _⟩
                  · exact absurd y.symm z
                  · exact absurd zr y
            · obtain ⟨u1, u2, _⟩ := hR.rt.up x e1 zr
              refine ⟨some (par x), ?_, rfl, u1, ?_, by omega⟩
              · unfold parVal; rw [if_neg zr]; rfl
              · rw [e2, Bool.eq_iff_iff, hR.rt.anc_iff e1]
                exact ⟨fun y => (y.resolve_left (fun t => z t.symm)).2, fun y => .inr ⟨zr, y⟩⟩
    · subst eσ
      rw [take_len] at I
      exact ⟨_, rfl, q l H2 (sn.trans I.same) (sn.free nl) I.at_⟩
end
end OH

namespace OH
open PySem PySem.Spec PyProof.Rows L2
/-- the places lower and the places below -/
def spUnder : Sp := fun vs H Q _ => ∃ (a : Addr) (P : List Str) (W : List (Str × Str × Int)) (r : Str) (par : Str → Str) (dep : Str → Nat) (len : Str → Int), vs = [.ref a] ∧ MapAt H a P W ∧ Rooted P W r par dep len ∧ P.Pairwise slt ∧
  ∀ t dl du H', Same H H' → H dl = none → H du = none → H' t = some (.tup [.ref dl, .ref du]) → StrsAt H' dl P (kidsOf P r par) → StrsAt H' du P (Ul P r par dep) → Q (.ref t) H'
structure UI (P : List Str) (r : Str) (par : Str → Str) (Hb H : Hp) (ld ud o : Addr) (kvs : List (Key × V)) (O : List Str) (n : Nat) : Prop where
  same : Same Hb H
  fl : Hb ld = none
  fu : Hb ud = none
  ne : ld ≠ ud
  hl : H ld = some (.dK kvs)
  hu : H ud = some (.dK [])
  ho : H o = some (.lst (O.map V.str))
  bf : Bf P r par O n
  low : ∀ i v, i < n → O[i]? = some v → ∃ l, valV kvs (.inr v) = some (.ref l) ∧ H l = some (.lst ((kidsOf P r par v).map V.str))
  kl : kvs.length ≤ n
theorem length_put_old {α : Type} [DecidableEq α] {kvs : List (α × V)} {k : α} {x y : V} (h : valV kvs k = some x) : (putK kvs k y).length = kvs.length := by
  unfold putK
  rw [if_pos (by rw [valV_any, h]; rfl), List.length_map]
section
variable {P : Program} {w : World} {K : PySem.W.Frag} {mg : Str → Option Value} {base : Heap}
theorem cal_Lunder {f : Addr} {fd : FuncData} (D : C8.Def K mg "_law_under" s_Lunder f fd) (b : L2.Binds K fd ["_law_here"] []) (T : Bt mg) (c_Lnear : C8.Cal P w K mg base 1 "_law_near" spNear []) : C8.Cal P w K mg base 2 "_law_under" spUnder [] := by
  refine C8.cal0 D b .nil sc_Lunder (fun vs H Q E h => ?_) (fun cdv A outer s H vs Q E hr h => ?_)
  · obtain ⟨a, Pl, W, r, par, dep, len, rfl, _⟩ := h
    rfl
  · obtain ⟨a, Pl, W, r, par, dep, len, rfl, hM, hR, hS, q⟩ := h
    have hu := hu_of hr
    have hu64 := hr.units
    refine ⟨_, (pss_cons (ps_set (i := 1) sc_Lunder.nd rfl (.inl v_Lunder_1) (C8.pe_c c_Lnear hr (by decide) g_Lunder__law_near (pa_cons (pv 0 rfl (.inl v_Lunder_0)) pa_nil)))
      (pss_cons (ps_set (i := 2) sc_Lunder.nd rfl (.inr v_Lunder_2) (pe_lst (pa_cons (pe_ix ix_tup (pe_ix ix_tup (pv 0 rfl (.inl v_Lunder_0)) pe_int (fun _ _ => rfl)) pe_int (fun _ _ => rfl)) pa_nil)))
      (pss_cons (ps_set (i := 3) sc_Lunder.nd rfl (.inl v_Lunder_3) pe_dnewK)
      (pss_cons (ps_set (i := 4) sc_Lunder.nd rfl (.inl v_Lunder_4) pe_dnewK)
      (pss_cons (ps_set (i := 5) sc_Lunder.nd rfl (.inl v_Lunder_5) pe_int)
      (pss_cons (ps_while PassesOwn.never (pt_cmpR op_lt (pv 5 rfl (.inl v_Lunder_5)) (pe_callB call_len_seq g_Lunder_len T.len_ (by decide +kernel) (pa_cons (pv 2 rfl (.inr (.inl v_Lunder_2))) pa_nil)) (nomark _))
        (pss_cons (ps_dput hu (pv 3 rfl (.inl v_Lunder_3)) (pe_ix ix_list (pv 2 rfl (.inr (.inl v_Lunder_2))) (pv 5 rfl (.inl v_Lunder_5)) (fun _ _ => rfl)) (pe_callB (cr_sortedD hu64) g_Lunder_sorted T.sorted_ (by decide +kernel) (pa_cons (pe_lc (own := [("_law_other", 8), ("_law_length", 9)]) rfl sc_Lunder.nd (pi_list (pe_dget hu (pv 1 rfl (.inl v_Lunder_1)) (pe_ix ix_list (pv 2 rfl (.inr (.inl v_Lunder_2))) (pv 5 rfl (.inl v_Lunder_5)) (fun _ _ => rfl)) (fun _ _ => rfl))) (blkOk_by (own := [("_law_other", 8), ("_law_length", 9)]) (N := N_Lunder) (sc := sc s_Lunder) (by decide +kernel)) (fun _ _ _ _ _ => ((pg_tupK (K := K) (n := 2) rfl rfl (pgs_cons (pg_name (i := 8) sc_Lunder.nd rfl (.inl rfl) (.inr rfl)) (pgs_cons (pg_name (i := 9) sc_Lunder.nd rfl (.inl rfl) (.inr rfl)) pgs_nil))))) (fun _ _ _ _ _ => pts_one (pt_cmpR (op_notInK (K := K) rfl) (pv 8) (pv 2) (by rfl))) (fun _ _ _ _ _ => (pv 8))) pa_nil)) rfl)
        (pss_cons (ps_set (i := 2) sc_Lunder.nd rfl (.inr v_Lunder_2) (pe_op op_cat (pv 2 rfl (.inr (.inl v_Lunder_2))) (pe_dget hu (pv 3 rfl (.inl v_Lunder_3)) (pe_ix ix_list (pv 2 rfl (.inr (.inl v_Lunder_2))) (pv 5 rfl (.inl v_Lunder_5)) (fun _ _ => rfl)) (fun _ _ => rfl))))
        (pss_one (ps_set (i := 5) sc_Lunder.nd rfl (.inl v_Lunder_5) (pe_op op_add (pv 5 rfl (.inl v_Lunder_5)) pe_int))))))
      (pss_cons (ps_for PassesOwn.never rfl (pi_list (pe_revL (pv 2 rfl (.inr (.inl v_Lunder_2))))) (pg_name (i := 6) sc_Lunder.nd rfl (.inl v_Lunder_6))
        (pss_cons (ps_dput hu (pv 4 rfl (.inl v_Lunder_4)) (pv 6 rfl (.inl v_Lunder_6)) (pe_lst (pa_cons (pv 6 rfl (.inl v_Lunder_6)) pa_nil)) rfl)
        (pss_one (ps_for PassesOwn.never rfl (pi_list (pe_dget hu (pv 3 rfl (.inl v_Lunder_3)) (pv 6 rfl (.inl v_Lunder_6)) (fun _ _ => rfl))) (pg_name (i := 7) sc_Lunder.nd rfl (.inl v_Lunder_7))
          (pss_one (ps_dput hu (pv 4 rfl (.inl v_Lunder_4)) (pv 6 rfl (.inl v_Lunder_6)) (pe_op op_cat (pe_dget hu (pv 4 rfl (.inl v_Lunder_4)) (pv 6 rfl (.inl v_Lunder_6)) (fun _ _ => rfl)) (pe_dget hu (pv 4 rfl (.inl v_Lunder_4)) (pv 7 rfl (.inl v_Lunder_7)) (fun _ _ => rfl))) rfl))))))
      (pss_one (ps_ret (pe_tup (pa_cons (pv 3 rfl (.inl v_Lunder_3)) (pa_cons (pv 4 rfl (.inl v_Lunder_4)) pa_nil)))))))))))), ?_⟩
    obtain ⟨ap, aw, ws, h1, h2, h3, h4⟩ := hM.ex
    obtain ⟨tl, hP⟩ := hR.hd
    have hlen := hR.tree.len
    have hfew := hR.few
    refine ⟨_, rfl, a, Pl, W, rfl, hM, hR.tree.ends, hR.few, by omega, fun nd Hn sn fn hN => ?_⟩
    obtain ⟨nk, k1, k2⟩ := hN.ex
    have eP : (Pl.map V.str)[0]? = some (V.str r) := by rw [hP]; rfl
    refine ⟨_, rfl, _, _, _, _, rfl, rfl, SqT.of (sn _ _ h1), atI_nat (j := 0) rfl, _, _, _, _, rfl, rfl, SqT.of (sn _ _ h2), atI_nat (j := 0) eP, (by show 1 ≤ sizeLine; decide), fun o no => ?_⟩
    intro ld fl
    intro ud fu
    have lu : ld ≠ ud := fun z => by rw [← z, upd_same] at fu; cases fu
    have I0 : UI Pl r par Hn (upd (upd (upd Hn o (.lst [V.str r])) ld (.dK [])) ud (.dK [])) ld ud o [] [r] 0 := by
      have s1 : Same Hn (upd Hn o (.lst [V.str r])) := same_new no
      have s2 : Same (upd Hn o (.lst [V.str r])) (upd (upd Hn o (.lst [V.str r])) ld (.dK [])) := same_new fl
      have s3 := same_new (o := .dK []) fu
      exact ⟨(s1.trans s2).trans s3, s1.free fl, (s1.trans s2).free fu, lu, s3 _ _ upd_same, upd_same, s3 _ _ (s2 _ _ upd_same), .init hR.rt.root, fun i v h => absurd h (Nat.not_lt_zero _), Nat.le_refl _⟩
    generalize upd (upd (upd Hn o (.lst [V.str r])) ld (.dK [])) ud (.dK []) = H1 at I0 ⊢
    refine ⟨fun m σ H3 => ∃ (y6 y7 y8 y9 : Option V) (o : Addr) (kvs : List (Key × V)) (O : List Str) (n : Nat), σ = [some (.ref a), some (.ref nd), some (.ref o), some (.ref ld), some (.ref ud), some (.int (n : Int)), y6, y7, y8, y9] ∧ UI Pl r par Hn H3 ld ud o kvs O n ∧ m = Pl.length - n,
      ⟨_, _, _, _, _, _, _, _, 0, rfl, I0, rfl⟩, fun m σ H3 ⟨y6, y7, y8, y9, o, kvs, O, n, eσ, I, em⟩ => ?_⟩
    subst eσ
    have hbl := I.bf.few
    refine ⟨_, rfl, _, rfl, _, _, rfl, .inl (SqL.of I.ho), ?_⟩
    refine ⟨_, _, rfl, rfl, _, rfl, ?_⟩
    by_cases hlt : n < O.length
    · refine ifT (decide_eq_true (by rw [List.length_map]; omega)) ?_
      obtain ⟨v, hv⟩ : ∃ v, O[n]? = some v := ⟨_, List.getElem?_eq_getElem hlt⟩
      have hvP := I.bf.sub v (List.mem_of_getElem? hv)
      have eO : (O.map V.str)[n]? = some (V.str v) := by rw [List.getElem?_map, hv]; rfl
      obtain ⟨l, as, g3, g4n, g5n⟩ := k2 v hvP
      have gD : DGet H3 nd (kV (.inr v)) (some (.ref l)) := g3 ▸ DGet.k (k := Sum.inr v) (I.same _ _ k1)
      refine ⟨fun σ' H' => ∃ (y6 y7 y8 y9 : Option V) (o : Addr) (kvs : List (Key × V)) (O : List Str), σ' = [some (.ref a), some (.ref nd), some (.ref o), some (.ref ld), some (.ref ud), some (.int ((n + 1 : Nat) : Int)), y6, y7, y8, y9] ∧ UI Pl r par Hn H' ld ud o kvs O (n + 1),
        fun σ' H' ⟨z6, z7, z8, z9, o', kvs', O', e1, e2⟩ => ⟨Pl.length - (n + 1), by omega, _, _, _, _, _, _, _, n + 1, e1, e2, rfl⟩, ?_⟩
      refine ⟨_, rfl, _, rfl, _, rfl, _, _, _, _, rfl, rfl, SqL.of I.ho, atI_nat (j := n) eO, nd, _, rfl, gD, l, rfl, ⟨_, SqL.of (I.same _ _ g4n)⟩, fun D nD => ?_⟩
      refine lc_rowsL (rows := near W v) (as := as) (fun k H4 => LI H3 H4 D (((((near W v).take k).filter fun e => !decide (e.1 ∈ O)).map (·.1)).map V.str))
        (LI.nil nD) (fun k H4 I4 => ⟨I4.same _ _ (I.same _ _ g4n), g5n.tk (tk_same (I.same.trans I4.same))⟩) (fun k u lu H4 hu4 I4 => ?_) (fun H4 I4 => ?_)
      · refine ⟨rfl, _, rfl, _, rfl, o, _, rfl, .inl (SqL.of (I4.same _ _ I.ho)), rfl, flat_strs O, _, rfl, ?_⟩
        rw [inV_strs, filt_snoc hu4]
        have hnl := near_len W v
        by_cases z : u ∈ O
        · rw [decide_eq_true z]
          refine iteF ?_
          rw [if_neg (by simp), List.append_nil]
          exact I4
        · rw [decide_eq_false z]
          refine iteT ⟨_, rfl, _, I4.at_, sz9 (by rw [List.length_map, List.length_map]; exact Nat.le_trans filt_few (by omega)), ?_⟩
          rw [if_pos (show (!false) = true from rfl), List.map_append, List.map_append]
          exact I4.put
      · rw [take_len] at I4
        unfold tNil
        refine srt_strs (SqL.of I4.at_) fun ys p hp hw np => ?_
        have ey : ys = kidsOf Pl r par v := sorted_eq (hp.trans (I.bf.near hR.tree hR.rt hv)) hw (hS.filter _)
        subst ey
        have s5 := I4.same.trans (same_new (o := .lst ((kidsOf Pl r par v).map V.str)) np)
        have hp5 : upd H4 p (.lst ((kidsOf Pl r par v).map V.str)) p = some (.lst ((kidsOf Pl r par v).map V.str)) := upd_same
        have fp : H3 p = none := I4.same.free np
        generalize upd H4 p (.lst ((kidsOf Pl r par v).map V.str)) = H5 at s5 hp5 ⊢
        refine ⟨_, rfl, _, rfl, _, rfl, _, _, _, _, rfl, rfl, SqL.of (s5 _ _ I.ho), atI_nat (j := n) eO, ld, _, rfl, DPut.k (k := Sum.inr v) (s5 _ _ I.hl) (sz9 (by have := I.kl; omega)), ?_⟩
        have olr : o ≠ ld := fun z => by have := I.ho; rw [z, I.hl] at this; cases this
        have pld : ld ≠ p := ne_of_none I.hl fp
        have plu : p ≠ ud := Ne.symm (ne_of_none I.hu fp)
        have hl6 : upd H5 ld (.dK (putK kvs (Sum.inr v) (.ref p))) ld = some (.dK (putK kvs (Sum.inr v) (.ref p))) := upd_same
        have s6 : Same Hn (upd H5 ld (.dK (putK kvs (Sum.inr v) (.ref p)))) := same_mut (I.same.trans s5) I.fl
        have e6 : Ext ld H5 (upd H5 ld (.dK (putK kvs (Sum.inr v) (.ref p)))) := Ext.upd
        generalize upd H5 ld (.dK (putK kvs (Sum.inr v) (.ref p))) = H6 at hl6 s6 e6 ⊢
        have ho6 := e6 _ _ (s5 _ _ I.ho) olr
        have hp6 := e6 _ _ hp5 (Ne.symm pld)
        have gL : DGet H6 ld (kV (.inr v)) (some (.ref p)) := (show valV (putK kvs (Sum.inr v) (V.ref p)) (Sum.inr v) = some (V.ref p) by rw [valV_put, if_pos rfl]) ▸ DGet.k (k := Sum.inr v) hl6
        have hkl : (kidsOf Pl r par v).length ≤ Pl.length := List.length_filter_le _ _
        refine ⟨_, rfl, _, rfl, _, rfl, _, rfl, _, _, _, _, rfl, rfl, SqL.of ho6, atI_nat (j := n) eO, ld, .ref p, rfl, gL, o, p, _, _, rfl, rfl, ho6, hp6, sz9' (by rw [List.length_map, List.length_map]; omega), fun o2 no2 => ?_⟩
        refine ⟨_, rfl, _, _, rfl, rfl, ?_⟩
        have s7 := same_new (o := .lst (O.map V.str ++ (kidsOf Pl r par v).map V.str)) no2
        have ho7 : upd H6 o2 (.lst (O.map V.str ++ (kidsOf Pl r par v).map V.str)) o2 = some (.lst ((O ++ kidsOf Pl r par v).map V.str)) := by rw [upd_same, List.map_append]
        generalize upd H6 o2 (.lst (O.map V.str ++ (kidsOf Pl r par v).map V.str)) = H7 at s7 ho7 ⊢
        refine ⟨_, _, _, _, o2, putK kvs (Sum.inr v) (.ref p), O ++ kidsOf Pl r par v, rfl, s6.trans s7, I.fl, I.fu, I.ne, s7 _ _ hl6, s7 _ _ (e6 _ _ (s5 _ _ I.hu) (Ne.symm I.ne)), ho7, I.bf.step hR.tree.nodup hv, fun i u hi hu7 => ?_, Nat.le_trans (length_putK _ _ _) (Nat.succ_le_succ I.kl)⟩
        rw [List.getElem?_append_left (by omega)] at hu7
        by_cases ein : i = n
        · rw [ein, hv] at hu7
          rw [← Option.some.inj hu7]
          exact ⟨p, by rw [valV_put, if_pos rfl], s7 _ _ hp6⟩
        · obtain ⟨l', b1, b2⟩ := I.low i u (by omega) hu7
          have hne : u ≠ v := fun z => ein (nd_ix' I.bf.nd (z ▸ hu7) hv)
          have l'ld : l' ≠ ld := fun z => by rw [z, I.hl] at b2; cases b2
          exact ⟨l', by rw [valV_put, if_neg (fun z => hne (Sum.inr.inj z))]; exact b1, s7 _ _ (e6 _ _ (s5 _ _ b2) l'ld)⟩
    · refine ifF (fun z => by have := of_decide_eq_true z; rw [List.length_map] at this; omega) ?_
      have en : n = O.length := Nat.le_antisymm I.bf.le (Nat.le_of_not_lt hlt)
      subst en
      have hall := I.bf.all hR.rt
      have hlow : ∀ v ∈ Pl, ∃ l, valV kvs (.inr v) = some (.ref l) ∧ H3 l = some (.lst ((kidsOf Pl r par v).map V.str)) := fun v hv => by
        obtain ⟨i, hi⟩ := List.mem_iff_getElem?.mp (hall v hv)
        exact I.low i v (List.getElem?_eq_some_iff.mp hi).1 hi
      refine ⟨_, rfl, _, _, rfl, SqL.of I.ho, fun rv nrv => ⟨_, rfl, ⟨_, SqL.of upd_same⟩, ?_⟩⟩
      rw [← List.map_reverse]
      have s4 : Same H3 (upd H3 rv (.lst (O.reverse.map V.str))) := same_new nrv
      have hrv : upd H3 rv (.lst (O.reverse.map V.str)) rv = some (.lst (O.reverse.map V.str)) := upd_same
      generalize upd H3 rv (.lst (O.reverse.map V.str)) = H4 at s4 hrv ⊢
      have hlow4 : ∀ v ∈ Pl, ∃ l, valV kvs (.inr v) = some (.ref l) ∧ H4 l = some (.lst ((kidsOf Pl r par v).map V.str)) := fun v hv => by
        obtain ⟨l, b1, b2⟩ := hlow v hv
        exact ⟨l, b1, s4 _ _ b2⟩
      have hl4 := s4 _ _ I.hl
      have hu4 := s4 _ _ I.hu
      have rvu : rv ≠ ud := fun z => by rw [z, hu4] at hrv; cases hrv
      have ndu : ud ≠ ld := Ne.symm I.ne
      -- the heap but for ud
      refine for_strsL (P := O.reverse) (fun k σ H5 => ∃ (y6 y7 y8 y9 : Option V) (us : List (Key × V)), σ = [some (.ref a), some (.ref nd), some (.ref o), some (.ref ld), some (.ref ud), some (.int (O.length : Int)), y6, y7, y8, y9] ∧ Ext ud H4 H5 ∧ H5 ud = some (.dK us) ∧ us.length ≤ k ∧ ∀ v ∈ O.reverse.take k, ∃ l, valV us (.inr v) = some (.ref l) ∧ H5 l = some (.lst ((Ul Pl r par dep v).map V.str)))
        ⟨_, _, _, _, [], rfl, .refl _ _, hu4, Nat.le_refl _, fun v hv => by simp at hv⟩ (fun k σ H5 ⟨_, _, _, _, _, _, e5, _⟩ => e5 _ _ hrv rvu) (fun k v σ H5 hv ⟨y6, y7, y8, y9, us, eσ, e5, u5, ul, hU⟩ => ?_) (fun σ H5 ⟨y6, y7, y8, y9, us, eσ, e5, u5, ul, hU⟩ => ?_)
      · subst eσ
        have hvO : v ∈ O := List.mem_reverse.mp (List.mem_of_getElem? hv)
        have hvP := I.bf.sub v hvO
        have hkl : k < O.reverse.length := (List.getElem?_eq_some_iff.mp hv).1
        rw [List.length_reverse] at hkl
        have vnk : ∀ u ∈ O.reverse.take k, u ≠ v := fun u hu z => by
          obtain ⟨i, hi⟩ := List.mem_iff_getElem?.mp hu
          have hik : i < k := by
            have := (List.getElem?_eq_some_iff.mp hi).1
            rw [List.length_take] at this
            omega
          rw [List.getElem?_take_of_lt hik, z] at hi
          have := nd_ix' (((List.reverse_perm O).nodup_iff.mpr I.bf.nd)) hi hv
          omega
        refine ⟨_, rfl, (by show 1 ≤ sizeLine; decide), fun nl fnl => ?_⟩
        have nlu : ud ≠ nl := ne_of_none u5 fnl
        refine ⟨_, rfl, _, rfl, ud, _, rfl, DPut.k (k := Sum.inr v) (by rw [upd_ne nlu]; exact u5) (sz9 (by omega)), ?_⟩
        have s6 : Ext ud H5 (upd (upd H5 nl (.lst [V.str v])) ud (.dK (putK us (Sum.inr v) (.ref nl)))) := (Ext.of (same_new fnl)).trans Ext.upd
        have hnl : upd (upd H5 nl (.lst [V.str v])) ud (.dK (putK us (Sum.inr v) (.ref nl))) nl = some (.lst [V.str v]) := by rw [upd_ne (Ne.symm nlu), upd_same]
        have hu6 : upd (upd H5 nl (.lst [V.str v])) ud (.dK (putK us (Sum.inr v) (.ref nl))) ud = some (.dK (putK us (Sum.inr v) (.ref nl))) := upd_same
        generalize upd (upd H5 nl (.lst [V.str v])) ud (.dK (putK us (Sum.inr v) (.ref nl))) = H6 at s6 hnl hu6 ⊢
        obtain ⟨lk, b1, b2⟩ := hlow4 v hvP
        have lku : lk ≠ ud := fun z => by rw [z, hu4] at b2; cases b2
        have b6 := (e5.trans s6) _ _ b2 lku
        have gL : DGet H6 ld (kV (.inr v)) (some (.ref lk)) := b1 ▸ DGet.k (k := Sum.inr v) ((e5.trans s6) _ _ hl4 I.ne)
        refine ⟨_, rfl, _, rfl, ld, .ref lk, rfl, gL, lk, rfl, ⟨_, SqL.of b6⟩, ?_⟩
        have eU := hR.rt.Ul_eq hvP
        have fU := hR.rt.Ul_few hR.tree.nodup hvP
        refine for_strsL (P := kidsOf Pl r par v) (fun j σ H7 => ∃ (y7 y8 y9 : Option V) (us' : List (Key × V)), σ = [some (.ref a), some (.ref nd), some (.ref o), some (.ref ld), some (.ref ud), some (.int (O.length : Int)), some (.str v), y7, y8, y9] ∧ Ext ud H4 H7 ∧ H7 ud = some (.dK us') ∧ us'.length ≤ k + 1 ∧ (∀ u ∈ O.reverse.take k, ∃ l, valV us' (.inr u) = some (.ref l) ∧ H7 l = some (.lst ((Ul Pl r par dep u).map V.str))) ∧ ∃ l, valV us' (.inr v) = some (.ref l) ∧ H7 l = some (.lst ((v :: ((kidsOf Pl r par v).take j).flatMap (Ul Pl r par dep)).map V.str)))
          ⟨_, _, _, putK us (Sum.inr v) (.ref nl), rfl, e5.trans s6, hu6, Nat.le_trans (length_putK _ _ _) (Nat.succ_le_succ ul), fun u hu => ?_, nl, by rw [valV_put, if_pos rfl], hnl⟩ (fun j σ H7 ⟨_, _, _, _, _, e7, _⟩ => e7 _ _ b2 lku) (fun j c σ H7 hc ⟨y7, y8, y9, us', eσ, e7, u7, ul7, hU7, lv, c1, c2⟩ => ?_) (fun σ H7 ⟨y7, y8, y9, us', eσ, e7, u7, ul7, hU7, lv, c1, c2⟩ => ?_)
        · obtain ⟨l, d1, d2⟩ := hU u hu
          exact ⟨l, by rw [valV_put, if_neg (fun z => vnk u hu (Sum.inr.inj z))]; exact d1, s6 _ _ d2 (fun z => by rw [z, u5] at d2; cases d2)⟩
        · subst eσ
          have hcm := List.mem_of_getElem? hc
          have hcP := (mem_kids.mp hcm).1
          obtain ⟨lc, d1, d2⟩ := hU7 c (I.bf.rev hv hcm (hall c hcP))
          have gV : DGet H7 ud (kV (.inr v)) (some (.ref lv)) := c1 ▸ DGet.k (k := Sum.inr v) u7
          have gC : DGet H7 ud (kV (.inr c)) (some (.ref lc)) := d1 ▸ DGet.k (k := Sum.inr c) u7
          have hfl := flat_take_len (F := Ul Pl r par dep) (kidsOf Pl r par v) j
          have fc := hR.rt.Ul_few hR.tree.nodup hcP
          rw [eU, List.length_cons] at fU
          refine ⟨_, rfl, _, rfl, ud, _, rfl, gV, _, rfl, _, rfl, ud, _, rfl, gC, lv, lc, _, _, rfl, rfl, c2, d2, sz9' (by rw [List.length_map, List.length_map, List.length_cons]; omega), fun p np => ?_⟩
          have pu : ud ≠ p := ne_of_none u7 np
          refine ⟨_, rfl, _, rfl, ud, _, rfl, DPut.k (k := Sum.inr v) (by rw [upd_ne pu]; exact u7) (sz9 (by omega)), ?_⟩
          refine ⟨_, _, _, putK us' (Sum.inr v) (.ref p), rfl, (e7.trans (Ext.of (same_new np))).trans Ext.upd, upd_same, ?_, fun u hu => ?_, p, by rw [valV_put, if_pos rfl], ?_⟩
          · exact Nat.le_trans (Nat.le_of_eq (length_put_old c1)) ul7
          · obtain ⟨l, d1, d2⟩ := hU7 u hu
            have lu : l ≠ ud := fun z => by rw [z, u7] at d2; cases d2
            exact ⟨l, by rw [valV_put, if_neg (fun z => vnk u hu (Sum.inr.inj z))]; exact d1, by rw [upd_ne lu, upd_ne (ne_of_none d2 np)]; exact d2⟩
          · rw [upd_ne (Ne.symm pu), upd_same, flat_snoc hc, ← List.cons_append, List.map_append]
        · subst eσ
          rw [take_len, ← eU] at c2
          refine ⟨_, _, _, _, us', rfl, e7, u7, ul7, fun u hu => ?_⟩
          rw [take_snoc hv] at hu
          rcases List.mem_append.mp hu with hu | hu
          · exact hU7 u hu
          · rw [List.mem_singleton.mp hu]
            exact ⟨lv, c1, c2⟩
      · subst eσ
        rw [take_len] at hU
        refine ⟨_, rfl, _, rfl, (by show 2 ≤ sizeLine; decide), fun t nt => ?_⟩
        have s6 := same_new (o := .tup [V.ref ld, V.ref ud]) nt
        have sAll : Same Hn H5 := Same.mut_of (I.same.trans s4) I.fu e5
        refine q t ld ud _ ((sn.trans sAll).trans s6) (sn.free I.fl) (sn.free I.fu) upd_same ⟨kvs, s6 _ _ (e5 _ _ hl4 I.ne), fun v hv => ?_⟩ ⟨us, s6 _ _ u5, fun v hv => ?_⟩
        · obtain ⟨l, d1, d2⟩ := hlow4 v hv
          exact ⟨l, d1, s6 _ _ (e5 _ _ d2 (fun z => by rw [z, hu4] at d2; cases d2))⟩
        · obtain ⟨l, d1, d2⟩ := hU v (List.mem_reverse.mpr (hall v hv))
          exact ⟨l, d1, s6 _ _ d2⟩
end
end OH

namespace OH
open PySem PySem.Spec PyProof.Rows L2
/-! ### attributes -/
abbrev RN : List Str := ["places", "sites", "numbers", "many", "mores", "known", "under", "lower", "far_of"]
theorem RN_nd : RN.Nodup := by decide +kernel
theorem lookup_zip : ∀ {ns : List Str} {vs : List V} {i : Nat} {x : Str}, ns.Nodup → ns[i]? = some x → ns.length = vs.length → (ns.zip vs).lookup x = vs[i]?
  | [], _, i, x, _, h, _ => by simp at h
  | n :: ns, [], i, x, _, _, hl => by simp at hl
  | n :: ns, v :: vs, 0, x, _, h, _ => by
    simp at h
    subst h
    simp [List.lookup]
  | n :: ns, v :: vs, i + 1, x, hn, h, hl => by
    obtain ⟨h1, h2⟩ := List.nodup_cons.mp hn
    have h' : ns[i]? = some x := by simpa using h
    have hne : (x == n) = false := beq_eq_false_iff_ne.mpr fun z => h1 (by rw [← z]; exact List.mem_of_getElem? h')
    have hl' : ns.length = vs.length := by simpa using hl
    have ih := lookup_zip h2 h' hl'
    rw [List.zip_cons_cons, List.lookup_cons, hne]
    simpa using ih
theorem lookup_zip_none : ∀ {ns : List Str} {vs : List V} {x : Str}, x ∉ ns → (ns.zip vs).lookup x = none
  | [], _, x, _ => by simp
  | n :: ns, [], x, _ => by simp
  | n :: ns, v :: vs, x, h => by
    have hne : (x == n) = false := beq_eq_false_iff_ne.mpr fun z => h (by rw [z]; exact List.mem_cons_self)
    rw [List.zip_cons_cons, List.lookup_cons, hne]
    exact lookup_zip_none fun z => h (List.mem_cons_of_mem _ z)
theorem putF_zip {f : Str} {y : V} : ∀ {ns : List Str} {vs : List V}, f ∉ ns → ns.length = vs.length → putF f y (ns.zip vs) = (ns ++ [f]).zip (vs ++ [y])
  | [], [], _, _ => rfl
  | [], v :: vs, _, h => by simp at h
  | n :: ns, [], _, h => by simp at h
  | n :: ns, v :: vs, h, hl => by
    have hne : ¬ n = f := fun z => h (by rw [z]; exact List.mem_cons_self)
    rw [List.zip_cons_cons]
    show (if n = f then (n, y) :: ns.zip vs else (n, v) :: putF f y (ns.zip vs)) = _
    rw [if_neg hne, putF_zip (fun z => h (List.mem_cons_of_mem _ z)) (by simpa using hl)]
    rfl
theorem putF_RN {f : Str} {y : V} {vs : List V} (i : Nat) (h : RN[i]? = some f) (hl : vs.length = i) : putF f y ((RN.take i).zip vs) = (RN.take (i + 1)).zip (vs ++ [y]) := by
  have hlt := (List.getElem?_eq_some_iff.mp h).1
  rw [take_snoc h]
  refine putF_zip (fun hm => ?_) (by rw [List.length_take, hl]; omega)
  obtain ⟨j, hj⟩ := List.mem_iff_getElem?.mp hm
  have hjl := (List.getElem?_eq_some_iff.mp hj).1
  rw [List.length_take] at hjl
  rw [List.getElem?_take_of_lt (by omega)] at hj
  have := nd_ix' RN_nd hj h
  omega
theorem look_RN {f : Str} {vs : List V} {v : V} (k j : Nat) (h : RN[j]? = some f) (hj : j < k) (hk : k ≤ 9) (hl : vs.length = k) (hv : vs[j]? = some v) : ((RN.take k).zip vs).lookup f = some v := by
  rw [lookup_zip (i := j) (RN_nd.sublist (List.take_sublist _ _)) (by rw [List.getElem?_take_of_lt hj]; exact h) (by rw [List.length_take, hl]; show min k 9 = k; omega)]
  exact hv
theorem look9 {f : Str} {vs : List V} {v : V} (j : Nat) (h : RN[j]? = some f) (hl : vs.length = 9) (hv : vs[j]? = some v) : (RN.zip vs).lookup f = some v := by
  rw [lookup_zip (i := j) RN_nd h (by rw [hl]; rfl)]
  exact hv
theorem zip_small {vs : List V} (ns : List Str) (h : ns.length ≤ 9) : (ns.zip vs).length < 1000 := by
  rw [List.length_zip]; omega
theorem Ext.ne {x b : Addr} {H H' : Hp} {o u : HO} (e : Ext x H H') (hx : H x = some o) (hb : H b = some u) (n : u ≠ o) : H' b = some u := e b u hb fun z => n (by rw [z, hx] at hb; exact (Option.some.inj hb).symm)
/-- a dict of dicts; the inner ones are such that F -/
structure FarO (H : Hp) (d : Addr) (S P : List Str) (far : Str → Str → Int) (F : Addr → Prop) : Prop where
  ex : ∃ kvs, H d = some (.dK kvs) ∧ ∀ s ∈ S, ∃ e, valV kvs (.inr s) = some (.ref e) ∧ FarsAt H e P (far s) ∧ F e
theorem FarO.same {H H' : Hp} {d : Addr} {S P : List Str} {far : Str → Str → Int} {F : Addr → Prop} (m : FarO H d S P far F) (s : Same H H') : FarO H' d S P far F := by
  obtain ⟨kvs, h1, h2⟩ := m.ex
  refine ⟨kvs, s _ _ h1, fun v hv => ?_⟩
  obtain ⟨l, a, b, c⟩ := h2 v hv
  exact ⟨l, a, b.same s, c⟩
theorem FarO.ext {H H' : Hp} {d x : Addr} {S P : List Str} {far : Str → Str → Int} {F : Addr → Prop} (m : FarO H d S P far F) (s : Ext x H H') (n : d ≠ x) (hF : ∀ e, F e → e ≠ x) : FarO H' d S P far F := by
  obtain ⟨kvs, h1, h2⟩ := m.ex
  refine ⟨kvs, s _ _ h1 n, fun v hv => ?_⟩
  obtain ⟨l, a, b, c⟩ := h2 v hv
  exact ⟨l, a, b.ext s (hF l c), c⟩
theorem FarO.extT {H H' : Hp} {d x : Addr} {S P : List Str} {far : Str → Str → Int} {F : Addr → Prop} {ks : List (List Key × V)} (m : FarO H d S P far F) (s : Ext x H H') (hx : H x = some (.dT ks)) : FarO H' d S P far F := by
  obtain ⟨kvs, h1, h2⟩ := m.ex
  refine ⟨kvs, s.ne hx h1 (fun z => by cases z), fun v hv => ?_⟩
  obtain ⟨l, a, ⟨ks', b1, b2⟩, c⟩ := h2 v hv
  exact ⟨l, a, ⟨ks', s.ne hx b1 (fun z => by cases z), b2⟩, c⟩
theorem StrsAt.ext {H H' : Hp} {d x : Addr} {P : List Str} {g : Str → List Str} {ks : List (Key × V)} (m : StrsAt H d P g) (s : Ext x H H') (n : d ≠ x) (hx : H x = some (.dK ks)) : StrsAt H' d P g := by
  obtain ⟨kvs, h1, h2⟩ := m.ex
  refine ⟨kvs, s _ _ h1 n, fun v hv => ?_⟩
  obtain ⟨l, a, b⟩ := h2 v hv
  exact ⟨l, a, s.ne hx b (fun z => by cases z)⟩
theorem StrsAt.extT {H H' : Hp} {d x : Addr} {P : List Str} {g : Str → List Str} {ks : List (List Key × V)} (m : StrsAt H d P g) (s : Ext x H H') (hx : H x = some (.dT ks)) : StrsAt H' d P g := by
  obtain ⟨kvs, h1, h2⟩ := m.ex
  refine ⟨kvs, s.ne hx h1 (fun z => by cases z), fun v hv => ?_⟩
  obtain ⟨l, a, b⟩ := h2 v hv
  exact ⟨l, a, s.ne hx b (fun z => by cases z)⟩

/-! ### a case with its tree -/
structure Dt where
  C : Cse
  r : Str
  par : Str → Str
  dep : Str → Nat
  len : Str → Int
  far : Str → Str → Int
abbrev Dt.S (D : Dt) : List Str := D.C.sites.map (·.1)
abbrev Dt.und (D : Dt) : Str → Str → Bool := anc D.par D.dep
abbrev Dt.kids (D : Dt) : Str → List Str := kidsOf D.C.P D.r D.par
structure Dt.Ok (D : Dt) : Prop where
  c : D.C.Ok
  ro : Rooted D.C.P D.C.W D.r D.par D.dep D.len
  fr : ∀ s ∈ D.S, ∃ par dep len, RT D.C.P D.C.W s par dep len ∧ D.far s = dist par dep len
theorem Dt.Ok.far_le {D : Dt} (o : D.Ok) {s v : Str} (hs : s ∈ D.S) (hv : v ∈ D.C.P) : 0 ≤ D.far s v ∧ D.far s v ≤ 9 * B30 := by
  obtain ⟨par, dep, len, t, e⟩ := o.fr s hs
  rw [e]
  obtain ⟨a, b, _⟩ := t.dist_bound _ v hv rfl
  refine ⟨a, Int.le_trans b ?_⟩
  have h1 := t.dlt v hv
  have h2 := o.c.few
  have h3 : ((dep v : Nat) : Int) ≤ 9 := by omega
  exact Int.mul_le_mul_of_nonneg_right h3 (by unfold B30; decide)
abbrev Dt.begun (D : Dt) (num : Str → Str → Nat → Option Int) (p : Str) (h : Nat) : Option Int := OH.begun D.C.sites D.und num p h
abbrev Dt.handed (D : Dt) (num : Str → Str → Nat → Option Int) (c s : Str) (m : Nat) : Option Int := OH.handed D.C.sites D.und num c s m
abbrev Dt.sums (D : Dt) (num : Str → Str → Nat → Option Int) (p s : Str) : Nat → Option Int := sumsF D.C.sites D.und num (D.kids p) s
abbrev Dt.due (D : Dt) (num : Str → Str → Nat → Option Int) (v s : Str) (m : Nat) : Option Int := OH.due D.C.sites D.und num D.kids (manyOf D.C.folk) D.far v s m
abbrev rowV (f : Nat → Option Int) (R : Nat) : List V := (List.range R).map fun i => oV (f i)

/-! ### a reckoner -/
structure RA where
  r : Addr
  dx : Addr
  ap : Addr
  asi : Addr
  ss : List Addr
  an : Addr
  dm : Addr
  kd : Addr
  ud : Addr
  ld : Addr
  fd : Addr
def RA.vals (A : RA) (R : Nat) : List V := [.ref A.ap, .ref A.asi, .ref A.an, .ref A.dm, .int (R : Int), .ref A.kd, .ref A.ud, .ref A.ld, .ref A.fd]
/-- rows kept for place and site -/
def RowsOk (H : Hp) (D : Dt) (num : Str → Str → Nat → Option Int) (l : Addr) (p s : Str) : Prop := ∃ (ls : List V) (a : Addr), H l = some (.lst (ls ++ [V.ref a])) ∧ H a = some (.lst (rowV (D.sums num p s) D.C.R))
def pairK (p s : Str) : List Key := [.inr p, .inr s]
def Dt.pairs (D : Dt) : List (List Key) := D.C.P.flatMap fun p => D.S.map fun s => pairK p s
structure KnownAt (H : Hp) (kd : Addr) (D : Dt) (num : Str → Str → Nat → Option Int) : Prop where
  ex : ∃ kvs, H kd = some (.dT kvs) ∧ (kvs.map (·.1)).Nodup ∧ (∀ k ∈ kvs.map (·.1), k ∈ D.pairs) ∧ ∀ p s x, valV kvs (pairK p s) = some x → ∃ l, x = .ref l ∧ RowsOk H D num l p s
structure Rk (C : Addr) (H : Hp) (A : RA) (D : Dt) (num : Str → Str → Nat → Option Int) : Prop where
  ins : H A.r = some (.ins C A.dx (RN.zip (A.vals D.C.R)))
  pl : H A.ap = some (.tup (D.C.P.map V.str))
  si : H A.asi = some (.tup (A.ss.map V.ref))
  st : Tups H A.ss (D.C.sites.map pairV)
  nu : NumsAt H A.an D.C.P D.S D.C.R num
  ne : A.an ≠ A.kd
  ma : ∃ kvs, H A.dm = some (.dK kvs) ∧ ∀ v ∈ D.C.P, valV kvs (.inr v) = (D.C.folk.lookup v).map V.int
  kn : KnownAt H A.kd D num
  un : StrsAt H A.ud D.C.P (subP D.C.P D.par D.dep)
  lo : StrsAt H A.ld D.C.P D.kids
  fa : FarO H A.fd D.S D.C.P D.far (fun _ => True)
theorem RowsOk.keep {H H' : Hp} {D : Dt} {num : Str → Str → Nat → Option Int} {l x : Addr} {p s : Str} {ks : List (List Key × V)} (h : RowsOk H D num l p s) (e : Ext x H H') (hx : H x = some (.dT ks)) : RowsOk H' D num l p s := by
  obtain ⟨ls, a, h1, h2⟩ := h
  exact ⟨ls, a, e.ne hx h1 (fun z => by cases z), e.ne hx h2 (fun z => by cases z)⟩
theorem Rk.ext {C : Addr} {H H' : Hp} {A : RA} {D : Dt} {num : Str → Str → Nat → Option Int} (k : Rk C H A D num) (e : Ext A.kd H H') (kn : KnownAt H' A.kd D num) : Rk C H' A D num := by
  obtain ⟨ks, hx, _⟩ := k.kn.ex
  refine ⟨e.ne hx k.ins (fun z => by cases z), e.ne hx k.pl (fun z => by cases z), e.ne hx k.si (fun z => by cases z), k.st.tk (tk_ext e hx nt_dT), k.nu.ext e k.ne, k.ne, ?_, kn, k.un.extT e hx, k.lo.extT e hx, k.fa.extT e hx⟩
  obtain ⟨kvs, h1, h2⟩ := k.ma
  exact ⟨kvs, e.ne hx h1 (fun z => by cases z), h2⟩
theorem KnownAt.same {H H' : Hp} {kd : Addr} {D : Dt} {num : Str → Str → Nat → Option Int} (k : KnownAt H kd D num) (e : Same H H') : KnownAt H' kd D num := by
  obtain ⟨kvs, h1, h2, h3, h4⟩ := k.ex
  refine ⟨kvs, e _ _ h1, h2, h3, fun p s x hx => ?_⟩
  obtain ⟨l, a, b⟩ := h4 p s x hx
  obtain ⟨ls, c, d1, d2⟩ := b
  exact ⟨l, a, ls, c, e _ _ d1, e _ _ d2⟩
theorem Rk.same {C : Addr} {H H' : Hp} {A : RA} {D : Dt} {num : Str → Str → Nat → Option Int} (k : Rk C H A D num) (e : Same H H') : Rk C H' A D num := k.ext (.of e) (k.kn.same e)
theorem RA.look {A : RA} {R : Nat} {f : Str} {v : V} (j : Nat) (h : RN[j]? = some f) (hv : (A.vals R)[j]? = some v) : (RN.zip (A.vals R)).lookup f = some v := look9 j h rfl hv
theorem RA.nolook {A : RA} {R : Nat} {f : Str} (h : f ∉ RN) : (RN.zip (A.vals R)).lookup f = none := lookup_zip_none h
structure Rc (K : PySem.W.Frag) (C : Addr) : Prop where
  cl : Cls K C
  na : ∀ f ∈ RN, NoAttr K C f
theorem Rc.at {K : PySem.W.Frag} {C : Addr} (c : Rc K C) {f : Str} (j : Nat) (h : RN[j]? = some f) : NoAttr K C f := c.na f (List.mem_of_getElem? h)
theorem mem_subP {P : List Str} {par : Str → Str} {dep : Str → Nat} {v x : Str} (hx : x ∈ P) : decide (x ∈ subP P par dep v) = anc par dep v x := by
  unfold subP
  rw [Bool.eq_iff_iff, decide_eq_true_iff, List.mem_filter]
  exact ⟨fun h => h.2, fun h => ⟨hx, h⟩⟩
theorem mem_UlB {P : List Str} {W : List (Str × Str × Int)} {r : Str} {par : Str → Str} {dep : Str → Nat} {len : Str → Int} (t : RT P W r par dep len) {v x : Str} (hv : v ∈ P) (hx : x ∈ P) : decide (x ∈ Ul P r par dep v) = anc par dep v x := by
  rw [Bool.eq_iff_iff, decide_eq_true_iff, t.mem_Ul _ v hv (Nat.le_refl _)]
  exact ⟨fun h => h.2, fun h => ⟨hx, h⟩⟩
theorem flat_few {α β : Type} {l : List α} {F : α → List β} {n : Nat} (h : ∀ x, (F x).length = n) : (l.flatMap F).length = l.length * n := by
  induction l with
  | nil => simp
  | cons a l ih => rw [List.flatMap_cons, List.length_append, ih, h, List.length_cons, Nat.succ_mul]; omega
theorem Dt.pairs_len {D : Dt} (o : D.Ok) : D.pairs.length ≤ 81 := by
  unfold Dt.pairs
  rw [flat_few (n := D.S.length) fun x => List.length_map _, List.length_map]
  have h1 := o.c.few
  have h2 := o.c.s1.2
  exact Nat.mul_le_mul h1 h2
theorem mem_pairs {D : Dt} {p s : Str} (hp : p ∈ D.C.P) (hs : s ∈ D.S) : pairK p s ∈ D.pairs := List.mem_flatMap.mpr ⟨p, hp, List.mem_map.mpr ⟨s, hs, rfl⟩⟩
theorem pairK_inj {p s p' s' : Str} (h : pairK p s = pairK p' s') : p = p' ∧ s = s' := by
  unfold pairK at h
  injection h with h1 h2
  injection h2 with h2 h3
  exact ⟨Sum.inr.inj h1, Sum.inr.inj h2⟩
theorem valV_mergeK : ∀ {kvs : List (Key × V)} {acc : List (Key × V)} {k : Key}, (kvs.map (·.1)).Nodup → valV (mergeK acc kvs) k = match valV kvs k with | some x => some x | none => valV acc k
  | [], acc, k, _ => rfl
  | p :: r, acc, k, h => by
    obtain ⟨h1, h2⟩ := List.nodup_cons.mp h
    show valV (mergeK (putK acc p.1 p.2) r) k = _
    rw [valV_mergeK h2]
    by_cases q : p.1 = k
    · have e : valV r k = none := by
        cases e : valV r k with
        | none => rfl
        | some x =>
          have := valV_any k r
          rw [e] at this
          obtain ⟨y, hy, hk⟩ := List.any_eq_true.mp (this.trans rfl)
          exact absurd (List.mem_map.mpr ⟨y, hy, (of_decide_eq_true hk).trans q.symm⟩) h1
      rw [e, valV_pos q]
      show valV (putK acc p.1 p.2) k = some p.2
      rw [valV_put, if_pos q.symm]
    · rw [valV_neg q]
      cases valV r k with
      | some x => rfl
      | none =>
        show valV (putK acc p.1 p.2) k = valV acc k
        rw [valV_put, if_neg (fun z => q z.symm)]
theorem valV_rows (v : Str) : ∀ rows : List (Str × Int), valV (rows.map fun e => ((Sum.inr e.1 : Key), V.int e.2)) (.inr v) = (rows.lookup v).map V.int
  | [] => rfl
  | e :: rows => by
    rw [List.map_cons, List.lookup_cons]
    by_cases q : v = e.1
    · rw [valV_pos (by rw [q]), beq_iff_eq.mpr q]; rfl
    · rw [valV_neg (fun z => q (Sum.inr.inj z).symm), beq_eq_false_iff_ne.mpr q]
      exact valV_rows v rows
theorem keys_rows (rows : List (Str × Int)) : ((rows.map fun e => ((Sum.inr e.1 : Key), V.int e.2)).map (·.1)).Nodup ↔ (rows.map (·.1)).Nodup := by
  have e : ((rows.map fun e => ((Sum.inr e.1 : Key), V.int e.2)).map (·.1)) = (rows.map (·.1)).map (fun v => (Sum.inr v : Key)) := by rw [List.map_map, List.map_map]; rfl
  rw [e]
  constructor
  · intro h; exact (List.pairwise_map.mp h).imp fun {a b} n z => n (by rw [z])
  · intro h; exact List.pairwise_map.mpr (h.imp fun {a b} n z => n (Sum.inr.inj z))
/-- dict(list(rows)): each row's number -/
theorem dict_rows {rows : List (Str × Int)} (h : (rows.map (·.1)).Nodup) (v : Str) : valV (mergeK [] (rows.map fun e => ((Sum.inr e.1 : Key), V.int e.2))) (.inr v) = (rows.lookup v).map V.int := by
  rw [valV_mergeK ((keys_rows rows).mpr h), valV_rows]
  cases rows.lookup v <;> rfl
theorem paired_rows {K : PySem.W.Frag} {H : Hp} : ∀ {as : List Addr} {rows : List (Str × Int)}, Tups H as (rows.map pairV) → Paired (fun p (kv : Key × V) => SqT K H p [kV kv.1, kv.2]) as (rows.map fun e => ((Sum.inr e.1 : Key), V.int e.2))
  | _, [], t => by cases t; exact .nil
  | _, e :: rows, t => by
    rw [List.map_cons] at t
    cases t with
    | cons h t => exact .cons (SqT.of h) (paired_rows t)
end OH

namespace OH
open PySem PySem.Spec PyProof.Rows L2
theorem NumsAt.get {H : Hp} {d t : Addr} {Pd S : List Str} {R : Nat} {num : Str → Str → Nat → Option Int} {p s : Str} {m : Nat} (n : NumsAt H d Pd S R num) (hp : p ∈ Pd) (hs : s ∈ S) (hm : m < R) (ht : H t = some (.tup (keyV (p, s, m)))) : DGet H d (.ref t) (some (oV (num p s m))) := by
  obtain ⟨kvs, h1, h2⟩ := n.ex
  exact .inr ⟨kvs, keyK (p, s, m), t, .inl h1, rfl, ht, (h2 p hp s hs m hm).symm⟩
def spRbegun (C : Addr) : Sp := fun vs H Q _ => ∃ (A : RA) (D : Dt) (num : Str → Str → Nat → Option Int) (p : Str) (h : Nat), vs = [.ref A.r, .str p, .int (h : Int)] ∧ Rk C H A D num ∧ D.Ok ∧ p ∈ D.C.P ∧ h ≤ D.C.R ∧ ∀ H', Same H H' → Q (oV (D.begun num p h)) H'
def spRwith (C : Addr) : Sp := fun vs H Q _ => ∃ (A : RA) (D : Dt) (num : Str → Str → Nat → Option Int) (l : Addr) (f : Nat → Option Int) (c s : Str), vs = [.ref A.r, .ref l, .str c, .str s] ∧ Rk C H A D num ∧ D.Ok ∧ H l = some (.lst (rowV f D.C.R)) ∧ c ∈ D.C.P ∧ s ∈ D.S ∧ ∀ H' n, Same H H' → H n = none → H' n = some (.lst (rowV (withChild D.C.sites D.und num s f c) D.C.R)) → Q (.ref n) H'
def spRown (C : Addr) : Sp := fun vs H Q _ => ∃ (A : RA) (D : Dt) (num : Str → Str → Nat → Option Int) (p s : Str), vs = [.ref A.r, .str p, .str s] ∧ Rk C H A D num ∧ D.Ok ∧ p ∈ D.C.P ∧ s ∈ D.S ∧ Q (.int (manyOf D.C.folk p * D.far s p)) H
def spRroot (C : Addr) : Sp := fun vs H Q _ => ∃ (A : RA) (D : Dt) (num : Str → Str → Nat → Option Int), vs = [.ref A.r] ∧ Rk C H A D num ∧ D.Ok ∧ Q (.str D.r) H
def spRlow (C : Addr) : Sp := fun vs H Q _ => ∃ (A : RA) (D : Dt) (num : Str → Str → Nat → Option Int), vs = [.ref A.r, .int (D.C.R : Int)] ∧ Rk C H A D num ∧ D.Ok ∧ ∀ H', Same H H' → Q (oV (lowest D.C.sites D.und num D.r D.C.R)) H'
theorem rowV_at {f : Nat → Option Int} {R i : Nat} (h : i < R) : (rowV f R)[i]? = some (oV (f i)) := by
  rw [List.getElem?_map, List.getElem?_range h]; rfl
theorem rowV_len (f : Nat → Option Int) (R : Nat) : (rowV f R).length = R := by rw [List.length_map, List.length_range]
theorem rowV_snoc (f : Nat → Option Int) (R : Nat) : rowV f (R + 1) = rowV f R ++ [oV (f R)] := by
  unfold rowV
  rw [List.range_succ, List.map_append]; rfl
theorem mk_wide {i j : Int} (h : 0 ≤ i ∧ i ≤ B30) (k : 0 ≤ j ∧ j ≤ 9 * B30) : CMulW i j := wide_mul (a := 100) (b := 110) (wide_le h.1 h.2 (by unfold B30; decide)) (wide_le k.1 k.2 (by unfold B30; decide)) (by decide) (by decide) (by decide)
theorem many_le {D : Dt} (o : D.Ok) (p : Str) : 0 ≤ manyOf D.C.folk p ∧ manyOf D.C.folk p ≤ B30 := by
  unfold manyOf
  by_cases z : p ∈ D.C.folk.map (·.1)
  · obtain ⟨e, he, rfl⟩ := List.mem_map.mp z
    rw [lookup_mem (m := e.2) o.c.fN he]
    have := o.c.fP e he
    exact ⟨Int.le_trans (by decide) this.2.1, this.2.2⟩
  · rw [lookup_not z]
    exact ⟨Int.le_refl _, by unfold B30; decide⟩
def spRhanded (C : Addr) : Sp := fun vs H Q _ => ∃ (A : RA) (D : Dt) (num : Str → Str → Nat → Option Int) (c s : Str) (m : Nat), vs = [.ref A.r, .str c, .str s, .int (m : Int)] ∧ Rk C H A D num ∧ D.Ok ∧ c ∈ D.C.P ∧ s ∈ D.S ∧ m < D.C.R ∧ ∀ H', Same H H' → Q (oV (D.handed num c s m)) H'
section
variable {P : Program} {w : World} {K : PySem.W.Frag} {mg : Str → Option Value} {base : Heap}
theorem met_begun {f C : Addr} {fd : FuncData} (me : Meth K C "begun" f) (F : C8.Fun K "begun" "Reckoner.begun" s_Rbegun f fd) (b : L2.Binds K fd ["self", "place", "houses"] []) (T : Bt mg) (Tc : Rc K C) (c_lesser : C8.Cal P w K mg base 1 "lesser" spLess []) (c_plus : C8.Cal P w K mg base 1 "plus" spPlus []) : C8.Met P w K mg base 2 C "begun" (spRbegun C) [] := by
  refine C8.met0 Tc.cl me F b sc_Rbegun (fun vs H Q E h => ?_) (fun cdv A outer s H vs Q E hr h => ?_)
  · obtain ⟨A, D, num, p, h, rfl, _⟩ := h
    rfl
  · obtain ⟨A, D, num, p, h, rfl, hk, ho, hp, hh, q⟩ := h
    have hu := hu_of hr
    have hu64 := hr.units
    refine ⟨_, (pss_cons (ps_set (i := 3) sc_Rbegun.nd rfl (.inl v_Rbegun_3) pe_non)
      (pss_cons (ps_if (pt_cmpR op_gt (pv 2 rfl (.inl v_Rbegun_2)) pe_int (nomark _)) (pss_one (ps_for PassesOwn.never rfl (pi_tup (pe_fld (pv 0 rfl (.inl v_Rbegun_0)) rfl)) (pg_tup rfl (pgs_cons (pg_name (i := 4) sc_Rbegun.nd rfl (.inl v_Rbegun_4)) (pgs_cons (pg_name (i := 5) sc_Rbegun.nd rfl (.inl v_Rbegun_5)) pgs_nil)))
          (pss_one (ps_if (pt_cmpR op_in_seq (pv 4 rfl (.inl v_Rbegun_4)) (pe_dget hu (pe_fld (pv 0 rfl (.inl v_Rbegun_0)) rfl) (pv 1 rfl (.inl v_Rbegun_1)) (fun _ _ => rfl)) (by rfl)) (pss_one (ps_set (i := 3) sc_Rbegun.nd rfl (.inl v_Rbegun_3) (C8.pe_c c_lesser hr (by decide) g_Rbegun_lesser (pa_cons (pv 3 rfl (.inl v_Rbegun_3)) (pa_cons (C8.pe_c c_plus hr (by decide) g_Rbegun_plus (pa_cons (pv 5 rfl (.inl v_Rbegun_5)) (pa_cons (pe_dget hu (pe_fld (pv 0 rfl (.inl v_Rbegun_0)) rfl) (pe_tup (pa_cons (pv 1 rfl (.inl v_Rbegun_1)) (pa_cons (pv 4 rfl (.inl v_Rbegun_4)) (pa_cons (pe_op op_sub (pv 2 rfl (.inl v_Rbegun_2)) pe_int) pa_nil)))) (fun _ _ => rfl)) pa_nil))) pa_nil))))) pss_nil)))) pss_nil)
      (pss_one (ps_ret (pv 3 rfl (.inl v_Rbegun_3)))))), ?_⟩
    refine ⟨_, rfl, _, _, rfl, rfl, _, rfl, ?_⟩
    cases h with
    | zero =>
      refine ifF (fun z => by have := of_decide_eq_true z; omega) ?_
      exact ⟨_, rfl, q H (.refl _)⟩
    | succ h =>
      refine ifT (decide_eq_true (by omega)) ?_
      refine ⟨_, rfl, A.r, C, A.dx, _, _, rfl, hk.ins, Tc.cl, Tc.at 1 rfl, RA.look 1 rfl rfl, A.asi, rfl, ⟨_, SqT.of hk.si⟩, ?_⟩
      refine for_rows (rows := D.C.sites) (as := A.ss) (fun k σ H2 => ∃ (y4 y5 : Option V), σ = [some (.ref A.r), some (.str p), some (.int ((h + 1 : Nat) : Int)), some (oV ((D.C.sites.take k).foldl (begunStep D.und num p (h + 1)) none)), y4, y5] ∧ Same H H2)
        ⟨_, _, rfl, .refl _⟩ (fun k σ H2 ⟨_, _, _, s2⟩ => ⟨s2 _ _ hk.si, hk.st.tk (tk_same s2)⟩) (fun k s0 c σ H2 hs ⟨y4, y5, eσ, s2⟩ => ?_) (fun σ H2 ⟨y4, y5, eσ, s2⟩ => ?_)
      · subst eσ
        have hk2 := hk.same s2
        have hsS : s0 ∈ D.S := List.mem_map.mpr ⟨_, List.mem_of_getElem? hs, rfl⟩
        have hsP : s0 ∈ D.C.P := (ho.c.sP _ (List.mem_of_getElem? hs)).1
        obtain ⟨us, u1, u2⟩ := hk2.un.ex
        obtain ⟨l, u3, u4⟩ := u2 p hp
        have gD : DGet H2 A.ud (kV (.inr p)) (some (.ref l)) := u3 ▸ DGet.k (k := Sum.inr p) u1
        refine ⟨_, rfl, _, rfl, A.r, C, A.dx, _, _, rfl, hk2.ins, Tc.cl, Tc.at 6 rfl, RA.look 6 rfl rfl, _, rfl, A.ud, _, rfl, gD, l, _, rfl, .inl (SqL.of u4), rfl, flat_strs _, _, rfl, ?_⟩
        rw [inV_strs, mem_subP hsP]
        have ef : (D.C.sites.take (k + 1)).foldl (begunStep D.und num p (h + 1)) none = begunStep D.und num p (h + 1) ((D.C.sites.take k).foldl (begunStep D.und num p (h + 1)) none) (s0, c) := by
          rw [take_snoc hs, List.foldl_append]; rfl
        rw [ef]
        unfold begunStep
        by_cases z : D.und p s0 = true
        · refine ifT z ?_
          rw [if_pos z]
          refine ⟨_, rfl, _, rfl, _, rfl, A.r, C, A.dx, _, _, rfl, hk2.ins, Tc.cl, Tc.at 2 rfl, RA.look 2 rfl rfl, _, rfl, _, rfl, _, rfl, _, _, rfl, rfl, (by show 3 ≤ sizeLine; decide), fun t nt => ?_⟩
          have s3 := same_new (o := .tup [V.str p, V.str s0, V.int (((h + 1 : Nat) : Int) - 1)]) nt
          have ht : upd H2 t (.tup [V.str p, V.str s0, V.int (((h + 1 : Nat) : Int) - 1)]) t = some (.tup (keyV (p, s0, h))) := by
            rw [upd_same]
            have : ((h + 1 : Nat) : Int) - 1 = (h : Int) := by omega
            rw [this]
            rfl
          generalize upd H2 t (.tup [V.str p, V.str s0, V.int (((h + 1 : Nat) : Int) - 1)]) = H3 at s3 ht ⊢
          exact ⟨A.an, _, rfl, (hk2.nu.same s3).get hp hsS (by omega) ht, some c, num p s0 h, rfl, _, _, rfl, _, _, rfl, s2.trans s3⟩
        · refine ifF z ?_
          rw [if_neg z]
          exact ⟨_, _, rfl, s2⟩
      · subst eσ
        rw [take_len]
        exact ⟨_, rfl, q H2 s2⟩
theorem met_handed {f C : Addr} {fd : FuncData} (me : Meth K C "handed" f) (F : C8.Fun K "handed" "Reckoner.handed" s_Rhanded f fd) (b : L2.Binds K fd ["self", "child", "site", "more"] []) (T : Bt mg) (Tc : Rc K C) (c_lesser : C8.Cal P w K mg base 1 "lesser" spLess []) (m_begun : C8.Met P w K mg base 2 C "begun" (spRbegun C) []) : C8.Met P w K mg base 3 C "handed" (spRhanded C) [] := by
  refine C8.met0 Tc.cl me F b sc_Rhanded (fun vs H Q E h => ?_) (fun cdv A outer s H vs Q E hr h => ?_)
  · obtain ⟨A, D, num, c, s0, m, rfl, _⟩ := h
    rfl
  · obtain ⟨A, D, num, c, s0, m, rfl, hk, ho, hc, hs0, hm, q⟩ := h
    have hu := hu_of hr
    have hu64 := hr.units
    refine ⟨_, (pss_cons (ps_set (i := 4) sc_Rhanded.nd rfl (.inl v_Rhanded_4) (pe_dget hu (pe_fld (pv 0 rfl (.inl v_Rhanded_0)) rfl) (pe_tup (pa_cons (pv 1 rfl (.inl v_Rhanded_1)) (pa_cons (pv 2 rfl (.inl v_Rhanded_2)) (pa_cons (pv 3 rfl (.inl v_Rhanded_3)) pa_nil)))) (fun _ _ => rfl)))
      (pss_cons (ps_if (pt_cmpR op_notIn_seq (pv 2 rfl (.inl v_Rhanded_2)) (pe_dget hu (pe_fld (pv 0 rfl (.inl v_Rhanded_0)) rfl) (pv 1 rfl (.inl v_Rhanded_1)) (fun _ _ => rfl)) (by rfl)) (pss_one (ps_set (i := 4) sc_Rhanded.nd rfl (.inl v_Rhanded_4) (C8.pe_c c_lesser hr (by decide) g_Rhanded_lesser (pa_cons (pv 4 rfl (.inl v_Rhanded_4)) (pa_cons (C8.pe_mt m_begun hr (by decide) (pv 0 rfl (.inl v_Rhanded_0)) (pa_cons (pv 1 rfl (.inl v_Rhanded_1)) (pa_cons (pv 3 rfl (.inl v_Rhanded_3)) pa_nil))) pa_nil))))) pss_nil)
      (pss_one (ps_ret (pv 4 rfl (.inl v_Rhanded_4)))))), ?_⟩
    have hsP : s0 ∈ D.C.P := by
      obtain ⟨e, he, rfl⟩ := List.mem_map.mp hs0
      exact (ho.c.sP e he).1
    refine ⟨_, rfl, A.r, C, A.dx, _, _, rfl, hk.ins, Tc.cl, Tc.at 2 rfl, RA.look 2 rfl rfl, _, rfl, _, rfl, _, rfl, (by show 3 ≤ sizeLine; decide), fun t nt => ?_⟩
    have s3 := same_new (o := .tup [V.str c, V.str s0, V.int (m : Int)]) nt
    have ht : upd H t (.tup [V.str c, V.str s0, V.int (m : Int)]) t = some (.tup (keyV (c, s0, m))) := upd_same
    generalize upd H t (.tup [V.str c, V.str s0, V.int (m : Int)]) = H3 at s3 ht ⊢
    refine ⟨A.an, _, rfl, (hk.nu.same s3).get hc hs0 hm ht, ?_⟩
    have hk2 := hk.same s3
    obtain ⟨us, u1, u2⟩ := hk2.un.ex
    obtain ⟨l, u3, u4⟩ := u2 c hc
    have gD : DGet H3 A.ud (kV (.inr c)) (some (.ref l)) := u3 ▸ DGet.k (k := Sum.inr c) u1
    refine ⟨_, rfl, _, rfl, A.r, C, A.dx, _, _, rfl, hk2.ins, Tc.cl, Tc.at 6 rfl, RA.look 6 rfl rfl, _, rfl, A.ud, _, rfl, gD, l, _, rfl, .inl (SqL.of u4), rfl, flat_strs _, _, rfl, ?_⟩
    rw [inV_strs, mem_subP hsP]
    unfold Dt.handed OH.handed at q
    by_cases z : D.und c s0 = true
    · refine ifF (by rw [show anc D.par D.dep c s0 = true from z]; exact Bool.false_ne_true) ?_
      rw [if_pos z] at q
      exact ⟨_, rfl, q H3 s3⟩
    · refine ifT (by rw [show anc D.par D.dep c s0 = false from Bool.eq_false_iff.mpr z]; rfl) ?_
      rw [if_neg z] at q
      refine ⟨_, rfl, _, rfl, A.r, A.dx, _, rfl, hk2.ins, RA.nolook (by decide +kernel), _, rfl, _, rfl, A, D, num, c, m, rfl, hk2, ho, hc, Nat.le_of_lt hm, fun H4 s4 => ?_⟩
      exact ⟨_, _, rfl, _, rfl, q H4 (s3.trans s4)⟩
theorem met_with_child {f C : Addr} {fd : FuncData} (me : Meth K C "with_child" f) (F : C8.Fun K "with_child" "Reckoner.with_child" s_Rwith_child f fd) (b : L2.Binds K fd ["self", "ahead", "child", "site"] []) (T : Bt mg) (Tc : Rc K C) (c_lesser : C8.Cal P w K mg base 1 "lesser" spLess []) (c_plus : C8.Cal P w K mg base 1 "plus" spPlus []) (m_handed : C8.Met P w K mg base 3 C "handed" (spRhanded C) []) : C8.Met P w K mg base 4 C "with_child" (spRwith C) [] := by
  refine C8.met0 Tc.cl me F b sc_Rwith_child (fun vs H Q E h => ?_) (fun cdv A outer s H vs Q E hr h => ?_)
  · obtain ⟨A, D, num, l, f, c, s0, rfl, _⟩ := h
    rfl
  · obtain ⟨A, D, num, l, f, c, s0, rfl, hk, ho, hl, hc, hs0, q⟩ := h
    have hu := hu_of hr
    have hu64 := hr.units
    refine ⟨_, (pss_cons (ps_setLc (i := 4) (own := [("part", 8)]) rfl sc_Rwith_child.nd rfl v_Rwith_child_4 (sw_true rfl v_Rwith_child_4 rfl (by decide +kernel)) (pi_range1 g_Rwith_child_range T.range_ (pa_cons (pe_fld (pv 0 rfl (.inr (.inl v_Rwith_child_0))) rfl) pa_nil)) (blkOk_by (own := [("part", 8)]) (N := N_Rwith_child) (sc := sc s_Rwith_child) (by decide +kernel)) (fun _ _ _ _ _ => (pg_name (i := 8) sc_Rwith_child.nd rfl (.inl rfl) (.inr rfl))) (fun _ _ _ _ _ => pts_nil) (fun _ _ _ _ _ => (C8.pe_mt m_handed hr (by decide) (pv 0) (pa_cons (pv 2) (pa_cons (pv 3) (pa_cons (pv 8) pa_nil))))))
      (pss_cons (ps_set (i := 5) sc_Rwith_child.nd rfl (.inl v_Rwith_child_5) (pe_lst pa_nil))
      (pss_cons (ps_for PassesOwn.never rfl (pi_range1 g_Rwith_child_range T.range_ (pa_cons (pe_fld (pv 0 rfl (.inr (.inl v_Rwith_child_0))) rfl) pa_nil)) (pg_name (i := 6) sc_Rwith_child.nd rfl (.inl v_Rwith_child_6))
        (pss_cons (ps_set (i := 7) sc_Rwith_child.nd rfl (.inl v_Rwith_child_7) pe_non)
        (pss_cons (ps_for PassesOwn.never rfl (pi_range1 g_Rwith_child_range T.range_ (pa_cons (pe_op op_add (pv 6 rfl (.inl v_Rwith_child_6)) pe_int) pa_nil)) (pg_name (i := 8) sc_Rwith_child.nd rfl (.inl v_Rwith_child_8))
          (pss_one (ps_set (i := 7) sc_Rwith_child.nd rfl (.inl v_Rwith_child_7) (C8.pe_c c_lesser hr (by decide) g_Rwith_child_lesser (pa_cons (pv 7 rfl (.inl v_Rwith_child_7)) (pa_cons (C8.pe_c c_plus hr (by decide) g_Rwith_child_plus (pa_cons (pe_ix ix_list (pv 1 rfl (.inl v_Rwith_child_1)) (pe_op op_sub (pv 6 rfl (.inl v_Rwith_child_6)) (pv 8 rfl (.inl v_Rwith_child_8))) (fun _ _ => rfl)) (pa_cons (pe_ix ix_list (pv 4 rfl (.inl v_Rwith_child_4)) (pv 8 rfl (.inl v_Rwith_child_8)) (fun _ _ => rfl)) pa_nil))) pa_nil))))))
        (pss_one (ps_expr (pe_bm PySem.F.plainAttrs_list PySem.F.slot_list_append PySem.F.type_list_append mt_append (pv 5 rfl (.inl v_Rwith_child_5)) (pa_cons (pv 7 rfl (.inl v_Rwith_child_7)) pa_nil)))))))
      (pss_one (ps_ret (pv 5 rfl (.inl v_Rwith_child_5))))))), ?_⟩
    have hR := ho.c.R1
    refine ⟨_, rfl, A.r, C, A.dx, _, _, rfl, hk.ins, Tc.cl, Tc.at 4 rfl, RA.look 4 rfl rfl, _, rfl, by omega, by omega, fun n1 f1 => ?_⟩
    refine lc_rng (n := D.C.R) (fun k H2 => LI H H2 n1 (rowV (fun m => D.handed num c s0 m) k)) (LI.nil f1) (fun k H2 hkR I => ?_) (fun H2 I => ?_)
    · refine ⟨rfl, ?_⟩
      refine iteT (B := LI H H2 n1 (rowV (fun m => D.handed num c s0 m) (k + 1))) ?_
      refine ⟨_, rfl, A.r, A.dx, _, rfl, (hk.same I.same).ins, RA.nolook (by decide +kernel), _, rfl, _, rfl, _, rfl, A, D, num, c, s0, k, rfl, hk.same I.same, ho, hc, hs0, hkR, fun H4 s4 => ⟨_, s4 _ _ I.at_, sz9 (by rw [rowV_len]; omega), ?_⟩⟩
      rw [rowV_snoc]
      exact (I.grow s4).put
    · have s2 := I.same
      have h1 := I.at_
      refine ⟨Nat.zero_le _, fun n2 f2 => ?_⟩
      have I2 := LI.nil f2
      generalize upd H2 n2 (.lst []) = H3 at I2 ⊢
      refine ⟨_, rfl, A.r, C, A.dx, _, _, rfl, ((hk.same s2).same I2.same).ins, Tc.cl, Tc.at 4 rfl, RA.look 4 rfl rfl, _, rfl, by omega, by omega, ?_⟩
      refine for_rng (n := D.C.R) (fun k σ H4 => ∃ (y6 y7 y8 : Option V), σ = [some (.ref A.r), some (.ref l), some (.str c), some (.str s0), some (.ref n1), some (.ref n2), y6, y7, y8] ∧ LI H2 H4 n2 (rowV (withChild D.C.sites D.und num s0 f c) k))
        ⟨_, _, _, rfl, I2⟩ (fun k σ H4 hkR ⟨y6, y7, y8, eσ, I4⟩ => ?_) (fun σ H4 ⟨y6, y7, y8, eσ, I4⟩ => ?_)
      · subst eσ
        refine ⟨_, rfl, _, _, rfl, rfl, _, rfl, by omega, by omega, ?_⟩
        have ek : (k : Int) + 1 = ((k + 1 : Nat) : Int) := rfl
        rw [ek]
        refine for_rng (n := k + 1) (fun j σ H5 => ∃ (y8 : Option V), σ = [some (.ref A.r), some (.ref l), some (.str c), some (.str s0), some (.ref n1), some (.ref n2), some (.int (k : Int)), some (oV (minL (fun part => plus (f (k - part)) (D.handed num c s0 part)) j)), y8] ∧ H5 = H4)
          ⟨_, rfl, rfl⟩ (fun j σ H5 hj ⟨y8, eσ, eH⟩ => ?_) (fun σ H5 ⟨y8, eσ, eH⟩ => ?_)
        · subst eσ eH
          have el : (rowV f D.C.R)[k - j]? = some (oV (f (k - j))) := rowV_at (by omega)
          have e1 : (rowV (fun m => D.handed num c s0 m) D.C.R)[j]? = some (oV (D.handed num c s0 j)) := rowV_at (by omega)
          have ei : (k : Int) - (j : Int) = ((k - j : Nat) : Int) := by omega
          have ea : atI (rowV f D.C.R) ((k : Int) - (j : Int)) = some (oV (f (k - j))) := by rw [ei]; exact atI_nat el
          refine ⟨_, rfl, _, rfl, _, rfl, _, rfl, _, _, rfl, rfl, ?_⟩
          exact ⟨_, _, _, _, rfl, rfl, SqL.of (I4.same _ _ (s2 _ _ hl)), ea, _, rfl, _, rfl, _, _, _, _, rfl, rfl, SqL.of (I4.same _ _ h1), atI_nat (j := j) e1, _, _, rfl, _, _, rfl, _, rfl, rfl⟩
        · subst eσ eH
          refine ⟨_, rfl, .inl ⟨rfl, _, SqL.of I4.at_⟩, _, rfl, n2, _, _, rfl, rfl, I4.at_, sz9 (by rw [rowV_len]; omega), _, _, _, rfl, ?_⟩
          rw [rowV_snoc]
          exact I4.put
      · subst eσ
        exact ⟨_, rfl, q H4 n2 (s2.trans I4.same) (s2.free f2) I4.at_⟩
theorem met_own {f C : Addr} {fd : FuncData} (me : Meth K C "own" f) (F : C8.Fun K "own" "Reckoner.own" s_Rown f fd) (b : L2.Binds K fd ["self", "place", "site"] []) (T : Bt mg) (Tc : Rc K C) : C8.Met P w K mg base 1 C "own" (spRown C) [] := by
  refine C8.met0 Tc.cl me F b sc_Rown (fun vs H Q E h => ?_) (fun cdv A outer s H vs Q E hr h => ?_)
  · obtain ⟨A, D, num, p, s0, rfl, _⟩ := h
    rfl
  · obtain ⟨A, D, num, p, s0, rfl, hk, ho, hp, hs0, q⟩ := h
    have hu := hu_of hr
    have hu64 := hr.units
    refine ⟨_, (pss_one (ps_ret (pe_op op_mulW (pe_dget2 hu (pe_fld (pv 0 rfl (.inl v_Rown_0)) rfl) (pv 1 rfl (.inl v_Rown_1)) pe_int ⟨rfl, by rfl, rfl, rfl⟩) (pe_dget hu (pe_dget hu (pe_fld (pv 0 rfl (.inl v_Rown_0)) rfl) (pv 2 rfl (.inl v_Rown_2)) (fun _ _ => rfl)) (pv 1 rfl (.inl v_Rown_1)) (fun _ _ => rfl))))), ?_⟩
    obtain ⟨ms, m1, m2⟩ := hk.ma
    have gD : DGet H A.dm (kV (.inr p)) ((D.C.folk.lookup p).map V.int) := m2 p hp ▸ DGet.k (k := Sum.inr p) m1
    obtain ⟨fs, f1, f2⟩ := hk.fa.ex
    obtain ⟨e, f3, ⟨es, f4, f5⟩, _⟩ := f2 s0 hs0
    have gF : DGet H A.fd (kV (.inr s0)) (some (.ref e)) := f3 ▸ DGet.k (k := Sum.inr s0) f1
    have gE : DGet H e (kV (.inr p)) (some (.int (D.far s0 p))) := f5 p hp ▸ DGet.k (k := Sum.inr p) f4
    refine ⟨_, rfl, A.r, C, A.dx, _, _, rfl, hk.ins, Tc.cl, Tc.at 3 rfl, RA.look 3 rfl rfl, A.dm, rfl, .inl ⟨_, .inl m1⟩, _, rfl, _, gD, ?_⟩
    have eM : ((D.C.folk.lookup p).map V.int).getD (.int 0) = .int (manyOf D.C.folk p) := by
      unfold manyOf
      cases D.C.folk.lookup p <;> rfl
    rw [eM]
    exact ⟨_, rfl, A.r, C, A.dx, _, _, rfl, hk.ins, Tc.cl, Tc.at 8 rfl, RA.look 8 rfl rfl, _, rfl, A.fd, _, rfl, gF, _, rfl, e, _, rfl, gE, _, _, rfl, rfl, mk_wide (many_le ho p) (ho.far_le hs0 hp), q⟩
theorem met_root {f C : Addr} {fd : FuncData} (me : Meth K C "root" f) (F : C8.Fun K "root" "Reckoner.root" s_Rroot f fd) (b : L2.Binds K fd ["self"] []) (T : Bt mg) (Tc : Rc K C) : C8.Met P w K mg base 1 C "root" (spRroot C) [] := by
  refine C8.met0 Tc.cl me F b sc_Rroot (fun vs H Q E h => ?_) (fun cdv A outer s H vs Q E hr h => ?_)
  · obtain ⟨A, D, num, rfl, _⟩ := h
    rfl
  · obtain ⟨A, D, num, rfl, hk, ho, q⟩ := h
    have hu := hu_of hr
    have hu64 := hr.units
    refine ⟨_, (pss_one (ps_ret (pe_ix ix_tup (pe_fld (pv 0 rfl (.inl v_Rroot_0)) rfl) pe_int (fun _ _ => rfl)))), ?_⟩
    obtain ⟨tl, hP⟩ := ho.ro.hd
    have eP : (D.C.P.map V.str)[0]? = some (V.str D.r) := by rw [hP]; rfl
    exact ⟨_, rfl, A.r, C, A.dx, _, _, rfl, hk.ins, Tc.cl, Tc.at 0 rfl, RA.look 0 rfl rfl, _, _, _, _, rfl, rfl, SqT.of hk.pl, atI_nat (j := 0) eP, q⟩
theorem met_low {f C : Addr} {fd : FuncData} (me : Meth K C "low" f) (F : C8.Fun K "low" "Reckoner.low" s_Rlow f fd) (b : L2.Binds K fd ["self", "mores"] []) (T : Bt mg) (Tc : Rc K C) (c_lesser : C8.Cal P w K mg base 1 "lesser" spLess []) (m_begun : C8.Met P w K mg base 2 C "begun" (spRbegun C) []) (m_root : C8.Met P w K mg base 1 C "root" (spRroot C) []) : C8.Met P w K mg base 3 C "low" (spRlow C) [] := by
  refine C8.met0 Tc.cl me F b sc_Rlow (fun vs H Q E h => ?_) (fun cdv A outer s H vs Q E hr h => ?_)
  · obtain ⟨A, D, num, rfl, _⟩ := h
    rfl
  · obtain ⟨A, D, num, rfl, hk, ho, q⟩ := h
    have hu := hu_of hr
    have hu64 := hr.units
    refine ⟨_, (pss_cons (ps_set (i := 2) sc_Rlow.nd rfl (.inl v_Rlow_2) pe_non)
      (pss_cons (ps_for PassesOwn.never rfl (pi_range2 g_Rlow_range T.range_ (pa_cons pe_int (pa_cons (pe_op op_add (pv 1 rfl (.inl v_Rlow_1)) pe_int) pa_nil))) (pg_name (i := 3) sc_Rlow.nd rfl (.inl v_Rlow_3))
        (pss_one (ps_set (i := 2) sc_Rlow.nd rfl (.inl v_Rlow_2) (C8.pe_c c_lesser hr (by decide) g_Rlow_lesser (pa_cons (pv 2 rfl (.inl v_Rlow_2)) (pa_cons (C8.pe_mt m_begun hr (by decide) (pv 0 rfl (.inl v_Rlow_0)) (pa_cons (C8.pe_mt0 m_root hr (by decide) (pv 0 rfl (.inl v_Rlow_0))) (pa_cons (pv 3 rfl (.inl v_Rlow_3)) pa_nil))) pa_nil))))))
      (pss_one (ps_ret (pv 2 rfl (.inl v_Rlow_2)))))), ?_⟩
    have hR := ho.c.R1
    refine ⟨_, rfl, _, _, rfl, rfl, _, _, rfl, ⟨by omega, by omega, by omega, by omega⟩, ?_⟩
    refine for_rng2 (lo := 1) (hi := D.C.R + 1) (fun k σ H2 => ∃ (y3 : Option V), σ = [some (.ref A.r), some (.int (D.C.R : Int)), some (oV (minL (fun i => D.begun num D.r (i + 1)) k)), y3] ∧ Same H H2)
      ⟨_, rfl, .refl _⟩ (fun k σ H2 hk1 ⟨y3, eσ, s2⟩ => ?_) (fun σ H2 ⟨y3, eσ, s2⟩ => ?_)
    · subst eσ
      have hk2 := hk.same s2
      have e1 : (1 + k) = k + 1 := Nat.add_comm _ _
      refine ⟨_, rfl, _, rfl, A.r, A.dx, _, rfl, hk2.ins, RA.nolook (by decide +kernel), _, rfl, A.r, A.dx, _, rfl, hk2.ins, RA.nolook (by decide +kernel), A, D, num, rfl, hk2, ho, _, rfl, A, D, num, D.r, 1 + k, rfl, hk2, ho, ho.ro.rt.root, by omega, fun H4 s4 => ?_⟩
      rw [e1]
      exact ⟨_, _, rfl, _, rfl, s2.trans s4⟩
    · subst eσ
      exact ⟨_, rfl, q H2 s2⟩
end
end OH

namespace OH
open PySem PySem.Spec PyProof.Rows L2
def spRsums (C : Addr) : Sp := fun vs H Q _ => ∃ (A : RA) (D : Dt) (num : Str → Str → Nat → Option Int) (p s : Str), vs = [.ref A.r, .str p, .str s] ∧ Rk C H A D num ∧ D.Ok ∧ p ∈ D.C.P ∧ s ∈ D.S ∧ ∀ H' l, Ext A.kd H H' → Rk C H' A D num → RowsOk H' D num l p s → Q (.ref l) H'
def spRdue (C : Addr) : Sp := fun vs H Q _ => ∃ (A : RA) (D : Dt) (num : Str → Str → Nat → Option Int) (p s : Str) (m : Nat), vs = [.ref A.r, .str p, .str s, .int (m : Int)] ∧ Rk C H A D num ∧ D.Ok ∧ p ∈ D.C.P ∧ s ∈ D.S ∧ m < D.C.R ∧ ∀ H', Ext A.kd H H' → Rk C H' A D num → Q (oV (D.due num p s m)) H'
theorem row0_list {R : Nat} (h : 1 ≤ R) : [V.int 0] ++ (List.replicate ((R : Int) - 1).toNat [V.non]).flatten = rowV row0 R := by
  obtain ⟨n, rfl⟩ : ∃ n, R = n + 1 := ⟨R - 1, by omega⟩
  have e : (((n + 1 : Nat) : Int) - 1).toNat = n := by omega
  rw [e]
  have h1 : ∀ n : Nat, (List.replicate n [V.non]).flatten = List.replicate n V.non := fun n => by
    induction n with
    | zero => rfl
    | succ n ih => rw [List.replicate_succ, List.flatten_cons, ih]; rfl
  rw [h1]
  unfold rowV
  rw [List.range_succ_eq_map, List.map_cons, List.map_map]
  show V.int 0 :: List.replicate n V.non = V.int 0 :: _
  congr 1
  have : ∀ i, ((fun i => oV (row0 i)) ∘ Nat.succ) i = V.non := fun i => rfl
  rw [show ((fun i => oV (row0 i)) ∘ Nat.succ) = fun _ => V.non from funext this]
  rw [List.map_const', List.length_range]
theorem DGet.t {H : Hp} {d t : Addr} {kvs : List (List Key × V)} {k : List Key} (h : H d = some (.dT kvs)) (ht : H t = some (.tup (k.map kV))) : DGet H d (.ref t) (valV kvs k) := .inr ⟨kvs, k, t, .inl h, rfl, ht, rfl⟩
theorem DPut.t {H : Hp} {d t : Addr} {kvs : List (List Key × V)} {k : List Key} {v : V} (h : H d = some (.dT kvs)) (ht : H t = some (.tup (k.map kV))) (hl : kvs.length < sizeLine) : DPut H d (.ref t) v (upd H d (.dT (putK kvs k v))) := .inr ⟨kvs, k, t, h, rfl, ht, hl, rfl⟩
theorem Rk.put {C : Addr} {H : Hp} {A : RA} {D : Dt} {num : Str → Str → Nat → Option Int} {p s : Str} {l : Addr} {kvs : List (List Key × V)} (k : Rk C H A D num) (hk : H A.kd = some (.dT kvs)) (hn : (kvs.map (·.1)).Nodup) (hs : ∀ k ∈ kvs.map (·.1), k ∈ D.pairs) (hv : ∀ p s x, valV kvs (pairK p s) = some x → ∃ l, x = .ref l ∧ RowsOk H D num l p s)
    (hnone : valV kvs (pairK p s) = none) (hp : p ∈ D.C.P) (hsS : s ∈ D.S) (r : RowsOk H D num l p s) : Rk C (upd H A.kd (.dT (putK kvs (pairK p s) (.ref l)))) A D num ∧ RowsOk (upd H A.kd (.dT (putK kvs (pairK p s) (.ref l)))) D num l p s := by
  have e : Ext A.kd H (upd H A.kd (.dT (putK kvs (pairK p s) (.ref l)))) := Ext.upd
  refine ⟨k.ext e ⟨_, upd_same, nd_putK _ hn hnone, fun j hj => ?_, fun p' s' x hx => ?_⟩, r.keep e hk⟩
  · rw [putK_new _ hnone, List.map_append] at hj
    rcases List.mem_append.mp hj with hj | hj
    · exact hs j hj
    · have : j = pairK p s := by simpa using hj
      rw [this]
      exact mem_pairs hp hsS
  · rw [valV_put] at hx
    by_cases q : pairK p' s' = pairK p s
    · rw [if_pos q] at hx
      obtain ⟨e1, e2⟩ := pairK_inj q
      subst e1 e2
      exact ⟨l, (Option.some.inj hx).symm, r.keep e hk⟩
    · rw [if_neg q] at hx
      obtain ⟨l', a, b⟩ := hv p' s' x hx
      exact ⟨l', a, b.keep e hk⟩
section
variable {P : Program} {w : World} {K : PySem.W.Frag} {mg : Str → Option Value} {base : Heap}
theorem met_sums {f C : Addr} {fd : FuncData} (me : Meth K C "sums" f) (F : C8.Fun K "sums" "Reckoner.sums" s_Rsums f fd) (b : L2.Binds K fd ["self", "place", "site"] []) (T : Bt mg) (Tc : Rc K C) (m_with_child : C8.Met P w K mg base 4 C "with_child" (spRwith C) []) : C8.Met P w K mg base 5 C "sums" (spRsums C) [] := by
  refine C8.met0 Tc.cl me F b sc_Rsums (fun vs H Q E h => ?_) (fun cdv A outer s H vs Q E hr h => ?_)
  · obtain ⟨A, D, num, p, s0, rfl, _⟩ := h
    rfl
  · obtain ⟨A, D, num, p, s0, rfl, hk, ho, hp, hs0, q⟩ := h
    have hu := hu_of hr
    have hu64 := hr.units
    refine ⟨_, (pss_cons (ps_if (pt_cmp (pc_dnotin hu (pe_tup (pa_cons (pv 1 rfl (.inl v_Rsums_1)) (pa_cons (pv 2 rfl (.inl v_Rsums_2)) pa_nil))) (pe_fld (pv 0 rfl (.inl v_Rsums_0)) rfl))) (pss_cons (ps_set (i := 3) sc_Rsums.nd rfl (.inl v_Rsums_3) (pe_lst (pa_cons (pe_op op_cat (pe_lst (pa_cons pe_int pa_nil)) (pe_op op_rep (pe_lst (pa_cons pe_non pa_nil)) (pe_op op_sub (pe_fld (pv 0 rfl (.inl v_Rsums_0)) rfl) pe_int))) pa_nil)))
        (pss_cons (ps_for PassesOwn.never rfl (pi_list (pe_dget hu (pe_fld (pv 0 rfl (.inl v_Rsums_0)) rfl) (pv 1 rfl (.inl v_Rsums_1)) (fun _ _ => rfl))) (pg_name (i := 4) sc_Rsums.nd rfl (.inl v_Rsums_4))
          (pss_one (ps_expr (pe_bm PySem.F.plainAttrs_list PySem.F.slot_list_append PySem.F.type_list_append mt_append (pv 3 rfl (.inl v_Rsums_3)) (pa_cons (C8.pe_mt m_with_child hr (by decide) (pv 0 rfl (.inl v_Rsums_0)) (pa_cons (pe_ix ix_list (pv 3 rfl (.inl v_Rsums_3)) (pe_un un_neg pe_int) (fun _ _ => rfl)) (pa_cons (pv 4 rfl (.inl v_Rsums_4)) (pa_cons (pv 2 rfl (.inl v_Rsums_2)) pa_nil)))) pa_nil)))))
        (pss_one (ps_dput hu (pe_fld (pv 0 rfl (.inl v_Rsums_0)) rfl) (pe_tup (pa_cons (pv 1 rfl (.inl v_Rsums_1)) (pa_cons (pv 2 rfl (.inl v_Rsums_2)) pa_nil))) (pv 3 rfl (.inl v_Rsums_3)) rfl)))) pss_nil)
      (pss_one (ps_ret (pe_dget hu (pe_fld (pv 0 rfl (.inl v_Rsums_0)) rfl) (pe_tup (pa_cons (pv 1 rfl (.inl v_Rsums_1)) (pa_cons (pv 2 rfl (.inl v_Rsums_2)) pa_nil))) (fun _ _ => rfl))))), ?_⟩
    have hR := ho.c.R1
    have fin : ∀ {H2 : Hp} {l : Addr} {kvs : List (List Key × V)}, Ext A.kd H H2 → Rk C H2 A D num → H2 A.kd = some (.dT kvs) → valV kvs (pairK p s0) = some (.ref l) → RowsOk H2 D num l p s0 → ∀ t, H2 t = none → ∀ o, o = HO.tup [V.str p, V.str s0] → (∃ v, DGet (upd H2 t o) A.kd (.ref t) (some v) ∧ Q v (upd H2 t o)) := fun {H2 l kvs} e k2 h1 h2 h3 t nt o eo => by
      subst eo
      have s3 := same_new (o := .tup [V.str p, V.str s0]) nt
      refine ⟨.ref l, ?_, q _ l (e.trans (.of s3)) (k2.same s3) ?_⟩
      · rw [← h2]
        exact DGet.t (k := pairK p s0) (s3 _ _ h1) upd_same
      · obtain ⟨ls, a, b1, b2⟩ := h3
        exact ⟨ls, a, s3 _ _ b1, s3 _ _ b2⟩
    refine ⟨_, rfl, _, rfl, (by show 2 ≤ sizeLine; decide), fun t nt => ?_⟩
    have s1 := same_new (o := .tup [V.str p, V.str s0]) nt
    have ht : upd H t (.tup [V.str p, V.str s0]) t = some (.tup [V.str p, V.str s0]) := upd_same
    generalize upd H t (.tup [V.str p, V.str s0]) = H1 at s1 ht ⊢
    have hk1 := hk.same s1
    obtain ⟨kvs, n1, n2, n3, n4⟩ := hk1.kn.ex
    refine ⟨_, rfl, A.r, C, A.dx, _, _, rfl, hk1.ins, Tc.cl, Tc.at 5 rfl, RA.look 5 rfl rfl, A.kd, _, rfl, DGet.t (k := pairK p s0) n1 ht, _, rfl, ?_⟩
    cases ev : valV kvs (pairK p s0) with
    | some x =>
      refine ifF (by simp) ?_
      obtain ⟨l, rfl, hro⟩ := n4 p s0 x ev
      refine ⟨_, rfl, A.r, C, A.dx, _, _, rfl, hk1.ins, Tc.cl, Tc.at 5 rfl, RA.look 5 rfl rfl, _, rfl, _, rfl, (by show 2 ≤ sizeLine; decide), fun t2 nt2 => ?_⟩
      obtain ⟨v, g, qq⟩ := fin (.of s1) hk1 n1 ev hro t2 nt2 _ rfl
      exact ⟨A.kd, v, rfl, g, qq⟩
    | none =>
      refine ifT rfl ?_
      refine ⟨(by show 1 ≤ sizeLine; decide), fun a1 f1 => ⟨(by show 1 ≤ sizeLine; decide), fun a2 f2 => ?_⟩⟩
      have s2 := s1.trans ((same_new (o := .lst [V.int 0]) f1).trans (same_new (o := .lst [V.non]) f2))
      have h1 : upd (upd H1 a1 (.lst [V.int 0])) a2 (.lst [V.non]) a1 = some (.lst [V.int 0]) := same_new f2 _ _ upd_same
      have h2 : upd (upd H1 a1 (.lst [V.int 0])) a2 (.lst [V.non]) a2 = some (.lst [V.non]) := upd_same
      have k1 := s1.trans (same_new (o := .lst [V.int 0]) f1)
      generalize upd (upd H1 a1 (.lst [V.int 0])) a2 (.lst [V.non]) = H2 at s2 h1 h2 ⊢
      have hk2 := hk.same s2
      refine ⟨_, rfl, A.r, C, A.dx, _, _, rfl, hk2.ins, Tc.cl, Tc.at 4 rfl, RA.look 4 rfl rfl, ?_⟩
      refine ⟨_, _, rfl, rfl, a2, _, _, rfl, rfl, h2, by omega, by omega, sz9' (by rw [List.length_singleton]; omega), fun a3 f3 => ?_⟩
      have s3 := s2.trans (same_new (o := .lst (List.replicate ((D.C.R : Int) - 1).toNat [V.non]).flatten) f3)
      have h1' := same_new (o := .lst (List.replicate ((D.C.R : Int) - 1).toNat [V.non]).flatten) f3 _ _ h1
      have h3 : upd H2 a3 (.lst (List.replicate ((D.C.R : Int) - 1).toNat [V.non]).flatten) a3 = some (.lst (List.replicate ((D.C.R : Int) - 1).toNat [V.non]).flatten) := upd_same
      generalize upd H2 a3 (.lst (List.replicate ((D.C.R : Int) - 1).toNat [V.non]).flatten) = H3 at s3 h1' h3 ⊢
      have el := congrArg List.length (row0_list hR.1)
      rw [List.length_append, rowV_len] at el
      refine ⟨a1, a3, _, _, rfl, rfl, h1', h3, sz9' (by rw [el]; omega), fun a4 f4 => ⟨(by show 1 ≤ sizeLine; decide), fun lr fr => ?_⟩⟩
      rw [row0_list hR.1] at fr ⊢
      have s4 := s3.trans (same_new (o := .lst (rowV row0 D.C.R)) f4)
      have h4 : upd H3 a4 (.lst (rowV row0 D.C.R)) a4 = some (.lst (rowV row0 D.C.R)) := upd_same
      generalize upd H3 a4 (.lst (rowV row0 D.C.R)) = H4 at s4 h4 fr ⊢
      have hk4 := hk.same s4
      obtain ⟨us, u1, u2⟩ := hk4.lo.ex
      obtain ⟨l, u3, u4⟩ := u2 p hp
      have hkl : (D.kids p).length ≤ D.C.P.length := List.length_filter_le _ _
      have hfew := ho.c.few
      have s5 := same_new (o := .lst [V.ref a4]) fr
      have h5 : upd H4 lr (.lst [V.ref a4]) lr = some (.lst [V.ref a4]) := upd_same
      generalize upd H4 lr (.lst [V.ref a4]) = H5 at s5 h5 ⊢
      have gD : DGet H5 A.ld (kV (.inr p)) (some (.ref l)) := u3 ▸ DGet.k (k := Sum.inr p) (s5 _ _ u1)
      refine ⟨_, rfl, A.r, C, A.dx, _, _, rfl, (hk4.same s5).ins, Tc.cl, Tc.at 7 rfl, RA.look 7 rfl rfl, _, rfl, A.ld, _, rfl, gD, l, rfl, ⟨_, SqL.of (s5 _ _ u4)⟩, ?_⟩
      refine for_strsL (P := D.kids p) (fun j σ H6 => ∃ (y4 : Option V) (ls : List V) (a : Addr), σ = [some (.ref A.r), some (.str p), some (.str s0), some (.ref lr), y4] ∧ Same H4 H6 ∧ H6 lr = some (.lst (ls ++ [V.ref a])) ∧ ls.length = j ∧ H6 a = some (.lst (rowV (((D.kids p).take j).foldl (withChild D.C.sites D.und num s0) row0) D.C.R)))
        ⟨_, [], a4, rfl, s5, h5, rfl, s5 _ _ h4⟩ (fun j σ H6 ⟨_, _, _, _, s6, _⟩ => s6 _ _ u4) (fun j c σ H6 hc ⟨y4, ls, a, eσ, s6, h6, hl6, ha6⟩ => ?_) (fun σ H6 ⟨y4, ls, a, eσ, s6, h6, hl6, ha6⟩ => ?_)
      · subst eσ
        have hcP := (mem_kids.mp (List.mem_of_getElem? hc)).1
        have hjl := (List.getElem?_eq_some_iff.mp hc).1
        have hk6 := hk4.same s6
        refine ⟨_, rfl, .inl ⟨rfl, _, SqL.of h6⟩, _, rfl, A.r, A.dx, _, rfl, hk6.ins, RA.nolook (by decide +kernel), _, rfl, _, rfl, _, _, _, _, rfl, rfl, SqL.of h6, atI_last _ _, _, rfl, _, rfl, A, D, num, a, _, c, s0, rfl, hk6, ho, ha6, hcP, hs0, fun H7 n s7 fn hn => ?_⟩
        refine ⟨lr, _, _, rfl, rfl, s7 _ _ h6, sz9 (by rw [List.length_append, hl6, List.length_singleton]; omega), ?_⟩
        have nlr : n ≠ lr := fun z => by rw [z, h6] at fn; cases fn
        refine ⟨_, ls ++ [V.ref a], n, rfl, same_mut (s6.trans s7) fr, upd_same, by rw [List.length_append, hl6]; rfl, ?_⟩
        rw [upd_ne nlr, take_snoc hc, List.foldl_append]
        exact hn
      · subst eσ
        rw [take_len] at ha6
        have s7 : Same H H6 := s4.trans s6
        have hk6 := hk.same s7
        obtain ⟨kvs6, m1, m2, m3, m4⟩ := hk6.kn.ex
        have ekv : kvs6 = kvs := by
          have z := s7 _ _ (show H A.kd = some (.dT kvs) from by
            obtain ⟨kk, z1, _⟩ := hk.kn.ex
            have := s1 _ _ z1
            rw [n1] at this
            rw [z1, ← Option.some.inj this])
          rw [m1] at z
          injection z with z
          injection z with z
        subst ekv
        have hro : RowsOk H6 D num lr p s0 := ⟨ls, a, h6, ha6⟩
        refine ⟨_, rfl, _, rfl, A.r, C, A.dx, _, _, rfl, hk6.ins, Tc.cl, Tc.at 5 rfl, RA.look 5 rfl rfl, _, rfl, _, rfl, (by show 2 ≤ sizeLine; decide), fun t2 nt2 => ?_⟩
        have s8 := same_new (o := .tup [V.str p, V.str s0]) nt2
        have ht8 : upd H6 t2 (.tup [V.str p, V.str s0]) t2 = some (.tup ((pairK p s0).map kV)) := upd_same
        generalize upd H6 t2 (.tup [V.str p, V.str s0]) = H8 at s8 ht8 ⊢
        have hkvl : kvs6.length ≤ 81 := by
          have := nodup_sub_le m2 m3
          rw [List.length_map] at this
          exact Nat.le_trans this (Dt.pairs_len ho)
        refine ⟨A.kd, _, rfl, DPut.t (s8 _ _ m1) ht8 (sz9 (by omega)), ?_⟩
        have hro8 : RowsOk H8 D num lr p s0 := ⟨ls, a, s8 _ _ h6, s8 _ _ ha6⟩
        obtain ⟨hk9, hro9⟩ := (hk6.same s8).put (s8 _ _ m1) m2 m3 (fun p s x hx => by
          obtain ⟨l', b1, ls', c', b2, b3⟩ := m4 p s x hx
          exact ⟨l', b1, ls', c', s8 _ _ b2, s8 _ _ b3⟩) ev hp hs0 hro8
        have e9 : Ext A.kd H (upd H8 A.kd (.dT (putK kvs6 (pairK p s0) (.ref lr)))) := (Ext.of (s7.trans s8)).trans Ext.upd
        have h9 : upd H8 A.kd (.dT (putK kvs6 (pairK p s0) (.ref lr))) A.kd = some (.dT (putK kvs6 (pairK p s0) (.ref lr))) := upd_same
        generalize upd H8 A.kd (.dT (putK kvs6 (pairK p s0) (.ref lr))) = H9 at hk9 hro9 e9 h9 ⊢
        refine ⟨_, rfl, A.r, C, A.dx, _, _, rfl, hk9.ins, Tc.cl, Tc.at 5 rfl, RA.look 5 rfl rfl, _, rfl, _, rfl, (by show 2 ≤ sizeLine; decide), fun t3 nt3 => ?_⟩
        obtain ⟨v, g, qq⟩ := fin e9 hk9 h9 (by rw [valV_put, if_pos rfl]) hro9 t3 nt3 _ rfl
        exact ⟨A.kd, v, rfl, g, qq⟩
theorem met_due {f C : Addr} {fd : FuncData} (me : Meth K C "due" f) (F : C8.Fun K "due" "Reckoner.due" s_Rdue f fd) (b : L2.Binds K fd ["self", "place", "site", "more"] []) (T : Bt mg) (Tc : Rc K C) (c_plus : C8.Cal P w K mg base 1 "plus" spPlus []) (m_own : C8.Met P w K mg base 1 C "own" (spRown C) []) (m_sums : C8.Met P w K mg base 5 C "sums" (spRsums C) []) : C8.Met P w K mg base 6 C "due" (spRdue C) [] := by
  refine C8.met0 Tc.cl me F b sc_Rdue (fun vs H Q E h => ?_) (fun cdv A outer s H vs Q E hr h => ?_)
  · obtain ⟨A, D, num, p, s0, m, rfl, _⟩ := h
    rfl
  · obtain ⟨A, D, num, p, s0, m, rfl, hk, ho, hp, hs0, hm, q⟩ := h
    have hu := hu_of hr
    have hu64 := hr.units
    refine ⟨_, (pss_one (ps_ret (C8.pe_c c_plus hr (by decide) g_Rdue_plus (pa_cons (C8.pe_mt m_own hr (by decide) (pv 0 rfl (.inl v_Rdue_0)) (pa_cons (pv 1 rfl (.inl v_Rdue_1)) (pa_cons (pv 2 rfl (.inl v_Rdue_2)) pa_nil))) (pa_cons (pe_ix ix_list (pe_ix ix_list (C8.pe_mt m_sums hr (by decide) (pv 0 rfl (.inl v_Rdue_0)) (pa_cons (pv 1 rfl (.inl v_Rdue_1)) (pa_cons (pv 2 rfl (.inl v_Rdue_2)) pa_nil))) (pe_un un_neg pe_int) (fun _ _ => rfl)) (pv 3 rfl (.inl v_Rdue_3)) (fun _ _ => rfl)) pa_nil))))), ?_⟩
    refine ⟨_, rfl, A.r, A.dx, _, rfl, hk.ins, RA.nolook (by decide +kernel), _, rfl, _, rfl, A, D, num, p, s0, rfl, hk, ho, hp, hs0, _, rfl, A.r, A.dx, _, rfl, hk.ins, RA.nolook (by decide +kernel), _, rfl, _, rfl, A, D, num, p, s0, rfl, hk, ho, hp, hs0, fun H2 l e2 hk2 ⟨ls, a, b1, b2⟩ => ?_⟩
    exact ⟨_, rfl, _, _, _, _, rfl, rfl, SqL.of b1, atI_last _ _, _, rfl, _, _, _, _, rfl, rfl, SqL.of b2, atI_nat (j := m) (rowV_at hm), some _, _, rfl, q H2 e2 hk2⟩
end
end OH

namespace OH
open PySem PySem.Spec PyProof.Rows L2
def spRinit (C : Addr) : Sp := fun vs H Q _ => ∃ (x c n dx : Addr) (D : Dt) (num : Str → Str → Nat → Option Int), vs = [.ref x, .ref c, .ref n] ∧ H x = some (.ins C dx []) ∧ CaseAt H c D.C ∧ NumsAt H n D.C.P D.S D.C.R num ∧ D.Ok ∧ ∀ H' A, A.r = x → Ext x H H' → Rk C H' A D num → H A.kd = none → Q .non H'
/-- an instance that gets its attributes -/
structure II (C : Addr) (H0 H : Hp) (x dx : Addr) (vals : List V) : Prop where
  ext : Ext x H0 H
  at_ : H x = some (.ins C dx ((RN.take vals.length).zip vals))
theorem II.set {C : Addr} {H0 H : Hp} {x dx : Addr} {vals : List V} {f : Str} {y : V} (I : II C H0 H x dx vals) (h : RN[vals.length]? = some f) : II C H0 (upd H x (.ins C dx (putF f y ((RN.take vals.length).zip vals)))) x dx (vals ++ [y]) :=
  ⟨I.ext.trans Ext.upd, by rw [upd_same, putF_RN vals.length h rfl, List.length_append]; rfl⟩
theorem II.set' {C : Addr} {H0 H : Hp} {x dx : Addr} {vals : List V} {f : Str} {y : V} (I : II C H0 H x dx vals) (h : RN[vals.length]? = some f) : II C H0 (upd H x (.ins C dx (putF f y ((RN.take vals.length).zip vals)))) x dx (vals ++ [y]) ∧ ∀ b o, H b = some o → (∀ C dx fs, o ≠ .ins C dx fs) → upd H x (.ins C dx (putF f y ((RN.take vals.length).zip vals))) b = some o :=
  ⟨I.set h, fun b o hb n => by rw [upd_ne (fun z => n _ _ _ (by rw [z, I.at_] at hb; exact (Option.some.inj hb).symm))]; exact hb⟩
theorem II.grow {C : Addr} {H0 H H' : Hp} {x dx : Addr} {vals : List V} (I : II C H0 H x dx vals) (s : Same H H') : II C H0 H' x dx vals := ⟨I.ext.trans (.of s), s _ _ I.at_⟩
theorem II.look {vals : List V} {f : Str} {v : V} (j : Nat) (h : RN[j]? = some f) (hj : j < vals.length) (hk : vals.length ≤ 9) (hv : vals[j]? = some v) : ((RN.take vals.length).zip vals).lookup f = some v := look_RN vals.length j h hj hk rfl hv
theorem II.len {vals : List V} : ((RN.take vals.length).zip vals).length < 1000 := by
  rw [List.length_zip, List.length_take]
  have : RN.length = 9 := rfl
  omega
def Ext2 (x y : Addr) (H H' : Hp) : Prop := ∀ b o, H b = some o → b ≠ x → b ≠ y → H' b = some o
theorem Ext2.refl (x y : Addr) (H : Hp) : Ext2 x y H H := fun _ _ h _ _ => h
theorem Ext2.same {x y : Addr} {H H1 H2 : Hp} (a : Ext2 x y H H1) (b : Same H1 H2) : Ext2 x y H H2 := fun c o h n m => b c o (a c o h n m)
theorem Ext2.put1 {x y : Addr} {H H1 : Hp} {o : HO} (a : Ext2 x y H H1) : Ext2 x y H (upd H1 x o) := fun c u h n m => by rw [upd_ne n]; exact a c u h n m
theorem Ext2.put2 {x y : Addr} {H H1 : Hp} {o : HO} (a : Ext2 x y H H1) : Ext2 x y H (upd H1 y o) := fun c u h n m => by rw [upd_ne m]; exact a c u h n m
theorem Ext2.ext {x y z : Addr} {H0 H H1 : Hp} (e : Ext z H0 H) (hx : H0 x = none) (hy : H0 y = none) (a : Ext2 x y H H1) : Ext z H0 H1 := fun b o h n => a b o (e b o h n) (ne_of_none h hx) (ne_of_none h hy)
theorem Ext.free {x a : Addr} {H H' : Hp} (e : Ext x H H') (hx : a ≠ x) (h : H' a = none) : H a = none := by
  cases q : H a with
  | none => rfl
  | some o => rw [e a o q hx] at h; cases h
theorem ne_kind {H : Hp} {a b : Addr} {o u : HO} (h : H a = some o) (k : H b = some u) (n : o ≠ u) : a ≠ b := fun z => n (by rw [z, k] at h; exact (Option.some.inj h).symm)
section
variable {P : Program} {w : World} {K : PySem.W.Frag} {mg : Str → Option Value} {base : Heap}
theorem mak_R {f C : Addr} {fd : FuncData} (M : L2.Mk K C f) (hm : mg "Reckoner" = some (.ref C)) (F : C8.Fun K "__init__" "Reckoner.__init__" s_Rinit f fd) (b : L2.Binds K fd ["self", "case", "numbers"] []) (T : Bt mg) (Tc : Rc K C) (c_below : C8.Cal P w K mg base 3 "below" spBelow []) (c_children : C8.Cal P w K mg base 3 "children" spChildren []) (c_fars : C8.Cal P w K mg base 2 "fars" spFars []) (c_mores_of : C8.Cal P w K mg base 1 "mores_of" spMores []) : C8.Mak P w K mg base 4 "Reckoner" C (spRinit C) [] := by
  refine C8.mak0 M hm F b .nil sc_Rinit (fun vs H Q E h => ?_) (fun cdv A outer s H vs Q E hr h => ?_)
  · obtain ⟨x, c, n, dx, D, num, rfl, _⟩ := h
    rfl
  · obtain ⟨x, c, n, dx, D, num, rfl, hx, hC, hN, ho, q⟩ := h
    have hu := hu_of hr
    have hu64 := hr.units
    refine ⟨_, (pss_cons (ps_fld (pv 0 rfl (.inl v_Rinit_0)) (pe_ix ix_tup (pe_ix ix_tup (pv 1 rfl (.inl v_Rinit_1)) pe_int (fun _ _ => rfl)) pe_int (fun _ _ => rfl)) rfl)
      (pss_cons (ps_fld (pv 0 rfl (.inl v_Rinit_0)) (pe_ix ix_tup (pv 1 rfl (.inl v_Rinit_1)) pe_int (fun _ _ => rfl)) rfl)
      (pss_cons (ps_fld (pv 0 rfl (.inl v_Rinit_0)) (pv 2 rfl (.inl v_Rinit_2)) rfl)
      (pss_cons (ps_fld (pv 0 rfl (.inl v_Rinit_0)) (pe_callTy (call_dictP rfl) g_Rinit_dict T.dict_ (by decide +kernel) (pa_cons (pe_callTy call_list_of g_Rinit_list T.list_ (by decide +kernel) (pa_cons (pe_ix ix_tup (pv 1 rfl (.inl v_Rinit_1)) pe_int (fun _ _ => rfl)) pa_nil)) pa_nil)) rfl)
      (pss_cons (ps_fld (pv 0 rfl (.inl v_Rinit_0)) (C8.pe_c c_mores_of hr (by decide) g_Rinit_mores_of (pa_cons (pv 1 rfl (.inl v_Rinit_1)) pa_nil)) rfl)
      (pss_cons (ps_fld (pv 0 rfl (.inl v_Rinit_0)) pe_dnewT rfl)
      (pss_cons (ps_fld (pv 0 rfl (.inl v_Rinit_0)) pe_dnewK rfl)
      (pss_cons (ps_fld (pv 0 rfl (.inl v_Rinit_0)) pe_dnewK rfl)
      (pss_cons (ps_for PassesOwn.never rfl (pi_tup (pe_fld (pv 0 rfl (.inl v_Rinit_0)) rfl)) (pg_name (i := 3) sc_Rinit.nd rfl (.inl v_Rinit_3))
        (pss_cons (ps_dput hu (pe_fld (pv 0 rfl (.inl v_Rinit_0)) rfl) (pv 3 rfl (.inl v_Rinit_3)) (C8.pe_c c_below hr (by decide) g_Rinit_below (pa_cons (pe_ix ix_tup (pv 1 rfl (.inl v_Rinit_1)) pe_int (fun _ _ => rfl)) (pa_cons (pv 3 rfl (.inl v_Rinit_3)) pa_nil))) rfl)
        (pss_one (ps_dput hu (pe_fld (pv 0 rfl (.inl v_Rinit_0)) rfl) (pv 3 rfl (.inl v_Rinit_3)) (C8.pe_c c_children hr (by decide) g_Rinit_children (pa_cons (pe_ix ix_tup (pv 1 rfl (.inl v_Rinit_1)) pe_int (fun _ _ => rfl)) (pa_cons (pv 3 rfl (.inl v_Rinit_3)) pa_nil))) rfl))))
      (pss_cons (ps_fld (pv 0 rfl (.inl v_Rinit_0)) pe_dnewK rfl)
      (pss_one (ps_for PassesOwn.never rfl (pi_tup (pe_fld (pv 0 rfl (.inl v_Rinit_0)) rfl)) (pg_tup rfl (pgs_cons (pg_name (i := 4) sc_Rinit.nd rfl (.inl v_Rinit_4)) (pgs_cons (pg_name (i := 5) sc_Rinit.nd rfl (.inl v_Rinit_5)) pgs_nil)))
        (pss_one (ps_dput hu (pe_fld (pv 0 rfl (.inl v_Rinit_0)) rfl) (pv 4 rfl (.inl v_Rinit_4)) (C8.pe_c c_fars hr (by decide) g_Rinit_fars (pa_cons (pe_ix ix_tup (pv 1 rfl (.inl v_Rinit_1)) pe_int (fun _ _ => rfl)) (pa_cons (pv 4 rfl (.inl v_Rinit_4)) pa_nil))) rfl)))))))))))))), ?_⟩
    obtain ⟨am, asi, af, h1, hM, hS, hF⟩ := hC.ex
    obtain ⟨ap, aw, ws, h2, h3, h4, h5⟩ := hM.ex
    obtain ⟨ss, h6, h7⟩ := hS.ex
    obtain ⟨fs, h8, h9⟩ := hF.ex
    have nx : ∀ {b : Addr} {xs : List V}, H b = some (.tup xs) → b ≠ x := fun h => ne_kind h hx (fun z => by cases z)
    have I0 : II C H H x dx [] := ⟨.refl _ _, hx⟩
    -- places
    refine ⟨_, rfl, _, _, _, _, rfl, rfl, SqT.of h1, atI_nat (j := 0) rfl, _, _, _, _, rfl, rfl, SqT.of h2, atI_nat (j := 0) rfl, _, rfl, x, C, dx, _, rfl, I0.at_, Tc.cl, Tc.at 0 rfl, II.len, ?_⟩
    have I1 := I0.set (y := .ref ap) (f := "places") rfl
    generalize upd H x (.ins C dx (putF "places" (V.ref ap) ((RN.take ([] : List V).length).zip []))) = H1 at I1 ⊢
    -- sites
    refine ⟨_, rfl, _, _, _, _, rfl, rfl, SqT.of (I1.ext _ _ h1 (nx h1)), atI_nat (j := 1) rfl, _, rfl, x, C, dx, _, rfl, I1.at_, Tc.cl, Tc.at 1 rfl, II.len, ?_⟩
    have I2 := I1.set (y := .ref asi) (f := "sites") rfl
    generalize upd H1 x _ = H2 at I2 ⊢
    -- numbers
    refine ⟨_, rfl, _, rfl, x, C, dx, _, rfl, I2.at_, Tc.cl, Tc.at 2 rfl, II.len, ?_⟩
    have I3 := I2.set (y := .ref n) (f := "numbers") rfl
    generalize upd H2 x _ = H3 at I3 ⊢
    -- many
    refine ⟨_, rfl, _, _, _, _, rfl, rfl, SqT.of (I3.ext _ _ h1 (nx h1)), atI_nat (j := 2) rfl, af, _, rfl, .inr (SqT.of (I3.ext _ _ h8 (nx h8))), fun al nal => ?_⟩
    have s4 := same_new (o := .lst (fs.map V.ref)) nal
    have hal : upd H3 al (.lst (fs.map V.ref)) al = some (.lst (fs.map V.ref)) := upd_same
    generalize upd H3 al (.lst (fs.map V.ref)) = H4 at s4 hal ⊢
    have tk4 : Tk H H4 := (tk_ext I3.ext hx (fun _ z => by cases z)).trans (tk_same s4)
    refine ⟨al, fs, _, rfl, SqL.of hal, paired_rows (h9.tk tk4), fun dm ndm => ?_⟩
    have I4 := I3.grow (s4.trans (same_new (o := .dK (mergeK [] (D.C.folk.map fun e => ((Sum.inr e.1 : Key), V.int e.2)))) ndm))
    have hdm : upd H4 dm (.dK (mergeK [] (D.C.folk.map fun e => ((Sum.inr e.1 : Key), V.int e.2)))) dm = some (.dK (mergeK [] (D.C.folk.map fun e => ((Sum.inr e.1 : Key), V.int e.2)))) := upd_same
    generalize upd H4 dm (.dK (mergeK [] (D.C.folk.map fun e => ((Sum.inr e.1 : Key), V.int e.2)))) = H5 at I4 hdm ⊢
    refine ⟨_, rfl, x, C, dx, _, rfl, I4.at_, Tc.cl, Tc.at 3 rfl, II.len, ?_⟩
    obtain ⟨I5, e5⟩ := I4.set' (y := .ref dm) (f := "many") rfl
    have hdm := e5 _ _ hdm (fun _ _ _ z => by cases z)
    clear e5
    generalize upd H5 x _ = H6 at I5 hdm ⊢
    -- mores
    have hC6 : CaseAt H6 c D.C := hC.tk (tk_ext I5.ext hx (fun _ z => by cases z))
    refine ⟨_, rfl, c, D.C, rfl, hC6, ho.c.lim1, _, rfl, x, C, dx, _, rfl, I5.at_, Tc.cl, Tc.at 4 rfl, II.len, ?_⟩
    obtain ⟨I6, e6⟩ := I5.set' (y := .int (D.C.R : Int)) (f := "mores") rfl
    have hdm := e6 _ _ hdm (fun _ _ _ z => by cases z)
    clear e6
    generalize upd H6 x _ = H7 at I6 hdm ⊢
    -- known
    intro kd nkd
    have s7 := same_new (o := .dT []) nkd
    have hkd : upd H7 kd (.dT []) kd = some (.dT []) := upd_same
    have kx : kd ≠ x := Ne.symm (ne_of_none I6.at_ nkd)
    have nkd0 : H kd = none := I6.ext.free kx nkd
    have I6' := I6.grow s7
    have hdm := s7 _ _ hdm
    generalize upd H7 kd (.dT []) = H8 at I6' hdm hkd ⊢
    refine ⟨_, rfl, x, C, dx, _, rfl, I6'.at_, Tc.cl, Tc.at 5 rfl, II.len, ?_⟩
    obtain ⟨I7, e7⟩ := I6'.set' (y := .ref kd) (f := "known") rfl
    have hdm := e7 _ _ hdm (fun _ _ _ z => by cases z)
    have hkd := e7 _ _ hkd (fun _ _ _ z => by cases z)
    clear e7
    generalize upd H8 x _ = H9 at I7 hdm hkd ⊢
    -- under
    intro ud nud
    have s9 := same_new (o := .dK []) nud
    have hud : upd H9 ud (.dK []) ud = some (.dK []) := upd_same
    have ux : ud ≠ x := Ne.symm (ne_of_none I7.at_ nud)
    have nud0 : H ud = none := I7.ext.free ux nud
    have I7' := I7.grow s9
    have dmu : dm ≠ ud := ne_of_none hdm nud
    have hdm := s9 _ _ hdm
    have hkd := s9 _ _ hkd
    generalize upd H9 ud (.dK []) = H10 at I7' hdm hkd hud ⊢
    refine ⟨_, rfl, x, C, dx, _, rfl, I7'.at_, Tc.cl, Tc.at 6 rfl, II.len, ?_⟩
    obtain ⟨I8, e8⟩ := I7'.set' (y := .ref ud) (f := "under") rfl
    have hdm := e8 _ _ hdm (fun _ _ _ z => by cases z)
    have hkd := e8 _ _ hkd (fun _ _ _ z => by cases z)
    have hud := e8 _ _ hud (fun _ _ _ z => by cases z)
    clear e8
    generalize upd H10 x _ = H11 at I8 hdm hkd hud ⊢
    -- lower
    intro ld nld
    have s11 := same_new (o := .dK []) nld
    have hld : upd H11 ld (.dK []) ld = some (.dK []) := upd_same
    have lx : ld ≠ x := Ne.symm (ne_of_none I8.at_ nld)
    have nld0 : H ld = none := I8.ext.free lx nld
    have I8' := I8.grow s11
    have dml : dm ≠ ld := ne_of_none hdm nld
    have ul : ud ≠ ld := ne_of_none hud nld
    have hdm := s11 _ _ hdm
    have hkd := s11 _ _ hkd
    have hud := s11 _ _ hud
    generalize upd H11 ld (.dK []) = H12 at I8' hdm hkd hud hld ⊢
    refine ⟨_, rfl, x, C, dx, _, rfl, I8'.at_, Tc.cl, Tc.at 7 rfl, II.len, ?_⟩
    obtain ⟨I9, e9⟩ := I8'.set' (y := .ref ld) (f := "lower") rfl
    have hdm := e9 _ _ hdm (fun _ _ _ z => by cases z)
    have hkd := e9 _ _ hkd (fun _ _ _ z => by cases z)
    have hud := e9 _ _ hud (fun _ _ _ z => by cases z)
    have hld := e9 _ _ hld (fun _ _ _ z => by cases z)
    clear e9
    generalize upd H12 x _ = Hb at I9 hdm hkd hud hld ⊢
    clear I0 I1 I2 I3 I4 I5 I6 I6' I7 I7' I8 I8' s4 s7 s9 s11 tk4 hal nal ndm hC6
    have tkb : ∀ {b : Addr} {xs : List V}, H b = some (.tup xs) → Hb b = some (.tup xs) := fun h => I9.ext _ _ h (nx h)
    have bud : ∀ {b : Addr} {o : HO}, Hb b = some o → o ≠ .dK [] → b ≠ ud ∧ b ≠ ld := fun h n => ⟨ne_kind h hud n, ne_kind h hld n⟩
    have hfew := ho.c.few
    refine ⟨_, rfl, x, C, dx, _, _, rfl, I9.at_, Tc.cl, Tc.at 0 rfl, II.look 0 rfl (by show 0 < 8; decide) (by show 8 ≤ 9; decide) rfl, ap, rfl, ⟨_, SqT.of (tkb h3)⟩, ?_⟩
    refine for_strs (P := D.C.P) (fun k σ H6 => ∃ (y3 y4 y5 : Option V) (us ls : List (Key × V)), σ = [some (.ref x), some (.ref c), some (.ref n), y3, y4, y5] ∧ Ext2 ud ld Hb H6 ∧ H6 ud = some (.dK us) ∧ H6 ld = some (.dK ls) ∧ us.length ≤ k ∧ ls.length ≤ k ∧ (∀ v ∈ D.C.P.take k, ∃ l, valV us (.inr v) = some (.ref l) ∧ H6 l = some (.lst ((subP D.C.P D.par D.dep v).map V.str))) ∧ (∀ v ∈ D.C.P.take k, ∃ l, valV ls (.inr v) = some (.ref l) ∧ H6 l = some (.lst ((D.kids v).map V.str))))
      ⟨_, _, _, [], [], rfl, .refl _ _ _, hud, hld, Nat.le_refl _, Nat.le_refl _, fun v hv => by simp at hv, fun v hv => by simp at hv⟩ (fun k σ H6 ⟨_, _, _, _, _, _, e6, _⟩ => ?_) (fun k v σ H6 hv ⟨y3, y4, y5, us, ls, eσ, e6, hu6, hl6, ul6, ll6, hU, hL⟩ => ?_) (fun σ H6 ⟨y3, y4, y5, us, ls, eσ, e6, hu6, hl6, ul6, ll6, hU, hL⟩ => ?_)
    · have := bud (tkb h3) (fun z => by cases z)
      exact e6 _ _ (tkb h3) this.1 this.2
    · subst eσ
      have hvP := List.mem_of_getElem? hv
      have hkl := (List.getElem?_eq_some_iff.mp hv).1
      have k6 : ∀ {b : Addr} {o : HO}, Hb b = some o → o ≠ .dK [] → H6 b = some o := fun h n => e6 _ _ h (bud h n).1 (bud h n).2
      have hM6 : MapAt H6 am D.C.P D.C.W := hM.tk fun b xs h => k6 (tkb h) (fun z => by cases z)
      refine ⟨_, rfl, _, _, _, _, rfl, rfl, SqT.of (k6 (tkb h1) (fun z => by cases z)), atI_nat (j := 0) rfl, _, rfl, am, D.C.P, D.C.W, D.r, D.par, D.dep, D.len, v, rfl, hM6, ho.ro, hvP, fun l1 H7 s7 f7 g7 => ?_⟩
      refine ⟨_, rfl, x, C, dx, _, _, rfl, s7 _ _ (k6 I9.at_ (fun z => by cases z)), Tc.cl, Tc.at 6 rfl, II.look 6 rfl (by show 6 < 8; decide) (by show 8 ≤ 9; decide) rfl, _, rfl, ud, _, rfl, DPut.k (k := Sum.inr v) (s7 _ _ hu6) (sz9 (by omega)), ?_⟩
      have hlu : l1 ≠ ud := ne_kind g7 (s7 _ _ hu6) (fun z => by cases z)
      have e8 : Ext2 ud ld Hb (upd H7 ud (.dK (putK us (Sum.inr v) (.ref l1)))) := (e6.same s7).put1
      have x8 : ∀ b o, H7 b = some o → b ≠ ud → upd H7 ud (.dK (putK us (Sum.inr v) (.ref l1))) b = some o := fun b o h n => by rw [upd_ne n]; exact h
      have u8 : upd H7 ud (.dK (putK us (Sum.inr v) (.ref l1))) ud = some (.dK (putK us (Sum.inr v) (.ref l1))) := upd_same
      generalize upd H7 ud (.dK (putK us (Sum.inr v) (.ref l1))) = H8' at e8 x8 u8 ⊢
      have k8 : ∀ {b : Addr} {o : HO}, Hb b = some o → o ≠ .dK [] → H8' b = some o := fun h n => e8 _ _ h (bud h n).1 (bud h n).2
      have hM8 : MapAt H8' am D.C.P D.C.W := hM.tk fun b xs h => k8 (tkb h) (fun z => by cases z)
      have hl8 := x8 _ _ (s7 _ _ hl6) (Ne.symm ul)
      refine ⟨_, rfl, _, _, _, _, rfl, rfl, SqT.of (k8 (tkb h1) (fun z => by cases z)), atI_nat (j := 0) rfl, _, rfl, am, D.C.P, D.C.W, D.r, D.par, D.dep, D.len, v, rfl, hM8, ho.ro, hvP, fun l2 H9' s9 f9 g9 => ?_⟩
      refine ⟨_, rfl, x, C, dx, _, _, rfl, s9 _ _ (k8 I9.at_ (fun z => by cases z)), Tc.cl, Tc.at 7 rfl, II.look 7 rfl (by show 7 < 8; decide) (by show 8 ≤ 9; decide) rfl, _, rfl, ld, _, rfl, DPut.k (k := Sum.inr v) (s9 _ _ hl8) (sz9 (by omega)), ?_⟩
      have x10 : ∀ b xs, H9' b = some (.lst xs) → upd H9' ld (.dK (putK ls (Sum.inr v) (.ref l2))) b = some (.lst xs) := fun b xs h => by rw [upd_ne (ne_kind h (s9 _ _ hl8) (fun z => by cases z))]; exact h
      have y8 : ∀ b xs, H6 b = some (.lst xs) → H8' b = some (.lst xs) := fun b xs h => x8 _ _ (s7 _ _ h) (ne_kind h hu6 (fun z => by cases z))
      refine ⟨_, _, _, putK us (Sum.inr v) (.ref l1), putK ls (Sum.inr v) (.ref l2), rfl, (e8.same s9).put2, by rw [upd_ne ul]; exact s9 _ _ u8, upd_same, Nat.le_trans (length_putK _ _ _) (Nat.succ_le_succ ul6), Nat.le_trans (length_putK _ _ _) (Nat.succ_le_succ ll6), fun u hu => ?_, fun u hu => ?_⟩
      · rw [take_snoc hv] at hu
        rw [valV_put]
        by_cases z : u = v
        · subst z
          exact ⟨l1, if_pos rfl, x10 _ _ (s9 _ _ (x8 _ _ g7 hlu))⟩
        · rw [if_neg (fun t => z (Sum.inr.inj t))]
          obtain ⟨l, b1, b2⟩ := hU u ((List.mem_append.mp hu).resolve_right (fun t => z (List.mem_singleton.mp t)))
          exact ⟨l, b1, x10 _ _ (s9 _ _ (y8 _ _ b2))⟩
      · rw [take_snoc hv] at hu
        rw [valV_put]
        by_cases z : u = v
        · subst z
          exact ⟨l2, if_pos rfl, x10 _ _ g9⟩
        · rw [if_neg (fun t => z (Sum.inr.inj t))]
          obtain ⟨l, b1, b2⟩ := hL u ((List.mem_append.mp hu).resolve_right (fun t => z (List.mem_singleton.mp t)))
          exact ⟨l, b1, x10 _ _ (s9 _ _ (y8 _ _ b2))⟩
    · subst eσ
      rw [take_len] at hU hL
      have k6 : ∀ {b : Addr} {o : HO}, Hb b = some o → o ≠ .dK [] → H6 b = some o := fun h n => e6 _ _ h (bud h n).1 (bud h n).2
      have I10 : II C H H6 x dx _ := ⟨Ext2.ext I9.ext nud0 nld0 e6, k6 I9.at_ (fun z => by cases z)⟩
      have hdm := e6 _ _ hdm dmu dml
      have hkd := k6 hkd (fun z => by cases z)
      clear e6 k6 bud hud hld tkb I9
      intro fd nfd
      have s6 := same_new (o := .dK []) nfd
      have hfd : upd H6 fd (.dK []) fd = some (.dK []) := upd_same
      have I10' := I10.grow s6
      have fx : fd ≠ x := Ne.symm (ne_of_none I10.at_ nfd)
      have nfd0 : H fd = none := I10.ext.free fx nfd
      have hdm := s6 _ _ hdm
      have hkd := s6 _ _ hkd
      have dmf : dm ≠ fd := ne_of_none (show H6 dm = _ by assumption) nfd
      have uf : ud ≠ fd := ne_of_none hu6 nfd
      have lf : ld ≠ fd := ne_of_none hl6 nfd
      have hu6 := s6 _ _ hu6
      have hl6 := s6 _ _ hl6
      have hU : ∀ v ∈ D.C.P, ∃ l, valV us (.inr v) = some (.ref l) ∧ upd H6 fd (.dK []) l = some (.lst ((subP D.C.P D.par D.dep v).map V.str)) := fun v hv => by
        obtain ⟨l, a, b⟩ := hU v hv
        exact ⟨l, a, s6 _ _ b⟩
      have hL : ∀ v ∈ D.C.P, ∃ l, valV ls (.inr v) = some (.ref l) ∧ upd H6 fd (.dK []) l = some (.lst ((D.kids v).map V.str)) := fun v hv => by
        obtain ⟨l, a, b⟩ := hL v hv
        exact ⟨l, a, s6 _ _ b⟩
      generalize upd H6 fd (.dK []) = H7 at I10' hfd hdm hkd hu6 hl6 hU hL ⊢
      refine ⟨_, rfl, x, C, dx, _, rfl, I10'.at_, Tc.cl, Tc.at 8 rfl, II.len, ?_⟩
      obtain ⟨I11, e11⟩ := I10'.set' (y := .ref fd) (f := "far_of") rfl
      have hdm := e11 _ _ hdm (fun _ _ _ z => by cases z)
      have hkd := e11 _ _ hkd (fun _ _ _ z => by cases z)
      have hu6 := e11 _ _ hu6 (fun _ _ _ z => by cases z)
      have hl6 := e11 _ _ hl6 (fun _ _ _ z => by cases z)
      have hfd := e11 _ _ hfd (fun _ _ _ z => by cases z)
      have e11' : ∀ b xs, H7 b = some (.lst xs) → _ := fun b xs h => e11 b _ h (fun _ _ _ z => by cases z)
      clear e11
      generalize upd H7 x _ = H8 at I11 hdm hkd hu6 hl6 hfd e11' ⊢
      have tk8 : ∀ {b : Addr} {xs : List V}, H b = some (.tup xs) → H8 b = some (.tup xs) := fun h => I11.ext _ _ h (nx h)
      have nfd : ∀ {b : Addr} {o : HO}, H8 b = some o → o ≠ .dK [] → b ≠ fd := fun h n => ne_kind h hfd n
      refine ⟨_, rfl, x, C, dx, _, _, rfl, I11.at_, Tc.cl, Tc.at 1 rfl, II.look 1 rfl (by show 1 < 9; decide) (by show 9 ≤ 9; decide) rfl, asi, rfl, ⟨_, SqT.of (tk8 h6)⟩, ?_⟩
      refine for_rows (rows := D.C.sites) (as := ss) (fun k σ H9 => ∃ (y3 y4 y5 : Option V) (es : List (Key × V)), σ = [some (.ref x), some (.ref c), some (.ref n), y3, y4, y5] ∧ Ext fd H8 H9 ∧ H9 fd = some (.dK es) ∧ es.length ≤ k ∧ (∀ s ∈ (D.C.sites.take k).map (·.1), ∃ e, valV es (.inr s) = some (.ref e) ∧ FarsAt H9 e D.C.P (D.far s) ∧ e ≠ fd))
        ⟨_, _, _, [], rfl, .refl _ _, hfd, Nat.le_refl _, fun s hs => by simp at hs⟩ (fun k σ H9 ⟨_, _, _, _, _, e9, _⟩ => ⟨e9 _ _ (tk8 h6) (nfd (tk8 h6) (fun z => by cases z)), h7.tk fun b xs h => e9 _ _ (tk8 h) (nfd (tk8 h) (fun z => by cases z))⟩) (fun k s0 co σ H9 hs ⟨y3, y4, y5, es, eσ, e9, hf9, el9, hE⟩ => ?_) (fun σ H9 ⟨y3, y4, y5, es, eσ, e9, hf9, el9, hE⟩ => ?_)
      · subst eσ
        have hsm := List.mem_of_getElem? hs
        have hkl := (List.getElem?_eq_some_iff.mp hs).1
        have hs1 := ho.c.s1.2
        have hsS : s0 ∈ D.S := List.mem_map.mpr ⟨_, hsm, rfl⟩
        obtain ⟨par, dep, len, t, ef⟩ := ho.fr s0 hsS
        have k9 : ∀ {b : Addr} {xs : List V}, H b = some (.tup xs) → H9 b = some (.tup xs) := fun h => e9 _ _ (tk8 h) (nfd (tk8 h) (fun z => by cases z))
        have hM9 : MapAt H9 am D.C.P D.C.W := hM.tk fun b xs h => k9 h
        refine ⟨_, rfl, _, _, _, _, rfl, rfl, SqT.of (k9 h1), atI_nat (j := 0) rfl, _, rfl, am, D.C.P, D.C.W, s0, par, dep, len, rfl, hM9, ho.ro.tree, t, by omega, ho.ro.nm, fun d H10 s10 f10 g10 => ?_⟩
        have dfd : d ≠ fd := fun z => by rw [z, hf9] at f10; cases f10
        refine ⟨_, rfl, x, C, dx, _, _, rfl, s10 _ _ (e9 _ _ I11.at_ (nfd I11.at_ (fun z => by cases z))), Tc.cl, Tc.at 8 rfl, II.look 8 rfl (by show 8 < 9; decide) (by show 9 ≤ 9; decide) rfl, _, rfl, fd, _, rfl, DPut.k (k := Sum.inr s0) (s10 _ _ hf9) (sz9 (by omega)), ?_⟩
        refine ⟨_, _, _, putK es (Sum.inr s0) (.ref d), rfl, (e9.trans (.of s10)).trans Ext.upd, upd_same, Nat.le_trans (length_putK _ _ _) (Nat.succ_le_succ el9), fun s hs' => ?_⟩
        rw [take_snoc hs, List.map_append] at hs'
        rw [valV_put]
        by_cases z : s = s0
        · subst z
          exact ⟨d, if_pos rfl, by rw [ef]; exact g10.ext Ext.upd dfd, dfd⟩
        · rw [if_neg (fun t => z (Sum.inr.inj t))]
          obtain ⟨e, b1, b2, b3⟩ := hE s ((List.mem_append.mp hs').resolve_right (fun t => z (by simpa using t)))
          exact ⟨e, b1, (b2.same s10).ext Ext.upd b3, b3⟩
      · subst eσ
        rw [take_len] at hE
        have k9 : ∀ {b : Addr} {o : HO}, H8 b = some o → o ≠ .dK [] → H9 b = some o := fun h m => e9 _ _ h (nfd h m)
        have e0 : Ext x H H9 := fun b o h m => e9 _ _ (I11.ext _ _ h m) (ne_of_none h nfd0)
        refine q H9 ⟨x, dx, ap, asi, ss, n, dm, kd, ud, ld, fd⟩ rfl e0 ⟨k9 I11.at_ (fun z => by cases z), k9 (tk8 h3) (fun z => by cases z), k9 (tk8 h6) (fun z => by cases z), h7.tk fun b xs h => k9 (tk8 h) (fun z => by cases z), ?_, ?_, ⟨_, e9 _ _ hdm dmf, fun v hv => dict_rows ho.c.fN v⟩, ⟨[], k9 hkd (fun z => by cases z), by simp, fun k hk => by simp at hk, fun p s y hy => by cases hy⟩, ⟨us, e9 _ _ hu6 uf, fun v hv => ?_⟩, ⟨ls, e9 _ _ hl6 lf, fun v hv => ?_⟩, ⟨es, hf9, fun s hs => ?_⟩⟩ nkd0
        · obtain ⟨kn, b1, b2⟩ := hN.ex
          exact ⟨kn, e0 _ _ b1 (ne_kind b1 hx (fun z => by cases z)), b2⟩
        · obtain ⟨kn, b1, b2⟩ := hN.ex
          exact ne_of_none b1 nkd0
        · obtain ⟨l, b1, b2⟩ := hU v hv
          exact ⟨l, b1, k9 (e11' _ _ b2) (fun z => by cases z)⟩
        · obtain ⟨l, b1, b2⟩ := hL v hv
          exact ⟨l, b1, k9 (e11' _ _ b2) (fun z => by cases z)⟩
        · obtain ⟨e, b1, b2, b3⟩ := hE s hs
          exact ⟨e, b1, b2, trivial⟩
end
end OH

namespace OH
open PySem PySem.Spec PyProof.Rows L2
/-- a list of rows (key, number) -/
structure TabAt (H : Hp) (l : Addr) (keys : List (Str × Str × Nat)) (num : Str → Str → Nat → Option Int) : Prop where
  ex : ∃ (as : List Addr) (zs : List (Addr × Str × Str × Nat)), zs.map (·.2) = keys ∧ H l = some (.lst (as.map V.ref)) ∧ Tups H as (zs.map fun z => [V.ref z.1, oV (num z.2.1 z.2.2.1 z.2.2.2)]) ∧ ∀ z ∈ zs, H z.1 = some (.tup (keyV z.2))
theorem TabAt.same {H H' : Hp} {l : Addr} {keys : List (Str × Str × Nat)} {num : Str → Str → Nat → Option Int} (t : TabAt H l keys num) (s : Same H H') : TabAt H' l keys num := by
  obtain ⟨as, zs, h1, h2, h3, h4⟩ := t.ex
  exact ⟨as, zs, h1, s _ _ h2, h3.tk (tk_same s), fun z hz => s _ _ (h4 z hz)⟩
def keyD (e : Str × Str × Nat) : PyData := .tuple [.str e.1, .str e.2.1, .int (e.2.2 : Int)]
theorem keyDp {K : PySem.W.Frag} {H : Hp} {a : Addr} {e : Str × Str × Nat} (h : H a = some (.tup (keyV e))) : Dp K H (.ref a) (keyD e) := .tup (SqT.of h) (.cons (.str _) (.cons (.str _) (.cons (.int _) .nil)))
theorem shaped_key {e : Str × Str × Nat} (h1 : NmOk e.1) (h2 : NmOk e.2.1) : SeqAt.shaped (keyD e) = true := by
  have h1 : PyData.strOk e.1 = true := h1
  have h2 : PyData.strOk e.2.1 = true := h2
  have h3 : PyData.depth (keyD e) ≤ 64 := by
    unfold keyD
    simp only [PyData.depth, PyData.depthAll]
    omega
  show (PyData.canLay0 (keyD e) && decide (PyData.depth (keyD e) ≤ 64)) = true
  rw [Bool.and_eq_true]
  exact ⟨by simp [keyD, PyData.canLay0, PyData.canLayAll0, h1, h2], decide_eq_true h3⟩
theorem eqv_key (e : Str × Str × Nat) : PyData.eqv (keyD e) (keyD e) = true := by
  simp [keyD, PyData.eqv, PyData.eqvAll]
def spNumber : Sp := fun vs H Q _ => ∃ a : Option Int, vs = [oV a] ∧ NN a ∧ Q (.bl true) H
def spRow : Sp := fun vs H Q _ => ∃ (a k : Addr) (q : Addr) (e : Str × Str × Nat) (x : Option Int), vs = [.ref a, .ref q] ∧ H a = some (.tup [.ref k, oV x]) ∧ H k = some (.tup (keyV e)) ∧ H q = some (.tup (keyV e)) ∧ NmOk e.1 ∧ NmOk e.2.1 ∧ NN x ∧ Q (.bl true) H
def spGreater : Sp := fun vs H Q _ => ∃ a b : Option Int, vs = [oV a, oV b] ∧ Q (.bl (!leB a b)) H
section
variable {P : Program} {w : World} {K : PySem.W.Frag} {mg : Str → Option Value} {base : Heap}
theorem cal_is_number {f : Addr} {fd : FuncData} (D : C8.Def K mg "is_number" s_is_number f fd) (b : L2.Binds K fd ["thing"] []) (T : Bt mg) : C8.Cal P w K mg base 1 "is_number" spNumber [] := by
  refine C8.cal0 D b .nil sc_is_number (fun vs H Q E h => ?_) (fun cdv A outer s H vs Q E hr h => ?_)
  · obtain ⟨a, rfl, _⟩ := h
    rfl
  · obtain ⟨a, rfl, hn, q⟩ := h
    have hu := hu_of hr
    have hu64 := hr.units
    refine ⟨_, (pss_cons (ps_if (pt_cmp (pc_isN (pv 0 rfl (.inl v_is_number_0)))) (pss_one (ps_ret pe_bl)) pss_nil)
      (pss_one (ps_ret (pe_and (pe_callB call_isi g_is_number_isinstance T.isinstance_ (by decide +kernel) (pa_cons (pv 0 rfl (.inl v_is_number_0)) (pa_cons (pe_bltn (v := .ty "int") (u := .type "int") g_is_number_int T.int_ (by decide +kernel) rfl) pa_nil))) (pe_and (pe_not (pe_callB call_isi g_is_number_isinstance T.isinstance_ (by decide +kernel) (pa_cons (pv 0 rfl (.inl v_is_number_0)) (pa_cons (pe_bltn (v := .ty "bool") (u := .type "bool") g_is_number_bool T.bool_ (by decide +kernel) rfl) pa_nil)))) (pe_one (pe_cmpR op_ge (pv 0 rfl (.inl v_is_number_0)) pe_int (nomark _)))))))), ?_⟩
    cases a with
    | none =>
      refine ⟨_, rfl, ?_⟩
      exact ⟨_, rfl, q⟩
    | some i =>
      have hi := hn i rfl
      refine ⟨_, rfl, _, rfl, ?_⟩
      refine ifF (fun z => by cases of_decide_eq_true z) ?_
      refine ⟨_, rfl, _, _, _, _, true, rfl, .ty "int", .base (.int i), kit_ty (by decide +kernel), true, rfl, ?_⟩
      refine iteT ⟨_, rfl, _, _, _, _, false, rfl, .ty "bool", .base (.int i), kit_ty (by decide +kernel), false, rfl, true, rfl, ?_⟩
      refine iteT ⟨_, rfl, _, _, rfl, rfl, ?_⟩
      show Q (.bl (decide (0 ≤ i))) H
      rw [decide_eq_true hi]
      exact q
theorem cal_is_greater {f : Addr} {fd : FuncData} (D : C8.Def K mg "is_greater" s_is_greater f fd) (b : L2.Binds K fd ["number", "due"] []) (T : Bt mg) : C8.Cal P w K mg base 1 "is_greater" spGreater [] := by
  refine C8.cal0 D b .nil sc_is_greater (fun vs H Q E h => ?_) (fun cdv A outer s H vs Q E hr h => ?_)
  · obtain ⟨a, b2, rfl, _⟩ := h
    rfl
  · obtain ⟨a, b2, rfl, q⟩ := h
    have hu := hu_of hr
    have hu64 := hr.units
    refine ⟨_, (pss_cons (ps_if (pt_cmp (pc_isN (pv 1 rfl (.inl v_is_greater_1)))) (pss_one (ps_ret pe_bl)) pss_nil)
      (pss_one (ps_ret (pe_or (pe_cmp (pc_isN (pv 0 rfl (.inl v_is_greater_0))) rfl) (pe_one (pe_cmpR op_gt (pv 0 rfl (.inl v_is_greater_0)) (pv 1 rfl (.inl v_is_greater_1)) (nomark _))))))), ?_⟩
    cases b2 with
    | none => 
      refine ⟨_, rfl, ?_⟩
      have e : leB a none = true := by cases a <;> rfl
      rw [e] at q
      exact ⟨_, rfl, q⟩
    | some y =>
      cases a with
      | none =>
        refine ⟨_, rfl, _, rfl, ?_⟩
        refine ifF (fun z => by cases of_decide_eq_true z) ?_
        refine ⟨_, rfl, true, rfl, ?_⟩
        exact q
      | some x =>
        refine ⟨_, rfl, _, rfl, ?_⟩
        refine ifF (fun z => by cases of_decide_eq_true z) ?_
        refine ⟨_, rfl, false, rfl, ?_⟩
        refine iteF ⟨_, rfl, _, rfl, _, _, rfl, rfl, ?_⟩
        have e : leB (some x) (some y) = decide (x ≤ y) := rfl
        rw [e] at q
        have e2 : decide (y < x) = !decide (x ≤ y) := by
          rw [Bool.eq_iff_iff]; simp
        show Q (.bl (decide (y < x))) H
        rw [e2]
        exact q
theorem cal_is_row {f : Addr} {fd : FuncData} (D : C8.Def K mg "is_row" s_is_row f fd) (b : L2.Binds K fd ["thing", "key"] []) (T : Bt mg) (c_is_number : C8.Cal P w K mg base 1 "is_number" spNumber []) : C8.Cal P w K mg base 2 "is_row" spRow [] := by
  refine C8.cal0 D b .nil sc_is_row (fun vs H Q E h => ?_) (fun cdv A outer s H vs Q E hr h => ?_)
  · obtain ⟨a, k, k2, e, x, rfl, _⟩ := h
    rfl
  · obtain ⟨a, k, k2, e, x, rfl, ha, hk, hk2, n1, n2, hn, q⟩ := h
    have hu := hu_of hr
    have hu64 := hr.units
    refine ⟨_, (pss_cons (ps_if (PW.pt (pw_or (pt_not (pt_val (pe_callB call_isi g_is_row_isinstance T.isinstance_ (by decide +kernel) (pa_cons (pv 0 rfl (.inl v_is_row_0)) (pa_cons (pe_bltn (v := .ty "tuple") (u := .type "tuple") g_is_row_tuple T.tuple_ (by decide +kernel) rfl) pa_nil))))) (pw_or (pt_cmpR op_ne (pe_callB call_len_seq g_is_row_len T.len_ (by decide +kernel) (pa_cons (pv 0 rfl (.inl v_is_row_0)) pa_nil)) pe_int (nomark _)) (pw_or1 (pt_cmpR (op_neD hu64) (pe_ix ix_tup (pv 0 rfl (.inl v_is_row_0)) pe_int (fun _ _ => rfl)) (pv 1 rfl (.inl v_is_row_1)) (nomark _)))))) (pss_one (ps_ret pe_bl)) pss_nil)
      (pss_cons (ps_set (i := 2) sc_is_row.nd rfl (.inl v_is_row_2) (pe_ix ix_tup (pe_ix ix_tup (pv 0 rfl (.inl v_is_row_0)) pe_int (fun _ _ => rfl)) pe_int (fun _ _ => rfl)))
      (pss_one (ps_ret (pe_and (pe_callB call_isi g_is_row_isinstance T.isinstance_ (by decide +kernel) (pa_cons (pv 2 rfl (.inl v_is_row_2)) (pa_cons (pe_bltn (v := .ty "int") (u := .type "int") g_is_row_int T.int_ (by decide +kernel) rfl) pa_nil))) (pe_and (pe_not (pe_callB call_isi g_is_row_isinstance T.isinstance_ (by decide +kernel) (pa_cons (pv 2 rfl (.inl v_is_row_2)) (pa_cons (pe_bltn (v := .ty "bool") (u := .type "bool") g_is_row_bool T.bool_ (by decide +kernel) rfl) pa_nil)))) (pe_one (C8.pe_c c_is_number hr (by decide) g_is_row_is_number (pa_cons (pe_ix ix_tup (pv 0 rfl (.inl v_is_row_0)) pe_int (fun _ _ => rfl)) pa_nil))))))))), ?_⟩
    refine ⟨_, rfl, _, _, _, _, true, rfl, .ty "tuple", .base (.tup ha), kit_ty (by decide +kernel), _, rfl, ?_⟩
    refine iteF ⟨_, rfl, a, _, rfl, .inr (SqT.of ha), rfl, _, rfl, ?_⟩
    refine iteF ⟨_, rfl, _, _, _, _, rfl, rfl, SqT.of ha, atI_nat (j := 0) rfl, _, rfl, keyD e, keyD e, keyDp hk, keyDp hk2, shaped_key n1 n2, shaped_key n1 n2, _, rfl, ?_⟩
    rw [eqv_key]
    refine iteF ?_
    refine ⟨_, rfl, _, _, _, _, rfl, rfl, SqT.of ha, atI_nat (j := 0) rfl, _, _, _, _, rfl, rfl, SqT.of hk, atI_nat (j := 2) rfl, ?_⟩
    refine ⟨_, rfl, _, _, _, _, true, rfl, .ty "int", .base (.int _), kit_ty (by decide +kernel), true, rfl, ?_⟩
    refine iteT ⟨_, rfl, _, _, _, _, false, rfl, .ty "bool", .base (.int _), kit_ty (by decide +kernel), false, rfl, true, rfl, ?_⟩
    refine iteT ⟨_, rfl, _, _, _, _, rfl, rfl, SqT.of ha, atI_nat (j := 1) rfl, x, rfl, hn, ?_⟩
    exact q
end
/-- what is asked of a table -/
def spTable : Sp := fun vs H Q _ => ∃ (c l : Addr) (D : Dt) (num : Str → Str → Nat → Option Int), vs = [.ref c, .ref l] ∧ CaseAt H c D.C ∧ D.Ok ∧ TabAt H l D.C.keysL num ∧ (∀ e ∈ D.C.keysL, NN (num e.1 e.2.1 e.2.2)) ∧ ∀ H', Same H H' → Q (.bl true) H'
theorem keysL_len {C : Cse} (o : C.Ok) : C.keysL.length ≤ 729 := by
  unfold Cse.keysL
  have h1 := o.few
  have h2 := o.s1.2
  have h3 := o.R1.2.2
  rw [flat_few (n := C.sites.length * C.R) fun p => flat_few fun s => by rw [List.length_map, List.length_range]]
  have : C.sites.length * C.R ≤ 9 * 9 := Nat.mul_le_mul h2 h3
  have := Nat.mul_le_mul h1 this
  omega
theorem mem_keysL {C : Cse} {e : Str × Str × Nat} : e ∈ C.keysL ↔ e.1 ∈ C.P ∧ e.2.1 ∈ C.sites.map (·.1) ∧ e.2.2 < C.R := by
  unfold Cse.keysL
  simp only [List.mem_flatMap, List.mem_map, List.mem_range]
  constructor
  · rintro ⟨p, hp, s, hs, m, hm, rfl⟩
    exact ⟨hp, ⟨s, hs, rfl⟩, hm⟩
  · rintro ⟨hp, ⟨s, hs, e2⟩, hm⟩
    obtain ⟨p, t, m⟩ := e
    exact ⟨p, hp, s, hs, m, hm, by rw [show s.1 = t from e2]⟩
theorem site_nm {D : Dt} (o : D.Ok) {s : Str} (h : s ∈ D.S) : NmOk s := by
  obtain ⟨e, he, rfl⟩ := List.mem_map.mp h
  exact o.c.nm _ (o.c.sP e he).1
section
variable {P : Program} {w : World} {K : PySem.W.Frag} {mg : Str → Option Value} {base : Heap}
theorem cal_is_table {f : Addr} {fd : FuncData} (D : C8.Def K mg "is_table" s_is_table f fd) (b : L2.Binds K fd ["case", "thing"] []) (T : Bt mg) (c_is_row : C8.Cal P w K mg base 2 "is_row" spRow []) (c_keys_of : C8.Cal P w K mg base 2 "keys_of" spKeys []) : C8.Cal P w K mg base 3 "is_table" spTable [] := by
  refine C8.cal0 D b .nil sc_is_table (fun vs H Q E h => ?_) (fun cdv A outer s H vs Q E hr h => ?_)
  · obtain ⟨c, l, D, num, rfl, _⟩ := h
    rfl
  · obtain ⟨c, l, D, num, rfl, hC, ho, hT, hn, q⟩ := h
    have hu := hu_of hr
    have hu64 := hr.units
    refine ⟨_, (pss_cons (ps_set (i := 2) sc_is_table.nd rfl (.inl v_is_table_2) (C8.pe_c c_keys_of hr (by decide) g_is_table_keys_of (pa_cons (pv 0 rfl (.inl v_is_table_0)) pa_nil)))
      (pss_cons (ps_if (PW.pt (pw_or (pt_not (pt_val (pe_callB call_isi g_is_table_isinstance T.isinstance_ (by decide +kernel) (pa_cons (pv 1 rfl (.inl v_is_table_1)) (pa_cons (pe_bltn (v := .ty "list") (u := .type "list") g_is_table_list T.list_ (by decide +kernel) rfl) pa_nil))))) (pw_or1 (pt_cmpR op_ne (pe_callB call_len_seq g_is_table_len T.len_ (by decide +kernel) (pa_cons (pv 1 rfl (.inl v_is_table_1)) pa_nil)) (pe_callB call_len_seq g_is_table_len T.len_ (by decide +kernel) (pa_cons (pv 2 rfl (.inl v_is_table_2)) pa_nil)) (nomark _))))) (pss_one (ps_ret pe_bl)) pss_nil)
      (pss_one (ps_ret (pe_callB (cr_all rfl) g_is_table_all T.all_ (by decide +kernel) (pa_cons (pe_lc (own := [("row", 3), ("key", 4)]) rfl sc_is_table.nd (pi_zip g_is_table_zip T.zip_ (pa_cons (pv 1 rfl (.inl v_is_table_1)) (pa_cons (pv 2 rfl (.inl v_is_table_2)) pa_nil))) (blkOk_by (own := [("row", 3), ("key", 4)]) (N := N_is_table) (sc := sc s_is_table) (by decide +kernel)) (fun _ _ _ _ _ => ((pg_tupK (K := K) (n := 2) rfl rfl (pgs_cons (pg_name (i := 3) sc_is_table.nd rfl (.inl rfl) (.inr rfl)) (pgs_cons (pg_name (i := 4) sc_is_table.nd rfl (.inl rfl) (.inr rfl)) pgs_nil))))) (fun _ _ _ _ _ => pts_nil) (fun _ _ _ _ _ => (C8.pe_c c_is_row hr (by decide) (by rfl) (pa_cons (pv 3) (pa_cons (pv 4) pa_nil))))) pa_nil)))))), ?_⟩
    have hR := ho.c.R1
    have hkl := keysL_len ho.c
    refine ⟨_, rfl, c, D.C, rfl, hC, ho.c.lim1, by omega, by omega, fun kl ks H1 s1 f1 k1 k2 => ?_⟩
    obtain ⟨as, zs, t1, t2, t3, t4⟩ := (hT.same s1).ex
    have lz : zs.length = D.C.keysL.length := by rw [← t1, List.length_map]
    have la : as.length = D.C.keysL.length := by rw [t3.len, lz]
    have lk : ks.length = D.C.keysL.length := k2.len
    refine ⟨_, rfl, _, _, _, _, true, rfl, .ty "list", .base (.lst t2), kit_ty (by decide +kernel), _, rfl, ?_⟩
    refine iteF ⟨_, rfl, l, _, rfl, .inl (SqL.of t2), _, rfl, kl, _, rfl, .inl (SqL.of k1), rfl, _, rfl, ?_⟩
    rw [List.length_map, List.length_map, la, lk, decide_eq_true rfl]
    refine iteF ?_
    refine ⟨_, rfl, _, rfl, l, kl, _, _, rfl, SqL.of t2, SqL.of k1, fun nl fnl => ?_⟩
    refine lc_it (walk_zip (n := D.C.keysL.length) (xs := as.map V.ref) (ys := ks.map V.ref) (by rw [List.length_map, List.length_map, la, lk, Nat.min_self])) (fun i H2 => LI H1 H2 nl ((List.replicate i true).map V.bl)) (LI.nil fnl) (fun i H2 _ I => ⟨SqL.of (I.same _ _ t2), SqL.of (I.same _ _ k1)⟩) (fun i v H2 H3 hi I hy => ?_) (fun H2 I => ?_)
    · obtain ⟨T1, x, y, rfl, hT1, rfl, hx, hy⟩ := hy
      obtain ⟨z, hz⟩ : ∃ z, zs[i]? = some z := ⟨_, List.getElem?_eq_getElem (by rw [lz]; exact hi)⟩
      have he : D.C.keysL[i]? = some z.2 := by rw [← t1, List.getElem?_map, hz]; rfl
      obtain ⟨ra, r1, r2⟩ := t3.at hz
      obtain ⟨rk, r3, r4⟩ := k2.at he
      have hx : (as.map V.ref)[i]? = some x := hx
      have hy : (ks.map V.ref)[i]? = some y := hy
      rw [List.getElem?_map, r1] at hx
      rw [List.getElem?_map, r3] at hy
      cases hx
      cases hy
      have s3 := same_new (o := .tup [V.ref ra, V.ref rk]) hT1
      have s4 := I.same.trans s3
      have hzk := t4 z (List.mem_of_getElem? hz)
      have hzm := List.mem_of_getElem? he
      obtain ⟨m1, m2, m3⟩ := mem_keysL.mp hzm
      refine ⟨T1, _, rfl, SqT.of upd_same, rfl, _, _, rfl, _, _, rfl, rfl, rfl, ?_⟩
      refine iteT (B := LI H1 (upd H2 T1 (.tup [V.ref ra, V.ref rk])) nl ((List.replicate (i + 1) true).map V.bl)) ?_
      refine ⟨_, rfl, _, rfl, ra, z.1, rk, z.2, _, rfl, s4 _ _ r2, s4 _ _ hzk, s4 _ _ r4, ho.c.nm _ m1, site_nm ho m2, hn _ hzm, _, s3 _ _ I.at_, sz9 (by rw [List.length_map, List.length_replicate]; omega), ?_⟩
      have e1 : (List.replicate (i + 1) true).map V.bl = (List.replicate i true).map V.bl ++ [V.bl true] := by
        rw [List.replicate_succ', List.map_append]; rfl
      rw [e1]
      exact (I.grow s3).put
    · refine ⟨nl, List.replicate D.C.keysL.length true, rfl, SqL.of I.at_, ?_⟩
      have e1 : (List.replicate D.C.keysL.length true).all id = true := by simp
      rw [e1]
      exact q H2 (s1.trans I.same)
end
end OH

namespace OH
open PySem PySem.Spec PyProof.Rows L2
theorem mergeT_keep {k : List Key} {v : V} : ∀ {rows : List (List Key × Addr × V)} {acc : List (List Key × V)}, (∀ r ∈ rows, r.1 = k → r.2.2 = v) → valV acc k = some v → valV (mergeT acc rows) k = some v
  | [], acc, _, h => h
  | r :: rows, acc, hr, h => by
    refine mergeT_keep (acc := putK acc r.1 r.2.2) (fun x hx => hr x (List.mem_cons_of_mem _ hx)) ?_
    rw [valV_put]
    by_cases q : k = r.1
    · rw [if_pos q, hr r List.mem_cons_self q.symm]
    · rw [if_neg q]; exact h
theorem mergeT_get {k : List Key} {v : V} : ∀ {rows : List (List Key × Addr × V)} {acc : List (List Key × V)}, (∀ r ∈ rows, r.1 = k → r.2.2 = v) → (∃ r ∈ rows, r.1 = k) → valV (mergeT acc rows) k = some v
  | [], acc, _, h => by obtain ⟨r, h, _⟩ := h; cases h
  | r :: rows, acc, hr, h => by
    by_cases q : r.1 = k
    · refine mergeT_keep (acc := putK acc r.1 r.2.2) (fun x hx => hr x (List.mem_cons_of_mem _ hx)) ?_
      rw [valV_put, if_pos q.symm, hr r List.mem_cons_self q]
    · refine mergeT_get (acc := putK acc r.1 r.2.2) (fun x hx => hr x (List.mem_cons_of_mem _ hx)) ?_
      obtain ⟨x, hx, e⟩ := h
      rcases List.mem_cons.mp hx with z | z
      · exact absurd (z ▸ e) q
      · exact ⟨x, z, e⟩
theorem keyK_inj {e f : Str × Str × Nat} (h : keyK e = keyK f) : e = f := by
  obtain ⟨a, b, c⟩ := e
  obtain ⟨a', b', c'⟩ := f
  unfold keyK at h
  injection h with h1 h2
  injection h2 with h2 h3
  injection h3 with h3 h4
  have e1 := Sum.inr.inj h1
  have e2 := Sum.inr.inj h2
  have e3 := Sum.inl.inj h3
  dsimp only at e1 e2 e3
  rw [e1, e2, Int.natCast_inj.mp e3]
def dictRows (num : Str → Str → Nat → Option Int) (zs : List (Addr × Str × Str × Nat)) : List (List Key × Addr × V) := zs.map fun z => (keyK z.2, z.1, oV (num z.2.1 z.2.2.1 z.2.2.2))
theorem dictRows_num {C : Cse} {num : Str → Str → Nat → Option Int} {zs : List (Addr × Str × Str × Nat)} (h : zs.map (·.2) = C.keysL) : NumK (mergeT [] (dictRows num zs)) C.P (C.sites.map (·.1)) C.R num := by
  intro p hp s hs m hm
  have hk : (p, s, m) ∈ C.keysL := mem_keysL.mpr ⟨hp, hs, hm⟩
  rw [← h] at hk
  obtain ⟨z, hz, ez⟩ := List.mem_map.mp hk
  refine mergeT_get (fun r hr e => ?_) ⟨_, List.mem_map.mpr ⟨z, hz, rfl⟩, by rw [ez]⟩
  obtain ⟨y, hy, rfl⟩ := List.mem_map.mp hr
  have := keyK_inj e
  dsimp only at this ⊢
  rw [this]
theorem paired_dict {K : PySem.W.Frag} {H : Hp} {num : Str → Str → Nat → Option Int} : ∀ {as : List Addr} {zs : List (Addr × Str × Str × Nat)}, Tups H as (zs.map fun z => [V.ref z.1, oV (num z.2.1 z.2.2.1 z.2.2.2)]) → Paired (fun p r => SqT K H p [.ref r.2.1, r.2.2]) as (dictRows num zs)
  | _, [], t => by cases t; exact .nil
  | _, z :: zs, t => by
    rw [List.map_cons] at t
    cases t with
    | cons h t => exact .cons (SqT.of h) (paired_dict t)
theorem judged_keys {C : Cse} {num due : Str → Str → Nat → Option Int} : judged C.P C.sites C.R num due = !((C.keysL.map fun e => !leB (num e.1 e.2.1 e.2.2) (due e.1 e.2.1 e.2.2)).any id) := by
  rw [Bool.eq_iff_iff, judged_iff, Bool.not_eq_true', List.any_eq_false]
  constructor
  · intro h b hb
    obtain ⟨e, he, rfl⟩ := List.mem_map.mp hb
    obtain ⟨h1, h2, h3⟩ := mem_keysL.mp he
    obtain ⟨sc, h4, h5⟩ := List.mem_map.mp h2
    have := h e.1 h1 sc h4 e.2.2 h3
    rw [h5] at this
    have this : leB (num e.1 e.2.1 e.2.2) (due e.1 e.2.1 e.2.2) = true := this
    simp [this]
  · intro h p hp sc hs m hm
    have := h _ (List.mem_map.mpr ⟨(p, sc.1, m), mem_keysL.mpr ⟨hp, List.mem_map.mpr ⟨sc, hs, rfl⟩, hm⟩, rfl⟩)
    show leB _ _ = true
    simpa using this
theorem KnownAt.bools {H : Hp} {kd nl : Addr} {D : Dt} {num : Str → Str → Nat → Option Int} {bs : List Bool} {o : HO} (k : KnownAt H kd D num) (hn : H nl = some (.lst (bs.map V.bl))) (hR : 1 ≤ D.C.R) : KnownAt (upd H nl o) kd D num := by
  obtain ⟨kvs, h1, h2, h3, h4⟩ := k.ex
  refine ⟨kvs, by rw [upd_ne (ne_kind h1 hn (fun z => by cases z))]; exact h1, h2, h3, fun p s x hx => ?_⟩
  obtain ⟨l, e, ls, a, b1, b2⟩ := h4 p s x hx
  refine ⟨l, e, ls, a, ?_, ?_⟩
  · rw [upd_ne (ne_kind b1 hn fun z => ?_)]
    · exact b1
    · injection z with z
      have hm : V.ref a ∈ bs.map V.bl := by rw [← z]; exact List.mem_append_right _ (List.mem_singleton.mpr rfl)
      obtain ⟨c, _, hc⟩ := List.mem_map.mp hm
      cases hc
  · rw [upd_ne (ne_kind b2 hn fun z => ?_)]
    · exact b2
    · injection z with z
      have hm : oV (D.sums num p s 0) ∈ bs.map V.bl := by rw [← z]; exact List.mem_map.mpr ⟨0, List.mem_range.mpr hR, rfl⟩
      obtain ⟨c, _, hc⟩ := List.mem_map.mp hm
      cases hh : D.sums num p s 0 <;> (rw [hh] at hc; cases hc)
def spHolds : Sp := fun vs H Q _ => ∃ (c l : Addr) (D : Dt) (num : Str → Str → Nat → Option Int), vs = [.ref c, .ref l] ∧ CaseAt H c D.C ∧ D.Ok ∧ TabAt H l D.C.keysL num ∧ (∀ e ∈ D.C.keysL, NN (num e.1 e.2.1 e.2.2)) ∧ ∀ H', Same H H' → Q (.bl (judged D.C.P D.C.sites D.C.R num (D.due num))) H'
def spLow : Sp := fun vs H Q _ => ∃ (c l : Addr) (D : Dt) (num : Str → Str → Nat → Option Int), vs = [.ref c, .ref l] ∧ CaseAt H c D.C ∧ D.Ok ∧ TabAt H l D.C.keysL num ∧ ∀ H', Same H H' → Q (oV (lowest D.C.sites D.und num D.r D.C.R)) H'
section
variable {P : Program} {w : World} {K : PySem.W.Frag} {mg : Str → Option Value} {base : Heap} {C : Addr}
theorem cal_holds {f : Addr} {fd : FuncData} (D : C8.Def K mg "holds" s_holds f fd) (b : L2.Binds K fd ["case", "table"] []) (T : Bt mg) (c_is_greater : C8.Cal P w K mg base 1 "is_greater" spGreater []) (c_is_table : C8.Cal P w K mg base 3 "is_table" spTable []) (c_need_tree : C8.Cal P w K mg base 2 "need_tree" spNeed []) (m_R : C8.Mak P w K mg base 4 "Reckoner" C (spRinit C) []) (m_due : C8.Met P w K mg base 6 C "due" (spRdue C) []) : C8.Cal P w K mg base 7 "holds" spHolds [] := by
  refine C8.cal0 D b .nil sc_holds (fun vs H Q E h => ?_) (fun cdv A outer s H vs Q E hr h => ?_)
  · obtain ⟨c, l, D, num, rfl, _⟩ := h
    rfl
  · obtain ⟨c, l, D, num, rfl, hC, ho, hT, hn, q⟩ := h
    have hu := hu_of hr
    have hu64 := hr.units
    refine ⟨_, (pss_cons (ps_expr (C8.pe_c c_need_tree hr (by decide) g_holds_need_tree (pa_cons (pv 0 rfl (.inl v_holds_0)) pa_nil)))
      (pss_cons (ps_if (pt_not (pt_val (C8.pe_c c_is_table hr (by decide) g_holds_is_table (pa_cons (pv 0 rfl (.inl v_holds_0)) (pa_cons (pv 1 rfl (.inl v_holds_1)) pa_nil))))) (pss_one (ps_ret pe_bl)) pss_nil)
      (pss_cons (ps_set (i := 2) sc_holds.nd rfl (.inr v_holds_2) (C8.pe_mk m_R hr (by decide) g_holds_Reckoner (pa_cons (pv 0 rfl (.inl v_holds_0)) (pa_cons (pe_callTy (call_dictT rfl hu64) g_holds_dict T.dict_ (by decide +kernel) (pa_cons (pv 1 rfl (.inl v_holds_1)) pa_nil)) pa_nil))))
      (pss_one (ps_ret (pe_not (pe_callB (cr_any rfl) g_holds_any T.any_ (by decide +kernel) (pa_cons (pe_lc (own := [("key", 3), ("number", 4)]) rfl sc_holds.nd (pi_list (pv 1 rfl (.inl v_holds_1))) (blkOk_by (own := [("key", 3), ("number", 4)]) (N := N_holds) (sc := sc s_holds) (by decide +kernel)) (fun _ _ _ _ _ => ((pg_tupK (K := K) (n := 2) rfl rfl (pgs_cons (pg_name (i := 3) sc_holds.nd rfl (.inl rfl) (.inr rfl)) (pgs_cons (pg_name (i := 4) sc_holds.nd rfl (.inl rfl) (.inr rfl)) pgs_nil))))) (fun _ _ _ _ _ => pts_nil) (fun _ _ _ _ _ => (C8.pe_c c_is_greater hr (by decide) (by rfl) (pa_cons (pv 4) (pa_cons (C8.pe_mt m_due hr (by decide) (pv 2) (pa_cons (pe_ix (ix_tupK (K := K) rfl) (pv 3) pe_int (fun _ _ => rfl)) (pa_cons (pe_ix (ix_tupK (K := K) rfl) (pv 3) pe_int (fun _ _ => rfl)) (pa_cons (pe_ix (ix_tupK (K := K) rfl) (pv 3) pe_int (fun _ _ => rfl)) pa_nil)))) pa_nil))))) pa_nil)))))))), ?_⟩
    have hR := ho.c.R1
    have hkl := keysL_len ho.c
    refine ⟨_, rfl, c, D.C, rfl, hC, ho.ro.tree.len, ?_⟩
    refine ⟨_, rfl, _, rfl, c, l, D, num, rfl, hC, ho, hT, hn, fun H1 s1 => ⟨_, rfl, ?_⟩⟩
    refine iteF ?_
    obtain ⟨as, zs, t1, t2, t3, t4⟩ := (hT.same s1).ex
    refine ⟨_, rfl, _, rfl, l, as, dictRows num zs, rfl, SqL.of t2, paired_dict t3, fun r hr => ?_, fun nd fnd => ?_⟩
    · obtain ⟨z, hz, rfl⟩ := List.mem_map.mp hr
      exact t4 z hz
    · have s2 := same_new (o := .dT (mergeT [] (dictRows num zs))) fnd
      have hnd : upd H1 nd (.dT (mergeT [] (dictRows num zs))) nd = some (.dT (mergeT [] (dictRows num zs))) := upd_same
      generalize upd H1 nd (.dT (mergeT [] (dictRows num zs))) = H2 at s2 hnd ⊢
      intro x dx fx fdx ndx
      have s3 : Same H2 (upd (upd H2 dx (.own x)) x (.ins C dx [])) := (same_new fdx).trans (same_new (by rw [upd_ne (Ne.symm ndx)]; exact fx))
      have hx3 : upd (upd H2 dx (.own x)) x (.ins C dx []) x = some (.ins C dx []) := upd_same
      generalize upd (upd H2 dx (.own x)) x (.ins C dx []) = H3 at s3 hx3 ⊢
      refine ⟨x, c, nd, dx, D, num, rfl, hx3, hC.tk (tk_same ((s1.trans s2).trans s3)), ⟨_, s3 _ _ hnd, dictRows_num t1⟩, ho, fun H4 A eA e4 k4 fkd => ⟨rfl, ?_⟩⟩
      have s4 : Same H2 H4 := fun b o h => e4 _ _ (s3 _ _ h) (ne_of_none h fx)
      have fkd2 : H2 A.kd = none := s3.free fkd
      have t2' := s4 _ _ (s2 _ _ t2)
      have t3' := t3.tk (tk_same (s2.trans s4))
      subst eA
      refine ⟨_, rfl, l, rfl, ⟨_, SqL.of t2'⟩, fun nl fnl => ?_⟩
      have la : (as.map V.ref).length = D.C.keysL.length := by rw [List.length_map, t3.len, ← t1, List.length_map]
      refine lc_it (walk_list (a := l) (xs := as.map V.ref)) (fun i H5 => (Ext A.kd H4 H5 ∧ KnownAt H5 A.kd D num ∧ H5 nl = some (.lst (((D.C.keysL.take i).map fun e => !leB (num e.1 e.2.1 e.2.2) (D.due num e.1 e.2.1 e.2.2)).map V.bl)))) ⟨.of (same_new fnl), k4.kn.same (same_new fnl), upd_same⟩ (fun i H5 _ I => ?_) (fun i v H5 H6 hi I hy => ?_) (fun H5 I => ?_)
      · obtain ⟨ks, hk, _⟩ := k4.kn.ex
        exact SqL.of (I.1.ne hk t2' (fun z => by cases z))
      · obtain ⟨I1, I2, I3⟩ := I
        obtain ⟨rfl, hv⟩ := hy
        obtain ⟨ks, hk, _⟩ := k4.kn.ex
        rw [la] at hi
        obtain ⟨e, he⟩ : ∃ e, D.C.keysL[i]? = some e := ⟨_, List.getElem?_eq_getElem hi⟩
        obtain ⟨z, hz, ez⟩ : ∃ z, zs[i]? = some z ∧ z.2 = e := by
          rw [← t1, List.getElem?_map] at he
          cases hz : zs[i]? with
          | none => rw [hz] at he; cases he
          | some z => rw [hz] at he; exact ⟨z, rfl, Option.some.inj he⟩
        subst ez
        obtain ⟨ra, r1, r2⟩ := t3'.at hz
        rw [List.getElem?_map, r1] at hv
        cases hv
        have hzk := t4 z (List.mem_of_getElem? hz)
        obtain ⟨m1, m2, m3⟩ := mem_keysL.mp (List.mem_of_getElem? he)
        have j1 := I1.ne hk r2 (fun z => by cases z)
        have j2 := I1.ne hk (s4 _ _ (s2 _ _ hzk)) (fun z => by cases z)
        refine ⟨ra, _, rfl, SqT.of j1, rfl, _, _, rfl, _, _, rfl, rfl, rfl, ?_⟩
        refine iteT (B := (Ext A.kd H4 H6 ∧ KnownAt H6 A.kd D num ∧ H6 nl = some (.lst (((D.C.keysL.take (i + 1)).map fun e => !leB (num e.1 e.2.1 e.2.2) (D.due num e.1 e.2.1 e.2.2)).map V.bl)))) ?_
        have k6 := k4.ext I1 I2
        refine ⟨_, rfl, _, rfl, A.r, A.dx, _, rfl, k6.ins, RA.nolook (by decide +kernel), _, rfl, _, _, _, _, rfl, rfl, SqT.of j2, atI_nat (j := 0) rfl, _, rfl, _, _, _, _, rfl, rfl, SqT.of j2, atI_nat (j := 1) rfl, _, rfl, _, _, _, _, rfl, rfl, SqT.of j2, atI_nat (j := 2) rfl, A, D, num, z.2.1, z.2.2.1, z.2.2.2, rfl, k6, ho, m1, m2, m3, fun H7 e7 k7 => ?_⟩
        have nlk : nl ≠ A.kd := ne_kind I3 k6.kn.ex.choose_spec.1 (fun z => by cases z)
        have h7 := e7 _ _ I3 nlk
        refine ⟨num z.2.1 z.2.2.1 z.2.2.2, _, rfl, _, h7, sz9 (by rw [List.length_map, List.length_map, List.length_take]; omega), (I1.trans e7).mut fnl, k7.kn.bools h7 hR.1, ?_⟩
        rw [upd_same, take_snoc he, List.map_append, List.map_append]
        rfl
      · obtain ⟨I1, I2, I3⟩ := I
        rw [la, take_len] at I3
        refine ⟨nl, _, rfl, SqL.of I3, _, rfl, ?_⟩
        rw [← judged_keys]
        refine q H5 (fun b o h => ?_)
        have h4 := s4 _ _ ((s1.trans s2) _ _ h)
        exact I1 _ _ h4 (ne_of_none ((s1.trans s2) _ _ h) fkd2)
theorem cal_low_of {f : Addr} {fd : FuncData} (D : C8.Def K mg "low_of" s_low_of f fd) (b : L2.Binds K fd ["case", "table"] []) (T : Bt mg) (c_mores_of : C8.Cal P w K mg base 1 "mores_of" spMores []) (c_need_tree : C8.Cal P w K mg base 2 "need_tree" spNeed []) (m_R : C8.Mak P w K mg base 4 "Reckoner" C (spRinit C) []) (m_low : C8.Met P w K mg base 3 C "low" (spRlow C) []) : C8.Cal P w K mg base 6 "low_of" spLow [] := by
  refine C8.cal0 D b .nil sc_low_of (fun vs H Q E h => ?_) (fun cdv A outer s H vs Q E hr h => ?_)
  · obtain ⟨c, l, D, num, rfl, _⟩ := h
    rfl
  · obtain ⟨c, l, D, num, rfl, hC, ho, hT, q⟩ := h
    have hu := hu_of hr
    have hu64 := hr.units
    refine ⟨_, (pss_cons (ps_expr (C8.pe_c c_need_tree hr (by decide) g_low_of_need_tree (pa_cons (pv 0 rfl (.inl v_low_of_0)) pa_nil)))
      (pss_one (ps_ret (C8.pe_mt m_low hr (by decide) (C8.pe_mk m_R hr (by decide) g_low_of_Reckoner (pa_cons (pv 0 rfl (.inl v_low_of_0)) (pa_cons (pe_callTy (call_dictT rfl hu64) g_low_of_dict T.dict_ (by decide +kernel) (pa_cons (pv 1 rfl (.inl v_low_of_1)) pa_nil)) pa_nil))) (pa_cons (C8.pe_c c_mores_of hr (by decide) g_low_of_mores_of (pa_cons (pv 0 rfl (.inl v_low_of_0)) pa_nil)) pa_nil))))), ?_⟩
    have hR := ho.c.R1
    obtain ⟨as, zs, t1, t2, t3, t4⟩ := hT.ex
    refine ⟨_, rfl, c, D.C, rfl, hC, ho.ro.tree.len, ?_⟩
    refine ⟨_, rfl, _, rfl, l, as, dictRows num zs, rfl, SqL.of t2, paired_dict t3, fun r hr => ?_, fun nd fnd => ?_⟩
    · obtain ⟨z, hz, rfl⟩ := List.mem_map.mp hr
      exact t4 z hz
    · have s2 := same_new (o := .dT (mergeT [] (dictRows num zs))) fnd
      have hnd : upd H nd (.dT (mergeT [] (dictRows num zs))) nd = some (.dT (mergeT [] (dictRows num zs))) := upd_same
      generalize upd H nd (.dT (mergeT [] (dictRows num zs))) = H2 at s2 hnd ⊢
      intro x dx fx fdx ndx
      have s3 : Same H2 (upd (upd H2 dx (.own x)) x (.ins C dx [])) := (same_new fdx).trans (same_new (by rw [upd_ne (Ne.symm ndx)]; exact fx))
      have hx3 : upd (upd H2 dx (.own x)) x (.ins C dx []) x = some (.ins C dx []) := upd_same
      generalize upd (upd H2 dx (.own x)) x (.ins C dx []) = H3 at s3 hx3 ⊢
      refine ⟨x, c, nd, dx, D, num, rfl, hx3, hC.tk (tk_same (s2.trans s3)), ⟨_, s3 _ _ hnd, dictRows_num t1⟩, ho, fun H4 A eA e4 k4 fkd => ⟨rfl, ?_⟩⟩
      have s4 : Same H2 H4 := fun b o h => e4 _ _ (s3 _ _ h) (ne_of_none h fx)
      subst eA
      exact ⟨A.r, A.dx, _, rfl, k4.ins, RA.nolook (by decide +kernel), _, rfl, c, D.C, rfl, hC.tk (tk_same (s2.trans s4)), ho.c.lim1, A, D, num, rfl, k4, ho, fun H5 s5 => q H5 ((s2.trans s4).trans s5)⟩
end
end OH

namespace OH
open PySem PySem.Spec PyProof.Rows L2
/-! ### the script and what is drawn from it -/
structure StD (H : Hp) (st x : Addr) : Prop where
  ex : ∃ (kvs : List (Key × V)) (k l : Int), H st = some (.dK kvs) ∧ kvs.length ≤ 3 ∧ valV kvs (.inr "script") = some (.ref x) ∧ valV kvs (.inr "at") = some (.int k) ∧ valV kvs (.inr "left") = some (.int l)
structure StAt (K : PySem.W.Frag) (H : Hp) (st x : Addr) (ns : List Int) : Prop where
  d : StD H st x
  s : SqL K H x (ns.map V.int)
theorem StD.ext {H H' : Hp} {st x p : Addr} (d : StD H st x) (e : Ext p H H') (n : st ≠ p) : StD H' st x := by
  obtain ⟨kvs, k, l, h1, h2⟩ := d.ex
  exact ⟨kvs, k, l, e _ _ h1 n, h2⟩
theorem StD.same {H H' : Hp} {st x : Addr} (d : StD H st x) (e : Same H H') : StD H' st x := by
  obtain ⟨kvs, k, l, h1, h2⟩ := d.ex
  exact ⟨kvs, k, l, e _ _ h1, h2⟩
theorem StD.put {H : Hp} {st x p : Addr} {o : HO} (d : StD H st x) (hp : H p = none) {H' : Hp} (e : Ext p H H') : StD H' st x := by
  obtain ⟨kvs, k, l, h1, h2⟩ := d.ex
  exact ⟨kvs, k, l, e _ _ h1 (ne_of_none h1 hp), h2⟩
theorem StD.ne {H : Hp} {st x p : Addr} (d : StD H st x) (hp : H p = none) : st ≠ p := by
  obtain ⟨kvs, k, l, h1, h2⟩ := d.ex
  exact ne_of_none h1 hp
theorem StD.nl {H : Hp} {st x p : Addr} {xs : List V} (d : StD H st x) (hp : H p = some (.lst xs)) : st ≠ p := by
  obtain ⟨kvs, k, l, h1, h2⟩ := d.ex
  exact ne_kind h1 hp (fun z => by cases z)
theorem SqL.extK {K : PySem.W.Frag} {H H' : Hp} {st x a : Addr} {xs : List V} (d : StD H st x) (e : Ext st H H') (h : SqL K H a xs) : SqL K H' a xs := by
  obtain ⟨kvs, k, l, h1, h2⟩ := d.ex
  rcases h with (h | ⟨o, h⟩) | h
  · exact .inl (.inl (e _ _ h (ne_kind h h1 (fun z => by cases z))))
  · exact .inl (.inr ⟨o, e _ _ h (ne_kind h h1 (fun z => by cases z))⟩)
  · exact .inr h
theorem StAt.ext {K : PySem.W.Frag} {H H' : Hp} {st x : Addr} {ns : List Int} (t : StAt K H st x ns) (e : Ext st H H') (d : StD H' st x) : StAt K H' st x ns := ⟨d, SqL.extK t.d e t.s⟩
theorem StAt.same {K : PySem.W.Frag} {H H' : Hp} {st x : Addr} {ns : List Int} (t : StAt K H st x ns) (e : Same H H') : StAt K H' st x ns := t.ext (.of e) (t.d.same e)
def spBegin : Sp := fun vs H Q _ => ∃ x : Addr, vs = [.ref x] ∧ ∀ st H', Same H H' → H st = none → StD H' st x → Q (.ref st) H'
def spMixed : Sp := fun vs H Q _ => ∃ c k : Int, vs = [.int c, .int k] ∧ ∀ n : Int, Q (.int n) H
def spTake (K : PySem.W.Frag) : Sp := fun vs H Q _ => ∃ (st x : Addr) (ns : List Int) (m : Int), vs = [.ref st, .int m] ∧ StAt K H st x ns ∧ 1 ≤ m ∧ m ≤ 10000 ∧ ∀ (n : Nat) H', (n : Int) < m → Ext st H H' → StAt K H' st x ns → Q (.int (n : Int)) H'
theorem mod_nat {a m : Int} (h : 1 ≤ m) : ∃ n : Nat, a % m = (n : Int) ∧ (n : Int) < m := by
  have h1 := Int.emod_nonneg a (show m ≠ 0 by omega)
  have h2 := Int.emod_lt_of_pos a (show 0 < m by omega)
  exact ⟨(a % m).toNat, by omega, by omega⟩
section
variable {P : Program} {w : World} {K : PySem.W.Frag} {mg : Str → Option Value} {base : Heap}
theorem cal_Lbegin {f : Addr} {fd : FuncData} (D : C8.Def K mg "_law_begin" s_Lbegin f fd) (b : L2.Binds K fd ["_law_script"] []) (T : Bt mg) : C8.Cal P w K mg base 1 "_law_begin" spBegin [] := by
  refine C8.cal0 D b .nil sc_Lbegin (fun vs H Q E h => ?_) (fun cdv A outer s H vs Q E hr h => ?_)
  · obtain ⟨x, rfl, _⟩ := h
    rfl
  · obtain ⟨x, rfl, q⟩ := h
    have hu := hu_of hr
    have hu64 := hr.units
    refine ⟨_, (pss_one (ps_ret (pe_disp (pps_cons pe_str (pv 0 rfl (.inl v_Lbegin_0)) (pps_cons pe_str pe_int (pps_cons pe_str pe_int pps_nil))) (by rfl) (by rfl) (fun z => by cases z) (by decide)))), ?_⟩
    intro st fs
    refine ⟨_, rfl, upd_same, [(Sum.inr "script", V.ref x), (Sum.inr "at", V.int 0), (Sum.inr "left", V.int 0)], rfl, (by show 3 ≤ 15; decide), ?_⟩
    rw [upd_upd]
    refine q st _ (same_new fs) fs ⟨_, 0, 0, upd_same, length_mergeK _ _, ?_, ?_, ?_⟩
    · rfl
    · rfl
    · rfl
theorem cal_Lmixed {f : Addr} {fd : FuncData} (D : C8.Def K mg "_law_mixed" s_Lmixed f fd) (b : L2.Binds K fd ["_law_cell", "_law_k"] []) (T : Bt mg) : C8.Cal P w K mg base 1 "_law_mixed" spMixed [] := by
  refine C8.cal0 D b .nil sc_Lmixed (fun vs H Q E h => ?_) (fun cdv A outer s H vs Q E hr h => ?_)
  · obtain ⟨c, k, rfl, _⟩ := h
    rfl
  · obtain ⟨c, k, rfl, q⟩ := h
    have hu := hu_of hr
    have hu64 := hr.units
    refine ⟨_, (pss_cons (ps_set (i := 2) sc_Lmixed.nd rfl (.inl v_Lmixed_2) (pe_op op_mod (pe_op op_mul (pe_op op_add (pe_op op_add (pe_op op_mod (pv 0 rfl (.inl v_Lmixed_0)) pe_int) (pe_op op_mul pe_int (pv 1 rfl (.inl v_Lmixed_1)))) pe_int) pe_int) pe_int))
      (pss_cons (ps_set (i := 3) sc_Lmixed.nd rfl (.inl v_Lmixed_3) (pe_op op_mod (pe_op op_add (pe_op op_add (pe_op op_mul (pv 2 rfl (.inl v_Lmixed_2)) (pv 2 rfl (.inl v_Lmixed_2))) (pe_op op_mul pe_int (pv 2 rfl (.inl v_Lmixed_2)))) (pv 1 rfl (.inl v_Lmixed_1))) pe_int))
      (pss_one (ps_ret (pe_op op_fdivW (pe_op op_mod (pe_op op_add (pe_op op_add (pe_op op_mul (pv 3 rfl (.inl v_Lmixed_3)) (pv 3 rfl (.inl v_Lmixed_3))) (pe_op op_mul pe_int (pv 3 rfl (.inl v_Lmixed_3)))) (pe_op op_mul pe_int (pv 1 rfl (.inl v_Lmixed_1)))) pe_int) pe_int))))), ?_⟩
    have pos : ∀ n : Int, 0 < n → (fun _ j : Int => 0 < j) k n := fun n h => h
    refine ⟨_, rfl, _, _, rfl, rfl, (by show (0 : Int) < 2147483629; decide), _, rfl, _, _, rfl, rfl, .inl ⟨by decide, by decide⟩, _, _, rfl, rfl, _, _, rfl, rfl, _, _, rfl, rfl, .inr ⟨by decide, by decide⟩, _, _, rfl, rfl, (by show (0 : Int) < 2147483647; decide), ?_⟩
    obtain ⟨n1, e1, b1⟩ := mod_nat (a := (c % 2147483629 + 40503 * k + 12345) * 48271) (m := 2147483647) (by decide)
    simp only [e1]
    have c1 : CMul (n1 : Int) (n1 : Int) := .inl ⟨by omega, by omega⟩
    refine ⟨_, rfl, _, rfl, _, _, rfl, rfl, c1, _, rfl, _, _, rfl, rfl, .inl ⟨by decide, by decide⟩, _, _, rfl, rfl, _, rfl, _, _, rfl, rfl, _, _, rfl, rfl, (by show (0 : Int) < 2147483629; decide), ?_⟩
    obtain ⟨n2, e2, b2⟩ := mod_nat (a := (n1 : Int) * n1 + 69621 * n1 + k) (m := 2147483629) (by decide)
    simp only [e2]
    have c2 : CMul (n2 : Int) (n2 : Int) := .inl ⟨by omega, by omega⟩
    refine ⟨_, rfl, _, rfl, _, _, rfl, rfl, c2, _, rfl, _, _, rfl, rfl, .inl ⟨by decide, by decide⟩, _, _, rfl, rfl, _, rfl, _, _, rfl, rfl, .inl ⟨by decide, by decide⟩, _, _, rfl, rfl, _, _, rfl, rfl, (by show (0 : Int) < 1073741789; decide), _, _, rfl, rfl, wide_div (b := 10) (by decide) (by decide) (by decide) (by decide), ?_⟩
    exact q _
theorem cal_Ltake {f : Addr} {fd : FuncData} (D : C8.Def K mg "_law_take" s_Ltake f fd) (b : L2.Binds K fd ["_law_state", "_law_most"] []) (T : Bt mg) (c_Lmixed : C8.Cal P w K mg base 1 "_law_mixed" spMixed []) : C8.Cal P w K mg base 2 "_law_take" (spTake K) [] := by
  refine C8.cal0 D b .nil sc_Ltake (fun vs H Q E h => ?_) (fun cdv A outer s H vs Q E hr h => ?_)
  · obtain ⟨st, x, ns, m, rfl, _⟩ := h
    rfl
  · obtain ⟨st, x, ns, m, rfl, ht, hm1, hm2, q⟩ := h
    have hu := hu_of hr
    have hu64 := hr.units
    refine ⟨_, (pss_cons (ps_set (i := 2) sc_Ltake.nd rfl (.inl v_Ltake_2) (pe_dget hu (pv 0 rfl (.inl v_Ltake_0)) pe_str (fun _ _ => rfl)))
      (pss_cons (ps_set (i := 3) sc_Ltake.nd rfl (.inl v_Ltake_3) (pe_dget hu (pv 0 rfl (.inl v_Ltake_0)) pe_str (fun _ _ => rfl)))
      (pss_cons (ps_if (pt_cmpR op_eq (pe_dget hu (pv 0 rfl (.inl v_Ltake_0)) pe_str (fun _ _ => rfl)) pe_int (nomark _)) (pss_cons (ps_dput hu (pv 0 rfl (.inl v_Ltake_0)) pe_str (pe_op op_add (pv 2 rfl (.inl v_Ltake_2)) pe_int) rfl)
        (pss_cons (ps_set (i := 4) sc_Ltake.nd rfl (.inl v_Ltake_4) pe_int)
        (pss_cons (ps_if (pt_cmpR op_gt (pe_callB call_len_seq g_Ltake_len T.len_ (by decide +kernel) (pa_cons (pv 3 rfl (.inl v_Ltake_3)) pa_nil)) pe_int (nomark _)) (pss_one (ps_set (i := 4) sc_Ltake.nd rfl (.inl v_Ltake_4) (pe_ix ix_list (pv 3 rfl (.inl v_Ltake_3)) (pe_op op_mod (pv 2 rfl (.inl v_Ltake_2)) (pe_callB call_len_seq g_Ltake_len T.len_ (by decide +kernel) (pa_cons (pv 3 rfl (.inl v_Ltake_3)) pa_nil))) (fun _ _ => rfl)))) pss_nil)
        (pss_cons (ps_if (PW.pt (pw_or (pt_cmpR op_ge (pv 2 rfl (.inl v_Ltake_2)) (pe_callB call_len_seq g_Ltake_len T.len_ (by decide +kernel) (pa_cons (pv 3 rfl (.inl v_Ltake_3)) pa_nil)) (nomark _)) (pw_or1 (pt_cmpR op_lt (pe_callB call_abs g_Ltake_abs T.abs_ (by decide +kernel) (pa_cons (pv 4 rfl (.inl v_Ltake_4)) pa_nil)) (pe_op op_pow pe_int pe_int) (nomark _))))) (pss_one (ps_ret (pe_op op_mod (C8.pe_c c_Lmixed hr (by decide) g_Ltake__law_mixed (pa_cons (pv 4 rfl (.inl v_Ltake_4)) (pa_cons (pv 2 rfl (.inl v_Ltake_2)) pa_nil))) (pv 1 rfl (.inl v_Ltake_1))))) pss_nil)
        (pss_one (ps_dput hu (pv 0 rfl (.inl v_Ltake_0)) pe_str (pe_callB call_abs g_Ltake_abs T.abs_ (by decide +kernel) (pa_cons (pv 4 rfl (.inl v_Ltake_4)) pa_nil)) rfl)))))) pss_nil)
      (pss_cons (ps_set (i := 5) sc_Ltake.nd rfl (.inl v_Ltake_5) (pe_op op_mod (pe_dget hu (pv 0 rfl (.inl v_Ltake_0)) pe_str (fun _ _ => rfl)) (pv 1 rfl (.inl v_Ltake_1))))
      (pss_cons (ps_dput hu (pv 0 rfl (.inl v_Ltake_0)) pe_str (pe_op op_fdivW (pe_dget hu (pv 0 rfl (.inl v_Ltake_0)) pe_str (fun _ _ => rfl)) (pv 1 rfl (.inl v_Ltake_1))) rfl)
      (pss_one (ps_ret (pv 5 rfl (.inl v_Ltake_5))))))))), ?_⟩
    obtain ⟨kvs, k, l, h1, h2, h3, h4, h5⟩ := ht.d.ex
    have g4 : DGet H st (kV (.inr "at")) (some (.int k)) := h4 ▸ DGet.k (k := Sum.inr "at") h1
    have g3 : DGet H st (kV (.inr "script")) (some (.ref x)) := h3 ▸ DGet.k (k := Sum.inr "script") h1
    have g5 : DGet H st (kV (.inr "left")) (some (.int l)) := h5 ▸ DGet.k (k := Sum.inr "left") h1
    have hw : ∀ l : Int, CDivW l m := fun l => wide_div (b := 20) (by omega) (by omega) (by decide) (by decide)
    have hm0 : (0 : Int) < m := by omega
    refine ⟨_, rfl, st, _, rfl, g4, _, rfl, st, _, rfl, g3, _, rfl, st, _, rfl, g5, rfl, _, rfl, ?_⟩
    have k1 : ("at" : Str) ≠ "script" := by decide +kernel
    have k2 : ("at" : Str) ≠ "left" := by decide +kernel
    have k3 : ("left" : Str) ≠ "script" := by decide +kernel
    have kk1 : ¬ ((Sum.inr ("script" : Str) : Key) = (Sum.inr ("at" : Str) : Key)) := fun z => by injection z with z; exact k1 z.symm
    have kk2 : ¬ ((Sum.inr ("left" : Str) : Key) = (Sum.inr ("at" : Str) : Key)) := fun z => by injection z with z; exact k2 z.symm
    have kk3 : ¬ ((Sum.inr ("script" : Str) : Key) = (Sum.inr ("left" : Str) : Key)) := fun z => by injection z with z; exact k3 z.symm
    have kk4 : ¬ ((Sum.inr ("at" : Str) : Key) = (Sum.inr ("left" : Str) : Key)) := fun z => by injection z with z; exact k2 z
    by_cases z : l = 0
    · refine ifT (by rw [z]; rfl) ?_
      refine ⟨_, rfl, _, _, rfl, rfl, _, rfl, st, _, rfl, DPut.k (k := Sum.inr "at") h1 (sz9 (by omega)), ?_⟩
      have e2 : Ext st H (upd H st (.dK (putK kvs (Sum.inr "at") (.int (k + 1))))) := Ext.upd
      have w1 : upd H st (.dK (putK kvs (Sum.inr "at") (.int (k + 1)))) st = some (.dK (putK kvs (Sum.inr "at") (.int (k + 1)))) := upd_same
      generalize upd H st (.dK (putK kvs (Sum.inr "at") (.int (k + 1)))) = H2 at e2 w1 ⊢
      have w2 : (putK kvs (Sum.inr "at") (.int (k + 1))).length ≤ 3 := by rw [length_put_old h4]; exact h2
      have w3 : valV (putK kvs (Sum.inr "at" : Key) (.int (k + 1))) (.inr "script") = some (.ref x) := by rw [valV_put, if_neg kk1]; exact h3
      have w4 : valV (putK kvs (Sum.inr "at" : Key) (.int (k + 1))) (.inr "at") = some (.int (k + 1)) := by rw [valV_put, if_pos rfl]
      have w5 : valV (putK kvs (Sum.inr "at" : Key) (.int (k + 1))) (.inr "left") = some (.int l) := by rw [valV_put, if_neg kk2]; exact h5
      generalize putK kvs (Sum.inr "at" : Key) (V.int (k + 1)) = kvs2 at w1 w2 w3 w4 w5
      have d2 : StD H2 st x := ⟨kvs2, k + 1, l, w1, w2, w3, w4, w5⟩
      have t2 := ht.ext e2 d2
      refine ⟨_, rfl, x, _, rfl, .inl t2.s, _, _, rfl, rfl, _, rfl, ?_⟩
      rw [List.length_map]
      by_cases hns : 0 < ns.length
      · refine ifT (decide_eq_true (by omega)) ?_
        obtain ⟨j, ej, bj⟩ := mod_nat (a := k) (m := (ns.length : Int)) (by omega)
        have eat : atI (ns.map V.int) (k % (ns.length : Int)) = some (V.int (ns[j]'(by omega))) := by
          rw [ej]
          exact atI_nat (by rw [List.getElem?_map, List.getElem?_eq_getElem (by omega)]; rfl)
        refine ⟨_, rfl, _, rfl, _, rfl, x, _, rfl, .inl t2.s, ?_⟩
        rw [List.length_map]
        refine ⟨_, _, rfl, rfl, (by show (0 : Int) < _; omega), _, _, _, _, rfl, rfl, t2.s, eat, ?_⟩
        generalize ns[j]'(by omega) = cc
        refine ⟨_, rfl, _, rfl, x, _, rfl, .inl t2.s, _, _, rfl, rfl, _, rfl, ?_⟩
        rw [List.length_map]
        by_cases hk : (ns.length : Int) ≤ k
        · refine ifT (decide_eq_true hk) ?_
          refine iteT ⟨_, rfl, _, rfl, cc, k, rfl, fun n => ⟨_, rfl, _, _, rfl, rfl, hm0, ?_⟩⟩
          obtain ⟨n1, e1, b1⟩ := mod_nat (a := n) (m := m) hm1
          simp only [e1]
          exact q n1 H2 b1 e2 t2
        · refine ifF (fun y => hk (of_decide_eq_true y)) ?_
          refine ⟨_, rfl, cc, rfl, ?_⟩
          refine ⟨_, _, rfl, rfl, ⟨by decide, by decide, by decide⟩, _, _, rfl, rfl, _, rfl, ?_⟩
          by_cases hs : (if cc < 0 then -cc else cc) < (10 : Int) ^ (18 : Int).toNat
          · refine ifT (decide_eq_true hs) ?_
            refine ⟨_, rfl, _, rfl, cc, k, rfl, fun n => ⟨_, rfl, _, _, rfl, rfl, hm0, ?_⟩⟩
            obtain ⟨n1, e1, b1⟩ := mod_nat (a := n) (m := m) hm1
            simp only [e1]
            exact q n1 H2 b1 e2 t2
          · refine ifF (fun y => hs (of_decide_eq_true y)) ?_
            generalize (if cc < 0 then -cc else cc) = aa at hs
            refine ⟨_, rfl, cc, rfl, _, rfl, st, _, rfl, DPut.k (k := Sum.inr "left") w1 (sz9 (by omega)), ?_⟩
            generalize (if cc < 0 then -cc else cc) = l3
            have w31 : upd H2 st (.dK (putK kvs2 (Sum.inr "left") (.int l3))) st = some (.dK (putK kvs2 (Sum.inr "left") (.int l3))) := upd_same
            have e3 : Ext st H (upd H2 st (.dK (putK kvs2 (Sum.inr "left") (.int l3)))) := e2.trans Ext.upd
            generalize upd H2 st (.dK (putK kvs2 (Sum.inr "left") (.int l3))) = H3 at w31 e3 ⊢
            have w32 : (putK kvs2 (Sum.inr "left") (.int l3)).length ≤ 3 := by rw [length_put_old w5]; exact w2
            have w33 : valV (putK kvs2 (Sum.inr "left" : Key) (.int l3)) (.inr "script") = some (.ref x) := by rw [valV_put, if_neg kk3]; exact w3
            have w34 : valV (putK kvs2 (Sum.inr "left" : Key) (.int l3)) (.inr "at") = some (.int (k + 1)) := by rw [valV_put, if_neg kk4]; exact w4
            have w35 : valV (putK kvs2 (Sum.inr "left" : Key) (.int l3)) (.inr "left") = some (.int l3) := by rw [valV_put, if_pos rfl]
            generalize putK kvs2 (Sum.inr "left" : Key) (V.int l3) = kvs3 at w31 w32 w33 w34 w35
            have g6 : DGet H3 st (kV (.inr "left")) (some (.int l3)) := w35 ▸ DGet.k (k := Sum.inr "left") w31
            refine ⟨_, rfl, st, _, rfl, g6, _, rfl, _, _, rfl, rfl, hm0, ?_⟩
            obtain ⟨n1, e1, b1⟩ := mod_nat (a := l3) (m := m) hm1
            simp only [e1]
            refine ⟨_, rfl, st, _, rfl, g6, _, rfl, _, _, rfl, rfl, hw l3, _, rfl, st, _, rfl, DPut.k (k := Sum.inr "left") w31 (sz9 (by omega)), ?_⟩
            have d4 : StD (upd H3 st (.dK (putK kvs3 (Sum.inr "left") (.int (l3 / m))))) st x := ⟨_, k + 1, l3 / m, upd_same, by rw [length_put_old w35]; exact w32, by rw [valV_put, if_neg kk3]; exact w33, by rw [valV_put, if_neg kk4]; exact w34, by rw [valV_put, if_pos rfl]⟩
            exact ⟨_, rfl, q n1 _ b1 (e3.trans Ext.upd) (ht.ext (e3.trans Ext.upd) d4)⟩
      · refine ifF (fun y => hns (by have := of_decide_eq_true y; omega)) ?_
        refine ⟨_, rfl, _, rfl, x, _, rfl, .inl t2.s, _, _, rfl, rfl, _, rfl, ?_⟩
        rw [List.length_map]
        by_cases hk : (ns.length : Int) ≤ k
        · refine ifT (decide_eq_true hk) ?_
          refine iteT ⟨_, rfl, _, rfl, 0, k, rfl, fun n => ⟨_, rfl, _, _, rfl, rfl, hm0, ?_⟩⟩
          obtain ⟨n1, e1, b1⟩ := mod_nat (a := n) (m := m) hm1
          simp only [e1]
          exact q n1 H2 b1 e2 t2
        · refine ifF (fun y => hk (of_decide_eq_true y)) ?_
          refine ⟨_, rfl, 0, rfl, ?_⟩
          refine ⟨_, _, rfl, rfl, ⟨by decide, by decide, by decide⟩, _, _, rfl, rfl, _, rfl, ?_⟩
          by_cases hs : (if (0 : Int) < 0 then -(0 : Int) else (0 : Int)) < (10 : Int) ^ (18 : Int).toNat
          · refine ifT (decide_eq_true hs) ?_
            refine ⟨_, rfl, _, rfl, (0 : Int), k, rfl, fun n => ⟨_, rfl, _, _, rfl, rfl, hm0, ?_⟩⟩
            obtain ⟨n1, e1, b1⟩ := mod_nat (a := n) (m := m) hm1
            simp only [e1]
            exact q n1 H2 b1 e2 t2
          · refine ifF (fun y => hs (of_decide_eq_true y)) ?_
            generalize (if (0 : Int) < 0 then -(0 : Int) else (0 : Int)) = aa at hs
            refine ⟨_, rfl, (0 : Int), rfl, _, rfl, st, _, rfl, DPut.k (k := Sum.inr "left") w1 (sz9 (by omega)), ?_⟩
            generalize (if (0 : Int) < 0 then -(0 : Int) else (0 : Int)) = l3
            have w31 : upd H2 st (.dK (putK kvs2 (Sum.inr "left") (.int l3))) st = some (.dK (putK kvs2 (Sum.inr "left") (.int l3))) := upd_same
            have e3 : Ext st H (upd H2 st (.dK (putK kvs2 (Sum.inr "left") (.int l3)))) := e2.trans Ext.upd
            generalize upd H2 st (.dK (putK kvs2 (Sum.inr "left") (.int l3))) = H3 at w31 e3 ⊢
            have w32 : (putK kvs2 (Sum.inr "left") (.int l3)).length ≤ 3 := by rw [length_put_old w5]; exact w2
            have w33 : valV (putK kvs2 (Sum.inr "left" : Key) (.int l3)) (.inr "script") = some (.ref x) := by rw [valV_put, if_neg kk3]; exact w3
            have w34 : valV (putK kvs2 (Sum.inr "left" : Key) (.int l3)) (.inr "at") = some (.int (k + 1)) := by rw [valV_put, if_neg kk4]; exact w4
            have w35 : valV (putK kvs2 (Sum.inr "left" : Key) (.int l3)) (.inr "left") = some (.int l3) := by rw [valV_put, if_pos rfl]
            generalize putK kvs2 (Sum.inr "left" : Key) (V.int l3) = kvs3 at w31 w32 w33 w34 w35
            have g6 : DGet H3 st (kV (.inr "left")) (some (.int l3)) := w35 ▸ DGet.k (k := Sum.inr "left") w31
            refine ⟨_, rfl, st, _, rfl, g6, _, rfl, _, _, rfl, rfl, hm0, ?_⟩
            obtain ⟨n1, e1, b1⟩ := mod_nat (a := l3) (m := m) hm1
            simp only [e1]
            refine ⟨_, rfl, st, _, rfl, g6, _, rfl, _, _, rfl, rfl, hw l3, _, rfl, st, _, rfl, DPut.k (k := Sum.inr "left") w31 (sz9 (by omega)), ?_⟩
            have d4 : StD (upd H3 st (.dK (putK kvs3 (Sum.inr "left") (.int (l3 / m))))) st x := ⟨_, k + 1, l3 / m, upd_same, by rw [length_put_old w35]; exact w32, by rw [valV_put, if_neg kk3]; exact w33, by rw [valV_put, if_neg kk4]; exact w34, by rw [valV_put, if_pos rfl]⟩
            exact ⟨_, rfl, q n1 _ b1 (e3.trans Ext.upd) (ht.ext (e3.trans Ext.upd) d4)⟩
    · refine ifF (fun y => z (by simpa using y)) ?_
      refine ⟨_, rfl, st, _, rfl, g5, _, rfl, _, _, rfl, rfl, hm0, ?_⟩
      obtain ⟨n1, e1, b1⟩ := mod_nat (a := l) (m := m) hm1
      simp only [e1]
      refine ⟨_, rfl, st, _, rfl, g5, _, rfl, _, _, rfl, rfl, hw l, _, rfl, st, _, rfl, DPut.k (k := Sum.inr "left") h1 (sz9 (by omega)), ?_⟩
      have d2 : StD (upd H st (.dK (putK kvs (Sum.inr "left") (.int (l / m))))) st x := ⟨_, k, l / m, upd_same, by rw [length_put_old h5]; exact h2, by rw [valV_put, if_neg kk3]; exact h3, by rw [valV_put, if_neg kk4]; exact h4, by rw [valV_put, if_pos rfl]⟩
      exact ⟨_, rfl, q n1 _ b1 Ext.upd (ht.ext Ext.upd d2)⟩
end
end OH

namespace OH
open PySem PySem.Spec PyProof.Rows L2
def natV (xs : List Nat) : List V := xs.map fun n : Nat => V.int (n : Int)
def spOrder (K : PySem.W.Frag) : Sp := fun vs H Q _ => ∃ (st x : Addr) (ns : List Int) (n : Nat), vs = [.ref st, .int (n : Int)] ∧ StAt K H st x ns ∧ n ≤ 1000 ∧ ∀ (xs : List Nat) (l : Addr) H', xs.Perm (List.range n) → Ext st H H' → StAt K H' st x ns → H l = none → H' l = some (.lst (natV xs)) → Q (.ref l) H'
def spNum (K : PySem.W.Frag) : Sp := fun vs H Q _ => ∃ (st x : Addr) (ns : List Int) (lo : Int), vs = [.ref st, .int lo] ∧ StAt K H st x ns ∧ 0 ≤ lo ∧ lo ≤ 1 ∧ ∀ (i : Int) H', lo ≤ i → i ≤ B30 → Ext st H H' → StAt K H' st x ns → Q (.int i) H'
theorem erase_perm {α : Type} : ∀ {l : List α} {j : Nat} (h : j < l.length), (l[j] :: l.eraseIdx j).Perm l
  | [], j, h => absurd h (Nat.not_lt_zero _)
  | a :: l, 0, h => .refl _
  | a :: l, j + 1, h => by
    have h' : j < l.length := by simpa using h
    have ih := erase_perm h'
    rw [List.eraseIdx_cons_succ, List.getElem_cons_succ]
    exact (List.Perm.swap a l[j] (l.eraseIdx j)).trans (ih.cons a)
theorem rgV_nat (n : Nat) : rgV 0 (n : Int) = natV (List.range n) := by
  unfold rgV natV
  have e : ((n : Int) - 0).toNat = n := by omega
  rw [e]
  refine List.map_congr_left fun i _ => ?_
  rw [Int.zero_add]
theorem StAt.mut {K : PySem.W.Frag} {Hb H H' : Hp} {st x p : Addr} {ns : List Int} (t0 : StAt K Hb st x ns) (e : Ext st Hb H) (d : StD H st x) (hp : Hb p = none) (k : Ext p H H') (n : st ≠ p) : Ext st Hb H' ∧ StAt K H' st x ns := by
  have e' := Ext.mut_of e hp k
  exact ⟨e', t0.ext e' (d.ext k n)⟩
section
variable {P : Program} {w : World} {K : PySem.W.Frag} {mg : Str → Option Value} {base : Heap}
theorem cal_Lnumber {f : Addr} {fd : FuncData} (D : C8.Def K mg "_law_number" s_Lnumber f fd) (b : L2.Binds K fd ["_law_state", "_law_least_here"] []) (T : Bt mg) (c_Ltake : C8.Cal P w K mg base 2 "_law_take" (spTake K) []) : C8.Cal P w K mg base 3 "_law_number" (spNum K) [] := by
  refine C8.cal0 D b .nil sc_Lnumber (fun vs H Q E h => ?_) (fun cdv A outer s H vs Q E hr h => ?_)
  · obtain ⟨st, x, ns, lo, rfl, _⟩ := h
    rfl
  · obtain ⟨st, x, ns, lo, rfl, ht, h0, h1, q⟩ := h
    have hu := hu_of hr
    have hu64 := hr.units
    refine ⟨_, (pss_cons (ps_set (i := 2) sc_Lnumber.nd rfl (.inl v_Lnumber_2) (C8.pe_c c_Ltake hr (by decide) g_Lnumber__law_take (pa_cons (pv 0 rfl (.inl v_Lnumber_0)) (pa_cons pe_int pa_nil))))
      (pss_cons (ps_if (pt_cmpR op_lt (pv 2 rfl (.inl v_Lnumber_2)) pe_int (nomark _)) (pss_one (ps_ret (pe_op op_add (pv 1 rfl (.inl v_Lnumber_1)) (C8.pe_c c_Ltake hr (by decide) g_Lnumber__law_take (pa_cons (pv 0 rfl (.inl v_Lnumber_0)) (pa_cons pe_int pa_nil)))))) pss_nil)
      (pss_cons (ps_if (pt_cmpR op_eq (pv 2 rfl (.inl v_Lnumber_2)) pe_int (nomark _)) (pss_one (ps_ret (pv 1 rfl (.inl v_Lnumber_1)))) pss_nil)
      (pss_cons (ps_if (pt_cmpR op_eq (pv 2 rfl (.inl v_Lnumber_2)) pe_int (nomark _)) (pss_one (ps_ret (pe_op op_add (pv 1 rfl (.inl v_Lnumber_1)) (C8.pe_c c_Ltake hr (by decide) g_Lnumber__law_take (pa_cons (pv 0 rfl (.inl v_Lnumber_0)) (pa_cons pe_int pa_nil)))))) pss_nil)
      (pss_one (ps_ret (pe_op op_sub (pe_op op_sub (pe_op op_pow pe_int pe_int) pe_int) (C8.pe_c c_Ltake hr (by decide) g_Lnumber__law_take (pa_cons (pv 0 rfl (.inl v_Lnumber_0)) (pa_cons pe_int pa_nil)))))))))), ?_⟩
    refine ⟨_, rfl, st, x, ns, 8, rfl, ht, by decide, by decide, fun n H1 hn e1 t1 => ?_⟩
    refine ⟨_, rfl, _, _, rfl, rfl, _, rfl, ?_⟩
    by_cases z : (n : Int) < 5
    · refine ifT (decide_eq_true z) ?_
      refine ⟨_, rfl, _, rfl, st, x, ns, 5, rfl, t1, by decide, by decide, fun m H2 hm e2 t2 => ⟨_, _, rfl, rfl, ?_⟩⟩
      exact q _ H2 (by omega) (by unfold B30; omega) (e1.trans e2) t2
    · refine ifF (fun y => z (of_decide_eq_true y)) ?_
      refine ⟨_, rfl, rfl, _, rfl, ?_⟩
      by_cases z2 : (V.int (n : Int)) = V.int 5
      · refine ifT (decide_eq_true z2) ?_
        exact ⟨_, rfl, q _ H1 (by omega) (by unfold B30; omega) e1 t1⟩
      · refine ifF (fun y => z2 (of_decide_eq_true y)) ?_
        refine ⟨_, rfl, rfl, _, rfl, ?_⟩
        by_cases z3 : (V.int (n : Int)) = V.int 6
        · refine ifT (decide_eq_true z3) ?_
          refine ⟨_, rfl, _, rfl, st, x, ns, 1000, rfl, t1, by decide, by decide, fun m H2 hm e2 t2 => ⟨_, _, rfl, rfl, ?_⟩⟩
          exact q _ H2 (by omega) (by unfold B30; omega) (e1.trans e2) t2
        · refine ifF (fun y => z3 (of_decide_eq_true y)) ?_
          refine ⟨_, _, rfl, rfl, ⟨by decide, by decide, by decide⟩, _, _, rfl, rfl, _, rfl, st, x, ns, 2, rfl, t1, by decide, by decide, fun m H2 hm e2 t2 => ⟨_, _, rfl, rfl, ?_⟩⟩
          have eb : (10 : Int) ^ (30 : Int).toNat = B30 := by decide
          refine q _ H2 ?_ ?_ (e1.trans e2) t2
          · rw [eb]; unfold B30; omega
          · rw [eb]; omega
theorem cal_Lorder {f : Addr} {fd : FuncData} (D : C8.Def K mg "_law_order" s_Lorder f fd) (b : L2.Binds K fd ["_law_state", "_law_many"] []) (T : Bt mg) (c_Ltake : C8.Cal P w K mg base 2 "_law_take" (spTake K) []) : C8.Cal P w K mg base 3 "_law_order" (spOrder K) [] := by
  refine C8.cal0 D b .nil sc_Lorder (fun vs H Q E h => ?_) (fun cdv A outer s H vs Q E hr h => ?_)
  · obtain ⟨st, x, ns, n, rfl, _⟩ := h
    rfl
  · obtain ⟨st, x, ns, n, rfl, ht, hn, q⟩ := h
    have hu := hu_of hr
    have hu64 := hr.units
    refine ⟨_, (pss_cons (ps_set (i := 2) sc_Lorder.nd rfl (.inl v_Lorder_2) (pe_listRg rfl g_Lorder_list T.list_ (prg_1 g_Lorder_range T.range_ (pv 1 rfl (.inl v_Lorder_1)))))
      (pss_cons (ps_set (i := 3) sc_Lorder.nd rfl (.inl v_Lorder_3) (pe_lst pa_nil))
      (pss_cons (ps_for PassesOwn.never rfl (pi_range1 g_Lorder_range T.range_ (pa_cons (pv 1 rfl (.inl v_Lorder_1)) pa_nil)) (pg_name (i := 4) sc_Lorder.nd rfl (.inl v_Lorder_4))
        (pss_one (ps_expr (pe_bm PySem.F.plainAttrs_list PySem.F.slot_list_append PySem.F.type_list_append mt_append (pv 3 rfl (.inl v_Lorder_3)) (pa_cons (pe_bm PySem.F.plainAttrs_list PySem.F.slot_list_pop PySem.F.type_list_pop mt_popAt (pv 2 rfl (.inl v_Lorder_2)) (pa_cons (C8.pe_c c_Ltake hr (by decide) g_Lorder__law_take (pa_cons (pv 0 rfl (.inl v_Lorder_0)) (pa_cons (pe_callB call_len_seq g_Lorder_len T.len_ (by decide +kernel) (pa_cons (pv 2 rfl (.inl v_Lorder_2)) pa_nil)) pa_nil))) pa_nil)) pa_nil)))))
      (pss_one (ps_ret (pv 3 rfl (.inl v_Lorder_3))))))), ?_⟩
    refine ⟨_, rfl, _, rfl, RgOk.of_le (by omega) (by omega) (by omega) (by omega), fun ll fl => ?_⟩
    rw [rgV_nat]
    refine ⟨Nat.zero_le _, fun lf ff => ?_⟩
    have hne : lf ≠ ll := fun z => by rw [z, upd_same] at ff; cases ff
    have ff0 : H lf = none := (same_new fl).free ff
    have s2 : Same H (upd (upd H ll (.lst (natV (List.range n)))) lf (.lst [])) := (same_new fl).trans (same_new ff)
    have hl : upd (upd H ll (.lst (natV (List.range n)))) lf (.lst []) ll = some (.lst (natV (List.range n))) := by rw [upd_ne (Ne.symm hne), upd_same]
    have hf : upd (upd H ll (.lst (natV (List.range n)))) lf (.lst []) lf = some (.lst (natV [])) := upd_same
    generalize upd (upd H ll (.lst (natV (List.range n)))) lf (.lst []) = H1 at s2 hl hf ⊢
    refine ⟨_, rfl, _, rfl, by omega, by omega, ?_⟩
    refine for_rng (n := n) (fun k σ H2 => ∃ (y4 : Option V) (L F : List Nat), σ = [some (.ref st), some (.int (n : Int)), some (.ref ll), some (.ref lf), y4] ∧ Ext st H H2 ∧ StAt K H2 st x ns ∧ H2 ll = some (.lst (natV L)) ∧ H2 lf = some (.lst (natV F)) ∧ (F ++ L).Perm (List.range n) ∧ F.length = k)
      ⟨_, _, [], rfl, .of s2, ht.same s2, hl, hf, List.Perm.refl _, rfl⟩ (fun k σ H2 hk ⟨y4, L, F, eσ, e2, t2, hl2, hf2, hp, hF⟩ => ?_) (fun σ H2 ⟨y4, L, F, eσ, e2, t2, hl2, hf2, hp, hF⟩ => ?_)
    · subst eσ
      have hlen := hp.length_eq
      rw [List.length_append, List.length_range, hF] at hlen
      have eL : ((natV L).length : Int) = (L.length : Int) := by unfold natV; rw [List.length_map]
      refine ⟨_, rfl, .inl ⟨rfl, _, SqL.of hf2⟩, _, rfl, .inl ⟨rfl, _, SqL.of hl2⟩, _, rfl, _, rfl, ll, _, rfl, .inl (SqL.of hl2), st, x, ns, _, rfl, t2, by omega, by omega, fun j H3 hj e3 t3 => ?_⟩
      have hjL : j < L.length := by omega
      obtain ⟨j', w1, w2, w3, w4, w5⟩ := atI_get (atI_nat (show (natV L)[j]? = some (V.int ((L[j]'hjL : Nat) : Int)) by unfold natV; rw [List.getElem?_map, List.getElem?_eq_getElem hjL]; rfl))
      have hj'L : j' < L.length := by unfold natV at w3; rw [List.length_map] at w3; exact w3
      have w2' : (natV L)[j']? = some (V.int ((L[j']'hj'L : Nat) : Int)) := by unfold natV; rw [List.getElem?_map, List.getElem?_eq_getElem hj'L]; rfl
      have hl3 := e3 _ _ hl2 (Ne.symm (t2.d.nl hl2))
      have hf3 := e3 _ _ hf2 (Ne.symm (t2.d.nl hf2))
      refine ⟨ll, _, _, j', _, rfl, rfl, hl3, by omega, by omega, w1, w2', ?_⟩
      have e4 : Ext ll H3 (upd H3 ll (.lst ((natV L).eraseIdx j'))) := Ext.upd
      have hl4 : upd H3 ll (.lst ((natV L).eraseIdx j')) ll = some (.lst (natV (L.eraseIdx j'))) := by rw [upd_same]; unfold natV; rw [map_erase]
      generalize upd H3 ll (.lst ((natV L).eraseIdx j')) = H4 at e4 hl4 ⊢
      obtain ⟨e4', t4⟩ := ht.mut (e2.trans e3) t3.d fl e4 (t3.d.nl hl3)
      have hf4 := e4 _ _ hf3 hne
      refine ⟨lf, _, _, rfl, rfl, hf4, sz9 (by unfold natV; rw [List.length_map]; omega), ?_⟩
      have e5 : Ext lf H4 (upd H4 lf (.lst (natV F ++ [V.int ((L[j']'hj'L : Nat) : Int)]))) := Ext.upd
      obtain ⟨e5', t5⟩ := ht.mut e4' t4.d ff0 e5 (t4.d.nl hf4)
      refine ⟨_, L.eraseIdx j', F ++ [L[j']'hj'L], rfl, e5', t5, by rw [upd_ne (Ne.symm hne)]; exact hl4, by rw [upd_same]; unfold natV; rw [List.map_append]; rfl, ?_, by rw [List.length_append, hF]; rfl⟩
      refine List.Perm.trans ?_ hp
      rw [List.append_assoc]
      exact List.Perm.append_left F (erase_perm hj'L)
    · subst eσ
      have hlen := hp.length_eq
      rw [List.length_append, List.length_range, hF] at hlen
      have eL : L = [] := List.length_eq_zero_iff.mp (by omega)
      rw [eL, List.append_nil] at hp
      exact ⟨_, rfl, q F lf H2 hp e2 t2 ff0 hf2⟩
end
end OH

namespace OH
open PySem PySem.Spec PyProof.Rows L2
/-! ### names -/
def ltr (start k : Nat) : Nat := 97 + (start + 7 * k) % 26
def nameG (B : List Nat) (start size at_ k : Nat) : List Nat := B.take at_ ++ [ltr start k] ++ (B.drop (at_ + 1)).take (size - (at_ + 1))
def nameL (B : List Nat) (start size at_ k : Nat) : List Nat := if size = 6 ∧ at_ < 5 then B.take (k % 6) ++ [ltr start k] else nameG B start size at_ k
theorem ltr_inj {s k k' : Nat} (h : k < 26) (h' : k' < 26) (e : ltr s k = ltr s k') : k = k' := by
  unfold ltr at e
  omega
theorem nameL_inj {B : List Nat} {s size at_ k k' : Nat} (hB : B.length = 6) (h : k < 26) (h' : k' < 26) (e : nameL B s size at_ k = nameL B s size at_ k') : k = k' := by
  unfold nameL at e
  by_cases z : size = 6 ∧ at_ < 5
  · rw [if_pos z, if_pos z] at e
    have e1 := congrArg List.length e
    rw [List.length_append, List.length_append, List.length_take, List.length_take, List.length_singleton, List.length_singleton, hB] at e1
    have e2 : k % 6 = k' % 6 := by omega
    rw [e2] at e
    have := List.append_cancel_left e
    exact ltr_inj h h' (List.cons.inj this).1
  · rw [if_neg z, if_neg z] at e
    unfold nameG at e
    rw [List.append_assoc, List.append_assoc] at e
    have := List.append_cancel_left e
    exact ltr_inj h h' (List.cons.inj this).1
theorem nameL_small {B : List Nat} {s size at_ k : Nat} (hB : ∀ c ∈ B, c < 123) : ∀ c ∈ nameL B s size at_ k, c < 123 := by
  have hl : ltr s k < 123 := by unfold ltr; omega
  intro c hc
  unfold nameL at hc
  by_cases z : size = 6 ∧ at_ < 5
  · rw [if_pos z] at hc
    rcases List.mem_append.mp hc with hc | hc
    · exact hB c (List.mem_of_mem_take hc)
    · rw [List.mem_singleton.mp hc]; exact hl
  · rw [if_neg z] at hc
    unfold nameG at hc
    rcases List.mem_append.mp hc with hc | hc
    · rcases List.mem_append.mp hc with hc | hc
      · exact hB c (List.mem_of_mem_take hc)
      · rw [List.mem_singleton.mp hc]; exact hl
    · exact hB c (List.mem_of_mem_drop (List.mem_of_mem_take hc))
theorem nm_S {l : List Nat} (h : ∀ c ∈ l, c < 123) : NmOk (SX.S l) := by
  show PyData.strOk (SX.S l) = true
  unfold PyData.strOk
  rw [← Array.all_toList, List.all_eq_true]
  intro c hc
  have : c ∈ l := by simpa using hc
  have := h c this
  exact decide_eq_true (by omega)
theorem S_toList (l : List Nat) : (SX.S l).cps.toList = l := by simp
theorem cut_to {B : List Nat} {a : Nat} (h : a ≤ B.length) : cutS (SX.S B) none (some (a : Int)) = SX.S (B.take a) := by
  unfold cutS
  rw [HT.sIx_nat, HT.sIx_none, S_toList, SX.S_len, Nat.min_eq_left h, List.drop_zero, Nat.sub_zero]
theorem cut_mid {B : List Nat} {a b : Nat} (h : a ≤ B.length) (h' : b ≤ B.length) : cutS (SX.S B) (some (a : Int)) (some (b : Int)) = SX.S ((B.drop a).take (b - a)) := by
  unfold cutS
  rw [HT.sIx_nat, HT.sIx_nat, S_toList, SX.S_len, Nat.min_eq_left h, Nat.min_eq_left h']
theorem join_ones : ∀ cs : List Nat, TL.joinL [] (cs.map fun c => [c]) = cs
  | [] => rfl
  | [c] => rfl
  | c :: d :: r => by
    have ih := join_ones (d :: r)
    show [c] ++ ([] ++ TL.joinL [] ((d :: r).map fun c => [c])) = _
    rw [ih]
    rfl
theorem join_codes (cs : List Nat) : Txt.join (SX.S []) (cs.map fun c => (⟨#[c]⟩ : Str)) = SX.S cs := by
  have e : cs.map (fun c => (⟨#[c]⟩ : Str)) = (cs.map fun c => [c]).map SX.S := by rw [List.map_map]; rfl
  rw [e, SX.join_S, join_ones]
def letters : Str := "abcdefghijklmnopqrstuvwxyz"
theorem letters_at {j : Nat} (h : j < 26) : letters.cps.toList[j]? = some (97 + j) := by
  have e : letters.cps.toList = (List.range 26).map (97 + ·) := by decide +kernel
  rw [e, List.getElem?_map, List.getElem?_range h]
  rfl
theorem set_last {α : Type} (F : List α) (x y : α) : (F ++ [x]).set F.length y = F ++ [y] := by
  rw [List.set_append_right _ _ (Nat.le_refl _), Nat.sub_self]
  rfl
theorem ixN_last (n : Nat) : ixN (n + 1) (-1) = some n := by
  unfold ixN
  rw [if_neg (by decide), if_pos (by omega)]
  congr 1
  omega
end OH

namespace OH
open PySem PySem.Spec PyProof.Rows L2
def spNames (K : PySem.W.Frag) : Sp := fun vs H Q _ => ∃ (st x : Addr) (ns : List Int) (n : Nat), vs = [.ref st, .int (n : Int)] ∧ StAt K H st x ns ∧ n ≤ 26 ∧ ∀ (xs : List Str) (l : Addr) H', xs.length = n → xs.Nodup → (∀ v ∈ xs, NmOk v) → Ext st H H' → StAt K H' st x ns → H l = none → H' l = some (.lst (xs.map V.str)) → Q (.ref l) H'
theorem ones_len (cs : List Nat) : ((cs.map fun c => (⟨#[c]⟩ : Str)).map (·.length)).sum = cs.length := by
  rw [List.map_map]
  induction cs with
  | nil => rfl
  | cons c cs ih => rw [List.map_cons, List.sum_cons, ih, List.length_cons]; show 1 + _ = _; omega
section
variable {P : Program} {w : World} {K : PySem.W.Frag} {mg : Str → Option Value} {base : Heap}
theorem cal_Lnames {f : Addr} {fd : FuncData} (D : C8.Def K mg "_law_names" s_Lnames f fd) (b : L2.Binds K fd ["_law_state", "_law_many"] []) (T : Bt mg) (c_Lorder : C8.Cal P w K mg base 3 "_law_order" (spOrder K) []) (c_Ltake : C8.Cal P w K mg base 2 "_law_take" (spTake K) []) : C8.Cal P w K mg base 4 "_law_names" (spNames K) [] := by
  refine C8.cal0 D b .nil sc_Lnames (fun vs H Q E h => ?_) (fun cdv A outer s H vs Q E hr h => ?_)
  · obtain ⟨st, x, ns, n, rfl, _⟩ := h
    rfl
  · obtain ⟨st, x, ns, n, rfl, ht, hn, q⟩ := h
    have hu := hu_of hr
    have hu64 := hr.units
    refine ⟨_, (pss_cons (ps_set (i := 2) sc_Lnames.nd rfl (.inr v_Lnames_2) pe_str)
      (pss_cons (ps_set (i := 3) sc_Lnames.nd rfl (.inl v_Lnames_3) (pe_join pe_str (pe_lc (own := [("_law_k", 8)]) rfl sc_Lnames.nd (pi_range1 g_Lnames_range T.range_ (pa_cons pe_int pa_nil)) (blkOk_by (own := [("_law_k", 8)]) (N := N_Lnames) (sc := sc s_Lnames) (by decide +kernel)) (fun _ _ _ _ _ => (pg_name (i := 8) sc_Lnames.nd rfl (.inl rfl) (.inr rfl))) (fun _ _ _ _ _ => pts_nil) (fun _ _ _ _ _ => (pe_ix ix_str (pv 2) (C8.pe_c c_Ltake hr (by decide) (by rfl) (pa_cons (pv 0) (pa_cons pe_int pa_nil))) (fun _ _ => rfl))))))
      (pss_cons (ps_set (i := 4) sc_Lnames.nd rfl (.inl v_Lnames_4) (C8.pe_c c_Ltake hr (by decide) g_Lnames__law_take (pa_cons (pv 0 rfl (.inr (.inl v_Lnames_0))) (pa_cons pe_int pa_nil))))
      (pss_cons (ps_set (i := 5) sc_Lnames.nd rfl (.inl v_Lnames_5) (pe_op op_add pe_int (C8.pe_c c_Ltake hr (by decide) g_Lnames__law_take (pa_cons (pv 0 rfl (.inr (.inl v_Lnames_0))) (pa_cons pe_int pa_nil)))))
      (pss_cons (ps_set (i := 6) sc_Lnames.nd rfl (.inl v_Lnames_6) (C8.pe_c c_Ltake hr (by decide) g_Lnames__law_take (pa_cons (pv 0 rfl (.inr (.inl v_Lnames_0))) (pa_cons (pv 5 rfl (.inl v_Lnames_5)) pa_nil))))
      (pss_cons (ps_set (i := 7) sc_Lnames.nd rfl (.inr v_Lnames_7) (pe_lst pa_nil))
      (pss_cons (ps_for PassesOwn.never rfl (pi_range1 g_Lnames_range T.range_ (pa_cons (pv 1 rfl (.inl v_Lnames_1)) pa_nil)) (pg_name (i := 8) sc_Lnames.nd rfl (.inl v_Lnames_8))
        (pss_cons (ps_set (i := 9) sc_Lnames.nd rfl (.inl v_Lnames_9) (pe_ix ix_str (pv 2 rfl (.inr (.inl v_Lnames_2))) (pe_op op_mod (pe_op op_add (pv 4 rfl (.inl v_Lnames_4)) (pe_op op_mul pe_int (pv 8 rfl (.inl v_Lnames_8)))) pe_int) (fun _ _ => rfl)))
        (pss_cons (ps_expr (pe_bm PySem.F.plainAttrs_list PySem.F.slot_list_append PySem.F.type_list_append mt_append (pv 7 rfl (.inr (.inl v_Lnames_7))) (pa_cons (pe_op op_add_str (pe_op op_add_str (pe_slice sl_str (pv 3 rfl (.inl v_Lnames_3)) po_none (po_some (pv 6 rfl (.inl v_Lnames_6)))) (pv 9 rfl (.inl v_Lnames_9))) (pe_slice sl_str (pv 3 rfl (.inl v_Lnames_3)) (po_some (pe_op op_add (pv 6 rfl (.inl v_Lnames_6)) pe_int)) (po_some (pv 5 rfl (.inl v_Lnames_5))))) pa_nil)))
        (pss_one (ps_if (PW.pt (pw_and (pt_cmpR op_eq (pv 5 rfl (.inl v_Lnames_5)) pe_int (nomark _)) (pw_and1 (pt_cmpR op_lt (pv 6 rfl (.inl v_Lnames_6)) pe_int (nomark _))))) (pss_one (ps_asg (pe_op op_add_str (pe_slice sl_str (pv 3 rfl (.inl v_Lnames_3)) po_none (po_some (pe_op op_mod (pv 8 rfl (.inl v_Lnames_8)) pe_int))) (pv 9 rfl (.inl v_Lnames_9))) (pg_sub (pv 7 rfl (.inr (.inl v_Lnames_7))) (pe_un un_neg pe_int) set_list))) pss_nil)))))
      (pss_one (ps_ret (pe_lc (own := [("_law_k", 8)]) rfl sc_Lnames.nd (pi_list (C8.pe_c c_Lorder hr (by decide) g_Lnames__law_order (pa_cons (pv 0 rfl (.inr (.inl v_Lnames_0))) (pa_cons (pv 1 rfl (.inl v_Lnames_1)) pa_nil)))) (blkOk_by (own := [("_law_k", 8)]) (N := N_Lnames) (sc := sc s_Lnames) (by decide +kernel)) (fun _ _ _ _ _ => (pg_name (i := 8) sc_Lnames.nd rfl (.inl rfl) (.inr rfl))) (fun _ _ _ _ _ => pts_nil) (fun _ _ _ _ _ => (pe_ix (ix_listK (K := K) rfl) (pv 7) (pv 8) (fun _ _ => rfl))))))))))))), ?_⟩
    refine ⟨⟨_, rfl⟩, _, rfl, by omega, by omega, fun nl fl => ?_⟩
    refine lc_rng (n := 6) (fun k H2 => ∃ cs : List Nat, Ext st H H2 ∧ StD H2 st x ∧ H2 nl = some (.lst ((cs.map fun c => (⟨#[c]⟩ : Str)).map V.str)) ∧ cs.length = k ∧ ∀ c ∈ cs, c < 123)
      ⟨[], .of (same_new fl), ht.d.same (same_new fl), upd_same, rfl, fun c hc => by cases hc⟩ (fun k H2 hk ⟨cs, e2, d2, h2, l2, b2⟩ => ?_) (fun H2 ⟨cs, e2, d2, h2, l2, b2⟩ => ?_)
    · refine ⟨rfl, ?_⟩
      refine iteT (B := ∃ cs : List Nat, Ext st H H2 ∧ StD H2 st x ∧ H2 nl = some (.lst ((cs.map fun c => (⟨#[c]⟩ : Str)).map V.str)) ∧ cs.length = k + 1 ∧ ∀ c ∈ cs, c < 123) ?_
      refine ⟨_, rfl, _, rfl, st, x, ns, 26, rfl, ht.ext e2 d2, by decide, by decide, fun j H3 hj e3 t3 => ?_⟩
      refine ⟨letters, _, 97 + j, rfl, rfl, (by decide +kernel), atI_nat (letters_at (by omega)), _, e3 _ _ h2 (Ne.symm (d2.nl h2)), sz9 (by rw [List.length_map, List.length_map]; omega), cs ++ [97 + j], (e2.trans e3).mut fl, t3.d.ext Ext.upd (ht.d.ne fl), ?_, by rw [List.length_append, l2]; rfl, fun c hc => ?_⟩
      · rw [upd_same, List.map_append, List.map_append]; rfl
      · rcases List.mem_append.mp hc with hc | hc
        · exact b2 c hc
        · rw [List.mem_singleton.mp hc]; omega
    · have hj : Txt.join ("" : Str) (cs.map fun c => (⟨#[c]⟩ : Str)) = SX.S cs := join_codes cs
      refine ⟨_, nl, _, rfl, rfl, .inl (SqL.of h2), ?_, ?_⟩
      · rw [ones_len, List.length_map, l2]; decide
      rw [hj]
      clear hj
      have t2 := ht.ext e2 d2
      refine ⟨_, rfl, st, x, ns, 26, rfl, t2, by decide, by decide, fun s0 H3 hs0 e3 t3 => ?_⟩
      refine ⟨_, rfl, st, x, ns, 6, rfl, t3, by decide, by decide, fun z H4 hz e4 t4 => ⟨_, _, rfl, rfl, ?_⟩⟩
      have ez : (1 : Int) + (z : Int) = ((z + 1 : Nat) : Int) := by omega
      simp only [ez]
      refine ⟨_, rfl, _, rfl, st, x, ns, _, rfl, t4, by omega, by omega, fun a5 H5 ha5 e5 t5 => ?_⟩
      refine ⟨Nat.zero_le _, fun nf ff => ?_⟩
      have e5' := ((e2.trans e3).trans e4).trans e5
      have nfst := t5.d.ne ff
      have ff0 : H nf = none := e5'.free (Ne.symm nfst) ff
      have e6 : Ext st H (upd H5 nf (.lst [])) := e5'.trans (.of (same_new ff))
      have d6 := t5.d.same (same_new (o := .lst []) ff)
      have h6 : upd H5 nf (.lst []) nf = some (.lst []) := upd_same
      generalize upd H5 nf (.lst []) = H6 at e6 d6 h6 ⊢
      refine ⟨_, rfl, _, rfl, by omega, by omega, ?_⟩
      refine for_rng (n := n) (fun k σ H7 => ∃ (y8 y9 : Option V), σ = [some (.ref st), some (.int (n : Int)), some (.str letters), some (.str (SX.S cs)), some (.int (s0 : Int)), some (.int ((z + 1 : Nat) : Int)), some (.int (a5 : Int)), some (.ref nf), y8, y9] ∧ Ext st H H7 ∧ StD H7 st x ∧ H7 nf = some (.lst ((List.range k).map fun i => V.str (SX.S (nameL cs s0 (z + 1) a5 i)))))
        ⟨_, _, rfl, e6, d6, h6⟩ (fun k σ H7 hk ⟨y8, y9, eσ, e7, d7, h7⟩ => ?_) (fun σ H7 ⟨y8, y9, eσ, e7, d7, h7⟩ => ?_)
      · subst eσ
        have el : atI letters.cps.toList (((s0 : Int) + 7 * (k : Int)) % 26) = some (ltr s0 k) := by
          have : ((s0 : Int) + 7 * (k : Int)) % 26 = (((s0 + 7 * k) % 26 : Nat) : Int) := by omega
          rw [this]
          exact atI_nat (letters_at (Nat.mod_lt _ (by decide)))
        refine ⟨_, rfl, _, rfl, _, rfl, _, _, rfl, rfl, .inl ⟨by decide, by decide⟩, _, _, rfl, rfl, _, _, rfl, rfl, (by show (0 : Int) < 26; decide), letters, _, ltr s0 k, rfl, rfl, (by decide +kernel), el, ?_⟩
        have lcs : (SX.S cs).length = 6 := by rw [SX.S_len, l2]
        have ea1 : (a5 : Int) + 1 = ((a5 + 1 : Nat) : Int) := rfl
        have c1 : cutS (SX.S cs) none (some (a5 : Int)) = SX.S (cs.take a5) := cut_to (by omega)
        have c2 : cutS (SX.S cs) (some ((a5 : Int) + 1)) (some ((z + 1 : Nat) : Int)) = SX.S ((cs.drop (a5 + 1)).take (z + 1 - (a5 + 1))) := by rw [ea1]; exact cut_mid (by omega) (by omega)
        have l1 : (SX.S (cs.take a5)).length ≤ 6 := by rw [SX.S_len, List.length_take]; omega
        have l2' : (SX.S ((cs.drop (a5 + 1)).take (z + 1 - (a5 + 1)))).length ≤ 6 := by rw [SX.S_len, List.length_take, List.length_drop]; omega
        have c3 : SX.S (cs.take a5) ++ (⟨#[ltr s0 k]⟩ : Str) = SX.S (cs.take a5 ++ [ltr s0 k]) := SX.S_cat _ [_]
        have l3 : (SX.S (cs.take a5 ++ [ltr s0 k])).length ≤ 7 := by rw [SX.S_len, List.length_append, List.length_take, List.length_singleton]; omega
        refine ⟨_, rfl, .inl ⟨rfl, _, SqL.of h7⟩, _, rfl, _, rfl, a5, rfl, SX.S cs, rfl, sz9' (by rw [lcs]; omega), ?_⟩
        rw [c1]
        refine ⟨_, rfl, _, _, rfl, rfl, sz9' (by show (SX.S (cs.take a5)).length + 1 ≤ _; omega), ?_⟩
        rw [c3]
        refine ⟨_, rfl, _, rfl, _, _, rfl, rfl, _, rfl, _, rfl, _, rfl, SX.S cs, rfl, sz9' (by rw [lcs]; omega), ?_⟩
        simp only [c2]
        refine ⟨_, _, rfl, rfl, sz9' (by omega), ?_⟩
        rw [SX.S_cat]
        refine ⟨nf, _, _, rfl, rfl, h7, sz9 (by rw [List.length_map, List.length_range]; omega), ?_⟩
        have e8 : Ext st H (upd H7 nf (.lst ((List.range k).map (fun i => V.str (SX.S (nameL cs s0 (z + 1) a5 i))) ++ [V.str (SX.S (cs.take a5 ++ [ltr s0 k] ++ (cs.drop (a5 + 1)).take (z + 1 - (a5 + 1))))]))) := e7.mut ff0
        have d8 : StD (upd H7 nf (.lst ((List.range k).map (fun i => V.str (SX.S (nameL cs s0 (z + 1) a5 i))) ++ [V.str (SX.S (cs.take a5 ++ [ltr s0 k] ++ (cs.drop (a5 + 1)).take (z + 1 - (a5 + 1))))]))) st x := d7.ext Ext.upd nfst
        have h8 : upd H7 nf (.lst ((List.range k).map (fun i => V.str (SX.S (nameL cs s0 (z + 1) a5 i))) ++ [V.str (SX.S (cs.take a5 ++ [ltr s0 k] ++ (cs.drop (a5 + 1)).take (z + 1 - (a5 + 1))))])) nf = some (.lst ((List.range k).map (fun i => V.str (SX.S (nameL cs s0 (z + 1) a5 i))) ++ [V.str (SX.S (nameG cs s0 (z + 1) a5 k))])) := upd_same
        generalize upd H7 nf (.lst ((List.range k).map (fun i => V.str (SX.S (nameL cs s0 (z + 1) a5 i))) ++ [V.str (SX.S (cs.take a5 ++ [ltr s0 k] ++ (cs.drop (a5 + 1)).take (z + 1 - (a5 + 1))))])) = H8 at e8 d8 h8 ⊢
        have er : (List.range (k + 1)).map (fun i => V.str (SX.S (nameL cs s0 (z + 1) a5 i))) = (List.range k).map (fun i => V.str (SX.S (nameL cs s0 (z + 1) a5 i))) ++ [V.str (SX.S (nameL cs s0 (z + 1) a5 k))] := by rw [List.range_succ, List.map_append]; rfl
        refine ⟨_, rfl, rfl, _, rfl, ?_⟩
        by_cases z6 : z + 1 = 6
        · refine ifT (decide_eq_true (by rw [z6]; rfl)) ?_
          refine ⟨_, rfl, _, _, rfl, rfl, _, rfl, ?_⟩
          by_cases a6 : a5 < 5
          · refine ifT (decide_eq_true (by omega)) ?_
            have em : (k : Int) % 6 = ((k % 6 : Nat) : Int) := by omega
            have c4 : cutS (SX.S cs) none (some ((k % 6 : Nat) : Int)) = SX.S (cs.take (k % 6)) := cut_to (by omega)
            refine ⟨_, rfl, _, rfl, _, _, rfl, rfl, (by show (0 : Int) < 6; decide), _, rfl, SX.S cs, rfl, sz9' (by rw [lcs]; omega), ?_⟩
            simp only [em, c4]
            refine ⟨_, rfl, _, _, rfl, rfl, sz9' (by show (SX.S (cs.take (k % 6))).length + 1 ≤ _; rw [SX.S_len, List.length_take]; omega), _, rfl, _, rfl, nf, _, _, k, rfl, rfl, h8, ?_, ?_⟩
            · rw [List.length_append, List.length_map, List.length_range]; exact ixN_last k
            · refine ⟨_, _, rfl, e8.mut ff0, d8.ext Ext.upd nfst, ?_⟩
              rw [upd_same, er]
              have e9 : nameL cs s0 (z + 1) a5 k = cs.take (k % 6) ++ [ltr s0 k] := by unfold nameL; rw [if_pos ⟨z6, a6⟩]
              have e10 : SX.S (cs.take (k % 6)) ++ (⟨#[ltr s0 k]⟩ : Str) = SX.S (cs.take (k % 6) ++ [ltr s0 k]) := SX.S_cat _ [_]
              have e11 := set_last ((List.range k).map fun i => V.str (SX.S (nameL cs s0 (z + 1) a5 i))) (V.str (SX.S (nameG cs s0 (z + 1) a5 k))) (V.str (SX.S (cs.take (k % 6) ++ [ltr s0 k])))
              rw [List.length_map, List.length_range] at e11
              rw [e9, e10, e11]
          · refine ifF (fun y => a6 (by have := of_decide_eq_true y; omega)) ?_
            refine ⟨_, _, rfl, e8, d8, ?_⟩
            rw [h8, er]
            have e9 : nameL cs s0 (z + 1) a5 k = nameG cs s0 (z + 1) a5 k := by unfold nameL; rw [if_neg (fun y => a6 y.2)]
            rw [e9]
        · refine ifF (fun y => z6 (by have := of_decide_eq_true y; injection this with this; omega)) ?_
          refine ⟨_, _, rfl, e8, d8, ?_⟩
          rw [h8, er]
          have e9 : nameL cs s0 (z + 1) a5 k = nameG cs s0 (z + 1) a5 k := by unfold nameL; rw [if_neg (fun y => z6 y.1)]
          rw [e9]
      · subst eσ
        refine ⟨_, rfl, _, rfl, st, x, ns, n, rfl, ht.ext e7 d7, by omega, fun xs l8 H8 hp e8 t8 fl8 hl8 => ⟨l8, rfl, ⟨_, SqL.of hl8⟩, fun D nD => ?_⟩⟩
        have h8 := e8 _ _ h7 (Ne.symm nfst)
        have hlen : (natV xs).length = xs.length := by unfold natV; rw [List.length_map]
        refine L2.lc_list (xs := natV xs) (fun i H9 => LI H8 H9 D ((xs.take i).map fun i => V.str (SX.S (nameL cs s0 (z + 1) a5 i)))) (LI.nil nD) (fun i H9 _ I => SqL.of (I.same _ _ hl8)) (fun i v H9 hv I => ?_) (fun H9 I => ?_)
        · unfold natV at hv
          rw [List.getElem?_map] at hv
          cases hx : xs[i]? with
          | none => rw [hx] at hv; cases hv
          | some j =>
            rw [hx] at hv
            cases hv
            have hjn : j < n := List.mem_range.mp (hp.mem_iff.mp (List.mem_of_getElem? hx))
            have hxl := hp.length_eq
            rw [List.length_range] at hxl
            have hil := (List.getElem?_eq_some_iff.mp hx).1
            refine ⟨rfl, ?_⟩
            refine iteT (B := LI H8 H9 D ((xs.take (i + 1)).map fun i => V.str (SX.S (nameL cs s0 (z + 1) a5 i)))) ?_
            refine ⟨_, rfl, _, rfl, _, _, _, _, rfl, rfl, SqL.of (I.same _ _ h8), atI_nat (j := j) (v := V.str (SX.S (nameL cs s0 (z + 1) a5 j))) (by rw [List.getElem?_map, List.getElem?_range hjn]; rfl), _, I.at_, sz9 (by rw [List.length_map, List.length_take]; omega), ?_⟩
            rw [take_snoc hx, List.map_append]
            exact I.put
        · rw [hlen, take_len] at I
          have hxl := hp.length_eq
          rw [List.length_range] at hxl
          have hnd : xs.Nodup := hp.nodup_iff.mpr List.nodup_range
          have e9 : Ext st H H9 := (e7.trans e8).trans (.of I.same)
          have fD : H D = none := e9.free (Ne.symm ((t8.d.ne nD))) |> fun _ => by
            cases hh : H D with
            | none => rfl
            | some o => 
              have := (e7.trans e8) D o hh (Ne.symm (t8.d.ne nD))
              rw [nD] at this
              cases this
          refine q (xs.map fun i => SX.S (nameL cs s0 (z + 1) a5 i)) D H9 (by rw [List.length_map]; exact hxl) ?_ (fun v hv => ?_) e9 (t8.same I.same) fD (by rw [I.at_, List.map_map]; rfl)
          · refine List.pairwise_map.mpr (hnd.imp_of_mem fun {a b} ha hb hab e => hab ?_)
            have h1 := List.mem_range.mp (hp.mem_iff.mp ha)
            have h2 := List.mem_range.mp (hp.mem_iff.mp hb)
            exact nameL_inj l2 (by omega) (by omega) (SX.S_inj e)
          · obtain ⟨i, _, rfl⟩ := List.mem_map.mp hv
            exact nm_S (nameL_small b2)
end
end OH

namespace OH
open PySem PySem.Spec PyProof.Rows L2
def wayD (e : Str × Str × Int) : PyData := .tuple [.str e.1, .str e.2.1, .int e.2.2]
theorem wayDp {K : PySem.W.Frag} {H : Hp} {a : Addr} {e : Str × Str × Int} (h : H a = some (.tup (wayV e))) : Dp K H (.ref a) (wayD e) := .tup (SqT.of h) (.cons (.str _) (.cons (.str _) (.cons (.int _) .nil)))
theorem way_alike (x y : Str × Str × Int) : PySem.W.alike (wayD x) (wayD y) = true := by
  simp [wayD, PySem.W.alike, PySem.W.alikeAll]
theorem way_depth (x : Str × Str × Int) : (wayD x).depth ≤ 50 := by
  simp [wayD, PyData.depth, PyData.depthAll]
def spTree (K : PySem.W.Frag) : Sp := fun vs H Q _ => ∃ (st x : Addr) (ns : List Int), vs = [.ref st, .int 1, .int 9] ∧ StAt K H st x ns ∧ ∀ (P : List Str) (W : List (Str × Str × Int)) (a : Addr) H', Tree P W → P.length ≤ 9 → P.Pairwise slt → (∀ v ∈ P, NmOk v) → Ext st H H' → StAt K H' st x ns → MapAt H' a P W → Q (.ref a) H'
theorem perm2 {α : Type} {ys : List α} {a b : α} (p : ys.Perm [a, b]) : ys = [a, b] ∨ ys = [b, a] := by
  have hl := p.length_eq
  match ys, hl with
  | [u, v], _ =>
    have ha : a ∈ [u, v] := p.mem_iff.mpr List.mem_cons_self
    rcases List.mem_cons.mp ha with e | e
    · subst e
      have := List.perm_singleton.mp p.cons_inv
      exact .inl (by rw [this])
    · have e := List.mem_singleton.mp e
      subst e
      have p2 := (List.Perm.swap u a []).trans p
      have := List.perm_singleton.mp p2.cons_inv
      exact .inr (by injection this with h _; rw [h])
theorem Ext.freeS {K : PySem.W.Frag} {H H' : Hp} {st x a : Addr} {ns : List Int} (e : Ext st H H') (t : StAt K H' st x ns) (h : H' a = none) : H a = none := e.free (Ne.symm (t.d.ne h)) h
theorem Tups.extD {H H' : Hp} {st x : Addr} {as : List Addr} {rows : List (List V)} (t : Tups H as rows) (d : StD H st x) (e : Ext st H H') : Tups H' as rows := by
  obtain ⟨kvs, k, l, h1, _⟩ := d.ex
  exact t.tk (tk_ext e h1 nt_dK)
theorem MapAt.extD {H H' : Hp} {st x a : Addr} {P : List Str} {W : List (Str × Str × Int)} (t : MapAt H a P W) (d : StD H st x) (e : Ext st H H') : MapAt H' a P W := by
  obtain ⟨kvs, k, l, h1, _⟩ := d.ex
  exact t.tk (tk_ext e h1 nt_dK)
theorem keep_lst {H H' : Hp} {st x a : Addr} {xs : List V} (d : StD H st x) (e : Ext st H H') (h : H a = some (.lst xs)) : H' a = some (.lst xs) := e _ _ h (Ne.symm (d.nl h))
theorem keep_tup {H H' : Hp} {st x a : Addr} {xs : List V} (d : StD H st x) (e : Ext st H H') (h : H a = some (.tup xs)) : H' a = some (.tup xs) := by
  obtain ⟨kvs, k, l, h1, _⟩ := d.ex
  exact tk_ext e h1 nt_dK _ _ h
section
variable {P : Program} {w : World} {K : PySem.W.Frag} {mg : Str → Option Value} {base : Heap}
theorem cal_Ltree {f : Addr} {fd : FuncData} (D : C8.Def K mg "_law_tree" s_Ltree f fd) (b : L2.Binds K fd ["_law_state", "_law_least_here", "_law_most"] []) (T : Bt mg) (c_Lnames : C8.Cal P w K mg base 4 "_law_names" (spNames K) []) (c_Lnumber : C8.Cal P w K mg base 3 "_law_number" (spNum K) []) (c_Ltake : C8.Cal P w K mg base 2 "_law_take" (spTake K) []) : C8.Cal P w K mg base 5 "_law_tree" (spTree K) [] := by
  refine C8.cal0 D b .nil sc_Ltree (fun vs H Q E h => ?_) (fun cdv A outer s H vs Q E hr h => ?_)
  · obtain ⟨st, x, ns, rfl, _⟩ := h
    rfl
  · obtain ⟨st, x, ns, rfl, ht, q⟩ := h
    have hu := hu_of hr
    have hu64 := hr.units
    refine ⟨_, (pss_cons (ps_set (i := 3) sc_Ltree.nd rfl (.inl v_Ltree_3) (pe_op op_add (pv 1 rfl (.inl v_Ltree_1)) (C8.pe_c c_Ltake hr (by decide) g_Ltree__law_take (pa_cons (pv 0 rfl (.inl v_Ltree_0)) (pa_cons (pe_op op_add (pe_op op_sub (pv 2 rfl (.inl v_Ltree_2)) (pv 1 rfl (.inl v_Ltree_1))) pe_int) pa_nil)))))
      (pss_cons (ps_set (i := 4) sc_Ltree.nd rfl (.inl v_Ltree_4) (C8.pe_c c_Lnames hr (by decide) g_Ltree__law_names (pa_cons (pv 0 rfl (.inl v_Ltree_0)) (pa_cons (pv 3 rfl (.inl v_Ltree_3)) pa_nil))))
      (pss_cons (ps_set (i := 5) sc_Ltree.nd rfl (.inl v_Ltree_5) (C8.pe_c c_Ltake hr (by decide) g_Ltree__law_take (pa_cons (pv 0 rfl (.inl v_Ltree_0)) (pa_cons pe_int pa_nil))))
      (pss_cons (ps_set (i := 6) sc_Ltree.nd rfl (.inl v_Ltree_6) (pe_lst pa_nil))
      (pss_cons (ps_for PassesOwn.never rfl (pi_range2 g_Ltree_range T.range_ (pa_cons pe_int (pa_cons (pv 3 rfl (.inl v_Ltree_3)) pa_nil))) (pg_name (i := 7) sc_Ltree.nd rfl (.inl v_Ltree_7))
        (pss_cons (ps_set (i := 8) sc_Ltree.nd rfl (.inl v_Ltree_8) (pe_ix ix_list (pe_lst (pa_cons (pe_op op_sub (pv 7 rfl (.inl v_Ltree_7)) pe_int) (pa_cons pe_int (pa_cons (pe_callB (call_max2 rfl) g_Ltree_max T.max_ (by decide +kernel) (pa_cons pe_int (pa_cons (pe_op op_sub (pv 7 rfl (.inl v_Ltree_7)) pe_int) pa_nil))) (pa_cons (C8.pe_c c_Ltake hr (by decide) g_Ltree__law_take (pa_cons (pv 0 rfl (.inl v_Ltree_0)) (pa_cons (pv 7 rfl (.inl v_Ltree_7)) pa_nil))) pa_nil))))) (pv 5 rfl (.inl v_Ltree_5)) (fun _ _ => rfl)))
        (pss_cons (ps_asg (pe_callB (cr_sortedD hu64) g_Ltree_sorted T.sorted_ (by decide +kernel) (pa_cons (pe_lst (pa_cons (pe_ix ix_list (pv 4 rfl (.inl v_Ltree_4)) (pv 8 rfl (.inl v_Ltree_8)) (fun _ _ => rfl)) (pa_cons (pe_ix ix_list (pv 4 rfl (.inl v_Ltree_4)) (pv 7 rfl (.inl v_Ltree_7)) (fun _ _ => rfl)) pa_nil))) pa_nil)) (pg_unl rfl (pgs_cons (pg_name (i := 9) sc_Ltree.nd rfl (.inl v_Ltree_9)) (pgs_cons (pg_name (i := 10) sc_Ltree.nd rfl (.inl v_Ltree_10)) pgs_nil))))
        (pss_one (ps_expr (pe_bm PySem.F.plainAttrs_list PySem.F.slot_list_append PySem.F.type_list_append mt_append (pv 6 rfl (.inl v_Ltree_6)) (pa_cons (pe_tup (pa_cons (pv 9 rfl (.inl v_Ltree_9)) (pa_cons (pv 10 rfl (.inl v_Ltree_10)) (pa_cons (C8.pe_c c_Lnumber hr (by decide) g_Ltree__law_number (pa_cons (pv 0 rfl (.inl v_Ltree_0)) (pa_cons pe_int pa_nil))) pa_nil)))) pa_nil)))))))
      (pss_one (ps_ret (pe_tup (pa_cons (pe_callTy call_tuple_of g_Ltree_tuple T.tuple_ (by decide +kernel) (pa_cons (pe_callB (cr_sortedD hu64) g_Ltree_sorted T.sorted_ (by decide +kernel) (pa_cons (pv 4 rfl (.inl v_Ltree_4)) pa_nil)) pa_nil)) (pa_cons (pe_callTy call_tuple_of g_Ltree_tuple T.tuple_ (by decide +kernel) (pa_cons (pe_callB (cr_sortedD hu64) g_Ltree_sorted T.sorted_ (by decide +kernel) (pa_cons (pv 6 rfl (.inl v_Ltree_6)) pa_nil)) pa_nil)) pa_nil)))))))))), ?_⟩
    refine ⟨_, rfl, _, rfl, _, rfl, _, rfl, _, _, rfl, rfl, _, _, rfl, rfl, st, x, ns, _, rfl, ht, by decide, by decide, fun n0 H1 hn0 e1 t1 => ⟨_, _, rfl, rfl, ?_⟩⟩
    have hn0 : n0 < 9 := by
      have : (n0 : Int) < 9 - 1 + 1 := hn0
      omega
    have en : (1 : Int) + (n0 : Int) = ((n0 + 1 : Nat) : Int) := by omega
    simp only [en]
    refine ⟨_, rfl, _, rfl, st, x, ns, n0 + 1, rfl, t1, by omega, fun xs nl H2 hxl hxn hxm e2 t2 f2 hl2 => ?_⟩
    refine ⟨_, rfl, st, x, ns, 4, rfl, t2, by decide, by decide, fun sh H3 hsh e3 t3 => ?_⟩
    have hl3 := keep_lst t2.d e3 hl2
    refine ⟨Nat.zero_le _, fun lw fw => ?_⟩
    have e3' := (e1.trans e2).trans e3
    have fw0 := e3'.freeS t3 fw
    have nlw : nl ≠ lw := ne_of_none hl3 fw
    have s4 := same_new (o := .lst []) fw
    have e4 : Ext st H (upd H3 lw (.lst [])) := e3'.trans (.of s4)
    have d4 := t3.d.same s4
    have h4 : upd H3 lw (.lst []) lw = some (.lst []) := upd_same
    have hl4 := s4 _ _ hl3
    generalize upd H3 lw (.lst []) = H4 at e4 d4 h4 hl4 ⊢
    refine ⟨_, rfl, _, _, rfl, ⟨by omega, by omega, by omega, by omega⟩, ?_⟩
    have hx0 : ∃ r, xs[0]? = some r := ⟨_, List.getElem?_eq_getElem (by omega)⟩
    obtain ⟨r, hr0⟩ := hx0
    refine for_rng2 (lo := 1) (hi := n0 + 1) (fun k σ H5 => ∃ (y7 y8 y9 y10 : Option V) (ws : List Addr) (Wr : List (Str × Str × Int)), σ = [some (.ref st), some (.int 1), some (.int 9), some (.int ((n0 + 1 : Nat) : Int)), some (.ref nl), some (.int (sh : Int)), some (.ref lw), y7, y8, y9, y10] ∧ Ext st H H5 ∧ StD H5 st x ∧ H5 nl = some (.lst (xs.map V.str)) ∧ H5 lw = some (.lst (ws.map V.ref)) ∧ Tups H5 ws (Wr.reverse.map wayV) ∧ Grown (xs.take (k + 1)).reverse Wr)
      ⟨_, _, _, _, [], [], rfl, e4, d4, hl4, h4, .nil, by rw [take_snoc hr0]; exact Grown.one r⟩ (fun k σ H5 hk ⟨y7, y8, y9, y10, ws, Wr, eσ, e5, d5, hl5, hw5, tw5, g5⟩ => ?_) (fun σ H5 ⟨y7, y8, y9, y10, ws, Wr, eσ, e5, d5, hl5, hw5, tw5, g5⟩ => ?_)
    · subst eσ
      refine ⟨_, rfl, _, _, rfl, rfl, _, rfl, _, _, rfl, rfl, _, _, rfl, _, rfl, _, rfl, st, x, ns, _, rfl, ht.ext e5 d5, by omega, by omega, fun a5 H6 ha5 e6 t6 => ⟨(by show 4 ≤ sizeLine; decide), fun la fla => ?_⟩⟩
      obtain ⟨ah, hah, hlt⟩ : ∃ ah : Nat, atI [V.int (((1 + k : Nat) : Int) - 1), V.int 0, V.int (if ((1 + k : Nat) : Int) - 2 > 0 then ((1 + k : Nat) : Int) - 2 else 0), V.int (a5 : Int)] (sh : Int) = some (V.int (ah : Int)) ∧ ah < 1 + k := by
        have h4 : sh = 0 ∨ sh = 1 ∨ sh = 2 ∨ sh = 3 := by omega
        rcases h4 with rfl | rfl | rfl | rfl
        · exact ⟨k, by rw [show ((1 + k : Nat) : Int) - 1 = (k : Int) by omega]; exact atI_nat (j := 0) rfl, by omega⟩
        · exact ⟨0, atI_nat (j := 1) rfl, by omega⟩
        · by_cases z : ((1 + k : Nat) : Int) - 2 > 0
          · exact ⟨k - 1, by rw [if_pos z, show ((1 + k : Nat) : Int) - 2 = ((k - 1 : Nat) : Int) by omega]; exact atI_nat (j := 2) rfl, by omega⟩
          · exact ⟨0, by rw [if_neg z]; exact atI_nat (j := 2) rfl, by omega⟩
        · exact ⟨a5, atI_nat (j := 3) rfl, by omega⟩
      refine ⟨_, rfl, la, _, _, _, rfl, rfl, SqL.of upd_same, hah, ?_⟩
      have s7 := same_new (o := .lst [V.int (((1 + k : Nat) : Int) - 1), V.int 0, V.int (if ((1 + k : Nat) : Int) - 2 > 0 then ((1 + k : Nat) : Int) - 2 else 0), V.int (a5 : Int)]) fla
      generalize upd H6 la _ = H7 at s7 ⊢
      obtain ⟨v1, hv1⟩ : ∃ v, xs[ah]? = some v := ⟨_, List.getElem?_eq_getElem (by omega)⟩
      obtain ⟨v2, hv2⟩ : ∃ v, xs[1 + k]? = some v := ⟨_, List.getElem?_eq_getElem (by omega)⟩
      have e7 : Ext st H5 H7 := e6.trans (.of s7)
      have d7 := t6.d.same s7
      have hl7 := keep_lst d5 e7 hl5
      refine ⟨_, rfl, _, rfl, _, _, _, _, rfl, rfl, SqL.of hl7, atI_nat (j := ah) (v := V.str v1) (by rw [List.getElem?_map, hv1]; rfl), _, rfl, _, rfl, _, _, _, _, rfl, rfl, SqL.of hl7, atI_nat (j := 1 + k) (v := V.str v2) (by rw [List.getElem?_map, hv2]; rfl), (by show 2 ≤ sizeLine; decide), fun lb flb => ?_⟩
      unfold tNil
      refine srt_strs (xs := [v1, v2]) (SqL.of upd_same) fun ys p hp hw np => ?_
      have s8 := (same_new (o := .lst [V.str v1, V.str v2]) flb).trans (same_new (o := .lst (ys.map V.str)) np)
      have hp8 : upd (upd H7 lb (.lst [V.str v1, V.str v2])) p (.lst (ys.map V.str)) p = some (.lst (ys.map V.str)) := upd_same
      have s8 : Same H7 (upd (upd H7 lb (.lst [V.str v1, V.str v2])) p (.lst (ys.map V.str))) := s8
      generalize upd (upd H7 lb (.lst [V.str v1, V.str v2])) p (.lst (ys.map V.str)) = H8 at s8 hp8 ⊢
      have e8 : Ext st H5 H8 := e7.trans (.of s8)
      have d8 := d7.same s8
      obtain ⟨o1, o2, rfl, ho⟩ : ∃ o1 o2, ys = [o1, o2] ∧ ((o1 = v1 ∧ o2 = v2) ∨ (o1 = v2 ∧ o2 = v1)) := by
        rcases perm2 hp with e | e
        · exact ⟨_, _, e, .inl ⟨rfl, rfl⟩⟩
        · exact ⟨_, _, e, .inr ⟨rfl, rfl⟩⟩
      refine ⟨p, _, rfl, SqL.of hp8, rfl, _, _, rfl, _, _, rfl, rfl, ?_⟩
      have hw8 := keep_lst d5 e8 hw5
      refine ⟨_, rfl, .inl ⟨rfl, _, SqL.of hw8⟩, _, rfl, _, rfl, _, rfl, st, x, ns, 1, rfl, ht.ext (e5.trans e8) d8, by decide, by decide, fun c H9 hc1 hc2 e9 t9 => ⟨(by show 3 ≤ sizeLine; decide), fun tt ft => ?_⟩⟩
      have e9' := e8.trans e9
      have hw9 := keep_lst d5 e9' hw5
      have tw9 := tw5.extD d5 e9'
      have lwt : lw ≠ tt := ne_of_none hw9 ft
      have hws : ws.length = Wr.length := by rw [tw5.len, List.length_reverse]
      have hgl := g5.len
      rw [List.length_reverse, List.length_take] at hgl
      refine ⟨lw, _, _, rfl, rfl, by rw [upd_ne lwt]; exact hw9, sz9 (by rw [List.length_map]; omega), ?_⟩
      have s10 := same_new (o := .tup [V.str o1, V.str o2, V.int c]) ft
      have ht10 : upd H9 tt (.tup [V.str o1, V.str o2, V.int c]) tt = some (.tup (wayV (o1, o2, c))) := upd_same
      have hw10 := s10 _ _ hw9
      have d10 := t9.d.same s10
      have e10 : Ext st H (upd H9 tt (.tup [V.str o1, V.str o2, V.int c])) := (e5.trans e9').trans (.of s10)
      have tw10 := tw9.tk (tk_same s10)
      have hl10 := s10 _ _ (keep_lst d5 e9' hl5)
      generalize upd H9 tt (.tup [V.str o1, V.str o2, V.int c]) = H10 at ht10 hw10 d10 e10 tw10 hl10 ⊢
      have k11 : Tk H10 (upd H10 lw (.lst (ws.map V.ref ++ [V.ref tt]))) := tk_ext (x := lw) Ext.upd hw10 nt_lst
      refine ⟨_, _, _, _, ws ++ [tt], (o1, o2, c) :: Wr, rfl, e10.mut fw0, d10.ext Ext.upd (d10.nl hw10), by rw [upd_ne nlw]; exact hl10, by rw [upd_same, List.map_append]; rfl, ?_, ?_⟩
      · rw [List.reverse_cons, List.map_append]
        exact (tw10.tk k11).snoc (k11 _ _ ht10)
      · have hv2' : xs[k + 1]? = some v2 := by rw [Nat.add_comm]; exact hv2
        rw [take_snoc hv2', List.reverse_append]
        refine Grown.leaf (a := v1) (l := c) g5 ?_ ?_ hc1 hc2 ?_
        · show v1 ∈ (xs.take (k + 1)).reverse
          rw [List.mem_reverse]
          exact List.mem_iff_getElem?.mpr ⟨ah, by rw [List.getElem?_take_of_lt (by omega)]; exact hv1⟩
        · show v2 ∉ (xs.take (k + 1)).reverse
          rw [List.mem_reverse]
          intro hm
          obtain ⟨j, hj⟩ := List.mem_iff_getElem?.mp hm
          have hjl := (List.getElem?_eq_some_iff.mp hj).1
          rw [List.length_take] at hjl
          rw [List.getElem?_take_of_lt (by omega)] at hj
          have := nd_ix' hxn hj hv2
          omega
        · rcases ho with ⟨rfl, rfl⟩ | ⟨rfl, rfl⟩
          · exact .inl rfl
          · exact .inr rfl
    · subst eσ
      have t5 := ht.ext e5 d5
      have hw : n0 + 1 - 1 = n0 := by omega
      rw [hw, ← hxl, take_len] at g5
      refine ⟨_, rfl, ?_⟩
      unfold tNil
      refine srt_strs (xs := xs) (SqL.of hl5) fun ys p hp hys np => ?_
      have s6 := same_new (o := .lst (ys.map V.str)) np
      have hp6 : upd H5 p (.lst (ys.map V.str)) p = some (.lst (ys.map V.str)) := upd_same
      generalize upd H5 p (.lst (ys.map V.str)) = H6 at s6 hp6 ⊢
      refine ⟨p, _, rfl, .inl ⟨SqL.of hp6, fun tp ftp => ?_⟩⟩
      have s7 := s6.trans (same_new (o := .tup (ys.map V.str)) ftp)
      have ht7 : upd H6 tp (.tup (ys.map V.str)) tp = some (.tup (ys.map V.str)) := upd_same
      generalize upd H6 tp (.tup (ys.map V.str)) = H7 at s7 ht7 ⊢
      refine ⟨_, rfl, ?_⟩
      refine srt_tups (d := wayD) (f := wayV) (as := ws) (rows := Wr.reverse) (SqL.of (s7 _ _ hw5)) (tw5.tk (tk_same s7)) (fun b r h => wayDp h) way_alike (fun y => ⟨_, _, rfl⟩) way_depth fun as' rows' p8 hpr _ htr np8 => ?_
      have s8 := s7.trans (same_new (o := .lst (as'.map V.ref)) np8)
      have hp8 : upd H7 p8 (.lst (as'.map V.ref)) p8 = some (.lst (as'.map V.ref)) := upd_same
      have ht8 := same_new (o := .lst (as'.map V.ref)) np8 _ _ ht7
      have htr8 := htr.tk (tk_same (same_new (o := .lst (as'.map V.ref)) np8))
      generalize upd H7 p8 (.lst (as'.map V.ref)) = H8 at s8 hp8 ht8 htr8 ⊢
      refine ⟨p8, _, rfl, .inl ⟨SqL.of hp8, fun tw ftw => ?_⟩⟩
      have s9 := s8.trans (same_new (o := .tup (as'.map V.ref)) ftw)
      have hw9 : upd H8 tw (.tup (as'.map V.ref)) tw = some (.tup (as'.map V.ref)) := upd_same
      have ht9 := same_new (o := .tup (as'.map V.ref)) ftw _ _ ht8
      have htr9 := htr8.tk (tk_same (same_new (o := .tup (as'.map V.ref)) ftw))
      generalize upd H8 tw (.tup (as'.map V.ref)) = H9 at s9 hw9 ht9 htr9 ⊢
      refine ⟨(by show 2 ≤ sizeLine; decide), fun a fa => ?_⟩
      have sa := same_new (o := .tup [V.ref tp, V.ref tw]) fa
      have hyn : ys.Nodup := hp.nodup_iff.mpr hxn
      refine q ys rows' a _ ⟨_, _, g5, hp.trans (List.reverse_perm xs).symm, hpr.trans (List.reverse_perm Wr)⟩ (by rw [hp.length_eq, hxl]; omega) (sorted_lt hys hyn) (fun v hv => hxm v (hp.mem_iff.mp hv)) (e5.trans (.of (s9.trans sa))) (t5.same (s9.trans sa)) ⟨tp, tw, as', upd_same, sa _ _ ht9, sa _ _ hw9, htr9.tk (tk_same sa)⟩
end
end OH

namespace OH
open PySem PySem.Spec PyProof.Rows L2
def spSome (K : PySem.W.Frag) : Sp := fun vs H Q _ => ∃ (st x : Addr) (ns : List Int) (ap : Addr) (P : List Str) (m : Nat), vs = [.ref st, .ref ap, .int (m : Int)] ∧ StAt K H st x ns ∧ H ap = some (.tup (P.map V.str)) ∧ 1 ≤ P.length ∧ P.length ≤ 9 ∧ P.Nodup ∧ 1 ≤ m ∧ m ≤ 1000 ∧
  ∀ (ys : List Str) (l : Addr) H', ys.Nodup → (∀ v ∈ ys, v ∈ P) → 1 ≤ ys.length → ys.length ≤ 9 → Ext st H H' → StAt K H' st x ns → H l = none → H' l = some (.lst (ys.map V.str)) → Q (.ref l) H'
def spCase (K : PySem.W.Frag) : Sp := fun vs H Q _ => ∃ (st x : Addr) (ns : List Int) (am : Addr) (P : List Str) (W : List (Str × Str × Int)), vs = [.ref st, .ref am, .int 4, .int 8] ∧ StAt K H st x ns ∧ MapAt H am P W ∧ Tree P W ∧ P.length ≤ 9 ∧ P.Pairwise slt ∧ (∀ v ∈ P, NmOk v) ∧
  ∀ (C : Cse) (c : Addr) H', C.P = P → C.W = W → C.Ok → Ext st H H' → StAt K H' st x ns → CaseAt H' c C → Q (.ref c) H'
theorem cutV_to (xs : List V) (n : Nat) : cutV xs none (some (n : Int)) = xs.take n := by
  unfold cutV
  rw [HT.sIx_nat, HT.sIx_none, List.drop_zero, Nat.sub_zero]
  by_cases h : n ≤ xs.length
  · rw [Nat.min_eq_left h]
  · rw [Nat.min_eq_right (by omega), List.take_length, List.take_of_length_le (by omega)]
theorem natV_take (xs : List Nat) (n : Nat) : (natV xs).take n = natV (xs.take n) := by
  unfold natV
  rw [List.map_take]
theorem natV_at {xs : List Nat} {i : Nat} {v : V} (h : (natV xs)[i]? = some v) : ∃ j, xs[i]? = some j ∧ v = .int (j : Int) := by
  unfold natV at h
  rw [List.getElem?_map] at h
  cases hx : xs[i]? with
  | none => rw [hx] at h; cases h
  | some j => rw [hx] at h; cases h; exact ⟨j, rfl, rfl⟩
theorem natV_len (xs : List Nat) : (natV xs).length = xs.length := List.length_map _
def pick (P : List Str) (j : Nat) : Str := P.getD j ""
theorem pick_at {P : List Str} {j : Nat} (h : j < P.length) : P[j]? = some (pick P j) := by
  unfold pick
  rw [List.getD_eq_getElem?_getD, List.getElem?_eq_getElem h]; rfl
theorem perm_take_nd {xs : List Nat} {n m : Nat} (h : xs.Perm (List.range n)) : (xs.take m).Nodup ∧ ∀ j ∈ xs.take m, j < n := by
  refine ⟨(h.nodup_iff.mpr List.nodup_range).sublist (List.take_sublist _ _), fun j hj => List.mem_range.mp (h.mem_iff.mp (List.mem_of_mem_take hj))⟩
section
variable {P : Program} {w : World} {K : PySem.W.Frag} {mg : Str → Option Value} {base : Heap}
theorem cal_Lsome {f : Addr} {fd : FuncData} (D : C8.Def K mg "_law_some" s_Lsome f fd) (b : L2.Binds K fd ["_law_state", "_law_places", "_law_most"] []) (T : Bt mg) (c_Lorder : C8.Cal P w K mg base 3 "_law_order" (spOrder K) []) (c_Ltake : C8.Cal P w K mg base 2 "_law_take" (spTake K) []) : C8.Cal P w K mg base 4 "_law_some" (spSome K) [] := by
  refine C8.cal0 D b .nil sc_Lsome (fun vs H Q E h => ?_) (fun cdv A outer s H vs Q E hr h => ?_)
  · obtain ⟨st, x, ns, ap, Pl, m, rfl, _⟩ := h
    rfl
  · obtain ⟨st, x, ns, ap, Pl, m, rfl, ht, hap, hP1, hP9, hPn, hm1, hm2, q⟩ := h
    have hu := hu_of hr
    have hu64 := hr.units
    refine ⟨_, (pss_cons (ps_set (i := 3) sc_Lsome.nd rfl (.inl v_Lsome_3) (pe_op op_add pe_int (C8.pe_c c_Ltake hr (by decide) g_Lsome__law_take (pa_cons (pv 0 rfl (.inl v_Lsome_0)) (pa_cons (pe_callB (call_min2 rfl) g_Lsome_min T.min_ (by decide +kernel) (pa_cons (pv 2 rfl (.inl v_Lsome_2)) (pa_cons (pe_callB call_len_seq g_Lsome_len T.len_ (by decide +kernel) (pa_cons (pv 1 rfl (.inr (.inl v_Lsome_1))) pa_nil)) pa_nil))) pa_nil)))))
      (pss_one (ps_ret (pe_callB (cr_sortedD hu64) g_Lsome_sorted T.sorted_ (by decide +kernel) (pa_cons (pe_lc (own := [("_law_k", 4)]) rfl sc_Lsome.nd (pi_list (pe_slice sl_list (C8.pe_c c_Lorder hr (by decide) g_Lsome__law_order (pa_cons (pv 0 rfl (.inl v_Lsome_0)) (pa_cons (pe_callB call_len_seq g_Lsome_len T.len_ (by decide +kernel) (pa_cons (pv 1 rfl (.inr (.inl v_Lsome_1))) pa_nil)) pa_nil))) po_none (po_some (pv 3 rfl (.inl v_Lsome_3))))) (blkOk_by (own := [("_law_k", 4)]) (N := N_Lsome) (sc := sc s_Lsome) (by decide +kernel)) (fun _ _ _ _ _ => (pg_name (i := 4) sc_Lsome.nd rfl (.inl rfl) (.inr rfl))) (fun _ _ _ _ _ => pts_nil) (fun _ _ _ _ _ => (pe_ix (ix_tupK (K := K) rfl) (pv 1) (pv 4) (fun _ _ => rfl)))) pa_nil))))), ?_⟩
    have hlen : ((Pl.map V.str).length : Int) = (Pl.length : Int) := by rw [List.length_map]
    refine ⟨_, rfl, _, rfl, _, rfl, ap, _, rfl, .inr (SqT.of hap), _, _, rfl, st, x, ns, _, rfl, ht, ?_, ?_, fun n0 H1 hn0 e1 t1 => ⟨_, _, rfl, rfl, ?_⟩⟩
    · rw [hlen]; split <;> omega
    · rw [hlen]; split <;> omega
    have en : (1 : Int) + (n0 : Int) = ((n0 + 1 : Nat) : Int) := by omega
    simp only [en]
    have hap1 := keep_tup ht.d e1 hap
    refine ⟨_, rfl, _, rfl, ap, _, rfl, .inr (SqT.of hap1), st, x, ns, Pl.length, by rw [List.length_map]; rfl, t1, by omega, fun xs l H2 hp e2 t2 fl hl => ?_⟩
    refine ⟨_, rfl, _, rfl, l, _, rfl, SqL.of hl, fun p np => ⟨p, rfl, ⟨_, SqL.of upd_same⟩, fun D nD => ?_⟩⟩
    rw [cutV_to, natV_take] at nD ⊢
    have hps : upd H2 p (.lst (natV (xs.take (n0 + 1)))) p = some (.lst (natV (xs.take (n0 + 1)))) := upd_same
    have s3 : Same H2 (upd H2 p (.lst (natV (xs.take (n0 + 1))))) := same_new np
    generalize upd H2 p (.lst (natV (xs.take (n0 + 1)))) = H3 at nD hps s3 ⊢
    obtain ⟨hzn, hzm⟩ := perm_take_nd (m := n0 + 1) hp
    have hxl := hp.length_eq
    rw [List.length_range] at hxl
    have hzl : (xs.take (n0 + 1)).length = n0 + 1 := by
      rw [List.length_take, hxl]
      rw [hlen] at hn0
      split at hn0 <;> omega
    have hn9 : n0 + 1 ≤ 9 := by
      rw [List.length_take, hxl] at hzl
      omega
    generalize xs.take (n0 + 1) = zs at hps hzn hzm hzl ⊢
    have hap3 := s3 _ _ (keep_tup t1.d e2 hap1)
    refine L2.lc_list (xs := natV zs) (fun i H9 => LI H3 H9 D ((zs.take i).map fun j => V.str (pick Pl j))) (LI.nil nD) (fun i H9 _ I => SqL.of (I.same _ _ hps)) (fun i v H9 hv I => ?_) (fun H9 I => ?_)
    · obtain ⟨j, hj, rfl⟩ := natV_at hv
      refine ⟨rfl, ?_⟩
      refine iteT (B := LI H3 H9 D ((zs.take (i + 1)).map fun j => V.str (pick Pl j))) ?_
      have hjl := hzm j (List.mem_of_getElem? hj)
      refine ⟨_, rfl, _, rfl, _, _, _, _, rfl, rfl, SqT.of (I.same _ _ hap3), atI_nat (j := j) (v := V.str (pick Pl j)) (by rw [List.getElem?_map, pick_at hjl]; rfl), _, I.at_, sz9 (by rw [List.length_map, List.length_take]; omega), ?_⟩
      rw [take_snoc hj, List.map_append]
      exact I.put
    · rw [natV_len, take_len] at I
      have hD := I.at_
      have e9 : (zs.map fun j => V.str (pick Pl j)) = (zs.map (pick Pl)).map V.str := by rw [List.map_map]; rfl
      rw [e9] at hD
      unfold tNil
      refine srt_strs (xs := zs.map (pick Pl)) (SqL.of hD) fun ys p2 hp2 hys np2 => ?_
      have s9 := s3.trans (I.same.trans (same_new (o := .lst (ys.map V.str)) np2))
      have eA : Ext st H (upd H9 p2 (.lst (ys.map V.str))) := (e1.trans e2).trans (.of s9)
      have tA : StAt K (upd H9 p2 (.lst (ys.map V.str))) st x ns := t2.same s9
      have fA : H p2 = none := ((e1.trans e2).trans (.of (s3.trans I.same))).freeS (t2.same (s3.trans I.same)) np2
      have hzn2 : (zs.map (pick Pl)).Nodup := by
        refine List.pairwise_map.mpr (hzn.imp_of_mem fun {a b} ha hb hab e => hab ?_)
        exact nd_ix' hPn (pick_at (hzm a ha)) (e ▸ pick_at (hzm b hb))
      refine q ys p2 _ (hp2.nodup_iff.mpr hzn2) (fun v hv => ?_) (by rw [hp2.length_eq, List.length_map]; omega) (by rw [hp2.length_eq, List.length_map]; omega) eA tA fA upd_same
      obtain ⟨j, hj, rfl⟩ := List.mem_map.mp (hp2.mem_iff.mp hv)
      exact List.mem_of_getElem? (pick_at (hzm j hj))
end
end OH

namespace OH
open PySem PySem.Spec PyProof.Rows L2
/-- rows with drawn numbers, being made -/
structure Dr (H1 H : Hp) (st x D : Addr) (ys : List Str) (lo : Int) (i : Nat) : Prop where
  ex : ∃ (as : List Addr) (rows : List (Str × Int)), Ext st H1 H ∧ StD H st x ∧ H D = some (.lst (as.map V.ref)) ∧ Tups H as (rows.map pairV) ∧ rows.map (·.1) = ys.take i ∧ ∀ e ∈ rows, lo ≤ e.2 ∧ e.2 ≤ B30
theorem Dr.nil {H1 : Hp} {st x D : Addr} {ys : List Str} {lo : Int} (d : StD H1 st x) (h : H1 D = none) : Dr H1 (upd H1 D (.lst [])) st x D ys lo 0 :=
  ⟨[], [], .of (same_new h), d.same (same_new h), upd_same, .nil, rfl, fun e he => by cases he⟩
section
variable {P : Program} {w : World} {K : PySem.W.Frag} {mg : Str → Option Value} {base : Heap}
theorem Dr.add {H1 H H2 : Hp} {st x D tt : Addr} {ys : List Str} {lo c : Int} {i : Nat} {y : Str} {as : List Addr} {rows : List (Str × Int)} (d1 : StD H1 st x) (fD : H1 D = none) (e0 : Ext st H1 H) (d0 : StD H st x) (h0 : H D = some (.lst (as.map V.ref))) (t0 : Tups H as (rows.map pairV)) (r0 : rows.map (·.1) = ys.take i) (b0 : ∀ e ∈ rows, lo ≤ e.2 ∧ e.2 ≤ B30)
    (hy : ys[i]? = some y) (h1 : lo ≤ c) (h2 : c ≤ B30) (e : Ext st H H2) (d2 : StD H2 st x) (ft : H2 tt = none) :
    (upd H2 tt (.tup [V.str y, V.int c])) D = some (.lst (as.map V.ref)) ∧ Dr H1 (upd (upd H2 tt (.tup [V.str y, V.int c])) D (.lst (as.map V.ref ++ [V.ref tt]))) st x D ys lo (i + 1) := by
  have hD2 := keep_lst d0 e h0
  have s3 := same_new (o := .tup [V.str y, V.int c]) ft
  have hD3 := s3 _ _ hD2
  have ht3 : upd H2 tt (.tup [V.str y, V.int c]) tt = some (.tup (pairV (y, c))) := upd_same
  have e3 : Ext st H1 (upd H2 tt (.tup [V.str y, V.int c])) := (e0.trans e).trans (.of s3)
  have d3 := d2.same s3
  have t3 := (t0.extD d0 e).tk (tk_same s3)
  refine ⟨hD3, ?_⟩
  generalize upd H2 tt (.tup [V.str y, V.int c]) = H3 at hD3 ht3 e3 d3 t3 ⊢
  have k4 : Tk H3 (upd H3 D (.lst (as.map V.ref ++ [V.ref tt]))) := tk_ext (x := D) Ext.upd hD3 nt_lst
  refine ⟨as ++ [tt], rows ++ [(y, c)], e3.mut fD, d3.ext Ext.upd (d3.nl hD3), by rw [upd_same, List.map_append]; rfl, ?_, by rw [List.map_append, r0, take_snoc hy]; rfl, fun e he => ?_⟩
  · rw [List.map_append]
    exact (t3.tk k4).snoc (k4 _ _ ht3)
  · rcases List.mem_append.mp he with he | he
    · exact b0 e he
    · rw [List.mem_singleton.mp he]; exact ⟨h1, h2⟩
theorem cal_Lcase {f : Addr} {fd : FuncData} (D : C8.Def K mg "_law_case" s_Lcase f fd) (b : L2.Binds K fd ["_law_state", "_law_here", "_law_sites", "_law_folk"] []) (T : Bt mg) (c_Lnumber : C8.Cal P w K mg base 3 "_law_number" (spNum K) []) (c_Lsome : C8.Cal P w K mg base 4 "_law_some" (spSome K) []) (c_Ltake : C8.Cal P w K mg base 2 "_law_take" (spTake K) []) : C8.Cal P w K mg base 5 "_law_case" (spCase K) [] := by
  refine C8.cal0 D b .nil sc_Lcase (fun vs H Q E h => ?_) (fun cdv A outer s H vs Q E hr h => ?_)
  · obtain ⟨st, x, ns, am, Pl, W, rfl, _⟩ := h
    rfl
  · obtain ⟨st, x, ns, am, Pl, W, rfl, ht, hM, hT, h9, hS, hnm, q⟩ := h
    have hu := hu_of hr
    have hu64 := hr.units
    refine ⟨_, (pss_cons (ps_setLc (i := 4) (own := [("_law_place", 7)]) rfl sc_Lcase.nd rfl v_Lcase_4 (sw_true rfl v_Lcase_4 rfl (by decide +kernel)) (pi_list (C8.pe_c c_Lsome hr (by decide) g_Lcase__law_some (pa_cons (pv 0 rfl (.inr (.inl v_Lcase_0))) (pa_cons (pe_ix ix_tup (pv 1 rfl (.inl v_Lcase_1)) pe_int (fun _ _ => rfl)) (pa_cons (pv 2 rfl (.inl v_Lcase_2)) pa_nil))))) (blkOk_by (own := [("_law_place", 7)]) (N := N_Lcase) (sc := sc s_Lcase) (by decide +kernel)) (fun _ _ _ _ _ => (pg_name (i := 7) sc_Lcase.nd rfl (.inl rfl) (.inr rfl))) (fun _ _ _ _ _ => pts_nil) (fun _ _ _ _ _ => (pe_tup (pa_cons (pv 7) (pa_cons (C8.pe_c c_Lnumber hr (by decide) (by rfl) (pa_cons (pv 0) (pa_cons pe_int pa_nil))) pa_nil)))))
      (pss_cons (ps_setLc (i := 5) (own := [("_law_place", 7)]) rfl sc_Lcase.nd rfl v_Lcase_5 (sw_true rfl v_Lcase_5 rfl (by decide +kernel)) (pi_list (C8.pe_c c_Lsome hr (by decide) g_Lcase__law_some (pa_cons (pv 0 rfl (.inr (.inl v_Lcase_0))) (pa_cons (pe_ix ix_tup (pv 1 rfl (.inl v_Lcase_1)) pe_int (fun _ _ => rfl)) (pa_cons (pv 3 rfl (.inl v_Lcase_3)) pa_nil))))) (blkOk_by (own := [("_law_place", 7)]) (N := N_Lcase) (sc := sc s_Lcase) (by decide +kernel)) (fun _ _ _ _ _ => (pg_name (i := 7) sc_Lcase.nd rfl (.inl rfl) (.inr rfl))) (fun _ _ _ _ _ => pts_nil) (fun _ _ _ _ _ => (pe_tup (pa_cons (pv 7) (pa_cons (C8.pe_c c_Lnumber hr (by decide) (by rfl) (pa_cons (pv 0) (pa_cons pe_int pa_nil))) pa_nil)))))
      (pss_cons (ps_set (i := 6) sc_Lcase.nd rfl (.inl v_Lcase_6) pe_non)
      (pss_cons (ps_if (pt_cmpR op_gt (C8.pe_c c_Ltake hr (by decide) g_Lcase__law_take (pa_cons (pv 0 rfl (.inr (.inl v_Lcase_0))) (pa_cons pe_int pa_nil))) pe_int (nomark _)) (pss_one (ps_set (i := 6) sc_Lcase.nd rfl (.inl v_Lcase_6) (pe_op op_add pe_int (C8.pe_c c_Ltake hr (by decide) g_Lcase__law_take (pa_cons (pv 0 rfl (.inr (.inl v_Lcase_0))) (pa_cons (pe_op op_add (pe_callB call_len_seq g_Lcase_len T.len_ (by decide +kernel) (pa_cons (pv 4 rfl (.inl v_Lcase_4)) pa_nil)) pe_int) pa_nil)))))) pss_nil)
      (pss_one (ps_ret (pe_tup (pa_cons (pv 1 rfl (.inl v_Lcase_1)) (pa_cons (pe_callTy call_tuple_of g_Lcase_tuple T.tuple_ (by decide +kernel) (pa_cons (pv 4 rfl (.inl v_Lcase_4)) pa_nil)) (pa_cons (pe_callTy call_tuple_of g_Lcase_tuple T.tuple_ (by decide +kernel) (pa_cons (pv 5 rfl (.inl v_Lcase_5)) pa_nil)) (pa_cons (pv 6 rfl (.inl v_Lcase_6)) pa_nil))))))))))), ?_⟩
    obtain ⟨ap, aw, ws, m1, m2, m3, m4⟩ := hM.ex
    have hP1 : 1 ≤ Pl.length := by have := hT.len; omega
    refine ⟨_, rfl, _, rfl, _, _, _, _, rfl, rfl, SqT.of m1, atI_nat (j := 0) rfl, _, rfl, st, x, ns, ap, Pl, 4, rfl, ht, m2, hP1, h9, hT.nodup, by decide, by decide, fun ys l H1 yn yP y1 y9 e1 t1 f1 hl1 => ⟨l, rfl, ⟨_, SqL.of hl1⟩, fun D1 nD1 => ?_⟩⟩
    refine lc_strsL (P := ys) (fun i H2 => Dr H1 H2 st x D1 ys 0 i) (.nil t1.d nD1) (fun i H2 ⟨_, _, e2, _⟩ => keep_lst t1.d e2 hl1) (fun i y H2 hy ⟨as, rows, e2, d2, hD, tD, rD, bD⟩ => ?_) (fun H2 ⟨as, rows, e2, d2, hD, tD, rD, bD⟩ => ?_)
    · refine ⟨rfl, ?_⟩
      refine iteT (B := Dr H1 H2 st x D1 ys 0 (i + 1)) ?_
      refine ⟨_, rfl, _, rfl, st, x, ns, 0, rfl, t1.ext e2 d2, by decide, by decide, fun c H3 hc1 hc2 e3 t3 => ⟨(by show 2 ≤ sizeLine; decide), fun tt ft => ?_⟩⟩
      obtain ⟨a1, a2⟩ := Dr.add t1.d nD1 e2 d2 hD tD rD bD hy hc1 hc2 e3 t3.d ft
      have hal : as.length = (ys.take i).length := by rw [tD.len, ← rD, List.length_map]
      exact ⟨_, a1, sz9 (by rw [List.length_map, hal, List.length_take]; omega), a2⟩
    rw [take_len] at rD
    have t2 := t1.ext e2 d2
    have eA := e1.trans e2
    have m1' := keep_tup ht.d eA m1
    have m2' := keep_tup ht.d eA m2
    refine ⟨_, rfl, _, rfl, _, _, _, _, rfl, rfl, SqT.of m1', atI_nat (j := 0) rfl, _, rfl, st, x, ns, ap, Pl, 8, rfl, t2, m2', hP1, h9, hT.nodup, by decide, by decide, fun zs l2 H3 zn zP z1 z9 e3 t3 f3 hl3 => ⟨l2, rfl, ⟨_, SqL.of hl3⟩, fun D2 nD2 => ?_⟩⟩
    refine lc_strsL (P := zs) (fun i H4 => Dr H3 H4 st x D2 zs 1 i) (.nil t3.d nD2) (fun i H4 ⟨_, _, e4, _⟩ => keep_lst t3.d e4 hl3) (fun i y H4 hy ⟨as2, rows2, e4, d4, hD2, tD2, rD2, bD2⟩ => ?_) (fun H4 ⟨as2, rows2, e4, d4, hD2, tD2, rD2, bD2⟩ => ?_)
    · refine ⟨rfl, ?_⟩
      refine iteT (B := Dr H3 H4 st x D2 zs 1 (i + 1)) ?_
      refine ⟨_, rfl, _, rfl, st, x, ns, 1, rfl, t3.ext e4 d4, by decide, by decide, fun c H5 hc1 hc2 e5 t5 => ⟨(by show 2 ≤ sizeLine; decide), fun tt ft => ?_⟩⟩
      obtain ⟨a1, a2⟩ := Dr.add t3.d nD2 e4 d4 hD2 tD2 rD2 bD2 hy hc1 hc2 e5 t5.d ft
      have hal : as2.length = (zs.take i).length := by rw [tD2.len, ← rD2, List.length_map]
      exact ⟨_, a1, sz9 (by rw [List.length_map, hal, List.length_take]; omega), a2⟩
    rw [take_len] at rD2
    have t4 := t3.ext e4 d4
    have eB := e3.trans e4
    have hD' := keep_lst d2 eB hD
    have tD' := tD.extD d2 eB
    have hrl : rows.length = ys.length := by rw [← rD, List.length_map]
    have hrl2 : rows2.length = zs.length := by rw [← rD2, List.length_map]
    -- the rest, for any limit
    have fin : ∀ (lim : Option Int) (H5 : Hp), (∀ l, lim = some l → 1 ≤ l) → Ext st H4 H5 → StAt K H5 st x ns → ∀ t1 t2 c : Addr, H5 t1 = none → ∀ o1, o1 = HO.tup (as.map V.ref) → upd H5 t1 o1 t2 = none → ∀ o2, o2 = HO.tup (as2.map V.ref) → upd (upd H5 t1 o1) t2 o2 c = none → ∀ o3, o3 = HO.tup [V.ref am, V.ref t1, V.ref t2, oV lim] → Q (.ref c) (upd (upd (upd H5 t1 o1) t2 o2) c o3) := fun lim H5 hlim e5 t5 b1 b2 c f1 o1 eo1 f2 o2 eo2 f3 o3 eo3 => by
      subst eo1 eo2 eo3
      have s1 := same_new (o := .tup (as.map V.ref)) f1
      have s2 := same_new (o := .tup (as2.map V.ref)) f2
      have s3 := same_new (o := .tup [V.ref am, V.ref b1, V.ref b2, oV lim]) f3
      have sA := (s1.trans s2).trans s3
      have eH := ((eA.trans eB).trans e5).trans (.of sA)
      refine q ⟨Pl, W, rows, rows2, lim⟩ c _ rfl rfl ⟨hT, h9, hS, hnm, ?_, fun e he => ?_, ?_, ?_, fun e he => ?_, ?_, hlim⟩ eH (t5.same sA) ⟨am, b1, b2, upd_same, hM.extD ht.d eH, ⟨as, s3 _ _ (s2 _ _ upd_same), (tD'.extD d4 e5).tk (tk_same sA)⟩, ⟨as2, s3 _ _ upd_same, (tD2.extD d4 e5).tk (tk_same sA)⟩⟩
      · show (rows.map (·.1)).Nodup
        rw [rD]; exact yn
      · have := bD e he
        exact ⟨yP _ (by rw [← rD]; exact List.mem_map.mpr ⟨e, he, rfl⟩), this.1, this.2⟩
      · show 1 ≤ rows.length ∧ rows.length ≤ 9
        omega
      · show (rows2.map (·.1)).Nodup
        rw [rD2]; exact zn
      · have := bD2 e he
        exact ⟨zP _ (by rw [← rD2]; exact List.mem_map.mpr ⟨e, he, rfl⟩), this.1, this.2⟩
      · show rows2.length ≤ 9
        omega
    refine ⟨_, rfl, st, x, ns, 3, rfl, t4, by decide, by decide, fun n5 H5 h5 e5 t5 => ⟨_, _, rfl, rfl, _, rfl, ?_⟩⟩
    have hD5 := keep_lst d4 e5 hD'
    have hD5' := keep_lst d4 e5 hD2
    by_cases z : (0 : Int) < (n5 : Int)
    · refine ifT (decide_eq_true z) ?_
      refine ⟨_, rfl, _, rfl, D1, _, rfl, .inl (SqL.of hD5), _, _, rfl, rfl, st, x, ns, _, rfl, t5, by omega, by rw [List.length_map, tD.len]; omega, fun n6 H6 h6 e6 t6 => ⟨_, _, rfl, rfl, ?_⟩⟩
      have hD6 := keep_lst t5.d e6 hD5
      have hD6' := keep_lst t5.d e6 hD5'
      refine ⟨_, rfl, _, rfl, D1, _, rfl, .inl ⟨SqL.of hD6, fun b1 f1 => ⟨_, rfl, D2, _, rfl, .inl ⟨SqL.of (same_new f1 _ _ hD6'), fun b2 f2 => ⟨_, rfl, (by show 4 ≤ sizeLine; decide), fun c fc => ?_⟩⟩⟩⟩⟩
      exact fin (some (1 + (n6 : Int))) H6 (fun l hl => by have := Option.some.inj hl; omega) (e5.trans e6) t6 b1 b2 c f1 _ rfl f2 _ rfl fc _ rfl
    · refine ifF (fun y => z (of_decide_eq_true y)) ?_
      refine ⟨_, rfl, _, rfl, D1, _, rfl, .inl ⟨SqL.of hD5, fun b1 f1 => ⟨_, rfl, D2, _, rfl, .inl ⟨SqL.of (same_new f1 _ _ hD5'), fun b2 f2 => ⟨_, rfl, (by show 4 ≤ sizeLine; decide), fun c fc => ?_⟩⟩⟩⟩⟩
      exact fin none H5 (fun l hl => by cases hl) e5 t5 b1 b2 c f1 _ rfl f2 _ rfl fc _ rfl
end
end OH

namespace OH
open PySem PySem.Spec PyProof.Rows L2
abbrev Dt.ul (D : Dt) : Str → List Str := Ul D.C.P D.r D.par D.dep
structure ShAt (H : Hp) (sh : Addr) (D : Dt) (F : Addr → Prop) : Prop where
  ex : ∃ ld ud fd, H sh = some (.tup [.ref ld, .ref ud, .ref fd]) ∧ StrsAt H ld D.C.P D.kids ∧ StrsAt H ud D.C.P D.ul ∧ FarO H fd D.S D.C.P D.far F ∧ F ld ∧ F ud ∧ F fd
theorem ShAt.imp {H : Hp} {sh : Addr} {D : Dt} {F G : Addr → Prop} (s : ShAt H sh D F) (h : ∀ a, F a → G a) : ShAt H sh D G := by
  obtain ⟨ld, ud, fd, h1, h2, h3, h4, f1, f2, f3⟩ := s.ex
  refine ⟨ld, ud, fd, h1, h2, h3, ?_, h _ f1, h _ f2, h _ f3⟩
  obtain ⟨kvs, a, b⟩ := h4.ex
  refine ⟨kvs, a, fun v hv => ?_⟩
  obtain ⟨e, b1, b2, b3⟩ := b v hv
  exact ⟨e, b1, b2, h _ b3⟩
theorem ShAt.same {H H' : Hp} {sh : Addr} {D : Dt} {F : Addr → Prop} (s : ShAt H sh D F) (e : Same H H') : ShAt H' sh D F := by
  obtain ⟨ld, ud, fd, h1, h2, h3, h4, f⟩ := s.ex
  exact ⟨ld, ud, fd, e _ _ h1, h2.same e, h3.same e, h4.same e, f⟩
theorem ShAt.ext {H H' : Hp} {sh x : Addr} {D : Dt} {F : Addr → Prop} {ks : List (Key × V)} (s : ShAt H sh D F) (e : Ext x H H') (hx : H x = some (.dK ks)) (hF : ∀ a, F a → a ≠ x) : ShAt H' sh D F := by
  obtain ⟨ld, ud, fd, h1, h2, h3, h4, f1, f2, f3⟩ := s.ex
  exact ⟨ld, ud, fd, e.ne hx h1 (fun z => by cases z), h2.ext e (hF _ f1) hx, h3.ext e (hF _ f2) hx, h4.ext e (hF _ f3) hF, f1, f2, f3⟩
theorem ShAt.extT {H H' : Hp} {sh x : Addr} {D : Dt} {F : Addr → Prop} {ks : List (List Key × V)} (s : ShAt H sh D F) (e : Ext x H H') (hx : H x = some (.dT ks)) : ShAt H' sh D F := by
  obtain ⟨ld, ud, fd, h1, h2, h3, h4, f⟩ := s.ex
  exact ⟨ld, ud, fd, e.ne hx h1 (fun z => by cases z), h2.extT e hx, h3.extT e hx, h4.extT e hx, f⟩
def spShape : Sp := fun vs H Q _ => ∃ (c : Addr) (D : Dt), vs = [.ref c] ∧ CaseAt H c D.C ∧ D.Ok ∧ ∀ sh H', Same H H' → ShAt H' sh D (fun a => H a = none) → Q (.ref sh) H'
def spLbegun : Sp := fun vs H Q _ => ∃ (c ud nd : Addr) (D : Dt) (Pd : List Str) (num : Str → Str → Nat → Option Int) (p : Str) (h : Nat), vs = [.ref c, .ref ud, .ref nd, .str p, .int (h : Int)] ∧ CaseAt H c D.C ∧ D.Ok ∧ StrsAt H ud D.C.P D.ul ∧ NumsAt H nd Pd D.S D.C.R num ∧ p ∈ Pd ∧ p ∈ D.C.P ∧ h ≤ D.C.R ∧ ∀ H', Same H H' → Q (oV (D.begun num p h)) H'
def spLhanded : Sp := fun vs H Q _ => ∃ (cs ud nd : Addr) (D : Dt) (Pd : List Str) (num : Str → Str → Nat → Option Int) (c s : Str) (m : Nat), vs = [.ref cs, .ref ud, .ref nd, .str c, .str s, .int (m : Int)] ∧ CaseAt H cs D.C ∧ D.Ok ∧ StrsAt H ud D.C.P D.ul ∧ NumsAt H nd Pd D.S D.C.R num ∧ c ∈ Pd ∧ c ∈ D.C.P ∧ s ∈ D.S ∧ m < D.C.R ∧ ∀ H', Same H H' → Q (oV (D.handed num c s m)) H'
section
variable {P : Program} {w : World} {K : PySem.W.Frag} {mg : Str → Option Value} {base : Heap}
theorem cal_Lshape {f : Addr} {fd : FuncData} (D : C8.Def K mg "_law_shape" s_Lshape f fd) (b : L2.Binds K fd ["_law_case_here"] []) (T : Bt mg) (c_Lfars : C8.Cal P w K mg base 2 "_law_fars" spFars []) (c_Lunder : C8.Cal P w K mg base 2 "_law_under" spUnder []) : C8.Cal P w K mg base 3 "_law_shape" spShape [] := by
  refine C8.cal0 D b .nil sc_Lshape (fun vs H Q E h => ?_) (fun cdv A outer s H vs Q E hr h => ?_)
  · obtain ⟨c, D, rfl, _⟩ := h
    rfl
  · obtain ⟨c, D, rfl, hC, ho, q⟩ := h
    have hu := hu_of hr
    have hu64 := hr.units
    refine ⟨_, (pss_cons (ps_asg (C8.pe_c c_Lunder hr (by decide) g_Lshape__law_under (pa_cons (pe_ix ix_tup (pv 0 rfl (.inl v_Lshape_0)) pe_int (fun _ _ => rfl)) pa_nil)) (pg_tup rfl (pgs_cons (pg_name (i := 1) sc_Lshape.nd rfl (.inl v_Lshape_1)) (pgs_cons (pg_name (i := 2) sc_Lshape.nd rfl (.inl v_Lshape_2)) pgs_nil))))
      (pss_cons (ps_set (i := 3) sc_Lshape.nd rfl (.inl v_Lshape_3) pe_dnewK)
      (pss_cons (ps_for PassesOwn.never rfl (pi_tup (pe_ix ix_tup (pv 0 rfl (.inl v_Lshape_0)) pe_int (fun _ _ => rfl))) (pg_tup rfl (pgs_cons (pg_name (i := 4) sc_Lshape.nd rfl (.inl v_Lshape_4)) (pgs_cons (pg_name (i := 5) sc_Lshape.nd rfl (.inl v_Lshape_5)) pgs_nil)))
        (pss_one (ps_dput hu (pv 3 rfl (.inl v_Lshape_3)) (pv 4 rfl (.inl v_Lshape_4)) (C8.pe_c c_Lfars hr (by decide) g_Lshape__law_fars (pa_cons (pe_ix ix_tup (pv 0 rfl (.inl v_Lshape_0)) pe_int (fun _ _ => rfl)) (pa_cons (pv 4 rfl (.inl v_Lshape_4)) pa_nil))) rfl)))
      (pss_one (ps_ret (pe_tup (pa_cons (pv 1 rfl (.inl v_Lshape_1)) (pa_cons (pv 2 rfl (.inl v_Lshape_2)) (pa_cons (pv 3 rfl (.inl v_Lshape_3)) pa_nil))))))))), ?_⟩
    obtain ⟨am, asi, af, h1, hM, hS, hF⟩ := hC.ex
    obtain ⟨ss, h6, h7⟩ := hS.ex
    refine ⟨_, rfl, _, _, _, _, rfl, rfl, SqT.of h1, atI_nat (j := 0) rfl, am, D.C.P, D.C.W, D.r, D.par, D.dep, D.len, rfl, hM, ho.ro, ho.c.rise, fun t ld ud H1 s1 fl fu ht hl hU => ?_⟩
    refine ⟨t, _, rfl, SqT.of ht, rfl, _, _, rfl, _, _, rfl, rfl, ?_⟩
    intro fd nfd
    have s2 := s1.trans (same_new (o := .dK []) nfd)
    have hfd : upd H1 fd (.dK []) fd = some (.dK []) := upd_same
    have hl2 := hl.same (same_new (o := .dK []) nfd)
    have hU2 := hU.same (same_new (o := .dK []) nfd)
    have nfd0 : H fd = none := s1.free nfd
    have nlf : ld ≠ fd := by
      obtain ⟨kvs, a, _⟩ := hl.ex
      exact ne_of_none a nfd
    have nuf : ud ≠ fd := by
      obtain ⟨kvs, a, _⟩ := hU.ex
      exact ne_of_none a nfd
    generalize upd H1 fd (.dK []) = H2 at s2 hfd hl2 hU2 ⊢
    have nf : ∀ {b : Addr} {xs : List V}, H b = some (.tup xs) → b ≠ fd := fun h => ne_of_none h nfd0
    refine ⟨_, rfl, _, _, _, _, rfl, rfl, SqT.of (s2 _ _ h1), atI_nat (j := 1) rfl, asi, rfl, ⟨_, SqT.of (s2 _ _ h6)⟩, ?_⟩
    refine for_rows (rows := D.C.sites) (as := ss) (fun k σ H9 => ∃ (y4 y5 : Option V) (es : List (Key × V)), σ = [some (.ref c), some (.ref ld), some (.ref ud), some (.ref fd), y4, y5] ∧ Ext fd H2 H9 ∧ H9 fd = some (.dK es) ∧ es.length ≤ k ∧ (∀ s ∈ (D.C.sites.take k).map (·.1), ∃ e, valV es (.inr s) = some (.ref e) ∧ FarsAt H9 e D.C.P (D.far s) ∧ e ≠ fd ∧ H e = none))
      ⟨_, _, [], rfl, .refl _ _, hfd, Nat.le_refl _, fun s hs => by simp at hs⟩ (fun k σ H9 ⟨_, _, _, _, e9, _⟩ => ⟨e9 _ _ (s2 _ _ h6) (nf h6), h7.tk fun b xs h => e9 _ _ (s2 _ _ h) (nf h)⟩) (fun k s0 co σ H9 hs ⟨y4, y5, es, eσ, e9, hf9, el9, hE⟩ => ?_) (fun σ H9 ⟨y4, y5, es, eσ, e9, hf9, el9, hE⟩ => ?_)
    · subst eσ
      have hsm := List.mem_of_getElem? hs
      have hkl := (List.getElem?_eq_some_iff.mp hs).1
      have hs1 := ho.c.s1.2
      have hsS : s0 ∈ D.S := List.mem_map.mpr ⟨_, hsm, rfl⟩
      obtain ⟨par, dep, len, t, ef⟩ := ho.fr s0 hsS
      have hfew := ho.c.few
      have k9 : ∀ {b : Addr} {xs : List V}, H b = some (.tup xs) → H9 b = some (.tup xs) := fun h => e9 _ _ (s2 _ _ h) (nf h)
      have hM9 : MapAt H9 am D.C.P D.C.W := hM.tk fun b xs h => k9 h
      refine ⟨_, rfl, _, _, _, _, rfl, rfl, SqT.of (k9 h1), atI_nat (j := 0) rfl, _, rfl, am, D.C.P, D.C.W, s0, par, dep, len, rfl, hM9, ho.ro.tree, t, by omega, ho.ro.nm, fun d H10 s10 f10 g10 => ?_⟩
      have dfd : d ≠ fd := fun z => by rw [z, hf9] at f10; cases f10
      have d0 : H d = none := by
        cases q0 : H d with
        | none => rfl
        | some o => 
          have := e9 _ _ (s2 _ _ q0) dfd
          rw [f10] at this
          cases this
      refine ⟨_, rfl, _, rfl, fd, _, rfl, DPut.k (k := Sum.inr s0) (s10 _ _ hf9) (sz9 (by omega)), ?_⟩
      refine ⟨_, _, putK es (Sum.inr s0) (.ref d), rfl, (e9.trans (.of s10)).trans Ext.upd, upd_same, Nat.le_trans (length_putK _ _ _) (Nat.succ_le_succ el9), fun s hs' => ?_⟩
      rw [take_snoc hs, List.map_append] at hs'
      rw [valV_put]
      by_cases z : s = s0
      · subst z
        exact ⟨d, if_pos rfl, by rw [ef]; exact g10.ext Ext.upd dfd, dfd, d0⟩
      · rw [if_neg (fun t => z (Sum.inr.inj t))]
        obtain ⟨e, b1, b2, b3, b4⟩ := hE s ((List.mem_append.mp hs').resolve_right (fun t => z (by simpa using t)))
        exact ⟨e, b1, (b2.same s10).ext Ext.upd b3, b3, b4⟩
    · subst eσ
      rw [take_len] at hE
      refine ⟨_, rfl, _, rfl, _, rfl, (by show 3 ≤ sizeLine; decide), fun sh fsh => ?_⟩
      have s10 := same_new (o := .tup [V.ref ld, V.ref ud, V.ref fd]) fsh
      have e0 : Same H H9 := fun b o h => e9 _ _ (s2 _ _ h) (ne_of_none h nfd0)
      refine q sh _ (e0.trans s10) ⟨ld, ud, fd, upd_same, (hl2.ext e9 nlf hfd).same s10, (hU2.ext e9 nuf hfd).same s10, ⟨es, s10 _ _ hf9, fun s hs => ?_⟩, fl, fu, nfd0⟩
      obtain ⟨e, b1, b2, b3, b4⟩ := hE s hs
      exact ⟨e, b1, b2.same s10, b4⟩
theorem cal_Lbegun {f : Addr} {fd : FuncData} (D : C8.Def K mg "_law_begun" s_Lbegun f fd) (b : L2.Binds K fd ["_law_case_here", "_law_under_here", "_law_numbers", "_law_place", "_law_houses"] []) (T : Bt mg) (c_Lless : C8.Cal P w K mg base 1 "_law_less" spLess []) (c_Lplus : C8.Cal P w K mg base 1 "_law_plus" spPlus []) : C8.Cal P w K mg base 2 "_law_begun" spLbegun [] := by
  refine C8.cal0 D b .nil sc_Lbegun (fun vs H Q E h => ?_) (fun cdv A outer s H vs Q E hr h => ?_)
  · obtain ⟨c, ud, nd, D, Pd, num, p, h, rfl, _⟩ := h
    rfl
  · obtain ⟨c, ud, nd, D, Pd, num, p, h, rfl, hC, ho, hU, hN, hpd, hp, hh, q⟩ := h
    have hu := hu_of hr
    have hu64 := hr.units
    refine ⟨_, (pss_cons (ps_set (i := 5) sc_Lbegun.nd rfl (.inl v_Lbegun_5) pe_non)
      (pss_cons (ps_if (pt_cmpR op_gt (pv 4 rfl (.inl v_Lbegun_4)) pe_int (nomark _)) (pss_one (ps_for PassesOwn.never rfl (pi_tup (pe_ix ix_tup (pv 0 rfl (.inl v_Lbegun_0)) pe_int (fun _ _ => rfl))) (pg_tup rfl (pgs_cons (pg_name (i := 6) sc_Lbegun.nd rfl (.inl v_Lbegun_6)) (pgs_cons (pg_name (i := 7) sc_Lbegun.nd rfl (.inl v_Lbegun_7)) pgs_nil)))
          (pss_one (ps_if (pt_cmpR op_in_seq (pv 6 rfl (.inl v_Lbegun_6)) (pe_dget hu (pv 1 rfl (.inl v_Lbegun_1)) (pv 3 rfl (.inl v_Lbegun_3)) (fun _ _ => rfl)) (by rfl)) (pss_one (ps_set (i := 5) sc_Lbegun.nd rfl (.inl v_Lbegun_5) (C8.pe_c c_Lless hr (by decide) g_Lbegun__law_less (pa_cons (pv 5 rfl (.inl v_Lbegun_5)) (pa_cons (C8.pe_c c_Lplus hr (by decide) g_Lbegun__law_plus (pa_cons (pv 7 rfl (.inl v_Lbegun_7)) (pa_cons (pe_dget hu (pv 2 rfl (.inl v_Lbegun_2)) (pe_tup (pa_cons (pv 3 rfl (.inl v_Lbegun_3)) (pa_cons (pv 6 rfl (.inl v_Lbegun_6)) (pa_cons (pe_op op_sub (pv 4 rfl (.inl v_Lbegun_4)) pe_int) pa_nil)))) (fun _ _ => rfl)) pa_nil))) pa_nil))))) pss_nil)))) pss_nil)
      (pss_one (ps_ret (pv 5 rfl (.inl v_Lbegun_5)))))), ?_⟩
    obtain ⟨am, asi, af, h1, hM, hS, hF⟩ := hC.ex
    obtain ⟨ss, h6, h7⟩ := hS.ex
    refine ⟨_, rfl, _, _, rfl, rfl, _, rfl, ?_⟩
    cases h with
    | zero =>
      refine ifF (fun z => by have := of_decide_eq_true z; omega) ?_
      exact ⟨_, rfl, q H (.refl _)⟩
    | succ h =>
      refine ifT (decide_eq_true (by omega)) ?_
      refine ⟨_, rfl, _, _, _, _, rfl, rfl, SqT.of h1, atI_nat (j := 1) rfl, asi, rfl, ⟨_, SqT.of h6⟩, ?_⟩
      refine for_rows (rows := D.C.sites) (as := ss) (fun k σ H2 => ∃ (y6 y7 : Option V), σ = [some (.ref c), some (.ref ud), some (.ref nd), some (.str p), some (.int ((h + 1 : Nat) : Int)), some (oV ((D.C.sites.take k).foldl (begunStep D.und num p (h + 1)) none)), y6, y7] ∧ Same H H2)
        ⟨_, _, rfl, .refl _⟩ (fun k σ H2 ⟨_, _, _, s2⟩ => ⟨s2 _ _ h6, h7.tk (tk_same s2)⟩) (fun k s0 co σ H2 hs ⟨y6, y7, eσ, s2⟩ => ?_) (fun σ H2 ⟨y6, y7, eσ, s2⟩ => ?_)
      · subst eσ
        have hsS : s0 ∈ D.S := List.mem_map.mpr ⟨_, List.mem_of_getElem? hs, rfl⟩
        have hsP : s0 ∈ D.C.P := (ho.c.sP _ (List.mem_of_getElem? hs)).1
        obtain ⟨us, u1, u2⟩ := (hU.same s2).ex
        obtain ⟨l, u3, u4⟩ := u2 p hp
        have gD : DGet H2 ud (kV (.inr p)) (some (.ref l)) := u3 ▸ DGet.k (k := Sum.inr p) u1
        refine ⟨_, rfl, _, rfl, _, rfl, ud, _, rfl, gD, l, _, rfl, .inl (SqL.of u4), rfl, flat_strs _, _, rfl, ?_⟩
        rw [inV_strs, mem_UlB ho.ro.rt hp hsP]
        have ef : (D.C.sites.take (k + 1)).foldl (begunStep D.und num p (h + 1)) none = begunStep D.und num p (h + 1) ((D.C.sites.take k).foldl (begunStep D.und num p (h + 1)) none) (s0, co) := by
          rw [take_snoc hs, List.foldl_append]; rfl
        rw [ef]
        unfold begunStep
        by_cases z : D.und p s0 = true
        · refine ifT z ?_
          rw [if_pos z]
          refine ⟨_, rfl, _, rfl, _, rfl, _, rfl, _, rfl, _, rfl, _, _, rfl, rfl, (by show 3 ≤ sizeLine; decide), fun t nt => ?_⟩
          have s3 := same_new (o := .tup [V.str p, V.str s0, V.int (((h + 1 : Nat) : Int) - 1)]) nt
          have ht : upd H2 t (.tup [V.str p, V.str s0, V.int (((h + 1 : Nat) : Int) - 1)]) t = some (.tup (keyV (p, s0, h))) := by
            rw [upd_same]
            have : ((h + 1 : Nat) : Int) - 1 = (h : Int) := by omega
            rw [this]
            rfl
          generalize upd H2 t (.tup [V.str p, V.str s0, V.int (((h + 1 : Nat) : Int) - 1)]) = H3 at s3 ht ⊢
          exact ⟨nd, _, rfl, (hN.same (s2.trans s3)).get hpd hsS (by omega) ht, some co, num p s0 h, rfl, _, _, rfl, _, _, rfl, s2.trans s3⟩
        · refine ifF z ?_
          rw [if_neg z]
          exact ⟨_, _, rfl, s2⟩
      · subst eσ
        rw [take_len]
        exact ⟨_, rfl, q H2 s2⟩
theorem cal_Lhanded {f : Addr} {fd : FuncData} (D : C8.Def K mg "_law_handed" s_Lhanded f fd) (b : L2.Binds K fd ["_law_case_here", "_law_under_here", "_law_numbers", "_law_child", "_law_site", "_law_more"] []) (T : Bt mg) (c_Lbegun : C8.Cal P w K mg base 2 "_law_begun" spLbegun []) (c_Lless : C8.Cal P w K mg base 1 "_law_less" spLess []) : C8.Cal P w K mg base 3 "_law_handed" spLhanded [] := by
  refine C8.cal0 D b .nil sc_Lhanded (fun vs H Q E h => ?_) (fun cdv A outer s H vs Q E hr h => ?_)
  · obtain ⟨cs, ud, nd, D, Pd, num, c, s0, m, rfl, _⟩ := h
    rfl
  · obtain ⟨cs, ud, nd, D, Pd, num, c, s0, m, rfl, hC, ho, hU, hN, hcd, hc, hs0, hm, q⟩ := h
    have hu := hu_of hr
    have hu64 := hr.units
    refine ⟨_, (pss_cons (ps_set (i := 6) sc_Lhanded.nd rfl (.inl v_Lhanded_6) (pe_dget hu (pv 2 rfl (.inl v_Lhanded_2)) (pe_tup (pa_cons (pv 3 rfl (.inl v_Lhanded_3)) (pa_cons (pv 4 rfl (.inl v_Lhanded_4)) (pa_cons (pv 5 rfl (.inl v_Lhanded_5)) pa_nil)))) (fun _ _ => rfl)))
      (pss_cons (ps_if (pt_cmpR op_in_seq (pv 4 rfl (.inl v_Lhanded_4)) (pe_dget hu (pv 1 rfl (.inl v_Lhanded_1)) (pv 3 rfl (.inl v_Lhanded_3)) (fun _ _ => rfl)) (by rfl)) (pss_one (ps_ret (pv 6 rfl (.inl v_Lhanded_6)))) pss_nil)
      (pss_one (ps_ret (C8.pe_c c_Lless hr (by decide) g_Lhanded__law_less (pa_cons (pv 6 rfl (.inl v_Lhanded_6)) (pa_cons (C8.pe_c c_Lbegun hr (by decide) g_Lhanded__law_begun (pa_cons (pv 0 rfl (.inl v_Lhanded_0)) (pa_cons (pv 1 rfl (.inl v_Lhanded_1)) (pa_cons (pv 2 rfl (.inl v_Lhanded_2)) (pa_cons (pv 3 rfl (.inl v_Lhanded_3)) (pa_cons (pv 5 rfl (.inl v_Lhanded_5)) pa_nil)))))) pa_nil))))))), ?_⟩
    have hsP : s0 ∈ D.C.P := by
      obtain ⟨e, he, rfl⟩ := List.mem_map.mp hs0
      exact (ho.c.sP e he).1
    refine ⟨_, rfl, _, rfl, _, rfl, _, rfl, (by show 3 ≤ sizeLine; decide), fun t nt => ?_⟩
    have s3 := same_new (o := .tup [V.str c, V.str s0, V.int (m : Int)]) nt
    have ht : upd H t (.tup [V.str c, V.str s0, V.int (m : Int)]) t = some (.tup (keyV (c, s0, m))) := upd_same
    generalize upd H t (.tup [V.str c, V.str s0, V.int (m : Int)]) = H3 at s3 ht ⊢
    refine ⟨nd, _, rfl, (hN.same s3).get hcd hs0 hm ht, ?_⟩
    obtain ⟨us, u1, u2⟩ := (hU.same s3).ex
    obtain ⟨l, u3, u4⟩ := u2 c hc
    have gD : DGet H3 ud (kV (.inr c)) (some (.ref l)) := u3 ▸ DGet.k (k := Sum.inr c) u1
    refine ⟨_, rfl, _, rfl, _, rfl, ud, _, rfl, gD, l, _, rfl, .inl (SqL.of u4), rfl, flat_strs _, _, rfl, ?_⟩
    rw [inV_strs, mem_UlB ho.ro.rt hc hsP]
    unfold Dt.handed OH.handed at q
    by_cases z : D.und c s0 = true
    · refine ifT z ?_
      rw [if_pos z] at q
      exact ⟨_, rfl, q H3 s3⟩
    · refine ifF z ?_
      rw [if_neg z] at q
      refine ⟨_, rfl, _, rfl, _, rfl, _, rfl, _, rfl, _, rfl, cs, ud, nd, D, Pd, num, c, m, rfl, hC.tk (tk_same s3), ho, hU.same s3, hN.same s3, hcd, hc, Nat.le_of_lt hm, fun H4 s4 => ?_⟩
      exact ⟨_, _, rfl, q H4 (s3.trans s4)⟩
end
end OH

namespace OH
open PySem PySem.Spec PyProof.Rows L2
def spLdue : Sp := fun vs H Q _ => ∃ (c sh nd k : Addr) (D : Dt) (Pd : List Str) (num : Str → Str → Nat → Option Int) (p s : Str) (m : Nat), vs = [.ref c, .ref sh, .ref nd, .ref k] ∧ CaseAt H c D.C ∧ D.Ok ∧ ShAt H sh D (fun _ => True) ∧ NumsAt H nd Pd D.S D.C.R num ∧ H k = some (.tup (keyV (p, s, m))) ∧ p ∈ D.C.P ∧ s ∈ D.S ∧ m < D.C.R ∧ (∀ c ∈ D.kids p, c ∈ Pd) ∧ ∀ H', Same H H' → Q (oV (D.due num p s m)) H'
theorem row0_m (m : Nat) : [V.int 0] ++ (List.replicate (m : Int).toNat [V.non]).flatten = rowV row0 (m + 1) := by
  have h := row0_list (R := m + 1) (by omega)
  have e : (((m + 1 : Nat) : Int) - 1).toNat = (m : Int).toNat := by omega
  rw [e] at h
  exact h
section
variable {P : Program} {w : World} {K : PySem.W.Frag} {mg : Str → Option Value} {base : Heap}
theorem cal_Ldue {f : Addr} {fd : FuncData} (D : C8.Def K mg "_law_due" s_Ldue f fd) (b : L2.Binds K fd ["_law_case_here", "_law_shape_here", "_law_numbers", "_law_key"] []) (T : Bt mg) (c_Lhanded : C8.Cal P w K mg base 3 "_law_handed" spLhanded []) (c_Lless : C8.Cal P w K mg base 1 "_law_less" spLess []) (c_Lplus : C8.Cal P w K mg base 1 "_law_plus" spPlus []) : C8.Cal P w K mg base 4 "_law_due" spLdue [] := by
  refine C8.cal0 D b .nil sc_Ldue (fun vs H Q E h => ?_) (fun cdv A outer s H vs Q E hr h => ?_)
  · obtain ⟨c, sh, nd, k, D, Pd, num, p, s0, m, rfl, _⟩ := h
    rfl
  · obtain ⟨c, sh, nd, k, D, Pd, num, p, s0, m, rfl, hC, ho, hSh, hN, hk, hp, hs0, hm, hpd, q⟩ := h
    have hu := hu_of hr
    have hu64 := hr.units
    refine ⟨_, (pss_cons (ps_asg (pv 1 rfl (.inl v_Ldue_1)) (pg_tup rfl (pgs_cons (pg_name (i := 4) sc_Ldue.nd rfl (.inl v_Ldue_4)) (pgs_cons (pg_name (i := 5) sc_Ldue.nd rfl (.inr v_Ldue_5)) (pgs_cons (pg_name (i := 6) sc_Ldue.nd rfl (.inl v_Ldue_6)) pgs_nil)))))
      (pss_cons (ps_asg (pv 3 rfl (.inl v_Ldue_3)) (pg_tup rfl (pgs_cons (pg_name (i := 7) sc_Ldue.nd rfl (.inl v_Ldue_7)) (pgs_cons (pg_name (i := 8) sc_Ldue.nd rfl (.inr v_Ldue_8)) (pgs_cons (pg_name (i := 9) sc_Ldue.nd rfl (.inl v_Ldue_9)) pgs_nil)))))
      (pss_cons (ps_set (i := 10) sc_Ldue.nd rfl (.inl v_Ldue_10) (pe_op op_cat (pe_lst (pa_cons pe_int pa_nil)) (pe_op op_rep (pe_lst (pa_cons pe_non pa_nil)) (pv 9 rfl (.inl v_Ldue_9)))))
      (pss_cons (ps_for PassesOwn.never rfl (pi_list (pe_dget hu (pv 4 rfl (.inl v_Ldue_4)) (pv 7 rfl (.inl v_Ldue_7)) (fun _ _ => rfl))) (pg_name (i := 11) sc_Ldue.nd rfl (.inr v_Ldue_11))
        (pss_cons (ps_setLc (i := 12) (own := [("_law_part", 16)]) rfl sc_Ldue.nd rfl v_Ldue_12 (sw_true rfl v_Ldue_12 rfl (by decide +kernel)) (pi_range1 g_Ldue_range T.range_ (pa_cons (pe_op op_add (pv 9 rfl (.inl v_Ldue_9)) pe_int) pa_nil)) (blkOk_by (own := [("_law_part", 16)]) (N := N_Ldue) (sc := sc s_Ldue) (by decide +kernel)) (fun _ _ _ _ _ => (pg_name (i := 16) sc_Ldue.nd rfl (.inl rfl) (.inr rfl))) (fun _ _ _ _ _ => pts_nil) (fun _ _ _ _ _ => (C8.pe_c c_Lhanded hr (by decide) (by rfl) (pa_cons (pv 0) (pa_cons (pv 5) (pa_cons (pv 2) (pa_cons (pv 11) (pa_cons (pv 8) (pa_cons (pv 16) pa_nil)))))))))
        (pss_cons (ps_set (i := 13) sc_Ldue.nd rfl (.inl v_Ldue_13) (pe_lst pa_nil))
        (pss_cons (ps_for PassesOwn.never rfl (pi_range1 g_Ldue_range T.range_ (pa_cons (pe_op op_add (pv 9 rfl (.inl v_Ldue_9)) pe_int) pa_nil)) (pg_name (i := 14) sc_Ldue.nd rfl (.inl v_Ldue_14))
          (pss_cons (ps_set (i := 15) sc_Ldue.nd rfl (.inl v_Ldue_15) pe_non)
          (pss_cons (ps_for PassesOwn.never rfl (pi_range1 g_Ldue_range T.range_ (pa_cons (pe_op op_add (pv 14 rfl (.inl v_Ldue_14)) pe_int) pa_nil)) (pg_name (i := 16) sc_Ldue.nd rfl (.inl v_Ldue_16))
            (pss_one (ps_set (i := 15) sc_Ldue.nd rfl (.inl v_Ldue_15) (C8.pe_c c_Lless hr (by decide) g_Ldue__law_less (pa_cons (pv 15 rfl (.inl v_Ldue_15)) (pa_cons (C8.pe_c c_Lplus hr (by decide) g_Ldue__law_plus (pa_cons (pe_ix ix_list (pv 10 rfl (.inl v_Ldue_10)) (pe_op op_sub (pv 14 rfl (.inl v_Ldue_14)) (pv 16 rfl (.inl v_Ldue_16))) (fun _ _ => rfl)) (pa_cons (pe_ix ix_list (pv 12 rfl (.inl v_Ldue_12)) (pv 16 rfl (.inl v_Ldue_16)) (fun _ _ => rfl)) pa_nil))) pa_nil))))))
          (pss_one (ps_expr (pe_bm PySem.F.plainAttrs_list PySem.F.slot_list_append PySem.F.type_list_append mt_append (pv 13 rfl (.inl v_Ldue_13)) (pa_cons (pv 15 rfl (.inl v_Ldue_15)) pa_nil)))))))
        (pss_one (ps_set (i := 10) sc_Ldue.nd rfl (.inl v_Ldue_10) (pv 13 rfl (.inl v_Ldue_13))))))))
      (pss_cons (ps_set (i := 17) sc_Ldue.nd rfl (.inl v_Ldue_17) (pe_op op_mulW (pe_dget2 hu (pe_callTy (call_dictP rfl) g_Ldue_dict T.dict_ (by decide +kernel) (pa_cons (pe_callTy call_list_of g_Ldue_list T.list_ (by decide +kernel) (pa_cons (pe_ix ix_tup (pv 0 rfl (.inr (.inl v_Ldue_0))) pe_int (fun _ _ => rfl)) pa_nil)) pa_nil)) (pv 7 rfl (.inl v_Ldue_7)) pe_int ⟨rfl, by rfl, rfl, rfl⟩) (pe_dget hu (pe_dget hu (pv 6 rfl (.inl v_Ldue_6)) (pv 8 rfl (.inr (.inl v_Ldue_8))) (fun _ _ => rfl)) (pv 7 rfl (.inl v_Ldue_7)) (fun _ _ => rfl))))
      (pss_one (ps_ret (C8.pe_c c_Lplus hr (by decide) g_Ldue__law_plus (pa_cons (pv 17 rfl (.inl v_Ldue_17)) (pa_cons (pe_ix ix_list (pv 10 rfl (.inl v_Ldue_10)) (pv 9 rfl (.inl v_Ldue_9)) (fun _ _ => rfl)) pa_nil)))))))))), ?_⟩
    obtain ⟨am, asi, af, h1, hM, hS, hF⟩ := hC.ex
    obtain ⟨fs, h8, h9⟩ := hF.ex
    obtain ⟨ld, ud, fd, g1, hL, hU, hFa, _⟩ := hSh.ex
    have hR := ho.c.R1
    have hfew := ho.c.few
    refine ⟨_, rfl, sh, _, rfl, SqT.of g1, rfl, _, _, rfl, _, _, rfl, _, _, rfl, rfl, ?_⟩
    refine ⟨_, rfl, k, _, rfl, SqT.of hk, rfl, _, _, rfl, _, _, rfl, _, _, rfl, rfl, ?_⟩
    refine ⟨(by show 1 ≤ sizeLine; decide), fun a1 f1 => ⟨(by show 1 ≤ sizeLine; decide), fun a2 f2 => ?_⟩⟩
    have s2 := (same_new (o := .lst [V.int 0]) f1).trans (same_new (o := .lst [V.non]) f2)
    have b1 : upd (upd H a1 (.lst [V.int 0])) a2 (.lst [V.non]) a1 = some (.lst [V.int 0]) := same_new f2 _ _ upd_same
    have b2 : upd (upd H a1 (.lst [V.int 0])) a2 (.lst [V.non]) a2 = some (.lst [V.non]) := upd_same
    generalize upd (upd H a1 (.lst [V.int 0])) a2 (.lst [V.non]) = H2 at s2 b1 b2 ⊢
    refine ⟨_, rfl, a2, _, _, rfl, rfl, b2, by dsimp only; omega, by dsimp only; omega, sz9' (by dsimp only; rw [List.length_singleton]; omega), fun a3 f3 => ?_⟩
    have s3 := s2.trans (same_new (o := .lst (List.replicate (m : Int).toNat [V.non]).flatten) f3)
    have b1' := same_new (o := .lst (List.replicate (m : Int).toNat [V.non]).flatten) f3 _ _ b1
    have b3 : upd H2 a3 (.lst (List.replicate (m : Int).toNat [V.non]).flatten) a3 = some (.lst (List.replicate (m : Int).toNat [V.non]).flatten) := upd_same
    generalize upd H2 a3 (.lst (List.replicate (m : Int).toNat [V.non]).flatten) = H3 at s3 b1' b3 ⊢
    have el := congrArg List.length (row0_m m)
    rw [List.length_append, rowV_len] at el
    refine ⟨a1, a3, _, _, rfl, rfl, b1', b3, sz9' (by rw [el]; omega), fun a4 f4 => ?_⟩
    rw [row0_m]
    have s4 := s3.trans (same_new (o := .lst (rowV row0 (m + 1))) f4)
    have b4 : upd H3 a4 (.lst (rowV row0 (m + 1))) a4 = some (.lst (rowV row0 (m + 1))) := upd_same
    generalize upd H3 a4 (.lst (rowV row0 (m + 1))) = H4 at s4 b4 ⊢
    obtain ⟨us, u1, u2⟩ := (hL.same s4).ex
    obtain ⟨l, u3, u4⟩ := u2 p hp
    have gD : DGet H4 ld (kV (.inr p)) (some (.ref l)) := u3 ▸ DGet.k (k := Sum.inr p) u1
    refine ⟨_, rfl, _, rfl, ld, _, rfl, gD, l, rfl, ⟨_, SqL.of u4⟩, ?_⟩
    have ek : (m : Int) + 1 = ((m + 1 : Nat) : Int) := rfl
    refine for_strsL (P := D.kids p) (fun j σ H6 => ∃ (y11 y12 y13 y14 y15 y16 y17 : Option V) (ls : Addr), σ = [some (.ref c), some (.ref sh), some (.ref nd), some (.ref k), some (.ref ld), some (.ref ud), some (.ref fd), some (.str p), some (.str s0), some (.int (m : Int)), some (.ref ls), y11, y12, y13, y14, y15, y16, y17] ∧ Same H4 H6 ∧ H6 ls = some (.lst (rowV (((D.kids p).take j).foldl (withChild D.C.sites D.und num s0) row0) (m + 1))))
      ⟨_, _, _, _, _, _, _, a4, rfl, .refl _, b4⟩ (fun j σ H6 ⟨_, _, _, _, _, _, _, _, _, s6, _⟩ => s6 _ _ u4) (fun j cc σ H6 hc ⟨y11, y12, y13, y14, y15, y16, y17, ls, eσ, s6, h6⟩ => ?_) (fun σ H6 ⟨y11, y12, y13, y14, y15, y16, y17, ls, eσ, s6, h6⟩ => ?_)
    · subst eσ
      have hcm := List.mem_of_getElem? hc
      have hcP := (mem_kids.mp hcm).1
      have hs6 := s4.trans s6
      generalize hff : ((D.kids p).take j).foldl (withChild D.C.sites D.und num s0) row0 = f0 at h6
      refine ⟨_, rfl, _, _, rfl, rfl, _, rfl, by omega, by omega, fun n1 fn1 => ?_⟩
      rw [ek]
      refine lc_rng (n := m + 1) (fun k2 H2 => LI H6 H2 n1 (rowV (fun m => D.handed num cc s0 m) k2)) (LI.nil fn1) (fun k2 H7 hkR I => ?_) (fun H7 I => ?_)
      · refine ⟨rfl, ?_⟩
        refine iteT (B := LI H6 H7 n1 (rowV (fun m => D.handed num cc s0 m) (k2 + 1))) ?_
        have s7 := hs6.trans I.same
        refine ⟨_, rfl, _, rfl, _, rfl, _, rfl, _, rfl, _, rfl, c, ud, nd, D, Pd, num, cc, s0, k2, rfl, hC.tk (tk_same s7), ho, hU.same s7, hN.same s7, hpd cc hcm, hcP, hs0, by omega, fun H8 s8 => ⟨_, s8 _ _ I.at_, sz9 (by rw [rowV_len]; omega), ?_⟩⟩
        rw [rowV_snoc]
        exact (I.grow s8).put
      · have s7 := I.same
        have hi := I.at_
        refine ⟨Nat.zero_le _, fun n2 f2 => ?_⟩
        have I2 := LI.nil f2
        generalize upd H7 n2 (.lst []) = H8 at I2 ⊢
        refine ⟨_, rfl, _, _, rfl, rfl, _, rfl, by omega, by omega, ?_⟩
        rw [ek]
        refine for_rng (n := m + 1) (fun k2 σ H9 => ∃ (y14 y15 y16 : Option V), σ = [some (.ref c), some (.ref sh), some (.ref nd), some (.ref k), some (.ref ld), some (.ref ud), some (.ref fd), some (.str p), some (.str s0), some (.int (m : Int)), some (.ref ls), some (.str cc), some (.ref n1), some (.ref n2), y14, y15, y16, y17] ∧ LI H7 H9 n2 (rowV (withChild D.C.sites D.und num s0 f0 cc) k2))
          ⟨_, _, _, rfl, I2⟩ (fun k2 σ H9 hkR ⟨y14, y15, y16, eσ, I4⟩ => ?_) (fun σ H9 ⟨y14, y15, y16, eσ, I4⟩ => ?_)
        · subst eσ
          refine ⟨_, rfl, _, _, rfl, rfl, _, rfl, by omega, by omega, ?_⟩
          have ek2 : (k2 : Int) + 1 = ((k2 + 1 : Nat) : Int) := rfl
          rw [ek2]
          refine for_rng (n := k2 + 1) (fun j2 σ H5 => ∃ (y16 : Option V), σ = [some (.ref c), some (.ref sh), some (.ref nd), some (.ref k), some (.ref ld), some (.ref ud), some (.ref fd), some (.str p), some (.str s0), some (.int (m : Int)), some (.ref ls), some (.str cc), some (.ref n1), some (.ref n2), some (.int (k2 : Int)), some (oV (minL (fun part => plus (f0 (k2 - part)) (D.handed num cc s0 part)) j2)), y16, y17] ∧ H5 = H9)
            ⟨_, rfl, rfl⟩ (fun j2 σ H5 hj ⟨y16, eσ, eH⟩ => ?_) (fun σ H5 ⟨y16, eσ, eH⟩ => ?_)
          · subst eσ eH
            have el : (rowV f0 (m + 1))[k2 - j2]? = some (oV (f0 (k2 - j2))) := rowV_at (by omega)
            have e1 : (rowV (fun m => D.handed num cc s0 m) (m + 1))[j2]? = some (oV (D.handed num cc s0 j2)) := rowV_at (by omega)
            have ei : (k2 : Int) - (j2 : Int) = ((k2 - j2 : Nat) : Int) := by omega
            have ea : atI (rowV f0 (m + 1)) ((k2 : Int) - (j2 : Int)) = some (oV (f0 (k2 - j2))) := by rw [ei]; exact atI_nat el
            refine ⟨_, rfl, _, rfl, _, rfl, _, rfl, _, _, rfl, rfl, ?_⟩
            exact ⟨_, _, _, _, rfl, rfl, SqL.of (I4.same _ _ (s7 _ _ h6)), ea, _, rfl, _, rfl, _, _, _, _, rfl, rfl, SqL.of (I4.same _ _ hi), atI_nat (j := j2) e1, _, _, rfl, _, _, rfl, _, rfl, rfl⟩
          · subst eσ eH
            refine ⟨_, rfl, .inl ⟨rfl, _, SqL.of I4.at_⟩, _, rfl, n2, _, _, rfl, rfl, I4.at_, sz9 (by rw [rowV_len]; omega), _, _, _, rfl, ?_⟩
            rw [rowV_snoc]
            exact I4.put
        · subst eσ
          refine ⟨_, rfl, _, _, _, _, _, _, _, n2, rfl, (s6.trans s7).trans I4.same, ?_⟩
          rw [take_snoc hc, List.foldl_append, hff]
          exact I4.at_
    · subst eσ
      rw [take_len] at h6
      have s6' := s4.trans s6
      refine ⟨_, rfl, _, _, _, _, rfl, rfl, SqT.of (s6' _ _ h1), atI_nat (j := 2) rfl, af, _, rfl, .inr (SqT.of (s6' _ _ h8)), fun al fal => ?_⟩
      have s7 := s6'.trans (same_new (o := .lst (fs.map V.ref)) fal)
      have hal : upd H6 al (.lst (fs.map V.ref)) al = some (.lst (fs.map V.ref)) := upd_same
      have h67 := same_new (o := .lst (fs.map V.ref)) fal _ _ h6
      generalize upd H6 al (.lst (fs.map V.ref)) = H7 at s7 hal h67 ⊢
      refine ⟨al, fs, _, rfl, SqL.of hal, paired_rows (h9.tk (tk_same s7)), fun dm fdm => ?_⟩
      have s8 := s7.trans (same_new (o := .dK (mergeK [] (D.C.folk.map fun e => ((Sum.inr e.1 : Key), V.int e.2)))) fdm)
      have h68 := same_new (o := .dK (mergeK [] (D.C.folk.map fun e => ((Sum.inr e.1 : Key), V.int e.2)))) fdm _ _ h67
      have hdm : upd H7 dm (.dK (mergeK [] (D.C.folk.map fun e => ((Sum.inr e.1 : Key), V.int e.2)))) dm = some (.dK (mergeK [] (D.C.folk.map fun e => ((Sum.inr e.1 : Key), V.int e.2)))) := upd_same
      generalize upd H7 dm (.dK (mergeK [] (D.C.folk.map fun e => ((Sum.inr e.1 : Key), V.int e.2)))) = H8 at s8 h68 hdm ⊢
      have gM : DGet H8 dm (kV (.inr p)) ((D.C.folk.lookup p).map V.int) := dict_rows ho.c.fN p ▸ DGet.k (k := Sum.inr p) hdm
      obtain ⟨fs8, f1, f2⟩ := (hFa.same s8).ex
      obtain ⟨e, f3, ⟨es, f4, f5⟩, _⟩ := f2 s0 hs0
      have gF : DGet H8 fd (kV (.inr s0)) (some (.ref e)) := f3 ▸ DGet.k (k := Sum.inr s0) f1
      have gE : DGet H8 e (kV (.inr p)) (some (.int (D.far s0 p))) := f5 p hp ▸ DGet.k (k := Sum.inr p) f4
      refine ⟨dm, rfl, .inl ⟨_, .inl hdm⟩, _, rfl, _, gM, ?_⟩
      have eM : ((D.C.folk.lookup p).map V.int).getD (.int 0) = .int (manyOf D.C.folk p) := by
        unfold manyOf
        cases D.C.folk.lookup p <;> rfl
      rw [eM]
      refine ⟨_, rfl, _, rfl, fd, _, rfl, gF, _, rfl, e, _, rfl, gE, _, _, rfl, rfl, mk_wide (many_le ho p) (ho.far_le hs0 hp), ?_⟩
      exact ⟨_, rfl, _, rfl, _, rfl, _, _, _, _, rfl, rfl, SqL.of h68, atI_nat (j := m) (rowV_at (by omega)), some _, _, rfl, q H8 s8⟩
end
end OH

namespace OH
open PySem PySem.Spec PyProof.Rows L2
def spWritten (K : PySem.W.Frag) : Sp := fun vs H Q _ => ∃ (st x : Addr) (ns : List Int) (d : Option Int), vs = [.ref st, oV d] ∧ StAt K H st x ns ∧ NN d ∧ ∀ (v : Option Int) H', LeO v d → NN v → Ext st H H' → StAt K H' st x ns → Q (oV v) H'
def spBent (K : PySem.W.Frag) : Sp := fun vs H Q _ => ∃ (st x : Addr) (ns : List Int) (d : Option Int), vs = [.ref st, oV d] ∧ StAt K H st x ns ∧ NN d ∧ ∀ (v : Option Int) H', NN v → Ext st H H' → StAt K H' st x ns → Q (oV v) H'
def spJudged : Sp := fun vs H Q _ => ∃ (c sh nd : Addr) (D : Dt) (num : Str → Str → Nat → Option Int), vs = [.ref c, .ref sh, .ref nd] ∧ CaseAt H c D.C ∧ D.Ok ∧ ShAt H sh D (fun _ => True) ∧ NumsAt H nd D.C.P D.S D.C.R num ∧ ∀ H', Same H H' → Q (.bl (judged D.C.P D.C.sites D.C.R num (D.due num))) H'
theorem max0 (i : Int) : 0 ≤ (if i > 0 then i else 0) := by split <;> omega
section
variable {P : Program} {w : World} {K : PySem.W.Frag} {mg : Str → Option Value} {base : Heap}
theorem cal_Lwritten {f : Addr} {fd : FuncData} (D : C8.Def K mg "_law_written" s_Lwritten f fd) (b : L2.Binds K fd ["_law_state", "_law_due_here"] []) (T : Bt mg) (c_Lnumber : C8.Cal P w K mg base 3 "_law_number" (spNum K) []) (c_Ltake : C8.Cal P w K mg base 2 "_law_take" (spTake K) []) : C8.Cal P w K mg base 4 "_law_written" (spWritten K) [] := by
  refine C8.cal0 D b .nil sc_Lwritten (fun vs H Q E h => ?_) (fun cdv A outer s H vs Q E hr h => ?_)
  · obtain ⟨st, x, ns, d, rfl, _⟩ := h
    rfl
  · obtain ⟨st, x, ns, d, rfl, ht, hd, q⟩ := h
    have hu := hu_of hr
    have hu64 := hr.units
    refine ⟨_, (pss_cons (ps_set (i := 2) sc_Lwritten.nd rfl (.inl v_Lwritten_2) (C8.pe_c c_Ltake hr (by decide) g_Lwritten__law_take (pa_cons (pv 0 rfl (.inl v_Lwritten_0)) (pa_cons pe_int pa_nil))))
      (pss_cons (ps_if (pt_cmp (pc_isN (pv 1 rfl (.inl v_Lwritten_1)))) (pss_one (ps_ret (pe_ix ix_list (pe_lst (pa_cons pe_non (pa_cons pe_non (pa_cons pe_int (pa_cons (C8.pe_c c_Lnumber hr (by decide) g_Lwritten__law_number (pa_cons (pv 0 rfl (.inl v_Lwritten_0)) (pa_cons pe_int pa_nil))) (pa_cons pe_non (pa_cons (pe_op op_sub (pe_op op_pow pe_int pe_int) pe_int) pa_nil))))))) (pv 2 rfl (.inl v_Lwritten_2)) (fun _ _ => rfl)))) pss_nil)
      (pss_cons (ps_if (pt_cmpR op_lt (pv 2 rfl (.inl v_Lwritten_2)) pe_int (nomark _)) (pss_one (ps_ret (pv 1 rfl (.inl v_Lwritten_1)))) pss_nil)
      (pss_cons (ps_if (pt_cmpR op_eq (pv 2 rfl (.inl v_Lwritten_2)) pe_int (nomark _)) (pss_one (ps_ret pe_int)) pss_nil)
      (pss_one (ps_ret (pe_callB (call_max2 rfl) g_Lwritten_max T.max_ (by decide +kernel) (pa_cons pe_int (pa_cons (pe_op op_sub (pv 1 rfl (.inl v_Lwritten_1)) (C8.pe_c c_Lnumber hr (by decide) g_Lwritten__law_number (pa_cons (pv 0 rfl (.inl v_Lwritten_0)) (pa_cons pe_int pa_nil)))) pa_nil))))))))), ?_⟩
    refine ⟨_, rfl, st, x, ns, 6, rfl, ht, by decide, by decide, fun n H1 hn e1 t1 => ?_⟩
    cases d with
    | none =>
      refine ⟨_, rfl, _, rfl, ?_⟩
      refine ifT (decide_eq_true rfl) ?_
      refine ⟨_, rfl, st, x, ns, 0, rfl, t1, by decide, by decide, fun c H2 hc1 hc2 e2 t2 => ?_⟩
      refine ⟨_, _, rfl, rfl, ⟨by decide, by decide, by decide⟩, _, _, rfl, rfl, (by show 6 ≤ sizeLine; decide), fun la fla => ?_⟩
      have h6 : n = 0 ∨ n = 1 ∨ n = 2 ∨ n = 3 ∨ n = 4 ∨ n = 5 := by omega
      have s3 := same_new (o := .lst [V.non, V.non, V.int 0, V.int c, V.non, V.int ((10 : Int) ^ (30 : Int).toNat - 1)]) fla
      have at_ : ∃ v : Option Int, atI [V.non, V.non, V.int 0, V.int c, V.non, V.int ((10 : Int) ^ (30 : Int).toNat - 1)] (n : Int) = some (oV v) ∧ NN v := by
        rcases h6 with rfl | rfl | rfl | rfl | rfl | rfl
        · exact ⟨none, atI_nat (j := 0) rfl, nn_none⟩
        · exact ⟨none, atI_nat (j := 1) rfl, nn_none⟩
        · exact ⟨some 0, atI_nat (j := 2) rfl, nn_some (by decide)⟩
        · exact ⟨some c, atI_nat (j := 3) rfl, nn_some hc1⟩
        · exact ⟨none, atI_nat (j := 4) rfl, nn_none⟩
        · exact ⟨some _, atI_nat (j := 5) rfl, nn_some (by decide)⟩
      obtain ⟨v, hv, nv⟩ := at_
      refine ⟨_, rfl, _, _, _, _, rfl, rfl, SqL.of upd_same, hv, ?_⟩
      exact q v _ (leO_none _) nv ((e1.trans e2).trans (.of s3)) (t2.same s3)
    | some i =>
      have hi := hd i rfl
      refine ⟨_, rfl, _, rfl, ?_⟩
      refine ifF (fun z => by cases of_decide_eq_true z) ?_
      refine ⟨_, rfl, _, _, rfl, rfl, _, rfl, ?_⟩
      by_cases z : (n : Int) < 3
      · refine ifT (decide_eq_true z) ?_
        exact ⟨_, rfl, q (some i) H1 (leO_refl _) hd e1 t1⟩
      · refine ifF (fun y => z (of_decide_eq_true y)) ?_
        refine ⟨_, rfl, rfl, _, rfl, ?_⟩
        by_cases z2 : (V.int (n : Int)) = V.int 3
        · refine ifT (decide_eq_true z2) ?_
          exact q (some 0) H1 (leO_some.mpr hi) (nn_some (by decide)) e1 t1
        · refine ifF (fun y => z2 (of_decide_eq_true y)) ?_
          refine ⟨_, rfl, _, rfl, st, x, ns, 0, rfl, t1, by decide, by decide, fun c H2 hc1 hc2 e2 t2 => ⟨_, _, rfl, rfl, _, _, rfl, ?_⟩⟩
          exact q (some _) H2 (leO_some.mpr (by split <;> omega)) (nn_some (max0 _)) (e1.trans e2) t2
theorem cal_Lbent {f : Addr} {fd : FuncData} (D : C8.Def K mg "_law_bent" s_Lbent f fd) (b : L2.Binds K fd ["_law_state", "_law_number_here"] []) (T : Bt mg) (c_Lnumber : C8.Cal P w K mg base 3 "_law_number" (spNum K) []) (c_Ltake : C8.Cal P w K mg base 2 "_law_take" (spTake K) []) : C8.Cal P w K mg base 4 "_law_bent" (spBent K) [] := by
  refine C8.cal0 D b .nil sc_Lbent (fun vs H Q E h => ?_) (fun cdv A outer s H vs Q E hr h => ?_)
  · obtain ⟨st, x, ns, d, rfl, _⟩ := h
    rfl
  · obtain ⟨st, x, ns, d, rfl, ht, hd, q⟩ := h
    have hu := hu_of hr
    have hu64 := hr.units
    refine ⟨_, (pss_cons (ps_set (i := 2) sc_Lbent.nd rfl (.inl v_Lbent_2) (C8.pe_c c_Ltake hr (by decide) g_Lbent__law_take (pa_cons (pv 0 rfl (.inl v_Lbent_0)) (pa_cons pe_int pa_nil))))
      (pss_cons (ps_if (pt_cmpR op_eq (pv 2 rfl (.inl v_Lbent_2)) pe_int (nomark _)) (pss_one (ps_ret pe_non)) pss_nil)
      (pss_cons (ps_if (pt_cmpR op_eq (pv 2 rfl (.inl v_Lbent_2)) pe_int (nomark _)) (pss_one (ps_ret pe_int)) pss_nil)
      (pss_cons (ps_if (pt_cmp (pc_isN (pv 1 rfl (.inl v_Lbent_1)))) (pss_one (ps_ret (C8.pe_c c_Lnumber hr (by decide) g_Lbent__law_number (pa_cons (pv 0 rfl (.inl v_Lbent_0)) (pa_cons pe_int pa_nil))))) pss_nil)
      (pss_cons (ps_if (pt_cmpR op_lt (pv 2 rfl (.inl v_Lbent_2)) pe_int (nomark _)) (pss_one (ps_ret (pe_op op_add (pe_op op_add (pv 1 rfl (.inl v_Lbent_1)) pe_int) (pe_op op_mul (C8.pe_c c_Ltake hr (by decide) g_Lbent__law_take (pa_cons (pv 0 rfl (.inl v_Lbent_0)) (pa_cons pe_int pa_nil))) (pe_op op_pow pe_int pe_int))))) pss_nil)
      (pss_one (ps_ret (pe_callB (call_max2 rfl) g_Lbent_max T.max_ (by decide +kernel) (pa_cons pe_int (pa_cons (pe_op op_sub (pe_op op_sub (pv 1 rfl (.inl v_Lbent_1)) pe_int) (pe_op op_mul (C8.pe_c c_Lnumber hr (by decide) g_Lbent__law_number (pa_cons (pv 0 rfl (.inl v_Lbent_0)) (pa_cons pe_int pa_nil))) (pe_op op_sub (pv 2 rfl (.inl v_Lbent_2)) pe_int))) pa_nil)))))))))), ?_⟩
    refine ⟨_, rfl, st, x, ns, 6, rfl, ht, by decide, by decide, fun n H1 hn e1 t1 => ?_⟩
    refine ⟨_, rfl, rfl, _, rfl, ?_⟩
    by_cases z0 : (V.int (n : Int)) = V.int 0
    · refine ifT (decide_eq_true z0) ?_
      exact q none H1 nn_none e1 t1
    refine ifF (fun y => z0 (of_decide_eq_true y)) ?_
    refine ⟨_, rfl, rfl, _, rfl, ?_⟩
    by_cases z1 : (V.int (n : Int)) = V.int 1
    · refine ifT (decide_eq_true z1) ?_
      exact q (some 0) H1 (nn_some (by decide)) e1 t1
    refine ifF (fun y => z1 (of_decide_eq_true y)) ?_
    cases d with
    | none =>
      refine ⟨_, rfl, _, rfl, ?_⟩
      refine ifT (decide_eq_true rfl) ?_
      exact ⟨_, rfl, st, x, ns, 0, rfl, t1, by decide, by decide, fun c H2 hc1 hc2 e2 t2 => q (some c) H2 (nn_some hc1) (e1.trans e2) t2⟩
    | some i =>
      have hi := hd i rfl
      refine ⟨_, rfl, _, rfl, ?_⟩
      refine ifF (fun z => by cases of_decide_eq_true z) ?_
      refine ⟨_, rfl, _, _, rfl, rfl, _, rfl, ?_⟩
      by_cases z : (n : Int) < 4
      · refine ifT (decide_eq_true z) ?_
        refine ⟨_, rfl, _, _, rfl, rfl, _, rfl, st, x, ns, 3, rfl, t1, by decide, by decide, fun m H2 hm e2 t2 => ⟨_, _, rfl, rfl, ⟨by decide, by decide, by decide⟩, _, _, rfl, rfl, .inl ⟨by omega, by omega⟩, _, _, rfl, rfl, ?_⟩⟩
        refine q (some _) H2 (nn_some ?_) (e1.trans e2) t2
        have : 0 ≤ (m : Int) * (10 : Int) ^ (20 : Int).toNat := Int.mul_nonneg (by omega) (by decide)
        omega
      · refine ifF (fun y => z (of_decide_eq_true y)) ?_
        refine ⟨_, rfl, _, _, rfl, rfl, _, rfl, st, x, ns, 0, rfl, t1, by decide, by decide, fun c H2 hc1 hc2 e2 t2 => ⟨_, rfl, _, _, rfl, rfl, _, _, rfl, rfl, .inr ⟨by omega, by omega⟩, _, _, rfl, rfl, _, _, rfl, ?_⟩⟩
        exact q (some _) H2 (nn_some (max0 _)) (e1.trans e2) t2
theorem cal_Ljudged {f : Addr} {fd : FuncData} (D : C8.Def K mg "_law_judged" s_Ljudged f fd) (b : L2.Binds K fd ["_law_case_here", "_law_shape_here", "_law_numbers"] []) (T : Bt mg) (c_Ldue : C8.Cal P w K mg base 4 "_law_due" spLdue []) (c_Lkeys : C8.Cal P w K mg base 2 "_law_keys" spKeys []) : C8.Cal P w K mg base 5 "_law_judged" spJudged [] := by
  refine C8.cal0 D b .nil sc_Ljudged (fun vs H Q E h => ?_) (fun cdv A outer s H vs Q E hr h => ?_)
  · obtain ⟨c, sh, nd, D, num, rfl, _⟩ := h
    rfl
  · obtain ⟨c, sh, nd, D, num, rfl, hC, ho, hSh, hN, q⟩ := h
    have hu := hu_of hr
    have hu64 := hr.units
    refine ⟨_, (pss_cons (ps_for PassesOwn.never rfl (pi_list (C8.pe_c c_Lkeys hr (by decide) g_Ljudged__law_keys (pa_cons (pv 0 rfl (.inl v_Ljudged_0)) pa_nil))) (pg_name (i := 3) sc_Ljudged.nd rfl (.inl v_Ljudged_3))
        (pss_cons (ps_set (i := 4) sc_Ljudged.nd rfl (.inl v_Ljudged_4) (C8.pe_c c_Ldue hr (by decide) g_Ljudged__law_due (pa_cons (pv 0 rfl (.inl v_Ljudged_0)) (pa_cons (pv 1 rfl (.inl v_Ljudged_1)) (pa_cons (pv 2 rfl (.inl v_Ljudged_2)) (pa_cons (pv 3 rfl (.inl v_Ljudged_3)) pa_nil))))))
        (pss_one (ps_if (PW.pt (pw_and (pt_cmp (pc_notN (pv 4 rfl (.inl v_Ljudged_4)))) (pw_and1 (PW.pt (pw_or (pt_cmp (pc_isN (pe_dget hu (pv 2 rfl (.inl v_Ljudged_2)) (pv 3 rfl (.inl v_Ljudged_3)) (fun _ _ => rfl)))) (pw_or1 (pt_cmpR op_gt (pe_dget hu (pv 2 rfl (.inl v_Ljudged_2)) (pv 3 rfl (.inl v_Ljudged_3)) (fun _ _ => rfl)) (pv 4 rfl (.inl v_Ljudged_4)) (nomark _)))))))) (pss_one (ps_ret pe_bl)) pss_nil))))
      (pss_one (ps_ret pe_bl))), ?_⟩
    have hR := ho.c.R1
    have hkl := keysL_len ho.c
    refine ⟨_, rfl, c, D.C, rfl, hC, ho.c.lim1, by omega, by omega, fun kl ks H1 s1 f1 k1 k2 => ⟨kl, rfl, ⟨_, SqL.of k1⟩, ?_⟩⟩
    refine for_refsL (rows := D.C.keysL) (f := keyV) (as := ks) (fun i σ H2 => ∃ (y3 y4 : Option V), σ = [some (.ref c), some (.ref sh), some (.ref nd), y3, y4] ∧ Same H H2 ∧ Same H1 H2 ∧ ∀ e ∈ D.C.keysL.take i, leB (num e.1 e.2.1 e.2.2) (D.due num e.1 e.2.1 e.2.2) = true)
      ⟨_, _, rfl, s1, .refl _, fun e he => by simp at he⟩ (fun i σ H2 ⟨_, _, _, _, s2, _⟩ => ⟨s2 _ _ k1, k2.tk (tk_same s2)⟩) (fun i q1 e σ H2 hq he hqe ⟨y3, y4, eσ, s2, s2', hle⟩ => ?_) (fun σ H2 ⟨y3, y4, eσ, s2, s2', hle⟩ => ?_)
    · subst eσ
      have hem := List.mem_of_getElem? he
      obtain ⟨m1, m2, m3⟩ := mem_keysL.mp hem
      refine ⟨_, rfl, _, rfl, _, rfl, _, rfl, c, sh, nd, q1, D, D.C.P, num, e.1, e.2.1, e.2.2, rfl, hC.tk (tk_same s2), ho, hSh.same s2, hN.same s2, hqe, m1, m2, m3, fun c hc => (mem_kids.mp hc).1, fun H3 s3 => ?_⟩
      have gN : DGet H3 nd (.ref q1) (some (oV (num e.1 e.2.1 e.2.2))) := (hN.same (s2.trans s3)).get m1 m2 m3 (s3 _ _ hqe)
      -- the answer at a row that is not held
      have bad : leB (num e.1 e.2.1 e.2.2) (D.due num e.1 e.2.1 e.2.2) = false → Q (.bl false) H3 := fun hb => by
        have := q H3 (s2.trans s3)
        have e1 : judged D.C.P D.C.sites D.C.R num (D.due num) = false := by
          rw [judged_keys, Bool.not_eq_false', List.any_eq_true]
          exact ⟨_, List.mem_map.mpr ⟨e, hem, rfl⟩, by simp [hb]⟩
        rw [e1] at this
        exact this
      have good : leB (num e.1 e.2.1 e.2.2) (D.due num e.1 e.2.1 e.2.2) = true → ∀ f ∈ D.C.keysL.take (i + 1), leB (num f.1 f.2.1 f.2.2) (D.due num f.1 f.2.1 f.2.2) = true := fun hb f hf => by
        rw [take_snoc he] at hf
        rcases List.mem_append.mp hf with hf | hf
        · exact hle f hf
        · rw [List.mem_singleton.mp hf]; exact hb
      generalize hdue : D.due num e.1 e.2.1 e.2.2 = du at bad good
      generalize num e.1 e.2.1 e.2.2 = nu at gN bad good
      cases du with
      | none =>
        refine ⟨_, rfl, _, rfl, ?_⟩
        refine ifF (fun z => by have : decide (oV none = V.non) = true := rfl; rw [this] at z; cases z) ?_
        refine iteF ?_
        exact ⟨_, _, rfl, s2.trans s3, s2'.trans s3, good (by cases nu <;> rfl)⟩
      | some y =>
        refine ⟨_, rfl, _, rfl, ?_⟩
        refine ifT (by rw [decide_eq_false (fun z => by cases z)]; rfl) ?_
        cases nu with
        | none =>
          refine ⟨_, rfl, _, rfl, nd, _, rfl, gN, _, rfl, ?_⟩
          refine ifT (decide_eq_true rfl) ?_
          exact bad rfl
        | some v =>
          refine ⟨_, rfl, _, rfl, nd, _, rfl, gN, _, rfl, ?_⟩
          refine ifF (fun z => by cases of_decide_eq_true z) ?_
          refine ⟨_, rfl, _, rfl, nd, _, rfl, gN, _, rfl, _, _, rfl, rfl, _, rfl, ?_⟩
          by_cases z : y < v
          · refine ifT (decide_eq_true z) ?_
            exact bad (decide_eq_false (by omega))
          · refine ifF (fun t => z (of_decide_eq_true t)) ?_
            exact ⟨_, _, rfl, s2.trans s3, s2'.trans s3, good (decide_eq_true (by omega))⟩
    · subst eσ
      rw [take_len] at hle
      have e1 : judged D.C.P D.C.sites D.C.R num (D.due num) = true := by
        rw [judged_keys, Bool.not_eq_true', List.any_eq_false]
        intro b hb
        obtain ⟨e, he, rfl⟩ := List.mem_map.mp hb
        simp [hle e he]
      have := q H2 s2
      rw [e1] at this
      exact this
end
end OH

namespace OH
open PySem PySem.Spec PyProof.Rows L2
/-- lists of texts at addresses that are not D -/
abbrev LsAt (H : Hp) (D : Addr) (as : List Addr) (Os : List (List Str)) : Prop := Paired (fun a O => H a = some (.lst (O.map V.str)) ∧ a ≠ D) as Os
theorem LsAt.ext {H H' : Hp} {D : Addr} {as : List Addr} {Os : List (List Str)} (t : LsAt H D as Os) (e : Ext D H H') : LsAt H' D as Os := Paired.mapP t fun a O ⟨h, n⟩ => ⟨e _ _ h n, n⟩
theorem LsAt.free {H H' : Hp} {D D' : Addr} {as : List Addr} {Os : List (List Str)} (t : LsAt H D as Os) (e : Same H H') (h : H D' = none) : LsAt H' D' as Os := Paired.mapP t fun a O ⟨h1, _⟩ => ⟨e _ _ h1, ne_of_none h1 h⟩
theorem Paired.app {α β : Type} {R : α → β → Prop} : ∀ {as : List α} {bs : List β} {cs : List α} {ds : List β}, Paired R as bs → Paired R cs ds → Paired R (as ++ cs) (bs ++ ds)
  | _, _, _, _, .nil, h => h
  | _, _, _, _, .cons r t, h => .cons r (Paired.app t h)
theorem Paired.snoc {α β : Type} {R : α → β → Prop} {as : List α} {bs : List β} {a : α} {b : β} (t : Paired R as bs) (h : R a b) : Paired R (as ++ [a]) (bs ++ [b]) := Paired.app t (.cons h .nil)
/-- what an opening is -/
structure OpOk (C : Cse) (O : List Str) : Prop where
  ne : O ≠ []
  sub : O.Sublist (C.sites.map (·.1))
  few : O.length ≤ C.R
def opB (C : Cse) (O : List Str) : Bool := !O.isEmpty && (match C.lim with | none => true | some l => decide ((O.length : Int) ≤ l))
theorem opB_ok {C : Cse} {O : List Str} (h : opB C O = true) (hs : O.Sublist (C.sites.map (·.1))) : OpOk C O := by
  unfold opB at h
  rw [Bool.and_eq_true] at h
  have hl := hs.length_le
  rw [List.length_map] at hl
  refine ⟨(fun z => by rw [z] at h; cases h.1), hs, ?_⟩
  unfold Cse.R
  cases e : C.lim with
  | none => exact hl
  | some l =>
    rw [e] at h
    have := of_decide_eq_true h.2
    dsimp only
    omega
def spOpenings : Sp := fun vs H Q _ => ∃ (c : Addr) (C : Cse), vs = [.ref c] ∧ CaseAt H c C ∧ C.Ok ∧ ∀ (l : Addr) (as : List Addr) (Os : List (List Str)) H', Same H H' → H' l = some (.lst (as.map V.ref)) → LsAt H' l as Os → (∀ O ∈ Os, OpOk C O) → Os ≠ [] → Os.length ≤ 1000 → Q (.ref l) H'
/-- the subsets that were made -/
structure Sb (names : List Str) (k : Nat) (Os : List (List Str)) : Prop where
  sub : ∀ O ∈ Os, O.Sublist (names.take k)
  emp : [] ∈ Os
  one : ∀ n0, names[0]? = some n0 → 1 ≤ k → [n0] ∈ Os
  len : Os.length ≤ 2 ^ k
theorem Sb.step {names : List Str} {k : Nat} {Os : List (List Str)} {s : Str} (b : Sb names k Os) (hs : names[k]? = some s) : Sb names (k + 1) (Os ++ Os.map fun O => O ++ [s]) := by
  refine ⟨fun O hO => ?_, List.mem_append_left _ b.emp, fun n0 h0 _ => ?_, ?_⟩
  · rw [take_snoc hs]
    rcases List.mem_append.mp hO with h | h
    · exact (b.sub O h).trans (List.sublist_append_left _ _)
    · obtain ⟨O', h', rfl⟩ := List.mem_map.mp h
      exact (b.sub O' h').append (List.Sublist.refl _)
  · by_cases z : 1 ≤ k
    · exact List.mem_append_left _ (b.one n0 h0 z)
    · have : k = 0 := by omega
      subst this
      rw [h0] at hs
      have e := Option.some.inj hs
      exact List.mem_append_right _ (List.mem_map.mpr ⟨[], b.emp, by rw [e]; rfl⟩)
  · rw [List.length_append, List.length_map, Nat.pow_succ]
    have := b.len
    omega
section
variable {P : Program} {w : World} {K : PySem.W.Frag} {mg : Str → Option Value} {base : Heap}
theorem cal_Lopenings {f : Addr} {fd : FuncData} (D : C8.Def K mg "_law_openings" s_Lopenings f fd) (b : L2.Binds K fd ["_law_case_here"] []) (T : Bt mg) : C8.Cal P w K mg base 1 "_law_openings" spOpenings [] := by
  refine C8.cal0 D b .nil sc_Lopenings (fun vs H Q E h => ?_) (fun cdv A outer s H vs Q E hr h => ?_)
  · obtain ⟨c, C, rfl, _⟩ := h
    rfl
  · obtain ⟨c, C, rfl, hC, ho, q⟩ := h
    have hu := hu_of hr
    have hu64 := hr.units
    refine ⟨_, (pss_cons (ps_set (i := 1) sc_Lopenings.nd rfl (.inl v_Lopenings_1) (pe_lst (pa_cons (pe_lst pa_nil) pa_nil)))
      (pss_cons (ps_for PassesOwn.never rfl (pi_tup (pe_ix ix_tup (pv 0 rfl (.inr (.inl v_Lopenings_0))) pe_int (fun _ _ => rfl))) (pg_tup rfl (pgs_cons (pg_name (i := 2) sc_Lopenings.nd rfl (.inr v_Lopenings_2)) (pgs_cons (pg_name (i := 3) sc_Lopenings.nd rfl (.inl v_Lopenings_3)) pgs_nil)))
        (pss_one (ps_set (i := 1) sc_Lopenings.nd rfl (.inl v_Lopenings_1) (pe_op op_cat (pv 1 rfl (.inl v_Lopenings_1)) (pe_lc (own := [("_law_one", 4)]) rfl sc_Lopenings.nd (pi_list (pv 1 rfl (.inl v_Lopenings_1))) (blkOk_by (own := [("_law_one", 4)]) (N := N_Lopenings) (sc := sc s_Lopenings) (by decide +kernel)) (fun _ _ _ _ _ => (pg_name (i := 4) sc_Lopenings.nd rfl (.inl rfl) (.inr rfl))) (fun _ _ _ _ _ => pts_nil) (fun _ _ _ _ _ => (pe_op op_cat (pv 4) (pe_lst (pa_cons (pv 2) pa_nil)))))))))
      (pss_one (ps_ret (pe_lc (own := [("_law_one", 4)]) rfl sc_Lopenings.nd (pi_list (pv 1 rfl (.inl v_Lopenings_1))) (blkOk_by (own := [("_law_one", 4)]) (N := N_Lopenings) (sc := sc s_Lopenings) (by decide +kernel)) (fun _ _ _ _ _ => (pg_name (i := 4) sc_Lopenings.nd rfl (.inl rfl) (.inr rfl))) (fun _ _ _ _ _ => pts_one (PW.pt (pw_and (pt_cmpR (op_neDK (K := K) rfl hu64) (pv 4) (pe_lst pa_nil) (nomark _)) (pw_and1 (PW.pt (pw_or (pt_cmp (pc_isN (pe_ix (ix_tupK (K := K) rfl) (pv 0) pe_int (fun _ _ => rfl)))) (pw_or1 (pt_cmpR op_le (pe_callB (call_lenK (K := K) rfl) (by rfl) T.len_ (by decide +kernel) (pa_cons (pv 4) pa_nil)) (pe_ix (ix_tupK (K := K) rfl) (pv 0) pe_int (fun _ _ => rfl)) (nomark _))))))))) (fun _ _ _ _ _ => (pv 4))))))), ?_⟩
    obtain ⟨am, asi, af, h1, hM, hS, hF⟩ := hC.ex
    obtain ⟨ss, h6, h7⟩ := hS.ex
    have hs9 := ho.s1
    refine ⟨Nat.zero_le _, fun e1 f1 => ⟨(by show 1 ≤ sizeLine; decide), fun l0 f0 => ?_⟩⟩
    have s1 := (same_new (o := .lst []) f1).trans (same_new (o := .lst [V.ref e1]) f0)
    have hl0 : upd (upd H e1 (.lst [])) l0 (.lst [V.ref e1]) l0 = some (.lst [V.ref e1]) := upd_same
    have he1 : upd (upd H e1 (.lst [])) l0 (.lst [V.ref e1]) e1 = some (.lst []) := same_new f0 _ _ upd_same
    have ne0 : e1 ≠ l0 := fun z => by rw [← z, upd_same] at f0; cases f0
    generalize upd (upd H e1 (.lst [])) l0 (.lst [V.ref e1]) = H1 at s1 hl0 he1 ⊢
    refine ⟨_, rfl, _, _, _, _, rfl, rfl, SqT.of (s1 _ _ h1), atI_nat (j := 1) rfl, asi, rfl, ⟨_, SqT.of (s1 _ _ h6)⟩, ?_⟩
    refine for_rows (rows := C.sites) (as := ss) (fun k σ H2 => ∃ (y2 y3 y4 : Option V) (l : Addr) (as : List Addr) (Os : List (List Str)), σ = [some (.ref c), some (.ref l), y2, y3, y4] ∧ Same H H2 ∧ H2 l = some (.lst (as.map V.ref)) ∧ LsAt H2 l as Os ∧ Sb (C.sites.map (·.1)) k Os)
      ⟨_, _, _, l0, [e1], [[]], rfl, s1, hl0, .cons ⟨he1, ne0⟩ .nil, ⟨fun O hO => by rw [List.mem_singleton.mp hO]; exact List.nil_sublist _, List.mem_singleton.mpr rfl, fun n0 _ h => absurd h (by decide), Nat.le_refl _⟩⟩ (fun k σ H2 ⟨_, _, _, _, _, _, _, s2, _⟩ => ⟨s2 _ _ h6, h7.tk (tk_same s2)⟩) (fun k s co σ H2 hs ⟨y2, y3, y4, l, as, Os, eσ, s2, hl, ls, sb⟩ => ?_) (fun σ H2 ⟨y2, y3, y4, l, as, Os, eσ, s2, hl, ls, sb⟩ => ?_)
    · subst eσ
      have hkl := (List.getElem?_eq_some_iff.mp hs).1
      have hal := Paired.length ls
      have h2k : 2 ^ k ≤ 2 ^ 9 := Nat.pow_le_pow_right (by decide) (by omega)
      have hol : Os.length ≤ 512 := Nat.le_trans sb.len h2k
      refine ⟨_, rfl, _, rfl, l, rfl, ⟨_, SqL.of hl⟩, fun D nD => ?_⟩
      refine L2.lc_list (xs := as.map V.ref) (fun i H3 => ∃ bs : List Addr, Ext D H2 H3 ∧ H3 D = some (.lst (bs.map V.ref)) ∧ LsAt H3 D bs ((Os.take i).map fun O => O ++ [s]))
        ⟨[], .of (same_new nD), upd_same, .nil⟩ (fun i H3 _ ⟨bs, e3, _⟩ => SqL.of (e3 _ _ hl (ne_of_none hl nD))) (fun i v H3 hv ⟨bs, e3, h3, b3⟩ => ?_) (fun H3 ⟨bs, e3, h3, b3⟩ => ?_)
      · rw [List.getElem?_map] at hv
        cases ea : as[i]? with
        | none => rw [ea] at hv; cases hv
        | some a =>
          rw [ea] at hv
          cases hv
          obtain ⟨O, hO, hOa, hOn⟩ := Paired.getL ls ea
          have hil := (List.getElem?_eq_some_iff.mp hO).1
          have hOl := (sb.sub O (List.mem_of_getElem? hO)).length_le
          rw [List.length_take, List.length_map] at hOl
          have hbl := Paired.length b3
          rw [List.length_map, List.length_take] at hbl
          have ha3 := e3 _ _ hOa (ne_of_none hOa nD)
          refine ⟨rfl, ?_⟩
          refine iteT (B := ∃ bs : List Addr, Ext D H2 H3 ∧ H3 D = some (.lst (bs.map V.ref)) ∧ LsAt H3 D bs ((Os.take (i + 1)).map fun O => O ++ [s])) ?_
          refine ⟨_, rfl, _, rfl, (by show 1 ≤ sizeLine; decide), fun b fb => ?_⟩
          refine ⟨a, b, _, _, rfl, rfl, same_new fb _ _ ha3, upd_same, sz9' (by rw [List.length_map, List.length_singleton]; omega), fun p np => ?_⟩
          have s4 := (same_new (o := .lst [V.str s]) fb).trans (same_new (o := .lst (O.map V.str ++ [V.str s])) np)
          have hp4 : upd (upd H3 b (.lst [V.str s])) p (.lst (O.map V.str ++ [V.str s])) p = some (.lst ((O ++ [s]).map V.str)) := by rw [upd_same, List.map_append]; rfl
          have np3 : H3 p = none := (same_new (o := .lst [V.str s]) fb).free np
          generalize upd (upd H3 b (.lst [V.str s])) p (.lst (O.map V.str ++ [V.str s])) = H4 at s4 hp4 ⊢
          have pD : p ≠ D := fun z => by rw [z, h3] at np3; cases np3
          refine ⟨_, s4 _ _ h3, sz9 (by rw [List.length_map, hbl]; omega), bs ++ [p], (e3.trans (.of s4)).trans Ext.upd, by rw [upd_same, List.map_append]; rfl, ?_⟩
          rw [take_snoc hO, List.map_append]
          exact Paired.snoc (LsAt.ext b3 ((Ext.of s4).trans Ext.upd)) ⟨by rw [upd_ne pD]; exact hp4, pD⟩
      · rw [List.length_map, hal, take_len] at b3
        have hbl := Paired.length b3
        rw [List.length_map] at hbl
        have hl3 := e3 _ _ hl (ne_of_none hl nD)
        refine ⟨l, D, _, _, rfl, rfl, hl3, h3, sz9' (by rw [List.length_map, List.length_map]; omega), fun p np => ?_⟩
        have s4 := same_new (o := .lst (as.map V.ref ++ bs.map V.ref)) np
        have s23 : Same H2 H3 := fun b o h => e3 _ _ h (ne_of_none h nD)
        refine ⟨_, _, _, p, as ++ bs, Os ++ Os.map fun O => O ++ [s], rfl, (s2.trans s23).trans s4, by rw [upd_same, List.map_append], Paired.app ?_ (LsAt.free b3 s4 np), sb.step (by rw [List.getElem?_map, hs]; rfl)⟩
        exact Paired.mapP ls fun a O ⟨h, _⟩ => ⟨s4 _ _ (s23 _ _ h), ne_of_none (s23 _ _ h) np⟩
    · subst eσ
      have hal := Paired.length ls
      have h2k : 2 ^ C.sites.length ≤ 2 ^ 9 := Nat.pow_le_pow_right (by decide) (by omega)
      have hol : Os.length ≤ 512 := Nat.le_trans sb.len h2k
      have hsub : ∀ O ∈ Os, O.Sublist (C.sites.map (·.1)) := fun O hO => (sb.sub O hO).trans (List.take_sublist _ _)
      have hnm : ∀ O ∈ Os, ∀ v ∈ O, NmOk v := fun O hO v hv => by
        obtain ⟨e, he, rfl⟩ := List.mem_map.mp ((hsub O hO).subset hv)
        exact ho.nm _ (ho.sP e he).1
      refine ⟨_, rfl, l, rfl, ⟨_, SqL.of hl⟩, fun D nD => ?_⟩
      refine L2.lc_list (xs := as.map V.ref) (fun i H3 => ∃ bs : List Addr, Ext D H2 H3 ∧ H3 D = some (.lst (bs.map V.ref)) ∧ LsAt H3 D bs ((Os.take i).filter (opB C)))
        ⟨[], .of (same_new nD), upd_same, .nil⟩ (fun i H3 _ ⟨bs, e3, _⟩ => SqL.of (e3 _ _ hl (ne_of_none hl nD))) (fun i v H3 hv ⟨bs, e3, h3, b3⟩ => ?_) (fun H3 ⟨bs, e3, h3, b3⟩ => ?_)
      · rw [List.getElem?_map] at hv
        cases ea : as[i]? with
        | none => rw [ea] at hv; cases hv
        | some a =>
          rw [ea] at hv
          cases hv
          obtain ⟨O, hO, hOa, hOn⟩ := Paired.getL ls ea
          have hOm := List.mem_of_getElem? hO
          have ha3 := e3 _ _ hOa (ne_of_none hOa nD)
          have hbl := Paired.length b3
          have hbl' : bs.length ≤ Os.length := by rw [hbl]; exact filt_few
          refine ⟨rfl, ?_⟩
          refine ⟨_, rfl, Nat.zero_le _, fun en fe => ⟨_, _, .lst (SqL.of (same_new fe _ _ ha3)) (dp_strs O), .lst (SqL.of upd_same) .nil, shaped_strs O (hnm O hOm), shaped_nil, _, rfl, ?_⟩⟩
          rw [eqv_nil, filt_snoc hO]
          have s4 := same_new (o := .lst []) fe
          have e4 := e3.trans (.of s4)
          have h4 := s4 _ _ h3
          have b4 : LsAt (upd H3 en (.lst [])) D bs ((Os.take i).filter (opB C)) := LsAt.ext b3 (.of s4)
          have ha4 := s4 _ _ ha3
          generalize upd H3 en (.lst []) = H4 at e4 h4 b4 ha4 ⊢
          have yes : opB C O = true → ∃ acc, H4 D = some (.lst acc) ∧ acc.length < sizeLine ∧ ∃ bs : List Addr, Ext D H2 (upd H4 D (.lst (acc ++ [V.ref a]))) ∧ upd H4 D (.lst (acc ++ [V.ref a])) D = some (.lst (bs.map V.ref)) ∧ LsAt (upd H4 D (.lst (acc ++ [V.ref a]))) D bs ((Os.take i).filter (opB C) ++ (if opB C O = true then [O] else [])) := fun hb => by
            refine ⟨_, h4, sz9 (by rw [List.length_map]; omega), bs ++ [a], e4.trans Ext.upd, by rw [upd_same, List.map_append]; rfl, ?_⟩
            rw [if_pos hb]
            have aD : a ≠ D := ne_of_none hOa nD
            exact Paired.snoc (LsAt.ext b4 Ext.upd) ⟨by rw [upd_ne aD]; exact ha4, aD⟩
          have no : opB C O = false → ∃ bs : List Addr, Ext D H2 H4 ∧ H4 D = some (.lst (bs.map V.ref)) ∧ LsAt H4 D bs ((Os.take i).filter (opB C) ++ (if opB C O = true then [O] else [])) := fun hb => by
            refine ⟨bs, e4, h4, ?_⟩
            rw [if_neg (by rw [hb]; exact Bool.false_ne_true), List.append_nil]
            exact b4
          have hc4 : H4 c = some (.tup [.ref am, .ref asi, .ref af, oV C.lim]) := e4 _ _ (s2 _ _ h1) (ne_of_none (s2 _ _ h1) nD)
          cases O with
          | nil =>
            refine iteF ?_
            refine iteF ?_
            exact no rfl
          | cons o0 ot =>
            refine iteT ?_
            refine ⟨_, rfl, _, _, _, _, rfl, rfl, SqT.of hc4, atI_nat (j := 3) rfl, _, rfl, ?_⟩
            cases el : C.lim with
            | none =>
              have hb : opB C (o0 :: ot) = true := by unfold opB; rw [el]; rfl
              refine ifT (decide_eq_true rfl) ?_
              refine iteT ?_
              exact ⟨_, rfl, yes hb⟩
            | some lm =>
              refine ifF (fun z => by cases of_decide_eq_true z) ?_
              refine ⟨_, rfl, a, _, rfl, .inl (SqL.of ha4), _, rfl, _, _, _, _, rfl, rfl, SqT.of hc4, (by rw [el]; exact atI_nat (j := 3) rfl), _, _, rfl, rfl, _, rfl, ?_⟩
              by_cases hz : (((o0 :: ot).map V.str).length : Int) ≤ lm
              · have hb : opB C (o0 :: ot) = true := by
                  unfold opB
                  rw [el]
                  rw [List.length_map] at hz
                  show (true && decide (((o0 :: ot).length : Int) ≤ lm)) = true
                  rw [decide_eq_true hz]; rfl
                refine ifT (decide_eq_true hz) ?_
                exact ⟨_, rfl, yes hb⟩
              · have hb : opB C (o0 :: ot) = false := by
                  unfold opB
                  rw [el]
                  rw [List.length_map] at hz
                  show (true && decide (((o0 :: ot).length : Int) ≤ lm)) = false
                  rw [decide_eq_false hz]; rfl
                refine ifF (fun y => hz (of_decide_eq_true y)) ?_
                exact no hb
      · rw [List.length_map, hal, take_len] at b3
        have s23 : Same H2 H3 := fun b o h => e3 _ _ h (ne_of_none h nD)
        refine q D bs _ H3 (s2.trans s23) h3 b3 (fun O hO => ?_) (fun z => ?_) (by have := List.length_filter_le (opB C) Os; omega)
        · obtain ⟨g1, g2⟩ := List.mem_filter.mp hO
          exact opB_ok g2 (hsub O g1)
        · obtain ⟨n0, hn0⟩ : ∃ n0, (C.sites.map (·.1))[0]? = some n0 := ⟨_, List.getElem?_eq_getElem (by rw [List.length_map]; omega)⟩
          have h1m := sb.one n0 hn0 hs9.1
          have hb : opB C [n0] = true := by
            unfold opB
            cases el : C.lim with
            | none => rfl
            | some l =>
              have := ho.lim1 l el
              show (true && decide ((1 : Int) ≤ l)) = true
              rw [decide_eq_true this]; rfl
          have := List.mem_filter.mpr ⟨h1m, hb⟩
          rw [z] at this
          cases this
end
end OH

namespace OH
open PySem PySem.Spec PyProof.Rows L2
abbrev Dt.costO (D : Dt) (O : List Str) : Int := OH.costO D.C.folk D.far (manyOf D.C.sites) O
def spCost : Sp := fun vs H Q _ => ∃ (c fd o : Addr) (D : Dt) (O : List Str), vs = [.ref c, .ref fd, .ref o] ∧ CaseAt H c D.C ∧ D.Ok ∧ FarO H fd D.S D.C.P D.far (fun _ => True) ∧ H o = some (.lst (O.map V.str)) ∧ OpOk D.C O ∧ ∀ H', Same H H' → Q (.int (D.costO O)) H'
def spLeast : Sp := fun vs H Q _ => ∃ (c : Addr) (D : Dt), vs = [.ref c] ∧ CaseAt H c D.C ∧ D.Ok ∧ ∀ (O : List Str) H', Same H H' → OpOk D.C O → Q (.int (D.costO O)) H'
section
variable {P : Program} {w : World} {K : PySem.W.Frag} {mg : Str → Option Value} {base : Heap}
theorem cal_Lcost {f : Addr} {fd : FuncData} (D : C8.Def K mg "_law_cost" s_Lcost f fd) (b : L2.Binds K fd ["_law_case_here", "_law_far_of", "_law_opening"] []) (T : Bt mg) : C8.Cal P w K mg base 1 "_law_cost" spCost [] := by
  refine C8.cal0 D b .nil sc_Lcost (fun vs H Q E h => ?_) (fun cdv A outer s H vs Q E hr h => ?_)
  · obtain ⟨c, fd, o, D, O, rfl, _⟩ := h
    rfl
  · obtain ⟨c, fd, o, D, O, rfl, hC, ho, hFa, hO, hOp, q⟩ := h
    have hu := hu_of hr
    have hu64 := hr.units
    refine ⟨_, (pss_cons (ps_set (i := 3) sc_Lcost.nd rfl (.inr v_Lcost_3) (pe_callTy (call_dictP rfl) g_Lcost_dict T.dict_ (by decide +kernel) (pa_cons (pe_callTy call_list_of g_Lcost_list T.list_ (by decide +kernel) (pa_cons (pe_ix ix_tup (pv 0 rfl (.inl v_Lcost_0)) pe_int (fun _ _ => rfl)) pa_nil)) pa_nil)))
      (pss_cons (ps_set (i := 4) sc_Lcost.nd rfl (.inl v_Lcost_4) (pe_callB (cr_sum rfl) g_Lcost_sum T.sum_ (by decide +kernel) (pa_cons (pe_lc (own := [("_law_site", 7)]) rfl sc_Lcost.nd (pi_list (pv 2 rfl (.inl v_Lcost_2))) (blkOk_by (own := [("_law_site", 7)]) (N := N_Lcost) (sc := sc s_Lcost) (by decide +kernel)) (fun _ _ _ _ _ => (pg_name (i := 7) sc_Lcost.nd rfl (.inl rfl) (.inr rfl))) (fun _ _ _ _ _ => pts_nil) (fun _ _ _ _ _ => (pe_dget hu (pv 3) (pv 7) (fun _ _ => rfl)))) pa_nil)))
      (pss_cons (ps_for PassesOwn.never rfl (pi_tup (pe_ix ix_tup (pv 0 rfl (.inl v_Lcost_0)) pe_int (fun _ _ => rfl))) (pg_tup rfl (pgs_cons (pg_name (i := 5) sc_Lcost.nd rfl (.inr v_Lcost_5)) (pgs_cons (pg_name (i := 6) sc_Lcost.nd rfl (.inl v_Lcost_6)) pgs_nil)))
        (pss_one (ps_set (i := 4) sc_Lcost.nd rfl (.inl v_Lcost_4) (pe_op op_add (pv 4 rfl (.inl v_Lcost_4)) (pe_op op_mulW (pv 6 rfl (.inl v_Lcost_6)) (pe_callB (cr_min rfl) g_Lcost_min T.min_ (by decide +kernel) (pa_cons (pe_lc (own := [("_law_site", 7)]) rfl sc_Lcost.nd (pi_list (pv 2 rfl (.inl v_Lcost_2))) (blkOk_by (own := [("_law_site", 7)]) (N := N_Lcost) (sc := sc s_Lcost) (by decide +kernel)) (fun _ _ _ _ _ => (pg_name (i := 7) sc_Lcost.nd rfl (.inl rfl) (.inr rfl))) (fun _ _ _ _ _ => pts_nil) (fun _ _ _ _ _ => (pe_dget hu (pe_dget hu (pv 1) (pv 7) (fun _ _ => rfl)) (pv 5) (fun _ _ => rfl)))) pa_nil)))))))
      (pss_one (ps_ret (pv 4 rfl (.inl v_Lcost_4))))))), ?_⟩
    obtain ⟨am, asi, af, h1, hM, hS, hF⟩ := hC.ex
    obtain ⟨ss, h6, h7⟩ := hS.ex
    obtain ⟨fs, h8, h9⟩ := hF.ex
    have hOS : ∀ t ∈ O, t ∈ D.S := fun t ht => hOp.sub.subset ht
    have hOl : O.length ≤ 9 := Nat.le_trans hOp.few ho.c.R1.2.2
    have hf9 := ho.c.f1
    refine ⟨_, rfl, _, _, _, _, rfl, rfl, SqT.of h1, atI_nat (j := 1) rfl, asi, _, rfl, .inr (SqT.of h6), fun al fal => ?_⟩
    have s2 := same_new (o := .lst (ss.map V.ref)) fal
    have hal : upd H al (.lst (ss.map V.ref)) al = some (.lst (ss.map V.ref)) := upd_same
    generalize upd H al (.lst (ss.map V.ref)) = H2 at s2 hal ⊢
    refine ⟨al, ss, _, rfl, SqL.of hal, paired_rows (h7.tk (tk_same s2)), fun dm fdm => ?_⟩
    have s3 := s2.trans (same_new (o := .dK (mergeK [] (D.C.sites.map fun e => ((Sum.inr e.1 : Key), V.int e.2)))) fdm)
    have hdm : upd H2 dm (.dK (mergeK [] (D.C.sites.map fun e => ((Sum.inr e.1 : Key), V.int e.2)))) dm = some (.dK (mergeK [] (D.C.sites.map fun e => ((Sum.inr e.1 : Key), V.int e.2)))) := upd_same
    generalize upd H2 dm (.dK (mergeK [] (D.C.sites.map fun e => ((Sum.inr e.1 : Key), V.int e.2)))) = H3 at s3 hdm ⊢
    have hcost : ∀ t ∈ O, valV (mergeK [] (D.C.sites.map fun e => ((Sum.inr e.1 : Key), V.int e.2))) (.inr t) = some (.int (manyOf D.C.sites t)) := fun t ht => by
      rw [dict_rows ho.c.sN]
      obtain ⟨e, he, rfl⟩ := List.mem_map.mp (hOS t ht)
      unfold manyOf
      rw [lookup_mem (m := e.2) ho.c.sN he]
      rfl
    refine ⟨_, rfl, o, rfl, ⟨_, SqL.of (s3 _ _ hO)⟩, fun n1 f1 => ?_⟩
    refine lc_strsL (P := O) (fun i H4 => LI H3 H4 n1 (((O.take i).map (manyOf D.C.sites)).map V.int)) (LI.nil f1) (fun i H4 I => I.same _ _ (s3 _ _ hO)) (fun i t H4 ht I => ?_) (fun H4 I => ?_)
    · refine ⟨rfl, ?_⟩
      refine iteT (B := LI H3 H4 n1 (((O.take (i + 1)).map (manyOf D.C.sites)).map V.int)) ?_
      have gC : DGet H4 dm (kV (.inr t)) (some (.int (manyOf D.C.sites t))) := hcost t (List.mem_of_getElem? ht) ▸ DGet.k (k := Sum.inr t) (I.same _ _ hdm)
      refine ⟨_, rfl, _, rfl, dm, _, rfl, gC, _, I.at_, sz9 (by rw [List.length_map, List.length_map, List.length_take]; omega), ?_⟩
      rw [take_snoc ht, List.map_append, List.map_append]
      exact I.put
    · rw [take_len] at I
      refine ⟨n1, _, rfl, SqL.of I.at_, ?_⟩
      have s4 := s3.trans I.same
      refine ⟨_, rfl, _, _, _, _, rfl, rfl, SqT.of (s4 _ _ h1), atI_nat (j := 2) rfl, af, rfl, ⟨_, SqT.of (s4 _ _ h8)⟩, ?_⟩
      refine for_rows (rows := D.C.folk) (as := fs) (fun k σ H5 => ∃ (y5 y6 y7 : Option V), σ = [some (.ref c), some (.ref fd), some (.ref o), some (.ref dm), some (.int ((O.map (manyOf D.C.sites)).sum + ((D.C.folk.take k).map fun pm => pm.2 * listMin (O.map fun s => D.far s pm.1)).sum)), y5, y6, y7] ∧ Same H4 H5)
        ⟨_, _, _, by simp; rfl, .refl _⟩ (fun k σ H5 ⟨_, _, _, _, s5⟩ => ⟨s5 _ _ (s4 _ _ h8), h9.tk (tk_same (s4.trans s5))⟩) (fun k p m σ H5 hs ⟨y5, y6, y7, eσ, s5⟩ => ?_) (fun σ H5 ⟨y5, y6, y7, eσ, s5⟩ => ?_)
      · subst eσ
        have hpm := ho.c.fP _ (List.mem_of_getElem? hs)
        have s5' := s4.trans s5
        refine ⟨_, rfl, _, rfl, _, rfl, o, rfl, ⟨_, SqL.of (s5' _ _ hO)⟩, fun n2 f2 => ?_⟩
        refine lc_strsL (P := O) (fun i H6 => LI H5 H6 n2 (((O.take i).map fun s => D.far s p).map V.int)) (LI.nil f2) (fun i H6 I => I.same _ _ (s5' _ _ hO)) (fun i t H6 ht I => ?_) (fun H6 I6 => ?_)
        · refine ⟨rfl, ?_⟩
          refine iteT (B := LI H5 H6 n2 (((O.take (i + 1)).map fun s => D.far s p).map V.int)) ?_
          obtain ⟨fs8, f1, f2⟩ := (hFa.same (s5'.trans I.same)).ex
          obtain ⟨e, f3, ⟨es, f4, f5⟩, _⟩ := f2 t (hOS t (List.mem_of_getElem? ht))
          have gF : DGet H6 fd (kV (.inr t)) (some (.ref e)) := f3 ▸ DGet.k (k := Sum.inr t) f1
          have gE : DGet H6 e (kV (.inr p)) (some (.int (D.far t p))) := f5 p hpm.1 ▸ DGet.k (k := Sum.inr p) f4
          refine ⟨_, rfl, _, rfl, fd, _, rfl, gF, _, rfl, e, _, rfl, gE, _, I.at_, sz9 (by rw [List.length_map, List.length_map, List.length_take]; omega), ?_⟩
          rw [take_snoc ht, List.map_append, List.map_append]
          exact I.put
        · rw [take_len] at I6
          refine ⟨n2, _, rfl, SqL.of I6.at_, ?_, fun mm hmm hmin => ?_⟩
          · rw [List.length_map]
            exact List.length_pos_iff.mpr hOp.ne
          · have em := listMin_eq hmm hmin
            obtain ⟨t, htO, rfl⟩ := List.mem_map.mp hmm
            refine ⟨_, _, rfl, rfl, mk_wide ⟨Int.le_trans (by decide) hpm.2.1, hpm.2.2⟩ (ho.far_le (hOS t htO) hpm.1), _, _, rfl, rfl, ?_⟩
            refine ⟨some (.str p), some (.int m), y7, ?_, s5.trans I6.same⟩
            rw [take_snoc hs, List.map_append, List.sum_append, List.map_cons, List.map_nil, List.sum_cons, List.sum_nil, Int.add_zero, em, ← Int.add_assoc]
            rfl
      · subst eσ
        rw [take_len]
        exact ⟨_, rfl, q H5 (s4.trans s5)⟩
theorem cal_Lleast {f : Addr} {fd : FuncData} (D : C8.Def K mg "_law_least" s_Lleast f fd) (b : L2.Binds K fd ["_law_case_here"] []) (T : Bt mg) (c_Lcost : C8.Cal P w K mg base 1 "_law_cost" spCost []) (c_Lfars : C8.Cal P w K mg base 2 "_law_fars" spFars []) (c_Lopenings : C8.Cal P w K mg base 1 "_law_openings" spOpenings []) : C8.Cal P w K mg base 3 "_law_least" spLeast [] := by
  refine C8.cal0 D b .nil sc_Lleast (fun vs H Q E h => ?_) (fun cdv A outer s H vs Q E hr h => ?_)
  · obtain ⟨c, D, rfl, _⟩ := h
    rfl
  · obtain ⟨c, D, rfl, hC, ho, q⟩ := h
    have hu := hu_of hr
    have hu64 := hr.units
    refine ⟨_, (pss_cons (ps_set (i := 1) sc_Lleast.nd rfl (.inr v_Lleast_1) pe_dnewK)
      (pss_cons (ps_for PassesOwn.never rfl (pi_tup (pe_ix ix_tup (pv 0 rfl (.inr (.inl v_Lleast_0))) pe_int (fun _ _ => rfl))) (pg_tup rfl (pgs_cons (pg_name (i := 2) sc_Lleast.nd rfl (.inl v_Lleast_2)) (pgs_cons (pg_name (i := 3) sc_Lleast.nd rfl (.inl v_Lleast_3)) pgs_nil)))
        (pss_one (ps_dput hu (pv 1 rfl (.inr (.inl v_Lleast_1))) (pv 2 rfl (.inl v_Lleast_2)) (C8.pe_c c_Lfars hr (by decide) g_Lleast__law_fars (pa_cons (pe_ix ix_tup (pv 0 rfl (.inr (.inl v_Lleast_0))) pe_int (fun _ _ => rfl)) (pa_cons (pv 2 rfl (.inl v_Lleast_2)) pa_nil))) rfl)))
      (pss_one (ps_ret (pe_callB (cr_min rfl) g_Lleast_min T.min_ (by decide +kernel) (pa_cons (pe_lc (own := [("_law_opening", 4)]) rfl sc_Lleast.nd (pi_list (C8.pe_c c_Lopenings hr (by decide) g_Lleast__law_openings (pa_cons (pv 0 rfl (.inr (.inl v_Lleast_0))) pa_nil))) (blkOk_by (own := [("_law_opening", 4)]) (N := N_Lleast) (sc := sc s_Lleast) (by decide +kernel)) (fun _ _ _ _ _ => (pg_name (i := 4) sc_Lleast.nd rfl (.inl rfl) (.inr rfl))) (fun _ _ _ _ _ => pts_nil) (fun _ _ _ _ _ => (C8.pe_c c_Lcost hr (by decide) (by rfl) (pa_cons (pv 0) (pa_cons (pv 1) (pa_cons (pv 4) pa_nil)))))) pa_nil)))))), ?_⟩
    obtain ⟨am, asi, af, h1, hM, hS, hF⟩ := hC.ex
    obtain ⟨ss, h6, h7⟩ := hS.ex
    intro fd nfd
    have s2 := same_new (o := .dK []) nfd
    have hfd : upd H fd (.dK []) fd = some (.dK []) := upd_same
    generalize upd H fd (.dK []) = H2 at s2 hfd ⊢
    have nf : ∀ {b : Addr} {xs : List V}, H b = some (.tup xs) → b ≠ fd := fun h => ne_of_none h nfd
    refine ⟨_, rfl, _, _, _, _, rfl, rfl, SqT.of (s2 _ _ h1), atI_nat (j := 1) rfl, asi, rfl, ⟨_, SqT.of (s2 _ _ h6)⟩, ?_⟩
    refine for_rows (rows := D.C.sites) (as := ss) (fun k σ H9 => ∃ (y2 y3 y4 : Option V) (es : List (Key × V)), σ = [some (.ref c), some (.ref fd), y2, y3, y4] ∧ Ext fd H2 H9 ∧ H9 fd = some (.dK es) ∧ es.length ≤ k ∧ (∀ s ∈ (D.C.sites.take k).map (·.1), ∃ e, valV es (.inr s) = some (.ref e) ∧ FarsAt H9 e D.C.P (D.far s) ∧ e ≠ fd))
      ⟨_, _, _, [], rfl, .refl _ _, hfd, Nat.le_refl _, fun s hs => by simp at hs⟩ (fun k σ H9 ⟨_, _, _, _, _, e9, _⟩ => ⟨e9 _ _ (s2 _ _ h6) (nf h6), h7.tk fun b xs h => e9 _ _ (s2 _ _ h) (nf h)⟩) (fun k s0 co σ H9 hs ⟨y2, y3, y4, es, eσ, e9, hf9, el9, hE⟩ => ?_) (fun σ H9 ⟨y2, y3, y4, es, eσ, e9, hf9, el9, hE⟩ => ?_)
    · subst eσ
      have hsm := List.mem_of_getElem? hs
      have hkl := (List.getElem?_eq_some_iff.mp hs).1
      have hs1 := ho.c.s1.2
      have hsS : s0 ∈ D.S := List.mem_map.mpr ⟨_, hsm, rfl⟩
      obtain ⟨par, dep, len, t, ef⟩ := ho.fr s0 hsS
      have hfew := ho.c.few
      have k9 : ∀ {b : Addr} {xs : List V}, H b = some (.tup xs) → H9 b = some (.tup xs) := fun h => e9 _ _ (s2 _ _ h) (nf h)
      have hM9 : MapAt H9 am D.C.P D.C.W := hM.tk fun b xs h => k9 h
      refine ⟨_, rfl, _, _, _, _, rfl, rfl, SqT.of (k9 h1), atI_nat (j := 0) rfl, _, rfl, am, D.C.P, D.C.W, s0, par, dep, len, rfl, hM9, ho.ro.tree, t, by omega, ho.ro.nm, fun d H10 s10 f10 g10 => ?_⟩
      have dfd : d ≠ fd := fun z => by rw [z, hf9] at f10; cases f10
      refine ⟨_, rfl, _, rfl, fd, _, rfl, DPut.k (k := Sum.inr s0) (s10 _ _ hf9) (sz9 (by omega)), ?_⟩
      refine ⟨_, _, _, putK es (Sum.inr s0) (.ref d), rfl, (e9.trans (.of s10)).trans Ext.upd, upd_same, Nat.le_trans (length_putK _ _ _) (Nat.succ_le_succ el9), fun s hs' => ?_⟩
      rw [take_snoc hs, List.map_append] at hs'
      rw [valV_put]
      by_cases z : s = s0
      · subst z
        exact ⟨d, if_pos rfl, by rw [ef]; exact g10.ext Ext.upd dfd, dfd⟩
      · rw [if_neg (fun t => z (Sum.inr.inj t))]
        obtain ⟨e, b1, b2, b3⟩ := hE s ((List.mem_append.mp hs').resolve_right (fun t => z (by simpa using t)))
        exact ⟨e, b1, (b2.same s10).ext Ext.upd b3, b3⟩
    · subst eσ
      rw [take_len] at hE
      have s9 : Same H H9 := fun b o h => e9 _ _ (s2 _ _ h) (ne_of_none h nfd)
      have hFa : FarO H9 fd D.S D.C.P D.far (fun _ => True) := ⟨es, hf9, fun s hs => by
        obtain ⟨e, b1, b2, b3⟩ := hE s hs
        exact ⟨e, b1, b2, trivial⟩⟩
      refine ⟨_, rfl, c, D.C, rfl, hC.tk (tk_same s9), ho.c, fun l as Os H10 s10 hl ls hOk hne hOl => ⟨l, rfl, ⟨_, SqL.of hl⟩, fun n1 f1 => ?_⟩⟩
      have hal := Paired.length ls
      refine L2.lc_list (xs := as.map V.ref) (fun i H4 => LI H10 H4 n1 (((Os.take i).map D.costO).map V.int)) (LI.nil f1) (fun i H4 _ I => SqL.of (I.same _ _ hl)) (fun i v H4 hv I => ?_) (fun H4 I => ?_)
      · rw [List.getElem?_map] at hv
        cases ea : as[i]? with
        | none => rw [ea] at hv; cases hv
        | some a =>
          rw [ea] at hv
          cases hv
          obtain ⟨O, hO, hOa, hOn⟩ := Paired.getL ls ea
          refine ⟨rfl, ?_⟩
          refine iteT (B := LI H10 H4 n1 (((Os.take (i + 1)).map D.costO).map V.int)) ?_
          have sA := (s9.trans s10).trans I.same
          refine ⟨_, rfl, _, rfl, _, rfl, c, fd, a, D, O, rfl, hC.tk (tk_same sA), ho, hFa.same (s10.trans I.same), I.same _ _ hOa, hOk O (List.mem_of_getElem? hO), fun H5 s5 => ⟨_, s5 _ _ I.at_, sz9 (by rw [List.length_map, List.length_map, List.length_take]; omega), ?_⟩⟩
          rw [take_snoc hO, List.map_append, List.map_append]
          exact (I.grow s5).put
      · rw [List.length_map, hal, take_len] at I
        refine ⟨n1, _, rfl, SqL.of I.at_, ?_, fun m hm _ => ?_⟩
        · rw [List.length_map]
          exact List.length_pos_iff.mpr hne
        · obtain ⟨O, hO, rfl⟩ := List.mem_map.mp hm
          exact q O H4 ((s9.trans s10).trans I.same) (hOk O hO)
end
end OH

namespace OH
open PySem PySem.Spec PyProof.Rows L2
abbrev Key3 := Str × Str × Nat
def set3 (num : Str → Str → Nat → Option Int) (e : Key3) (v : Option Int) : Str → Str → Nat → Option Int := fun p s m => if (p, s, m) = e then v else num p s m
theorem set3_at (num : Str → Str → Nat → Option Int) (e : Key3) (v : Option Int) : set3 num e v e.1 e.2.1 e.2.2 = v := if_pos rfl
theorem set3_ne {num : Str → Str → Nat → Option Int} {e : Key3} {v : Option Int} {p s : Str} {m : Nat} (h : (p, s, m) ≠ e) : set3 num e v p s m = num p s m := if_neg h
theorem putK_keys {α : Type} [DecidableEq α] {kvs : List (α × V)} {k : α} {v : V} (hn : (kvs.map (·.1)).Nodup) : ((putK kvs k v).map (·.1)).Nodup ∧ ∀ j ∈ (putK kvs k v).map (·.1), j ∈ kvs.map (·.1) ∨ j = k := by
  cases e : valV kvs k with
  | none =>
    refine ⟨nd_putK v hn e, fun j hj => ?_⟩
    rw [putK_new v e, List.map_append] at hj
    rcases List.mem_append.mp hj with h | h
    · exact .inl h
    · exact .inr (by simpa using h)
  | some x =>
    have hk : (putK kvs k v).map (·.1) = kvs.map (·.1) := by
      unfold putK
      rw [if_pos (by rw [valV_any, e]; rfl), List.map_map]
      refine List.map_congr_left fun kv _ => ?_
      show (if kv.1 = k then (kv.1, v) else kv).1 = kv.1
      split <;> rfl
    rw [hk]
    exact ⟨hn, fun j hj => .inl hj⟩
/-- a table that is written floor by floor; dn: what stands -/
structure Fd (D : Dt) (kvs : List (List Key × V)) (num : Str → Str → Nat → Option Int) (dn : Key3 → Prop) : Prop where
  get : ∀ e, dn e → valV kvs (keyK e) = some (oV (num e.1 e.2.1 e.2.2))
  ok : ∀ e, dn e → NN (num e.1 e.2.1 e.2.2) ∧ LeO (num e.1 e.2.1 e.2.2) (D.due num e.1 e.2.1 e.2.2)
  cl : ∀ e, dn e → e.2.2 < D.C.R ∧ ∀ c ∈ D.kids e.1, ∀ s ∈ D.S, ∀ m, m < D.C.R → dn (c, s, m)
  sm : ∀ e, dn e → e.2.1 ∈ D.S
  nd : (kvs.map (·.1)).Nodup
  sub : ∀ k ∈ kvs.map (·.1), k ∈ D.C.keysL.map keyK
theorem Fd.len {D : Dt} {kvs : List (List Key × V)} {num : Str → Str → Nat → Option Int} {dn : Key3 → Prop} (f : Fd D kvs num dn) (o : D.Ok) : kvs.length ≤ 729 := by
  have h := nodup_sub_le f.nd f.sub
  rw [List.length_map, List.length_map] at h
  exact Nat.le_trans h (keysL_len o.c)
theorem Fd.imp {D : Dt} {kvs : List (List Key × V)} {num : Str → Str → Nat → Option Int} {dn dn' : Key3 → Prop} (f : Fd D kvs num dn) (h : ∀ e, dn' e ↔ dn e) : Fd D kvs num dn' := by
  have : dn' = dn := funext fun e => propext (h e)
  rw [this]; exact f
theorem due_set {D : Dt} {num : Str → Str → Nat → Option Int} {e : Key3} {v : Option Int} {p s : Str} {m : Nat} (hs : s ∈ D.S) (hm : m < D.C.R) (h : ∀ c ∈ D.kids p, ∀ s ∈ D.S, ∀ m, m < D.C.R → (c, s, m) ≠ e) : D.due (set3 num e v) p s m = D.due num p s m := by
  refine due_congr (fun c hc k hk => set3_ne (h c hc s hs k (by omega))) (fun c hc sc hsc k hk => set3_ne (h c hc sc.1 (List.mem_map.mpr ⟨sc, hsc, rfl⟩) k (by omega)))
theorem Fd.add {D : Dt} {kvs : List (List Key × V)} {num : Str → Str → Nat → Option Int} {dn dn' : Key3 → Prop} {e : Key3} {v : Option Int} (f : Fd D kvs num dn) (hne : ¬ dn e) (hk : e ∈ D.C.keysL) (hcl : ∀ c ∈ D.kids e.1, ∀ s ∈ D.S, ∀ m, m < D.C.R → dn (c, s, m)) (hle : LeO v (D.due num e.1 e.2.1 e.2.2)) (hnn : NN v) (hdn : ∀ g, dn' g ↔ dn g ∨ g = e) :
    Fd D (putK kvs (keyK e) (oV v)) (set3 num e v) dn' := by
  obtain ⟨m1, m2, m3⟩ := mem_keysL.mp hk
  have old : ∀ g, dn g → (g.1, g.2.1, g.2.2) ≠ e := fun g hg z => hne (by rw [← z]; exact hg)
  have he : D.due (set3 num e v) e.1 e.2.1 e.2.2 = D.due num e.1 e.2.1 e.2.2 := due_set m2 m3 fun c hc s hs m hm => old _ (hcl c hc s hs m hm)
  obtain ⟨k1, k2⟩ := putK_keys (k := keyK e) (v := oV v) f.nd
  refine ⟨fun g hg => ?_, fun g hg => ?_, fun g hg => ?_, fun g hg => ?_, k1, fun k hk' => ?_⟩
  · rw [valV_put]
    rcases (hdn g).mp hg with h | h
    · rw [if_neg (fun z => old g h (keyK_inj z)), set3_ne (old g h)]
      exact f.get g h
    · subst h
      rw [if_pos rfl, set3_at]
  · rcases (hdn g).mp hg with h | h
    · rw [set3_ne (old g h), due_set (f.sm g h) (f.cl g h).1 fun c hc s hs m hm => old _ ((f.cl g h).2 c hc s hs m hm)]
      exact f.ok g h
    · subst h
      rw [set3_at, he]
      exact ⟨hnn, hle⟩
  · rcases (hdn g).mp hg with h | h
    · exact ⟨(f.cl g h).1, fun c hc s hs m hm => (hdn _).mpr (.inl ((f.cl g h).2 c hc s hs m hm))⟩
    · subst h
      exact ⟨m3, fun c hc s hs m hm => (hdn _).mpr (.inl (hcl c hc s hs m hm))⟩
  · rcases (hdn g).mp hg with h | h
    · exact f.sm g h
    · subst h; exact m2
  · rcases k2 k hk' with h | h
    · exact f.sub k h
    · rw [h]; exact List.mem_map.mpr ⟨e, hk, rfl⟩
theorem Fd.due_nn {D : Dt} {kvs : List (List Key × V)} {num : Str → Str → Nat → Option Int} {dn : Key3 → Prop} {p s : Str} {m : Nat} (f : Fd D kvs num dn) (o : D.Ok) (hp : p ∈ D.C.P) (hs : s ∈ D.S) (hm : m < D.C.R) (hcl : ∀ c ∈ D.kids p, ∀ s ∈ D.S, ∀ m, m < D.C.R → dn (c, s, m)) : NN (D.due num p s m) :=
  OH.due_nn (fun sc h => (o.c.sP sc h).2.1) (many_le o p).1 (o.far_le hs hp).1 (fun c hc k hk => (f.ok _ (hcl c hc s hs k (by omega))).1) (fun c hc sc hsc k hk => (f.ok _ (hcl c hc sc.1 (List.mem_map.mpr ⟨sc, hsc, rfl⟩) k (by omega))).1)
/-- a whole table -/
def Full (D : Dt) (e : Key3) : Prop := e.1 ∈ D.C.P ∧ e.2.1 ∈ D.S ∧ e.2.2 < D.C.R
def spFloor (K : PySem.W.Frag) : Sp := fun vs H Q _ => ∃ (st x : Addr) (ns : List Int) (c sh : Addr) (D : Dt), vs = [.ref st, .ref c, .ref sh] ∧ StAt K H st x ns ∧ CaseAt H c D.C ∧ D.Ok ∧ ShAt H sh D (fun a => a ≠ st) ∧ ∀ (num : Str → Str → Nat → Option Int) (kvs : List (List Key × V)) (nd : Addr) H', Ext st H H' → StAt K H' st x ns → H nd = none → H' nd = some (.dT kvs) → Fd D kvs num (Full D) → Q (.ref nd) H'
theorem ip_alike (x y : Int × Str) : PySem.W.alike (ipD x) (ipD y) = true := by
  simp [ipD, PySem.W.alike, PySem.W.alikeAll]
theorem ip_depth (x : Int × Str) : (ipD x).depth ≤ 50 := by
  simp [ipD, PyData.depth, PyData.depthAll]
theorem ipDp {K : PySem.W.Frag} {H : Hp} {a : Addr} {e : Int × Str} (h : H a = some (.tup (ipV e))) : Dp K H (.ref a) (ipD e) := .tup (SqT.of h) (.cons (.int _) (.cons (.str _) .nil))
theorem StD.ne_dT {H : Hp} {st x p : Addr} {ks : List (List Key × V)} (d : StD H st x) (hp : H p = some (.dT ks)) : st ≠ p := by
  obtain ⟨kvs, k, l, h1, h2⟩ := d.ex
  exact ne_kind h1 hp (fun z => by cases z)
theorem Ext2.ext1 {x y : Addr} {H H1 H2 : Hp} (a : Ext2 x y H H1) (b : Ext x H1 H2) : Ext2 x y H H2 := fun c o h n m => b c o (a c o h n m) n
theorem Ext2.to {x y : Addr} {H0 H H1 : Hp} (e : Ext x H0 H) (hy : H0 y = none) (a : Ext2 x y H H1) : Ext x H0 H1 := fun b o h n => a b o (e b o h n) n (ne_of_none h hy)
theorem for_ipsL {K : PySem.W.Frag} {a : Addr} {as : List Addr} {tb : TS} {D : Ends} {σ : St} {H : Hp} {rows : List (Int × Str)} {i j : Nat} (Pv : Nat → St → Hp → Prop) (h0 : Pv 0 σ H) (ha : ∀ k σ H, Pv k σ H → H a = some (.lst (as.map V.ref)) ∧ Tups H as (rows.map ipV))
    (hs : ∀ k r σ H, rows[k]? = some r → Pv k σ H → tb { D with nx := Pv (k + 1), ct := Pv (k + 1), bk := D.nx } ((σ.set i (some (.int r.1))).set j (some (.str r.2))) H) (hd : ∀ σ H, Pv rows.length σ H → D.nx σ H) :
    ∃ W : Nat → Nat → St → Hp → Prop, (∃ m, W 0 m σ H) ∧ ∀ k m σ H, W k m σ H →
      ((Itl K a).stop k H ∧ D.nx σ H) ∨ ((Itl K a).go k H ∧ ∃ N : St → Hp → Prop, (∀ σ' H', N σ' H' → ∃ m', m' < m ∧ W (k + 1) m' σ' H') ∧ ∀ x H', (Itl K a).yld k H x H' → gTup K 2 (gCons (gName i) (gCons (gName j) gNil)) x σ H' fun σ2 H2 => tb { D with nx := N, ct := N, bk := D.nx } σ2 H2) := by
  refine for_list (xs := as.map V.ref) Pv h0 (fun k σ H _ p => SqL.of (ha k σ H p).1) (fun k x σ H hx p => ?_) (fun σ H p => ?_)
  · rw [List.getElem?_map] at hx
    cases e : as[k]? with
    | none => rw [e] at hx; cases hx
    | some q =>
      rw [e] at hx
      cases hx
      obtain ⟨r, h1, h2⟩ := Paired.getL (ha k σ H p).2 e
      rw [List.getElem?_map] at h1
      cases e2 : rows[k]? with
      | none => rw [e2] at h1; cases h1
      | some sc =>
        rw [e2] at h1
        cases h1
        exact ⟨q, _, rfl, SqT.of h2, rfl, _, _, rfl, _, _, rfl, rfl, hs k sc σ H e2 p⟩
  · rw [List.length_map] at p
    have e := (ha _ σ H p).2.len
    rw [e] at p
    exact hd σ H p
section
variable {P : Program} {w : World} {K : PySem.W.Frag} {mg : Str → Option Value} {base : Heap}
theorem cal_Lfloor {f : Addr} {fd : FuncData} (D : C8.Def K mg "_law_floor" s_Lfloor f fd) (b : L2.Binds K fd ["_law_state", "_law_case_here", "_law_shape_here"] []) (T : Bt mg) (c_Ldue : C8.Cal P w K mg base 4 "_law_due" spLdue []) (c_Lmores : C8.Cal P w K mg base 1 "_law_mores" spMores []) (c_Lwritten : C8.Cal P w K mg base 4 "_law_written" (spWritten K) []) : C8.Cal P w K mg base 5 "_law_floor" (spFloor K) [] := by
  refine C8.cal0 D b .nil sc_Lfloor (fun vs H Q E h => ?_) (fun cdv A outer s H vs Q E hr h => ?_)
  · obtain ⟨st, x, ns, c, sh, D, rfl, _⟩ := h
    rfl
  · obtain ⟨st, x, ns, c, sh, D, rfl, ht, hC, ho, hSh, q⟩ := h
    have hu := hu_of hr
    have hu64 := hr.units
    refine ⟨_, (pss_cons (ps_asg (pv 2 rfl (.inl v_Lfloor_2)) (pg_tup rfl (pgs_cons (pg_name (i := 3) sc_Lfloor.nd rfl (.inl v_Lfloor_3)) (pgs_cons (pg_name (i := 4) sc_Lfloor.nd rfl (.inr v_Lfloor_4)) (pgs_cons (pg_name (i := 5) sc_Lfloor.nd rfl (.inl v_Lfloor_5)) pgs_nil)))))
      (pss_cons (ps_set (i := 6) sc_Lfloor.nd rfl (.inl v_Lfloor_6) pe_dnewT)
      (pss_cons (ps_for PassesOwn.never rfl (pi_list (pe_callB (cr_sortedD hu64) g_Lfloor_sorted T.sorted_ (by decide +kernel) (pa_cons (pe_lc (own := [("_law_place", 8)]) rfl sc_Lfloor.nd (pi_tup (pe_ix ix_tup (pe_ix ix_tup (pv 1 rfl (.inl v_Lfloor_1)) pe_int (fun _ _ => rfl)) pe_int (fun _ _ => rfl))) (blkOk_by (own := [("_law_place", 8)]) (N := N_Lfloor) (sc := sc s_Lfloor) (by decide +kernel)) (fun _ _ _ _ _ => (pg_name (i := 8) sc_Lfloor.nd rfl (.inl rfl) (.inr rfl))) (fun _ _ _ _ _ => pts_nil) (fun _ _ _ _ _ => (pe_tup (pa_cons (pe_callB (call_lenK (K := K) rfl) (by rfl) T.len_ (by decide +kernel) (pa_cons (pe_dget hu (pv 4) (pv 8) (fun _ _ => rfl)) pa_nil)) (pa_cons (pv 8) pa_nil))))) pa_nil))) (pg_tup rfl (pgs_cons (pg_name (i := 7) sc_Lfloor.nd rfl (.inl v_Lfloor_7)) (pgs_cons (pg_name (i := 8) sc_Lfloor.nd rfl (.inl v_Lfloor_8)) pgs_nil)))
        (pss_one (ps_for PassesOwn.never rfl (pi_tup (pe_ix ix_tup (pv 1 rfl (.inl v_Lfloor_1)) pe_int (fun _ _ => rfl))) (pg_tup rfl (pgs_cons (pg_name (i := 9) sc_Lfloor.nd rfl (.inl v_Lfloor_9)) (pgs_cons (pg_name (i := 10) sc_Lfloor.nd rfl (.inl v_Lfloor_10)) pgs_nil)))
          (pss_one (ps_for PassesOwn.never rfl (pi_range1 g_Lfloor_range T.range_ (pa_cons (C8.pe_c c_Lmores hr (by decide) g_Lfloor__law_mores (pa_cons (pv 1 rfl (.inl v_Lfloor_1)) pa_nil)) pa_nil)) (pg_name (i := 11) sc_Lfloor.nd rfl (.inl v_Lfloor_11))
            (pss_cons (ps_set (i := 12) sc_Lfloor.nd rfl (.inl v_Lfloor_12) (pe_tup (pa_cons (pv 8 rfl (.inl v_Lfloor_8)) (pa_cons (pv 9 rfl (.inl v_Lfloor_9)) (pa_cons (pv 11 rfl (.inl v_Lfloor_11)) pa_nil)))))
            (pss_one (ps_dput hu (pv 6 rfl (.inl v_Lfloor_6)) (pv 12 rfl (.inl v_Lfloor_12)) (C8.pe_c c_Lwritten hr (by decide) g_Lfloor__law_written (pa_cons (pv 0 rfl (.inl v_Lfloor_0)) (pa_cons (C8.pe_c c_Ldue hr (by decide) g_Lfloor__law_due (pa_cons (pv 1 rfl (.inl v_Lfloor_1)) (pa_cons (pv 2 rfl (.inl v_Lfloor_2)) (pa_cons (pv 6 rfl (.inl v_Lfloor_6)) (pa_cons (pv 12 rfl (.inl v_Lfloor_12)) pa_nil))))) pa_nil))) rfl))))))))
      (pss_one (ps_ret (pv 6 rfl (.inl v_Lfloor_6))))))), ?_⟩
    obtain ⟨am, asi, af, h1, hM, hS, hF⟩ := hC.ex
    obtain ⟨ap, aw, ws, m1, m2, m3, m4⟩ := hM.ex
    obtain ⟨ss, h6, h7⟩ := hS.ex
    obtain ⟨ld, ud, fd, g1, hL, hU, hFa, _⟩ := hSh.ex
    have hR := ho.c.R1
    have hfew := ho.c.few
    obtain ⟨kst, _, _, hst0, _⟩ := ht.d.ex
    refine ⟨_, rfl, sh, _, rfl, SqT.of g1, rfl, _, _, rfl, _, _, rfl, _, _, rfl, rfl, ?_⟩
    intro nd nnd
    have s1 := same_new (o := .dT []) nnd
    have hnd : upd H nd (.dT []) nd = some (.dT []) := upd_same
    generalize upd H nd (.dT []) = H1 at s1 hnd ⊢
    refine ⟨_, rfl, _, _, _, _, rfl, rfl, SqT.of (s1 _ _ h1), atI_nat (j := 0) rfl, _, _, _, _, rfl, rfl, SqT.of (s1 _ _ m1), atI_nat (j := 0) rfl, ap, rfl, ⟨_, SqT.of (s1 _ _ m2)⟩, fun l nl => ?_⟩
    let f : Str → Int × Str := fun p => (((D.ul p).length : Int), p)
    refine lc_strs (P := D.C.P) (fun k H2 => ListI H1 H2 l (((D.C.P.take k).map f).map ipV)) ⟨same_new nl, nl, [], upd_same, .nil⟩ (fun k H2 I => I.same _ _ (s1 _ _ m2)) (fun k p H2 hp I => ?_) (fun H2 I => ?_)
    · refine ⟨rfl, ?_⟩
      refine iteT (B := ListI H1 H2 l (((D.C.P.take (k + 1)).map f).map ipV)) ?_
      obtain ⟨us, u1, u2⟩ := ((hU.same s1).same I.same).ex
      obtain ⟨ul, u3, u4⟩ := u2 p (List.mem_of_getElem? hp)
      have gU : DGet H2 ud (kV (.inr p)) (some (.ref ul)) := u3 ▸ DGet.k (k := Sum.inr p) u1
      obtain ⟨ks, i1, i2⟩ := I.ex
      refine ⟨_, rfl, _, rfl, ud, _, rfl, gU, ul, _, rfl, .inl (SqL.of u4), _, rfl, (by show 2 ≤ sizeLine; decide), fun t ft => ?_⟩
      have hkl := i2.len
      rw [List.length_map] at hkl
      have I2 := I.add (r := [V.int (((D.ul p).map V.str).length : Int), V.str p]) i1 i2 ft
      refine ⟨_, same_new ft _ _ i1, sz9 (by rw [List.length_map, hkl, List.length_take]; omega), ?_⟩
      rw [take_snoc hp, List.map_append, List.map_append]
      have e1 : [p].map f = [(((D.ul p).length : Int), p)] := rfl
      rw [e1]
      rw [List.length_map] at I2 ⊢
      exact I2
    · rw [take_len] at I
      obtain ⟨ks, i1, i2⟩ := I.ex
      unfold tNil
      refine srt_tups (d := ipD) (f := ipV) (as := ks) (rows := D.C.P.map f) (SqL.of i1) i2 (fun b r h => ipDp h) ip_alike (fun y => ⟨_, _, rfl⟩) ip_depth fun as rows p8 hpr hord htr np8 => ?_
      have s3 := (s1.trans I.same).trans (same_new (o := .lst (as.map V.ref)) np8)
      have s13 := I.same.trans (same_new (o := .lst (as.map V.ref)) np8)
      have hp8 : upd H2 p8 (.lst (as.map V.ref)) p8 = some (.lst (as.map V.ref)) := upd_same
      have htr8 := htr.tk (tk_same (same_new (o := .lst (as.map V.ref)) np8))
      generalize upd H2 p8 (.lst (as.map V.ref)) = Hb at s3 s13 hp8 htr8 ⊢
      have hndb := s13 _ _ hnd
      have hstb := s3 _ _ hst0
      have tb := ht.same s3
      have kb : ∀ {b : Addr} {o : HO}, Hb b = some o → (∀ ks, o ≠ .dK ks) → (∀ ks, o ≠ .dT ks) → b ≠ st ∧ b ≠ nd := fun h n m => ⟨ne_kind h hstb (n _), ne_kind h hndb (m _)⟩
      have hrow : ∀ (i : Nat) (r : Int × Str), rows[i]? = some r → r.2 ∈ D.C.P ∧ r.1 = ((D.ul r.2).length : Int) := fun i r hr => by
        obtain ⟨p, hp, rfl⟩ := List.mem_map.mp (hpr.mem_iff.mp (List.mem_of_getElem? hr))
        exact ⟨hp, rfl⟩
      have hnd2 : (rows.map (·.2)).Nodup := by
        have h := hpr.map (·.2)
        have e : (D.C.P.map f).map (·.2) = D.C.P := by rw [List.map_map]; exact List.map_id' _
        rw [e] at h
        exact h.nodup_iff.mpr ho.ro.tree.nodup
      -- children come first
      have kids_first : ∀ (i : Nat) (r : Int × Str), rows[i]? = some r → ∀ c ∈ D.kids r.2, c ∈ (rows.take i).map (·.2) := fun i r hr c hc => by
        obtain ⟨c1, c2, c3⟩ := mem_kids.mp hc
        have hcm : f c ∈ rows := hpr.mem_iff.mpr (List.mem_map.mpr ⟨c, c1, rfl⟩)
        obtain ⟨j, hj⟩ := List.mem_iff_getElem?.mp hcm
        have hlt := ho.ro.rt.Ul_lt c1 c2
        rw [c3] at hlt
        have hlt : (D.ul c).length < (D.ul r.2).length := hlt
        have hr1 := (hrow i r hr).2
        have hji : j < i := by
          apply Decidable.byContradiction
          intro hn
          have hil := (List.getElem?_eq_some_iff.mp hr).1
          have hjl := (List.getElem?_eq_some_iff.mp hj).1
          have hle : r.1 ≤ (f c).1 := by
            by_cases e : i = j
            · subst e
              rw [hr] at hj
              rw [Option.some.inj hj]
              exact Int.le_refl _
            · have := (List.pairwise_iff_getElem.mp hord) i j hil hjl (by omega)
              rw [(List.getElem?_eq_some_iff.mp hr).2, (List.getElem?_eq_some_iff.mp hj).2] at this
              exact ip_le this
          have : ((D.ul r.2).length : Int) ≤ ((D.ul c).length : Int) := by rw [← hr1]; exact hle
          omega
        exact List.mem_map.mpr ⟨f c, List.mem_iff_getElem?.mpr ⟨j, by rw [List.getElem?_take_of_lt hji]; exact hj⟩, rfl⟩
      refine ⟨_, rfl, ⟨_, SqL.of hp8⟩, ?_⟩
      let b0 : Nat → Key3 → Prop := fun i e => e.1 ∈ (rows.take i).map (·.2) ∧ e.2.1 ∈ D.S ∧ e.2.2 < D.C.R
      refine for_ipsL (rows := rows) (as := as) (fun i σ H3 => ∃ (y7 y8 y9 y10 y11 y12 : Option V) (kvs : List (List Key × V)) (num : Str → Str → Nat → Option Int), σ = [some (.ref st), some (.ref c), some (.ref sh), some (.ref ld), some (.ref ud), some (.ref fd), some (.ref nd), y7, y8, y9, y10, y11, y12] ∧ Ext2 st nd Hb H3 ∧ StD H3 st x ∧ H3 nd = some (.dT kvs) ∧ Fd D kvs num (b0 i))
        ⟨_, _, _, _, _, _, [], fun _ _ _ => none, rfl, .refl _ _ _, tb.d, hndb, ⟨fun e he => by obtain ⟨h, _⟩ := he; simp at h, fun e he => by obtain ⟨h, _⟩ := he; simp at h, fun e he => by obtain ⟨h, _⟩ := he; simp at h, fun e he => by obtain ⟨h, _⟩ := he; simp at h, by simp, fun k hk => by simp at hk⟩⟩
        (fun i σ H3 ⟨_, _, _, _, _, _, _, _, _, e3, _⟩ => ?_) (fun i r σ H3 hr ⟨y7, y8, y9, y10, y11, y12, kvs, num, eσ, e3, d3, n3, F3⟩ => ?_) (fun σ H3 ⟨y7, y8, y9, y10, y11, y12, kvs, num, eσ, e3, d3, n3, F3⟩ => ?_)
      · have := kb hp8 (fun _ z => by cases z) (fun _ z => by cases z)
        refine ⟨e3 _ _ hp8 this.1 this.2, htr8.tk fun b xs h => ?_⟩
        have := kb h (fun _ z => by cases z) (fun _ z => by cases z)
        exact e3 _ _ h this.1 this.2
      · subst eσ
        obtain ⟨sz, p⟩ := r
        have hpP := (hrow i _ hr).1
        have hkf := kids_first i _ hr
        have e3' : Ext st H H3 := Ext2.to (.of s3) nnd e3
        have hpn : p ∉ (rows.take i).map (·.2) := fun hm => by
          rw [List.map_take] at hm
          obtain ⟨j, hj⟩ := List.mem_iff_getElem?.mp hm
          have hjl := (List.getElem?_eq_some_iff.mp hj).1
          rw [List.length_take] at hjl
          rw [List.getElem?_take_of_lt (by omega)] at hj
          have := nd_ix' hnd2 hj (show (rows.map (·.2))[i]? = some p by rw [List.getElem?_map, hr]; rfl)
          omega
        refine ⟨_, rfl, _, _, _, _, rfl, rfl, SqT.of (keep_tup ht.d e3' h1), atI_nat (j := 1) rfl, asi, rfl, ⟨_, SqT.of (keep_tup ht.d e3' h6)⟩, ?_⟩
        let b1 : Nat → Key3 → Prop := fun j e => b0 i e ∨ (e.1 = p ∧ e.2.1 ∈ (D.C.sites.take j).map (·.1) ∧ e.2.2 < D.C.R)
        refine for_rows (rows := D.C.sites) (as := ss) (fun j σ H4 => ∃ (y9 y10 y11 y12 : Option V) (kvs : List (List Key × V)) (num : Str → Str → Nat → Option Int), σ = [some (.ref st), some (.ref c), some (.ref sh), some (.ref ld), some (.ref ud), some (.ref fd), some (.ref nd), some (.int sz), some (.str p), y9, y10, y11, y12] ∧ Ext2 st nd Hb H4 ∧ StD H4 st x ∧ H4 nd = some (.dT kvs) ∧ Fd D kvs num (b1 j))
          ⟨_, _, _, _, kvs, num, rfl, e3, d3, n3, F3.imp fun e => ⟨fun h => h.resolve_right (fun z => by simp at z), .inl⟩⟩
          (fun j σ H4 ⟨_, _, _, _, _, _, _, e4, _⟩ => ?_) (fun j s0 co σ H4 hs ⟨y9, y10, y11, y12, kvs, num, eσ, e4, d4, n4, F4⟩ => ?_) (fun σ H4 ⟨y9, y10, y11, y12, kvs, num, eσ, e4, d4, n4, F4⟩ => ?_)
        · have e4' : Ext st H H4 := Ext2.to (.of s3) nnd e4
          exact ⟨keep_tup ht.d e4' h6, h7.extD ht.d e4'⟩
        · subst eσ
          have hsm := List.mem_of_getElem? hs
          have hsS : s0 ∈ D.S := List.mem_map.mpr ⟨_, hsm, rfl⟩
          have hsn : s0 ∉ (D.C.sites.take j).map (·.1) := fun hm => by
            rw [List.map_take] at hm
            obtain ⟨k, hk⟩ := List.mem_iff_getElem?.mp hm
            have hkl := (List.getElem?_eq_some_iff.mp hk).1
            rw [List.length_take] at hkl
            rw [List.getElem?_take_of_lt (by omega)] at hk
            have := nd_ix' ho.c.sN hk (show (D.C.sites.map (·.1))[j]? = some s0 by rw [List.getElem?_map, hs]; rfl)
            omega
          have e4' : Ext st H H4 := Ext2.to (.of s3) nnd e4
          have hC4 : CaseAt H4 c D.C := hC.tk (tk_ext e4' hst0 nt_dK)
          refine ⟨_, rfl, c, D.C, rfl, hC4, ho.c.lim1, _, rfl, by omega, by omega, ?_⟩
          let b2 : Nat → Key3 → Prop := fun m e => b1 j e ∨ (e.1 = p ∧ e.2.1 = s0 ∧ e.2.2 < m)
          refine for_rng (n := D.C.R) (fun m σ H5 => ∃ (y11 y12 : Option V) (kvs : List (List Key × V)) (num : Str → Str → Nat → Option Int), σ = [some (.ref st), some (.ref c), some (.ref sh), some (.ref ld), some (.ref ud), some (.ref fd), some (.ref nd), some (.int sz), some (.str p), some (.str s0), some (.int co), y11, y12] ∧ Ext2 st nd Hb H5 ∧ StD H5 st x ∧ H5 nd = some (.dT kvs) ∧ Fd D kvs num (b2 m))
            ⟨_, _, kvs, num, rfl, e4, d4, n4, F4.imp fun e => ⟨fun h => h.resolve_right (fun z => by omega), .inl⟩⟩
            (fun m σ H5 hm ⟨y11, y12, kvs, num, eσ, e5, d5, n5, F5⟩ => ?_) (fun σ H5 ⟨y11, y12, kvs, num, eσ, e5, d5, n5, F5⟩ => ?_)
          · subst eσ
            refine ⟨_, rfl, _, rfl, _, rfl, (by show 3 ≤ sizeLine; decide), fun t ft => ?_⟩
            have s6 := same_new (o := .tup [V.str p, V.str s0, V.int (m : Int)]) ft
            have ht6 : upd H5 t (.tup [V.str p, V.str s0, V.int (m : Int)]) t = some (.tup (keyV (p, s0, m))) := upd_same
            have e6 : Ext2 st nd Hb (upd H5 t (.tup [V.str p, V.str s0, V.int (m : Int)])) := e5.same s6
            have d6 := d5.same s6
            have n6 := s6 _ _ n5
            generalize upd H5 t (.tup [V.str p, V.str s0, V.int (m : Int)]) = H6 at ht6 e6 d6 n6 ⊢
            have e6' : Ext st H H6 := Ext2.to (.of s3) nnd e6
            have hcl : ∀ c ∈ D.kids p, ∀ s ∈ D.S, ∀ m, m < D.C.R → b2 m (c, s, m) := fun c hc s hs m hm => .inl (.inl ⟨hkf c hc, hs, hm⟩)
            have hcl' : ∀ c ∈ D.kids p, ∀ s ∈ D.S, ∀ m', m' < D.C.R → b2 m (c, s, m') := fun c hc s hs m' hm' => .inl (.inl ⟨hkf c hc, hs, hm'⟩)
            have hN6 : NumsAt H6 nd (D.kids p) D.S D.C.R num := ⟨kvs, n6, fun c hc s hs m' hm' => F5.get _ (hcl' c hc s hs m' hm')⟩
            have hSh6 : ShAt H6 sh D (fun _ => True) := (hSh.ext e6' hst0 (fun a h => h)).imp fun _ _ => trivial
            refine ⟨_, rfl, _, rfl, _, rfl, _, rfl, _, rfl, c, sh, nd, t, D, D.kids p, num, p, s0, m, rfl, hC.tk (tk_ext e6' hst0 nt_dK), ho, hSh6, hN6, ht6, hpP, hsS, hm, fun c h => h, fun H7 s7 => ?_⟩
            refine ⟨st, x, ns, D.due num p s0 m, rfl, ht.ext (e6'.trans (.of s7)) (d6.same s7), F5.due_nn ho hpP hsS hm hcl', fun v H8 hle hnn e8 t8 => ?_⟩
            have e68 : Ext st H6 H8 := (Ext.of s7).trans e8
            have ht8 := keep_tup d6 e68 ht6
            obtain ⟨ks6, _, _, hst6, _⟩ := d6.ex
            have n8 : H8 nd = some (.dT kvs) := e68.ne hst6 n6 (fun z => by cases z)
            have hk3 : (p, s0, m) ∈ D.C.keysL := mem_keysL.mpr ⟨hpP, hsS, hm⟩
            have hne : ¬ b2 m (p, s0, m) := fun h => by
              rcases h with (h | h) | h
              · exact hpn h.1
              · exact hsn h.2.1
              · exact Nat.lt_irrefl _ h.2.2
            have F8 := F5.add (e := (p, s0, m)) (v := v) (dn' := b2 (m + 1)) hne hk3 hcl' hle hnn fun g => by
              constructor
              · rintro (h | ⟨h1, h2, h3⟩)
                · exact .inl (.inl h)
                · by_cases z : g.2.2 = m
                  · refine .inr ?_
                    obtain ⟨a, b, c⟩ := g
                    dsimp only at h1 h2 z
                    rw [h1, h2, z]
                  · exact .inl (.inr ⟨h1, h2, by omega⟩)
              · rintro ((h | ⟨h1, h2, h3⟩) | rfl)
                · exact .inl h
                · exact .inr ⟨h1, h2, by omega⟩
                · exact .inr ⟨rfl, rfl, Nat.lt_succ_self _⟩
            have hkl := F5.len ho
            refine ⟨_, rfl, _, rfl, nd, _, rfl, DPut.t (k := keyK (p, s0, m)) n8 ht8 (sz9 (by omega)), ?_⟩
            have ndst : st ≠ nd := (t8.d.ne_dT n8)
            exact ⟨_, _, _, _, rfl, (e6.ext1 e68).put2, t8.d.ext Ext.upd ndst, upd_same, F8⟩
          · subst eσ
            refine ⟨_, _, _, _, kvs, num, rfl, e5, d5, n5, F5.imp fun e => ?_⟩
            constructor
            · rintro (h | ⟨h1, h2, h3⟩)
              · exact .inl (.inl h)
              · rw [take_snoc hs, List.map_append] at h2
                rcases List.mem_append.mp h2 with h2 | h2
                · exact .inl (.inr ⟨h1, h2, h3⟩)
                · exact .inr ⟨h1, by simpa using h2, h3⟩
            · rintro ((h | ⟨h1, h2, h3⟩) | ⟨h1, h2, h3⟩)
              · exact .inl h
              · exact .inr ⟨h1, by rw [take_snoc hs, List.map_append]; exact List.mem_append_left _ h2, h3⟩
              · exact .inr ⟨h1, by rw [take_snoc hs, List.map_append, h2]; exact List.mem_append_right _ (by simp), h3⟩
        · subst eσ
          refine ⟨_, _, _, _, _, _, kvs, num, rfl, e4, d4, n4, F4.imp fun e => ?_⟩
          constructor
          · rintro ⟨h1, h2, h3⟩
            rw [take_snoc hr, List.map_append] at h1
            rcases List.mem_append.mp h1 with h1 | h1
            · exact .inl ⟨h1, h2, h3⟩
            · exact .inr ⟨by simpa using h1, by rw [take_len]; exact h2, h3⟩
          · rintro (⟨h1, h2, h3⟩ | ⟨h1, h2, h3⟩)
            · exact ⟨by rw [take_snoc hr, List.map_append]; exact List.mem_append_left _ h1, h2, h3⟩
            · rw [take_len] at h2
              exact ⟨by rw [take_snoc hr, List.map_append, h1]; exact List.mem_append_right _ (by simp), h2, h3⟩
      · subst eσ
        have e3' : Ext st H H3 := Ext2.to (.of s3) nnd e3
        refine ⟨_, rfl, q num kvs nd H3 e3' (ht.ext e3' d3) nnd n3 (F3.imp fun e => ?_)⟩
        show Full D e ↔ b0 rows.length e
        have hmem : e.1 ∈ (rows.take rows.length).map (·.2) ↔ e.1 ∈ D.C.P := by
          rw [take_len]
          have h := hpr.map (·.2)
          have e : (D.C.P.map f).map (·.2) = D.C.P := by rw [List.map_map]; exact List.map_id' _
          rw [e] at h
          exact h.mem_iff
        exact ⟨fun ⟨a, b, c⟩ => ⟨hmem.mpr a, b, c⟩, fun ⟨a, b, c⟩ => ⟨hmem.mp a, b, c⟩⟩
end
end OH

namespace OH
open PySem PySem.Spec PyProof.Rows L2
/-- far, from every place -/
def Dt.All (D : Dt) : Prop := ∀ s ∈ D.C.P, ∃ par dep len, RT D.C.P D.C.W s par dep len ∧ D.far s = dist par dep len
theorem Dt.exists (C : Cse) (o : C.Ok) : ∃ D : Dt, D.C = C ∧ D.Ok ∧ D.All := by
  have hlen := o.tree.len
  obtain ⟨r, tl, hP⟩ : ∃ r tl, C.P = r :: tl := by
    cases h : C.P with
    | nil => rw [h] at hlen; simp at hlen
    | cons r tl => exact ⟨r, tl, rfl⟩
  have hr : r ∈ C.P := by rw [hP]; exact List.mem_cons_self
  obtain ⟨par, dep, len, t⟩ := o.tree.rt r hr
  have ex : ∀ s : Str, ∃ g : Str → Int, s ∈ C.P → ∃ par dep len, RT C.P C.W s par dep len ∧ g = dist par dep len := fun s => by
    by_cases h : s ∈ C.P
    · obtain ⟨par, dep, len, t⟩ := o.tree.rt s h
      exact ⟨_, fun _ => ⟨par, dep, len, t, rfl⟩⟩
    · exact ⟨fun _ => 0, fun z => absurd z h⟩
  have far : ∃ far : Str → Str → Int, ∀ s, s ∈ C.P → ∃ par dep len, RT C.P C.W s par dep len ∧ far s = dist par dep len := ⟨fun s => Classical.choose (ex s), fun s => Classical.choose_spec (ex s)⟩
  obtain ⟨far, hf⟩ := far
  refine ⟨⟨C, r, par, dep, len, far⟩, rfl, ⟨o, ⟨⟨tl, hP⟩, o.tree, t, Nat.le_trans o.few (by decide), o.nm⟩, fun s hs => ?_⟩, hf⟩
  obtain ⟨e, he, rfl⟩ := List.mem_map.mp hs
  exact hf _ (o.sP e he).1
theorem Dt.farOk {D : Dt} (o : D.Ok) (a : D.All) : FarOk D.C.P D.r D.par D.dep D.len D.far := by
  refine ⟨fun s hs => ?_, fun s hs x hx hne => ?_, fun s hs c hc hcr => ?_⟩
  · obtain ⟨par, dep, len, t, e⟩ := a s hs
    rw [e, t.dist_root]
  · obtain ⟨par, dep, len, t, e⟩ := a s hs
    rw [e]
    exact (t.dist_bound _ x hx rfl).2.2 hne
  · obtain ⟨par, dep, len, t, e⟩ := a s hs
    rw [e]
    exact o.ro.rt.step t hc hcr
theorem Dt.boundO {D : Dt} (o : D.Ok) (a : D.All) {num : Str → Str → Nat → Option Int} {O : List Str} (hO : OpOk D.C O) (hj : ∀ p ∈ D.C.P, ∀ sc ∈ D.C.sites, ∀ m, m < D.C.R → LeO (num p sc.1 m) (D.due num p sc.1 m)) : LeO (lowest D.C.sites D.und num D.r D.C.R) (some (D.costO O)) := by
  have hS : ∀ t ∈ O, t ∈ D.S := fun t ht => hO.sub.subset ht
  refine bound (costOf := manyOf D.C.sites) o.ro.rt (D.farOk o a) o.ro.tree.nodup (fun t ht => ?_) (o.c.sN.sublist hO.sub) hO.few hO.ne (fun t ht => ?_) o.c.fN (fun pm h => (o.c.fP pm h).1) hj
  · obtain ⟨e, he, rfl⟩ := List.mem_map.mp (hS t ht)
    exact (o.c.sP e he).1
  · obtain ⟨e, he, rfl⟩ := List.mem_map.mp (hS t ht)
    unfold manyOf
    rw [lookup_mem (m := e.2) o.c.sN he]
    exact he
theorem op_one {C : Cse} (o : C.Ok) : ∃ O, OpOk C O := by
  have h1 := o.s1.1
  obtain ⟨n0, hn0⟩ : ∃ n0, (C.sites.map (·.1))[0]? = some n0 := ⟨_, List.getElem?_eq_getElem (by rw [List.length_map]; omega)⟩
  exact ⟨[n0], ⟨List.cons_ne_nil _ _, List.singleton_sublist.mpr (List.mem_of_getElem? hn0), o.R1.1⟩⟩
theorem leO_some' {a : Option Int} {y : Int} (h : LeO a (some y)) : ∃ x, a = some x ∧ x ≤ y := by
  cases a with
  | none => cases h
  | some x => exact ⟨x, rfl, leO_some.mp h⟩
theorem TabAt.add {H : Hp} {l t k : Addr} {keys : List Key3} {e : Key3} {num : Str → Str → Nat → Option Int} {as : List Addr} {zs : List (Addr × Key3)} (h1 : zs.map (·.2) = keys) (h2 : H l = some (.lst (as.map V.ref))) (h3 : Tups H as (zs.map fun z => [V.ref z.1, oV (num z.2.1 z.2.2.1 z.2.2.2)])) (h4 : ∀ z ∈ zs, H z.1 = some (.tup (keyV z.2)))
    (hk : H k = some (.tup (keyV e))) (ht : H t = some (.tup [V.ref k, oV (num e.1 e.2.1 e.2.2)])) : TabAt (upd H l (.lst (as.map V.ref ++ [V.ref t]))) l (keys ++ [e]) num := by
  have tk : Tk H (upd H l (.lst (as.map V.ref ++ [V.ref t]))) := tk_ext (x := l) Ext.upd h2 nt_lst
  refine ⟨as ++ [t], zs ++ [(k, e)], by rw [List.map_append, h1]; rfl, by rw [upd_same, List.map_append]; rfl, ?_, fun z hz => ?_⟩
  · rw [List.map_append]
    exact (h3.tk tk).snoc (tk _ _ ht)
  · rcases List.mem_append.mp hz with hz | hz
    · exact tk _ _ (h4 z hz)
    · rw [List.mem_singleton.mp hz]; exact tk _ _ hk
def spBounds : Sp := fun vs H Q _ => ∃ (c sh nd : Addr) (D : Dt) (num : Str → Str → Nat → Option Int), vs = [.ref c, .ref sh, .ref nd] ∧ CaseAt H c D.C ∧ D.Ok ∧ D.All ∧ ShAt H sh D (fun _ => True) ∧ NumsAt H nd D.C.P D.S D.C.R num ∧ (∀ p ∈ D.C.P, ∀ sc ∈ D.C.sites, ∀ m, m < D.C.R → LeO (num p sc.1 m) (D.due num p sc.1 m)) ∧ ∀ H', Same H H' → Q (.bl true) H'
section
variable {P : Program} {w : World} {K : PySem.W.Frag} {mg : Str → Option Value} {base : Heap}
theorem cal_Lbounds {f : Addr} {fd : FuncData} (D : C8.Def K mg "_law_bounds" s_Lbounds f fd) (b : L2.Binds K fd ["_law_case_here", "_law_shape_here", "_law_numbers"] []) (T : Bt mg) (c_Lbegun : C8.Cal P w K mg base 2 "_law_begun" spLbegun []) (c_Lkeys : C8.Cal P w K mg base 2 "_law_keys" spKeys []) (c_Lleast : C8.Cal P w K mg base 3 "_law_least" spLeast []) (c_Lless : C8.Cal P w K mg base 1 "_law_less" spLess []) (c_Lmores : C8.Cal P w K mg base 1 "_law_mores" spMores []) (c_low_of : C8.Cal P w K mg base 6 "low_of" spLow []) : C8.Cal P w K mg base 7 "_law_bounds" spBounds [] := by
  refine C8.cal0 D b .nil sc_Lbounds (fun vs H Q E h => ?_) (fun cdv A outer s H vs Q E hr h => ?_)
  · obtain ⟨c, sh, nd, D, num, rfl, _⟩ := h
    rfl
  · obtain ⟨c, sh, nd, D, num, rfl, hC, ho, hA, hSh, hN, hj, q⟩ := h
    have hu := hu_of hr
    have hu64 := hr.units
    refine ⟨_, (pss_cons (ps_setLc (i := 3) (own := [("_law_key", 7)]) rfl sc_Lbounds.nd rfl v_Lbounds_3 (sw_true rfl v_Lbounds_3 rfl (by decide +kernel)) (pi_list (C8.pe_c c_Lkeys hr (by decide) g_Lbounds__law_keys (pa_cons (pv 0 rfl (.inl v_Lbounds_0)) pa_nil))) (blkOk_by (own := [("_law_key", 7)]) (N := N_Lbounds) (sc := sc s_Lbounds) (by decide +kernel)) (fun _ _ _ _ _ => (pg_name (i := 7) sc_Lbounds.nd rfl (.inl rfl) (.inr rfl))) (fun _ _ _ _ _ => pts_nil) (fun _ _ _ _ _ => (pe_tup (pa_cons (pv 7) (pa_cons (pe_dget hu (pv 2) (pv 7) (fun _ _ => rfl)) pa_nil)))))
      (pss_cons (ps_set (i := 4) sc_Lbounds.nd rfl (.inl v_Lbounds_4) pe_non)
      (pss_cons (ps_for PassesOwn.never rfl (pi_range2 g_Lbounds_range T.range_ (pa_cons pe_int (pa_cons (pe_op op_add (C8.pe_c c_Lmores hr (by decide) g_Lbounds__law_mores (pa_cons (pv 0 rfl (.inl v_Lbounds_0)) pa_nil)) pe_int) pa_nil))) (pg_name (i := 5) sc_Lbounds.nd rfl (.inl v_Lbounds_5))
        (pss_one (ps_set (i := 4) sc_Lbounds.nd rfl (.inl v_Lbounds_4) (C8.pe_c c_Lless hr (by decide) g_Lbounds__law_less (pa_cons (pv 4 rfl (.inl v_Lbounds_4)) (pa_cons (C8.pe_c c_Lbegun hr (by decide) g_Lbounds__law_begun (pa_cons (pv 0 rfl (.inl v_Lbounds_0)) (pa_cons (pe_ix ix_tup (pv 1 rfl (.inl v_Lbounds_1)) pe_int (fun _ _ => rfl)) (pa_cons (pv 2 rfl (.inr (.inl v_Lbounds_2))) (pa_cons (pe_ix ix_tup (pe_ix ix_tup (pe_ix ix_tup (pv 0 rfl (.inl v_Lbounds_0)) pe_int (fun _ _ => rfl)) pe_int (fun _ _ => rfl)) pe_int (fun _ _ => rfl)) (pa_cons (pv 5 rfl (.inl v_Lbounds_5)) pa_nil)))))) pa_nil))))))
      (pss_cons (ps_set (i := 6) sc_Lbounds.nd rfl (.inl v_Lbounds_6) (C8.pe_c c_low_of hr (by decide) g_Lbounds_low_of (pa_cons (pv 0 rfl (.inl v_Lbounds_0)) (pa_cons (pv 3 rfl (.inl v_Lbounds_3)) pa_nil))))
      (pss_one (ps_ret (pe_and (pe_callB call_isi g_Lbounds_isinstance T.isinstance_ (by decide +kernel) (pa_cons (pv 6 rfl (.inl v_Lbounds_6)) (pa_cons (pe_bltn (v := .ty "int") (u := .type "int") g_Lbounds_int T.int_ (by decide +kernel) rfl) pa_nil))) (pe_and (pe_not (pe_callB call_isi g_Lbounds_isinstance T.isinstance_ (by decide +kernel) (pa_cons (pv 6 rfl (.inl v_Lbounds_6)) (pa_cons (pe_bltn (v := .ty "bool") (u := .type "bool") g_Lbounds_bool T.bool_ (by decide +kernel) rfl) pa_nil)))) (pe_and (pe_cmpR op_eq (pv 6 rfl (.inl v_Lbounds_6)) (pv 4 rfl (.inl v_Lbounds_4)) (nomark _)) (pe_one (pe_cmpR op_le (pv 6 rfl (.inl v_Lbounds_6)) (C8.pe_c c_Lleast hr (by decide) g_Lbounds__law_least (pa_cons (pv 0 rfl (.inl v_Lbounds_0)) pa_nil)) (nomark _)))))))))))), ?_⟩
    have hR := ho.c.R1
    have hkl := keysL_len ho.c
    obtain ⟨am, asi, af, h1, hM, hS, hF⟩ := hC.ex
    obtain ⟨ap, aw, ws, m1, m2, m3, m4⟩ := hM.ex
    obtain ⟨ld, ud, fd, g1, hL, hU, hFa, _⟩ := hSh.ex
    obtain ⟨tl, hP⟩ := ho.ro.hd
    have eP : (D.C.P.map V.str)[0]? = some (V.str D.r) := by rw [hP]; rfl
    refine ⟨_, rfl, c, D.C, rfl, hC, ho.c.lim1, by omega, by omega, fun kl ks H1 s1 f1 k1 k2 => ⟨kl, rfl, ⟨_, SqL.of k1⟩, fun l nl => ?_⟩⟩
    refine lc_refsL (rows := D.C.keysL) (f := keyV) (as := ks) (fun i H2 => Same H1 H2 ∧ TabAt H2 l (D.C.keysL.take i) num)
      ⟨same_new nl, ⟨[], [], rfl, upd_same, .nil, fun z hz => by cases hz⟩⟩ (fun i H2 ⟨s2, _⟩ => ⟨s2 _ _ k1, k2.tk (tk_same s2)⟩) (fun i q1 e H2 hq he hqe ⟨s2, T2⟩ => ?_) (fun H2 ⟨s2, T2⟩ => ?_)
    · refine ⟨rfl, ?_⟩
      refine iteT (B := Same H1 H2 ∧ TabAt H2 l (D.C.keysL.take (i + 1)) num) ?_
      obtain ⟨a1, a2, a3⟩ := mem_keysL.mp (List.mem_of_getElem? he)
      obtain ⟨as, zs, t1, t2, t3, t4⟩ := T2.ex
      have gN : DGet H2 nd (.ref q1) (some (oV (num e.1 e.2.1 e.2.2))) := (hN.same (s1.trans s2)).get a1 a2 a3 hqe
      refine ⟨_, rfl, _, rfl, _, rfl, nd, _, rfl, gN, (by show 2 ≤ sizeLine; decide), fun t ft => ?_⟩
      have s3 := same_new (o := .tup [V.ref q1, oV (num e.1 e.2.1 e.2.2)]) ft
      have lt : as.length = i := by rw [t3.len, ← List.length_map (f := (·.2)), t1, List.length_take, Nat.min_eq_left (Nat.le_of_lt (List.getElem?_eq_some_iff.mp he).1)]
      have hil := (List.getElem?_eq_some_iff.mp he).1
      refine ⟨_, s3 _ _ t2, sz9 (by rw [List.length_map, lt]; omega), same_mut (s2.trans s3) nl, ?_⟩
      rw [take_snoc he]
      exact TabAt.add t1 (s3 _ _ t2) (t3.tk (tk_same s3)) (fun z hz => s3 _ _ (t4 z hz)) (s3 _ _ hqe) upd_same
    · rw [take_len] at T2
      have s2' := s1.trans s2
      refine ⟨_, rfl, c, D.C, rfl, hC.tk (tk_same s2'), ho.c.lim1, _, _, rfl, rfl, _, _, rfl, ⟨by omega, by omega, by omega, by omega⟩, ?_⟩
      refine for_rng2 (lo := 1) (hi := D.C.R + 1) (fun k σ H3 => ∃ (y5 y6 y7 : Option V), σ = [some (.ref c), some (.ref sh), some (.ref nd), some (.ref l), some (oV (minL (fun i => D.begun num D.r (i + 1)) k)), y5, y6, y7] ∧ Same H2 H3)
        ⟨_, _, _, rfl, .refl _⟩ (fun k σ H3 hk1 ⟨y5, y6, y7, eσ, s3⟩ => ?_) (fun σ H3 ⟨y5, y6, y7, eσ, s3⟩ => ?_)
      · subst eσ
        have s3' := s2'.trans s3
        have e1 : (1 + k) = k + 1 := Nat.add_comm _ _
        refine ⟨_, rfl, _, rfl, _, rfl, _, _, _, _, rfl, rfl, SqT.of (s3' _ _ g1), atI_nat (j := 1) rfl, _, rfl, _, rfl, _, _, _, _, rfl, rfl, SqT.of (s3' _ _ h1), atI_nat (j := 0) rfl, _, _, _, _, rfl, rfl, SqT.of (s3' _ _ m1), atI_nat (j := 0) rfl, _, _, _, _, rfl, rfl, SqT.of (s3' _ _ m2), atI_nat (j := 0) eP, _, rfl, c, ud, nd, D, D.C.P, num, D.r, 1 + k, rfl, hC.tk (tk_same s3'), ho, hU.same s3', hN.same s3', ho.ro.rt.root, ho.ro.rt.root, by omega, fun H4 s4 => ?_⟩
        rw [e1]
        exact ⟨_, _, rfl, _, _, _, rfl, s3.trans s4⟩
      · subst eσ
        have s3' := s2'.trans s3
        refine ⟨_, rfl, _, rfl, c, l, D, num, rfl, hC.tk (tk_same s3'), ho, T2.same s3, fun H4 s4 => ?_⟩
        obtain ⟨O1, hO1⟩ := op_one ho.c
        obtain ⟨lo, elo, _⟩ := leO_some' (D.boundO ho hA hO1 hj)
        rw [elo]
        have s4' := s3'.trans s4
        refine ⟨_, rfl, _, _, _, _, true, rfl, .ty "int", .base (.int lo), kit_ty (by decide +kernel), true, rfl, ?_⟩
        refine iteT ⟨_, rfl, _, _, _, _, false, rfl, .ty "bool", .base (.int lo), kit_ty (by decide +kernel), false, rfl, true, rfl, ?_⟩
        have eml : minL (fun i => D.begun num D.r (i + 1)) (D.C.R + 1 - 1) = some lo := elo
        rw [eml]
        refine iteT ⟨_, rfl, _, rfl, rfl, _, rfl, ?_⟩
        rw [decide_eq_true rfl]
        refine iteT ⟨_, rfl, _, rfl, c, D, rfl, hC.tk (tk_same s4'), ho, fun O H5 s5 hO => ⟨_, _, rfl, rfl, ?_⟩⟩
        have hle := D.boundO ho hA hO hj
        rw [elo] at hle
        have hle := leO_some.mp hle
        show Q (.bl (decide (lo ≤ D.costO O))) H5
        rw [decide_eq_true hle]
        exact q H5 (s4'.trans s5)
end
end OH

namespace OH
open PySem PySem.Spec PyProof.Rows L2
/-! ### the law -/
structure Nb (D : Dt) (kvs : List (List Key × V)) (num : Str → Str → Nat → Option Int) : Prop where
  k : NumK kvs D.C.P D.S D.C.R num
  nd : (kvs.map (·.1)).Nodup
  sub : ∀ k ∈ kvs.map (·.1), k ∈ D.C.keysL.map keyK
  nn : ∀ e ∈ D.C.keysL, NN (num e.1 e.2.1 e.2.2)
theorem Nb.len {D : Dt} {kvs : List (List Key × V)} {num : Str → Str → Nat → Option Int} (f : Nb D kvs num) (o : D.Ok) : kvs.length ≤ 729 := by
  have h := nodup_sub_le f.nd f.sub
  rw [List.length_map, List.length_map] at h
  exact Nat.le_trans h (keysL_len o.c)
theorem Nb.put {D : Dt} {kvs : List (List Key × V)} {num : Str → Str → Nat → Option Int} {e : Key3} {v : Option Int} (f : Nb D kvs num) (he : e ∈ D.C.keysL) (hv : NN v) : Nb D (putK kvs (keyK e) (oV v)) (set3 num e v) := by
  obtain ⟨k1, k2⟩ := putK_keys (k := keyK e) (v := oV v) f.nd
  refine ⟨fun p hp s hs m hm => ?_, k1, fun k hk => ?_, fun g hg => ?_⟩
  · rw [valV_put]
    by_cases z : (p, s, m) = e
    · rw [if_pos (by rw [z]), ← z]
      show _ = some (oV (set3 num (p, s, m) v p s m))
      rw [set3_at num (p, s, m) v]
    · rw [if_neg (fun t => z (keyK_inj t)), set3_ne z]
      exact f.k p hp s hs m hm
  · rcases k2 k hk with h | h
    · exact f.sub k h
    · rw [h]; exact List.mem_map.mpr ⟨e, he, rfl⟩
  · by_cases z : (g.1, g.2.1, g.2.2) = e
    · have : set3 num e v g.1 g.2.1 g.2.2 = v := if_pos z
      rw [this]; exact hv
    · rw [set3_ne z]; exact f.nn g hg
structure Wd (K : PySem.W.Frag) (H : Hp) (st x : Addr) (ns : List Int) (c sh kl nd : Addr) (ks : List Addr) (D : Dt) (kvs : List (List Key × V)) (num : Str → Str → Nat → Option Int) : Prop where
  t : StAt K H st x ns
  c : CaseAt H c D.C
  s : ShAt H sh D (fun a => a ≠ st)
  k1 : H kl = some (.lst (ks.map V.ref))
  k2 : Tups H ks (D.C.keysL.map keyV)
  n : H nd = some (.dT kvs)
  b : Nb D kvs num
theorem SqL.extT {K : PySem.W.Frag} {H H' : Hp} {nd a : Addr} {xs : List V} {ks : List (List Key × V)} (hn : H nd = some (.dT ks)) (e : Ext nd H H') (h : SqL K H a xs) : SqL K H' a xs := by
  rcases h with (h | ⟨o, h⟩) | h
  · exact .inl (.inl (e.ne hn h (fun z => by cases z)))
  · exact .inl (.inr ⟨o, e.ne hn h (fun z => by cases z)⟩)
  · exact .inr h
section
variable {K : PySem.W.Frag} {H H' : Hp} {st x : Addr} {ns : List Int} {c sh kl nd : Addr} {ks : List Addr} {D : Dt} {kvs : List (List Key × V)} {num : Str → Str → Nat → Option Int}
theorem Wd.same (w : Wd K H st x ns c sh kl nd ks D kvs num) (e : Same H H') : Wd K H' st x ns c sh kl nd ks D kvs num :=
  ⟨w.t.same e, w.c.tk (tk_same e), w.s.same e, e _ _ w.k1, w.k2.tk (tk_same e), e _ _ w.n, w.b⟩
theorem Wd.ext (w : Wd K H st x ns c sh kl nd ks D kvs num) (e : Ext st H H') (t : StAt K H' st x ns) : Wd K H' st x ns c sh kl nd ks D kvs num := by
  obtain ⟨kk, _, _, hst, _⟩ := w.t.d.ex
  exact ⟨t, w.c.tk (tk_ext e hst nt_dK), w.s.ext e hst (fun a h => h), keep_lst w.t.d e w.k1, w.k2.extD w.t.d e, e.ne hst w.n (fun z => by cases z), w.b⟩
theorem Wd.put {e : Key3} {v : Option Int} (w : Wd K H st x ns c sh kl nd ks D kvs num) (he : e ∈ D.C.keysL) (hv : NN v) : Wd K (upd H nd (.dT (putK kvs (keyK e) (oV v)))) st x ns c sh kl nd ks D (putK kvs (keyK e) (oV v)) (set3 num e v) := by
  have x1 : Ext nd H (upd H nd (.dT (putK kvs (keyK e) (oV v)))) := Ext.upd
  exact ⟨⟨w.t.d.ext x1 (w.t.d.ne_dT w.n), SqL.extT w.n x1 w.t.s⟩, w.c.tk (tk_ext x1 w.n nt_dT), w.s.extT x1 w.n, x1.ne w.n w.k1 (fun z => by cases z), w.k2.tk (tk_ext x1 w.n nt_dT), upd_same, w.b.put he hv⟩
theorem Wd.nums (w : Wd K H st x ns c sh kl nd ks D kvs num) : NumsAt H nd D.C.P D.S D.C.R num := ⟨kvs, w.n, w.b.k⟩
theorem Wd.sh' (w : Wd K H st x ns c sh kl nd ks D kvs num) : ShAt H sh D (fun _ => True) := w.s.imp fun _ _ => trivial
end
/-! the rows as data -/
def numD : Option Int → PyData
  | none => .none
  | some i => .int i
def rowD (num : Str → Str → Nat → Option Int) (e : Key3) : PyData := .tuple [keyD e, numD (num e.1 e.2.1 e.2.2)]
theorem numDp {K : PySem.W.Frag} {H : Hp} (a : Option Int) : Dp K H (oV a) (numD a) := by
  cases a with
  | none => exact .non
  | some i => exact .int i
theorem rowsDp {K : PySem.W.Frag} {H : Hp} {num : Str → Str → Nat → Option Int} : ∀ {as : List Addr} {zs : List (Addr × Key3)}, Tups H as (zs.map fun z => [V.ref z.1, oV (num z.2.1 z.2.2.1 z.2.2.2)]) → (∀ z ∈ zs, H z.1 = some (.tup (keyV z.2))) → DpAll K H (as.map V.ref) ((zs.map (·.2)).map (rowD num))
  | _, [], t, _ => by cases t; exact .nil
  | _, z :: zs, t, h => by
    rw [List.map_cons] at t
    cases t with
    | cons q t => exact .cons (.tup (SqT.of q) (.cons (keyDp (h z List.mem_cons_self)) (.cons (numDp _) .nil))) (rowsDp t fun y hy => h y (List.mem_cons_of_mem _ hy))
theorem lay_rows {num : Str → Str → Nat → Option Int} : ∀ es : List Key3, (∀ e ∈ es, NmOk e.1 ∧ NmOk e.2.1) → PyData.canLayAll0 (es.map (rowD num)) = true
  | [], _ => by simp [PyData.canLayAll0]
  | e :: es, h => by
    obtain ⟨h1, h2⟩ := h e List.mem_cons_self
    have h1 : PyData.strOk e.1 = true := h1
    have h2 : PyData.strOk e.2.1 = true := h2
    have h3 : ∀ a : Option Int, PyData.canLay0 (numD a) = true := fun a => by cases a <;> simp [numD, PyData.canLay0]
    simp [PyData.canLayAll0, PyData.canLay0, rowD, keyD, h1, h2, h3, lay_rows es fun y hy => h y (List.mem_cons_of_mem _ hy)]
theorem depth_rows {num : Str → Str → Nat → Option Int} : ∀ es : List Key3, PyData.depthAll (es.map (rowD num)) ≤ 5
  | [] => by simp [PyData.depthAll]
  | e :: es => by
    have h := depth_rows (num := num) es
    have h3 : ∀ a : Option Int, PyData.depth (numD a) ≤ 1 := fun a => by cases a <;> simp [numD, PyData.depth]
    have h4 := h3 (num e.1 e.2.1 e.2.2)
    simp only [List.map_cons, PyData.depthAll, PyData.depth, rowD, keyD]
    omega
theorem shaped_rows {num : Str → Str → Nat → Option Int} (es : List Key3) (h : ∀ e ∈ es, NmOk e.1 ∧ NmOk e.2.1) : SeqAt.shaped (.list (es.map (rowD num))) = true := shaped_of (lay_rows es h) (by have := depth_rows (num := num) es; omega)
theorem eqv_rows {num : Str → Str → Nat → Option Int} (es : List Key3) (h : ∀ e ∈ es, NmOk e.1 ∧ NmOk e.2.1) : PyData.eqv (.list (es.map (rowD num))) (.list (es.map (rowD num))) = true :=
  PySem.SeqAt.eqv_refl _ (by simp only [PyData.canLay0]; exact lay_rows es h)
def spLaw (K : PySem.W.Frag) : Sp := fun vs H Q _ => ∃ (a : Addr) (ns : List Int), vs = [.ref a] ∧ SqL K H a (ns.map V.int) ∧ ns.length ≤ 63 ∧ ∀ H', Q (.bl true) H'
theorem sq_same {K : PySem.W.Frag} {H H' : Hp} {a : Addr} {xs : List V} (h : SqL K H a xs) (e : Same H H') : SqL K H' a xs := by
  rcases h with (h | ⟨o, h⟩) | h
  · exact .inl (.inl (e _ _ h))
  · exact .inl (.inr ⟨o, e _ _ h⟩)
  · exact .inr h
theorem keys_nm {D : Dt} (o : D.Ok) : ∀ e ∈ D.C.keysL, NmOk e.1 ∧ NmOk e.2.1 := fun e he => by
  obtain ⟨m1, m2, m3⟩ := mem_keysL.mp he
  exact ⟨o.c.nm _ m1, site_nm o m2⟩
end OH

namespace OH
open PySem PySem.Spec PyProof.Rows L2
section
variable {P : Program} {w : World} {K : PySem.W.Frag} {mg : Str → Option Value} {base : Heap}
theorem ok_law {f : Addr} {fd : FuncData} (F : C8.Fun K "law" "law" s_law f fd) (T : Bt mg) (c_Lbegin : C8.Cal P w K mg base 1 "_law_begin" spBegin []) (c_Lbent : C8.Cal P w K mg base 4 "_law_bent" (spBent K) []) (c_Lbounds : C8.Cal P w K mg base 7 "_law_bounds" spBounds []) (c_Lcase : C8.Cal P w K mg base 5 "_law_case" (spCase K) []) (c_Lfloor : C8.Cal P w K mg base 5 "_law_floor" (spFloor K) []) (c_Ljudged : C8.Cal P w K mg base 5 "_law_judged" spJudged []) (c_Lkeys : C8.Cal P w K mg base 2 "_law_keys" spKeys []) (c_Lshape : C8.Cal P w K mg base 3 "_law_shape" spShape []) (c_Ltake : C8.Cal P w K mg base 2 "_law_take" (spTake K) []) (c_Ltree : C8.Cal P w K mg base 5 "_law_tree" (spTree K) []) (c_holds : C8.Cal P w K mg base 7 "holds" spHolds []) : FnOk P w K mg base C8.CX0 8 f fd ["_law_script"] (spLaw K) := by
  refine C8.fn0 F sc_law (fun vs H Q E h => ?_) (fun cdv A outer s H vs Q E hr h => ?_)
  · obtain ⟨x, ns, rfl, _⟩ := h
    rfl
  · obtain ⟨x, ns, rfl, hS, hl, q⟩ := h
    have hu := hu_of hr
    have hu64 := hr.units
    refine ⟨_, (pss_cons (ps_set (i := 1) sc_law.nd rfl (.inl v_law_1) (C8.pe_c c_Lbegin hr (by decide) g_law__law_begin (pa_cons (pv 0 rfl (.inl v_law_0)) pa_nil)))
      (pss_cons (ps_set (i := 2) sc_law.nd rfl (.inl v_law_2) (C8.pe_c c_Ltree hr (by decide) g_law__law_tree (pa_cons (pv 1 rfl (.inl v_law_1)) (pa_cons pe_int (pa_cons pe_int pa_nil)))))
      (pss_cons (ps_set (i := 3) sc_law.nd rfl (.inl v_law_3) (C8.pe_c c_Lcase hr (by decide) g_law__law_case (pa_cons (pv 1 rfl (.inl v_law_1)) (pa_cons (pv 2 rfl (.inl v_law_2)) (pa_cons pe_int (pa_cons pe_int pa_nil))))))
      (pss_cons (ps_set (i := 4) sc_law.nd rfl (.inl v_law_4) (C8.pe_c c_Lshape hr (by decide) g_law__law_shape (pa_cons (pv 3 rfl (.inl v_law_3)) pa_nil)))
      (pss_cons (ps_set (i := 5) sc_law.nd rfl (.inl v_law_5) (C8.pe_c c_Lkeys hr (by decide) g_law__law_keys (pa_cons (pv 3 rfl (.inl v_law_3)) pa_nil)))
      (pss_cons (ps_set (i := 6) sc_law.nd rfl (.inr v_law_6) (C8.pe_c c_Lfloor hr (by decide) g_law__law_floor (pa_cons (pv 1 rfl (.inl v_law_1)) (pa_cons (pv 3 rfl (.inl v_law_3)) (pa_cons (pv 4 rfl (.inl v_law_4)) pa_nil)))))
      (pss_cons (ps_for PassesOwn.never rfl (pi_range1 g_law_range T.range_ (pa_cons (pe_op op_add pe_int (C8.pe_c c_Ltake hr (by decide) g_law__law_take (pa_cons (pv 1 rfl (.inl v_law_1)) (pa_cons pe_int pa_nil)))) pa_nil)) (pg_name (i := 7) sc_law.nd rfl (.inl v_law_7))
        (pss_cons (ps_if (pt_cmpR op_gt (pv 7 rfl (.inl v_law_7)) pe_int (nomark _)) (pss_cons (ps_set (i := 8) sc_law.nd rfl (.inl v_law_8) (pe_ix ix_list (pv 5 rfl (.inl v_law_5)) (C8.pe_c c_Ltake hr (by decide) g_law__law_take (pa_cons (pv 1 rfl (.inl v_law_1)) (pa_cons (pe_callB call_len_seq g_law_len T.len_ (by decide +kernel) (pa_cons (pv 5 rfl (.inl v_law_5)) pa_nil)) pa_nil))) (fun _ _ => rfl)))
          (pss_one (ps_dput hu (pv 6 rfl (.inr (.inl v_law_6))) (pv 8 rfl (.inl v_law_8)) (C8.pe_c c_Lbent hr (by decide) g_law__law_bent (pa_cons (pv 1 rfl (.inl v_law_1)) (pa_cons (pe_dget hu (pv 6 rfl (.inr (.inl v_law_6))) (pv 8 rfl (.inl v_law_8)) (fun _ _ => rfl)) pa_nil))) rfl))) pss_nil)
        (pss_cons (ps_set (i := 9) sc_law.nd rfl (.inl v_law_9) (C8.pe_c c_Ljudged hr (by decide) g_law__law_judged (pa_cons (pv 3 rfl (.inl v_law_3)) (pa_cons (pv 4 rfl (.inl v_law_4)) (pa_cons (pv 6 rfl (.inr (.inl v_law_6))) pa_nil)))))
        (pss_cons (ps_if (PW.pt (pw_and (pt_cmpR op_eq (pv 7 rfl (.inl v_law_7)) pe_int (nomark _)) (pw_and1 (pt_not (pt_val (pv 9 rfl (.inl v_law_9))))))) (pss_one (ps_ret pe_bl)) pss_nil)
        (pss_cons (ps_setLc (i := 10) (own := [("_law_key", 8)]) rfl sc_law.nd rfl v_law_10 (sw_true rfl v_law_10 rfl (by decide +kernel)) (pi_list (pv 5 rfl (.inl v_law_5))) (blkOk_by (own := [("_law_key", 8)]) (N := N_law) (sc := sc s_law) (by decide +kernel)) (fun _ _ _ _ _ => (pg_name (i := 8) sc_law.nd rfl (.inl rfl) (.inr rfl))) (fun _ _ _ _ _ => pts_nil) (fun _ _ _ _ _ => (pe_tup (pa_cons (pv 8) (pa_cons (pe_dget hu (pv 6) (pv 8) (fun _ _ => rfl)) pa_nil)))))
        (pss_cons (ps_set (i := 11) sc_law.nd rfl (.inl v_law_11) (pe_callTy call_list_of g_law_list T.list_ (by decide +kernel) (pa_cons (pv 10 rfl (.inl v_law_10)) pa_nil)))
        (pss_cons (ps_set (i := 12) sc_law.nd rfl (.inl v_law_12) (C8.pe_c c_holds hr (by decide) g_law_holds (pa_cons (pv 3 rfl (.inl v_law_3)) (pa_cons (pv 11 rfl (.inl v_law_11)) pa_nil))))
        (pss_cons (ps_if (PW.pt (pw_or (pt_not (pt_val (pe_callB call_isi g_law_isinstance T.isinstance_ (by decide +kernel) (pa_cons (pv 12 rfl (.inl v_law_12)) (pa_cons (pe_bltn (v := .ty "bool") (u := .type "bool") g_law_bool T.bool_ (by decide +kernel) rfl) pa_nil))))) (pw_or (pt_cmpR op_ne (pv 12 rfl (.inl v_law_12)) (pv 9 rfl (.inl v_law_9)) (nomark _)) (pw_or1 (pt_cmpR (op_neD hu64) (pv 11 rfl (.inl v_law_11)) (pv 10 rfl (.inl v_law_10)) (nomark _)))))) (pss_one (ps_ret pe_bl)) pss_nil)
        (pss_one (ps_if (PW.pt (pw_and (pt_val (pv 9 rfl (.inl v_law_9))) (pw_and1 (pt_not (pt_val (C8.pe_c c_Lbounds hr (by decide) g_law__law_bounds (pa_cons (pv 3 rfl (.inl v_law_3)) (pa_cons (pv 4 rfl (.inl v_law_4)) (pa_cons (pv 6 rfl (.inr (.inl v_law_6))) pa_nil))))))))) (pss_one (ps_ret pe_bl)) pss_nil))))))))))
      (pss_one (ps_ret pe_bl))))))))), ?_⟩
    refine ⟨_, rfl, x, rfl, fun st H1 s1 f1 d1 => ?_⟩
    have t1 : StAt K H1 st x ns := ⟨d1, sq_same hS s1⟩
    refine ⟨_, rfl, st, x, ns, rfl, t1, fun Pl W am H2 hT h9 hP hnm e2 t2 hM => ?_⟩
    refine ⟨_, rfl, _, rfl, st, x, ns, am, Pl, W, rfl, t2, hM, hT, h9, hP, hnm, fun C c H3 eP eW hC e3 t3 hCa => ?_⟩
    obtain ⟨D, eD, ho, hA⟩ := Dt.exists C hC
    subst eD
    have hR := ho.c.R1
    have hkl := keysL_len ho.c
    refine ⟨_, rfl, c, D, rfl, hCa, ho, fun sh H4 s4 hSh => ?_⟩
    have t4 := t3.same s4
    have hSh' : ShAt H4 sh D (fun a => a ≠ st) := hSh.imp fun a h => Ne.symm (t3.d.ne h)
    have hC4 := hCa.tk (tk_same s4)
    refine ⟨_, rfl, c, D.C, rfl, hC4, ho.c.lim1, by omega, by omega, fun kl ks H5 s5 f5 k1 k2 => ?_⟩
    have t5 := t4.same s5
    have hC5 := hC4.tk (tk_same s5)
    have hSh5 := hSh'.same s5
    refine ⟨_, rfl, _, rfl, _, rfl, st, x, ns, c, sh, D, rfl, t5, hC5, ho, hSh5, fun num kvs nd H6 e6 t6 f6 n6 F6 => ?_⟩
    obtain ⟨kk, _, _, hst5, _⟩ := t5.d.ex
    have full : ∀ e ∈ D.C.keysL, Full D e := fun e he => mem_keysL.mp he
    have W6 : Wd K H6 st x ns c sh kl nd ks D kvs num := ⟨t6, hC5.tk (tk_ext e6 hst5 nt_dK), hSh5.ext e6 hst5 (fun a h => h), keep_lst t5.d e6 k1, k2.extD t5.d e6, n6, ⟨fun p hp s hs m hm => F6.get (p, s, m) ⟨hp, hs, hm⟩, F6.nd, F6.sub, fun e he => (F6.ok e (full e he)).1⟩⟩
    have J6 : judged D.C.P D.C.sites D.C.R num (D.due num) = true := judged_iff.mpr fun p hp sc hsc m hm => (F6.ok (p, sc.1, m) ⟨hp, List.mem_map.mpr ⟨sc, hsc, rfl⟩, hm⟩).2
    refine ⟨_, rfl, st, x, ns, 5, rfl, t6, by decide, by decide, fun n7 H7 h7 e7 t7 => ⟨_, _, rfl, rfl, _, rfl, by omega, by omega, ?_⟩⟩
    have W7 := W6.ext e7 t7
    have en : (1 : Int) + (n7 : Int) = ((n7 + 1 : Nat) : Int) := by omega
    rw [en]
    refine for_rng (n := n7 + 1) (fun i σ H8 => ∃ (y7 y8 y9 y10 y11 y12 : Option V) (kvs : List (List Key × V)) (num : Str → Str → Nat → Option Int), σ = [some (.ref x), some (.ref st), some (.ref am), some (.ref c), some (.ref sh), some (.ref kl), some (.ref nd), y7, y8, y9, y10, y11, y12] ∧ Wd K H8 st x ns c sh kl nd ks D kvs num ∧ (i = 0 → judged D.C.P D.C.sites D.C.R num (D.due num) = true))
      ⟨_, _, _, _, _, _, kvs, num, rfl, W7, fun _ => J6⟩ (fun i σ H8 hi ⟨y7, y8, y9, y10, y11, y12, kvs, num, eσ, W8, J8⟩ => ?_) (fun σ H8 ⟨y7, y8, y9, y10, y11, y12, kvs, num, eσ, W8, J8⟩ => ?_)
    · subst eσ
      refine ⟨_, rfl, _, _, rfl, rfl, _, rfl, ?_⟩
      by_cases z : (0 : Int) < (i : Int)
      · refine ifT (decide_eq_true z) ?_
        have lks : ((ks.map V.ref).length : Int) = (D.C.keysL.length : Int) := by rw [List.length_map, W8.k2.len]
        have hkp : 1 ≤ D.C.keysL.length := by
          have h1 := ho.c.s1.1
          obtain ⟨tl, hPt⟩ := ho.ro.hd
          obtain ⟨s0, hs0⟩ : ∃ s, D.C.sites[0]? = some s := ⟨_, List.getElem?_eq_getElem (by omega)⟩
          have : (D.r, s0.1, 0) ∈ D.C.keysL := mem_keysL.mpr ⟨ho.ro.rt.root, List.mem_map.mpr ⟨s0, List.mem_of_getElem? hs0, rfl⟩, by show 0 < D.C.R; omega⟩
          exact List.length_pos_of_mem this
        refine ⟨_, rfl, _, rfl, _, rfl, kl, _, rfl, .inl (SqL.of W8.k1), st, x, ns, _, rfl, W8.t, by rw [lks]; omega, by rw [lks]; omega, fun n9 H9 h9' e9 t9 => ?_⟩
        have W9 := W8.ext e9 t9
        rw [lks] at h9'
        obtain ⟨e, he⟩ : ∃ e, D.C.keysL[n9]? = some e := ⟨_, List.getElem?_eq_getElem (by omega)⟩
        have hem := List.mem_of_getElem? he
        obtain ⟨q1, hq1, hqe⟩ := W9.k2.at he
        obtain ⟨a1, a2, a3⟩ := mem_keysL.mp hem
        refine ⟨_, _, _, _, rfl, rfl, SqL.of W9.k1, atI_nat (j := n9) (v := V.ref q1) (by rw [List.getElem?_map, hq1]; rfl), ?_⟩
        have gN : DGet H9 nd (.ref q1) (some (oV (num e.1 e.2.1 e.2.2))) := W9.nums.get a1 a2 a3 hqe
        refine ⟨_, rfl, _, rfl, _, rfl, nd, _, rfl, gN, st, x, ns, num e.1 e.2.1 e.2.2, rfl, t9, W9.b.nn e hem, fun v H10 hv e10 t10 => ?_⟩
        have W10 := W9.ext e10 t10
        have hqe10 := keep_tup t9.d e10 hqe
        refine ⟨_, rfl, _, rfl, nd, _, rfl, DPut.t (k := keyK e) W10.n hqe10 (sz9 (by have := W10.b.len ho; omega)), ?_⟩
        have WB := W10.put hem hv
        have JB : i = 0 → judged D.C.P D.C.sites D.C.R (set3 num e v) (D.due (set3 num e v)) = true := fun z0 => absurd z (by rw [z0]; decide)
        generalize upd H10 nd (.dT (putK kvs (keyK e) (oV v))) = HB at WB ⊢
        generalize putK kvs (keyK e) (oV v) = kvsB at WB
        generalize set3 num e v = numB at WB JB
        have yy8 : Option V := some (V.ref q1)
        refine ⟨_, rfl, _, rfl, _, rfl, c, sh, nd, D, numB, rfl, WB.c, ho, WB.sh', WB.nums, fun HC sC => ?_⟩
        have WC := WB.same sC
        refine ⟨_, rfl, rfl, _, rfl, ?_⟩
        refine ifF (fun y => by have := of_decide_eq_true y; injection this with this; omega) ?_
        refine iteF ?_
        refine ⟨_, rfl, kl, rfl, ⟨_, SqL.of WC.k1⟩, fun l nl => ?_⟩
        refine lc_refsL (rows := D.C.keysL) (f := keyV) (as := ks) (fun i H2 => Same HC H2 ∧ TabAt H2 l (D.C.keysL.take i) numB)
          ⟨same_new nl, ⟨[], [], rfl, upd_same, .nil, fun z hz => by cases hz⟩⟩ (fun i H2 ⟨s2, _⟩ => ⟨s2 _ _ WC.k1, WC.k2.tk (tk_same s2)⟩) (fun i q1 e H2 hq he hqe ⟨s2, T2⟩ => ?_) (fun HD ⟨sD, TD⟩ => ?_)
        · refine ⟨rfl, ?_⟩
          refine iteT (B := Same HC H2 ∧ TabAt H2 l (D.C.keysL.take (i + 1)) numB) ?_
          obtain ⟨a1, a2, a3⟩ := mem_keysL.mp (List.mem_of_getElem? he)
          obtain ⟨as, zs, t1, t2, t3, t4⟩ := T2.ex
          have gN : DGet H2 nd (.ref q1) (some (oV (numB e.1 e.2.1 e.2.2))) := (WC.nums.same s2).get a1 a2 a3 hqe
          refine ⟨_, rfl, _, rfl, _, rfl, nd, _, rfl, gN, (by show 2 ≤ sizeLine; decide), fun t ft => ?_⟩
          have s3 := same_new (o := .tup [V.ref q1, oV (numB e.1 e.2.1 e.2.2)]) ft
          have hil := (List.getElem?_eq_some_iff.mp he).1
          have lt : as.length = i := by rw [t3.len, ← List.length_map (f := (·.2)), t1, List.length_take, Nat.min_eq_left (Nat.le_of_lt hil)]
          refine ⟨_, s3 _ _ t2, sz9 (by rw [List.length_map, lt]; omega), same_mut (s2.trans s3) nl, ?_⟩
          rw [take_snoc he]
          exact TabAt.add t1 (s3 _ _ t2) (t3.tk (tk_same s3)) (fun z hz => s3 _ _ (t4 z hz)) (s3 _ _ hqe) upd_same
        rw [take_len] at TD
        have WD := WC.same sD
        obtain ⟨as, zs, t1, t2, t3, t4⟩ := TD.ex
        refine ⟨_, rfl, l, _, rfl, .inl (SqL.of t2), fun l2 nl2 => ?_⟩
        have sE := same_new (o := .lst (as.map V.ref)) nl2
        have h2E : upd HD l2 (.lst (as.map V.ref)) l2 = some (.lst (as.map V.ref)) := upd_same
        have WE := WD.same sE
        have h1E := sE _ _ t2
        have t3E := t3.tk (tk_same sE)
        have t4E : ∀ z ∈ zs, upd HD l2 (.lst (as.map V.ref)) z.1 = some (.tup (keyV z.2)) := fun z hz => sE _ _ (t4 z hz)
        generalize upd HD l2 (.lst (as.map V.ref)) = HE at h2E WE h1E t3E t4E ⊢
        refine ⟨_, rfl, _, rfl, c, l2, D, numB, rfl, WE.c, ho, ⟨as, zs, t1, h2E, t3E, t4E⟩, WE.b.nn, fun HF sF => ?_⟩
        have WF := WE.same sF
        have DA : Dp K HF (.ref l2) (.list ((zs.map (·.2)).map (rowD numB))) := .lst (SqL.of (sF _ _ h2E)) (rowsDp (t3E.tk (tk_same sF)) fun z hz => sF _ _ (t4E z hz))
        have DB : Dp K HF (.ref l) (.list ((zs.map (·.2)).map (rowD numB))) := .lst (SqL.of (sF _ _ h1E)) (rowsDp (t3E.tk (tk_same sF)) fun z hz => sF _ _ (t4E z hz))
        rw [t1] at DA DB
        have sh1 := shaped_rows (num := numB) D.C.keysL (keys_nm ho)
        have ev1 := eqv_rows (num := numB) D.C.keysL (keys_nm ho)
        generalize hJ : judged D.C.P D.C.sites D.C.R numB (D.due numB) = J
        refine ⟨_, rfl, _, _, _, _, true, rfl, .ty "bool", .base (.bl _), kit_ty (by decide +kernel), _, rfl, ?_⟩
        refine iteF ⟨_, rfl, _, rfl, rfl, _, rfl, ?_⟩
        refine ifF (by rw [decide_eq_true rfl]; exact Bool.false_ne_true) ?_
        refine ⟨_, rfl, _, rfl, _, _, DA, DB, sh1, sh1, _, rfl, ?_⟩
        rw [ev1]
        refine iteF ?_
        refine ⟨_, rfl, _, rfl, ?_⟩
        cases J with
        | false =>
          refine iteF ?_
          refine iteF ?_
          exact ⟨_, _, _, _, _, _, kvsB, numB, rfl, WF, fun h => absurd h (Nat.succ_ne_zero _)⟩
        | true =>
          refine iteT ⟨_, rfl, _, rfl, _, rfl, c, sh, nd, D, numB, rfl, WF.c, ho, hA, WF.sh', WF.nums, judged_iff.mp hJ, fun HG sG => ⟨_, rfl, ?_⟩⟩
          refine iteF ?_
          exact ⟨_, _, _, _, _, _, kvsB, numB, rfl, WF.same sG, fun h => absurd h (Nat.succ_ne_zero _)⟩
      · refine ifF (fun y => z (of_decide_eq_true y)) ?_
        have WB := W8
        have JB := J8
        generalize H8 = HB at WB ⊢
        generalize kvs = kvsB at WB
        generalize num = numB at WB JB
        refine ⟨_, rfl, _, rfl, _, rfl, c, sh, nd, D, numB, rfl, WB.c, ho, WB.sh', WB.nums, fun HC sC => ?_⟩
        have WC := WB.same sC
        refine ⟨_, rfl, rfl, _, rfl, ?_⟩
        refine ifT (decide_eq_true (by have : i = 0 := by omega
                                       rw [this]; rfl)) ?_
        refine ⟨_, rfl, _, rfl, ?_⟩
        rw [JB (by omega)]
        refine iteF ?_
        refine ⟨_, rfl, kl, rfl, ⟨_, SqL.of WC.k1⟩, fun l nl => ?_⟩
        refine lc_refsL (rows := D.C.keysL) (f := keyV) (as := ks) (fun i H2 => Same HC H2 ∧ TabAt H2 l (D.C.keysL.take i) numB)
          ⟨same_new nl, ⟨[], [], rfl, upd_same, .nil, fun z hz => by cases hz⟩⟩ (fun i H2 ⟨s2, _⟩ => ⟨s2 _ _ WC.k1, WC.k2.tk (tk_same s2)⟩) (fun i q1 e H2 hq he hqe ⟨s2, T2⟩ => ?_) (fun HD ⟨sD, TD⟩ => ?_)
        · refine ⟨rfl, ?_⟩
          refine iteT (B := Same HC H2 ∧ TabAt H2 l (D.C.keysL.take (i + 1)) numB) ?_
          obtain ⟨a1, a2, a3⟩ := mem_keysL.mp (List.mem_of_getElem? he)
          obtain ⟨as, zs, t1, t2, t3, t4⟩ := T2.ex
          have gN : DGet H2 nd (.ref q1) (some (oV (numB e.1 e.2.1 e.2.2))) := (WC.nums.same s2).get a1 a2 a3 hqe
          refine ⟨_, rfl, _, rfl, _, rfl, nd, _, rfl, gN, (by show 2 ≤ sizeLine; decide), fun t ft => ?_⟩
          have s3 := same_new (o := .tup [V.ref q1, oV (numB e.1 e.2.1 e.2.2)]) ft
          have hil := (List.getElem?_eq_some_iff.mp he).1
          have lt : as.length = i := by rw [t3.len, ← List.length_map (f := (·.2)), t1, List.length_take, Nat.min_eq_left (Nat.le_of_lt hil)]
          refine ⟨_, s3 _ _ t2, sz9 (by rw [List.length_map, lt]; omega), same_mut (s2.trans s3) nl, ?_⟩
          rw [take_snoc he]
          exact TabAt.add t1 (s3 _ _ t2) (t3.tk (tk_same s3)) (fun z hz => s3 _ _ (t4 z hz)) (s3 _ _ hqe) upd_same
        rw [take_len] at TD
        have WD := WC.same sD
        obtain ⟨as, zs, t1, t2, t3, t4⟩ := TD.ex
        refine ⟨_, rfl, l, _, rfl, .inl (SqL.of t2), fun l2 nl2 => ?_⟩
        have sE := same_new (o := .lst (as.map V.ref)) nl2
        have h2E : upd HD l2 (.lst (as.map V.ref)) l2 = some (.lst (as.map V.ref)) := upd_same
        have WE := WD.same sE
        have h1E := sE _ _ t2
        have t3E := t3.tk (tk_same sE)
        have t4E : ∀ z ∈ zs, upd HD l2 (.lst (as.map V.ref)) z.1 = some (.tup (keyV z.2)) := fun z hz => sE _ _ (t4 z hz)
        generalize upd HD l2 (.lst (as.map V.ref)) = HE at h2E WE h1E t3E t4E ⊢
        refine ⟨_, rfl, _, rfl, c, l2, D, numB, rfl, WE.c, ho, ⟨as, zs, t1, h2E, t3E, t4E⟩, WE.b.nn, fun HF sF => ?_⟩
        have WF := WE.same sF
        have DA : Dp K HF (.ref l2) (.list ((zs.map (·.2)).map (rowD numB))) := .lst (SqL.of (sF _ _ h2E)) (rowsDp (t3E.tk (tk_same sF)) fun z hz => sF _ _ (t4E z hz))
        have DB : Dp K HF (.ref l) (.list ((zs.map (·.2)).map (rowD numB))) := .lst (SqL.of (sF _ _ h1E)) (rowsDp (t3E.tk (tk_same sF)) fun z hz => sF _ _ (t4E z hz))
        rw [t1] at DA DB
        have sh1 := shaped_rows (num := numB) D.C.keysL (keys_nm ho)
        have ev1 := eqv_rows (num := numB) D.C.keysL (keys_nm ho)
        generalize hJ : judged D.C.P D.C.sites D.C.R numB (D.due numB) = J
        refine ⟨_, rfl, _, _, _, _, true, rfl, .ty "bool", .base (.bl _), kit_ty (by decide +kernel), _, rfl, ?_⟩
        refine iteF ⟨_, rfl, _, rfl, rfl, _, rfl, ?_⟩
        have eJ : J = true := hJ ▸ JB (by omega)
        subst eJ
        refine ifF (by rw [decide_eq_true rfl]; exact Bool.false_ne_true) ?_
        refine ⟨_, rfl, _, rfl, _, _, DA, DB, sh1, sh1, _, rfl, ?_⟩
        rw [ev1]
        refine iteF ?_
        refine ⟨_, rfl, _, rfl, ?_⟩
        refine iteT ⟨_, rfl, _, rfl, _, rfl, c, sh, nd, D, numB, rfl, WF.c, ho, hA, WF.sh', WF.nums, judged_iff.mp hJ, fun HG sG => ⟨_, rfl, ?_⟩⟩
        refine iteF ?_
        exact ⟨_, _, _, _, _, _, kvsB, numB, rfl, WF.same sG, fun h => absurd h (Nat.succ_ne_zero _)⟩
    · subst eσ
      exact q H8
end
end OH

namespace OH
open PySem PySem.Spec PyProof.Rows L2
/-! ### what the top has written -/
structure DD (K : PySem.W.Frag) (mg : Str → Option Value) (x : Str) (st : Stmt) (ps : List Str) : Prop where
  ex : ∃ (f : Addr) (fd : FuncData), C8.Def K mg x st f fd ∧ L2.Binds K fd ps []
structure MM (K : PySem.W.Frag) (C : Addr) (m qual : Str) (st : Stmt) (ps : List Str) : Prop where
  ex : ∃ (f : Addr) (fd : FuncData), Meth K C m f ∧ C8.Fun K m qual st f fd ∧ L2.Binds K fd ps []
structure LL (K : PySem.W.Frag) (mg : Str → Option Value) : Prop where
  ex : ∃ (f : Addr) (fd : FuncData), mg "law" = some (.ref f) ∧ C8.Fun K "law" "law" s_law f fd ∧ ∀ (s : Shared) (v : Value), BindsTo s fd ⟨[v], []⟩ [("_law_script", v)]
section
variable {K : PySem.W.Frag} {h : Heap} {mg : Str → Option Value} {C f : Addr} {od an : Option Addr} {sl : Array (Option Value)} {oc kV dc pm cd ct : Value} {x qual : Str} {st : Stmt} {ps : List Str}
theorem DD.mk' (X : K.In h) (G : h.Ns mainGlobals mg) (a : PySem.W.nsIn K mainGlobals x = some (some (.ref f))) (l : K.lookup f = some ⟨oc, od, .func (PySem.W.fnOf x x (C8.fnArgs st) (C8.fnBody st) (C8.fnScope st) .none kV dc pm an cd ct), sl⟩) (c : PySem.W.codeIn K cd x = true) (k : PySem.W.keepIn K (.ref f) = true)
    (hb : ∀ (kV doc pm : Value) (an : Option Addr) (cdv ct : Value) (us : List Value), us.length = ps.length → bindArgs (PySem.W.fnOf x x (C8.fnArgs st) (C8.fnBody st) (C8.fnScope st) .none kV doc pm an cdv ct) ⟨us, []⟩ = pure (ps.zip us)) : DD K mg x st ps := by
  have F : C8.Fun K x x st f _ := ⟨oc, od, .none, kV, dc, pm, an, cd, ct, sl, rfl, l, c⟩
  exact ⟨f, _, ⟨F, PySem.W.mg_of X G a, k⟩, F.binds rfl hb⟩
theorem MM.mk' (a : PySem.W.findIn K (.ref C) x = some (some (.ref f))) (i : PySem.W.isFn K (.ref f) = true) (l : K.lookup f = some ⟨oc, od, .func (PySem.W.fnOf x qual (C8.fnArgs st) (C8.fnBody st) (C8.fnScope st) .none kV dc pm an cd ct), sl⟩) (c : PySem.W.codeIn K cd qual = true) (k : PySem.W.keepIn K (.ref f) = true)
    (hb : ∀ (kV doc pm : Value) (an : Option Addr) (cdv ct : Value) (us : List Value), us.length = ps.length → bindArgs (PySem.W.fnOf x qual (C8.fnArgs st) (C8.fnBody st) (C8.fnScope st) .none kV doc pm an cdv ct) ⟨us, []⟩ = pure (ps.zip us)) : MM K C x qual st ps := by
  have F : C8.Fun K x qual st f _ := ⟨oc, od, .none, kV, dc, pm, an, cd, ct, sl, rfl, l, c⟩
  exact ⟨f, _, ⟨a, i, k⟩, F, F.binds rfl hb⟩
theorem LL.mk' (X : K.In h) (G : h.Ns mainGlobals mg) (a : PySem.W.nsIn K mainGlobals "law" = some (some (.ref f))) (l : K.lookup f = some ⟨oc, od, .func (PySem.W.fnOf "law" "law" (C8.fnArgs s_law) (C8.fnBody s_law) (C8.fnScope s_law) .none kV dc pm an cd ct), sl⟩) (c : PySem.W.codeIn K cd "law" = true) : LL K mg :=
  ⟨f, _, PySem.W.mg_of X G a, ⟨oc, od, .none, kV, dc, pm, an, cd, ct, sl, rfl, l, c⟩, fun s v => .of_eq rfl⟩
theorem Bt.mk' (X : K.In h) (G : h.Ns mainGlobals mg) (z0 : PySem.W.nsIn K mainGlobals "abs" = some none) (z1 : PySem.W.nsIn K mainGlobals "len" = some none) (z2 : PySem.W.nsIn K mainGlobals "list" = some none) (z3 : PySem.W.nsIn K mainGlobals "range" = some none) (z4 : PySem.W.nsIn K mainGlobals "sorted" = some none) (z5 : PySem.W.nsIn K mainGlobals "tuple" = some none) (z6 : PySem.W.nsIn K mainGlobals "max" = some none) (z7 : PySem.W.nsIn K mainGlobals "min" = some none) (z8 : PySem.W.nsIn K mainGlobals "dict" = some none) (z9 : PySem.W.nsIn K mainGlobals "sum" = some none) (z10 : PySem.W.nsIn K mainGlobals "any" = some none) (z11 : PySem.W.nsIn K mainGlobals "all" = some none) (z12 : PySem.W.nsIn K mainGlobals "isinstance" = some none) (z13 : PySem.W.nsIn K mainGlobals "zip" = some none) (z14 : PySem.W.nsIn K mainGlobals "int" = some none) (z15 : PySem.W.nsIn K mainGlobals "bool" = some none) : Bt mg := ⟨PySem.W.mg_none_of X G z0, PySem.W.mg_none_of X G z1, PySem.W.mg_none_of X G z2, PySem.W.mg_none_of X G z3, PySem.W.mg_none_of X G z4, PySem.W.mg_none_of X G z5, PySem.W.mg_none_of X G z6, PySem.W.mg_none_of X G z7, PySem.W.mg_none_of X G z8, PySem.W.mg_none_of X G z9, PySem.W.mg_none_of X G z10, PySem.W.mg_none_of X G z11, PySem.W.mg_none_of X G z12, PySem.W.mg_none_of X G z13, PySem.W.mg_none_of X G z14, PySem.W.mg_none_of X G z15⟩
theorem Rc.mk' (pg : PySem.W.plainGet K C Str.empty = true) (hd : PySem.W.hasDictIn K C = true) (po : PySem.W.plainOver K C = true) (sa : PySem.W.findIn K (.ref C) "__setattr__" = some (some (.builtin "object.__setattr__"))) (n0 : PySem.W.findIn K (.ref C) "places" = some none) (n1 : PySem.W.findIn K (.ref C) "sites" = some none) (n2 : PySem.W.findIn K (.ref C) "numbers" = some none) (n3 : PySem.W.findIn K (.ref C) "many" = some none) (n4 : PySem.W.findIn K (.ref C) "mores" = some none) (n5 : PySem.W.findIn K (.ref C) "known" = some none) (n6 : PySem.W.findIn K (.ref C) "under" = some none) (n7 : PySem.W.findIn K (.ref C) "lower" = some none) (n8 : PySem.W.findIn K (.ref C) "far_of" = some none) : Rc K C := by
  refine ⟨⟨pg, hd, po, sa⟩, fun f hf => ?_⟩
  simp only [List.mem_cons, List.not_mem_nil, or_false] at hf
  rcases hf with rfl | rfl | rfl | rfl | rfl | rfl | rfl | rfl | rfl
  · exact n0
  · exact n1
  · exact n2
  · exact n3
  · exact n4
  · exact n5
  · exact n6
  · exact n7
  · exact n8
end
theorem hb_plus (kV doc pm : Value) (an : Option Addr) (cdv ct : Value) (us : List Value) (hl : us.length = (["one", "other"] : List Str).length) : bindArgs (PySem.W.fnOf "plus" "plus" (C8.fnArgs s_plus) (C8.fnBody s_plus) (C8.fnScope s_plus) .none kV doc pm an cdv ct) ⟨us, []⟩ = pure ((["one", "other"] : List Str).zip us) := match us, hl with | [_, _], _ => rfl
theorem hb_Lplus (kV doc pm : Value) (an : Option Addr) (cdv ct : Value) (us : List Value) (hl : us.length = (["_law_one", "_law_other"] : List Str).length) : bindArgs (PySem.W.fnOf "_law_plus" "_law_plus" (C8.fnArgs s_Lplus) (C8.fnBody s_Lplus) (C8.fnScope s_Lplus) .none kV doc pm an cdv ct) ⟨us, []⟩ = pure ((["_law_one", "_law_other"] : List Str).zip us) := match us, hl with | [_, _], _ => rfl
theorem hb_lesser (kV doc pm : Value) (an : Option Addr) (cdv ct : Value) (us : List Value) (hl : us.length = (["one", "other"] : List Str).length) : bindArgs (PySem.W.fnOf "lesser" "lesser" (C8.fnArgs s_lesser) (C8.fnBody s_lesser) (C8.fnScope s_lesser) .none kV doc pm an cdv ct) ⟨us, []⟩ = pure ((["one", "other"] : List Str).zip us) := match us, hl with | [_, _], _ => rfl
theorem hb_Lless (kV doc pm : Value) (an : Option Addr) (cdv ct : Value) (us : List Value) (hl : us.length = (["_law_one", "_law_other"] : List Str).length) : bindArgs (PySem.W.fnOf "_law_less" "_law_less" (C8.fnArgs s_Lless) (C8.fnBody s_Lless) (C8.fnScope s_Lless) .none kV doc pm an cdv ct) ⟨us, []⟩ = pure ((["_law_one", "_law_other"] : List Str).zip us) := match us, hl with | [_, _], _ => rfl
theorem hb_mores_of (kV doc pm : Value) (an : Option Addr) (cdv ct : Value) (us : List Value) (hl : us.length = (["case"] : List Str).length) : bindArgs (PySem.W.fnOf "mores_of" "mores_of" (C8.fnArgs s_mores_of) (C8.fnBody s_mores_of) (C8.fnScope s_mores_of) .none kV doc pm an cdv ct) ⟨us, []⟩ = pure ((["case"] : List Str).zip us) := match us, hl with | [_], _ => rfl
theorem hb_Lmores (kV doc pm : Value) (an : Option Addr) (cdv ct : Value) (us : List Value) (hl : us.length = (["_law_case_here"] : List Str).length) : bindArgs (PySem.W.fnOf "_law_mores" "_law_mores" (C8.fnArgs s_Lmores) (C8.fnBody s_Lmores) (C8.fnScope s_Lmores) .none kV doc pm an cdv ct) ⟨us, []⟩ = pure ((["_law_case_here"] : List Str).zip us) := match us, hl with | [_], _ => rfl
theorem hb_is_tree (kV doc pm : Value) (an : Option Addr) (cdv ct : Value) (us : List Value) (hl : us.length = (["web"] : List Str).length) : bindArgs (PySem.W.fnOf "is_tree" "is_tree" (C8.fnArgs s_is_tree) (C8.fnBody s_is_tree) (C8.fnScope s_is_tree) .none kV doc pm an cdv ct) ⟨us, []⟩ = pure ((["web"] : List Str).zip us) := match us, hl with | [_], _ => rfl
theorem hb_need_tree (kV doc pm : Value) (an : Option Addr) (cdv ct : Value) (us : List Value) (hl : us.length = (["case"] : List Str).length) : bindArgs (PySem.W.fnOf "need_tree" "need_tree" (C8.fnArgs s_need_tree) (C8.fnBody s_need_tree) (C8.fnScope s_need_tree) .none kV doc pm an cdv ct) ⟨us, []⟩ = pure ((["case"] : List Str).zip us) := match us, hl with | [_], _ => rfl
theorem hb_near_by (kV doc pm : Value) (an : Option Addr) (cdv ct : Value) (us : List Value) (hl : us.length = (["web"] : List Str).length) : bindArgs (PySem.W.fnOf "near_by" "near_by" (C8.fnArgs s_near_by) (C8.fnBody s_near_by) (C8.fnScope s_near_by) .none kV doc pm an cdv ct) ⟨us, []⟩ = pure ((["web"] : List Str).zip us) := match us, hl with | [_], _ => rfl
theorem hb_Lnear (kV doc pm : Value) (an : Option Addr) (cdv ct : Value) (us : List Value) (hl : us.length = (["_law_here"] : List Str).length) : bindArgs (PySem.W.fnOf "_law_near" "_law_near" (C8.fnArgs s_Lnear) (C8.fnBody s_Lnear) (C8.fnScope s_Lnear) .none kV doc pm an cdv ct) ⟨us, []⟩ = pure ((["_law_here"] : List Str).zip us) := match us, hl with | [_], _ => rfl
theorem hb_keys_of (kV doc pm : Value) (an : Option Addr) (cdv ct : Value) (us : List Value) (hl : us.length = (["case"] : List Str).length) : bindArgs (PySem.W.fnOf "keys_of" "keys_of" (C8.fnArgs s_keys_of) (C8.fnBody s_keys_of) (C8.fnScope s_keys_of) .none kV doc pm an cdv ct) ⟨us, []⟩ = pure ((["case"] : List Str).zip us) := match us, hl with | [_], _ => rfl
theorem hb_Lkeys (kV doc pm : Value) (an : Option Addr) (cdv ct : Value) (us : List Value) (hl : us.length = (["_law_case_here"] : List Str).length) : bindArgs (PySem.W.fnOf "_law_keys" "_law_keys" (C8.fnArgs s_Lkeys) (C8.fnBody s_Lkeys) (C8.fnScope s_Lkeys) .none kV doc pm an cdv ct) ⟨us, []⟩ = pure ((["_law_case_here"] : List Str).zip us) := match us, hl with | [_], _ => rfl
theorem hb_parents (kV doc pm : Value) (an : Option Addr) (cdv ct : Value) (us : List Value) (hl : us.length = (["web"] : List Str).length) : bindArgs (PySem.W.fnOf "parents" "parents" (C8.fnArgs s_parents) (C8.fnBody s_parents) (C8.fnScope s_parents) .none kV doc pm an cdv ct) ⟨us, []⟩ = pure ((["web"] : List Str).zip us) := match us, hl with | [_], _ => rfl
theorem hb_Lfars (kV doc pm : Value) (an : Option Addr) (cdv ct : Value) (us : List Value) (hl : us.length = (["_law_here", "_law_start"] : List Str).length) : bindArgs (PySem.W.fnOf "_law_fars" "_law_fars" (C8.fnArgs s_Lfars) (C8.fnBody s_Lfars) (C8.fnScope s_Lfars) .none kV doc pm an cdv ct) ⟨us, []⟩ = pure ((["_law_here", "_law_start"] : List Str).zip us) := match us, hl with | [_, _], _ => rfl
theorem hb_fars (kV doc pm : Value) (an : Option Addr) (cdv ct : Value) (us : List Value) (hl : us.length = (["web", "place"] : List Str).length) : bindArgs (PySem.W.fnOf "fars" "fars" (C8.fnArgs s_fars) (C8.fnBody s_fars) (C8.fnScope s_fars) .none kV doc pm an cdv ct) ⟨us, []⟩ = pure ((["web", "place"] : List Str).zip us) := match us, hl with | [_, _], _ => rfl
theorem hb_children (kV doc pm : Value) (an : Option Addr) (cdv ct : Value) (us : List Value) (hl : us.length = (["web", "place"] : List Str).length) : bindArgs (PySem.W.fnOf "children" "children" (C8.fnArgs s_children) (C8.fnBody s_children) (C8.fnScope s_children) .none kV doc pm an cdv ct) ⟨us, []⟩ = pure ((["web", "place"] : List Str).zip us) := match us, hl with | [_, _], _ => rfl
theorem hb_below (kV doc pm : Value) (an : Option Addr) (cdv ct : Value) (us : List Value) (hl : us.length = (["web", "place"] : List Str).length) : bindArgs (PySem.W.fnOf "below" "below" (C8.fnArgs s_below) (C8.fnBody s_below) (C8.fnScope s_below) .none kV doc pm an cdv ct) ⟨us, []⟩ = pure ((["web", "place"] : List Str).zip us) := match us, hl with | [_, _], _ => rfl
theorem hb_Lunder (kV doc pm : Value) (an : Option Addr) (cdv ct : Value) (us : List Value) (hl : us.length = (["_law_here"] : List Str).length) : bindArgs (PySem.W.fnOf "_law_under" "_law_under" (C8.fnArgs s_Lunder) (C8.fnBody s_Lunder) (C8.fnScope s_Lunder) .none kV doc pm an cdv ct) ⟨us, []⟩ = pure ((["_law_here"] : List Str).zip us) := match us, hl with | [_], _ => rfl
theorem hb_is_number (kV doc pm : Value) (an : Option Addr) (cdv ct : Value) (us : List Value) (hl : us.length = (["thing"] : List Str).length) : bindArgs (PySem.W.fnOf "is_number" "is_number" (C8.fnArgs s_is_number) (C8.fnBody s_is_number) (C8.fnScope s_is_number) .none kV doc pm an cdv ct) ⟨us, []⟩ = pure ((["thing"] : List Str).zip us) := match us, hl with | [_], _ => rfl
theorem hb_is_greater (kV doc pm : Value) (an : Option Addr) (cdv ct : Value) (us : List Value) (hl : us.length = (["number", "due"] : List Str).length) : bindArgs (PySem.W.fnOf "is_greater" "is_greater" (C8.fnArgs s_is_greater) (C8.fnBody s_is_greater) (C8.fnScope s_is_greater) .none kV doc pm an cdv ct) ⟨us, []⟩ = pure ((["number", "due"] : List Str).zip us) := match us, hl with | [_, _], _ => rfl
theorem hb_is_row (kV doc pm : Value) (an : Option Addr) (cdv ct : Value) (us : List Value) (hl : us.length = (["thing", "key"] : List Str).length) : bindArgs (PySem.W.fnOf "is_row" "is_row" (C8.fnArgs s_is_row) (C8.fnBody s_is_row) (C8.fnScope s_is_row) .none kV doc pm an cdv ct) ⟨us, []⟩ = pure ((["thing", "key"] : List Str).zip us) := match us, hl with | [_, _], _ => rfl
theorem hb_is_table (kV doc pm : Value) (an : Option Addr) (cdv ct : Value) (us : List Value) (hl : us.length = (["case", "thing"] : List Str).length) : bindArgs (PySem.W.fnOf "is_table" "is_table" (C8.fnArgs s_is_table) (C8.fnBody s_is_table) (C8.fnScope s_is_table) .none kV doc pm an cdv ct) ⟨us, []⟩ = pure ((["case", "thing"] : List Str).zip us) := match us, hl with | [_, _], _ => rfl
theorem hb_holds (kV doc pm : Value) (an : Option Addr) (cdv ct : Value) (us : List Value) (hl : us.length = (["case", "table"] : List Str).length) : bindArgs (PySem.W.fnOf "holds" "holds" (C8.fnArgs s_holds) (C8.fnBody s_holds) (C8.fnScope s_holds) .none kV doc pm an cdv ct) ⟨us, []⟩ = pure ((["case", "table"] : List Str).zip us) := match us, hl with | [_, _], _ => rfl
theorem hb_low_of (kV doc pm : Value) (an : Option Addr) (cdv ct : Value) (us : List Value) (hl : us.length = (["case", "table"] : List Str).length) : bindArgs (PySem.W.fnOf "low_of" "low_of" (C8.fnArgs s_low_of) (C8.fnBody s_low_of) (C8.fnScope s_low_of) .none kV doc pm an cdv ct) ⟨us, []⟩ = pure ((["case", "table"] : List Str).zip us) := match us, hl with | [_, _], _ => rfl
theorem hb_Lbegin (kV doc pm : Value) (an : Option Addr) (cdv ct : Value) (us : List Value) (hl : us.length = (["_law_script"] : List Str).length) : bindArgs (PySem.W.fnOf "_law_begin" "_law_begin" (C8.fnArgs s_Lbegin) (C8.fnBody s_Lbegin) (C8.fnScope s_Lbegin) .none kV doc pm an cdv ct) ⟨us, []⟩ = pure ((["_law_script"] : List Str).zip us) := match us, hl with | [_], _ => rfl
theorem hb_Lmixed (kV doc pm : Value) (an : Option Addr) (cdv ct : Value) (us : List Value) (hl : us.length = (["_law_cell", "_law_k"] : List Str).length) : bindArgs (PySem.W.fnOf "_law_mixed" "_law_mixed" (C8.fnArgs s_Lmixed) (C8.fnBody s_Lmixed) (C8.fnScope s_Lmixed) .none kV doc pm an cdv ct) ⟨us, []⟩ = pure ((["_law_cell", "_law_k"] : List Str).zip us) := match us, hl with | [_, _], _ => rfl
theorem hb_Ltake (kV doc pm : Value) (an : Option Addr) (cdv ct : Value) (us : List Value) (hl : us.length = (["_law_state", "_law_most"] : List Str).length) : bindArgs (PySem.W.fnOf "_law_take" "_law_take" (C8.fnArgs s_Ltake) (C8.fnBody s_Ltake) (C8.fnScope s_Ltake) .none kV doc pm an cdv ct) ⟨us, []⟩ = pure ((["_law_state", "_law_most"] : List Str).zip us) := match us, hl with | [_, _], _ => rfl
theorem hb_Lnumber (kV doc pm : Value) (an : Option Addr) (cdv ct : Value) (us : List Value) (hl : us.length = (["_law_state", "_law_least_here"] : List Str).length) : bindArgs (PySem.W.fnOf "_law_number" "_law_number" (C8.fnArgs s_Lnumber) (C8.fnBody s_Lnumber) (C8.fnScope s_Lnumber) .none kV doc pm an cdv ct) ⟨us, []⟩ = pure ((["_law_state", "_law_least_here"] : List Str).zip us) := match us, hl with | [_, _], _ => rfl
theorem hb_Lorder (kV doc pm : Value) (an : Option Addr) (cdv ct : Value) (us : List Value) (hl : us.length = (["_law_state", "_law_many"] : List Str).length) : bindArgs (PySem.W.fnOf "_law_order" "_law_order" (C8.fnArgs s_Lorder) (C8.fnBody s_Lorder) (C8.fnScope s_Lorder) .none kV doc pm an cdv ct) ⟨us, []⟩ = pure ((["_law_state", "_law_many"] : List Str).zip us) := match us, hl with | [_, _], _ => rfl
theorem hb_Lnames (kV doc pm : Value) (an : Option Addr) (cdv ct : Value) (us : List Value) (hl : us.length = (["_law_state", "_law_many"] : List Str).length) : bindArgs (PySem.W.fnOf "_law_names" "_law_names" (C8.fnArgs s_Lnames) (C8.fnBody s_Lnames) (C8.fnScope s_Lnames) .none kV doc pm an cdv ct) ⟨us, []⟩ = pure ((["_law_state", "_law_many"] : List Str).zip us) := match us, hl with | [_, _], _ => rfl
theorem hb_Ltree (kV doc pm : Value) (an : Option Addr) (cdv ct : Value) (us : List Value) (hl : us.length = (["_law_state", "_law_least_here", "_law_most"] : List Str).length) : bindArgs (PySem.W.fnOf "_law_tree" "_law_tree" (C8.fnArgs s_Ltree) (C8.fnBody s_Ltree) (C8.fnScope s_Ltree) .none kV doc pm an cdv ct) ⟨us, []⟩ = pure ((["_law_state", "_law_least_here", "_law_most"] : List Str).zip us) := match us, hl with | [_, _, _], _ => rfl
theorem hb_Lsome (kV doc pm : Value) (an : Option Addr) (cdv ct : Value) (us : List Value) (hl : us.length = (["_law_state", "_law_places", "_law_most"] : List Str).length) : bindArgs (PySem.W.fnOf "_law_some" "_law_some" (C8.fnArgs s_Lsome) (C8.fnBody s_Lsome) (C8.fnScope s_Lsome) .none kV doc pm an cdv ct) ⟨us, []⟩ = pure ((["_law_state", "_law_places", "_law_most"] : List Str).zip us) := match us, hl with | [_, _, _], _ => rfl
theorem hb_Lcase (kV doc pm : Value) (an : Option Addr) (cdv ct : Value) (us : List Value) (hl : us.length = (["_law_state", "_law_here", "_law_sites", "_law_folk"] : List Str).length) : bindArgs (PySem.W.fnOf "_law_case" "_law_case" (C8.fnArgs s_Lcase) (C8.fnBody s_Lcase) (C8.fnScope s_Lcase) .none kV doc pm an cdv ct) ⟨us, []⟩ = pure ((["_law_state", "_law_here", "_law_sites", "_law_folk"] : List Str).zip us) := match us, hl with | [_, _, _, _], _ => rfl
theorem hb_Lshape (kV doc pm : Value) (an : Option Addr) (cdv ct : Value) (us : List Value) (hl : us.length = (["_law_case_here"] : List Str).length) : bindArgs (PySem.W.fnOf "_law_shape" "_law_shape" (C8.fnArgs s_Lshape) (C8.fnBody s_Lshape) (C8.fnScope s_Lshape) .none kV doc pm an cdv ct) ⟨us, []⟩ = pure ((["_law_case_here"] : List Str).zip us) := match us, hl with | [_], _ => rfl
theorem hb_Lbegun (kV doc pm : Value) (an : Option Addr) (cdv ct : Value) (us : List Value) (hl : us.length = (["_law_case_here", "_law_under_here", "_law_numbers", "_law_place", "_law_houses"] : List Str).length) : bindArgs (PySem.W.fnOf "_law_begun" "_law_begun" (C8.fnArgs s_Lbegun) (C8.fnBody s_Lbegun) (C8.fnScope s_Lbegun) .none kV doc pm an cdv ct) ⟨us, []⟩ = pure ((["_law_case_here", "_law_under_here", "_law_numbers", "_law_place", "_law_houses"] : List Str).zip us) := match us, hl with | [_, _, _, _, _], _ => rfl
theorem hb_Lhanded (kV doc pm : Value) (an : Option Addr) (cdv ct : Value) (us : List Value) (hl : us.length = (["_law_case_here", "_law_under_here", "_law_numbers", "_law_child", "_law_site", "_law_more"] : List Str).length) : bindArgs (PySem.W.fnOf "_law_handed" "_law_handed" (C8.fnArgs s_Lhanded) (C8.fnBody s_Lhanded) (C8.fnScope s_Lhanded) .none kV doc pm an cdv ct) ⟨us, []⟩ = pure ((["_law_case_here", "_law_under_here", "_law_numbers", "_law_child", "_law_site", "_law_more"] : List Str).zip us) := match us, hl with | [_, _, _, _, _, _], _ => rfl
theorem hb_Ldue (kV doc pm : Value) (an : Option Addr) (cdv ct : Value) (us : List Value) (hl : us.length = (["_law_case_here", "_law_shape_here", "_law_numbers", "_law_key"] : List Str).length) : bindArgs (PySem.W.fnOf "_law_due" "_law_due" (C8.fnArgs s_Ldue) (C8.fnBody s_Ldue) (C8.fnScope s_Ldue) .none kV doc pm an cdv ct) ⟨us, []⟩ = pure ((["_law_case_here", "_law_shape_here", "_law_numbers", "_law_key"] : List Str).zip us) := match us, hl with | [_, _, _, _], _ => rfl
theorem hb_Lwritten (kV doc pm : Value) (an : Option Addr) (cdv ct : Value) (us : List Value) (hl : us.length = (["_law_state", "_law_due_here"] : List Str).length) : bindArgs (PySem.W.fnOf "_law_written" "_law_written" (C8.fnArgs s_Lwritten) (C8.fnBody s_Lwritten) (C8.fnScope s_Lwritten) .none kV doc pm an cdv ct) ⟨us, []⟩ = pure ((["_law_state", "_law_due_here"] : List Str).zip us) := match us, hl with | [_, _], _ => rfl
theorem hb_Lbent (kV doc pm : Value) (an : Option Addr) (cdv ct : Value) (us : List Value) (hl : us.length = (["_law_state", "_law_number_here"] : List Str).length) : bindArgs (PySem.W.fnOf "_law_bent" "_law_bent" (C8.fnArgs s_Lbent) (C8.fnBody s_Lbent) (C8.fnScope s_Lbent) .none kV doc pm an cdv ct) ⟨us, []⟩ = pure ((["_law_state", "_law_number_here"] : List Str).zip us) := match us, hl with | [_, _], _ => rfl
theorem hb_Ljudged (kV doc pm : Value) (an : Option Addr) (cdv ct : Value) (us : List Value) (hl : us.length = (["_law_case_here", "_law_shape_here", "_law_numbers"] : List Str).length) : bindArgs (PySem.W.fnOf "_law_judged" "_law_judged" (C8.fnArgs s_Ljudged) (C8.fnBody s_Ljudged) (C8.fnScope s_Ljudged) .none kV doc pm an cdv ct) ⟨us, []⟩ = pure ((["_law_case_here", "_law_shape_here", "_law_numbers"] : List Str).zip us) := match us, hl with | [_, _, _], _ => rfl
theorem hb_Lopenings (kV doc pm : Value) (an : Option Addr) (cdv ct : Value) (us : List Value) (hl : us.length = (["_law_case_here"] : List Str).length) : bindArgs (PySem.W.fnOf "_law_openings" "_law_openings" (C8.fnArgs s_Lopenings) (C8.fnBody s_Lopenings) (C8.fnScope s_Lopenings) .none kV doc pm an cdv ct) ⟨us, []⟩ = pure ((["_law_case_here"] : List Str).zip us) := match us, hl with | [_], _ => rfl
theorem hb_Lcost (kV doc pm : Value) (an : Option Addr) (cdv ct : Value) (us : List Value) (hl : us.length = (["_law_case_here", "_law_far_of", "_law_opening"] : List Str).length) : bindArgs (PySem.W.fnOf "_law_cost" "_law_cost" (C8.fnArgs s_Lcost) (C8.fnBody s_Lcost) (C8.fnScope s_Lcost) .none kV doc pm an cdv ct) ⟨us, []⟩ = pure ((["_law_case_here", "_law_far_of", "_law_opening"] : List Str).zip us) := match us, hl with | [_, _, _], _ => rfl
theorem hb_Lleast (kV doc pm : Value) (an : Option Addr) (cdv ct : Value) (us : List Value) (hl : us.length = (["_law_case_here"] : List Str).length) : bindArgs (PySem.W.fnOf "_law_least" "_law_least" (C8.fnArgs s_Lleast) (C8.fnBody s_Lleast) (C8.fnScope s_Lleast) .none kV doc pm an cdv ct) ⟨us, []⟩ = pure ((["_law_case_here"] : List Str).zip us) := match us, hl with | [_], _ => rfl
theorem hb_Lfloor (kV doc pm : Value) (an : Option Addr) (cdv ct : Value) (us : List Value) (hl : us.length = (["_law_state", "_law_case_here", "_law_shape_here"] : List Str).length) : bindArgs (PySem.W.fnOf "_law_floor" "_law_floor" (C8.fnArgs s_Lfloor) (C8.fnBody s_Lfloor) (C8.fnScope s_Lfloor) .none kV doc pm an cdv ct) ⟨us, []⟩ = pure ((["_law_state", "_law_case_here", "_law_shape_here"] : List Str).zip us) := match us, hl with | [_, _, _], _ => rfl
theorem hb_Lbounds (kV doc pm : Value) (an : Option Addr) (cdv ct : Value) (us : List Value) (hl : us.length = (["_law_case_here", "_law_shape_here", "_law_numbers"] : List Str).length) : bindArgs (PySem.W.fnOf "_law_bounds" "_law_bounds" (C8.fnArgs s_Lbounds) (C8.fnBody s_Lbounds) (C8.fnScope s_Lbounds) .none kV doc pm an cdv ct) ⟨us, []⟩ = pure ((["_law_case_here", "_law_shape_here", "_law_numbers"] : List Str).zip us) := match us, hl with | [_, _, _], _ => rfl
theorem hb_Rbegun (kV doc pm : Value) (an : Option Addr) (cdv ct : Value) (us : List Value) (hl : us.length = (["self", "place", "houses"] : List Str).length) : bindArgs (PySem.W.fnOf "begun" "Reckoner.begun" (C8.fnArgs s_Rbegun) (C8.fnBody s_Rbegun) (C8.fnScope s_Rbegun) .none kV doc pm an cdv ct) ⟨us, []⟩ = pure ((["self", "place", "houses"] : List Str).zip us) := match us, hl with | [_, _, _], _ => rfl
theorem hb_Rhanded (kV doc pm : Value) (an : Option Addr) (cdv ct : Value) (us : List Value) (hl : us.length = (["self", "child", "site", "more"] : List Str).length) : bindArgs (PySem.W.fnOf "handed" "Reckoner.handed" (C8.fnArgs s_Rhanded) (C8.fnBody s_Rhanded) (C8.fnScope s_Rhanded) .none kV doc pm an cdv ct) ⟨us, []⟩ = pure ((["self", "child", "site", "more"] : List Str).zip us) := match us, hl with | [_, _, _, _], _ => rfl
theorem hb_Rwith_child (kV doc pm : Value) (an : Option Addr) (cdv ct : Value) (us : List Value) (hl : us.length = (["self", "ahead", "child", "site"] : List Str).length) : bindArgs (PySem.W.fnOf "with_child" "Reckoner.with_child" (C8.fnArgs s_Rwith_child) (C8.fnBody s_Rwith_child) (C8.fnScope s_Rwith_child) .none kV doc pm an cdv ct) ⟨us, []⟩ = pure ((["self", "ahead", "child", "site"] : List Str).zip us) := match us, hl with | [_, _, _, _], _ => rfl
theorem hb_Rown (kV doc pm : Value) (an : Option Addr) (cdv ct : Value) (us : List Value) (hl : us.length = (["self", "place", "site"] : List Str).length) : bindArgs (PySem.W.fnOf "own" "Reckoner.own" (C8.fnArgs s_Rown) (C8.fnBody s_Rown) (C8.fnScope s_Rown) .none kV doc pm an cdv ct) ⟨us, []⟩ = pure ((["self", "place", "site"] : List Str).zip us) := match us, hl with | [_, _, _], _ => rfl
theorem hb_Rroot (kV doc pm : Value) (an : Option Addr) (cdv ct : Value) (us : List Value) (hl : us.length = (["self"] : List Str).length) : bindArgs (PySem.W.fnOf "root" "Reckoner.root" (C8.fnArgs s_Rroot) (C8.fnBody s_Rroot) (C8.fnScope s_Rroot) .none kV doc pm an cdv ct) ⟨us, []⟩ = pure ((["self"] : List Str).zip us) := match us, hl with | [_], _ => rfl
theorem hb_Rlow (kV doc pm : Value) (an : Option Addr) (cdv ct : Value) (us : List Value) (hl : us.length = (["self", "mores"] : List Str).length) : bindArgs (PySem.W.fnOf "low" "Reckoner.low" (C8.fnArgs s_Rlow) (C8.fnBody s_Rlow) (C8.fnScope s_Rlow) .none kV doc pm an cdv ct) ⟨us, []⟩ = pure ((["self", "mores"] : List Str).zip us) := match us, hl with | [_, _], _ => rfl
theorem hb_Rsums (kV doc pm : Value) (an : Option Addr) (cdv ct : Value) (us : List Value) (hl : us.length = (["self", "place", "site"] : List Str).length) : bindArgs (PySem.W.fnOf "sums" "Reckoner.sums" (C8.fnArgs s_Rsums) (C8.fnBody s_Rsums) (C8.fnScope s_Rsums) .none kV doc pm an cdv ct) ⟨us, []⟩ = pure ((["self", "place", "site"] : List Str).zip us) := match us, hl with | [_, _, _], _ => rfl
theorem hb_Rdue (kV doc pm : Value) (an : Option Addr) (cdv ct : Value) (us : List Value) (hl : us.length = (["self", "place", "site", "more"] : List Str).length) : bindArgs (PySem.W.fnOf "due" "Reckoner.due" (C8.fnArgs s_Rdue) (C8.fnBody s_Rdue) (C8.fnScope s_Rdue) .none kV doc pm an cdv ct) ⟨us, []⟩ = pure ((["self", "place", "site", "more"] : List Str).zip us) := match us, hl with | [_, _, _, _], _ => rfl
theorem hb_Rinit (kV doc pm : Value) (an : Option Addr) (cdv ct : Value) (us : List Value) (hl : us.length = (["self", "case", "numbers"] : List Str).length) : bindArgs (PySem.W.fnOf "__init__" "Reckoner.__init__" (C8.fnArgs s_Rinit) (C8.fnBody s_Rinit) (C8.fnScope s_Rinit) .none kV doc pm an cdv ct) ⟨us, []⟩ = pure ((["self", "case", "numbers"] : List Str).zip us) := match us, hl with | [_, _, _], _ => rfl
theorem all_mk {l : PySem.W.OpenLaw} {w : World} {K : PySem.W.Frag} {h : Heap} {mg : Str → Option Value} {fa C : Addr} (X : K.In h) (G : h.Ns mainGlobals mg) (hfa : mg "law" = some (.ref fa)) (T : Bt mg) (Tc : Rc K C) (aR : PySem.W.nsIn K mainGlobals "Reckoner" = some (some (.ref C))) (mk : PySem.W.makesIn K C = true) (kc : PySem.W.keepIn K (.ref C) = true) (dI : MM K C "__init__" "Reckoner.__init__" s_Rinit ["self", "case", "numbers"])
    (d_plus : DD K mg "plus" s_plus ["one", "other"])
    (d_Lplus : DD K mg "_law_plus" s_Lplus ["_law_one", "_law_other"])
    (d_lesser : DD K mg "lesser" s_lesser ["one", "other"])
    (d_Lless : DD K mg "_law_less" s_Lless ["_law_one", "_law_other"])
    (d_mores_of : DD K mg "mores_of" s_mores_of ["case"])
    (d_Lmores : DD K mg "_law_mores" s_Lmores ["_law_case_here"])
    (d_is_tree : DD K mg "is_tree" s_is_tree ["web"])
    (d_need_tree : DD K mg "need_tree" s_need_tree ["case"])
    (d_near_by : DD K mg "near_by" s_near_by ["web"])
    (d_Lnear : DD K mg "_law_near" s_Lnear ["_law_here"])
    (d_keys_of : DD K mg "keys_of" s_keys_of ["case"])
    (d_Lkeys : DD K mg "_law_keys" s_Lkeys ["_law_case_here"])
    (d_parents : DD K mg "parents" s_parents ["web"])
    (d_Lfars : DD K mg "_law_fars" s_Lfars ["_law_here", "_law_start"])
    (d_fars : DD K mg "fars" s_fars ["web", "place"])
    (d_children : DD K mg "children" s_children ["web", "place"])
    (d_below : DD K mg "below" s_below ["web", "place"])
    (d_Lunder : DD K mg "_law_under" s_Lunder ["_law_here"])
    (d_is_number : DD K mg "is_number" s_is_number ["thing"])
    (d_is_greater : DD K mg "is_greater" s_is_greater ["number", "due"])
    (d_is_row : DD K mg "is_row" s_is_row ["thing", "key"])
    (d_is_table : DD K mg "is_table" s_is_table ["case", "thing"])
    (d_holds : DD K mg "holds" s_holds ["case", "table"])
    (d_low_of : DD K mg "low_of" s_low_of ["case", "table"])
    (d_Lbegin : DD K mg "_law_begin" s_Lbegin ["_law_script"])
    (d_Lmixed : DD K mg "_law_mixed" s_Lmixed ["_law_cell", "_law_k"])
    (d_Ltake : DD K mg "_law_take" s_Ltake ["_law_state", "_law_most"])
    (d_Lnumber : DD K mg "_law_number" s_Lnumber ["_law_state", "_law_least_here"])
    (d_Lorder : DD K mg "_law_order" s_Lorder ["_law_state", "_law_many"])
    (d_Lnames : DD K mg "_law_names" s_Lnames ["_law_state", "_law_many"])
    (d_Ltree : DD K mg "_law_tree" s_Ltree ["_law_state", "_law_least_here", "_law_most"])
    (d_Lsome : DD K mg "_law_some" s_Lsome ["_law_state", "_law_places", "_law_most"])
    (d_Lcase : DD K mg "_law_case" s_Lcase ["_law_state", "_law_here", "_law_sites", "_law_folk"])
    (d_Lshape : DD K mg "_law_shape" s_Lshape ["_law_case_here"])
    (d_Lbegun : DD K mg "_law_begun" s_Lbegun ["_law_case_here", "_law_under_here", "_law_numbers", "_law_place", "_law_houses"])
    (d_Lhanded : DD K mg "_law_handed" s_Lhanded ["_law_case_here", "_law_under_here", "_law_numbers", "_law_child", "_law_site", "_law_more"])
    (d_Ldue : DD K mg "_law_due" s_Ldue ["_law_case_here", "_law_shape_here", "_law_numbers", "_law_key"])
    (d_Lwritten : DD K mg "_law_written" s_Lwritten ["_law_state", "_law_due_here"])
    (d_Lbent : DD K mg "_law_bent" s_Lbent ["_law_state", "_law_number_here"])
    (d_Ljudged : DD K mg "_law_judged" s_Ljudged ["_law_case_here", "_law_shape_here", "_law_numbers"])
    (d_Lopenings : DD K mg "_law_openings" s_Lopenings ["_law_case_here"])
    (d_Lcost : DD K mg "_law_cost" s_Lcost ["_law_case_here", "_law_far_of", "_law_opening"])
    (d_Lleast : DD K mg "_law_least" s_Lleast ["_law_case_here"])
    (d_Lfloor : DD K mg "_law_floor" s_Lfloor ["_law_state", "_law_case_here", "_law_shape_here"])
    (d_Lbounds : DD K mg "_law_bounds" s_Lbounds ["_law_case_here", "_law_shape_here", "_law_numbers"])
    (d_Rbegun : MM K C "begun" "Reckoner.begun" s_Rbegun ["self", "place", "houses"])
    (d_Rhanded : MM K C "handed" "Reckoner.handed" s_Rhanded ["self", "child", "site", "more"])
    (d_Rwith_child : MM K C "with_child" "Reckoner.with_child" s_Rwith_child ["self", "ahead", "child", "site"])
    (d_Rown : MM K C "own" "Reckoner.own" s_Rown ["self", "place", "site"])
    (d_Rroot : MM K C "root" "Reckoner.root" s_Rroot ["self"])
    (d_Rlow : MM K C "low" "Reckoner.low" s_Rlow ["self", "mores"])
    (d_Rsums : MM K C "sums" "Reckoner.sums" s_Rsums ["self", "place", "site"])
    (d_Rdue : MM K C "due" "Reckoner.due" s_Rdue ["self", "place", "site", "more"])
    (dl : LL K mg) :
    ∃ fd : FuncData, (∀ (s : Shared) (v : Value), BindsTo s fd ⟨[v], []⟩ [("_law_script", v)]) ∧ ∀ base : Heap, K.In base → base.Ns mainGlobals mg → FnOk l.prog w K mg base C8.CX0 8 fa fd ["_law_script"] (spLaw K) := by
  obtain ⟨f, fd, hf, F, hB⟩ := dl.ex
  rw [hf] at hfa
  cases hfa
  refine ⟨fd, hB, fun base _ _ => ?_⟩
  have aR := PySem.W.mg_of X G aR
  obtain ⟨f_plus, fd_plus, D_plus, b_plus⟩ := d_plus.ex
  have c_plus : C8.Cal l.prog w K mg base 1 "plus" spPlus [] := cal_plus D_plus b_plus T  
  obtain ⟨f_Lplus, fd_Lplus, D_Lplus, b_Lplus⟩ := d_Lplus.ex
  have c_Lplus : C8.Cal l.prog w K mg base 1 "_law_plus" spPlus [] := cal_Lplus D_Lplus b_Lplus T  
  obtain ⟨f_lesser, fd_lesser, D_lesser, b_lesser⟩ := d_lesser.ex
  have c_lesser : C8.Cal l.prog w K mg base 1 "lesser" spLess [] := cal_lesser D_lesser b_lesser T  
  obtain ⟨f_Lless, fd_Lless, D_Lless, b_Lless⟩ := d_Lless.ex
  have c_Lless : C8.Cal l.prog w K mg base 1 "_law_less" spLess [] := cal_Lless D_Lless b_Lless T  
  obtain ⟨f_mores_of, fd_mores_of, D_mores_of, b_mores_of⟩ := d_mores_of.ex
  have c_mores_of : C8.Cal l.prog w K mg base 1 "mores_of" spMores [] := cal_mores_of D_mores_of b_mores_of T  
  obtain ⟨f_Lmores, fd_Lmores, D_Lmores, b_Lmores⟩ := d_Lmores.ex
  have c_Lmores : C8.Cal l.prog w K mg base 1 "_law_mores" spMores [] := cal_Lmores D_Lmores b_Lmores T  
  obtain ⟨f_is_tree, fd_is_tree, D_is_tree, b_is_tree⟩ := d_is_tree.ex
  have c_is_tree : C8.Cal l.prog w K mg base 1 "is_tree" spIsTree [] := cal_is_tree D_is_tree b_is_tree T  
  obtain ⟨f_need_tree, fd_need_tree, D_need_tree, b_need_tree⟩ := d_need_tree.ex
  have c_need_tree : C8.Cal l.prog w K mg base 2 "need_tree" spNeed [] := cal_need_tree D_need_tree b_need_tree T (c_is_tree := c_is_tree) 
  obtain ⟨f_near_by, fd_near_by, D_near_by, b_near_by⟩ := d_near_by.ex
  have c_near_by : C8.Cal l.prog w K mg base 1 "near_by" spNear [] := cal_near_by D_near_by b_near_by T  
  obtain ⟨f_Lnear, fd_Lnear, D_Lnear, b_Lnear⟩ := d_Lnear.ex
  have c_Lnear : C8.Cal l.prog w K mg base 1 "_law_near" spNear [] := cal_Lnear D_Lnear b_Lnear T  
  obtain ⟨f_keys_of, fd_keys_of, D_keys_of, b_keys_of⟩ := d_keys_of.ex
  have c_keys_of : C8.Cal l.prog w K mg base 2 "keys_of" spKeys [] := cal_keys_of D_keys_of b_keys_of T (c_mores_of := c_mores_of) 
  obtain ⟨f_Lkeys, fd_Lkeys, D_Lkeys, b_Lkeys⟩ := d_Lkeys.ex
  have c_Lkeys : C8.Cal l.prog w K mg base 2 "_law_keys" spKeys [] := cal_Lkeys D_Lkeys b_Lkeys T (c_Lmores := c_Lmores) 
  obtain ⟨f_parents, fd_parents, D_parents, b_parents⟩ := d_parents.ex
  have c_parents : C8.Cal l.prog w K mg base 2 "parents" spParents [] := cal_parents D_parents b_parents T (c_near_by := c_near_by) 
  obtain ⟨f_Lfars, fd_Lfars, D_Lfars, b_Lfars⟩ := d_Lfars.ex
  have c_Lfars : C8.Cal l.prog w K mg base 2 "_law_fars" spFars [] := cal_Lfars D_Lfars b_Lfars T (c_Lnear := c_Lnear) 
  obtain ⟨f_fars, fd_fars, D_fars, b_fars⟩ := d_fars.ex
  have c_fars : C8.Cal l.prog w K mg base 2 "fars" spFars [] := cal_fars D_fars b_fars T (c_near_by := c_near_by) 
  obtain ⟨f_children, fd_children, D_children, b_children⟩ := d_children.ex
  have c_children : C8.Cal l.prog w K mg base 3 "children" spChildren [] := cal_children D_children b_children T (c_parents := c_parents) 
  obtain ⟨f_below, fd_below, D_below, b_below⟩ := d_below.ex
  have c_below : C8.Cal l.prog w K mg base 3 "below" spBelow [] := cal_below D_below b_below T (c_parents := c_parents) 
  obtain ⟨f_Lunder, fd_Lunder, D_Lunder, b_Lunder⟩ := d_Lunder.ex
  have c_Lunder : C8.Cal l.prog w K mg base 2 "_law_under" spUnder [] := cal_Lunder D_Lunder b_Lunder T (c_Lnear := c_Lnear) 
  obtain ⟨f_Rbegun, fd_Rbegun, D_Rbegun, F_Rbegun, b_Rbegun⟩ := d_Rbegun.ex
  have m_begun : C8.Met l.prog w K mg base 2 C "begun" (spRbegun C) [] := met_begun D_Rbegun F_Rbegun b_Rbegun T Tc (c_lesser := c_lesser) (c_plus := c_plus) 
  obtain ⟨f_Rhanded, fd_Rhanded, D_Rhanded, F_Rhanded, b_Rhanded⟩ := d_Rhanded.ex
  have m_handed : C8.Met l.prog w K mg base 3 C "handed" (spRhanded C) [] := met_handed D_Rhanded F_Rhanded b_Rhanded T Tc (c_lesser := c_lesser) (m_begun := m_begun)
  obtain ⟨f_Rwith_child, fd_Rwith_child, D_Rwith_child, F_Rwith_child, b_Rwith_child⟩ := d_Rwith_child.ex
  have m_with_child : C8.Met l.prog w K mg base 4 C "with_child" (spRwith C) [] := met_with_child D_Rwith_child F_Rwith_child b_Rwith_child T Tc (c_lesser := c_lesser) (c_plus := c_plus) (m_handed := m_handed)
  obtain ⟨f_Rown, fd_Rown, D_Rown, F_Rown, b_Rown⟩ := d_Rown.ex
  have m_own : C8.Met l.prog w K mg base 1 C "own" (spRown C) [] := met_own D_Rown F_Rown b_Rown T Tc  
  obtain ⟨f_Rroot, fd_Rroot, D_Rroot, F_Rroot, b_Rroot⟩ := d_Rroot.ex
  have m_root : C8.Met l.prog w K mg base 1 C "root" (spRroot C) [] := met_root D_Rroot F_Rroot b_Rroot T Tc  
  obtain ⟨f_Rlow, fd_Rlow, D_Rlow, F_Rlow, b_Rlow⟩ := d_Rlow.ex
  have m_low : C8.Met l.prog w K mg base 3 C "low" (spRlow C) [] := met_low D_Rlow F_Rlow b_Rlow T Tc (c_lesser := c_lesser) (m_begun := m_begun) (m_root := m_root)
  obtain ⟨f_Rsums, fd_Rsums, D_Rsums, F_Rsums, b_Rsums⟩ := d_Rsums.ex
  have m_sums : C8.Met l.prog w K mg base 5 C "sums" (spRsums C) [] := met_sums D_Rsums F_Rsums b_Rsums T Tc  (m_with_child := m_with_child)
  obtain ⟨f_Rdue, fd_Rdue, D_Rdue, F_Rdue, b_Rdue⟩ := d_Rdue.ex
  have m_due : C8.Met l.prog w K mg base 6 C "due" (spRdue C) [] := met_due D_Rdue F_Rdue b_Rdue T Tc (c_plus := c_plus) (m_own := m_own) (m_sums := m_sums)
  obtain ⟨fI, fdI, MI, FI, bI⟩ := dI.ex
  have m_R : C8.Mak l.prog w K mg base 4 "Reckoner" C (spRinit C) [] := mak_R ⟨mk, MI.at_, MI.fn, kc⟩ aR FI bI T Tc (c_below := c_below) (c_children := c_children) (c_fars := c_fars) (c_mores_of := c_mores_of) 
  obtain ⟨f_is_number, fd_is_number, D_is_number, b_is_number⟩ := d_is_number.ex
  have c_is_number : C8.Cal l.prog w K mg base 1 "is_number" spNumber [] := cal_is_number D_is_number b_is_number T  
  obtain ⟨f_is_greater, fd_is_greater, D_is_greater, b_is_greater⟩ := d_is_greater.ex
  have c_is_greater : C8.Cal l.prog w K mg base 1 "is_greater" spGreater [] := cal_is_greater D_is_greater b_is_greater T  
  obtain ⟨f_is_row, fd_is_row, D_is_row, b_is_row⟩ := d_is_row.ex
  have c_is_row : C8.Cal l.prog w K mg base 2 "is_row" spRow [] := cal_is_row D_is_row b_is_row T (c_is_number := c_is_number) 
  obtain ⟨f_is_table, fd_is_table, D_is_table, b_is_table⟩ := d_is_table.ex
  have c_is_table : C8.Cal l.prog w K mg base 3 "is_table" spTable [] := cal_is_table D_is_table b_is_table T (c_is_row := c_is_row) (c_keys_of := c_keys_of) 
  obtain ⟨f_holds, fd_holds, D_holds, b_holds⟩ := d_holds.ex
  have c_holds : C8.Cal l.prog w K mg base 7 "holds" spHolds [] := cal_holds D_holds b_holds T (c_is_greater := c_is_greater) (c_is_table := c_is_table) (c_need_tree := c_need_tree) (m_R := m_R) (m_due := m_due)
  obtain ⟨f_low_of, fd_low_of, D_low_of, b_low_of⟩ := d_low_of.ex
  have c_low_of : C8.Cal l.prog w K mg base 6 "low_of" spLow [] := cal_low_of D_low_of b_low_of T (c_mores_of := c_mores_of) (c_need_tree := c_need_tree) (m_R := m_R) (m_low := m_low)
  obtain ⟨f_Lbegin, fd_Lbegin, D_Lbegin, b_Lbegin⟩ := d_Lbegin.ex
  have c_Lbegin : C8.Cal l.prog w K mg base 1 "_law_begin" spBegin [] := cal_Lbegin D_Lbegin b_Lbegin T  
  obtain ⟨f_Lmixed, fd_Lmixed, D_Lmixed, b_Lmixed⟩ := d_Lmixed.ex
  have c_Lmixed : C8.Cal l.prog w K mg base 1 "_law_mixed" spMixed [] := cal_Lmixed D_Lmixed b_Lmixed T  
  obtain ⟨f_Ltake, fd_Ltake, D_Ltake, b_Ltake⟩ := d_Ltake.ex
  have c_Ltake : C8.Cal l.prog w K mg base 2 "_law_take" (spTake K) [] := cal_Ltake D_Ltake b_Ltake T (c_Lmixed := c_Lmixed) 
  obtain ⟨f_Lnumber, fd_Lnumber, D_Lnumber, b_Lnumber⟩ := d_Lnumber.ex
  have c_Lnumber : C8.Cal l.prog w K mg base 3 "_law_number" (spNum K) [] := cal_Lnumber D_Lnumber b_Lnumber T (c_Ltake := c_Ltake) 
  obtain ⟨f_Lorder, fd_Lorder, D_Lorder, b_Lorder⟩ := d_Lorder.ex
  have c_Lorder : C8.Cal l.prog w K mg base 3 "_law_order" (spOrder K) [] := cal_Lorder D_Lorder b_Lorder T (c_Ltake := c_Ltake) 
  obtain ⟨f_Lnames, fd_Lnames, D_Lnames, b_Lnames⟩ := d_Lnames.ex
  have c_Lnames : C8.Cal l.prog w K mg base 4 "_law_names" (spNames K) [] := cal_Lnames D_Lnames b_Lnames T (c_Lorder := c_Lorder) (c_Ltake := c_Ltake) 
  obtain ⟨f_Ltree, fd_Ltree, D_Ltree, b_Ltree⟩ := d_Ltree.ex
  have c_Ltree : C8.Cal l.prog w K mg base 5 "_law_tree" (spTree K) [] := cal_Ltree D_Ltree b_Ltree T (c_Lnames := c_Lnames) (c_Lnumber := c_Lnumber) (c_Ltake := c_Ltake) 
  obtain ⟨f_Lsome, fd_Lsome, D_Lsome, b_Lsome⟩ := d_Lsome.ex
  have c_Lsome : C8.Cal l.prog w K mg base 4 "_law_some" (spSome K) [] := cal_Lsome D_Lsome b_Lsome T (c_Lorder := c_Lorder) (c_Ltake := c_Ltake) 
  obtain ⟨f_Lcase, fd_Lcase, D_Lcase, b_Lcase⟩ := d_Lcase.ex
  have c_Lcase : C8.Cal l.prog w K mg base 5 "_law_case" (spCase K) [] := cal_Lcase D_Lcase b_Lcase T (c_Lnumber := c_Lnumber) (c_Lsome := c_Lsome) (c_Ltake := c_Ltake) 
  obtain ⟨f_Lshape, fd_Lshape, D_Lshape, b_Lshape⟩ := d_Lshape.ex
  have c_Lshape : C8.Cal l.prog w K mg base 3 "_law_shape" spShape [] := cal_Lshape D_Lshape b_Lshape T (c_Lfars := c_Lfars) (c_Lunder := c_Lunder) 
  obtain ⟨f_Lbegun, fd_Lbegun, D_Lbegun, b_Lbegun⟩ := d_Lbegun.ex
  have c_Lbegun : C8.Cal l.prog w K mg base 2 "_law_begun" spLbegun [] := cal_Lbegun D_Lbegun b_Lbegun T (c_Lless := c_Lless) (c_Lplus := c_Lplus) 
  obtain ⟨f_Lhanded, fd_Lhanded, D_Lhanded, b_Lhanded⟩ := d_Lhanded.ex
  have c_Lhanded : C8.Cal l.prog w K mg base 3 "_law_handed" spLhanded [] := cal_Lhanded D_Lhanded b_Lhanded T (c_Lbegun := c_Lbegun) (c_Lless := c_Lless) 
  obtain ⟨f_Ldue, fd_Ldue, D_Ldue, b_Ldue⟩ := d_Ldue.ex
  have c_Ldue : C8.Cal l.prog w K mg base 4 "_law_due" spLdue [] := cal_Ldue D_Ldue b_Ldue T (c_Lhanded := c_Lhanded) (c_Lless := c_Lless) (c_Lplus := c_Lplus) 
  obtain ⟨f_Lwritten, fd_Lwritten, D_Lwritten, b_Lwritten⟩ := d_Lwritten.ex
  have c_Lwritten : C8.Cal l.prog w K mg base 4 "_law_written" (spWritten K) [] := cal_Lwritten D_Lwritten b_Lwritten T (c_Lnumber := c_Lnumber) (c_Ltake := c_Ltake) 
  obtain ⟨f_Lbent, fd_Lbent, D_Lbent, b_Lbent⟩ := d_Lbent.ex
  have c_Lbent : C8.Cal l.prog w K mg base 4 "_law_bent" (spBent K) [] := cal_Lbent D_Lbent b_Lbent T (c_Lnumber := c_Lnumber) (c_Ltake := c_Ltake) 
  obtain ⟨f_Ljudged, fd_Ljudged, D_Ljudged, b_Ljudged⟩ := d_Ljudged.ex
  have c_Ljudged : C8.Cal l.prog w K mg base 5 "_law_judged" spJudged [] := cal_Ljudged D_Ljudged b_Ljudged T (c_Ldue := c_Ldue) (c_Lkeys := c_Lkeys) 
  obtain ⟨f_Lopenings, fd_Lopenings, D_Lopenings, b_Lopenings⟩ := d_Lopenings.ex
  have c_Lopenings : C8.Cal l.prog w K mg base 1 "_law_openings" spOpenings [] := cal_Lopenings D_Lopenings b_Lopenings T  
  obtain ⟨f_Lcost, fd_Lcost, D_Lcost, b_Lcost⟩ := d_Lcost.ex
  have c_Lcost : C8.Cal l.prog w K mg base 1 "_law_cost" spCost [] := cal_Lcost D_Lcost b_Lcost T  
  obtain ⟨f_Lleast, fd_Lleast, D_Lleast, b_Lleast⟩ := d_Lleast.ex
  have c_Lleast : C8.Cal l.prog w K mg base 3 "_law_least" spLeast [] := cal_Lleast D_Lleast b_Lleast T (c_Lcost := c_Lcost) (c_Lfars := c_Lfars) (c_Lopenings := c_Lopenings) 
  obtain ⟨f_Lfloor, fd_Lfloor, D_Lfloor, b_Lfloor⟩ := d_Lfloor.ex
  have c_Lfloor : C8.Cal l.prog w K mg base 5 "_law_floor" (spFloor K) [] := cal_Lfloor D_Lfloor b_Lfloor T (c_Ldue := c_Ldue) (c_Lmores := c_Lmores) (c_Lwritten := c_Lwritten) 
  obtain ⟨f_Lbounds, fd_Lbounds, D_Lbounds, b_Lbounds⟩ := d_Lbounds.ex
  have c_Lbounds : C8.Cal l.prog w K mg base 7 "_law_bounds" spBounds [] := cal_Lbounds D_Lbounds b_Lbounds T (c_Lbegun := c_Lbegun) (c_Lkeys := c_Lkeys) (c_Lleast := c_Lleast) (c_Lless := c_Lless) (c_Lmores := c_Lmores) (c_low_of := c_low_of) 
  exact ok_law F T (c_Lbegin := c_Lbegin) (c_Lbent := c_Lbent) (c_Lbounds := c_Lbounds) (c_Lcase := c_Lcase) (c_Lfloor := c_Lfloor) (c_Ljudged := c_Ljudged) (c_Lkeys := c_Lkeys) (c_Lshape := c_Lshape) (c_Ltake := c_Ltake) (c_Ltree := c_Ltree) (c_holds := c_holds) 
end OH

open PySem PySem.W PyProof.Rows
set_option maxRecDepth 100000 in
set_option maxHeartbeats 0 in
theorem PySem.Challenge.cw_openhouses_k38_whole_floors_judged_holds : PySem.Challenge.rw_openhouses_k38_whole_floors_judged.Holds := by
  w_on; o_law; k_head; (case hw => w_witness2)
  k_fill
  refine L2.walk_of (l := PySem.Challenge.rw_openhouses_k38_whole_floors_judged) (n := 63) (k := 8) (x := "_law_script") (CX := fun _ => C8.CX0) (sp := fun w => OH.spLaw _) rfl (by decide) rfl ⟨rfl, by decide, by decide⟩ (fun w h Y => PySem.W.kIn_of Y) ?F (fun _ _ a ns hl _ hS => ⟨a, ns, rfl, hS, hl, fun _ => rfl⟩) (fun _ _ _ _ _ h => h)
  case F =>
    intro w mg fa h KX G hmg
    refine' OH.all_mk KX G hmg (OH.Bt.mk' KX G ?z0 ?z1 ?z2 ?z3 ?z4 ?z5 ?z6 ?z7 ?z8 ?z9 ?z10 ?z11 ?z12 ?z13 ?z14 ?z15) (OH.Rc.mk' (C := _) ?pg ?hd ?po ?sa ?n0 ?n1 ?n2 ?n3 ?n4 ?n5 ?n6 ?n7 ?n8) ?aR ?mk ?kc (OH.MM.mk' ?aI ?iI ?lI ?cI ?kI OH.hb_Rinit) (OH.DD.mk' KX G ?a_plus ?l_plus ?c_plus ?k_plus OH.hb_plus) (OH.DD.mk' KX G ?a_Lplus ?l_Lplus ?c_Lplus ?k_Lplus OH.hb_Lplus) (OH.DD.mk' KX G ?a_lesser ?l_lesser ?c_lesser ?k_lesser OH.hb_lesser) (OH.DD.mk' KX G ?a_Lless ?l_Lless ?c_Lless ?k_Lless OH.hb_Lless) (OH.DD.mk' KX G ?a_mores_of ?l_mores_of ?c_mores_of ?k_mores_of OH.hb_mores_of) (OH.DD.mk' KX G ?a_Lmores ?l_Lmores ?c_Lmores ?k_Lmores OH.hb_Lmores) (OH.DD.mk' KX G ?a_is_tree ?l_is_tree ?c_is_tree ?k_is_tree OH.hb_is_tree) (OH.DD.mk' KX G ?a_need_tree ?l_need_tree ?c_need_tree ?k_need_tree OH.hb_need_tree) (OH.DD.mk' KX G ?a_near_by ?l_near_by ?c_near_by ?k_near_by OH.hb_near_by) (OH.DD.mk' KX G ?a_Lnear ?l_Lnear ?c_Lnear ?k_Lnear OH.hb_Lnear) (OH.DD.mk' KX G ?a_keys_of ?l_keys_of ?c_keys_of ?k_keys_of OH.hb_keys_of) (OH.DD.mk' KX G ?a_Lkeys ?l_Lkeys ?c_Lkeys ?k_Lkeys OH.hb_Lkeys) (OH.DD.mk' KX G ?a_parents ?l_parents ?c_parents ?k_parents OH.hb_parents) (OH.DD.mk' KX G ?a_Lfars ?l_Lfars ?c_Lfars ?k_Lfars OH.hb_Lfars) (OH.DD.mk' KX G ?a_fars ?l_fars ?c_fars ?k_fars OH.hb_fars) (OH.DD.mk' KX G ?a_children ?l_children ?c_children ?k_children OH.hb_children) (OH.DD.mk' KX G ?a_below ?l_below ?c_below ?k_below OH.hb_below) (OH.DD.mk' KX G ?a_Lunder ?l_Lunder ?c_Lunder ?k_Lunder OH.hb_Lunder) (OH.DD.mk' KX G ?a_is_number ?l_is_number ?c_is_number ?k_is_number OH.hb_is_number) (OH.DD.mk' KX G ?a_is_greater ?l_is_greater ?c_is_greater ?k_is_greater OH.hb_is_greater) (OH.DD.mk' KX G ?a_is_row ?l_is_row ?c_is_row ?k_is_row OH.hb_is_row) (OH.DD.mk' KX G ?a_is_table ?l_is_table ?c_is_table ?k_is_table OH.hb_is_table) (OH.DD.mk' KX G ?a_holds ?l_holds ?c_holds ?k_holds OH.hb_holds) (OH.DD.mk' KX G ?a_low_of ?l_low_of ?c_low_of ?k_low_of OH.hb_low_of) (OH.DD.mk' KX G ?a_Lbegin ?l_Lbegin ?c_Lbegin ?k_Lbegin OH.hb_Lbegin) (OH.DD.mk' KX G ?a_Lmixed ?l_Lmixed ?c_Lmixed ?k_Lmixed OH.hb_Lmixed) (OH.DD.mk' KX G ?a_Ltake ?l_Ltake ?c_Ltake ?k_Ltake OH.hb_Ltake) (OH.DD.mk' KX G ?a_Lnumber ?l_Lnumber ?c_Lnumber ?k_Lnumber OH.hb_Lnumber) (OH.DD.mk' KX G ?a_Lorder ?l_Lorder ?c_Lorder ?k_Lorder OH.hb_Lorder) (OH.DD.mk' KX G ?a_Lnames ?l_Lnames ?c_Lnames ?k_Lnames OH.hb_Lnames) (OH.DD.mk' KX G ?a_Ltree ?l_Ltree ?c_Ltree ?k_Ltree OH.hb_Ltree) (OH.DD.mk' KX G ?a_Lsome ?l_Lsome ?c_Lsome ?k_Lsome OH.hb_Lsome) (OH.DD.mk' KX G ?a_Lcase ?l_Lcase ?c_Lcase ?k_Lcase OH.hb_Lcase) (OH.DD.mk' KX G ?a_Lshape ?l_Lshape ?c_Lshape ?k_Lshape OH.hb_Lshape) (OH.DD.mk' KX G ?a_Lbegun ?l_Lbegun ?c_Lbegun ?k_Lbegun OH.hb_Lbegun) (OH.DD.mk' KX G ?a_Lhanded ?l_Lhanded ?c_Lhanded ?k_Lhanded OH.hb_Lhanded) (OH.DD.mk' KX G ?a_Ldue ?l_Ldue ?c_Ldue ?k_Ldue OH.hb_Ldue) (OH.DD.mk' KX G ?a_Lwritten ?l_Lwritten ?c_Lwritten ?k_Lwritten OH.hb_Lwritten) (OH.DD.mk' KX G ?a_Lbent ?l_Lbent ?c_Lbent ?k_Lbent OH.hb_Lbent) (OH.DD.mk' KX G ?a_Ljudged ?l_Ljudged ?c_Ljudged ?k_Ljudged OH.hb_Ljudged) (OH.DD.mk' KX G ?a_Lopenings ?l_Lopenings ?c_Lopenings ?k_Lopenings OH.hb_Lopenings) (OH.DD.mk' KX G ?a_Lcost ?l_Lcost ?c_Lcost ?k_Lcost OH.hb_Lcost) (OH.DD.mk' KX G ?a_Lleast ?l_Lleast ?c_Lleast ?k_Lleast OH.hb_Lleast) (OH.DD.mk' KX G ?a_Lfloor ?l_Lfloor ?c_Lfloor ?k_Lfloor OH.hb_Lfloor) (OH.DD.mk' KX G ?a_Lbounds ?l_Lbounds ?c_Lbounds ?k_Lbounds OH.hb_Lbounds) (OH.MM.mk' ?a_Rbegun ?i_Rbegun ?l_Rbegun ?c_Rbegun ?k_Rbegun OH.hb_Rbegun) (OH.MM.mk' ?a_Rhanded ?i_Rhanded ?l_Rhanded ?c_Rhanded ?k_Rhanded OH.hb_Rhanded) (OH.MM.mk' ?a_Rwith_child ?i_Rwith_child ?l_Rwith_child ?c_Rwith_child ?k_Rwith_child OH.hb_Rwith_child) (OH.MM.mk' ?a_Rown ?i_Rown ?l_Rown ?c_Rown ?k_Rown OH.hb_Rown) (OH.MM.mk' ?a_Rroot ?i_Rroot ?l_Rroot ?c_Rroot ?k_Rroot OH.hb_Rroot) (OH.MM.mk' ?a_Rlow ?i_Rlow ?l_Rlow ?c_Rlow ?k_Rlow OH.hb_Rlow) (OH.MM.mk' ?a_Rsums ?i_Rsums ?l_Rsums ?c_Rsums ?k_Rsums OH.hb_Rsums) (OH.MM.mk' ?a_Rdue ?i_Rdue ?l_Rdue ?c_Rdue ?k_Rdue OH.hb_Rdue) (OH.LL.mk' KX G ?a_law ?l_law ?c_law)
    (case aR => k_is)
    (case pg => k_is)
    (case hd => k_is)
    (case po => k_is)
    (case sa => k_is)
    (case n0 => k_is)
    (case n1 => k_is)
    (case n2 => k_is)
    (case n3 => k_is)
    (case n4 => k_is)
    (case n5 => k_is)
    (case n6 => k_is)
    (case n7 => k_is)
    (case n8 => k_is)
    (case mk => k_is)
    (case kc => k_is)
    (case aI => k_is)
    (case iI => k_is)
    (case lI => k_is)
    (case cI => k_is)
    (case kI => k_is)
    (case a_plus => k_is)
    (case l_plus => k_is)
    (case c_plus => k_is)
    (case k_plus => k_is)
    (case a_Lplus => k_is)
    (case l_Lplus => k_is)
    (case c_Lplus => k_is)
    (case k_Lplus => k_is)
    (case a_lesser => k_is)
    (case l_lesser => k_is)
    (case c_lesser => k_is)
    (case k_lesser => k_is)
    (case a_Lless => k_is)
    (case l_Lless => k_is)
    (case c_Lless => k_is)
    (case k_Lless => k_is)
    (case a_mores_of => k_is)
    (case l_mores_of => k_is)
    (case c_mores_of => k_is)
    (case k_mores_of => k_is)
    (case a_Lmores => k_is)
    (case l_Lmores => k_is)
    (case c_Lmores => k_is)
    (case k_Lmores => k_is)
    (case a_is_tree => k_is)
    (case l_is_tree => k_is)
    (case c_is_tree => k_is)
    (case k_is_tree => k_is)
    (case a_need_tree => k_is)
    (case l_need_tree => k_is)
    (case c_need_tree => k_is)
    (case k_need_tree => k_is)
    (case a_near_by => k_is)
    (case l_near_by => k_is)
    (case c_near_by => k_is)
    (case k_near_by => k_is)
    (case a_Lnear => k_is)
    (case l_Lnear => k_is)
    (case c_Lnear => k_is)
    (case k_Lnear => k_is)
    (case a_keys_of => k_is)
    (case l_keys_of => k_is)
    (case c_keys_of => k_is)
    (case k_keys_of => k_is)
    (case a_Lkeys => k_is)
    (case l_Lkeys => k_is)
    (case c_Lkeys => k_is)
    (case k_Lkeys => k_is)
    (case a_parents => k_is)
    (case l_parents => k_is)
    (case c_parents => k_is)
    (case k_parents => k_is)
    (case a_Lfars => k_is)
    (case l_Lfars => k_is)
    (case c_Lfars => k_is)
    (case k_Lfars => k_is)
    (case a_fars => k_is)
    (case l_fars => k_is)
    (case c_fars => k_is)
    (case k_fars => k_is)
    (case a_children => k_is)
    (case l_children => k_is)
    (case c_children => k_is)
    (case k_children => k_is)
    (case a_below => k_is)
    (case l_below => k_is)
    (case c_below => k_is)
    (case k_below => k_is)
    (case a_Lunder => k_is)
    (case l_Lunder => k_is)
    (case c_Lunder => k_is)
    (case k_Lunder => k_is)
    (case a_is_number => k_is)
    (case l_is_number => k_is)
    (case c_is_number => k_is)
    (case k_is_number => k_is)
    (case a_is_greater => k_is)
    (case l_is_greater => k_is)
    (case c_is_greater => k_is)
    (case k_is_greater => k_is)
    (case a_is_row => k_is)
    (case l_is_row => k_is)
    (case c_is_row => k_is)
    (case k_is_row => k_is)
    (case a_is_table => k_is)
    (case l_is_table => k_is)
    (case c_is_table => k_is)
    (case k_is_table => k_is)
    (case a_holds => k_is)
    (case l_holds => k_is)
    (case c_holds => k_is)
    (case k_holds => k_is)
    (case a_low_of => k_is)
    (case l_low_of => k_is)
    (case c_low_of => k_is)
    (case k_low_of => k_is)
    (case a_Lbegin => k_is)
    (case l_Lbegin => k_is)
    (case c_Lbegin => k_is)
    (case k_Lbegin => k_is)
    (case a_Lmixed => k_is)
    (case l_Lmixed => k_is)
    (case c_Lmixed => k_is)
    (case k_Lmixed => k_is)
    (case a_Ltake => k_is)
    (case l_Ltake => k_is)
    (case c_Ltake => k_is)
    (case k_Ltake => k_is)
    (case a_Lnumber => k_is)
    (case l_Lnumber => k_is)
    (case c_Lnumber => k_is)
    (case k_Lnumber => k_is)
    (case a_Lorder => k_is)
    (case l_Lorder => k_is)
    (case c_Lorder => k_is)
    (case k_Lorder => k_is)
    (case a_Lnames => k_is)
    (case l_Lnames => k_is)
    (case c_Lnames => k_is)
    (case k_Lnames => k_is)
    (case a_Ltree => k_is)
    (case l_Ltree => k_is)
    (case c_Ltree => k_is)
    (case k_Ltree => k_is)
    (case a_Lsome => k_is)
    (case l_Lsome => k_is)
    (case c_Lsome => k_is)
    (case k_Lsome => k_is)
    (case a_Lcase => k_is)
    (case l_Lcase => k_is)
    (case c_Lcase => k_is)
    (case k_Lcase => k_is)
    (case a_Lshape => k_is)
    (case l_Lshape => k_is)
    (case c_Lshape => k_is)
    (case k_Lshape => k_is)
    (case a_Lbegun => k_is)
    (case l_Lbegun => k_is)
    (case c_Lbegun => k_is)
    (case k_Lbegun => k_is)
    (case a_Lhanded => k_is)
    (case l_Lhanded => k_is)
    (case c_Lhanded => k_is)
    (case k_Lhanded => k_is)
    (case a_Ldue => k_is)
    (case l_Ldue => k_is)
    (case c_Ldue => k_is)
    (case k_Ldue => k_is)
    (case a_Lwritten => k_is)
    (case l_Lwritten => k_is)
    (case c_Lwritten => k_is)
    (case k_Lwritten => k_is)
    (case a_Lbent => k_is)
    (case l_Lbent => k_is)
    (case c_Lbent => k_is)
    (case k_Lbent => k_is)
    (case a_Ljudged => k_is)
    (case l_Ljudged => k_is)
    (case c_Ljudged => k_is)
    (case k_Ljudged => k_is)
    (case a_Lopenings => k_is)
    (case l_Lopenings => k_is)
    (case c_Lopenings => k_is)
    (case k_Lopenings => k_is)
    (case a_Lcost => k_is)
    (case l_Lcost => k_is)
    (case c_Lcost => k_is)
    (case k_Lcost => k_is)
    (case a_Lleast => k_is)
    (case l_Lleast => k_is)
    (case c_Lleast => k_is)
    (case k_Lleast => k_is)
    (case a_Lfloor => k_is)
    (case l_Lfloor => k_is)
    (case c_Lfloor => k_is)
    (case k_Lfloor => k_is)
    (case a_Lbounds => k_is)
    (case l_Lbounds => k_is)
    (case c_Lbounds => k_is)
    (case k_Lbounds => k_is)
    (case a_Rbegun => k_is)
    (case i_Rbegun => k_is)
    (case l_Rbegun => k_is)
    (case c_Rbegun => k_is)
    (case k_Rbegun => k_is)
    (case a_Rhanded => k_is)
    (case i_Rhanded => k_is)
    (case l_Rhanded => k_is)
    (case c_Rhanded => k_is)
    (case k_Rhanded => k_is)
    (case a_Rwith_child => k_is)
    (case i_Rwith_child => k_is)
    (case l_Rwith_child => k_is)
    (case c_Rwith_child => k_is)
    (case k_Rwith_child => k_is)
    (case a_Rown => k_is)
    (case i_Rown => k_is)
    (case l_Rown => k_is)
    (case c_Rown => k_is)
    (case k_Rown => k_is)
    (case a_Rroot => k_is)
    (case i_Rroot => k_is)
    (case l_Rroot => k_is)
    (case c_Rroot => k_is)
    (case k_Rroot => k_is)
    (case a_Rlow => k_is)
    (case i_Rlow => k_is)
    (case l_Rlow => k_is)
    (case c_Rlow => k_is)
    (case k_Rlow => k_is)
    (case a_Rsums => k_is)
    (case i_Rsums => k_is)
    (case l_Rsums => k_is)
    (case c_Rsums => k_is)
    (case k_Rsums => k_is)
    (case a_Rdue => k_is)
    (case i_Rdue => k_is)
    (case l_Rdue => k_is)
    (case c_Rdue => k_is)
    (case k_Rdue => k_is)
    (case a_law => k_is)
    (case l_law => k_is)
    (case c_law => k_is)
    (case z0 => k_is)
    (case z1 => k_is)
    (case z2 => k_is)
    (case z3 => k_is)
    (case z4 => k_is)
    (case z5 => k_is)
    (case z6 => k_is)
    (case z7 => k_is)
    (case z8 => k_is)
    (case z9 => k_is)
    (case z10 => k_is)
    (case z11 => k_is)
    (case z12 => k_is)
    (case z13 => k_is)
    (case z14 => k_is)
    (case z15 => k_is)
