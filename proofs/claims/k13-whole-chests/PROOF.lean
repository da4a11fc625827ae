import PyProof.Rows.All
import PySem.PyData
import Wide.All
import OpenK.AllK
import Wide.FinOn
import HandS.ForMost
import HandS.Deep
import KE.KSuper
import HandS.More
import KE.KeyNested
import KE.KDictCopyH
import KE.KDictWalk
import KE.KDictPairs
import HandS.DictComp
import HandS.MakeKwOnly
import HandS.OwnEq
import PyProof.InstNe
import HandS.SortInts
import HandS.SortRule
import PyProof.ReprRoads
import HandS.IsInst
import HandS.Zip
import HandS.Style
import HandS.Walk
import HandS.CallLocal
import PySem.Challenge.RW_sealshelf_k13_whole_chests
import HandS.Star
import HandS.Text
import HandS.Conv
import HandS.SetFor
import PyProof.P3In
import HandS.TupAny
set_option Elab.async false
set_option linter.all false
set_option maxRecDepth 100000
set_option maxHeartbeats 4000000
namespace K13
open PySem

/-! ### things, boxes, what is opened -/
inductive Th where
  | key (k : Int)
  | txt (x : Str) (n : Int)
  deriving DecidableEq
abbrev Bx := Th × List Int
inductive Cl (ks : List Int) (bs : List Bx) : Th → Prop
  | base {k : Int} (h : k ∈ ks) : Cl ks bs (.key k)
  | step {t : Th} {ns : List Int} (h : (t, ns) ∈ bs) (a : ∀ n, n ∈ ns → Cl ks bs (.key n)) : Cl ks bs t
theorem Cl.mono {ks ls : List Int} {bs cs : List Bx} (h1 : ∀ k, k ∈ ks → k ∈ ls) (h2 : ∀ b, b ∈ bs → b ∈ cs) {t : Th} (h : Cl ks bs t) : Cl ls cs t := by
  induction h with
  | base h => exact .base (h1 _ h)
  | step h a ih => exact .step (h2 _ h) ih

/-! ### sorted lists of ints -/
abbrev SS (l : List Int) : Prop := l.Pairwise (· < ·)
theorem ss_ext : ∀ {l m : List Int}, SS l → SS m → (∀ k, k ∈ l ↔ k ∈ m) → l = m
  | [], [], _, _, _ => rfl
  | [], y :: m, _, _, h => absurd ((h y).mpr List.mem_cons_self) (by simp)
  | x :: l, [], _, _, h => absurd ((h x).mp List.mem_cons_self) (by simp)
  | x :: l, y :: m, hl, hm, h => by
    obtain ⟨l1, l2⟩ := List.pairwise_cons.mp hl
    obtain ⟨m1, m2⟩ := List.pairwise_cons.mp hm
    have e : x = y := by
      rcases List.mem_cons.mp ((h x).mp List.mem_cons_self) with e | e
      · exact e
      · rcases List.mem_cons.mp ((h y).mpr List.mem_cons_self) with e' | e'
        · exact e'.symm
        · have q1 := m1 x e
          have q2 := l1 y e'
          omega
    subst e
    have : l = m := ss_ext l2 m2 fun k => by
      constructor
      · intro hk
        rcases List.mem_cons.mp ((h k).mp (List.mem_cons_of_mem _ hk)) with e | e
        · have := l1 k hk
          omega
        · exact e
      · intro hk
        rcases List.mem_cons.mp ((h k).mpr (List.mem_cons_of_mem _ hk)) with e | e
        · have := m1 k hk
          omega
        · exact e
    rw [this]
def leB (a b : Int) : Bool := decide (a ≤ b)
def srt (l : List Int) : List Int := l.mergeSort leB
theorem srt_perm (l : List Int) : (srt l).Perm l := List.mergeSort_perm l _
theorem leB_tr (a b c : Int) : leB a b = true → leB b c = true → leB a c = true := by
  unfold leB; simp only [decide_eq_true_eq]; omega
theorem leB_tot (a b : Int) : (leB a b || leB b a) = true := by
  unfold leB; simp only [Bool.or_eq_true, decide_eq_true_eq]; omega
theorem srt_pw (l : List Int) : (srt l).Pairwise fun a b => leB a b = true := List.pairwise_mergeSort (fun a b c => leB_tr a b c) (fun a b => leB_tot a b) l
theorem mem_srt {l : List Int} {k : Int} : k ∈ srt l ↔ k ∈ l := (srt_perm l).mem_iff
theorem srt_uniq {l m : List Int} (p : m.Perm l) (h : m.Pairwise fun a b => a ≤ b) : m = srt l := by
  refine List.Perm.eq_of_pairwise (le := fun a b => a ≤ b) ?_ h ?_ (p.trans (srt_perm l).symm)
  · intro a b _ _ h1 h2; omega
  · exact (srt_pw l).imp fun h => of_decide_eq_true h
theorem srt_ss {l : List Int} (h : l.Nodup) : SS (srt l) := by
  have nd : (srt l).Nodup := (srt_perm l).nodup_iff.mpr h
  exact List.Pairwise.imp₂ (R := fun a b => leB a b = true) (S := fun a b => a ≠ b) (fun a b h1 h2 => by have := of_decide_eq_true h1; omega) (srt_pw l) nd
theorem srt_map (m : Int) (l : List Int) : (srt l).map (· + m) = srt (l.map (· + m)) := by
  refine srt_uniq ((srt_perm l).map _) ?_
  rw [List.pairwise_map]
  exact (srt_pw l).imp fun h => by have := of_decide_eq_true h; omega
theorem ss_map {m : Int} {l : List Int} (h : SS l) : SS (l.map (· + m)) := by
  rw [SS, List.pairwise_map]
  exact h.imp fun h => by omega
theorem SS.nodup {l : List Int} (h : SS l) : l.Nodup := h.imp fun h => by omega
theorem srt_id {l : List Int} (h : SS l) : srt l = l := (srt_uniq (List.Perm.refl _) (h.imp fun h => by omega)).symm

/-! ### the boxes made from boxes -/
def shT (m : Int) : Th → Th
  | .key k => .key (k + m)
  | .txt x n => .txt x n
def shB (m : Int) (b : Bx) : Bx := (shT m b.1, b.2.map (· + m))
def shift (m : Int) (bs : List Bx) : List Bx := bs.map (shB m)
def keepB (k : Int) (b : Bx) : Bool := decide (b.1 ≠ .key k) && decide (k ∉ b.2)
def without (k : Int) (bs : List Bx) : List Bx := bs.filter (keepB k)
def swapK (k e : Int) (l : List Int) : List Int := srt (l.filter (fun j => decide (j ≠ k)) ++ [e])
def hasB (k e : Int) (b : Bx) : Bool := decide (k ∈ b.2) && !(decide (b.1 = .key e) || decide (e ∈ b.2))
def dblB (k e : Int) (b : Bx) : List Bx := if hasB k e b = true then [b, (b.1, swapK k e b.2)] else [b]
def double (k e : Int) (bs : List Bx) : List Bx := bs.flatMap (dblB k e)

theorem shT_add (a b : Int) (t : Th) : shT b (shT a t) = shT (a + b) t := by
  cases t with
  | key k => show Th.key (k + a + b) = Th.key (k + (a + b)); rw [Int.add_assoc]
  | txt x n => rfl
theorem shB_add (a b : Int) (c : Bx) : shB b (shB a c) = shB (a + b) c := by
  unfold shB
  simp only [shT_add, List.map_map]
  congr 1
  apply List.map_congr_left
  intro k _
  show k + a + b = k + (a + b)
  omega
theorem shift_add (a b : Int) (bs : List Bx) : shift b (shift a bs) = shift (a + b) bs := by
  unfold shift
  rw [List.map_map]
  apply List.map_congr_left
  intro c _
  exact shB_add a b c
theorem shift_length (m : Int) (bs : List Bx) : (shift m bs).length = bs.length := by unfold shift; simp
theorem without_twice (k : Int) (bs : List Bx) : without k (without k bs) = without k bs := by
  unfold without
  rw [List.filter_filter]
  simp
theorem without_sub {k : Int} {bs : List Bx} {b : Bx} (h : b ∈ without k bs) : b ∈ bs := (List.mem_filter.mp h).1
theorem mem_swapK {k e j : Int} {l : List Int} : j ∈ swapK k e l ↔ (j ∈ l ∧ j ≠ k) ∨ j = e := by
  unfold swapK
  rw [mem_srt, List.mem_append, List.mem_filter]
  simp
theorem without_dblB (k e : Int) (b : Bx) : (dblB k e b).filter (keepB e) = [b].filter (keepB e) := by
  unfold dblB
  split
  · have h : keepB e (b.1, swapK k e b.2) = false := by
      unfold keepB
      rw [Bool.and_eq_false_iff]
      right
      have : e ∈ swapK k e b.2 := mem_swapK.mpr (.inr rfl)
      simpa using this
    rw [List.filter_cons, List.filter_cons, List.filter_nil, h]
    simp [List.filter_cons]
  · rfl
theorem without_double (k e : Int) : ∀ bs : List Bx, without e (double k e bs) = without e bs
  | [] => rfl
  | b :: bs => by
    show ((dblB k e b) ++ (double k e bs)).filter (keepB e) = without e ([b] ++ bs)
    rw [List.filter_append, without_dblB]
    have := without_double k e bs
    unfold without at this ⊢
    rw [this, List.filter_append]
theorem sub_double {k e : Int} {bs : List Bx} {b : Bx} (h : b ∈ bs) : b ∈ double k e bs := by
  unfold double
  rw [List.mem_flatMap]
  refine ⟨b, h, ?_⟩
  unfold dblB
  split <;> simp
theorem of_double {k e : Int} {bs : List Bx} {c : Bx} (h : c ∈ double k e bs) : c ∈ bs ∨ ∃ b, b ∈ bs ∧ hasB k e b = true ∧ c = (b.1, swapK k e b.2) := by
  unfold double at h
  rw [List.mem_flatMap] at h
  obtain ⟨b, hb, hc⟩ := h
  unfold dblB at hc
  split at hc
  · rename_i q
    rcases List.mem_cons.mp hc with e | hc
    · exact .inl (e ▸ hb)
    · rcases List.mem_cons.mp hc with e | hc
      · exact .inr ⟨b, hb, q, e⟩
      · cases hc
  · rcases List.mem_cons.mp hc with e | hc
    · exact .inl (e ▸ hb)
    · cases hc

/-! ### shifting and what is opened -/
theorem shT_inj {m : Int} {s t : Th} (h : shT m s = shT m t) : s = t := by
  cases s with
  | key a =>
    cases t with
    | key b =>
      have : a + m = b + m := Th.key.inj h
      have : a = b := by omega
      rw [this]
    | txt x n => cases h
  | txt x n =>
    cases t with
    | key b => cases h
    | txt y k => exact h
theorem cl_shift {m : Int} {ks : List Int} {bs : List Bx} {t : Th} (h : Cl ks bs t) : Cl (ks.map (· + m)) (shift m bs) (shT m t) := by
  induction h with
  | base h => exact .base (List.mem_map.mpr ⟨_, h, rfl⟩)
  | step h a ih =>
    refine .step (ns := _) (List.mem_map.mpr ⟨_, h, rfl⟩) fun n hn => ?_
    obtain ⟨j, hj, rfl⟩ := List.mem_map.mp hn
    exact ih j hj
theorem cl_unshift {m : Int} {ks : List Int} {bs : List Bx} {t : Th} (h : Cl (ks.map (· + m)) (shift m bs) t) : ∃ s, t = shT m s ∧ Cl ks bs s := by
  induction h with
  | base h =>
    obtain ⟨j, hj, rfl⟩ := List.mem_map.mp h
    exact ⟨.key j, rfl, .base hj⟩
  | step h a ih =>
    obtain ⟨⟨s, ns⟩, hb, e⟩ := List.mem_map.mp h
    have e1 := congrArg Prod.fst e
    have e2 := congrArg Prod.snd e
    refine ⟨s, e1.symm, .step hb fun n hn => ?_⟩
    obtain ⟨s', e', c⟩ := ih (n + m) (by
      have q : n + m ∈ (shB m (s, ns)).2 := List.mem_map.mpr ⟨n, hn, rfl⟩
      rw [e2] at q
      exact q)
    cases s' with
    | key j =>
      have q : n + m = j + m := Th.key.inj e'
      have : n = j := by omega
      rw [this]
      exact c
    | txt x k => cases e'

/-! ### what opened gives -/
/-- texts in strict order: by their codes, then by their numbers -/
def ltT (p q : Str × Int) : Bool := decide (p.1.cps.toList < q.1.cps.toList) || (decide (p.1 = q.1) && decide (p.2 < q.2))
structure Opn (ks : List Int) (bs : List Bx) (ns : List Int) (ts : List (Str × Int)) : Prop where
  s1 : SS ns
  s2 : ts.Pairwise fun p q => ltT p q = true
  m1 : ∀ k, k ∈ ns ↔ Cl ks bs (.key k)
  m2 : ∀ p : Str × Int, p ∈ ts ↔ Cl ks bs (.txt p.1 p.2)
theorem str_ext {x y : Str} (h : x.cps.toList = y.cps.toList) : x = y := by
  obtain ⟨⟨a⟩⟩ := x
  obtain ⟨⟨b⟩⟩ := y
  have : a = b := h
  rw [this]
theorem nlt_irrefl : ∀ l : List Nat, ¬ l < l := fun l => List.lt_irrefl l
theorem ltT_irrefl (p : Str × Int) : ltT p p = false := by
  unfold ltT
  have h : ¬ p.1.cps.toList < p.1.cps.toList := nlt_irrefl _
  simp [h]
theorem ltT_asymm {p q : Str × Int} (h : ltT p q = true) : ltT q p = false := by
  unfold ltT at h ⊢
  simp only [Bool.or_eq_true, Bool.and_eq_true, decide_eq_true_eq] at h
  simp only [Bool.or_eq_false_iff, Bool.and_eq_false_iff, decide_eq_false_iff_not]
  rcases h with h | ⟨h1, h2⟩
  · refine ⟨List.lt_asymm h, .inl fun e => ?_⟩
    rw [e] at h
    exact nlt_irrefl _ h
  · refine ⟨fun g => ?_, .inr (by omega)⟩
    rw [h1] at g
    exact nlt_irrefl _ g
theorem ltT_total {p q : Str × Int} (h1 : ltT p q = false) (h2 : ltT q p = false) : p = q := by
  unfold ltT at h1 h2
  simp only [Bool.or_eq_false_iff, Bool.and_eq_false_iff, decide_eq_false_iff_not] at h1 h2
  have e : p.1 = q.1 := str_ext (List.le_antisymm (List.not_lt.mp h2.1) (List.not_lt.mp h1.1))
  have e2 : p.2 = q.2 := by
    have a := h1.2.resolve_left (fun z => z e)
    have b := h2.2.resolve_left (fun z => z e.symm)
    omega
  exact Prod.ext e e2
theorem st_ext : ∀ {l m : List (Str × Int)}, (l.Pairwise fun p q => ltT p q = true) → (m.Pairwise fun p q => ltT p q = true) → (∀ k, k ∈ l ↔ k ∈ m) → l = m
  | [], [], _, _, _ => rfl
  | [], y :: m, _, _, h => absurd ((h y).mpr List.mem_cons_self) (by simp)
  | x :: l, [], _, _, h => absurd ((h x).mp List.mem_cons_self) (by simp)
  | x :: l, y :: m, hl, hm, h => by
    obtain ⟨l1, l2⟩ := List.pairwise_cons.mp hl
    obtain ⟨m1, m2⟩ := List.pairwise_cons.mp hm
    have e : x = y := by
      rcases List.mem_cons.mp ((h x).mp List.mem_cons_self) with e | e
      · exact e
      · rcases List.mem_cons.mp ((h y).mpr List.mem_cons_self) with e' | e'
        · exact e'.symm
        · have q1 := m1 x e
          have q2 := ltT_asymm (l1 y e')
          rw [q1] at q2
          cases q2
    subst e
    have : l = m := st_ext l2 m2 fun k => by
      constructor
      · intro hk
        rcases List.mem_cons.mp ((h k).mp (List.mem_cons_of_mem _ hk)) with e | e
        · have := l1 k hk
          rw [e, ltT_irrefl] at this
          cases this
        · exact e
      · intro hk
        rcases List.mem_cons.mp ((h k).mpr (List.mem_cons_of_mem _ hk)) with e | e
        · have := m1 k hk
          rw [e, ltT_irrefl] at this
          cases this
        · exact e
    rw [this]
theorem Opn.uniq {ks ls : List Int} {bs cs : List Bx} {ns ns' : List Int} {ts ts' : List (Str × Int)} (h : Opn ks bs ns ts) (h' : Opn ls cs ns' ts') (e : ∀ t, Cl ks bs t ↔ Cl ls cs t) : ns = ns' ∧ ts = ts' :=
  ⟨ss_ext h.s1 h'.s1 fun k => (h.m1 k).trans ((e _).trans (h'.m1 k).symm), st_ext h.s2 h'.s2 fun p => (h.m2 p).trans ((e _).trans (h'.m2 p).symm)⟩
theorem Opn.shift {m : Int} {ks : List Int} {bs : List Bx} {ns ns' : List Int} {ts ts' : List (Str × Int)} (h : Opn ks bs ns ts) (h' : Opn (ks.map (· + m)) (shift m bs) ns' ts') : ns' = ns.map (· + m) ∧ ts' = ts := by
  refine ⟨ss_ext h'.s1 (ss_map h.s1) fun k => ?_, st_ext h'.s2 h.s2 fun p => ?_⟩
  · rw [h'.m1]
    constructor
    · intro c
      obtain ⟨s, e, c⟩ := cl_unshift c
      cases s with
      | key j =>
        have e2 : k = j + m := Th.key.inj e
        rw [e2]
        exact List.mem_map.mpr ⟨j, (h.m1 j).mpr c, rfl⟩
      | txt x n => cases e
    · intro c
      obtain ⟨j, hj, rfl⟩ := List.mem_map.mp c
      exact cl_shift ((h.m1 j).mp hj)
  · rw [h'.m2, h.m2]
    constructor
    · intro c
      obtain ⟨s, e, c⟩ := cl_unshift c
      cases s with
      | key j => cases e
      | txt x n =>
        injection e with e1 e2
        rw [e1, e2]
        exact c
    · intro c
      exact cl_shift (m := m) c

/-! ### leaving a key out -/
theorem cl_without {k : Int} {ks : List Int} {bs : List Bx} {t : Th} (h : Cl ks (without k bs) t) (e : t = .key k) : k ∈ ks := by
  cases h with
  | base h =>
    injection e with e
    exact e ▸ h
  | step h a =>
    have q := (List.mem_filter.mp h).2
    unfold keepB at q
    rw [Bool.and_eq_true] at q
    exact absurd e (of_decide_eq_true q.1)

/-! ### doubling -/
/-- neither a thing nor a key of the boxes -/
def Far (e : Int) (bs : List Bx) : Prop := ∀ b, b ∈ bs → b.1 ≠ .key e ∧ e ∉ b.2
theorem cl_far {e : Int} {ks : List Int} {bs : List Bx} (hk : e ∉ ks) (hb : Far e bs) : ¬ Cl ks bs (.key e) := by
  intro h
  cases h with
  | base h => exact hk h
  | step h a => exact (hb _ h).1 rfl
theorem cl_double_far {k e : Int} {ks : List Int} {bs : List Bx} (hk : e ∉ ks) (hb : Far e bs) {t : Th} (h : Cl ks (double k e bs) t) : Cl ks bs t := by
  induction h with
  | base h => exact .base h
  | step h a ih =>
    rcases of_double h with h | ⟨b, _, _, eb⟩
    · exact .step h ih
    · injection eb with e1 e2
      have : e ∈ swapK k e b.2 := mem_swapK.mpr (.inr rfl)
      rw [← e2] at this
      exact absurd (ih e this) (cl_far hk hb)
theorem cl_double_in {k e : Int} {ks : List Int} {bs : List Bx} (hb : Far e bs) {t : Th} (h : Cl ks bs t) : t ≠ .key k → Cl (ks.filter (fun j => decide (j ≠ k)) ++ [e]) (double k e bs) t := by
  induction h with
  | @base j h =>
    intro ne
    refine .base (List.mem_append_left _ (List.mem_filter.mpr ⟨h, ?_⟩))
    have : j ≠ k := fun q => ne (by rw [q])
    simpa using this
  | @step t ns h a ih =>
    intro ne
    by_cases hk : k ∈ ns
    · have hs : hasB k e (t, ns) = true := by
        have := hb _ h
        unfold hasB
        simp only [hk, decide_true, Bool.true_and, Bool.not_eq_true', Bool.or_eq_false_iff, decide_eq_false_iff_not]
        exact this
      refine .step (ns := swapK k e ns) ?_ fun n hn => ?_
      · unfold double
        rw [List.mem_flatMap]
        refine ⟨_, h, ?_⟩
        unfold dblB
        rw [if_pos hs]
        simp
      · rcases mem_swapK.mp hn with ⟨h1, h2⟩ | h1
        · exact ih n h1 fun q => h2 (Th.key.inj q)
        · rw [h1]
          exact .base (List.mem_append_right _ (by simp))
    · refine .step (sub_double h) fun n hn => ih n hn fun q => ?_
      have : n = k := Th.key.inj q
      rw [this] at hn
      exact hk hn
theorem without_far {e : Int} {bs : List Bx} (hb : Far e bs) : without e bs = bs := by
  unfold without
  rw [List.filter_eq_self]
  intro b h
  have := hb b h
  unfold keepB
  simp [this.1, this.2]

/-! ### doubling and shifting -/
theorem mem_add {m k : Int} {l : List Int} : k + m ∈ l.map (· + m) ↔ k ∈ l := by
  rw [List.mem_map]
  constructor
  · rintro ⟨j, hj, e⟩
    have : j = k := by omega
    exact this ▸ hj
  · intro h
    exact ⟨k, h, rfl⟩
theorem swapK_map (m k e : Int) (l : List Int) : (swapK k e l).map (· + m) = swapK (k + m) (e + m) (l.map (· + m)) := by
  unfold swapK
  rw [srt_map, List.map_append, List.filter_map]
  congr 2
  congr 1
  apply List.filter_congr
  intro j _
  show decide (j ≠ k) = decide (j + m ≠ k + m)
  by_cases h : j = k
  · simp [h]
  · have : j + m ≠ k + m := by omega
    simp [h, this]
theorem hasB_sh (m k e : Int) (b : Bx) : hasB (k + m) (e + m) (shB m b) = hasB k e b := by
  unfold hasB shB
  have h1 : decide (shT m b.1 = Th.key (e + m)) = decide (b.1 = Th.key e) := by
    by_cases h : b.1 = Th.key e
    · rw [h]
      have : shT m (Th.key e) = Th.key (e + m) := rfl
      simp [this]
    · have : shT m b.1 ≠ Th.key (e + m) := fun q => h (shT_inj (m := m) q)
      simp [h, this]
  have h2 : decide (k + m ∈ b.2.map (· + m)) = decide (k ∈ b.2) := decide_eq_decide.mpr mem_add
  have h3 : decide (e + m ∈ b.2.map (· + m)) = decide (e ∈ b.2) := decide_eq_decide.mpr mem_add
  show (decide (k + m ∈ b.2.map (· + m)) && !(decide (shT m b.1 = Th.key (e + m)) || decide (e + m ∈ b.2.map (· + m)))) = _
  rw [h1, h2, h3]
theorem dblB_sh (m k e : Int) (b : Bx) : (dblB k e b).map (shB m) = dblB (k + m) (e + m) (shB m b) := by
  unfold dblB
  rw [hasB_sh]
  split
  · show [shB m b, shB m (b.1, swapK k e b.2)] = [shB m b, ((shB m b).1, swapK (k + m) (e + m) (shB m b).2)]
    have : shB m (b.1, swapK k e b.2) = ((shB m b).1, swapK (k + m) (e + m) (shB m b).2) := by
      show (shT m b.1, (swapK k e b.2).map (· + m)) = (shT m b.1, swapK (k + m) (e + m) (b.2.map (· + m)))
      rw [swapK_map]
    rw [this]
  · rfl
theorem shift_double (m k e : Int) : ∀ bs : List Bx, shift m (double k e bs) = double (k + m) (e + m) (shift m bs)
  | [] => rfl
  | b :: bs => by
    show (dblB k e b ++ double k e bs).map (shB m) = dblB (k + m) (e + m) (shB m b) ++ double (k + m) (e + m) (shift m bs)
    rw [List.map_append, dblB_sh, ← shift_double m k e bs]
    rfl

/-! ### good boxes -/
def low (x : Str) : Prop := 1 ≤ x.cps.size ∧ x.cps.size ≤ 8 ∧ ∀ c, c ∈ x.cps.toList → 97 ≤ c ∧ c ≤ 122
def goodT : Th → Prop
  | .key k => 0 ≤ k
  | .txt x n => low x ∧ 0 ≤ n
structure Good (b : Bx) : Prop where
  t : goodT b.1
  ne : b.2 ≠ []
  ss : SS b.2
  nn : ∀ k, k ∈ b.2 → 0 ≤ k
  own : ∀ k, b.1 = .key k → k ∉ b.2
def Goods (bs : List Bx) : Prop := ∀ b, b ∈ bs → Good b
theorem good_shift {m : Int} (hm : 0 ≤ m) {bs : List Bx} (h : Goods bs) : Goods (shift m bs) := by
  intro c hc
  obtain ⟨b, hb, rfl⟩ := List.mem_map.mp hc
  have g := h b hb
  refine ⟨?_, ?_, ss_map g.ss, ?_, ?_⟩
  · have gt := g.t
    show goodT (shT m b.1)
    cases e : b.1 with
    | key k =>
      rw [e] at gt
      have : (0 : Int) ≤ k := gt
      show 0 ≤ k + m
      omega
    | txt x n =>
      rw [e] at gt
      exact gt
  · show b.2.map (· + m) ≠ []
    intro q
    exact g.ne (List.map_eq_nil_iff.mp q)
  · intro k hk
    obtain ⟨j, hj, rfl⟩ := List.mem_map.mp hk
    have := g.nn j hj
    show 0 ≤ j + m
    omega
  · intro k e hk
    obtain ⟨j, hj, rfl⟩ := List.mem_map.mp hk
    have e2 : b.1 = .key j := shT_inj (m := m) e
    exact g.own j e2 hj
theorem good_without {k : Int} {bs : List Bx} (h : Goods bs) : Goods (without k bs) := fun b hb => h b (without_sub hb)
theorem filter_ss {p : Int → Bool} {l : List Int} (h : SS l) : SS (l.filter p) := h.sublist List.filter_sublist
theorem good_double {k e : Int} (he : 0 ≤ e) {bs : List Bx} (h : Goods bs) : Goods (double k e bs) := by
  intro c hc
  rcases of_double hc with hc | ⟨b, hb, hs, rfl⟩
  · exact h c hc
  · have g := h b hb
    unfold hasB at hs
    simp only [Bool.and_eq_true, Bool.not_eq_true', Bool.or_eq_false_iff, decide_eq_true_eq, decide_eq_false_iff_not] at hs
    refine ⟨g.t, ?_, ?_, ?_, ?_⟩
    · intro q
      have : e ∈ swapK k e b.2 := mem_swapK.mpr (.inr rfl)
      have q' : swapK k e b.2 = [] := q
      rw [q'] at this
      cases this
    · refine srt_ss ?_
      rw [List.nodup_append]
      refine ⟨(filter_ss g.ss).nodup, by simp, ?_⟩
      intro x hx y hy q
      have hy : y = e := by simpa using hy
      have hx := (List.mem_filter.mp hx).1
      rw [q, hy] at hx
      exact hs.2.2 hx
    · intro j hj
      rcases mem_swapK.mp hj with ⟨h1, _⟩ | h1
      · exact g.nn j h1
      · omega
    · intro j e1 hj
      rcases mem_swapK.mp hj with ⟨h1, _⟩ | h1
      · exact g.own j e1 h1
      · rw [h1] at e1
        exact hs.2.1 e1
/-- every key and every key that is a thing is below n -/
def Below (n : Int) (bs : List Bx) : Prop := ∀ b, b ∈ bs → (∀ k, k ∈ b.2 → k < n) ∧ ∀ k, b.1 = .key k → k < n
theorem Below.far {n e : Int} {bs : List Bx} (h : Below n bs) (he : n ≤ e) : Far e bs := fun b hb => ⟨fun q => by have := (h b hb).2 e q; omega, fun q => by have := (h b hb).1 e q; omega⟩
end K13

namespace K13
open PySem PySem.Spec PyProof.Rows L2

/-! ### data of this program -/
def thD : Th → PyData
  | .key k => .int k
  | .txt x n => .tuple [.str x, .int n]
def nsD (l : List Int) : PyData := .tuple (l.map PyData.int)
def bxD (b : Bx) : PyData := .tuple [thD b.1, nsD b.2]
def bsD (bs : List Bx) : PyData := .tuple (bs.map bxD)
def txD (p : Str × Int) : PyData := .tuple [.str p.1, .int p.2]
def tsD (l : List (Str × Int)) : PyData := .tuple (l.map txD)
def prD (p : List Int × List (Str × Int)) : PyData := .tuple [nsD p.1, tsD p.2]

/-! ### the heap's tuples stay -/
def TK (H H' : Hp) : Prop := ∀ b xs, H b = some (.tup xs) → H' b = some (.tup xs)
theorem TK.refl (H : Hp) : TK H H := fun _ _ h => h
theorem TK.trans {H H1 H2 : Hp} (a : TK H H1) (b : TK H1 H2) : TK H H2 := fun c xs h => b c xs (a c xs h)
theorem TK.new {H : Hp} {p : Addr} {o : HO} (h : H p = none) : TK H (upd H p o) := fun b xs e => by rw [upd_ne (ne_of_none e h)]; exact e
theorem TK.put {H : Hp} {p : Addr} {o u : HO} (h : H p = some u) (n : ∀ xs, u ≠ .tup xs) : TK H (upd H p o) := fun b xs e => by
  rw [upd_ne (fun z => n xs (by rw [z, h] at e; exact Option.some.inj e))]
  exact e
theorem TK.of {H H' : Hp} (s : Same H H') : TK H H' := fun b xs h => s b _ h
theorem Same.new {H : Hp} {p : Addr} {o : HO} (h : H p = none) : Same H (upd H p o) := fun b u e => by rw [upd_ne (ne_of_none e h)]; exact e
/-- a heap grown over H; the new object at p is written -/
theorem Same.at_new {H H1 : Hp} {p : Addr} {o : HO} (s : Same H H1) (h : H p = none) : Same H (upd H1 p o) := fun b u e => by rw [upd_ne (ne_of_none e h)]; exact s b u e

/-! ### values in a heap -/
def thV (H : Hp) : V → Th → Prop
  | v, .key k => v = .int k
  | v, .txt x n => ∃ a, v = .ref a ∧ H a = some (.tup [.str x, .int n])
def nsV (H : Hp) (v : V) (l : List Int) : Prop := ∃ a, v = .ref a ∧ H a = some (.tup (l.map V.int))
def bxV (H : Hp) (v : V) (b : Bx) : Prop := ∃ a vt vk, v = .ref a ∧ H a = some (.tup [vt, vk]) ∧ thV H vt b.1 ∧ nsV H vk b.2
def bsV (H : Hp) (v : V) (bs : List Bx) : Prop := ∃ a vs, v = .ref a ∧ H a = some (.tup vs) ∧ Paired (bxV H) vs bs
def txV (H : Hp) (v : V) (p : Str × Int) : Prop := ∃ a, v = .ref a ∧ H a = some (.tup [.str p.1, .int p.2])
def tsV (H : Hp) (v : V) (l : List (Str × Int)) : Prop := ∃ a vs, v = .ref a ∧ H a = some (.tup vs) ∧ Paired (txV H) vs l
def prV (H : Hp) (v : V) (p : List Int × List (Str × Int)) : Prop := ∃ a x y, v = .ref a ∧ H a = some (.tup [x, y]) ∧ nsV H x p.1 ∧ tsV H y p.2
section
variable {H H' : Hp} {v : V}
theorem thV.mono {t : Th} (h : thV H v t) (k : TK H H') : thV H' v t := by
  cases t with
  | key i => exact h
  | txt x n =>
    obtain ⟨a, e, h⟩ := h
    exact ⟨a, e, k _ _ h⟩
theorem nsV.mono {l : List Int} (h : nsV H v l) (k : TK H H') : nsV H' v l := let ⟨a, e, h⟩ := h; ⟨a, e, k _ _ h⟩
theorem bxV.mono {b : Bx} (h : bxV H v b) (k : TK H H') : bxV H' v b := let ⟨a, x, y, e, h, ht, hn⟩ := h; ⟨a, x, y, e, k _ _ h, ht.mono k, hn.mono k⟩
theorem pMono {α : Type} {F G : V → α → Prop} (f : ∀ v x, F v x → G v x) : ∀ {vs : List V} {xs : List α}, Paired F vs xs → Paired G vs xs
  | _, _, .nil => .nil
  | _, _, .cons r t => .cons (f _ _ r) (pMono f t)
theorem bsV.mono {bs : List Bx} (h : bsV H v bs) (k : TK H H') : bsV H' v bs := let ⟨a, vs, e, h, p⟩ := h; ⟨a, vs, e, k _ _ h, pMono (fun _ _ z => z.mono k) p⟩
theorem txV.mono {p : Str × Int} (h : txV H v p) (k : TK H H') : txV H' v p := let ⟨a, e, h⟩ := h; ⟨a, e, k _ _ h⟩
theorem tsV.mono {l : List (Str × Int)} (h : tsV H v l) (k : TK H H') : tsV H' v l := let ⟨a, vs, e, h, p⟩ := h; ⟨a, vs, e, k _ _ h, pMono (fun _ _ z => z.mono k) p⟩
theorem prV.mono {p : List Int × List (Str × Int)} (h : prV H v p) (k : TK H H') : prV H' v p := let ⟨a, x, y, e, h, hx, hy⟩ := h; ⟨a, x, y, e, k _ _ h, hx.mono k, hy.mono k⟩
end
theorem paired_get {α : Type} {F : V → α → Prop} : ∀ {vs : List V} {xs : List α} {i : Nat} {v : V}, Paired F vs xs → vs[i]? = some v → ∃ x, xs[i]? = some x ∧ F v x
  | _, _, _, _, .nil, e => by simp at e
  | _, _, 0, _, .cons r _, e => by simp at e; subst e; exact ⟨_, rfl, r⟩
  | _, _, i + 1, _, .cons _ t, e => by
    obtain ⟨x, h1, h2⟩ := paired_get (i := i) t (by simpa using e)
    exact ⟨x, by simpa using h1, h2⟩
theorem paired_len {α : Type} {F : V → α → Prop} : ∀ {vs : List V} {xs : List α}, Paired F vs xs → vs.length = xs.length
  | _, _, .nil => rfl
  | _, _, .cons _ t => congrArg Nat.succ (paired_len t)
theorem paired_app {α : Type} {F : V → α → Prop} : ∀ {vs ws : List V} {xs ys : List α}, Paired F vs xs → Paired F ws ys → Paired F (vs ++ ws) (xs ++ ys)
  | _, _, _, _, .nil, s => s
  | _, _, _, _, .cons r t, s => .cons r (paired_app t s)
theorem paired_rev {α : Type} {F : V → α → Prop} : ∀ {vs : List V} {xs : List α}, Paired F vs xs → Paired F vs.reverse xs.reverse
  | _, _, .nil => .nil
  | _, _, .cons r t => by rw [List.reverse_cons, List.reverse_cons]; exact paired_app (paired_rev t) (.cons r .nil)
theorem paired_mem {α : Type} {F : V → α → Prop} : ∀ {vs : List V} {xs : List α} {x : α}, Paired F vs xs → x ∈ xs → ∃ v, v ∈ vs ∧ F v x
  | _, _, _, .nil, h => by cases h
  | _, _, x, .cons r t, h => by
    rcases List.mem_cons.mp h with e | h
    · subst e
      exact ⟨_, List.mem_cons_self, r⟩
    · obtain ⟨v, hv, f⟩ := paired_mem t h
      exact ⟨v, List.mem_cons_of_mem _ hv, f⟩

/-! ### as the layer's data -/
section
variable {K : PySem.W.Frag} {H : Hp} {v : V}
theorem dp_ints : ∀ l : List Int, DpAll K H (l.map V.int) (l.map PyData.int)
  | [] => .nil
  | i :: l => .cons (.int i) (dp_ints l)
theorem thV.dp {t : Th} (h : thV H v t) : Dp K H v (thD t) := by
  cases t with
  | key k =>
    have e : v = .int k := h
    rw [e]
    exact .int k
  | txt x n =>
    obtain ⟨a, e, h⟩ := h
    rw [e]
    exact .tup (SqT.of h) (.cons (.str x) (.cons (.int n) .nil))
theorem nsV.dp {l : List Int} (h : nsV H v l) : Dp K H v (nsD l) := by
  obtain ⟨a, e, h⟩ := h
  rw [e]
  exact .tup (SqT.of h) (dp_ints l)
theorem bxV.dp {b : Bx} (h : bxV H v b) : Dp K H v (bxD b) := by
  obtain ⟨a, x, y, e, h, ht, hn⟩ := h
  rw [e]
  exact .tup (SqT.of h) (.cons ht.dp (.cons hn.dp .nil))
theorem dp_all {α : Type} {F : V → α → Prop} {f : α → PyData} (g : ∀ v x, F v x → Dp K H v (f x)) : ∀ {vs : List V} {xs : List α}, Paired F vs xs → DpAll K H vs (xs.map f)
  | _, _, .nil => .nil
  | _, _, .cons r t => .cons (g _ _ r) (dp_all g t)
theorem bsV.dp {bs : List Bx} (h : bsV H v bs) : Dp K H v (bsD bs) := by
  obtain ⟨a, vs, e, h, p⟩ := h
  rw [e]
  exact .tup (SqT.of h) (dp_all (fun _ _ z => z.dp) p)
theorem txV.dp {p : Str × Int} (h : txV H v p) : Dp K H v (txD p) := by
  obtain ⟨a, e, h⟩ := h
  rw [e]
  exact .tup (SqT.of h) (.cons (.str p.1) (.cons (.int p.2) .nil))
theorem tsV.dp {l : List (Str × Int)} (h : tsV H v l) : Dp K H v (tsD l) := by
  obtain ⟨a, vs, e, h, p⟩ := h
  rw [e]
  exact .tup (SqT.of h) (dp_all (fun _ _ z => z.dp) p)
theorem prV.dp {p : List Int × List (Str × Int)} (h : prV H v p) : Dp K H v (prD p) := by
  obtain ⟨a, x, y, e, h, hx, hy⟩ := h
  rw [e]
  exact .tup (SqT.of h) (.cons hx.dp (.cons hy.dp .nil))
end

/-! ### equality of data -/
theorem eqv_ints : ∀ l m : List Int, PyData.eqvAll (l.map PyData.int) (m.map PyData.int) = decide (l = m)
  | [], [] => by simp [PyData.eqvAll]
  | [], _ :: _ => by simp [PyData.eqvAll]
  | _ :: _, [] => by simp [PyData.eqvAll]
  | a :: l, b :: m => by
    simp only [List.map_cons, PyData.eqvAll, PyData.eqv, eqv_ints l m]
    by_cases h : a = b
    · by_cases g : l = m
      · simp [h, g]
      · simp [h, g]
    · simp [h]
theorem eqv_ns (l m : List Int) : PyData.eqv (nsD l) (nsD m) = decide (l = m) := by
  unfold nsD
  simp only [PyData.eqv, eqv_ints]
theorem eqv_th (s t : Th) : PyData.eqv (thD s) (thD t) = decide (s = t) := by
  cases s with
  | key a =>
    cases t with
    | key b =>
      simp only [thD, PyData.eqv]
      by_cases h : a = b
      · simp [h]
      · simp [h]
    | txt x n => simp [thD, PyData.eqv]
  | txt x n =>
    cases t with
    | key b => simp [thD, PyData.eqv]
    | txt y m =>
      simp only [thD, PyData.eqv, PyData.eqvAll]
      by_cases h : x = y
      · by_cases g : n = m
        · simp [h, g]
        · simp [h, g]
      · simp [h]
theorem eqv_bx (b c : Bx) : PyData.eqv (bxD b) (bxD c) = decide (b = c) := by
  obtain ⟨t, l⟩ := b
  obtain ⟨s, m⟩ := c
  unfold bxD
  simp only [PyData.eqv, PyData.eqvAll, eqv_th, eqv_ns]
  by_cases h : t = s
  · by_cases g : l = m
    · simp [h, g]
    · simp [h, g]
  · simp [h]
theorem eqv_tx (p q : Str × Int) : PyData.eqv (txD p) (txD q) = decide (p = q) := by
  obtain ⟨x, n⟩ := p
  obtain ⟨y, m⟩ := q
  simp only [txD, PyData.eqv, PyData.eqvAll]
  by_cases h : x = y
  · by_cases g : n = m
    · simp [h, g]
    · simp [h, g]
  · simp [h]
theorem eqv_map {α : Type} [DecidableEq α] {f : α → PyData} (g : ∀ a b, PyData.eqv (f a) (f b) = decide (a = b)) : ∀ l m : List α, PyData.eqvAll (l.map f) (m.map f) = decide (l = m)
  | [], [] => by simp [PyData.eqvAll]
  | [], _ :: _ => by simp [PyData.eqvAll]
  | _ :: _, [] => by simp [PyData.eqvAll]
  | a :: l, b :: m => by
    simp only [List.map_cons, PyData.eqvAll, g, eqv_map g l m]
    by_cases h : a = b
    · by_cases k : l = m
      · simp [h, k]
      · simp [h, k]
    · simp [h]
theorem eqv_bs (l m : List Bx) : PyData.eqv (bsD l) (bsD m) = decide (l = m) := by
  unfold bsD
  simp only [PyData.eqv, eqv_map eqv_bx]
theorem eqv_ts (l m : List (Str × Int)) : PyData.eqv (tsD l) (tsD m) = decide (l = m) := by
  unfold tsD
  simp only [PyData.eqv, eqv_map eqv_tx]
theorem eqv_pr (p q : List Int × List (Str × Int)) : PyData.eqv (prD p) (prD q) = decide (p = q) := by
  obtain ⟨x, n⟩ := p
  obtain ⟨y, m⟩ := q
  simp only [prD, PyData.eqv, PyData.eqvAll, eqv_ns, eqv_ts]
  by_cases h : x = y
  · by_cases g : n = m
    · simp [h, g]
    · simp [h, g]
  · simp [h]

/-! ### the model's limits -/
theorem low_ok {x : Str} (h : low x) : PyData.strOk x = true := by
  unfold PyData.strOk
  rw [Array.all_eq_true']
  intro c hc
  have := h.2.2 c (Array.mem_toList_iff.mpr hc)
  exact decide_eq_true (by omega)
def lowT : Th → Prop
  | .key _ => True
  | .txt x _ => low x
theorem goodT_low {t : Th} (h : goodT t) : lowT t := by
  cases t with
  | key k => exact trivial
  | txt x n => exact h.1
theorem lay_ints : ∀ l : List Int, PyData.canLayAll0 (l.map PyData.int) = true
  | [] => by simp [PyData.canLayAll0]
  | a :: l => by simp [PyData.canLayAll0, PyData.canLay0, lay_ints l]
theorem dep_ints : ∀ l : List Int, PyData.depthAll (l.map PyData.int) = 0
  | [] => by simp [PyData.depthAll]
  | a :: l => by simp [PyData.depthAll, PyData.depth, dep_ints l]
theorem lay_ns (l : List Int) : (nsD l).canLay0 = true := by unfold nsD; simp only [PyData.canLay0]; exact lay_ints l
theorem dep_ns (l : List Int) : (nsD l).depth = 1 := by unfold nsD; simp only [PyData.depth, dep_ints]
theorem lay_th {t : Th} (h : lowT t) : (thD t).canLay0 = true := by
  cases t with
  | key k => simp [thD, PyData.canLay0]
  | txt x n =>
    have q : PyData.strOk x = true := low_ok h
    simp [thD, PyData.canLay0, PyData.canLayAll0, q]
theorem dep_th (t : Th) : (thD t).depth ≤ 1 := by
  cases t with
  | key k => simp [thD, PyData.depth]
  | txt x n => simp [thD, PyData.depth, PyData.depthAll]
theorem lay_bx {b : Bx} (h : lowT b.1) : (bxD b).canLay0 = true := by
  simp [bxD, PyData.canLay0, PyData.canLayAll0, lay_th h, lay_ns]
theorem dep_bx (b : Bx) : (bxD b).depth ≤ 2 := by
  have h := dep_th b.1
  have g := dep_ns b.2
  simp only [bxD, PyData.depth, PyData.depthAll, g]
  omega
theorem lay_tx {p : Str × Int} (h : low p.1) : (txD p).canLay0 = true := by
  have q : PyData.strOk p.1 = true := low_ok h
  simp [txD, PyData.canLay0, PyData.canLayAll0, q]
theorem dep_tx (p : Str × Int) : (txD p).depth ≤ 1 := by simp [txD, PyData.depth, PyData.depthAll]
theorem lay_map {α : Type} {f : α → PyData} : ∀ {l : List α}, (∀ x, x ∈ l → (f x).canLay0 = true) → PyData.canLayAll0 (l.map f) = true
  | [], _ => by simp [PyData.canLayAll0]
  | a :: l, h => by simp [PyData.canLayAll0, h a List.mem_cons_self, lay_map fun x hx => h x (List.mem_cons_of_mem _ hx)]
theorem dep_map {α : Type} {f : α → PyData} {n : Nat} : ∀ {l : List α}, (∀ x, x ∈ l → (f x).depth ≤ n) → PyData.depthAll (l.map f) ≤ n
  | [], _ => by simp [PyData.depthAll]
  | a :: l, h => by
    have h1 := h a List.mem_cons_self
    have h2 := dep_map (f := f) (n := n) (l := l) fun x hx => h x (List.mem_cons_of_mem _ hx)
    simp only [List.map_cons, PyData.depthAll]
    omega
def Lows (bs : List Bx) : Prop := ∀ b, b ∈ bs → lowT b.1
theorem Goods.lows {bs : List Bx} (h : Goods bs) : Lows bs := fun b hb => goodT_low (h b hb).t
theorem sh_of {d : PyData} (h : d.canLay0 = true) (g : d.depth ≤ 64) : SeqAt.shaped d = true := by
  show (d.canLay0 && decide (d.depth ≤ 64)) = true
  rw [Bool.and_eq_true]
  exact ⟨h, decide_eq_true g⟩
theorem sh_ns (l : List Int) : SeqAt.shaped (nsD l) = true := sh_of (lay_ns l) (by rw [dep_ns]; decide)
theorem sh_th {t : Th} (h : lowT t) : SeqAt.shaped (thD t) = true := sh_of (lay_th h) (Nat.le_trans (dep_th t) (by decide))
theorem sh_bx {b : Bx} (h : lowT b.1) : SeqAt.shaped (bxD b) = true := sh_of (lay_bx h) (Nat.le_trans (dep_bx b) (by decide))
theorem sh_tx {p : Str × Int} (h : low p.1) : SeqAt.shaped (txD p) = true := sh_of (lay_tx h) (Nat.le_trans (dep_tx p) (by decide))
theorem sh_bs {bs : List Bx} (h : Lows bs) : SeqAt.shaped (bsD bs) = true := by
  have g : PyData.depthAll (bs.map bxD) ≤ 2 := dep_map fun x _ => dep_bx x
  refine sh_of ?_ ?_
  · unfold bsD
    simp only [PyData.canLay0]
    exact lay_map fun x hx => lay_bx (h x hx)
  · unfold bsD
    simp only [PyData.depth]
    omega
theorem sh_ts {l : List (Str × Int)} (h : ∀ p, p ∈ l → low p.1) : (tsD l).canLay0 = true ∧ (tsD l).depth ≤ 2 := by
  have g : PyData.depthAll (l.map txD) ≤ 1 := dep_map fun x _ => dep_tx x
  constructor
  · unfold tsD
    simp only [PyData.canLay0]
    exact lay_map fun x hx => lay_tx (h x hx)
  · unfold tsD
    simp only [PyData.depth]
    omega
theorem sh_pr {p : List Int × List (Str × Int)} (h : ∀ q, q ∈ p.2 → low q.1) : SeqAt.shaped (prD p) = true := by
  obtain ⟨g1, g2⟩ := sh_ts h
  have g3 := dep_ns p.1
  refine sh_of ?_ ?_
  · simp [prD, PyData.canLay0, PyData.canLayAll0, lay_ns, g1]
  · simp only [prD, PyData.depth, PyData.depthAll, g3]
    omega

/-! ### in a tuple of data -/
section
variable {X : Cx}
def rInT (K : PySem.W.Frag) : R2 := fun x y H Q => ∃ d ds, Dp K H x d ∧ Dp K H y (.tuple ds) ∧ SeqAt.shaped d = true ∧ SeqAt.shaped (.tuple ds) = true ∧ Q (.bl (ds.any fun z => PyData.eqv z d)) H
def rNinT (K : PySem.W.Frag) : R2 := fun x y H Q => ∃ d ds, Dp K H x d ∧ Dp K H y (.tuple ds) ∧ SeqAt.shaped d = true ∧ SeqAt.shaped (.tuple ds) = true ∧ Q (.bl (!ds.any fun z => PyData.eqv z d)) H
theorem op_inT (hu : X.A.units + 65 < cLine) : OpR X (compareOp .In) (rInT X.K) := by
  intro pins s σ H x y v u Q I rx ry ⟨d, ds, g1, g2, g3, g4, q⟩
  obtain ⟨as, e1⟩ := Dp.reads I d x v g1 rx
  obtain ⟨cs, e2⟩ := Dp.reads I _ y u g2 ry
  exact SeqAt.in_tuple_reads e2 e1 (SeqAt.canLay_of_shaped g4) (SeqAt.canLay_of_shaped g3) (room_in_shaped g3 hu) ⟨V.bl _, H, I, rfl, q⟩
theorem op_ninT (hu : X.A.units + 65 < cLine) : OpR X (compareOp .NotIn) (rNinT X.K) := by
  intro pins s σ H x y v u Q I rx ry ⟨d, ds, g1, g2, g3, g4, q⟩
  obtain ⟨as, e1⟩ := Dp.reads I d x v g1 rx
  obtain ⟨cs, e2⟩ := Dp.reads I _ y u g2 ry
  exact SeqAt.notIn_tuple_reads e2 e1 (SeqAt.canLay_of_shaped g4) (SeqAt.canLay_of_shaped g3) (room_in_shaped g3 hu) ⟨V.bl _, H, I, rfl, q⟩
end
theorem any_eqv {α : Type} [DecidableEq α] {f : α → PyData} (g : ∀ a b, PyData.eqv (f a) (f b) = decide (a = b)) (l : List α) (a : α) : ((l.map f).any fun z => PyData.eqv z (f a)) = decide (a ∈ l) := by
  rw [Bool.eq_iff_iff, List.any_eq_true, decide_eq_true_eq]
  constructor
  · rintro ⟨z, hz, e⟩
    obtain ⟨b, hb, rfl⟩ := List.mem_map.mp hz
    rw [g] at e
    have := of_decide_eq_true e
    exact this ▸ hb
  · intro h
    exact ⟨f a, List.mem_map.mpr ⟨a, h, rfl⟩, by rw [g]; simp⟩
/-- a thing among ints -/
def thIn : Th → List Int → Bool
  | .key k, l => decide (k ∈ l)
  | .txt _ _, _ => false
theorem any_th (l : List Int) (t : Th) : ((l.map PyData.int).any fun z => PyData.eqv z (thD t)) = thIn t l := by
  have e : l.map PyData.int = (l.map Th.key).map thD := by rw [List.map_map]; rfl
  rw [e, any_eqv eqv_th]
  cases t with
  | key k => exact decide_eq_decide.mpr (by simp)
  | txt x n => exact decide_eq_false (by simp)
end K13

namespace K13
open PySem PySem.Spec PyProof.Rows L2

/-! ### a method that captures __class__: its scope, its frame, its context -/
structure ScK (N ps : List Str) (sc : Scope) : Prop where
  kind : sc.kind = .function
  co : sc.isCoroutine = false
  gen : sc.isGenerator = false
  nd : N.Nodup
  pre : N.take ps.length = ps
  par : ∀ x ∈ ps, sc.names.lookup x = some .local ∨ (sc.names.lookup x = some .cell ∧ x ≠ "__class__")
  free : ∀ y ∈ sc.names, y.2 = .free → y.1 = "__class__"
  cell : ∀ y ∈ sc.names, y.2 = .cell → y.1 ≠ "__class__"
def scKB (N ps : List Str) (sc : Scope) : Bool :=
  decide (sc.kind = .function) && (!sc.isCoroutine && (!sc.isGenerator && (decide N.Nodup && (decide (N.take ps.length = ps) &&
    (ps.all (fun x => decide (sc.names.lookup x = some .local) || (decide (sc.names.lookup x = some .cell) && decide (x ≠ "__class__"))) &&
      (sc.names.all (fun y => !decide (y.2 = .free) || decide (y.1 = "__class__")) && sc.names.all (fun y => !decide (y.2 = .cell) || decide (y.1 ≠ "__class__"))))))))
theorem scK_by {N ps : List Str} {sc : Scope} (h : scKB N ps sc = true) : ScK N ps sc := by
  unfold scKB at h
  simp only [Bool.and_eq_true, Bool.not_eq_true', decide_eq_true_eq, List.all_eq_true, Bool.or_eq_true, decide_eq_false_iff_not] at h
  obtain ⟨h1, h2, h3, h4, h5, h6, h7, h8⟩ := h
  exact ⟨h1, h2, h3, h4, h5, h6, fun y hy e => (h7 y hy).elim (fun z => absurd e z) id, fun y hy e => (h8 y hy).elim (fun z => absurd e z) id⟩
abbrev celK (sc : Scope) (L : Nat) (cc : Addr) : List (Str × Addr) := cellsFrom (L + 1) sc.names [("__class__", cc)]
abbrev envK (qual : Str) (sc : Scope) (L f : Addr) (cd : Value) (cc : Addr) : Env := PySem.W.envX qual sc L f cd (celK sc L cc)
def cxK (CX : CXT) (P : Program) (w : World) (K : PySem.W.Frag) (mg : Str → Option Value) (base : Heap) (N : List Str) (qual : Str) (sc : Scope) (f : Addr) (cd : Value) (cc : Addr) (A : Around) (outer : List Env) (s : Shared) (H : Hp) (E : XK) : Cx where
  prog := P
  w := w
  K := K
  mg := mg
  base := base
  A := A.deeper (envK qual sc s.heap.objs.size f cd cc)
  N := N
  s_0 := s
  H_0 := H
  env := envK qual sc s.heap.objs.size f cd cc
  outer := outer
  stack := envK qual sc s.heap.objs.size f cd cc :: outer
  ex := []
  calm := true
  fn := fun x => decide (x ≠ "__class__")
  pn := []
  xe := fun e s' => wpAny (model P w) (A.deeper (envK qual sc s.heap.objs.size f cd cc)) (leaving (envK qual sc s.heap.objs.size f cd cc) e) (fun _ s'' => CX outer H s E e s'') (fun e' s'' => CX outer H s E e' s'') s'

section
variable {CX : CXT} {P : Program} {w : World} {K : PySem.W.Frag} {mg : Str → Option Value} {base : Heap} {N ps : List Str} {qual : Str} {sc : Scope} {f cc : Addr} {cd : Value} {A : Around} {outer : List Env} {s : Shared} {H : Hp} {E : XK}
/-- the heap with the new frame and the new cells -/
abbrev heapK (sc : Scope) (h : Heap) : Heap := pushCells (h.push { cls := .type "frame", data := .dict #[] }) sc.names
theorem keepK (sc : Scope) (h : Heap) (b : Addr) (o : Obj) (e : h.get? b = some o) : (heapK sc h).get? b = some o := pushCells_keeps _ _ _ _ (Heap.get?_push_of_some _ e)
/-- what a cell of the frame is -/
theorem cellK_mem {h : Heap} {x : Str} {c : Addr} (e : (celK sc h.objs.size cc).lookup x = some c) : (x = "__class__" ∧ c = cc) ∨ ((x, NameKind.cell) ∈ sc.names ∧ h.objs.size + 1 ≤ c ∧ (heapK sc h).IsCell c none) := by
  have hm : (x, c) ∈ cellsFrom (h.objs.size + 1) sc.names [("__class__", cc)] := PySem.mem_of_lookup e
  rw [← Heap.size_push h { cls := .type "frame", data := .dict #[] }] at hm
  rcases cells_mem hm with hm | ⟨h1, h2, h3⟩
  · have q := List.mem_singleton.mp hm
    exact .inl ⟨congrArg Prod.fst q, congrArg Prod.snd q⟩
  · rw [Heap.size_push] at h2
    exact .inr ⟨h1, h2, h3⟩
theorem inv_frame {D : Addr} {oc : Obj} (S : ScK N ps sc) (hd : A.handled = none) (e0 : Env0 P w K mg base A outer s H) (hcc : base.get? cc = some oc) (hcd : oc.data = .cell (some (.ref D))) :
    Inv (cxK CX P w K mg base N qual sc f cd cc A outer s H E) [] (List.replicate N.length none) H { s with heap := heapK sc s.heap } := by
  have kp := keepK sc s.heap
  have hc0 : s.heap.get? cc = some oc := (e0.bs cc oc hcc).1
  have hcl : cc < s.heap.objs.size := Heap.lt_size hc0
  have nex : ∀ b : Addr, b ∉ (cxK CX P w K mg base N qual sc f cd cc A outer s H E).ex := fun b z => absurd (show b ∈ ([] : List Addr) from z) (by simp)
  have okx : (cxK CX P w K mg base N qual sc f cd cc A outer s H E).Ok := by
    refine ⟨e0.mod, S.kind, rfl, rfl, Nat.le_refl _, fun x y c h1 h2 => ?_, fun y hy => ?_, fun y c z h => ?_, fun _ => hd, Around.frames_deeper e0.frames, .inr ⟨rfl, rfl⟩, fun b z => absurd z (nex b), e0.bs, e0.bsz, fun b _ _ => nex b, fun b z => absurd z (nex b), e0.funs, e0.frf⟩
    · have m1 := PySem.mem_of_lookup h1
      have m2 := PySem.mem_of_lookup h2
      have m1 : (x, c) ∈ cellsFrom (s.heap.objs.size + 1) sc.names [("__class__", cc)] := m1
      have m2 : (y, c) ∈ cellsFrom (s.heap.objs.size + 1) sc.names [("__class__", cc)] := m2
      rw [← Heap.size_push s.heap { cls := .type "frame", data := .dict #[] }] at m1 m2
      refine cells_inj (fun p hp => ?_) (fun x y c a b => ?_) m1 m2
      · rw [List.mem_singleton.mp hp, Heap.size_push]
        exact Nat.lt_succ_of_lt hcl
      · have q1 := congrArg Prod.fst (List.mem_singleton.mp a)
        have q2 := congrArg Prod.fst (List.mem_singleton.mp b)
        exact q1.trans q2.symm
    · have hy : sc.names.lookup y = some .cell ∨ sc.names.lookup y = some .free := hy
      show ∃ c, (cellsFrom (s.heap.objs.size + 1) sc.names [("__class__", cc)]).lookup y = some c
      rcases hy with hy | hy
      · obtain ⟨c, hc⟩ := cells_has (n := s.heap.objs.size + 1) (acc := [(("__class__" : Str), cc)]) (PySem.mem_of_lookup hy)
        exact mem_lookup hc
      · have hcls := S.free _ (PySem.mem_of_lookup hy) rfl
        have hcls : y = "__class__" := hcls
        rw [hcls]
        exact mem_lookup (cells_acc (names := sc.names) (n := s.heap.objs.size + 1) (List.mem_singleton.mpr rfl : (("__class__" : Str), cc) ∈ [(("__class__" : Str), cc)]))
    · have z : y ≠ "__class__" := of_decide_eq_true z
      rcases cellK_mem h with ⟨q, _⟩ | ⟨_, q, _⟩
      · exact absurd q z
      · exact Nat.le_of_succ_le q
  refine ⟨okx, rfl, e0.bare, Un.kept kp, ⟨fun _ => none, ?_, fun i x v e1 e2 e3 => ?_⟩, fun x c h => ?_, e0.hok.fresh (Nat.le_refl _), fun x c h => ?_, fun p hp => absurd (show p ∈ ([] : List (Addr × Obj)) from hp) (by simp), e0.hok.kept kp, List.length_replicate ..⟩
  · exact (Heap.Ns.new s.heap (.type "frame")).keeps fun b o e => pushCells_keeps _ _ _ _ e
  · rw [List.getElem?_replicate] at e2
    split at e2 <;> cases e2
  · rcases cellK_mem h with ⟨_, rfl⟩ | ⟨_, _, q⟩
    · exact ⟨_, oc, kp _ _ hc0, hcd⟩
    · exact ⟨_, q⟩
  · rcases cellK_mem h with ⟨_, rfl⟩ | ⟨_, q, _⟩
    · exact (e0.bs _ oc hcc).2
    · exact e0.hok.fresh (Nat.le_of_succ_le q)
end

/-! ### the parameters stored -/
def fillS (σ : L2.St) : Nat → List V → L2.St
  | _, [] => σ
  | i, v :: vs => fillS (σ.set i (some v)) (i + 1) vs
theorem fill_eq : ∀ (vs : List V) (pre : L2.St) (k : Nat), vs.length ≤ k → fillS (pre ++ List.replicate k none) pre.length vs = pre ++ (vs.map some ++ List.replicate (k - vs.length) none)
  | [], pre, k, _ => by simp [fillS]
  | v :: vs, pre, 0, h => by simp at h
  | v :: vs, pre, k + 1, h => by
    have e : (pre ++ List.replicate (k + 1) none).set pre.length (some v) = (pre ++ [some v]) ++ List.replicate k none := by
      rw [List.set_append_right _ _ (Nat.le_refl _), Nat.sub_self, List.replicate_succ, List.set_cons_zero, List.append_assoc]
      rfl
    have l : (pre ++ [some v]).length = pre.length + 1 := by simp
    show fillS ((pre ++ List.replicate (k + 1) none).set pre.length (some v)) (pre.length + 1) vs = _
    rw [e, ← l, fill_eq vs (pre ++ [some v]) k (by simp at h; omega)]
    simp
theorem fill_start (N : List Str) (vs : List V) (h : vs.length ≤ N.length) : fillS (List.replicate N.length none) 0 vs = start N vs := by
  have q := fill_eq vs [] N.length h
  simpa [L2.start] using q
theorem store_all {X : Cx} {M : Model} {A : Around} {E : Value → Shared → Prop} (g : Str × Value → PUnit → Sem (ForInStep PUnit)) (hg : ∀ n v u, g (n, v) u = (do storeName X.env n v; pure (.yield ⟨⟩))) (hN : X.N.Nodup) :
    ∀ (ps : List Str) (us : List Value) (vs : List V) (i : Nat) (σ : L2.St) (H : Hp) (s : Shared) (Q : PUnit → Shared → Prop), (∀ (j : Nat) x, ps[j]? = some x → X.N[i + j]? = some x) →
      (∀ x ∈ ps, Loc X.env.scope x ∧ (X.fn x = true ∨ X.env.scope.names.lookup x = some .local)) → ps.length = us.length → Vals vs us → Inv X [] σ H s → (∀ s', Inv X [] (fillS σ i vs) H s' → Q ⟨⟩ s') → wpAny M A (forIn (ps.zip us) ⟨⟩ g) Q E s
  | [], us, vs, i, σ, H, s, Q, _, _, hl, r, I, h => by
    cases us with
    | nil =>
      cases r
      rw [List.zip_nil_left, List.forIn_nil]
      exact wpAny_pure (h s I)
    | cons u us => cases hl
  | p :: ps, us, vs, i, σ, H, s, Q, hi, hp, hl, r, I, h => by
    cases us with
    | nil => cases hl
    | cons u us =>
      cases r with
      | cons r1 r2 =>
        rw [List.zip_cons_cons, List.forIn_cons, hg]
        obtain ⟨q1, q2⟩ := hp p List.mem_cons_self
        refine wpAny_bind (wpAny_bind (store_ok I hN (hi 0 p rfl) q1 r1 (fun s' I' => wpAny_pure ?_) q2))
        refine store_all g hg hN ps us _ (i + 1) _ H s' Q (fun j x e => ?_) (fun x hx => hp x (List.mem_cons_of_mem _ hx)) (by simpa using hl) r2 I' h
        have := hi (j + 1) x (by simpa using e)
        rw [show i + 1 + j = i + (j + 1) by omega]
        exact this
theorem newEnvK {M : Model} {A : Around} {E : Value → Shared → Prop} {s : Shared} {CX : CXT} {P : Program} {w : World} {K : PySem.W.Frag} {mg : Str → Option Value} {base : Heap} {N ps : List Str} {qual : Str} {sc : Scope} {f cc D : Addr} {cd : Value} {A0 : Around} {outer : List Env} {H : Hp} {E0 : XK} {oc : Obj}
    {us : List Value} {vs : List V} {Q : Env → Shared → Prop} (S : ScK N ps sc) (hd : A0.handled = none) (e0 : Env0 P w K mg base A0 outer s H) (hcc : base.get? cc = some oc) (hcd : oc.data = .cell (some (.ref D))) (hl : vs.length = ps.length) (r : Vals vs us)
    (h : ∀ s', Inv (cxK CX P w K mg base N qual sc f cd cc A0 outer s H E0) [] (start N vs) H s' → Q (envK qual sc s.heap.objs.size f cd cc) s') :
    wpAny M A (newFunctionEnv sc mainGlobals [("__class__", cc)] (ps.zip us) (qual ++ ".<locals>.") (some f) cd none builtinsNs) Q E s := by
  have hpl : ps.length ≤ N.length := by have := congrArg List.length S.pre; rw [List.length_take] at this; omega
  simp only [newFunctionEnv, Option.isSome_none, Bool.false_eq_true, if_false]
  refine wpAny_bind (wpAny_alloc ?_)
  refine wpAny_bind (wpAny_layCells _ (fun name kind cells => by cases hkc : kind == NameKind.cell <;> simp [hkc]) _ _ _ _ ?_)
  rw [show ({ s with heap := s.heap.push { cls := .type "frame", data := .dict #[] } } : Shared).heap.objs.size = s.heap.objs.size + 1 from Heap.size_push ..]
  have I := inv_frame (CX := CX) (N := N) (ps := ps) (qual := qual) (f := f) (cd := cd) (E := E0) S hd e0 hcc hcd
  refine wpAny_bind (store_all (X := cxK CX P w K mg base N qual sc f cd cc A0 outer s H E0) _ (fun _ _ _ => rfl) S.nd ps us vs 0 _ H _ _ (fun j x e => ?_) (fun x hx => ?_) (by rw [← hl, r.length]) r I fun s' I' => wpAny_pure (h s' ?_))
  · have e' : (N.take ps.length)[j]? = some x := by rw [S.pre]; exact e
    have hj : j < ps.length := (List.getElem?_eq_some_iff.mp e).1
    rw [List.getElem?_take_of_lt hj] at e'
    rw [Nat.zero_add]
    exact e'
  · rcases S.par x hx with q | ⟨q, q2⟩
    · exact ⟨.inl q, .inr q⟩
    · exact ⟨.inr q, .inl (decide_eq_true q2)⟩
  · rw [fill_start N vs (by omega)] at I'
    exact I'

/-! ### statements of a known activation -/
structure PSA (X : Cx) (c : Code) (st : Stmt) (t : TS) : Prop where
  run : ∀ (pins : List (Addr × Obj)) (s : Shared) (σ : L2.St) (H : Hp) (D : Ends), Inv X pins σ H s → t D σ H → PySem.wpAt (model X.prog X.w) X.A c (exec st X.env) (SP X pins D) X.xe s
structure PSAs (X : Cx) (c : Code) (st : List Stmt) (t : TS) : Prop where
  run : ∀ (pins : List (Addr × Obj)) (s : Shared) (σ : L2.St) (H : Hp) (D : Ends), Inv X pins σ H s → t D σ H → PySem.wpAt (model X.prog X.w) X.A c (execs st X.env) (SP X pins D) X.xe s
structure PEA (X : Cx) (c : Code) (e : Expr) (t : TE) : Prop where
  run : ∀ (pins : List (Addr × Obj)) (s : Shared) (σ : L2.St) (H : Hp) (Q : VK), Inv X pins σ H s → t σ H Q → PySem.wpAt (model X.prog X.w) X.A c (eval e X.env) (EP X pins σ Q) X.xe s
theorem thnA {α : Type} {t : Sem α} {Q Q' : α → Shared → Prop} {M : Model} {A : Around} {c : Code} {E : Value → Shared → Prop} {s : Shared} (h : PySem.wpAt M A c t Q E s) (hQ : ∀ a s, Q a s → Q' a s) : PySem.wpAt M A c t Q' E s := PySem.wpAt_mono h hQ fun _ _ x => x
section
variable {X : Cx} {c : Code} {st : Stmt} {rest : List Stmt} {t u : TS} {e : Expr} {te : TE} {pos : Pos}
theorem PS.at (h : PS X st t) : PSA X c st t := ⟨fun pins s σ H D I q => PySem.wpAt_of_wpAny (h.run pins s σ H D I q)⟩
theorem PSs.at (h : PSs X rest t) : PSAs X c rest t := ⟨fun pins s σ H D I q => PySem.wpAt_of_wpAny (h.run pins s σ H D I q)⟩
theorem psa_cons (h1 : PSA X c st t) (h2 : PSAs X c rest u) : PSAs X c (st :: rest) (tSeq t u) := by
  refine ⟨fun pins s σ H D I h => PySem.ks_wpAt_execs_cons (thnA (h1.run pins s σ H { D with nx := u D } I h) fun f s1 q => ?_)⟩
  cases f with
  | next =>
    obtain ⟨σ', H', I', q⟩ := q
    exact h2.run pins s1 σ' H' D I' q
  | ret v => exact q
  | brk => exact q
  | cont => exact q
theorem psa_expr (he : PEA X c e te) (hs : swapsWith e none pos.line X.env = pure false := by rfl) : PSA X c (.Expr e pos) (tDrop te) :=
  ⟨fun pins s σ H D I h => PySem.ks_wpAt_Expr_any (thnA (he.run pins s σ H _ I h) fun v s1 ⟨x, H1, I1, r1, q1⟩ => ⟨σ, H1, I1, q1⟩) I.quiet hs⟩
theorem psa_set {i : Nat} {x : Str} {pos' : Pos} (hN : X.N.Nodup) (hi : X.N[i]? = some x) (hx : Loc X.env.scope x) (he : PEA X c e te) (hs : swapsWith e (some (.Name x pos')) pos.line X.env = pure false := by rfl) (hf : X.fn x = true ∨ X.env.scope.names.lookup x = some .local := by first | exact .inl rfl | exact .inr rfl | assumption) :
    PSA X c (.Assign [.Name x pos'] e pos) (tAsg te (gName i)) := by
  refine ⟨fun pins s σ H D I h => PySem.ks_wpAt_Assign_Name (thnA (he.run pins s σ H _ I h) fun v s1 ⟨y, H1, I1, r1, q1⟩ => ?_) hs⟩
  exact store_ok I1 hN hi hx r1 (fun s2 I2 => ⟨_, H1, I2, q1⟩) hf
end

/-! ### THE RULE for such a method -/
section
variable {CX : CXT} {P : Program} {w : World} {K : PySem.W.Frag} {mg : Str → Option Value} {base : Heap} {k : Nat} {f cc D : Addr} {name qual : Str} {params : Arguments} {body : List Stmt} {scope : Scope} {dV kV doc pm cdv ct oc cl0 : Value} {an od cld : Option Addr}
  {osl csl : Array (Option Value)} {N ps : List Str} {sp : Sp}
theorem run_body {A : Around} {outer : List Env} {s s1 : Shared} {H : Hp} {Q : VK} {E : XK} {vs : List V} {t : TS} {fd : FuncData} (hlim : s1.heap.NoLimit)
    (ht : PSAs (cxK CX P w K mg base N qual scope f cdv cc A outer s H E) (.func body (envK qual scope s.heap.objs.size f cdv cc)) body t) (hq : t { nx := fun _ H' => Q .non H', rt := Q } (start N vs) H)
    (I : Inv (cxK CX P w K mg base N qual scope f cdv cc A outer s H E) [] (start N vs) H s1) : codeAny (model P w) A (.func body (envK qual scope s.heap.objs.size f cdv cc)) (CR CX outer P w H s Q E) s1 := by
  refine PySem.ks_codeAny_funcAt (PySem.wpAt_mono (ht.run [] s1 (start N vs) H _ I hq) (fun fl s' hs => ?_) fun e s' hs => hs)
  have fin : ∀ {σ' : L2.St} {H' : Hp} {v : V} {u : Value}, Inv (cxK CX P w K mg base N qual scope f cdv cc A outer s H E) [] σ' H' s' → RelV v u → Q v H' → CE outer P w H s Q u s' :=
    fun {σ' H' v u} J rv q => ⟨v, H', J.os, J.bare, J.base, J.hok, rv, q⟩
  cases fl with
  | ret u =>
    obtain ⟨v, σ', H', J, rv, q⟩ := hs
    exact fin J rv q
  | next =>
    obtain ⟨σ', H', J, q⟩ := hs
    exact fin (v := V.non) (u := Value.none) J rfl q
  | brk =>
    obtain ⟨_, _, _, q⟩ := hs
    exact q.elim
  | cont =>
    obtain ⟨_, _, _, q⟩ := hs
    exact q.elim
theorem fn_ofK (lk : K.lookup f = some ⟨oc, od, .func (PySem.W.ksFn name qual params body scope dV kV doc pm an cdv ct cc), osl⟩) (hcd : PySem.W.codeIn K cdv qual = true) (lc : K.lookup cc = some ⟨cl0, cld, .cell (some (.ref D)), csl⟩) (S : ScK N ps scope)
    (len : ∀ vs H Q E, sp vs H Q E → vs.length = ps.length)
    (hbody : ∀ (A : Around) (outer : List Env) (s : Shared) (H : Hp) (vs : List V) (Q : VK) (E : XK), Room k (A.deeper (envK qual scope s.heap.objs.size f cdv cc)) → sp vs H Q E →
      ∃ t, PSAs (cxK CX P w K mg base N qual scope f cdv cc A outer s H E) (.func body (envK qual scope s.heap.objs.size f cdv cc)) body t ∧ t { nx := fun _ H' => Q .non H', rt := Q } (start N vs) H) :
    FnOk P w K mg base CX (k + 1) f (PySem.W.ksFn name qual params body scope dV kV doc pm an cdv ct cc) ps sp := by
  refine ⟨len, fun A outer s H args us vs Q E hr e0 hb r hsp => ?_⟩
  have hl := len _ _ _ _ hsp
  have KX : K.In s.heap := e0.mod.kin.keeps fun b o e => (e0.bs b o e).1
  refine codeAny_call_function hr.depth (KX _ _ lk) rfl S.co S.gen rfl (PySem.W.codeRec_of KX hcd) (hb _ _ _ _ ?_)
  obtain ⟨t, ht, hq⟩ := hbody A outer s H vs Q E (hr.deeper _) hsp
  exact newEnvK S hr.hd e0 (e0.mod.kin _ _ lc) rfl hl r fun s1 I => ⟨I.nolimit, run_body (fd := PySem.W.ksFn name qual params body scope dV kV doc pm an cdv ct cc) I.nolimit ht hq I⟩
end
end K13

namespace K13
open PySem PySem.Spec PyProof.Rows L2

/-! ### super() of a method at f, whose code object is at cda, whose cell __class__ at cc holds the class at D -/
structure Sup (X : Cx) (f cc cda D : Addr) (i : Nat) : Prop where
  fu : X.env.func = some f
  cod : X.env.code = .ref cda
  ks : X.env.kindOf "super" = some .globalImplicit
  kc : X.env.kindOf "__class__" = some .free
  cel : X.env.cells.lookup ("__class__" : Str) = some cc
  ms : X.mg "super" = none
  lf : ∃ oc od fd osl ar, X.K.lookup f = some ⟨oc, od, .func fd, osl⟩ ∧ (fd.params.posonlyargs ++ fd.params.args).head? = some ar ∧ ar.arg = ("self" : Str)
  lcd : ∃ ccl cdd vs ccs file tf, X.K.lookup cda = some ⟨ccl, cdd, .fields vs, ccs⟩ ∧ vs[2]? = some (.str file tf) ∧ ((X.prog.main.file : Str) == file) = true
  top : (X.prog.main.scope.names.lookup ("super" : Str)).isSome = false
  lc : ∃ cl0 cld csl, X.K.lookup cc = some ⟨cl0, cld, .cell (some (.ref D)), csl⟩
  lD : ∃ cdD, PySem.W.clsIn X.K D = some cdD
  slot : X.N[i]? = some "self"
  vis : Vis X.env.scope "self"
  thr : PySem.W.nsIn X.K cStatics "thirdparty.any" = some none
/-- what the class C of the receiver finds behind D under a name -/
structure SupAt (K : PySem.W.Frag) (C D : Addr) (nm : Str) (g : Addr) : Prop where
  mro : PySem.W.mroIn K C (.ref D) = some true
  fin : PySem.W.ks_superIn K C D nm = some (some (.ref g))
  ty : PySem.W.typeIn K (.ref g) = some (.type "function")
  fi : PySem.W.fnIn K g = true
  nc : (nm == ("__class__" : Str)) = false

section
variable {X : Cx} {f cc cda D C : Addr} {i : Nat} {pins : List (Addr × Obj)} {σ : L2.St} {H : Hp} {s : Shared} {a dx : Addr} {fs : List (Str × V)}
theorem cls_obj {K : PySem.W.Frag} {D : Addr} {cd : ClassData} {h : Heap} (KX : K.In h) (e : PySem.W.clsIn K D = some cd) : ∃ o, h.get? D = some o ∧ o.data = .cls cd := by
  unfold PySem.W.clsIn at e
  split at e
  · rename_i q
    cases e
    exact ⟨_, KX _ _ q, rfl⟩
  · cases e
theorem ld_self {Q : Value → Shared → Prop} {M : Model} {A : Around} {E : Value → Shared → Prop} (I : Inv X pins σ H s) (hi : X.N[i]? = some "self") (hv : Vis X.env.scope "self") (hσ : σ[i]? = some (some (.ref a))) (h : Q (.ref a) s) :
    wpAny M A (loadName X.env "self") Q E s := by
  obtain ⟨m, hn, hl⟩ := I.loc
  obtain ⟨u, r, l⟩ := hl i "self" (.ref a) hi hσ hv
  cases r
  rcases l with ⟨hk, hm⟩ | ⟨hk, c, hc, hcell⟩
  · exact wpAny_loadName_local I.ok.kind hk hn hm h
  · rcases hk with hk | hk
    · exact wpAny_loadName_cell I.ok.kind hk hc hcell h
    · exact wpAny_loadName_free I.ok.kind hk hc hcell h (by decide)
theorem super_ok {body : List Stmt} {p0 p1 : Pos} {nm : Str} {whole : Sem Value} {Q : Value → Shared → Prop} {E : Value → Shared → Prop} (U : Sup X f cc cda D i) (I : Inv X pins σ H s) (hσ : σ[i]? = some (some (.ref a))) (hH : H a = some (.ins C dx fs))
    (mro : PySem.W.mroIn X.K C (.ref D) = some true) (nc : (nm == ("__class__" : Str)) = false)
    (h : ∀ h', h'.get? s.heap.objs.size = some (PySem.W.ks_superObj D a C) → (∀ b o, s.heap.get? b = some o → h'.get? b = some o) → Q (.ref s.heap.objs.size) { s with heap := h' }) :
    PySem.wpAt (model X.prog X.w) X.A (.func body X.env) (attributeBase (.Call (.Name "super" p0) [] [] p1) nm X.env whole) Q E s := by
  have KX := I.kIn
  obtain ⟨oc, od, fd, osl, ar, lf, hp, ha⟩ := U.lf
  obtain ⟨ccl, cdd, vs, ccs, file, tf, lcd, hvs, hfile⟩ := U.lcd
  obtain ⟨cl0, cld, csl, lc⟩ := U.lc
  obtain ⟨cdD, lD⟩ := U.lD
  obtain ⟨oD, hD1, hD2⟩ := cls_obj KX lD
  obtain ⟨mb, b1, b2⟩ := I.mod.blt
  have hk := I.ok.kind
  have gl : s.heap.Ns X.env.globals X.mg := by rw [I.ok.glob]; exact I.mod.glob.keeps I.bk
  have bl : s.heap.Ns X.env.builtins mb := by rw [I.ok.blt]; exact b1.keeps I.bk
  have boot : mb "super" = some (.type "super") := (b2 "super" (by decide)).trans (by decide +kernel)
  obtain ⟨mA, O, _⟩ := ins_get I.hok hH
  obtain ⟨hh, g, d, t, os⟩ := s
  refine PySem.ks_wpAt_super_base (env := X.env) U.ks U.kc nc U.fu (KX _ _ lf) rfl hp U.cod (KX _ _ lcd) rfl hvs hfile U.top ?_
  rw [ha]
  refine PySem.W.ks_loadName_global hk U.ks (Calls.loadGlobal_builtin gl U.ms bl boot ⟨rfl, ?_⟩)
  refine wpAny_loadName_free hk U.kc U.cel ⟨_, KX _ _ lc, rfl⟩ (ld_self I U.slot U.vis hσ ?_) (by decide)
  refine PySem.ks_wpAny_isType_cls hD1 hD2 ⟨rfl, ?_⟩
  exact PySem.ks_wpAny_call_super hD1 hD2 O.obj rfl (fun c e => by cases e) (PySem.W.looks_mroIn KX mro) fun h' e k => h h' e k
/-- super().m(..): the method found, bound -/
theorem super_meth {nm : Str} {g so : Addr} {pl : Sem Bool} {Q : Value × List Value → Shared → Prop} {E : Value → Shared → Prop} (S : SupAt X.K C D nm g) (thr : PySem.W.nsIn X.K cStatics "thirdparty.any" = some none) (I : Inv X pins σ H s) (hH : H a = some (.ins C dx fs))
    (hso : s.heap.get? so = some (PySem.W.ks_superObj D a C)) (h : ∀ q s', H q = none → Inv X pins σ (upd H q (.met g a)) s' → Q (.ref q, []) s') : wpAny (model X.prog X.w) X.A (getMethod (.ref so) nm pl) Q E s := by
  have KX := I.kIn
  have nf : H s.heap.objs.size = none := I.hok.fresh (Nat.le_refl _)
  obtain ⟨mA, O, _⟩ := ins_get I.hok hH
  have I2 := fun t' => I.laid (a := s.heap.objs.size) (o := .met g a) (h' := s.heap.push (PySem.W.methodObj (.ref g) (.ref a))) (t' := t') (fun b o e => Heap.get?_push_of_some _ e) (Nat.le_refl _) (Heap.get?_push_at rfl rfl)
  obtain ⟨hh, gs, d, t, os⟩ := s
  cases hc : PySem.W.clsIn X.K C with
  | none =>
    have z := S.fin
    unfold PySem.W.ks_superIn at z
    rw [hc] at z
    cases z
  | some cd =>
    have z := S.fin
    unfold PySem.W.ks_superIn at z
    rw [hc] at z
    obtain ⟨of, hof, hofc⟩ : ∃ of, hh.get? g = some of ∧ of.cls = .type "function" := by
      have ty : (X.K.lookup g).map (·.cls) = some (.type "function") := S.ty
      cases q : X.K.lookup g with
      | none => rw [q] at ty; cases ty
      | some of => rw [q] at ty; exact ⟨of, KX _ _ q, Option.some.inj ty⟩
    have ne : a ≠ C := by
      rintro rfl
      obtain ⟨o, q1, q2⟩ := cls_obj KX hc
      have := O.obj
      rw [q1] at this
      cases this
      cases q2
    refine PySem.ks_wpAny_getMethod_super hso (PySem.W.looks_opaque KX thr) (l₀ := cd.mro) ?_ rfl KX z hof hofc ne S.nc (h _ _ nf (I2 _))
    exact fun A Q E s k q => wpAny_bind ((PySem.W.looks_clsIn KX hc) A _ E s k (wpAny_pure q))
/-- the reading of super().m() -/
def tSup0 (K : PySem.W.Frag) (i : Nat) (C D : Addr) (nm : Str) (sp : Sp) (E : XK) : TE := fun σ H Q => ∃ a dx fs g, σ[i]? = some (some (.ref a)) ∧ H a = some (.ins C dx fs) ∧ SupAt K C D nm g ∧ ∀ q, H q = none → sp [.ref a] (upd H q (.met g a)) Q E
theorem pea_sup0 {body : List Stmt} {p0 p1 apos pos : Pos} {nm : Str} {CX : CXT} {k : Nat} {fd : FuncData} {ps : List Str} {sp : Sp} {E : XK} {pl : Sem Bool} {g : Addr} (U : Sup X f cc cda D i) (SA : SupAt X.K C D nm g)
    (F : FnOk X.prog X.w X.K X.mg X.base CX k g fd ps sp) (hr : Room k X.A) (hb : Binds X.K fd ps []) (hx : Passes CX X E)
    (ht : eval (.Call (.Attribute (.Call (.Name "super" p0) [] [] p1) nm apos) [] [] pos) X.env = (do
      let ov ← attributeBase (.Call (.Name "super" p0) [] [] p1) nm X.env (eval (.Call (.Name "super" p0) [] [] p1) X.env)
      standAt apos.atName
      let (f, first) ← holding [ov] (getMethod ov nm pl)
      callWith pos f first (backTo pos (starEach [] X.env)) []) := by rfl) :
    PEA X (.func body X.env) (.Call (.Attribute (.Call (.Name "super" p0) [] [] p1) nm apos) [] [] pos) (fun σ H Q => ∃ a dx fs, σ[i]? = some (some (.ref a)) ∧ H a = some (.ins C dx fs) ∧ ∀ q, H q = none → sp [.ref a] (upd H q (.met g a)) Q E) := by
  refine ⟨fun pins s σ H Q I ⟨a, dx, fs, hσ, hH, hq⟩ => ?_⟩
  refine PySem.ks_wpAt_MethodCall (pl := pl) (super_ok U I hσ hH SA.mro SA.nc fun h' e kp => ?_) ht
  have I1 : Inv X pins σ H { s with heap := h' } := I.kept (t' := s.toks) kp
  refine super_meth SA U.thr I1 hH e fun q s2 hn I2 => ?_
  have hm : upd H q (.met g a) q = some (.met g a) := upd_same
  show wpAny _ _ (callWith pos (.ref q) [] [] []) _ _ _
  refine callwith_met (args := []) (keywords := []) rfl SA.fi (PySem.evalArgs_none ⟨met_P I2 hm, ?_⟩)
  have r1 : Vals [V.ref a] [Value.ref a] := .cons rfl .nil
  have hsp := hq q hn
  have hl := F.len _ _ _ _ hsp
  refine wpAny_call (PySem.W.method_call (met_P I2 hm).1 (codeAny_mono (F.run X.A X.stack s2 _ ⟨[.ref a], []⟩ [.ref a] [.ref a] Q E hr I2.env0 ?_ r1 hsp) fun r s' hq' => ?_))
  · have := hb s2 [.ref a] I2.kIn (by simpa using hl)
    simpa using this
  · cases r with
    | error e => exact hx pins σ _ s2 e s' I2 hq'
    | ok fl =>
      cases fl with
      | ret u => exact I2.after hq'
      | next => exact hq'.elim
      | brk => exact hq'.elim
      | cont => exact hq'.elim
end
end K13

namespace K13
open PySem PySem.Spec PyProof.Rows L2

/-! ### a for whose iterable is evaluated at a known activation, and is a tuple -/
def tForT (K : PySem.W.Frag) (te : TE) (g : TG) (tb : TS) : TS := fun D σ H => te σ H fun x H1 => ∃ a xs, x = .ref a ∧ SqT K H1 a xs ∧
  ∃ W : Nat → Nat → L2.St → Hp → Prop, (∃ m, W 0 m σ H1) ∧ ∀ i m σ H, W i m σ H →
    ((Itt K a).stop i H ∧ D.nx σ H) ∨ ((Itt K a).go i H ∧ ∃ N : L2.St → Hp → Prop, (∀ σ' H', N σ' H' → ∃ m', m' < m ∧ W (i + 1) m' σ' H') ∧ ∀ x H', (Itt K a).yld i H x H' → g x σ H' fun σ2 H2 => tb { D with nx := N, ct := N, bk := D.nx } σ2 H2)
section
variable {X : Cx} {c : Code}
theorem iter_tup {tg : Expr} {pins : List (Addr × Obj)} {σ : L2.St} {H : Hp} {s : Shared} {a : Addr} {xs : List V} {R : It → Hp → Prop} {E : Value → Shared → Prop} (I : Inv X pins σ H s) (h : SqT X.K H a xs) (q : R (Itt X.K a) H) :
    wpAny (model X.prog X.w) X.A (pyIter (.ref a)) (PIE X pins σ tg R) E s := by
  obtain ⟨its, rv, p, hz⟩ := I.tuple h
  refine wpAny_pyIter_tuple (show s.heap.IsTuple a its.toArray from p) ⟨s.heap.objs.size, [s.heap.objs.size], _, _, H, rfl, I.kept (t' := s.toks) fun b o e => Heap.get?_push_of_some _ e, turn_tuple a _, ⟨_, Heap.get?_push_size _ rfl, rfl, rfl⟩, fun b hb => ?_, q⟩
  rw [List.mem_singleton.mp hb]
  exact I.fpOk (Nat.le_refl _) I.fresh
theorem psa_forT {tg iter : Expr} {body : List Stmt} {te : TE} {g : TG} {tb : TS} {pos : Pos} (hp : PassesOwn (model X.prog X.w) X.A X.env X.xe) (hc : X.calm = true) (hi : PEA X c iter te) (hg : PG X tg g) (hb : PSs X body tb)
    (hs : ∀ x, foldedSetIterable iter X.env x = pure x := by intro _; rfl) : PSA X c (.For tg iter body [] pos) (tForT X.K te g tb) := by
  refine ⟨fun pins s σ H D I h => ?_⟩
  rw [PySem.exec_For]
  refine PySem.wpAt_bind (PySem.wpAt_of_wpAny (wpAny_standAt (PySem.wpAt_bind (thnA (hi.run pins s σ H _ I h) fun v s1 ⟨x, H1, I1, r1, a, xs, ex, hq, loop⟩ => ?_))))
  subst ex
  cases r1
  refine PySem.wpAt_of_wpAny (wpAny_bind (wpAny_of_eq (hs (.ref a)) (wpAny_bind (wpAny_standAt (wpAny_bind (wpAny_holding (thn (iter_tup (tg := tg) (R := fun J H' => J = Itt X.K a ∧ H' = H1) I1 hq ⟨rfl, rfl⟩) fun itv s2 h2 => ?_)))))))
  obtain ⟨it, fp, tn, J, H2, e, I2, T, st2, f2, rfl, rfl⟩ := h2
  subst e
  obtain ⟨W, ⟨m0, w0⟩, turn⟩ := loop
  have fix : ∀ {G : Hp}, (∀ b ∈ fp, G b = none) → ∀ b ∈ fp, FpOk X pins G b := fun hn b hb => ⟨hn b hb, (f2 b hb).2⟩
  refine wpAny_runOwn (codeAny_forLoop_any (fun n s' => ∃ i σ' G, Inv X pins σ' G s' ∧ tn i s'.heap ∧ (∀ b ∈ fp, G b = none) ∧ W i n σ' G) ?_ m0 ⟨0, σ, _, I2, st2, fun b hb => (f2 b hb).1, w0⟩)
  rintro n s3 ⟨i, σ3, G3, I3, st3, fr3, w3⟩
  rcases turn i n σ3 G3 w3 with ⟨stop, qn⟩ | ⟨go, N, hN, step⟩
  · refine wpAny_passesOwn hp (thn (T.done X rfl rfl rfl hc i pins s3 σ3 G3 X.xe I3 (fix fr3) st3 stop) fun r s4 hr => ?_)
    obtain ⟨rfl, I4⟩ := hr
    exact wpAny_execs_nil ⟨σ3, G3, I4, qn⟩
  · refine wpAny_passesOwn hp (thn (T.item X rfl rfl rfl hc i pins s3 σ3 G3 X.xe I3 (fix fr3) st3 go) fun r s4 hr => ?_)
    obtain ⟨u, rfl, h4⟩ := hr
    refine wpAny_passesOwn hp (thn h4 fun _ s5 h5 => ?_)
    obtain ⟨x, G5, I5, r5, y5, st5, fr5⟩ := h5
    have J5 := I5.pinned (fix fr5) (T.obj _ _ st5)
    refine wpAny_passesOwn hp (thn (hg.run _ s5 σ3 G5 x u _ J5 r5 (step x G5 y5)) fun _ s6 h6 => ?_)
    obtain ⟨σ6, G6, I6, q6⟩ := h6
    refine wpAny_passesOwn hp (thn (hb.run _ s6 σ6 G6 _ I6 q6) fun fl s7 q7 => ?_)
    have more : ∀ {σ7 : L2.St} {G7 : Hp}, Inv X (pins ++ pinsAt fp s5.heap) σ7 G7 s7 → N σ7 G7 → ∃ m, m < n ∧ ∃ i σ' G, Inv X pins σ' G s7 ∧ tn i s7.heap ∧ (∀ b ∈ fp, G b = none) ∧ W i m σ' G := fun {σ7 G7} I7 n7 => by
      obtain ⟨m', hm, w7⟩ := hN σ7 G7 n7
      have at5 : ∀ b ∈ fp, ∀ o, s5.heap.get? b = some o → s7.heap.get? b = some o ∧ G7 b = none := fun b hb o e =>
        let z := I7.pin (b, o) (List.mem_append_right _ (List.mem_append_right _ (mem_pinsAt hb e)))
        ⟨z.1, z.2.1⟩
      refine ⟨m', hm, i + 1, σ7, G7, I7.unpinned, T.keep _ _ _ st5 fun b hb o e => (at5 b hb o e).1, fun b hb => ?_, w7⟩
      obtain ⟨o, e, _⟩ := T.obj _ _ st5 b hb
      exact (at5 b hb o e).2
    cases fl with
    | next =>
      obtain ⟨σ7, G7, I7, n7⟩ := q7
      exact more I7 n7
    | cont =>
      obtain ⟨σ7, G7, I7, n7⟩ := q7
      exact more I7 n7
    | brk =>
      obtain ⟨σ7, G7, I7, q⟩ := q7
      exact ⟨σ7, G7, I7.unpinned, q⟩
    | ret v =>
      obtain ⟨z, σ7, G7, I7, r7, q⟩ := q7
      exact ⟨z, σ7, G7, I7.unpinned, r7, q⟩
end
end K13

namespace K13
open PySem PySem.Spec PyProof.Rows L2

/-! ### dicts whose keys are things: ints beside tuples (text, int); every value True -/
def nk : Th → NestedKey
  | .key k => .num k
  | .txt x n => .tup [.text x, .num n]
theorem nk_depth (t : Th) : (nk t).depth ≤ 1 := by
  cases t <;> simp [nk, NestedKey.depth, NestedKey.depthAll]
theorem nk_beq (s t : Th) : NestedKey.beq (nk s) (nk t) = decide (s = t) := by
  cases s with
  | key a =>
    cases t with
    | key b => simp [nk, NestedKey.beq]
    | txt y m => simp [nk, NestedKey.beq]
  | txt x n =>
    cases t with
    | key b => simp [nk, NestedKey.beq]
    | txt y m => simp [nk, NestedKey.beq, NestedKey.beqAll]
abbrev thH (w : World) (t : Th) : Int := (nk t).hash w
/-- the value u is the thing t -/
inductive IsTh (h : Heap) : Th → Value → Prop
  | key (k : Int) (tk : Tok) : IsTh h (.key k) (.int k tk)
  | txt {x : Str} {n : Int} {a : Addr} (q : NestedIs h (nk (.txt x n)) (.ref a)) : IsTh h (.txt x n) (.ref a)
theorem IsTh.nested {h : Heap} {t : Th} {u : Value} (q : IsTh h t u) : NestedIs h (nk t) u := by
  cases q with
  | key k tk => exact .int k tk
  | txt q => exact q
theorem IsTh.inj {h : Heap} {s t : Th} {u : Value} (a : IsTh h s u) (b : IsTh h t u) : s = t := by
  have e := NestedIs.inj _ _ _ a.nested b.nested
  have q := nk_beq s t
  rw [e, NestedKey.beq_self] at q
  exact of_decide_eq_true q.symm
theorem IsTh.at {h h' : Heap} (k : ∀ b o vs n, h.get? b = some o → o.data = .seq vs n → h'.get? b = some o) {t : Th} {u : Value} (q : IsTh h t u) : IsTh h' t u := by
  cases q with
  | key i tk => exact .key i tk
  | txt q => exact .txt (NestedIs.at k _ _ q)
def mkE (w : World) : List Th → List Value → List DictEntry
  | t :: ts, u :: us => ⟨thH w t, u, .bool true⟩ :: mkE w ts us
  | _, _ => []
theorem mkE_len {w : World} : ∀ {ts : List Th} {us : List Value}, ts.length = us.length → (mkE w ts us).length = ts.length
  | [], us, h => by unfold mkE; rfl
  | t :: ts, [], h => by cases h
  | t :: ts, u :: us, h => by
    unfold mkE
    rw [List.length_cons, List.length_cons, mkE_len (by simpa using h)]
theorem mkE_at {w : World} : ∀ {ts : List Th} {us : List Value} {i : Nat} {t : Th}, ts.length = us.length → ts[i]? = some t → ∃ u, us[i]? = some u ∧ (mkE w ts us)[i]? = some ⟨thH w t, u, .bool true⟩
  | [], us, i, t, h, e => by simp at e
  | _ :: ts, [], i, t, h, e => by cases h
  | s :: ts, u :: us, 0, t, h, e => by
    simp at e
    subst e
    exact ⟨u, rfl, rfl⟩
  | s :: ts, u :: us, i + 1, t, h, e => by
    obtain ⟨v, h1, h2⟩ := mkE_at (w := w) (i := i) (ts := ts) (us := us) (by simpa using h) (by simpa using e)
    exact ⟨v, by simpa using h1, by unfold mkE; simpa using h2⟩
theorem mkE_app {w : World} : ∀ {ts : List Th} {us : List Value} {t : Th} {u : Value}, ts.length = us.length → mkE w (ts ++ [t]) (us ++ [u]) = mkE w ts us ++ [⟨thH w t, u, .bool true⟩]
  | [], [], t, u, _ => rfl
  | [], _ :: _, t, u, h => by cases h
  | _ :: _, [], t, u, h => by cases h
  | s :: ts, v :: us, t, u, h => by
    show _ :: mkE w (ts ++ [t]) (us ++ [u]) = _
    rw [mkE_app (by simpa using h)]
    rfl
structure Mx (w : World) (h : Heap) (d : Addr) (ts : List Th) (us : List Value) (o : Obj) (es : Array DictEntry) (ep : Nat) : Prop where
  ho : h.get? d = some o
  ex : o.ExactDict
  hd : o.data = .dict es ep
  len : ts.length = us.length
  he : es.toList = mkE w ts us
  his : ∀ (i : Nat) t u, ts[i]? = some t → us[i]? = some u → IsTh h t u
  nd : ts.Nodup
section
variable {w : World} {h : Heap} {d : Addr} {ts : List Th} {us : List Value} {o : Obj} {es : Array DictEntry} {ep : Nat}
theorem Mx.size (m : Mx w h d ts us o es ep) : es.size = ts.length := by
  rw [← Array.length_toList, m.he, mkE_len m.len]
theorem Mx.at (m : Mx w h d ts us o es ep) {i : Nat} {t : Th} (e : ts[i]? = some t) : ∃ u, us[i]? = some u ∧ es[i]? = some ⟨thH w t, u, .bool true⟩ := by
  obtain ⟨u, h1, h2⟩ := mkE_at (w := w) m.len e
  exact ⟨u, h1, by rw [← Array.getElem?_toList, m.he]; exact h2⟩
theorem Mx.of (m : Mx w h d ts us o es ep) {i : Nat} {e : DictEntry} (q : es[i]? = some e) : ∃ t u, ts[i]? = some t ∧ us[i]? = some u ∧ e = ⟨thH w t, u, .bool true⟩ := by
  have hi : i < es.size := (Array.getElem?_eq_some_iff.mp q).1
  rw [m.size] at hi
  have e1 : ts[i]? = some ts[i] := List.getElem?_eq_getElem hi
  obtain ⟨u, h1, h2⟩ := m.at e1
  rw [q] at h2
  exact ⟨_, u, e1, h1, Option.some.inj h2⟩
theorem Mx.uniq (m : Mx w h d ts us o es ep) {i j : Nat} {t : Th} (a : ts[i]? = some t) (b : ts[j]? = some t) : i = j :=
  (List.getElem?_inj (List.getElem?_eq_some_iff.mp a).1 m.nd).mp (a.trans b.symm)
end
section
variable {P : Program} {w : World} {A : Around} {E : Value → Shared → Prop} {s : Shared} {d : Addr} {ts : List Th} {us : List Value} {o : Obj} {es : Array DictEntry} {ep : Nat} {t : Th} {u : Value}
/-- the places that are looked at -/
abbrev plc (es : Array DictEntry) (c : Int) : List Nat := placesWithHash es.size (fun i => es[i]?.map (·.hash)) c
theorem plc_nd (es : Array DictEntry) (c : Int) : (plc es c).Nodup := List.nodup_range.sublist List.filter_sublist
theorem plc_of {c : Int} {i : Nat} (h : i ∈ plc es c) : ∃ e, es[i]? = some e ∧ (e.hash == c) = true := by
  obtain ⟨h1, h2⟩ := List.mem_filter.mp h
  have hi : i < es.size := List.mem_range.mp h1
  have e1 : es[i]? = some es[i] := Array.getElem?_eq_getElem hi
  have h2 : (es[i]?.map (·.hash) == some c) = true := h2
  rw [e1] at h2
  exact ⟨_, e1, by simpa using h2⟩
theorem plc_has (m : Mx w s.heap d ts us o es ep) {j : Nat} (h : ts[j]? = some t) : j ∈ plc es (thH w t) := by
  obtain ⟨v, _, h2⟩ := m.at h
  refine List.mem_filter.mpr ⟨List.mem_range.mpr (Array.getElem?_eq_some_iff.mp h2).1, ?_⟩
  show (es[j]?.map (·.hash) == some (thH w t)) = true
  rw [h2]
  simp
theorem thEq (hu : A.units + 1 < cLine) {t' : Th} {v : Value} (a : IsTh s.heap t' v) (b : IsTh s.heap t u) {Q : Bool → Shared → Prop} (q : Q (decide (t' = t)) s) : wpAny (model P w) A (eqBool v u) Q E s := by
  have h1 := nk_depth t'
  have e := eqAt_key (nk t') (nk t) A s v u a.nested b.nested (by omega)
  rw [nk_beq] at e
  exact e P w E Q q
theorem thQuiet (a : IsTh s.heap t u) {Q : Bool → Shared → Prop} (q : Q true s) : wpAny (model P w) A (eqIsQuiet 8 u) Q E s := by
  have h1 := nk_depth t
  exact quiet_key (prog := P) (w := w) (nk t) u 8 s a.nested (by omega) A E Q q
theorem thHash (hu : A.units + 1 < cLine) (a : IsTh s.heap t u) {Q : Int → Shared → Prop} (q : ∀ k, Q (thH w t) { s with toks := k }) : wpAny (model P w) A (pyHash u) Q E s := by
  have h1 := nk_depth t
  exact pyHash_key (nk t) u A s Q a.nested (by omega) (q _)
/-- the walk where all keys of the hash are carried by value -/
theorem mx_plain (hu : A.units + 1 < cLine) (m : Mx w s.heap d ts us o es ep) (hk : IsTh s.heap t u) {Q : Option Nat → Shared → Prop} (hno : t ∉ ts → Q none s) (hyes : ∀ j, ts[j]? = some t → Q (some j) s) :
    wpAny (model P w) A (dictWalkPlain d u (thH w t) es (plc es (thH w t))) Q E s := by
  unfold dictWalkPlain
  refine wpAny_bind ?_
  refine wpAny_forIn_list _ (fun rest b s' => s' = s ∧ b = (none, ()) ∧ (∀ i ∈ rest, i ∈ plc es (thH w t)) ∧ ∀ i, ts[i]? = some t → i ∈ rest) _ ?_ ?_ _ _ ⟨rfl, rfl, fun _ h => h, fun i h => plc_has m h⟩
  · rintro i rest b s' ⟨rfl, rfl, h1, h2⟩
    obtain ⟨e, he, hh⟩ := plc_of (h1 i List.mem_cons_self)
    obtain ⟨t', v, ht, hv, rfl⟩ := m.of he
    rw [he]
    dsimp only
    rw [if_pos hh]
    refine wpAny_bind (wpAny_dictEpoch m.ho m.hd (wpAny_bind (thEq hu (m.his i t' v ht hv) hk (wpAny_bind (wpAny_dictEpoch m.ho m.hd ?_)))))
    show wpAny _ _ (if (ep != ep) = true then _ else _) _ _ _
    rw [if_neg (by simp)]
    by_cases q : t' = t
    · subst q
      rw [decide_eq_true rfl]
      rw [if_pos rfl]
      refine wpAny_bind (wpAny_rule ?_)
      exact wpAny_pure (wpAny_pure (hyes i ht))
    · rw [decide_eq_false q, if_neg Bool.false_ne_true]
      refine wpAny_bind (wpAny_rule (wpAny_pure ⟨rfl, rfl, fun j hj => h1 j (List.mem_cons_of_mem _ hj), fun j hj => ?_⟩))
      rcases List.mem_cons.mp (h2 j hj) with e | e
      · rw [e, ht] at hj
        exact absurd (Option.some.inj hj) q
      · exact e
  · rintro b s' ⟨rfl, rfl, h1, h2⟩
    refine wpAny_pure (hno fun hm => ?_)
    obtain ⟨i, hi⟩ := List.mem_iff_getElem?.mp hm
    cases h2 i hi
theorem mx_tell {stored : List Value} {Q : Bool → Shared → Prop} (hk : IsTh s.heap t u) (hs : ∀ v ∈ stored, ∃ t', IsTh s.heap t' v) (q : Q false s) : wpAny (model P w) A (tableMayTell u stored) Q E s := by
  unfold tableMayTell
  split
  · exact wpAny_pure q
  · refine wpAny_bind (thQuiet hk ?_)
    simp only [Bool.not_true, Bool.false_eq_true, if_false]
    refine wpAny_bind ?_
    refine wpAny_forIn_list _ (fun rest b s' => s' = s ∧ b = (none, ()) ∧ ∀ v ∈ rest, ∃ t', IsTh s.heap t' v) _ ?_ ?_ _ _ ⟨rfl, rfl, hs⟩
    · rintro v rest b s' ⟨rfl, rfl, h1⟩
      obtain ⟨t', hv⟩ := h1 v List.mem_cons_self
      refine wpAny_bind (thQuiet hv ?_)
      simp only [Bool.not_true, Bool.false_eq_true, if_false]
      exact wpAny_pure ⟨rfl, rfl, fun x hx => h1 x (List.mem_cons_of_mem _ hx)⟩
    · rintro b s' ⟨rfl, rfl, _⟩
      exact wpAny_pure q
theorem mx_find (hu : A.units + 1 < cLine) (m : Mx w s.heap d ts us o es ep) (hk : IsTh s.heap t u) {Q : Option Nat → Shared → Prop} (hno : t ∉ ts → Q none s) (hyes : ∀ j, ts[j]? = some t → Q (some j) s) :
    wpAny (model P w) A (dictFind d u (thH w t)) Q E s := by
  have hst : ∀ v ∈ (plc es (thH w t)).filterMap (fun i => es[i]?.map (·.key)), ∃ t', IsTh s.heap t' v := by
    intro v hv
    obtain ⟨i, _, e⟩ := List.mem_filterMap.mp hv
    cases q : es[i]? with
    | none => rw [q] at e; cases e
    | some x =>
      rw [q] at e
      obtain ⟨t', v', ht, hv', rfl⟩ := m.of q
      have e2 : v' = v := Option.some.inj e
      exact ⟨t', e2 ▸ m.his i t' v' ht hv'⟩
  unfold dictFind
  refine wpAny_holding (wpAny_bind (wpAny_dictEntries m.ho m.hd ?_))
  have bad : ∀ a : Addr, u = .ref a → (es.any fun e => e.key == u && e.hash != thH w t) = false := by
    intro a e
    rw [Bool.eq_false_iff]
    intro h
    rw [Array.any_eq_true'] at h
    obtain ⟨x, hx, hc⟩ := h
    obtain ⟨i, hi⟩ := Array.mem_iff_getElem?.mp hx
    obtain ⟨t', v', ht, hv', rfl⟩ := m.of hi
    rw [Bool.and_eq_true] at hc
    have e3 : v' = u := eq_of_beq hc.1
    have e4 : t' = t := (e3 ▸ m.his i t' v' ht hv').inj hk
    rw [e4] at hc
    simp at hc
  have HK := hk
  cases hk with
  | key k tk =>
    dsimp only
    by_cases hp : (Value.int k tk :: List.filterMap (fun i => Option.map (fun x => x.key) es[i]?) (plc es (thH w (Th.key k)))).all carriedByValue = true
    · rw [if_pos hp]
      exact mx_plain hu m HK hno hyes
    · rw [if_neg hp]
      by_cases hs : (List.filterMap (fun i => Option.map (fun x => x.key) es[i]?) (plc es (thH w (Th.key k))) == [Value.int k tk]) = true
      · rw [if_pos hs]
        refine wpAny_bind (wpAny_pure ?_)
        rw [if_neg (by simp)]
        refine wpAny_bind (wpAny_forIn_list _ (fun rest b s' => s' = s ∧ b.1 = none ∧ rest.Nodup ∧ (∀ i ∈ rest, i ∈ plc es (thH w (Th.key k))) ∧ ((b.2 = none ∧ ∀ i, ts[i]? = some (Th.key k) → i ∈ rest) ∨ ∃ j, b.2 = some j ∧ ts[j]? = some (Th.key k) ∧ j ∉ rest)) _ ?_ ?_ _ _ ⟨rfl, rfl, plc_nd _ _, fun _ h => h, .inl ⟨rfl, fun i h => plc_has m h⟩⟩)
        · rintro i rest ⟨b1, b2⟩ s' ⟨rfl, e1, hnd, h1, h2⟩
          have e1 : b1 = none := e1
          subst e1
          obtain ⟨hn1, hn2⟩ := List.nodup_cons.mp hnd
          obtain ⟨e, he, hh⟩ := plc_of (h1 i List.mem_cons_self)
          obtain ⟨t', v, ht, hv, rfl⟩ := m.of he
          rw [he]
          dsimp only
          rw [if_pos hh]
          refine wpAny_bind (wpAny_dictEpoch m.ho m.hd (wpAny_bind (thEq hu (m.his i t' v ht hv) HK (wpAny_bind (wpAny_dictEpoch m.ho m.hd ?_)))))
          rw [if_neg (by simp)]
          have h3 : ∀ j ∈ rest, j ∈ plc es (thH w (Th.key k)) := fun j hj => h1 j (List.mem_cons_of_mem _ hj)
          by_cases q : t' = Th.key k
          · subst q
            rw [decide_eq_true rfl, if_pos rfl]
            have nb : b2.isSome = false := by
              rcases h2 with ⟨h2, _⟩ | ⟨j, _, h4, h5⟩
              · rw [show b2 = none from h2]; rfl
              · exact absurd (m.uniq ht h4 ▸ List.mem_cons_self) h5
            rw [if_neg (by rw [nb]; decide)]
            refine wpAny_bind (wpAny_rule ?_)
            by_cases hlt : (List.filterMap (fun i => Option.map (fun x => x.key) es[i]?) (plc es (thH w (Th.key k)))).length < 2
            · rw [if_pos hlt]
              exact wpAny_pure (wpAny_pure (hyes i ht))
            · rw [if_neg hlt]
              exact wpAny_pure ⟨rfl, rfl, hn2, h3, .inr ⟨i, rfl, ht, hn1⟩⟩
          · rw [decide_eq_false q, if_neg Bool.false_ne_true]
            refine wpAny_bind (wpAny_rule ?_)
            rw [if_neg (by simp)]
            refine wpAny_pure ⟨rfl, rfl, hn2, h3, ?_⟩
            rcases h2 with ⟨h2, h4⟩ | ⟨j, h4, h5, h6⟩
            · refine .inl ⟨h2, fun j hj => ?_⟩
              rcases List.mem_cons.mp (h4 j hj) with e | e
              · rw [e, ht] at hj
                exact absurd (Option.some.inj hj) q
              · exact e
            · exact .inr ⟨j, h4, h5, fun z => h6 (List.mem_cons_of_mem _ z)⟩
        · rintro ⟨b1, b2⟩ s' ⟨rfl, e1, _, _, h2⟩
          have e1 : b1 = none := e1
          subst e1
          rcases h2 with ⟨h2, h4⟩ | ⟨j, h4, h5, _⟩
          · have h2 : b2 = none := h2
            subst h2
            exact wpAny_pure (hno fun hm => by
              obtain ⟨i, hi⟩ := List.mem_iff_getElem?.mp hm
              cases h4 i hi)
          · have h4 : b2 = some j := h4
            subst h4
            exact wpAny_pure (hyes j h5)
      · rw [if_neg hs]
        refine wpAny_bind (mx_tell HK hst ?_)
        rw [if_neg (by simp)]
        refine wpAny_bind (wpAny_forIn_list _ (fun rest b s' => s' = s ∧ b.1 = none ∧ rest.Nodup ∧ (∀ i ∈ rest, i ∈ plc es (thH w (Th.key k))) ∧ ((b.2 = none ∧ ∀ i, ts[i]? = some (Th.key k) → i ∈ rest) ∨ ∃ j, b.2 = some j ∧ ts[j]? = some (Th.key k) ∧ j ∉ rest)) _ ?_ ?_ _ _ ⟨rfl, rfl, plc_nd _ _, fun _ h => h, .inl ⟨rfl, fun i h => plc_has m h⟩⟩)
        · rintro i rest ⟨b1, b2⟩ s' ⟨rfl, e1, hnd, h1, h2⟩
          have e1 : b1 = none := e1
          subst e1
          obtain ⟨hn1, hn2⟩ := List.nodup_cons.mp hnd
          obtain ⟨e, he, hh⟩ := plc_of (h1 i List.mem_cons_self)
          obtain ⟨t', v, ht, hv, rfl⟩ := m.of he
          rw [he]
          dsimp only
          rw [if_pos hh]
          refine wpAny_bind (wpAny_dictEpoch m.ho m.hd (wpAny_bind (thEq hu (m.his i t' v ht hv) HK (wpAny_bind (wpAny_dictEpoch m.ho m.hd ?_)))))
          rw [if_neg (by simp)]
          have h3 : ∀ j ∈ rest, j ∈ plc es (thH w (Th.key k)) := fun j hj => h1 j (List.mem_cons_of_mem _ hj)
          by_cases q : t' = Th.key k
          · subst q
            rw [decide_eq_true rfl, if_pos rfl]
            have nb : b2.isSome = false := by
              rcases h2 with ⟨h2, _⟩ | ⟨j, _, h4, h5⟩
              · rw [show b2 = none from h2]; rfl
              · exact absurd (m.uniq ht h4 ▸ List.mem_cons_self) h5
            rw [if_neg (by rw [nb]; decide)]
            refine wpAny_bind (wpAny_rule ?_)
            by_cases hlt : (List.filterMap (fun i => Option.map (fun x => x.key) es[i]?) (plc es (thH w (Th.key k)))).length < 2
            · rw [if_pos hlt]
              exact wpAny_pure (wpAny_pure (hyes i ht))
            · rw [if_neg hlt]
              exact wpAny_pure ⟨rfl, rfl, hn2, h3, .inr ⟨i, rfl, ht, hn1⟩⟩
          · rw [decide_eq_false q, if_neg Bool.false_ne_true]
            refine wpAny_bind (wpAny_rule ?_)
            rw [if_neg (by simp)]
            refine wpAny_pure ⟨rfl, rfl, hn2, h3, ?_⟩
            rcases h2 with ⟨h2, h4⟩ | ⟨j, h4, h5, h6⟩
            · refine .inl ⟨h2, fun j hj => ?_⟩
              rcases List.mem_cons.mp (h4 j hj) with e | e
              · rw [e, ht] at hj
                exact absurd (Option.some.inj hj) q
              · exact e
            · exact .inr ⟨j, h4, h5, fun z => h6 (List.mem_cons_of_mem _ z)⟩
        · rintro ⟨b1, b2⟩ s' ⟨rfl, e1, _, _, h2⟩
          have e1 : b1 = none := e1
          subst e1
          rcases h2 with ⟨h2, h4⟩ | ⟨j, h4, h5, _⟩
          · have h2 : b2 = none := h2
            subst h2
            exact wpAny_pure (hno fun hm => by
              obtain ⟨i, hi⟩ := List.mem_iff_getElem?.mp hm
              cases h4 i hi)
          · have h4 : b2 = some j := h4
            subst h4
            exact wpAny_pure (hyes j h5)
  | @txt x n a q =>
    dsimp only
    by_cases hp : (Value.ref a :: List.filterMap (fun i => Option.map (fun x => x.key) es[i]?) (plc es (thH w (Th.txt x n)))).all carriedByValue = true
    · rw [if_pos hp]
      exact mx_plain hu m HK hno hyes
    · rw [if_neg hp, if_neg (by rw [bad a rfl]; decide)]
      by_cases hs : (List.filterMap (fun i => Option.map (fun x => x.key) es[i]?) (plc es (thH w (Th.txt x n))) == [Value.ref a]) = true
      · rw [if_pos hs]
        refine wpAny_bind (wpAny_pure ?_)
        rw [if_neg (by simp)]
        refine wpAny_bind (wpAny_forIn_list _ (fun rest b s' => s' = s ∧ b.1 = none ∧ rest.Nodup ∧ (∀ i ∈ rest, i ∈ plc es (thH w (Th.txt x n))) ∧ ((b.2 = none ∧ ∀ i, ts[i]? = some (Th.txt x n) → i ∈ rest) ∨ ∃ j, b.2 = some j ∧ ts[j]? = some (Th.txt x n) ∧ j ∉ rest)) _ ?_ ?_ _ _ ⟨rfl, rfl, plc_nd _ _, fun _ h => h, .inl ⟨rfl, fun i h => plc_has m h⟩⟩)
        · rintro i rest ⟨b1, b2⟩ s' ⟨rfl, e1, hnd, h1, h2⟩
          have e1 : b1 = none := e1
          subst e1
          obtain ⟨hn1, hn2⟩ := List.nodup_cons.mp hnd
          obtain ⟨e, he, hh⟩ := plc_of (h1 i List.mem_cons_self)
          obtain ⟨t', v, ht, hv, rfl⟩ := m.of he
          rw [he]
          dsimp only
          rw [if_pos hh]
          refine wpAny_bind (wpAny_dictEpoch m.ho m.hd (wpAny_bind (thEq hu (m.his i t' v ht hv) HK (wpAny_bind (wpAny_dictEpoch m.ho m.hd ?_)))))
          rw [if_neg (by simp)]
          have h3 : ∀ j ∈ rest, j ∈ plc es (thH w (Th.txt x n)) := fun j hj => h1 j (List.mem_cons_of_mem _ hj)
          by_cases q : t' = Th.txt x n
          · subst q
            rw [decide_eq_true rfl, if_pos rfl]
            have nb : b2.isSome = false := by
              rcases h2 with ⟨h2, _⟩ | ⟨j, _, h4, h5⟩
              · rw [show b2 = none from h2]; rfl
              · exact absurd (m.uniq ht h4 ▸ List.mem_cons_self) h5
            rw [if_neg (by rw [nb]; decide)]
            refine wpAny_bind (wpAny_rule ?_)
            by_cases hlt : (List.filterMap (fun i => Option.map (fun x => x.key) es[i]?) (plc es (thH w (Th.txt x n)))).length < 2
            · rw [if_pos hlt]
              exact wpAny_pure (wpAny_pure (hyes i ht))
            · rw [if_neg hlt]
              exact wpAny_pure ⟨rfl, rfl, hn2, h3, .inr ⟨i, rfl, ht, hn1⟩⟩
          · rw [decide_eq_false q, if_neg Bool.false_ne_true]
            refine wpAny_bind (wpAny_rule ?_)
            rw [if_neg (by simp)]
            refine wpAny_pure ⟨rfl, rfl, hn2, h3, ?_⟩
            rcases h2 with ⟨h2, h4⟩ | ⟨j, h4, h5, h6⟩
            · refine .inl ⟨h2, fun j hj => ?_⟩
              rcases List.mem_cons.mp (h4 j hj) with e | e
              · rw [e, ht] at hj
                exact absurd (Option.some.inj hj) q
              · exact e
            · exact .inr ⟨j, h4, h5, fun z => h6 (List.mem_cons_of_mem _ z)⟩
        · rintro ⟨b1, b2⟩ s' ⟨rfl, e1, _, _, h2⟩
          have e1 : b1 = none := e1
          subst e1
          rcases h2 with ⟨h2, h4⟩ | ⟨j, h4, h5, _⟩
          · have h2 : b2 = none := h2
            subst h2
            exact wpAny_pure (hno fun hm => by
              obtain ⟨i, hi⟩ := List.mem_iff_getElem?.mp hm
              cases h4 i hi)
          · have h4 : b2 = some j := h4
            subst h4
            exact wpAny_pure (hyes j h5)
      · rw [if_neg hs]
        refine wpAny_bind (mx_tell HK hst ?_)
        rw [if_neg (by simp)]
        refine wpAny_bind (wpAny_forIn_list _ (fun rest b s' => s' = s ∧ b.1 = none ∧ rest.Nodup ∧ (∀ i ∈ rest, i ∈ plc es (thH w (Th.txt x n))) ∧ ((b.2 = none ∧ ∀ i, ts[i]? = some (Th.txt x n) → i ∈ rest) ∨ ∃ j, b.2 = some j ∧ ts[j]? = some (Th.txt x n) ∧ j ∉ rest)) _ ?_ ?_ _ _ ⟨rfl, rfl, plc_nd _ _, fun _ h => h, .inl ⟨rfl, fun i h => plc_has m h⟩⟩)
        · rintro i rest ⟨b1, b2⟩ s' ⟨rfl, e1, hnd, h1, h2⟩
          have e1 : b1 = none := e1
          subst e1
          obtain ⟨hn1, hn2⟩ := List.nodup_cons.mp hnd
          obtain ⟨e, he, hh⟩ := plc_of (h1 i List.mem_cons_self)
          obtain ⟨t', v, ht, hv, rfl⟩ := m.of he
          rw [he]
          dsimp only
          rw [if_pos hh]
          refine wpAny_bind (wpAny_dictEpoch m.ho m.hd (wpAny_bind (thEq hu (m.his i t' v ht hv) HK (wpAny_bind (wpAny_dictEpoch m.ho m.hd ?_)))))
          rw [if_neg (by simp)]
          have h3 : ∀ j ∈ rest, j ∈ plc es (thH w (Th.txt x n)) := fun j hj => h1 j (List.mem_cons_of_mem _ hj)
          by_cases q : t' = Th.txt x n
          · subst q
            rw [decide_eq_true rfl, if_pos rfl]
            have nb : b2.isSome = false := by
              rcases h2 with ⟨h2, _⟩ | ⟨j, _, h4, h5⟩
              · rw [show b2 = none from h2]; rfl
              · exact absurd (m.uniq ht h4 ▸ List.mem_cons_self) h5
            rw [if_neg (by rw [nb]; decide)]
            refine wpAny_bind (wpAny_rule ?_)
            by_cases hlt : (List.filterMap (fun i => Option.map (fun x => x.key) es[i]?) (plc es (thH w (Th.txt x n)))).length < 2
            · rw [if_pos hlt]
              exact wpAny_pure (wpAny_pure (hyes i ht))
            · rw [if_neg hlt]
              exact wpAny_pure ⟨rfl, rfl, hn2, h3, .inr ⟨i, rfl, ht, hn1⟩⟩
          · rw [decide_eq_false q, if_neg Bool.false_ne_true]
            refine wpAny_bind (wpAny_rule ?_)
            rw [if_neg (by simp)]
            refine wpAny_pure ⟨rfl, rfl, hn2, h3, ?_⟩
            rcases h2 with ⟨h2, h4⟩ | ⟨j, h4, h5, h6⟩
            · refine .inl ⟨h2, fun j hj => ?_⟩
              rcases List.mem_cons.mp (h4 j hj) with e | e
              · rw [e, ht] at hj
                exact absurd (Option.some.inj hj) q
              · exact e
            · exact .inr ⟨j, h4, h5, fun z => h6 (List.mem_cons_of_mem _ z)⟩
        · rintro ⟨b1, b2⟩ s' ⟨rfl, e1, _, _, h2⟩
          have e1 : b1 = none := e1
          subst e1
          rcases h2 with ⟨h2, h4⟩ | ⟨j, h4, h5, _⟩
          · have h2 : b2 = none := h2
            subst h2
            exact wpAny_pure (hno fun hm => by
              obtain ⟨i, hi⟩ := List.mem_iff_getElem?.mp hm
              cases h4 i hi)
          · have h4 : b2 = some j := h4
            subst h4
            exact wpAny_pure (hyes j h5)
end
end K13

namespace K13
open PySem PySem.Spec PyProof.Rows L2

/-! ### a dict of things, in the layer -/
abbrev TL := List (Th × V)
def putM (L : TL) (t : Th) (v : V) : TL := if t ∈ L.map (·.1) then L else L ++ [(t, v)]
theorem putM_in {L : TL} {t : Th} {v : V} (h : t ∈ L.map (·.1)) : putM L t v = L := if_pos h
theorem putM_no {L : TL} {t : Th} {v : V} (h : t ∉ L.map (·.1)) : putM L t v = L ++ [(t, v)] := if_neg h
theorem putM_len {L : TL} {t : Th} {v : V} : (putM L t v).length ≤ L.length + 1 := by
  unfold putM
  split
  · omega
  · simp
theorem putM_mem {L : TL} {t : Th} {v : V} {s : Th} : s ∈ (putM L t v).map (·.1) ↔ s ∈ L.map (·.1) ∨ s = t := by
  unfold putM
  split
  · rename_i h
    constructor
    · exact .inl
    · rintro (e | e)
      · exact e
      · rw [e]; exact h
  · rw [List.map_append, List.mem_append]
    simp
theorem putM_nd {L : TL} {t : Th} {v : V} (h : (L.map (·.1)).Nodup) : ((putM L t v).map (·.1)).Nodup := by
  unfold putM
  split
  · exact h
  · rename_i q
    rw [List.map_append, List.nodup_append]
    refine ⟨h, by simp, ?_⟩
    intro a ha b hb e
    have : b = t := by simpa using hb
    rw [e, this] at ha
    exact q ha
def InD (H : Hp) (L : TL) : Prop := ∀ p, p ∈ L → thV H p.2 p.1
theorem InD.mono {H H' : Hp} {L : TL} (h : InD H L) (k : TK H H') : InD H' L := fun p hp => (h p hp).mono k
theorem InD.put {H : Hp} {L : TL} {t : Th} {v : V} (h : InD H L) (hv : thV H v t) : InD H (putM L t v) := by
  unfold putM
  split
  · exact h
  · intro p hp
    rcases List.mem_append.mp hp with hp | hp
    · exact h p hp
    · have : p = (t, v) := by simpa using hp
      rw [this]
      exact hv
def mdP (w : World) (d : Addr) (L : TL) : Heap → Prop := fun h => ∃ o es ep us, h.get? d = some o ∧ o.ExactDict ∧ o.data = .dict es ep ∧ Vals (L.map (·.2)) us ∧ es.toList = mkE w (L.map (·.1)) us ∧ (L.map (·.1)).Nodup ∧ (d == sysModules) = false ∧ L.length ≤ sizeLine
def mdO (w : World) (d : Addr) (L : TL) : HO := .ext (mdP w d L)
theorem mdP_ok {P : Program} {w : World} {H : Hp} {h : Heap} {d : Addr} {L : TL} (m : mdP w d L h) : ObjOk P w H h d (mdO w d L) := by
  refine ⟨m, let ⟨o, _, _, _, e, _⟩ := m; ⟨o, e⟩, fun h1 h2 m1 k => ?_⟩
  obtain ⟨o, es, ep, us, e, r⟩ := m1
  exact ⟨o, es, ep, us, k o e, r⟩
theorem thV_is {P : Program} {w : World} {H : Hp} {h : Heap} (ok : HOk P w H h) {v : V} {t : Th} {u : Value} (q : thV H v t) (r : RelV v u) : IsTh h t u := by
  cases t with
  | key k =>
    have e : v = .int k := q
    subst e
    obtain ⟨tk, rfl⟩ := r
    exact .key k tk
  | txt x n =>
    obtain ⟨a, rfl, ha⟩ := q
    obtain rfl : u = Value.ref a := r
    obtain ⟨_, its, rv, o, h1, h2, n', h3⟩ := (show ObjOk P w H h a (.tup [.str x, .int n]) from ok a _ ha)
    cases rv with
    | cons r1 rv =>
      cases rv with
      | cons r2 rv =>
        cases rv
        obtain ⟨t1, rfl⟩ := r1
        obtain ⟨t2, rfl⟩ := r2
        exact .txt (.tup h1 h2 h3 (.cons (.text x t1) (.cons (.int n t2) .nil)))
theorem md_mx {P : Program} {w : World} {H : Hp} {h : Heap} {d : Addr} {L : TL} (ok : HOk P w H h) (m : mdP w d L h) (q : InD H L) : ∃ o es ep us, Mx w h d (L.map (·.1)) us o es ep ∧ Vals (L.map (·.2)) us := by
  obtain ⟨o, es, ep, us, e, x, hd, rv, he, nd, _⟩ := m
  have hl : (L.map (·.1)).length = us.length := by
    have := rv.length
    simp at this ⊢
    exact this
  refine ⟨o, es, ep, us, ⟨e, x, hd, hl, he, fun i t u ht hu => ?_, nd⟩, rv⟩
  rw [List.getElem?_map] at ht
  cases hp : L[i]? with
  | none => rw [hp] at ht; cases ht
  | some p =>
    rw [hp] at ht
    have e1 : p.1 = t := Option.some.inj ht
    obtain ⟨u', hu', ru⟩ := rv.get (i := i) (x := p.2) (by rw [List.getElem?_map, hp]; rfl)
    rw [hu] at hu'
    cases hu'
    rw [← e1]
    exact thV_is ok (q p (List.mem_of_getElem? hp)) ru
section
variable {P : Program} {w : World} {A : Around} {E : Value → Shared → Prop} {s : Shared} {H : Hp} {d : Addr} {L : TL} {t : Th} {v : V} {u : Value}
/-- the write, hashed -/
theorem md_setH (hu : A.units + 1 < cLine) (ok : HOk P w H s.heap) (m : mdP w d L s.heap) (q : InD H L) (hv : thV H v t) (rv : RelV v u) (hl : L.length < sizeLine) {Q : Unit → Shared → Prop}
    (h : ∀ h', mdP w d (putM L t v) h' → Heap.SameBut d s.heap h' → Q () { s with heap := h' }) : wpAny (model P w) A (dictSetHashed d u (thH w t) (.bool true)) Q E s := by
  obtain ⟨o, es, ep, us, M, rs⟩ := md_mx ok m q
  have hsys : (d == sysModules) = false := by
    obtain ⟨_, _, _, _, _, _, _, _, _, _, z, _⟩ := m
    exact z
  have K := thV_is ok hv rv
  have hsz : es.size = L.length := by rw [M.size, List.length_map]
  unfold dictSetHashed
  refine wpAny_holding (wpAny_bind (mx_find hu M K (fun hno => ?_) fun j hj => ?_))
  · refine wpAny_bind (wpAny_rule (wpAny_updateDictKeys (hz := by omega) M.ho M.hd (h _ ?_ (Heap.SameBut.update ..))))
    refine ⟨_, es.push ⟨thH w t, u, .bool true⟩, ep + 1, us ++ [u], Heap.get?_update_self _ M.ho (Obj.isFreed_of_dict (Obj.data_mapDictKeys M.hd _)), M.ex.mapDictKeys _, Obj.data_mapDictKeys M.hd _, ?_, ?_, putM_nd M.nd, hsys, by have := putM_len (L := L) (t := t) (v := v); omega⟩
    · rw [putM_no hno, List.map_append]
      exact rs.append (.cons rv .nil)
    · rw [putM_no hno, List.map_append, Array.toList_push, M.he]
      exact (mkE_app M.len).symm
  · have hin : t ∈ L.map (·.1) := List.mem_iff_getElem?.mpr ⟨j, hj⟩
    refine wpAny_bind (wpAny_rule (wpAny_bind (wpAny_updateDict M.ho M.hd (wpAny_point (h _ ?_ (Heap.SameBut.update ..))))))
    refine ⟨_, _, ep, us, Heap.get?_update_self _ M.ho (Obj.isFreed_of_dict (Obj.data_mapDict M.hd _)), M.ex.mapDict _, Obj.data_mapDict M.hd _, ?_, ?_, putM_nd M.nd, hsys, by have := putM_len (L := L) (t := t) (v := v); omega⟩
    · rw [putM_in hin]
      exact rs
    · rw [putM_in hin, ← M.he]
      congr 1
      apply Array.ext
      · simp
      · intro i h1 h2
        rw [Array.getElem_modify]
        split
        · obtain ⟨t', v', _, _, e⟩ := M.of (Array.getElem?_eq_getElem h2)
          rw [e]
        · rfl
theorem md_set (hu : A.units + 1 < cLine) (ok : HOk P w H s.heap) (m : mdP w d L s.heap) (q : InD H L) (hv : thV H v t) (rv : RelV v u) (hl : L.length < sizeLine) {Q : Unit → Shared → Prop}
    (h : ∀ h' k, mdP w d (putM L t v) h' → Heap.SameBut d s.heap h' → Q () { s with heap := h', toks := k }) : wpAny (model P w) A (dictSet d u (.bool true)) Q E s := by
  unfold dictSet
  exact wpAny_holding (wpAny_bind (thHash hu (thV_is ok hv rv) fun k => md_setH (s := { s with toks := k }) hu ok m q hv rv hl fun h' m' sb => h h' k m' sb))
theorem md_type (m : mdP w d L s.heap) : s.TypeIs (.ref d) "dict" := let ⟨o, _, _, _, e, x, _⟩ := m; ⟨o, e, x.1⟩
theorem md_in (hu : A.in1.units + 1 < cLine) (ok : HOk P w H s.heap) (m : mdP w d L s.heap) (q : InD H L) (hv : thV H v t) (rv : RelV v u) {Q : Value → Shared → Prop}
    (h : ∀ k, Q (.bool (decide (t ∈ L.map (·.1)))) { s with toks := k }) : wpAny (model P w) A (compareOp .In u (.ref d)) Q E s := by
  obtain ⟨o, es, ep, us, M, rs⟩ := md_mx ok m q
  have hsys : (d == sysModules) = false := by
    obtain ⟨_, _, _, _, _, _, _, _, _, _, z, _⟩ := m
    exact z
  have K := thV_is ok hv rv
  show wpAny _ _ (contains (.ref d) u >>= _) _ _ _
  refine wpAny_bind (wpAny_contains_slot (md_type m) F.slot_dict_contains ?_)
  refine call_meetsIn F.slot_dict_contains (md_type m) F.entry_dict_contains (F.args_dict_contains_2 _ _) (S := fun A' R s' => A' = A ∧ s' = s ∧ ∀ k, R (.ok (.ret (.bool (decide (t ∈ L.map (·.1)))))) { s with toks := k }) (fun A' R s' hS => ?_) ⟨rfl, rfl, fun k => wpAny_truthy_bool (wpAny_pure (h k))⟩
  obtain ⟨rfl, rfl, hq⟩ := hS
  show wpAny _ _ (dictGet d u >>= _) _ _ _
  refine wpAny_bind ?_
  unfold dictGet
  refine wpAny_holding (wpAny_bind (thHash hu K fun k => wpAny_bind (mx_find (s := { s' with toks := k }) hu ⟨M.ho, M.ex, M.hd, M.len, M.he, M.his, M.nd⟩ K (fun hno => ?_) fun j hj => ?_)))
  · refine wpAny_pure ?_
    have z := hq k
    rw [decide_eq_false hno] at z
    show wpAny _ _ (Builtin.Dict.pendingKey? d u >>= _) _ _ _
    exact wpAny_bind (wpAny_pendingKey_other hsys (wpAny_pure z))
  · have z := hq k
    rw [decide_eq_true (List.mem_iff_getElem?.mpr ⟨j, hj⟩)] at z
    refine wpAny_bind (wpAny_dictEntries (s := { s' with toks := k }) M.ho M.hd (wpAny_pure ?_))
    obtain ⟨u', _, e⟩ := M.at hj
    rw [e]
    show wpAny _ _ (ret (.bool true)) _ _ _
    exact wpAny_pure z
end
end K13

namespace K13
open PySem PySem.Spec PyProof.Rows L2

/-! ### found.update(dict), found is not empty -/
def putAll (L M : TL) : TL := M.foldl (fun l p => putM l p.1 p.2) L
theorem putAll_mem {s : Th} : ∀ {M L : TL}, s ∈ (putAll L M).map (·.1) ↔ s ∈ L.map (·.1) ∨ s ∈ M.map (·.1)
  | [], L => by simp [putAll]
  | p :: M, L => by
    show s ∈ (putAll (putM L p.1 p.2) M).map (·.1) ↔ _
    rw [putAll_mem, putM_mem, List.map_cons, List.mem_cons, or_assoc]
theorem putAll_len : ∀ {M L : TL}, (putAll L M).length ≤ L.length + M.length
  | [], L => by simp [putAll]
  | p :: M, L => by
    show (putAll (putM L p.1 p.2) M).length ≤ _
    have h1 := putAll_len (M := M) (L := putM L p.1 p.2)
    have h2 := putM_len (L := L) (t := p.1) (v := p.2)
    rw [List.length_cons]
    omega
theorem putAll_in {H : Hp} : ∀ {M L : TL}, InD H L → InD H M → InD H (putAll L M)
  | [], L, h, _ => h
  | p :: M, L, h, g => putAll_in (M := M) (h.put (g p List.mem_cons_self)) fun q hq => g q (List.mem_cons_of_mem _ hq)
theorem putAll_take {L M : TL} {i : Nat} {p : Th × V} (h : M[i]? = some p) : putAll L (M.take (i + 1)) = putM (putAll L (M.take i)) p.1 p.2 := by
  rw [List.take_add_one, h]
  unfold putAll
  rw [List.foldl_append]
  rfl
section
variable {P : Program} {w : World} {A : Around} {E : Value → Shared → Prop} {s : Shared} {H : Hp} {d o : Addr} {L M : TL}
theorem md_fst {h : Heap} (m : mdP w d L h) : (d == sysModules) = false := by
  obtain ⟨_, _, _, _, _, _, _, _, _, _, z, _⟩ := m
  exact z
theorem md_merge {nm : String} (hu : A.units + 1 < cLine) (ok : HOk P w H s.heap) (hd : H d = some (mdO w d L)) (ho : H o = some (mdO w o M)) (ne : d ≠ o) (q : InD H L) (r : InD H M) (hL : L ≠ []) (hl : L.length + M.length < sizeLine) {Q : Unit → Shared → Prop}
    (h : ∀ h', mdP w d (putAll L M) h' → Heap.SameBut d s.heap h' → Q () { s with heap := h' }) : wpAny (model P w) A (Builtin.Dict.mergeDict nm d o) Q E s := by
  have md : mdP w d L s.heap := (ok d _ hd).1
  have mo : mdP w o M s.heap := (ok o _ ho).1
  obtain ⟨od, esd, epd, usd, Md, rd⟩ := md_mx ok md q
  obtain ⟨oo, eso, epo, uso, Mo, ro⟩ := md_mx ok mo r
  have hlen : eso.size = M.length := by rw [Mo.size, List.length_map]
  unfold Builtin.Dict.mergeDict
  rw [if_neg (by simpa using ne)]
  unfold Builtin.Dict.showsAll
  rw [if_neg (by rw [md_fst mo]; exact Bool.false_ne_true)]
  refine wpAny_bind (wpAny_pure (wpAny_bind (wpAny_dictEntries Mo.ho Mo.hd ?_)))
  have step : ∀ (i : Nat) (h1 : Heap), i < M.length → HOk P w (upd H d (mdO w d (putAll L (M.take i)))) h1 → Heap.SameBut d s.heap h1 → ∃ e, eso[i]? = some e ∧
      ∀ {Q : Unit → Shared → Prop}, (∀ h2, HOk P w (upd H d (mdO w d (putAll L (M.take (i + 1))))) h2 → Heap.SameBut d s.heap h2 → Q () { s with heap := h2 }) → wpAny (model P w) A (holding [e.key, e.val] (dictSetHashed d e.key e.hash e.val)) Q E { s with heap := h1 } := by
    intro i h1 hi ok1 sb
    have e1 : M[i]? = some M[i] := List.getElem?_eq_getElem hi
    obtain ⟨u, hu1, he⟩ := Mo.at (i := i) (t := M[i].1) (by rw [List.getElem?_map, e1]; rfl)
    obtain ⟨u', hu2, ru⟩ := ro.get (i := i) (x := M[i].2) (by rw [List.getElem?_map, e1]; rfl)
    rw [hu1] at hu2
    cases hu2
    refine ⟨_, he, fun {Q} hq => ?_⟩
    have mu : Mut (H d) := by rw [hd]; exact True.intro
    have tk : TK H (upd H d (mdO w d (putAll L (M.take i)))) := TK.put hd fun xs e => by cases e
    have rt : InD H (M.take i) := fun p hp => r p (List.mem_of_mem_take hp)
    have hl2 := putAll_len (M := M.take i) (L := L)
    have hl3 : (M.take i).length ≤ M.length := by rw [List.length_take]; omega
    have m1 : mdP w d (putAll L (M.take i)) h1 := (ok1 d _ upd_same).1
    have hvi : thV H M[i].2 M[i].1 := r _ (List.getElem_mem hi)
    refine wpAny_holding (md_setH (s := { s with heap := h1 }) hu ok1 m1 ((putAll_in q rt).mono tk) (hvi.mono tk) ru (by omega) fun h2 m2 sb2 => hq h2 ?_ (sb.trans sb2))
    have he2 : ∃ q, h2.get? d = some q := let ⟨z, _, _, _, e, _⟩ := m2; ⟨z, e⟩
    have := HOk.write (x := d) (e := d) (o' := mdO w d (putM (putAll L (M.take i)) M[i].1 M[i].2)) ok1 (by rw [upd_same]; exact True.intro) (.inl rfl) (fun b q hb z => (sb2.2 b hb).trans z) he2 (mdP_ok m2)
    rw [upd_upd] at this
    rw [putAll_take e1]
    exact this
  have loop : ∀ (f : Nat → PUnit → Sem (ForInStep PUnit)) {Q2 : PUnit → Shared → Prop}, (∀ i h1 (K : ForInStep PUnit → Shared → Prop), i < M.length → HOk P w (upd H d (mdO w d (putAll L (M.take i)))) h1 → Heap.SameBut d s.heap h1 →
      (∀ h2, HOk P w (upd H d (mdO w d (putAll L (M.take (i + 1))))) h2 → Heap.SameBut d s.heap h2 → K (.yield PUnit.unit) { s with heap := h2 }) → wpAny (model P w) A (f i PUnit.unit) K E { s with heap := h1 }) →
      (∀ h', mdP w d (putAll L M) h' → Heap.SameBut d s.heap h' → Q2 PUnit.unit { s with heap := h' }) → wpAny (model P w) A (forIn [:eso.size] PUnit.unit f) Q2 E s := by
    intro f Q2 hf hq
    rw [Std.Legacy.Range.forIn_eq_forIn_range']
    simp only [Std.Legacy.Range.size, Nat.sub_zero, Nat.add_sub_cancel, Nat.div_one]
    refine wpAny_forIn_list _ (fun rest _ s' => ∃ h' i, s' = { s with heap := h' } ∧ rest = List.range' i (eso.size - i) ∧ i ≤ eso.size ∧ HOk P w (upd H d (mdO w d (putAll L (M.take i)))) h' ∧ Heap.SameBut d s.heap h') _ ?_ ?_ _ _ ⟨s.heap, 0, rfl, by simp, Nat.zero_le _, ?_, Heap.SameBut.refl _ _⟩
    · rintro x rest b s' ⟨h', i, rfl, hr, hi, ok1, sb⟩
      have hlt : i < eso.size := by
        rcases Nat.lt_or_ge i eso.size with h | h
        · exact h
        · rw [Nat.sub_eq_zero_of_le h] at hr
          simp at hr
      have e : eso.size - i = (eso.size - (i + 1)) + 1 := by omega
      rw [e, List.range'_succ] at hr
      injection hr with h1 h2
      subst h1
      exact hf x h' _ (by omega) ok1 sb fun h2' ok2 sb2 => ⟨h2', x + 1, rfl, h2, hlt, ok2, sb2⟩
    · rintro b s' ⟨h', i, rfl, hr, hi, ok1, sb⟩
      have hin : i = eso.size := by
        rcases Nat.lt_or_ge i eso.size with h | h
        · have e : eso.size - i = (eso.size - (i + 1)) + 1 := by omega
          rw [e, List.range'_succ] at hr
          exact nomatch hr
        · exact Nat.le_antisymm hi h
      refine hq h' ?_ sb
      have m1 := (ok1 d _ upd_same).1
      rw [hin, hlen, List.take_length] at m1
      exact m1
    · have z : upd H d (mdO w d (putAll L (M.take 0))) = H := by
        funext b
        by_cases hb : b = d
        · rw [hb, upd_same, hd]
          rfl
        · exact upd_ne hb
      rw [z]
      exact ok
  have keepO : ∀ h1, Heap.SameBut d s.heap h1 → h1.get? o = some oo := fun h1 sb => (sb.2 o (Ne.symm ne)).trans Mo.ho
  dsimp only
  have hne : esd.isEmpty = false := by
    rw [Bool.eq_false_iff]
    intro z
    have h0 : esd = #[] := Array.isEmpty_iff.mp z
    have := Md.size
    rw [h0, List.length_map] at this
    exact hL (List.length_eq_zero_iff.mp this.symm)
  split
  · refine wpAny_bind (wpAny_dictEntries Md.ho Md.hd ?_)
    rw [if_neg (by rw [hne]; decide)]
    refine wpAny_bind (wpAny_dictEpoch Mo.ho Mo.hd (wpAny_bind (wpAny_dictEntries Mo.ho Mo.hd (wpAny_bind (loop _ ?_ fun h' m' sb => wpAny_pure (h h' m' sb))))))
    intro i h1 K hi ok1 sb hk
    obtain ⟨e, he, hs⟩ := step i h1 hi ok1 sb
    refine wpAny_bind (wpAny_dictEntries (s := { s with heap := h1 }) (keepO h1 sb) Mo.hd ?_)
    rw [he]
    refine wpAny_bind (hs fun h2 ok2 sb2 => wpAny_bind (wpAny_dictEpoch (s := { s with heap := h2 }) (keepO h2 sb2) Mo.hd ?_))
    rw [if_neg (by simp)]
    exact wpAny_pure (hk h2 ok2 sb2)
  · refine wpAny_bind (wpAny_dictEpoch Mo.ho Mo.hd (wpAny_bind (wpAny_dictEntries Mo.ho Mo.hd (wpAny_bind (loop _ ?_ fun h' m' sb => wpAny_pure (h h' m' sb))))))
    intro i h1 K hi ok1 sb hk
    obtain ⟨e, he, hs⟩ := step i h1 hi ok1 sb
    refine wpAny_bind (wpAny_dictEntries (s := { s with heap := h1 }) (keepO h1 sb) Mo.hd ?_)
    rw [he]
    refine wpAny_bind (hs fun h2 ok2 sb2 => wpAny_bind (wpAny_dictEpoch (s := { s with heap := h2 }) (keepO h2 sb2) Mo.hd ?_))
    rw [if_neg (by simp)]
    exact wpAny_pure (hk h2 ok2 sb2)
theorem md_update (hu : A.in1.units + 1 < cLine) (ok : HOk P w H s.heap) (hd : H d = some (mdO w d L)) (ho : H o = some (mdO w o M)) (ne : d ≠ o) (q : InD H L) (r : InD H M) (hL : L ≠ []) (hl : L.length + M.length < sizeLine) {Q : Value → Shared → Prop}
    (h : ∀ h', mdP w d (putAll L M) h' → Heap.SameBut d s.heap h' → Q .none { s with heap := h' }) : wpAny (model P w) A (call (.builtin "dict.update") [.ref d, .ref o]) Q E s := by
  have md : mdP w d L s.heap := (ok d _ hd).1
  have mo : mdP w o M s.heap := (ok o _ ho).1
  refine call_meetsIn F.slot_dict_update (md_type md) F.entry_dict_update (F.args_dict_update_2 _ _) (S := fun A' R s' => A' = A ∧ s' = s ∧ ∀ h', mdP w d (putAll L M) h' → Heap.SameBut d s.heap h' → R (.ok (.ret .none)) { s with heap := h' }) (fun A' R s' hS => ?_) ⟨rfl, rfl, h⟩
  obtain ⟨rfl, rfl, hq⟩ := hS
  refine meets_dict_update_arg (md_type md) ?_
  unfold Builtin.Dict.updateFrom
  refine wpAny_bind (wpAny_typeOf (md_type mo) ?_)
  rw [if_neg (by decide)]
  refine wpAny_bind ?_
  unfold Builtin.Dict.merge
  refine wpAny_bind ?_
  unfold Builtin.Dict.readDirectly
  refine wpAny_bind (wpAny_isInstance (md_type mo) isSubtype_dict_dict ?_)
  simp only [Bool.not_true, Bool.false_eq_true, if_false]
  refine wpAny_bind (wpAny_specialOf (md_type mo) F.slot_dict_iter.lookup (wpAny_pure ?_))
  simp only [beq_self_eq_true, if_true]
  refine wpAny_bind (wpAny_pure (md_merge (H := H) hu ok hd ho ne q r hL hl fun h' m' sb => ?_))
  show wpAny _ _ (Builtin.Dict.addKeywords d [] >>= _) _ _ _
  exact wpAny_bind (wpAny_pure (wpAny_pure (hq h' m' sb)))
end
end K13

namespace K13
open PySem PySem.Spec PyProof.Rows L2

section
variable {X : Cx} {pins : List (Addr × Obj)} {σ : L2.St} {H : Hp} {s : Shared} {d : Addr} {L : TL} {t : Th} {v : V} {u : Value}
theorem units_in1 {A : Around} (h : A.units + 65 < cLine) : A.in1.units + 1 < cLine := by
  have : A.in1.units ≤ A.units + 64 := by first | exact Around.units_in1_le A | (simp [Around.in1, Around.units]) | exact Nat.le_refl _
  omega
/-- d[k] = True, k a thing -/
theorem inv_setM (hu : X.A.units + 65 < cLine) (I : Inv X pins σ H s) (hd : H d = some (mdO X.w d L)) (q : InD H L) (hv : thV H v t) (rv : RelV v u) (hl : L.length < sizeLine) {Q : Unit → Shared → Prop} {E : Value → Shared → Prop}
    (h : ∀ s', Inv X pins σ (upd H d (mdO X.w d (putM L t v))) s' → Q () s') : wpAny (model X.prog X.w) X.A (dictSet d u (.bool true)) Q E s := by
  refine md_set (by omega) I.hok (I.hok d _ hd).1 q hv rv hl fun h' k m sb => h _ ?_
  have he : ∃ z, h'.get? d = some z := let ⟨z, _, _, _, e, _⟩ := m; ⟨z, e⟩
  exact d_write I (by rw [hd]; exact True.intro) sb he (mdP_ok m)
end
/-- x in d -/
def rInM (w : World) : R2 := fun x y H Q => ∃ t d L, thV H x t ∧ y = .ref d ∧ H d = some (mdO w d L) ∧ InD H L ∧ Q (.bl (decide (t ∈ L.map (·.1)))) H
section
variable {X : Cx}
theorem op_inM (hu : X.A.units + 65 < cLine) : OpR X (compareOp .In) (rInM X.w) := by
  intro pins s σ H x y v u Q I rx ry h
  obtain ⟨t, d, L, hx, rfl, hd, q, hq⟩ := h
  obtain rfl : u = Value.ref d := ry
  exact md_in (units_in1 hu) I.hok (I.hok d _ hd).1 q hx rx fun k => ⟨.bl _, H, I.tok k, rfl, hq⟩
/-- d.update(d2) -/
def tUpdM (w : World) (td ty : TE) : TE := fun σ H Q => td σ H fun x H1 => ∃ d, x = .ref d ∧ (∃ L, H1 d = some (mdO w d L)) ∧ ty σ H1 fun y H2 => ∃ o L M, y = .ref o ∧ H2 d = some (mdO w d L) ∧ H2 o = some (mdO w o M) ∧ d ≠ o ∧ InD H2 L ∧ InD H2 M ∧ L ≠ [] ∧ L.length + M.length < sizeLine ∧ Q .non (upd H2 d (mdO w d (putAll L M)))
theorem pe_updM {o e : Expr} {td ty : TE} {apos cpos : Pos} (hu : X.A.units + 65 < cLine) (ho : PE X o td) (he : PE X e ty) (m : M1 X o "update" apos e cpos) : PE X (.Call (.Attribute o "update" apos) [e] [] cpos) (tUpdM X.w td ty) := by
  refine ⟨fun pins s σ H Q I h => ?_⟩
  refine wpAny_Call_method m.base m.few m.line PySem.F.plainAttrs_dict PySem.F.slot_dict_update PySem.F.type_dict_update (thn (ho.run pins s σ H _ I h) fun u s1 ⟨x, H1, I1, rx, d, ex, ⟨L, hd⟩, q1⟩ => ?_)
  subst ex
  obtain rfl : u = Value.ref d := rx
  refine ⟨md_type (I1.hok d _ hd).1, fun b q => ?_, ?_⟩
  · cases q
    obtain ⟨ob, _, _, _, h1, h2, _⟩ := (I1.hok d _ hd).1
    exact ⟨ob, h1, h2.2.1⟩
  rw [m.trees]
  refine Calls.callWith_builtin rfl (Calls.evalArgs_plain (Calls.spliced_cons (thn (he.run pins s1 σ H1 _ I1 q1) fun iv s2 ⟨y, H2, I2, ry, o, L, M, ey, h1, h2, ne, q, r, hL, hl, fin⟩ => Calls.spliced_nil ?_)))
  subst ey
  obtain rfl : iv = Value.ref o := ry
  refine md_update (H := H2) (units_in1 hu) I2.hok h1 h2 ne q r hL hl fun h' m' sb => ⟨.non, _, ?_, rfl, fin⟩
  have he : ∃ z, h'.get? d = some z := let ⟨z, _, _, _, e, _⟩ := m'; ⟨z, e⟩
  exact d_write (t' := s2.toks) I2 (by rw [h1]; exact True.intro) sb he (mdP_ok m')
end

/-! ### for k in d -/
def Itm (w : World) (d : Addr) (o : Obj) (L : TL) : It :=
  ⟨fun i H => H d = some (.frz o (mdO w d L)) ∧ i < L.length, fun i H x H' => H' = H ∧ ∃ t, L[i]? = some (t, x), fun i H => H d = some (.frz o (mdO w d L)) ∧ L.length ≤ i⟩
section
variable {X : Cx} {pins : List (Addr × Obj)} {σ : L2.St} {H : Hp} {s : Shared} {d : Addr} {o : Obj} {L : TL}
theorem mkE_key {w : World} : ∀ {ts : List Th} {us : List Value} {i : Nat} {u : Value}, ts.length = us.length → us[i]? = some u → ∃ e, (mkE w ts us)[i]? = some e ∧ e.key = u
  | _, [], i, u, _, h => by simp at h
  | [], _ :: _, i, u, h, _ => by cases h
  | t :: ts, v :: us, 0, u, h, e => by
    simp at e
    subst e
    exact ⟨_, rfl, rfl⟩
  | t :: ts, v :: us, i + 1, u, h, e => by
    obtain ⟨x, h1, h2⟩ := mkE_key (w := w) (i := i) (ts := ts) (us := us) (by simpa using h) (by simpa using e)
    exact ⟨x, by unfold mkE; simpa using h1, h2⟩
theorem frzM (I : Inv X pins σ H s) (h : H d = some (.frz o (mdO X.w d L))) :
    (d == sysModules) = false ∧ s.heap.get? d = some o ∧ o.ExactDict ∧ ∃ (es : Array DictEntry) (ep : Nat), o.data = .dict es ep ∧ es.size = L.length ∧
      ∀ (i : Nat) (t : Th) (v : V), L[i]? = some (t, v) → ∃ en : DictEntry, es[i]? = some en ∧ RelV v en.key := by
  obtain ⟨hd, q⟩ := I.hok d _ h
  obtain ⟨⟨o', es, ep, us, ho, hx, hdt, rv, he, _, hs, _⟩, _⟩ := q
  rw [hd] at ho
  cases ho
  have hl : (L.map (·.1)).length = us.length := by
    have := rv.length
    simp at this ⊢
    exact this
  refine ⟨hs, hd, hx, es, ep, hdt, ?_, fun i t v e => ?_⟩
  · rw [← Array.length_toList, he, mkE_len hl, List.length_map]
  · obtain ⟨u, hu, ru⟩ := rv.get (i := i) (x := v) (by rw [List.getElem?_map, e]; rfl)
    obtain ⟨en, h1, h2⟩ := mkE_key (w := X.w) hl hu
    refine ⟨en, ?_, by rw [h2]; exact ru⟩
    rw [← Array.getElem?_toList, he]
    exact h1
end
section
variable {P : Program} {w : World} {K : PySem.W.Frag} {tg : Expr} {d : Addr} {o : Obj} {es : Array DictEntry} {ep : Nat} {L : TL}
theorem turn_m (it : Addr) (hod : o.data = .dict es ep) : Turn P w K tg (Itm w d o L) [it] it (fun i h => h.IsKeyIter it d i L.length ep) where
  mem := by simp
  obj := fun i h st b hb => by
    rw [List.mem_singleton.mp hb]
    obtain ⟨oi, e, _, dd⟩ := st
    exact ⟨oi, e, fun v z => by rw [dd] at z; cases z⟩
  keep := fun i h h' st k => st.at fun oi e => k it (by simp) oi e
  item := by
    intro X hP hw hK hc i pins s σ H E I hf st hg
    subst hP hw hK
    obtain ⟨hd, hi⟩ := hg
    obtain ⟨f0, f1, f2, f3, f4, f5⟩ := hf it (by simp)
    obtain ⟨hs, hgd, hx, es', ep', hdt, hsz, ent⟩ := frzM I hd
    obtain ⟨rfl, rfl⟩ := dict_ep hod hdt
    have hp : L[i]? = some (L[i].1, L[i].2) := List.getElem?_eq_getElem hi
    obtain ⟨en, hen, ru⟩ := ent i _ _ hp
    refine next_key_item st hgd hdt hsz hen fun h' st' sb => ?_
    have I1 : Inv X pins σ H { s with heap := h' } := I.turned (t' := s.toks) (fun b ob hb e => (sb.2 b hb).trans e) f0 f1 f3 f4 f5
    obtain ⟨oi, e, c, dd⟩ := id st'
    exact ⟨en.key, rfl, go_of (s := { s with heap := h' }) e c dd (by decide) ⟨_, H, I1, ru, ⟨rfl, _, hp⟩, st', fun b hb => (hf b hb).1⟩⟩
  done := by
    intro X hP hw hK hc i pins s σ H E I hf st hg
    subst hP hw hK
    obtain ⟨hd, hi⟩ := hg
    obtain ⟨f0, f1, f2, f3, f4, f5⟩ := hf it (by simp)
    obtain ⟨hs, hgd, hx, es', ep', hdt, hsz, ent⟩ := frzM I hd
    obtain ⟨rfl, rfl⟩ := dict_ep hod hdt
    exact next_key_end (I.ok.hd hc) st hgd hdt hsz hi fun h' eb => ⟨rfl, I.turned (t' := s.toks) (fun b ob hb e => eb b ob hb e) f0 f1 f3 f4 f5⟩
  self := fun A i s Q E st h => wpAny_pyIter_keyiter st h
end
def iM (w : World) (td : TE) : TI := fun σ H R => td σ H fun x H1 => ∃ d o L, x = .ref d ∧ H1 d = some (.frz o (mdO w d L)) ∧ R (Itm w d o L) H1
theorem pi_m {X : Cx} {tg e : Expr} {td : TE} (he : PE X e td) : PI X tg e (iM X.w td) := by
  refine ⟨fun pins s σ H R I h => ?_⟩
  refine thn (he.run pins s σ H _ I h) fun u s1 ⟨x, H1, I1, rx, d, o, L, ex, hd, q⟩ => ?_
  subst ex
  obtain rfl : u = Value.ref d := rx
  obtain ⟨hs, hgd, hx, es, ep, hdt, hsz, ent⟩ := frzM I1 hd
  refine iter_keys hs hgd hx hdt (pi_one (tk := s1.toks) I1 _ (turn_m _ hdt) ⟨_, Heap.get?_push_size _ rfl, rfl, ?_⟩ q)
  rw [hsz] <;> rfl
end K13

namespace K13
open PySem PySem.Spec PyProof.Rows L2

/-! ### {thing: True for target in iter} -/
def Trn (w : World) (J : It) (g : TG) (tk tv : TE) (vs : List Nat) (σ : L2.St) (D : Addr) (Q : Hp → Prop) (i m : Nat) (W : Nat → Nat → Hp → Prop) (H : Hp) : Prop :=
  (J.stop i H ∧ Q H) ∨ (J.go i H ∧ ∃ Nx : Hp → Prop, (∀ H', Nx H' → ∃ m', m' < m ∧ W (i + 1) m' H') ∧ ∀ x H', J.yld i H x H' → g x (wipe σ vs) H' fun σ2 H2 => wipe σ2 vs = wipe σ vs ∧
    tk σ2 H2 fun y H4 => tv σ2 H4 fun z H5 => z = .bl true ∧ ∃ L t, thV H5 y t ∧ H5 D = some (mdO w D L) ∧ InD H5 L ∧ L.length < sizeLine ∧ Nx (upd H5 D (mdO w D (putM L t y))))
def tDcM (w : World) (wi : TI) (g : TG) (tk tv : TE) (vs : List Nat) : TE := fun σ H Q => wi σ H fun J H1 => ∀ D, H1 D = none → ∃ W : Nat → Nat → Hp → Prop, (∃ m, W 0 m (upd H1 D (mdO w D []))) ∧ ∀ i m H, W i m H → Trn w J g tk tv vs σ D (fun H => Q (.ref D) H) i m W H
theorem md_empty {w : World} (h : Heap) (hb : sysModules < h.objs.size) : mdP w h.objs.size [] (h.push { cls := .type "dict", data := .dict #[] }) :=
  ⟨_, #[], 0, [], Heap.get?_push_size _ rfl, ⟨rfl, rfl, rfl⟩, rfl, .nil, rfl, List.nodup_nil, beq_eq_false_iff_ne.mpr (Ne.symm (Nat.ne_of_lt hb)), Nat.zero_le _⟩
section
variable {X : Cx}
theorem pe_dcM {kx vx tg iter : Expr} {scope : Scope} {own : List (Str × Nat)} {pos : Pos} {wi : TI} {g : TG} {tk tv : TE} (hu : X.A.units + 65 < cLine) (hc : X.calm = true) (hN : X.N.Nodup) (hi : PI X tg iter wi) (ok : BlkOk X.N X.env.scope scope own)
    (hg : ∀ (s : Shared) (H : Hp) (C : Addr) (cl : List (Str × Addr)) (fp : List Addr), PG (X.blk s H scope (compEnvC scope cl C X.env) fp) tg g)
    (hk : ∀ (s : Shared) (H : Hp) (C : Addr) (cl : List (Str × Addr)) (fp : List Addr), PE (X.blk s H scope (compEnvC scope cl C X.env) fp) kx tk)
    (he : ∀ (s : Shared) (H : Hp) (C : Addr) (cl : List (Str × Addr)) (fp : List Addr), PE (X.blk s H scope (compEnvC scope cl C X.env) fp) vx tv) (hs : ∀ x, foldedSetIterable iter X.env x = pure x := by intro _; rfl) :
    PE X (.DictComp kx vx [⟨tg, iter, [], 0⟩] scope pos) (tDcM X.w wi g tk tv (own.map (·.2))) := by
  refine ⟨fun pins s σ H Q I h => ?_⟩
  rw [arm_eval_DictComp]
  have frees : ∀ y ∈ scope.names, y.2 = .free → ∃ c, X.env.cells.lookup y.1 = some c := fun y hy e => (ok.free y hy e).elim (fun k => I.ok.has _ (.inl k)) fun k => I.ok.has _ (.inr k)
  refine wpAny_comprehension_free (use := none) rfl hs (closure_ok frees) ok.kind (fun y hy e => by rw [ok.uniq y hy, e]) (thn (hi.run pins s σ H _ I h) fun xv s1 hx => thn hx fun itv s2 h2 => ?_)
  obtain ⟨it, fp, tn, J, H2, rfl, I2, T, st2, f2, q⟩ := h2
  refine wpAny_newObj_type (newEnv_comp ?_)
  obtain ⟨D, hD⟩ : ∃ D, D = s2.heap.objs.size := ⟨_, rfl⟩
  obtain ⟨W, ⟨m0, w0⟩, turn⟩ := q D (I2.hok.fresh (Nat.le_of_eq hD.symm))
  rw [← hD]
  -- the new dict
  obtain ⟨s3, hs3⟩ : ∃ s3 : Shared, s3 = { s2 with heap := s2.heap.push { cls := .type "dict", data := .dict #[] } } := ⟨_, rfl⟩
  have h3 : s3.heap = s2.heap.push { cls := .type "dict", data := .dict #[] } := by rw [hs3]
  have I3 : Inv X pins σ (upd H2 D (mdO X.w D [])) s3 := by
    rw [hs3]
    refine I2.laid (t' := s2.toks) (fun b o e => Heap.get?_push_of_some _ e) (Nat.le_of_eq hD.symm) ?_
    rw [hD]
    exact mdP_ok (md_empty s2.heap I2.big)
  have f3 : ∀ b ∈ fp, FpOk X pins (upd H2 D (mdO X.w D [])) b ∧ b < s3.heap.objs.size := fun b hb => by
    obtain ⟨o, e, _⟩ := T.obj _ _ st2 b hb
    have hlt : b < s2.heap.objs.size := Heap.lt_size e
    refine ⟨⟨?_, (f2 b hb).2⟩, by rw [h3, Heap.size_push]; exact Nat.lt_succ_of_lt hlt⟩
    rw [upd_ne (by rw [hD]; exact Nat.ne_of_lt hlt)]
    exact (f2 b hb).1
  have I4 := block_start I3 ok hN f3
  obtain ⟨H3, hH3⟩ : ∃ H3, H3 = upd H2 D (mdO X.w D []) := ⟨_, rfl⟩
  rw [← hH3] at I3 I4 w0 f3
  obtain ⟨cells, hcl⟩ : ∃ cells, cells = cellsFrom (s3.heap.objs.size + 1) scope.names (cloFrom X.env.cells scope.names []) := ⟨_, rfl⟩
  rw [← hcl] at I4
  have pg := hg s3 H3 s3.heap.objs.size cells fp
  have pk := hk s3 H3 s3.heap.objs.size cells fp
  have pe := he s3 H3 s3.heap.objs.size cells fp
  show codeAny _ _ (.compStart (.DictComp kx vx [⟨tg, iter, [], 0⟩] scope pos) 0 (.ref it) (.ref D) (compEnvC scope (cellsFrom ((s2.heap.push { cls := .type "dict", data := .dict #[] }).objs.size + 1) scope.names (cloFrom X.env.cells scope.names [])) (s2.heap.push { cls := .type "dict", data := .dict #[] }).objs.size X.env)) (compPost (model X.prog X.w) X.A X.xe none (EP X pins σ Q) (.ref D) (s2.heap.push { cls := .type "dict", data := .dict #[] }).objs.size) { s2 with heap := pushCells ((s2.heap.push { cls := .type "dict", data := .dict #[] }).push { cls := .type "dict", data := .dict #[] }) scope.names }
  rw [← h3, ← hcl]
  obtain ⟨ce, hce⟩ : ∃ ce, ce = compEnvC scope cells s3.heap.objs.size X.env := ⟨_, rfl⟩
  have cL : ce.locals = s3.heap.objs.size := by rw [hce]; rfl
  rw [← hce] at I4 pg pk pe ⊢
  obtain ⟨s4, hs4⟩ : ∃ s4 : Shared, s4 = { s3 with heap := pushCells (s3.heap.push { cls := .type "dict", data := .dict #[] }) scope.names } := ⟨_, rfl⟩
  rw [← hs4] at I4
  have e4 : s4 = { s2 with heap := pushCells (s3.heap.push { cls := .type "dict", data := .dict #[] }) scope.names } := by rw [hs4, hs3]
  rw [← e4]
  have st4 : tn 0 s4.heap := T.keep _ _ _ st2 fun b _ o e => by
    rw [hs4]
    exact pushCells_keeps _ _ _ _ (Heap.get?_push_of_some _ (by rw [h3]; exact Heap.get?_push_of_some _ e))
  have fix : ∀ {σ' : L2.St} {G : Hp} {s' : Shared}, Inv (X.blk s3 H3 scope ce fp) [] σ' G s' → (∀ b ∈ fp, G b = none) → ∀ b ∈ fp, FpOk (X.blk s3 H3 scope ce fp) [] G b := fun {σ' G s'} I' hn b hb =>
    ⟨hn b hb, (I'.ok.exf b hb).1, I'.ok.exfs b hb, .inl hb, fun x c e => (I'.ok.exf b hb).2 x c e, fun p hp => absurd (show p ∈ ([] : List (Addr × Obj)) ++ [] from hp) (by simp)⟩
  have loop : codeAny (model X.prog X.w) X.A (.compLoop (.DictComp kx vx [⟨tg, iter, [], 0⟩] scope pos) 0 (.ref it) (.ref D) ce) (compPost (model X.prog X.w) X.A X.xe none (EP X pins σ Q) (.ref D) s3.heap.objs.size) s4 := by
    refine compLoop_anyD (fun n s' => ∃ i G, Inv (X.blk s3 H3 scope ce fp) [] (wipe σ (own.map (·.2))) G s' ∧ tn i s'.heap ∧ (∀ b ∈ fp, G b = none) ∧ W i n G) ?_ m0 ⟨0, H3, I4, st4, fun b hb => (f3 b hb).1.1, by rw [hH3] at w0 ⊢; exact w0⟩
    rintro n s5 ⟨i, H5, I5, st5, n5, w5⟩
    rcases turn i n H5 w5 with ⟨stop, qq⟩ | ⟨go, Nx, hNx, step⟩
    · refine thnF (T.done (X.blk s3 H3 scope ce fp) rfl rfl rfl hc i [] s5 _ H5 (fun _ _ => False) I5 (fix I5 n5) st5 stop) fun r s6 ⟨hr, I6⟩ => ?_
      subst hr
      have I7 : Inv X pins σ H5 s6 := I3.call' (ch := fp) I6.os I6.base I6.hok I6.bare fun b hb => ⟨(f3 b hb).1.2.2.2.1, (f3 b hb).1.2.1, (f3 b hb).1.2.2.2.2.1, (f3 b hb).1.2.2.2.2.2⟩
      have nC : H5 s3.heap.objs.size = none := by rw [← cL]; exact I6.free
      obtain ⟨m, hn, _⟩ := I6.loc
      have hn : s6.heap.Ns ce.locals m := hn
      rw [cL] at hn
      obtain ⟨k0, k1, k2, k3, k4, k5⟩ := I3.fpOk (Nat.le_refl _) nC
      exact ⟨m, hn, fun h'' sb => ⟨.ref D, H5, I7.turned (t' := s6.toks) (fun b o hb e => (sb.2 b hb).trans e) k0 k1 k3 k4 k5, rfl, qq⟩⟩
    · refine thnF (T.item (X.blk s3 H3 scope ce fp) rfl rfl rfl hc i [] s5 _ H5 (fun _ _ => False) I5 (fix I5 n5) st5 go) fun r s6 ⟨u, hr, h6⟩ => ?_
      subst hr
      refine thnF h6 fun _ s7 ⟨x, H7, I7, r7, y7, st7, n7⟩ => ?_
      have I7' := I7.pinned (fix I7 n7) (T.obj _ _ st7)
      refine thnF (pg.run _ s7 _ H7 x u _ I7' r7 (step x H7 y7)) fun _ s8 ⟨σ8, H8, I8, hw8, q8⟩ => ?_
      refine wpAny_pure ?_
      rw [if_pos rfl]
      refine thnF (pk.run _ s8 σ8 H8 _ I8 q8) fun z s10 ⟨yk, H10, I10, r10, q10⟩ => ?_
      refine thnF (pe.run _ s10 σ8 H10 _ I10 q10) fun z2 s11 ⟨yv, H11, I11, r11, ev, L, t, ht, hD11, hin, hz, nx⟩ => ?_
      subst ev
      obtain rfl : z2 = Value.bool true := r11
      refine inv_setM (X := X.blk s3 H3 scope ce fp) hu I11 hD11 hin ht r10 hz fun s12 I12 => ?_
      obtain ⟨m', hm, w'⟩ := hNx _ nx
      have held : ∀ b ∈ fp, ∀ o, s7.heap.get? b = some o → s12.heap.get? b = some o ∧ (upd H11 D (mdO X.w D (putM L t yk))) b = none := fun b hb o e =>
        let z := I12.pin (b, o) (List.mem_append_right _ (List.mem_append_right _ (mem_pinsAt hb e)))
        ⟨z.1, z.2.1⟩
      have hl : (wipe σ (own.map (·.2))).length = σ8.length := by rw [← hw8, wipe_length]
      refine ⟨m', hm, i + 1, _, (I12.unpinned (pins := [])).weak hl (fun j v e => ?_), T.keep _ _ _ st7 fun b hb o e => (held b hb o e).1, fun b hb => ?_, w'⟩
      · rw [← hw8] at e
        exact (wipe_some e).1
      · obtain ⟨o, e, _⟩ := T.obj _ _ st7 b hb
        exact (held b hb o e).2
  exact codeAny_compStart_dict loop (T.self X.A 0 _ _ _ st4 loop)
end
end K13

namespace K13
open PySem PySem.Spec PyProof.Rows L2

/-! ### dicts of keywords, entry by entry -/
def KwE : List (Str × Value) → List DictEntry → Prop
  | [], [] => True
  | kv :: r, e :: es => (∃ t, e.key = .str kv.1 t) ∧ e.val = kv.2 ∧ KwE r es
  | _, _ => False
theorem KwE.len : ∀ {kvs : List (Str × Value)} {es : List DictEntry}, KwE kvs es → es.length = kvs.length
  | [], [], _ => rfl
  | [], _ :: _, h => h.elim
  | _ :: _, [], h => h.elim
  | _ :: r, _ :: es, h => by rw [List.length_cons, List.length_cons, KwE.len h.2.2]
theorem KwE.app : ∀ {kvs ls : List (Str × Value)} {es fs : List DictEntry}, KwE kvs es → KwE ls fs → KwE (kvs ++ ls) (es ++ fs)
  | [], _, [], _, _, g => g
  | [], _, _ :: _, _, h, _ => h.elim
  | _ :: _, _, [], _, h, _ => h.elim
  | _ :: r, _, _ :: es, _, h, g => ⟨h.1, h.2.1, KwE.app h.2.2 g⟩
theorem KwE.at : ∀ {kvs : List (Str × Value)} {es : List DictEntry} {i : Nat} {kv : Str × Value}, KwE kvs es → kvs[i]? = some kv → ∃ e, es[i]? = some e ∧ (∃ t, e.key = .str kv.1 t) ∧ e.val = kv.2
  | [], _, _, _, _, e => by simp at e
  | _ :: _, [], _, _, h, _ => h.elim
  | _ :: r, x :: es, 0, _, h, e => by
    simp at e
    subst e
    exact ⟨x, rfl, h.1, h.2.1⟩
  | _ :: r, x :: es, i + 1, _, h, e => by
    obtain ⟨y, h1, h2⟩ := KwE.at (i := i) h.2.2 (by simpa using e)
    exact ⟨y, by simpa using h1, h2⟩
theorem isStr_str (k x : Str) (t : Tok) : (Value.str x t).isStr k = decide (x = k) := by
  show (x == k) = decide (x = k)
  by_cases h : x = k
  · simp [h]
  · simp [h]
theorem KwE.no : ∀ {kvs : List (Str × Value)} {es : List DictEntry} {k : Str}, KwE kvs es → k ∉ kvs.map (·.1) → ∀ e ∈ es, e.key.isStr k = false
  | [], [], _, _, _, _, h => by cases h
  | [], _ :: _, _, h, _, _, _ => h.elim
  | _ :: _, [], _, h, _, _, _ => h.elim
  | kv :: r, x :: es, k, h, hk, e, he => by
    rcases List.mem_cons.mp he with q | q
    · obtain ⟨t, ht⟩ := h.1
      rw [q, ht, isStr_str]
      have : kv.1 ≠ k := fun z => hk (by rw [← z]; exact List.mem_cons_self)
      simp [this]
    · exact KwE.no h.2.2 (fun z => hk (List.mem_cons_of_mem _ z)) e q
theorem KwE.strs : ∀ {kvs : List (Str × Value)} {es : List DictEntry}, KwE kvs es → ∀ e ∈ es, ∃ x t, e.key = .str x t
  | [], [], _, _, h => by cases h
  | [], _ :: _, h, _, _ => h.elim
  | _ :: _, [], h, _, _ => h.elim
  | kv :: r, x :: es, h, e, he => by
    rcases List.mem_cons.mp he with q | q
    · obtain ⟨t, ht⟩ := h.1
      rw [q]
      exact ⟨_, t, ht⟩
    · exact KwE.strs h.2.2 e q
structure KwD (h : Heap) (d : Addr) (kvs : List (Str × Value)) (o : Obj) (es : Array DictEntry) (ep : Nat) : Prop where
  ho : h.get? d = some o
  ex : o.ExactDict
  hd : o.data = .dict es ep
  he : KwE kvs es.toList
theorem KwD.new (h : Heap) : KwD (h.push { cls := .type "dict", data := .dict #[] }) h.objs.size [] { cls := .type "dict", data := .dict #[] } #[] 0 := ⟨Heap.get?_push_size _ rfl, ⟨rfl, rfl, rfl⟩, rfl, trivial⟩
theorem KwD.keep {h h' : Heap} {d : Addr} {kvs : List (Str × Value)} {o : Obj} {es : Array DictEntry} {ep : Nat} (m : KwD h d kvs o es ep) (k : ∀ o, h.get? d = some o → h'.get? d = some o) : KwD h' d kvs o es ep := ⟨k _ m.ho, m.ex, m.hd, m.he⟩
theorem KwD.size {h : Heap} {d : Addr} {kvs : List (Str × Value)} {o : Obj} {es : Array DictEntry} {ep : Nat} (m : KwD h d kvs o es ep) : es.size = kvs.length := by rw [← Array.length_toList, m.he.len]
section
variable {M : Model} {A : Around} {E : Value → Shared → Prop} {s : Shared} {d : Addr} {kvs : List (Str × Value)} {o : Obj} {es : Array DictEntry} {ep : Nat} {k : Str} {v : Value}
theorem findIdx_no (m : KwD s.heap d kvs o es ep) (hk : k ∉ kvs.map (·.1)) : es.findIdx? (fun e => e.key.isStr k) = none := by
  rw [Array.findIdx?_eq_none_iff]
  intro e he
  exact m.he.no hk e (Array.mem_toList_iff.mpr he)
theorem kw_set (m : KwD s.heap d kvs o es ep) (hk : k ∉ kvs.map (·.1)) {Q : Unit → Shared → Prop} (h : ∀ h' o' es', KwD h' d (kvs ++ [(k, v)]) o' es' (ep + 1) → Heap.SameBut d s.heap h' → Q () { s with heap := h', toks := s.toks + 1 }) : wpAny M A (nsSet d k v) Q E s := by
  have hn := findIdx_no m hk
  obtain ⟨c, dd, dat, sl⟩ := o
  have hd : dat = .dict es ep := m.hd
  subst hd
  have hany : es.any (·.refKey) = false := by
    rw [Array.any_eq_false']
    intro e he
    obtain ⟨x, t, q⟩ := m.he.strs e (Array.mem_toList_iff.mpr he)
    simp [DictEntry.refKey, q]
  have upd : ∀ z, Obj.putName k z (.str k s.toks) v ⟨c, dd, .dict es ep, sl⟩ = ⟨c, dd, .dict (es.push ⟨z, .str k s.toks, v⟩) (ep + 1), sl⟩ := fun z => by simp only [Obj.putName_eq, Obj.putNameByArray, hn]
  unfold nsSet strHash
  refine wpAny_bind (wpAny_bind (wpAny_askSetting (wpAny_pure (wpAny_bind (wpAny_mkText (wpAny_bind (wpAny_loadPart (s := { s with toks := s.toks + 1 }) m.ho ?_)))))))
  dsimp only
  rw [if_neg (by rw [aRefKeyMayBeTheName_eq]; simp [aRefKeyMayBeTheNameByArray, hany])]
  generalize (if k.cps.isEmpty = true then 0 else reduceHash (M.w.params.strHash k.cps)) = z
  refine wpAny_updatePart (s := { s with toks := s.toks + 1 }) m.ho (h _ ⟨c, dd, .dict (es.push ⟨z, .str k s.toks, v⟩) (ep + 1), sl⟩ (es.push ⟨z, .str k s.toks, v⟩) ⟨?_, ?_, rfl, ?_⟩ (Heap.SameBut.update ..))
  · rw [← upd]
    exact Heap.get?_update_self _ m.ho (by rw [upd]; rfl)
  · exact ⟨m.ex.1, m.ex.2.1, m.ex.2.2⟩
  · rw [Array.toList_push]
    exact m.he.app ⟨⟨_, rfl⟩, rfl, trivial⟩
/-- the dict's lookup by a text -/
theorem kw_find {t : Tok} {hsh : Int} (m : KwD s.heap d kvs o es ep) (hk : k ∉ kvs.map (·.1)) {Q : Option Nat → Shared → Prop} (h : Q none s) : wpAny M A (dictFind d (.str k t) hsh) Q E s := by
  unfold dictFind
  refine wpAny_holding (wpAny_bind (wpAny_dictEntries m.ho m.hd ?_))
  dsimp only
  have hall : (es.all fun e => isExactStrKey e.key) = true := by
    rw [Array.all_eq_true']
    intro e he
    obtain ⟨x, t, q⟩ := m.he.strs e (Array.mem_toList_iff.mpr he)
    rw [q]
    rfl
  rw [if_pos hall]
  unfold foundByValue
  rw [findIdx_no m hk]
  exact wpAny_pure h
theorem kw_put {t : Tok} {hsh : Int} (m : KwD s.heap d kvs o es ep) (hk : k ∉ kvs.map (·.1)) (hz : kvs.length ≤ 100) {Q : Unit → Shared → Prop} (h : ∀ h' o' es', KwD h' d (kvs ++ [(k, v)]) o' es' (ep + 1) → Heap.SameBut d s.heap h' → Q () { s with heap := h' }) :
    wpAny M A (dictPut d hsh (.str k t) v) Q E s := by
  unfold dictPut
  refine wpAny_bind (kw_find m hk ?_)
  have hs := m.size
  have hl : 100 ≤ sizeLine := by decide
  refine wpAny_updateDictKeys (hz := by omega) m.ho m.hd (h _ _ (es.push ⟨hsh, .str k t, v⟩) ⟨Heap.get?_update_self _ m.ho (Obj.isFreed_of_dict (Obj.data_mapDictKeys m.hd _)), m.ex.mapDictKeys _, Obj.data_mapDictKeys m.hd _, ?_⟩ (Heap.SameBut.update ..))
  rw [Array.toList_push]
  exact m.he.app ⟨⟨_, rfl⟩, rfl, trivial⟩
end
section
variable {P : Program} {w : World} {A : Around} {E : Value → Shared → Prop} {s : Shared} {d a : Addr} {kvs : List (Str × Value)} {o o2 : Obj} {es es2 : Array DictEntry} {ep ep2 : Nat}
theorem KwD.type (m : KwD s.heap d kvs o es ep) : s.TypeIs (.ref d) "dict" := ⟨o, m.ho, m.ex.1⟩
theorem kw_merge (m : KwD s.heap d [] o es ep) (n : KwD s.heap a kvs o2 es2 ep2) (hda : d ≠ a) (hsys : (a == sysModules) = false) (hnd : (kvs.map (·.1)).Nodup) (hz : kvs.length ≤ 100) {Q : Unit → Shared → Prop}
    (h : ∀ h' o' es' ep', KwD h' d kvs o' es' ep' → Heap.SameBut d s.heap h' → Q () { s with heap := h' }) : wpAny (model P w) A (mergeMapping d (.ref a) true) Q E s := by
  have h0 : es.isEmpty = true := by
    have := m.size
    rw [Array.isEmpty_iff_size_eq_zero]
    simpa using this
  have hs2 := n.size
  unfold mergeMapping
  refine wpAny_bind (wpAny_isInstance n.type isSubtype_dict_dict ?_)
  rw [if_pos rfl]
  refine wpAny_bind (wpAny_specialOf n.type F.slot_dict_iter.lookup (wpAny_bind (wpAny_pure ?_)))
  simp only [beq_self_eq_true]
  rw [if_neg (by rw [hsys]; exact Bool.false_ne_true)]
  refine wpAny_bind (wpAny_dictEntries m.ho m.hd ?_)
  rw [if_pos h0]
  refine wpAny_bind (wpAny_dictEntries n.ho n.hd (wpAny_bind ?_))
  rw [← Array.forIn_toList]
  refine wpAny_forIn_list _ (fun rest _ s' => s' = s ∧ ∀ e ∈ rest, ∃ x t, e.key = .str x t) _ ?_ ?_ _ _ ⟨rfl, fun e he => n.he.strs e he⟩
  · rintro e rest b s' ⟨rfl, hst⟩
    obtain ⟨x, t, q⟩ := hst e List.mem_cons_self
    rw [q]
    exact wpAny_pure ⟨rfl, fun e he => hst e (List.mem_cons_of_mem _ he)⟩
  · rintro b s' ⟨rfl, _⟩
    refine wpAny_bind (wpAny_dictEntries n.ho n.hd (wpAny_bind (wpAny_dictEpoch n.ho n.hd (wpAny_bind ?_))))
    rw [List.range_eq_range']
    refine wpAny_forIn_list _ (fun rest _ s2 => ∃ h' i o' es' ep', s2 = { s' with heap := h' } ∧ rest = List.range' i (es2.size - i) ∧ i ≤ es2.size ∧ KwD h' d (kvs.take i) o' es' ep' ∧ Heap.SameBut d s'.heap h') _ ?_ ?_ _ _ ⟨s'.heap, 0, o, es, ep, rfl, by simp, Nat.zero_le _, m, Heap.SameBut.refl _ _⟩
    · rintro x rest b s2 ⟨h', i, o', es', ep', rfl, hr, hi, m', sb⟩
      have hlt : i < es2.size := by
        rcases Nat.lt_or_ge i es2.size with h | h
        · exact h
        · rw [Nat.sub_eq_zero_of_le h] at hr
          simp at hr
      have e : es2.size - i = (es2.size - (i + 1)) + 1 := by omega
      rw [e, List.range'_succ] at hr
      injection hr with h1 h2
      subst h1
      have n' : KwD h' a kvs o2 es2 ep2 := n.keep fun q e => (sb.2 a (Ne.symm hda)).trans e
      have hk : kvs[x]? = some (kvs[x]'(by omega)) := List.getElem?_eq_getElem (by omega)
      generalize kvs[x]'(by omega) = kv at hk
      obtain ⟨en, he, ⟨t, ht⟩, hv⟩ := n.he.at hk
      have hno : kv.1 ∉ (kvs.take x).map (·.1) := by
        intro hm
        obtain ⟨j, hj⟩ := List.mem_iff_getElem?.mp hm
        have hjl := (List.getElem?_eq_some_iff.mp hj).1
        rw [List.length_map, List.length_take] at hjl
        rw [List.getElem?_map, List.getElem?_take_of_lt (by omega)] at hj
        have h3 : (kvs.map (·.1))[j]? = some kv.1 := by rw [List.getElem?_map]; exact hj
        have h4 : (kvs.map (·.1))[x]? = some kv.1 := by rw [List.getElem?_map, hk]; rfl
        have := (List.getElem?_inj (List.getElem?_eq_some_iff.mp h3).1 hnd).mp (h3.trans h4.symm)
        omega
      refine wpAny_bind (wpAny_dictEntries (s := { s' with heap := h' }) n'.ho n'.hd ?_)
      rw [← Array.getElem?_toList, he]
      dsimp only
      rw [ht, hv]
      refine wpAny_bind (wpAny_holding ?_)
      rw [if_pos trivial]
      refine wpAny_bind (kw_find (s := { s' with heap := h' }) m' hno ?_)
      rw [if_neg (by decide)]
      refine kw_put (s := { s' with heap := h' }) m' hno (by rw [List.length_take]; omega) fun h3 o3 es3 m3 sb3 => ?_
      have n3 : KwD h3 a kvs o2 es2 ep2 := n'.keep fun q e => (sb3.2 a (Ne.symm hda)).trans e
      refine wpAny_bind (wpAny_dictEpoch (s := { s' with heap := h3 }) n3.ho n3.hd ?_)
      rw [if_neg (by simp)]
      refine wpAny_pure ⟨h3, x + 1, o3, es3, ep' + 1, rfl, h2, hlt, ?_, sb.trans sb3⟩
      rw [List.take_add_one, hk]
      exact m3
    · rintro b s2 ⟨h', i, o', es', ep', rfl, hr, hi, m', sb⟩
      have hin : i = es2.size := by
        rcases Nat.lt_or_ge i es2.size with h | h
        · have e : es2.size - i = (es2.size - (i + 1)) + 1 := by omega
          rw [e, List.range'_succ] at hr
          exact nomatch hr
        · exact Nat.le_antisymm hi h
      rw [hin, hs2, List.take_length] at m'
      exact wpAny_pure (h h' o' es' ep' m' sb)
theorem kw_in {f : Value} (m : KwD s.heap d kvs o es ep) {Q : List (Str × Value) → Shared → Prop} (h : Q kvs s) : wpAny (model P w) A (keywordsIn f d) Q E s := by
  unfold keywordsIn
  refine wpAny_bind (wpAny_dictEntries m.ho m.hd (wpAny_bind ?_))
  rw [← Array.forIn_toList]
  refine wpAny_forIn_list _ (fun rest b s' => s' = s ∧ ∃ r, KwE r rest ∧ b ++ r = kvs) _ ?_ ?_ _ _ ⟨rfl, kvs, m.he, rfl⟩
  · rintro e rest b s' ⟨rfl, r, hr, hb⟩
    cases r with
    | nil => exact hr.elim
    | cons kv r =>
      obtain ⟨⟨t, q⟩, hv, hr⟩ := hr
      rw [q]
      refine wpAny_pure ⟨rfl, r, hr, ?_⟩
      rw [← hb, hv, List.append_assoc]
      rfl
  · rintro b s' ⟨rfl, r, hr, hb⟩
    cases r with
    | nil =>
      rw [List.append_nil] at hb
      rw [hb]
      exact wpAny_pure h
    | cons kv r => exact hr.elim
/-- the keywords of f(.., **a) -/
theorem kw_star {f : Value} {x : Sem Value} {pos : Pos} (m : KwD s.heap a kvs o es ep) (hsys : (a == sysModules) = false) (hnd : (kvs.map (·.1)).Nodup) (hz : kvs.length ≤ 100) {Q : List (Str × Value) → Shared → Prop}
    (hx : ∀ {Q : Value → Shared → Prop}, Q (.ref a) { s with heap := s.heap.push { cls := .type "dict", data := .dict #[] } } → wpAny (model P w) A x Q E { s with heap := s.heap.push { cls := .type "dict", data := .dict #[] } })
    (h : ∀ h' : Heap, (∀ b o, s.heap.get? b = some o → h'.get? b = some o) → Q kvs { s with heap := h' }) :
    wpAny (model P w) A (do let d ← mergedKeywords f [(none, (do let v ← x; standAt pos; pure v))]; keywordsIn f d) Q E s := by
  have m1 : KwD (s.heap.push { cls := .type "dict", data := .dict #[] }) a kvs o es ep := m.keep fun q e => Heap.get?_push_of_some _ e
  have hd : s.heap.objs.size ≠ a := fun z => absurd (Heap.lt_size m.ho) (by rw [z]; exact Nat.lt_irrefl _)
  refine wpAny_bind ?_
  unfold mergedKeywords
  refine wpAny_bind (wpAny_alloc (wpAny_bind (wpAny_holding ?_)))
  refine wpAny_bind ?_
  rw [List.forIn_cons]
  dsimp only
  refine wpAny_bind (wpAny_bind (wpAny_pure (wpAny_bind (wpAny_bind (hx (wpAny_bind (wpAny_standAt (wpAny_pure ?_))))))))
  refine wpAny_bind (wpAny_onRaise (wpAny_holding (wpAny_tryCatch (wpAny_onRaise (kw_merge (KwD.new s.heap) m1 hd hsys hnd hz fun h' o' es' ep' m' sb => ?_)))))
  refine wpAny_pure (wpAny_pure (wpAny_pure (wpAny_pure (kw_in m' (h h' fun b q e => ?_)))))
  exact (sb.2 b (Nat.ne_of_lt (Heap.lt_size e))).trans (Heap.get?_push_of_some _ e)
end
end K13

namespace K13
open PySem PySem.Spec PyProof.Rows L2

/-! ### the dict of the keywords, in the layer -/
def kwP (d : Addr) (L : List (Str × V)) : Heap → Prop := fun h => (d == sysModules) = false ∧ ∃ vs o es ep, KV L vs ∧ KwD h d vs o es ep
def kwO (d : Addr) (L : List (Str × V)) : HO := .ext (kwP d L)
theorem kwP_ok {P : Program} {w : World} {H : Hp} {h : Heap} {d : Addr} {L : List (Str × V)} (m : kwP d L h) : ObjOk P w H h d (kwO d L) := by
  refine ⟨m, let ⟨_, _, o, _, _, _, n⟩ := m; ⟨o, n.ho⟩, fun h1 h2 m1 k => ?_⟩
  obtain ⟨q, vs, o, es, ep, r, n⟩ := m1
  exact ⟨q, vs, o, es, ep, r, n.keep k⟩
theorem kv_fst : ∀ {L : List (Str × V)} {vs : List (Str × Value)}, KV L vs → vs.map (·.1) = L.map (·.1)
  | _, _, .nil => rfl
  | _, _, .cons r t => by rw [List.map_cons, List.map_cons, kv_fst t, r.1]
theorem kv_snd : ∀ {L : List (Str × V)} {vs : List (Str × Value)}, KV L vs → Vals (L.map (·.2)) (vs.map (·.2))
  | _, _, .nil => .nil
  | _, _, .cons r t => .cons r.2 (kv_snd t)
theorem kv_zip : ∀ (xs : List Str) {zs : List V} {ws : List Value}, Vals zs ws → KV (xs.zip zs) (xs.zip ws)
  | [], _, _, _ => .nil
  | _ :: _, _, _, .nil => .nil
  | x :: xs, _, _, .cons r t => .cons ⟨rfl, r⟩ (kv_zip xs t)
theorem zip_un {α β : Type} : ∀ l : List (α × β), (l.map (·.1)).zip (l.map (·.2)) = l
  | [] => rfl
  | a :: l => by rw [List.map_cons, List.map_cons, List.zip_cons_cons, zip_un l]
def pick {α : Type} (ix : List Nat) (l : List α) : List α := ix.filterMap (fun i => l[i]?)
theorem pick_vals {zs : List V} {ws : List Value} (r : Vals zs ws) : ∀ ix : List Nat, Vals (pick ix zs) (pick ix ws)
  | [] => .nil
  | i :: ix => by
    have h := pick_vals r ix
    unfold pick at h ⊢
    cases hz : zs[i]? with
    | none => rw [List.filterMap_cons_none hz, List.filterMap_cons_none (Vals.none_of r hz)]; exact h
    | some z =>
      obtain ⟨u, hu, ru⟩ := r.get hz
      rw [List.filterMap_cons_some hz, List.filterMap_cons_some hu]
      exact .cons ru h
theorem ld_var {X : Cx} {pins : List (Addr × Obj)} {σ : L2.St} {H : Hp} {s : Shared} {i : Nat} {x : Str} {pos : Pos} {v : V} {E : Value → Shared → Prop} (I : Inv X pins σ H s) (hN : X.N[i]? = some x) (hσ : σ[i]? = some (some v)) (hv : Vis X.env.scope x)
    (hd : (x == ("__debug__" : Str)) = false := by decide) (hcd : (x == ("__classdict__" : Str)) = false := by decide) : ∃ u, RelV v u ∧ ∀ {Q : Value → Shared → Prop}, Q u s → wpAny (model X.prog X.w) X.A (eval (.Name x pos) X.env) Q E s := by
  obtain ⟨m, hn, hl⟩ := I.loc
  obtain ⟨u, r, l⟩ := hl i x v hN hσ hv
  refine ⟨u, r, fun q => ?_⟩
  rcases l with ⟨hk, hm⟩ | ⟨hk | hk, c, hc, hcell⟩
  · exact wpAny_Name (wpAny_loadName_local I.ok.kind hk hn hm q) hd
  · exact wpAny_Name (wpAny_loadName_cell I.ok.kind hk hc hcell q) hd
  · exact wpAny_Name (wpAny_loadName_free I.ok.kind hk hc hcell q hcd) hd

/-! ### a def called with keywords -/
abbrev SpK := List V → List V → Hp → VK → Prop
structure FnKw (P : Program) (w : World) (K : PySem.W.Frag) (mg : Str → Option Value) (base : Heap) (k : Nat) (f : Addr) (ks : List Str) (sp : SpK) : Prop where
  run : ∀ (A : Around) (outer : List Env) (s : Shared) (H : Hp) (us ws : List Value) (vs zs : List V) (Q : VK), Room k A → Env0 P w K mg base A outer s H → Vals vs us → Vals zs ws → zs.length = ks.length → sp vs zs H Q →
    codeAny (model P w) A (.call (.ref f) ⟨us, ks.zip ws⟩) (CR CX0 outer P w H s Q E0) s
section
variable {P : Program} {w : World} {K : PySem.W.Frag} {mg : Str → Option Value} {base : Heap} {k : Nat} {f cc D : Addr} {name qual : Str} {params : Arguments} {body : List Stmt} {scope : Scope} {dV kV doc pm cdv ct oc cl0 : Value} {an od cld : Option Addr}
  {osl csl : Array (Option Value)} {N ps ks xs : List Str} {ix iy : List Nat} {sp : SpK}
theorem kw_of_fn {fd : FuncData} {sp0 : Sp} (F : FnOk P w K mg base CX0 k f fd ps sp0) (hb : Binds K fd ps []) (h : ∀ vs zs H Q, sp vs zs H Q → sp0 vs H Q E0) : FnKw P w K mg base k f [] sp := by
  refine ⟨fun A outer s H us ws vs zs Q hr e0 r rz hl hs => ?_⟩
  have hs0 := h _ _ _ _ hs
  have hlen := F.len _ _ _ _ hs0
  have KX : K.In s.heap := e0.mod.kin.keeps fun b o e => (e0.bs b o e).1
  have b := hb s us KX (by rw [List.append_nil, ← r.length]; exact hlen)
  rw [List.append_nil] at b
  exact F.run A outer s H ⟨us, _⟩ us vs Q E0 hr e0 b r hs0
/-- the state behind the new dict -/
theorem env0_laid {A : Around} {outer : List Env} {s : Shared} {H : Hp} {d : Addr} {o : HO} {h' : Heap} {t' : Nat} (e0 : Env0 P w K mg base A outer s H) (k : ∀ b u, s.heap.get? b = some u → h'.get? b = some u) (hz : s.heap.objs.size ≤ h'.objs.size) (hd : s.heap.objs.size ≤ d) (new : ObjOk P w (upd H d o) h' d o) :
    Env0 P w K mg base A outer { s with heap := h', toks := t' } (upd H d o) := by
  have nd : H d = none := e0.hok.fresh hd
  refine ⟨e0.frames, e0.mod, fun b ob e => ?_, Nat.le_trans e0.bsz hz, ?_, fun b hb => ?_, e0.hok.laid k hd new, e0.bare⟩
  · obtain ⟨e1, e2⟩ := e0.bs b ob e
    refine ⟨k _ _ e1, ?_⟩
    rw [upd_ne (Nat.ne_of_lt (Nat.lt_of_lt_of_le (Heap.lt_size e1) hd))]
    exact e2
  · exact Heap.FunFrames.of_keeps (fun b o e _ => ⟨o, k b o e, rfl⟩) e0.funs
  · obtain ⟨_, o, ho, _⟩ := Heap.FunFrames.mem e0.funs hb
    rw [upd_ne (Nat.ne_of_lt (Nat.lt_of_lt_of_le (Heap.lt_size ho) hd))]
    exact e0.frf b hb
/-- its dict made and filled -/
theorem kw_fill {M : Model} {A : Around} {E : Value → Shared → Prop} {d : Addr} : ∀ (kvs pre : List (Str × Value)) (s : Shared) (g : Str × Value → PUnit → Sem (ForInStep PUnit)) (Q : PUnit → Shared → Prop), (∀ kv u, g kv u = (do nsSet d kv.1 kv.2; pure (.yield ⟨⟩))) →
    ((pre ++ kvs).map (·.1)).Nodup → (∃ o es ep, KwD s.heap d pre o es ep) → (∀ h' t', (∃ o es ep, KwD h' d (pre ++ kvs) o es ep) → Heap.SameBut d s.heap h' → Q ⟨⟩ { s with heap := h', toks := t' }) → wpAny M A (forIn kvs ⟨⟩ g) Q E s
  | [], pre, s, g, Q, hg, hn, hm, h => by
    rw [List.forIn_nil]
    refine wpAny_pure (h s.heap s.toks ?_ (Heap.SameBut.refl _ _))
    rw [List.append_nil]
    exact hm
  | kv :: kvs, pre, s, g, Q, hg, hn, hm, h => by
    obtain ⟨o, es, ep, m⟩ := hm
    have hk : kv.1 ∉ pre.map (·.1) := by
      rw [List.map_append, List.nodup_append] at hn
      intro hp
      exact hn.2.2 _ hp kv.1 (by simp) rfl
    rw [List.forIn_cons, hg]
    refine wpAny_bind (wpAny_bind (kw_set m hk fun h1 o1 es1 m1 sb1 => wpAny_pure ?_))
    refine kw_fill kvs (pre ++ [kv]) _ g Q hg (by rw [List.append_assoc]; exact hn) ⟨o1, es1, _, m1⟩ fun h2 t2 m2 sb2 => ?_
    refine h h2 t2 ?_ (sb1.trans sb2)
    rw [List.append_assoc] at m2
    exact m2
theorem pick_len {α β : Type} {l : List α} {m : List β} (h : l.length = m.length) : ∀ ix : List Nat, (pick ix l).length = (pick ix m).length
  | [] => rfl
  | i :: ix => by
    have q := pick_len h ix
    unfold pick at q ⊢
    by_cases hi : i < l.length
    · rw [List.filterMap_cons_some (List.getElem?_eq_getElem hi), List.filterMap_cons_some (List.getElem?_eq_getElem (h ▸ hi)), List.length_cons, List.length_cons, q]
    · rw [List.filterMap_cons_none (List.getElem?_eq_none (by omega)), List.filterMap_cons_none (List.getElem?_eq_none (by omega)), q]
/-- THE RULE: a method that captures __class__, called with keywords, those that its signature does not name go to a dict -/
theorem fn_kw (lk : K.lookup f = some ⟨oc, od, .func (PySem.W.ksFn name qual params body scope dV kV doc pm an cdv ct cc), osl⟩) (hcd : PySem.W.codeIn K cdv qual = true) (lc : K.lookup cc = some ⟨cl0, cld, .cell (some (.ref D)), csl⟩) (S : ScK N ps scope) (hxs : xs.Nodup)
    (len : ∀ vs zs H Q, sp vs zs H Q → vs.length = 2) (hpl : ∀ zs : List V, zs.length = ks.length → ps.length = 2 + (pick iy zs).length + 1)
    (hb : ∀ (u0 u1 : Value) (ws : List Value), ws.length = ks.length → bindArgs (PySem.W.ksFn name qual params body scope dV kV doc pm an cdv ct cc) ⟨[u0, u1], ks.zip ws⟩ = (do
      let d ← alloc { cls := .type "dict", data := .dict #[] }
      for kv in xs.zip (pick ix ws) do nsSet d kv.1 kv.2
      return ps.zip ([u0, u1] ++ pick iy ws ++ [.ref d])))
    (hbody : ∀ (A : Around) (outer : List Env) (s : Shared) (H : Hp) (vs zs : List V) (Q : VK) (d : Addr), Room k (A.deeper (envK qual scope s.heap.objs.size f cdv cc)) → zs.length = ks.length → H d = none → sp vs zs H Q →
      ∃ t, PSAs (cxK CX0 P w K mg base N qual scope f cdv cc A outer s (upd H d (kwO d (xs.zip (pick ix zs)))) E0) (.func body (envK qual scope s.heap.objs.size f cdv cc)) body t ∧ t { nx := fun _ H' => Q .non H', rt := Q } (start N (vs ++ pick iy zs ++ [.ref d])) (upd H d (kwO d (xs.zip (pick ix zs))))) :
    FnKw P w K mg base (k + 1) f ks sp := by
  refine ⟨fun A outer s H us ws vs zs Q hr e0 r rz hl hsp => ?_⟩
  have h2 := len _ _ _ _ hsp
  have KX : K.In s.heap := e0.mod.kin.keeps fun b o e => (e0.bs b o e).1
  obtain ⟨u0, u1, rfl⟩ : ∃ u0 u1, us = [u0, u1] := by
    have := r.length
    rw [h2] at this
    match us, this with
    | [a, b], _ => exact ⟨a, b, rfl⟩
  refine codeAny_call_function hr.depth (KX _ _ lk) rfl S.co S.gen rfl (PySem.W.codeRec_of KX hcd) ?_
  rw [hb u0 u1 ws (by rw [← rz.length]; exact hl)]
  obtain ⟨d, hd⟩ : ∃ d, d = s.heap.objs.size := ⟨_, rfl⟩
  refine wpAny_bind (wpAny_alloc (wpAny_bind ?_))
  rw [← hd]
  have hnd : ((([] : List (Str × Value)) ++ xs.zip (pick ix ws)).map (·.1)).Nodup := by
    rw [List.nil_append]
    exact hxs.sublist (by
      have : ∀ (a : List Str) (b : List Value), ((a.zip b).map (·.1)).Sublist a := by
        intro a
        induction a with
        | nil => intro b; exact List.Sublist.refl _
        | cons x a ih =>
          intro b
          cases b with
          | nil => exact List.nil_sublist _
          | cons y b => exact (ih b).cons₂ x
      exact this _ _)
  refine kw_fill _ [] _ _ _ (fun _ _ => rfl) hnd ⟨_, _, _, by rw [hd]; exact KwD.new s.heap⟩ fun h' t' m' sb => wpAny_pure ?_
  rw [List.nil_append] at m'
  obtain ⟨o, es, ep, m'⟩ := m'
  have kp : ∀ b u, s.heap.get? b = some u → h'.get? b = some u := fun b u e => (sb.2 b (by rw [hd]; exact Nat.ne_of_lt (Heap.lt_size e))).trans (Heap.get?_push_of_some _ e)
  have hz : s.heap.objs.size ≤ h'.objs.size := Nat.le_of_lt (hd ▸ Heap.lt_size m'.ho)
  have hsys : (d == sysModules) = false := by
    have h : mainGlobals < base.objs.size := e0.mod.glob.lt
    have h3 : sysModules < mainGlobals := by decide
    have h4 := e0.bsz
    refine beq_eq_false_iff_ne.mpr fun z => ?_
    have h5 : d < s.heap.objs.size := z ▸ Nat.lt_of_lt_of_le (Nat.lt_trans h3 h) h4
    exact Nat.lt_irrefl _ (hd ▸ h5)
  have rk := kv_zip xs (pick_vals rz ix)
  have new : ∀ H1 : Hp, ObjOk P w H1 h' d (kwO d (xs.zip (pick ix zs))) := fun H1 => kwP_ok ⟨hsys, _, o, es, ep, rk, m'⟩
  have e1 := env0_laid (t' := t') e0 kp hz (Nat.le_of_eq hd.symm) (new _)
  have hn : H d = none := e0.hok.fresh (Nat.le_of_eq hd.symm)
  obtain ⟨t, ht, hq⟩ := hbody A outer { s with heap := h', toks := t' } H vs zs Q d (hr.deeper _) hl hn hsp
  have rv : Vals (vs ++ pick iy zs ++ [V.ref d]) ([u0, u1] ++ pick iy ws ++ [Value.ref d]) := (r.append (pick_vals rz iy)).append (.cons rfl .nil)
  have hlen : (vs ++ pick iy zs ++ [V.ref d]).length = ps.length := by rw [hpl zs hl, List.length_append, List.length_append, h2]; rfl
  refine newEnvK (CX := CX0) (E0 := E0) (N := N) S hr.hd e1 (e0.mod.kin _ _ lc) rfl hlen rv fun s1 I => ⟨I.nolimit, codeAny_mono (run_body (fd := PySem.W.ksFn name qual params body scope dV kV doc pm an cdv ct cc) I.nolimit ht hq I) fun rr s2 hh => ?_⟩
  have U : Un (frs outer) [] H (upd H d (kwO d (xs.zip (pick ix zs)))) s.heap h' := Un.laid kp (Nat.le_of_eq hd.symm) hn
  cases rr with
  | error e => exact hh
  | ok fl =>
    cases fl with
    | ret u =>
      obtain ⟨v, H', c1, c2, c3, c4, c5, c6⟩ := hh
      exact ⟨v, H', c1, c2, U.trans c3, c4, c5, c6⟩
    | next => exact hh
    | brk => exact hh
    | cont => exact hh
end
end K13

namespace K13
open PySem PySem.Spec PyProof.Rows L2

/-! ### super().m(e, **more) -/
theorem starKw {M : Model} {A : Around} {E : Value → Shared → Prop} {s : Shared} {f : Value} {pos : Pos} {Q : Value → Shared → Prop} {P : Heap → Prop} {args : List (Bool × Sem Value)} {keywords : List (Option Str × Sem Value)} (hst : keywords.any (·.1.isNone) = true)
    (hk : ∀ h, P h → ∃ k, (k = Keeper.frame ∨ k = Keeper.machine ∨ k = Keeper.boundFrame) ∧ PySem.W.Looks M h (keeperOf f) k)
    (h : wpAny M A (evalArgs f true args keywords) (fun a s1 => P s1.heap ∧ wpAny M A (call f a.pos a.kw) Q E s1) E s) : wpAny M A (callWith pos f [] args keywords) Q E s := by
  unfold callWith
  refine wpAny_bind (wpAny_holding (wpAny_mono h (fun a s1 h1 => wpAny_bind (wpAny_standAt ?_)) fun _ _ x => x))
  obtain ⟨k, hk', L⟩ := hk _ h1.1
  simp only [hst, Bool.or_true]
  refine wpAny_bind (L.here ?_)
  have fin : ∀ {t : Sem Value}, wpAny M A t Q E s1 → wpAny M A (t >>= fun r => holding [r] point >>= fun _ => pure r) Q E s1 :=
    fun ht => wpAny_bind (wpAny_mono ht (fun r s2 hr => wpAny_bind (wpAny_holding (wpAny_point (wpAny_pure hr)))) fun _ _ x => x)
  have marked (mk : Value) : wpAny M A (callMarked mk f ([] ++ a.pos) a.kw) Q E s1 := by
    unfold callMarked
    exact Calls.wpAny_keep h1.2
  rcases hk' with rfl | rfl | rfl <;> dsimp only <;> first | exact fin (marked _) | exact fin (wpAny_operating h1.2) | exact fin (wpAny_operate' h1.2)
section
variable {P : Program} {w : World} {A : Around} {E : Value → Shared → Prop} {s : Shared} {f : Value} {x y : Sem Value} {pos : Pos}
/-- the arguments (e, **more) -/
theorem args_star {Q : Args → Shared → Prop}
    (h : wpAny (model P w) A x (fun v s1 => ∃ (a : Addr) (kvs : List (Str × Value)) (o : Obj) (es : Array DictEntry) (ep : Nat), KwD s1.heap a kvs o es ep ∧ (a == sysModules) = false ∧ (kvs.map (·.1)).Nodup ∧ kvs.length ≤ 100 ∧
      (∀ {Q : Value → Shared → Prop}, Q (.ref a) { s1 with heap := s1.heap.push { cls := .type "dict", data := .dict #[] } } → wpAny (model P w) A y Q E { s1 with heap := s1.heap.push { cls := .type "dict", data := .dict #[] } }) ∧
      ∀ h' : Heap, (∀ b o, s1.heap.get? b = some o → h'.get? b = some o) → Q ⟨[v], kvs⟩ { s1 with heap := h' }) E s) :
    wpAny (model P w) A (evalArgs f true (backTo pos [(false, x)]) (backToKw pos [(none, y)])) Q E s := by
  rw [show backTo pos [(false, x)] = [(false, x)] from rfl]
  unfold evalArgs
  refine wpAny_bind (Calls.spliced_cons (wpAny_mono h (fun v s1 h1 => ?_) fun _ _ z => z))
  obtain ⟨a, kvs, o, es, ep, m, hsys, hnd, hz, hy, hq⟩ := h1
  refine Calls.spliced_nil (wpAny_bind (wpAny_pure ?_))
  refine wpAny_holding ?_
  rw [if_neg (by simp [backToKw])]
  have m1 : KwD (s1.heap.push { cls := .type "dict", data := .dict #[] }) a kvs o es ep := m.keep fun q e => Heap.get?_push_of_some _ e
  have hd : s1.heap.objs.size ≠ a := fun z => absurd (Heap.lt_size m.ho) (by rw [z]; exact Nat.lt_irrefl _)
  refine wpAny_bind ?_
  unfold mergedKeywords
  refine wpAny_bind (wpAny_alloc (wpAny_bind (wpAny_holding ?_)))
  refine wpAny_bind ?_
  show wpAny _ _ (forIn [(none, (do let v ← y; standAt pos; pure v))] _ _) _ _ _
  rw [List.forIn_cons]
  dsimp only
  refine wpAny_bind (wpAny_bind (wpAny_pure (wpAny_bind (wpAny_bind (hy (wpAny_bind (wpAny_standAt (wpAny_pure ?_))))))))
  refine wpAny_bind (wpAny_onRaise (wpAny_holding (wpAny_tryCatch (wpAny_onRaise (kw_merge (KwD.new s1.heap) m1 hd hsys hnd hz fun h' o' es' ep' m' sb => ?_)))))
  refine wpAny_pure (wpAny_pure (wpAny_pure (wpAny_pure ?_)))
  refine wpAny_bind (wpAny_pure (wpAny_bind (wpAny_holding (kw_in m' (wpAny_pure (hq h' fun b q e => ?_))))))
  exact (sb.2 b (Nat.ne_of_lt (Heap.lt_size e))).trans (Heap.get?_push_of_some _ e)
end
section
variable {prog : Program} {w : World} {A : Around} {E : Value → Shared → Prop}
theorem getattr_super {h : Heap} {g : Array GenState} {d : Drawn} {t : Nat} {os : OsState} {so D x C f : Addr} {of : Obj} {l₀ l : List Value} {K : PySem.W.Frag} {name : Str} {b : Bool} {Q : Value → Shared → Prop}
    (hso : h.get? so = some (PySem.W.ks_superObj D x C)) (hno : PySem.W.Looks (model prog w) h (opaqueClassAbove (.ref C)) none) (hC : PySem.W.Looks (model prog w) h (mroOf (.ref C)) l₀) (hl : (l₀.dropWhile (· != .ref D)).drop 1 = l) (X : K.In h)
    (hf : PySem.W.alongIn K name l = some (some (.ref f))) (hfo : h.get? f = some of) (hfc : of.cls = .type "function") (hxC : x ≠ C) (hn : (name == ("__class__" : Str)) = false)
    (hq : Q (.ref h.objs.size) ⟨h.push (PySem.W.methodObj (.ref f) (.ref x)), g, d, t + 1, os⟩) : wpAny (model prog w) A (getAttr (.ref so) name b) Q E ⟨h, g, d, t, os⟩ := by
  have hT : ∀ t', (⟨h, g, d, t', os⟩ : Shared).TypeIs (.ref so) "super" := fun _ => ⟨_, hso, rfl⟩
  have look := PySem.F.ks_slot_super_ga.lookup
  unfold getAttr getAttrBy
  refine wpAny_bind (wpAny_mkText (wpAny_holding (wpAny_bind (wpAny_typeOf (hT _) (wpAny_bind (wpAny_of_eq look ?_))))))
  show wpAny _ _ (getAttrByItsOwn (.ref so) (.str name t) (.type "super") (.builtin "super.__getattribute__") true b) _ _ _
  unfold getAttrByItsOwn hookBefore callGetattribute boundAndCalled
  refine wpAny_bind (wpAny_of_eq (show (if onTheHeap (.type "super") then typeLookup (.type "super") "__getattr__" else pure none) = pure none from rfl) ?_)
  refine wpAny_bind (wpAny_attempt (wpAny_holding ?_))
  have noHeap : (b && onTheHeap (.builtin "super.__getattribute__")) = false := Bool.and_false b
  rw [if_neg (by rw [noHeap]; decide)]
  refine wpAny_bind (wpAny_of_eq (PySem.F.ks_slot_super_ga.bind _) ?_)
  refine wpAny_mono (Q := fun v s' => v = .ref h.objs.size ∧ s' = ⟨h.push (PySem.W.methodObj (.ref f) (.ref x)), g, d, t + 1, os⟩) (E := fun _ _ => False)
    (wpAny_call_entry PySem.F.ks_slot_super_ga (hT _) PySem.F.ks_entry_super_ga (PySem.ks_wpAny_super_ga hso hno hC hl X hf hfo hfc hxC hn ⟨_, rfl, rfl, rfl⟩) (PySem.F.ks_gaArgs_super _ _)) (fun v s' hv => ?_) fun _ _ z => z.elim
  obtain ⟨rfl, rfl⟩ := hv
  exact wpAny_pure hq
end
section
variable {X : Cx} {C D : Addr} {pins : List (Addr × Obj)} {σ : L2.St} {H : Hp} {s : Shared} {a dx : Addr} {fs : List (Str × V)}
theorem super_attr {nm : Str} {g so : Addr} {b : Bool} {Q : Value → Shared → Prop} {E : Value → Shared → Prop} (S : SupAt X.K C D nm g) (thr : PySem.W.nsIn X.K cStatics "thirdparty.any" = some none) (I : Inv X pins σ H s) (hH : H a = some (.ins C dx fs))
    (hso : s.heap.get? so = some (PySem.W.ks_superObj D a C)) (h : ∀ q s', H q = none → Inv X pins σ (upd H q (.met g a)) s' → Q (.ref q) s') : wpAny (model X.prog X.w) X.A (getAttr (.ref so) nm b) Q E s := by
  have KX := I.kIn
  have nf : H s.heap.objs.size = none := I.hok.fresh (Nat.le_refl _)
  obtain ⟨mA, O, _⟩ := ins_get I.hok hH
  have I2 := fun t' => I.laid (a := s.heap.objs.size) (o := .met g a) (h' := s.heap.push (PySem.W.methodObj (.ref g) (.ref a))) (t' := t') (fun b o e => Heap.get?_push_of_some _ e) (Nat.le_refl _) (Heap.get?_push_at rfl rfl)
  obtain ⟨hh, gs, d, t, os⟩ := s
  have z := S.fin
  unfold PySem.W.ks_superIn at z
  cases hc : PySem.W.clsIn X.K C with
  | none => rw [hc] at z; cases z
  | some cd =>
    rw [hc] at z
    obtain ⟨of, hof, hofc⟩ : ∃ of, hh.get? g = some of ∧ of.cls = .type "function" := by
      have ty : (X.K.lookup g).map (·.cls) = some (.type "function") := S.ty
      cases q : X.K.lookup g with
      | none => rw [q] at ty; cases ty
      | some of => rw [q] at ty; exact ⟨of, KX _ _ q, Option.some.inj ty⟩
    have ne : a ≠ C := by
      rintro rfl
      obtain ⟨o, q1, q2⟩ := cls_obj KX hc
      have := O.obj
      rw [q1] at this
      cases this
      cases q2
    refine getattr_super hso (PySem.W.looks_opaque KX thr) (l₀ := cd.mro) ?_ rfl KX z hof hofc ne S.nc (h _ _ nf (I2 _))
    exact fun A Q E s k q => wpAny_bind ((PySem.W.looks_clsIn KX hc) A _ E s k (wpAny_pure q))
end
section
variable {X : Cx} {f cc cda D C : Addr} {i j : Nat}
theorem pea_supKw {body : List Stmt} {p0 p1 apos pos pm kpos : Pos} {nm mo : Str} {k : Nat} {xs : List Str} {sp : SpK} {g : Addr} {e : Expr} {te : TE} (U : Sup X f cc cda D i) (SA : SupAt X.K C D nm g)
    (F : FnKw X.prog X.w X.K X.mg X.base k g xs sp) (hr : Room k X.A) (he : PE X e te) (hj : X.N[j]? = some mo) (hv : Vis X.env.scope mo) (hnd : xs.Nodup) (hxl : xs.length ≤ 100) (hd : (mo == ("__debug__" : Str)) = false := by decide) (hcd : (mo == ("__classdict__" : Str)) = false := by decide)
    (hst : starEach [e] X.env = [(false, eval e X.env)] := by rfl) :
    PEA X (.func body X.env) (.Call (.Attribute (.Call (.Name "super" p0) [] [] p1) nm apos) [e] [⟨none, .Name mo pm, kpos⟩] pos) (fun σ H Q => ∃ a dx fs, σ[i]? = some (some (.ref a)) ∧ H a = some (.ins C dx fs) ∧
      ∀ q, H q = none → te σ (upd H q (.met g a)) fun vb H1 => ∃ d zs, σ[j]? = some (some (.ref d)) ∧ H1 d = some (kwO d (xs.zip zs)) ∧ zs.length = xs.length ∧ H1 q = some (.met g a) ∧ sp [.ref a, vb] zs H1 Q) := by
  refine ⟨fun pins s σ H Q I ⟨a, dx, fs, hσ, hH, hq⟩ => ?_⟩
  have hform : ∀ x y, methodCallForm ([e].length + [(⟨none, .Name mo pm, kpos⟩ : Keyword)].length) (backTo pos [(false, x)]) (backToKw pos [(none, y)]) = false := fun _ _ => rfl
  have hpos : methodCallPos false (.Call (.Name "super" p0) [] [] p1) X.env apos pos = pure pos := rfl
  have hcal : ∀ ov, calleeOf false (.Call (.Name "super" p0) [] [] p1) X.env ov nm = (getAttr ov nm true >>= fun v => pure (v, [])) := fun _ => rfl
  rw [arm_eval_Call, hst, show keywordEach [(⟨none, .Name mo pm, kpos⟩ : Keyword)] X.env = [(none, eval (.Name mo pm) X.env)] from rfl]
  refine PySem.wpAt_bind (PySem.wpAt_mono (super_ok U I hσ hH SA.mro SA.nc fun h' e' kp => ?_) (fun ov s1 h1 => h1) fun _ _ z => z)
  have I1 : Inv X pins σ H { s with heap := h' } := I.kept (t' := s.toks) kp
  refine PySem.wpAt_of_wpAny (wpAny_bind (wpAny_standAt ?_))
  unfold methodCall
  rw [hform, hpos, hcal]
  refine wpAny_bind (wpAny_holding (wpAny_bind (super_attr SA U.thr I1 hH e' fun q s2 hn I2 => wpAny_pure ?_)))
  refine wpAny_bind (wpAny_pure ?_)
  refine starKw (P := PySem.W.MethP X.K q g (.ref a)) rfl (PySem.W.keeps_M SA.fi) (args_star (thn (he.run pins s2 σ _ _ I2 (hq q hn)) fun ub s3 ⟨vb, H1, I3, rb, d, zs, hσj, hd1, hzl, hm, hsp⟩ => ?_))
  obtain ⟨hsys, vs, o, es, ep, rk, M⟩ : kwP d (xs.zip zs) s3.heap := (I3.hok d _ hd1).1
  have hfst : vs.map (·.1) = xs := by
    rw [kv_fst rk]
    exact List.map_fst_zip (by omega)
  have hl : vs.length = xs.length := by rw [← List.length_map (f := (·.1)) (as := vs), hfst]
  have rz : Vals zs (vs.map (·.2)) := by
    have := kv_snd rk
    rwa [List.map_snd_zip (by omega)] at this
  have I4 : Inv X pins σ H1 { s3 with heap := s3.heap.push { cls := .type "dict", data := .dict #[] } } := I3.kept (t' := s3.toks) fun b o e => Heap.get?_push_of_some _ e
  refine ⟨d, vs, o, es, ep, M, hsys, by rw [hfst]; exact hnd, by omega, ?_, fun h2 kp2 => ?_⟩
  · intro Q' hq'
    obtain ⟨u, ru, ld⟩ := ld_var (E := X.xe) (pos := pm) I4 hj hσj hv hd hcd
    obtain rfl : u = Value.ref d := ru
    exact ld hq'
  · have I5 : Inv X pins σ H1 { s3 with heap := h2 } := I3.kept (t' := s3.toks) kp2
    refine ⟨met_P I5 hm, ?_⟩
    have r1 : Vals [V.ref a, vb] [Value.ref a, ub] := .cons rfl (.cons rb .nil)
    have e2 : vs = xs.zip (vs.map (·.2)) := by
      rw [← hfst]
      exact (zip_un vs).symm
    rw [e2]
    refine wpAny_call (PySem.W.method_call (met_P I5 hm).1 (codeAny_mono (F.run X.A X.stack _ _ [Value.ref a, ub] (vs.map (·.2)) [.ref a, vb] zs Q hr I5.env0 r1 rz hzl hsp) fun r s' hq' => ?_))
    cases r with
    | error e => exact False.elim hq'
    | ok fl =>
      cases fl with
      | ret u => exact I5.after hq'
      | next => exact hq'.elim
      | brk => exact hq'.elim
      | cont => exact hq'.elim
/-- C(e, k = v, ..) -/
def tMakeKw (C : Addr) (n : Nat) (sp : SpK) (t tk : TA) : TE := fun σ H Q => t σ H fun vs H1 => tk σ H1 fun zs H2 => zs.length = n ∧ ∀ x dx, H2 x = none → H2 dx = none → dx ≠ x →
  sp (.ref x :: vs) zs (upd (upd H2 dx (.own x)) x (.ins C dx [])) (fun v H3 => v = .non ∧ Q (.ref x) H3)
theorem run_makeKw {pins : List (Addr × Obj)} {σ : L2.St} {H : Hp} {s : Shared} {Q : VK} {us ws : List Value} {vs zs : List V} {k : Nat} {ks : List Str} {sp : SpK} {fi : Addr} (M : Mk X.K C fi) (F : FnKw X.prog X.w X.K X.mg X.base k fi ks sp) (hr : Room (k + 1) X.A)
    (I : Inv X pins σ H s) (r : Vals vs us) (rz : Vals zs ws) (l2 : zs.length = ks.length)
    (h : ∀ x dx, H x = none → H dx = none → dx ≠ x → sp (.ref x :: vs) zs (upd (upd H dx (.own x)) x (.ins C dx [])) (fun v H2 => v = .non ∧ Q (.ref x) H2)) :
    wpAny (model X.prog X.w) X.A (call (.ref C) us (ks.zip ws)) (EP X pins σ Q) X.xe s := by
  have hq := h (s.heap.objs.size + 1) s.heap.objs.size (I.hok.fresh (Nat.le_succ _)) (I.hok.fresh (Nat.le_refl _)) (Nat.ne_of_lt (Nat.lt_succ_self _))
  have I2 := Inv.made (C := C) I
  refine wpAny_call (make_map (f := fi) I.kIn M.makes M.init (beq_iff_eq.mp M.fn) (codeAny_mono (F.run _ X.stack _ _ (Value.ref (s.heap.objs.size + 1) :: us) ws (V.ref (s.heap.objs.size + 1) :: vs) zs _ (hr.make C us (ks.zip ws))
    (I2.env0.make C us (ks.zip ws)) (.cons rfl r) rz l2 hq) fun r s' hq' => ?_))
  cases r with
  | error e => exact False.elim hq'
  | ok fl =>
    cases fl with
    | ret u =>
      obtain ⟨v, H', I3, rv, ev, q3⟩ := I2.after hq'
      subst ev
      exact ⟨rv, ⟨V.ref (s.heap.objs.size + 1), H', I3, rfl, q3⟩⟩
    | next => exact False.elim hq'
    | brk => exact False.elim hq'
    | cont => exact False.elim hq'
theorem pe_makeKw {x : Str} {p pos : Pos} {e : Expr} {es : List Expr} {kws : List Keyword} {t tk : TA} {k : Nat} {ks : List Str} {sp : SpK} {fi : Addr} (M : Mk X.K C fi) (F : FnKw X.prog X.w X.K X.mg X.base k fi ks sp) (hr : Room (k + 1) X.A) (hg : Gl X x) (hm : X.mg x = some (.ref C)) (ha : PA X (e :: es) t) (hkw : PK X kws tk)
    (hall : (backToKw pos (keywordEach kws X.env)).all (·.1.isSome) = true := by rfl) (hks : (backToKw pos (keywordEach kws X.env)).filterMap (·.1) = ks := by rfl) (hdb : (x == ("__debug__" : Str)) = false := by decide)
    (he : starEach (e :: es) X.env = (false, eval e X.env) :: starEach es X.env := by rfl) (hpl : ((backTo pos (starEach (e :: es) X.env)).any (·.1) || (backToKw pos (keywordEach kws X.env)).any (·.1.isNone)) = false := by rfl) :
    PE X (.Call (.Name x p) (e :: es) kws pos) (tMakeKw C ks.length sp t tk) := by
  refine ⟨fun pins s σ H Q I h => ?_⟩
  refine wpAny_Call_Name_kw (ld_glob I hg hm ?_ hdb)
  refine PySem.W.callWith_KW (h₀ := X.base) I.ok.mod.kin M.kp hall (thn (ha.run pos pins s σ H _ I h) fun us s1 ⟨vs, H1, I1, r, q⟩ => ?_) hpl he
  refine thn (hkw.run pos pins s1 σ H1 _ I1 q) fun ws s2 ⟨zs, H2, I2, rz, l2, q2⟩ => ⟨I2.kIn, ?_⟩
  rw [hks]
  exact run_makeKw M F hr I2 r rz l2 q2
end
end K13

namespace K13
open PySem PySem.Spec PyProof.Rows L2

/-! ### == and != of objects whose classes share one __eq__ and have no __ne__ of their own -/
structure EqC (K : PySem.W.Frag) (C fe : Addr) : Prop where
  eq : PySem.W.findIn K (.ref C) "__eq__" = some (some (.ref fe))
  ne : PySem.W.findIn K (.ref C) "__ne__" = some (some (.builtin "object.__ne__"))
  po : PySem.W.plainOver K C = true
theorem EqC.mro {K : PySem.W.Frag} {C fe : Addr} (c : EqC K C fe) (v : Value) : ∃ r, PySem.W.mroIn K C v = some r := by
  obtain ⟨cd, hc, ho⟩ := PySem.W.any_some c.po
  have ne : cd.mro.isEmpty = false := by
    cases q : cd.mro with
    | nil => rw [q] at ho; cases ho
    | cons _ _ => rfl
  exact ⟨cd.mro.contains v, by unfold PySem.W.mroIn; rw [hc, Option.bind_some, if_neg (by rw [ne]; decide)]⟩
theorem EqC.obj {K : PySem.W.Frag} {C fe : Addr} (c : EqC K C fe) : PySem.W.mroIn K C (.type "object") = some true := by
  obtain ⟨cd, hc, ho⟩ := PySem.W.any_some c.po
  have ne : cd.mro.isEmpty = false := by
    cases q : cd.mro with
    | nil => rw [q] at ho; cases ho
    | cons _ _ => rfl
  unfold PySem.W.mroIn
  rw [hc, Option.bind_some, if_neg (by rw [ne]; decide), PySem.W.only_has ho]
section
variable {prog : Program} {w : World} {A : Around} {E : Value → Shared → Prop} {s : Shared} {K : PySem.W.Frag} {x y C D fe : Addr} {ox oy : Obj} {od oe : Option Obj}
theorem rc_two {op : CmpOp} {Q : Value → Shared → Prop} (hu : A.units < cLine) (X : K.In s.heap) (I : PySem.W.InstAt s.heap x ox C od) (J : PySem.W.InstAt s.heap y oy D oe) (c : EqC K D fe)
    (h1 : wpAny (model prog w) A (tryCompare (.ref x) (cmpInfo op).2.1 (.ref y)) (fun r s' => ∃ v, r = some v ∧ Q v s') E s)
    (h2 : wpAny (model prog w) A (tryCompare (.ref y) (cmpInfo op).2.2 (.ref x)) (fun r s' => ∃ v, r = some v ∧ Q v s') E s) : wpAny (model prog w) A (richCompare op (.ref x) (.ref y)) Q E s := by
  unfold richCompare
  simp only [oneThing_ref]
  refine wpAny_holding (wpAny_bind (wpAny_cRoomFor hu ?_))
  refine wpAny_bind (I.type.here (wpAny_bind (J.type.here ?_)))
  have left : wpAny (model prog w) A (tryCompare (.ref x) (cmpInfo op).2.1 (.ref y)) (fun r s' => ∃ v, r = some v ∧ Q v s') E s := h1
  have one : ∀ {k1 k2 : Sem Value}, wpAny (model prog w) A (tryCompare (.ref x) (cmpInfo op).2.1 (.ref y) >>= fun __do_lift => match __do_lift with | some v => pure v | _ => k2) Q E s := by
    intro k1 k2
    refine wpAny_bind (wpAny_mono h1 (fun r s' z => ?_) fun _ _ e => e)
    obtain ⟨v, rfl, q⟩ := z
    exact wpAny_pure q
  split
  · obtain ⟨r, hr⟩ := c.mro (.ref C)
    refine wpAny_bind ((PySem.W.looks_subIn X (t := .ref D) hr).here ?_)
    cases r with
    | true =>
      simp only [if_true]
      refine wpAny_bind (wpAny_mono h2 (fun r s' z => ?_) fun _ _ e => e)
      obtain ⟨v, rfl, q⟩ := z
      exact wpAny_bind (wpAny_rule (wpAny_pure q))
    | false =>
      simp only [Bool.false_eq_true, if_false]
      refine wpAny_bind (wpAny_mono h1 (fun r s' z => ?_) fun _ _ e => e)
      obtain ⟨v, rfl, q⟩ := z
      exact wpAny_pure q
  · refine wpAny_bind (wpAny_pure ?_)
    simp only [Bool.false_eq_true, if_false]
    refine wpAny_bind (wpAny_mono h1 (fun r s' z => ?_) fun _ _ e => e)
    obtain ⟨v, rfl, q⟩ := z
    exact wpAny_pure q
theorem try_eq {Q : Value → Shared → Prop} (X : K.In s.heap) (I : PySem.W.InstAt s.heap x ox C od) (c : EqC K C fe) (hf : PySem.W.isFn K (.ref fe) = true)
    (h : wpAny (model prog w) A (call (.ref fe) [.ref x, .ref y]) (fun v s' => ∃ b, v = .bool b ∧ Q (.bool b) s') E s) : wpAny (model prog w) A (tryCompare (.ref x) "__eq__" (.ref y)) (fun r s' => ∃ v, r = some v ∧ Q v s') E s := by
  unfold tryCompare
  refine wpAny_bind (PySem.W.ifBound_K X I c.eq hf (wpAny_mono h (fun v s' hv => ?_) fun _ _ e => e))
  obtain ⟨b, rfl, q⟩ := hv
  exact wpAny_pure ⟨_, rfl, q⟩
theorem obj_ne {Q : Fin → Shared → Prop} (hu : A.units < cLine) (X : K.In s.heap) (I : PySem.W.InstAt s.heap x ox C od) (c : EqC K C fe) (hf : PySem.W.isFn K (.ref fe) = true)
    (h : wpAny (model prog w) A (call (.ref fe) [.ref x, .ref y]) (fun v s' => ∃ b, v = .bool b ∧ Q (.done (.ret (.bool (!b)))) s') E s) : wpAny (model prog w) A (Builtin.«object.__ne__» ⟨[.ref x, .ref y], []⟩) Q E s := by
  unfold Builtin.«object.__ne__»
  show wpAny _ _ (cRoomFor "comparison" [.ref x, .ref y] >>= _) _ _ _
  refine wpAny_bind (wpAny_cRoomFor hu ?_)
  refine wpAny_bind (PySem.W.ifBound_K X I c.eq hf (wpAny_mono h (fun v s' hv => ?_) fun _ _ e => e))
  obtain ⟨b, rfl, q⟩ := hv
  exact wpAny_bind (wpAny_truthy_bool (wpAny_pure q))
theorem try_ne {Q : Value → Shared → Prop} (hu : A.units + 1 < cLine) (X : K.In s.heap) (I : PySem.W.InstAt s.heap x ox C od) (c : EqC K C fe) (hf : PySem.W.isFn K (.ref fe) = true)
    (h : wpAny (model prog w) A.in1 (call (.ref fe) [.ref x, .ref y]) (fun v s' => ∃ b, v = .bool b ∧ Q (.bool (!b)) s') E s) : wpAny (model prog w) A (tryCompare (.ref x) "__ne__" (.ref y)) (fun r s' => ∃ v, r = some v ∧ Q v s') E s := by
  unfold tryCompare
  refine wpAny_bind ?_
  have S := F.cmp_object.ne
  simp only [callSpecialIfBound?, bindSpecialIfBound?]
  refine wpAny_holding (wpAny_bind (wpAny_bind (wpAny_bind (I.type.here ((PySem.W.looks_findIn X c.ne).here ?_)))))
  have fin : wpAny (model prog w) A (call (.builtin "object.__ne__") ([.ref x] ++ [.ref y]) >>= fun v => pure (some v)) (fun a s' => wpAny (model prog w) A (match a with
      | some .notImplemented => pure none
      | none => pure none
      | some v => pure (some v)) (fun r s' => ∃ v, r = some v ∧ Q v s') E s') E s := by
    have sub : PySem.W.Looks (model prog w) s.heap (isInstance (.ref x) (.type "object")) true := I.type.andThen (PySem.W.looks_mroIn X c.obj)
    refine wpAny_bind (wpAny_call (codeAny_call_builtin S.plain F.cmpEntry_ne (PySem.W.check_slot F.cmpKind_ne F.cmpSplit_ne sub (F.cmpArgs_ne _ _) (obj_ne (A := A.in1) hu X I c hf (wpAny_mono h (fun v s' hv => ?_) fun _ _ e => e)))))
    obtain ⟨b, rfl, q⟩ := hv
    exact ⟨b, rfl, wpAny_pure (wpAny_pure ⟨_, rfl, q⟩)⟩
  simp only [S.bind]
  refine wpAny_bind (wpAny_askSetting (wpAny_ite ?_))
  split
  · exact wpAny_bind (wpAny_pure (wpAny_pure (by exact fin)))
  · exact wpAny_tryCatch (wpAny_bind (wpAny_pure (wpAny_pure (by exact fin))))
end
end K13

namespace K13
open PySem PySem.Spec PyProof.Rows L2

/-! ### in the layer -/
abbrev Rl := Addr → Addr → Hp → Bool → Prop
/-- what __eq__ promises of two objects that R speaks of -/
def spCmp (R : Rl) : Sp := fun vs H Q _ => ∃ a b r, vs = [.ref a, .ref b] ∧ R a b H r ∧ ∀ H', Same H H' → Q (.bl r) H'
def InsC (K : PySem.W.Frag) (fe : Addr) (H : Hp) (a : Addr) : Prop := ∃ C dx fs, H a = some (.ins C dx fs) ∧ EqC K C fe
def rCmp (K : PySem.W.Frag) (fe : Addr) (R : Rl) (f : Bool → Bool) : R2 := fun x y H Q => ∃ a b r, x = .ref a ∧ y = .ref b ∧ InsC K fe H a ∧ InsC K fe H b ∧ R a b H r ∧ R b a H r ∧ ∀ H', Same H H' → Q (.bl (f r)) H'
section
variable {X : Cx} {n : Nat} {fe : Addr} {fd : FuncData} {ps : List Str} {R : Rl} {pins : List (Addr × Obj)} {σ : L2.St} {H : Hp} {s : Shared}
theorem call_cmp (F : FnOk X.prog X.w X.K X.mg X.base CX0 n fe fd ps (spCmp R)) (hb : Binds X.K fd ps []) {A : Around} {E : Value → Shared → Prop} {a b : Addr} {r : Bool} (hr : Room n A) (hfr : A.frames = X.A.frames) (I : Inv X pins σ H s) (h : R a b H r) :
    wpAny (model X.prog X.w) A (call (.ref fe) [.ref a, .ref b]) (fun v s' => v = .bool r ∧ ∃ H', Inv X pins σ H' s' ∧ Same H H') E s := by
  have hsp : spCmp R [.ref a, .ref b] H (fun v H' => v = .bl r ∧ Same H H') E0 := ⟨a, b, r, rfl, h, fun H' e => ⟨rfl, e⟩⟩
  have e0 : Env0 X.prog X.w X.K X.mg X.base A X.stack s H := by
    have e := I.env0
    exact ⟨by rw [hfr]; exact e.frames, e.mod, e.bs, e.bsz, e.funs, e.frf, e.hok, e.bare⟩
  have hl := F.len _ _ _ _ hsp
  have r2 : Vals [V.ref a, V.ref b] [Value.ref a, Value.ref b] := .cons rfl (.cons rfl .nil)
  refine wpAny_call (codeAny_mono (F.run A X.stack s H ⟨[.ref a, .ref b], []⟩ [.ref a, .ref b] [.ref a, .ref b] _ E0 hr e0 (by
    have := hb s [.ref a, .ref b] I.kIn (by simpa using hl)
    simpa using this) r2 hsp) fun r s' hq => ?_)
  cases r with
  | error e => exact False.elim hq
  | ok fl =>
    cases fl with
    | ret w =>
      obtain ⟨z, H', I', rz, ez, ex⟩ := I.after hq
      subst ez
      exact ⟨rz, H', I', ex⟩
    | next => exact False.elim hq
    | brk => exact False.elim hq
    | cont => exact False.elim hq
theorem ins_at {C dx a : Addr} {fs : List (Str × V)} (I : Inv X pins σ H s) (h : H a = some (.ins C dx fs)) : ∃ ox od, PySem.W.InstAt s.heap a ox C od := by
  obtain ⟨mA, J, _⟩ := ins_get I.hok h
  obtain ⟨od, J, _⟩ := J.look
  exact ⟨_, _, J⟩
theorem op_eqI (F : FnOk X.prog X.w X.K X.mg X.base CX0 n fe fd ps (spCmp R)) (hb : Binds X.K fd ps []) (hf : PySem.W.isFn X.K (.ref fe) = true) (hr : Room n X.A) : OpR X (compareOp .Eq) (rCmp X.K fe R id) := by
  intro pins s σ H x y v u Q I rx ry h
  obtain ⟨a, b, r, rfl, rfl, ⟨C, dx, fs, ha, cC⟩, ⟨D, dy, gs, hb', cD⟩, h1, h2, hq⟩ := h
  obtain rfl : v = Value.ref a := rx
  obtain rfl : u = Value.ref b := ry
  obtain ⟨ox, od, J1⟩ := ins_at I ha
  obtain ⟨oy, oe, J2⟩ := ins_at I hb'
  show wpAny (model X.prog X.w) X.A (richCompare .Eq (.ref a) (.ref b)) (EP X pins σ Q) X.xe s
  have fin : ∀ v s', (v = Value.bool r ∧ ∃ H', Inv X pins σ H' s' ∧ Same H H') → ∃ z, v = .bool z ∧ EP X pins σ Q (.bool z) s' := fun v s' ⟨e, H', I', sm⟩ => ⟨r, e, .bl r, H', I', rfl, hq H' sm⟩
  refine rc_two hr.units0 I.kIn J1 J2 cD (try_eq I.kIn J1 cC hf (wpAny_mono (call_cmp F hb hr rfl I h1) (fun v s' z => fin v s' z) fun _ _ e => e)) (try_eq I.kIn J2 cD hf (wpAny_mono (call_cmp F hb hr rfl I h2) (fun v s' z => fin v s' z) fun _ _ e => e))
theorem op_neI (F : FnOk X.prog X.w X.K X.mg X.base CX0 n fe fd ps (spCmp R)) (hb : Binds X.K fd ps []) (hf : PySem.W.isFn X.K (.ref fe) = true) (hr : Room (n + 1) X.A) : OpR X (compareOp .NotEq) (rCmp X.K fe R not) := by
  intro pins s σ H x y v u Q I rx ry h
  obtain ⟨a, b, r, rfl, rfl, ⟨C, dx, fs, ha, cC⟩, ⟨D, dy, gs, hb', cD⟩, h1, h2, hq⟩ := h
  obtain rfl : v = Value.ref a := rx
  obtain rfl : u = Value.ref b := ry
  obtain ⟨ox, od, J1⟩ := ins_at I ha
  obtain ⟨oy, oe, J2⟩ := ins_at I hb'
  show wpAny (model X.prog X.w) X.A (richCompare .NotEq (.ref a) (.ref b)) (EP X pins σ Q) X.xe s
  have fin : ∀ v s', (v = Value.bool r ∧ ∃ H', Inv X pins σ H' s' ∧ Same H H') → ∃ z, v = .bool z ∧ EP X pins σ Q (.bool (!z)) s' := fun v s' ⟨e, H', I', sm⟩ => ⟨r, e, .bl (!r), H', I', rfl, hq H' sm⟩
  have hu : X.A.units + 1 < cLine := by have := hr.units; omega
  have hr1 : Room n X.A.in1 := hr.in1
  refine rc_two hr.units0 I.kIn J1 J2 cD (try_ne hu I.kIn J1 cC hf (wpAny_mono (call_cmp F hb hr1 rfl I h1) (fun v s' z => fin v s' z) fun _ _ e => e)) (try_ne hu I.kIn J2 cD hf (wpAny_mono (call_cmp F hb hr1 rfl I h2) (fun v s' z => fin v s' z) fun _ _ e => e))
end
end K13

namespace K13
open PySem PySem.Spec PyProof.Rows L2

/-! ### sorted of (text, int) tuples -/
abbrev TX := Str × Int
theorem ltT_swo {α : Type} (k : α → TX) : SrtO.Swo fun x y => ltT (k x) (k y) := by
  refine ⟨fun x y h => ltT_asymm h, fun x y z h1 h2 => ?_⟩
  rw [Bool.eq_false_iff]
  intro h3
  by_cases e : k x = k y
  · rw [← e] at h2
    have h2 : ltT (k z) (k x) = false := h2
    rw [h3] at h2
    cases h2
  · have h4 : ltT (k x) (k y) = true := by
      rw [← Bool.not_eq_false]
      intro q
      exact e (ltT_total q h1)
    -- z < x < y
    have h5 : ltT (k z) (k y) = true := by
      unfold ltT at h3 h4 ⊢
      simp only [Bool.or_eq_true, Bool.and_eq_true, decide_eq_true_eq] at h3 h4 ⊢
      rcases h3 with h3 | ⟨h3, h3'⟩
      · rcases h4 with h4 | ⟨h4, _⟩
        · exact .inl (List.lt_trans h3 h4)
        · rw [h4] at h3
          exact .inl h3
      · rcases h4 with h4 | ⟨h4, h4'⟩
        · rw [← h3] at h4
          exact .inl h4
        · exact .inr ⟨h3.trans h4, by omega⟩
    have h2 : ltT (k z) (k y) = false := h2
    rw [h5] at h2
    cases h2
def IsTx (h : Heap) (v : Value) (p : TX) : Prop := ∃ a o t u n, v = .ref a ∧ h.get? a = some o ∧ o.cls = .type "tuple" ∧ o.data = .seq #[.str p.1 t, .int p.2 u] n
theorem IsTx.keeps {h h' : Heap} {v : Value} {p : TX} (q : IsTx h v p) (k : ∀ b o, h.get? b = some o → o.cls = .type "tuple" → h'.get? b = some o) : IsTx h' v p := by
  obtain ⟨a, o, t, u, n, e, ho, hc, hd⟩ := q
  exact ⟨a, o, t, u, n, e, k _ _ ho hc, hc, hd⟩
section
variable {prog : Program} {w : World} {A : Around} {s : Shared} {E : Value → Shared → Prop}
theorem tx_cmp {vs : List Value} {k : Value → TX} (hp : ∀ v ∈ vs, IsTx s.heap v (k v)) : SrtO.Cmp prog w A s (tuples' true) (fun p => p.1 ∈ vs) (SrtO.lt2 fun v u => ltT (k v) (k u)) := by
  intro p q hm hm'
  obtain ⟨a, o, t, u, n, e, ho, hc, hd⟩ := hp _ hm
  obtain ⟨a', o', t', u', n', e', ho', hc', hd'⟩ := hp _ hm'
  show wpAny (model prog w) A (keyLt' (tuples' true) p.1 q.1) (fun r s' => s' = s ∧ r = ltT (k p.1) (k q.1)) (fun _ _ => False) s
  generalize k p.1 = x at hd ⊢
  generalize k q.1 = y at hd' ⊢
  rw [e, e']
  refine PySem.W.kat_lt ho hd ho' hd' ?_
  show PySem.W.KatLex prog w A true (decide (2 < 2)) _ [(.str x.1 t, .str y.1 t'), (.int x.2 u, .int y.2 u')] 0 s
  refine PySem.W.kat_cons (wpAny_eqBool_str ?_)
  refine PySem.W.kat_go (fun e1 => ?_) (fun e1 => ?_)
  · have ex : x.1 = y.1 := by simpa using e1
    have nl : ¬ x.1.cps.toList < y.1.cps.toList := by rw [ex]; exact nlt_irrefl _
    refine PySem.W.kat_yes (PySem.W.kat_cons (SeqAt.EqAt.int_int _ u _ u' prog w _ _ ?_))
    have e3 : ltT x y = decide (x.2 < y.2) := by
      unfold ltT
      rw [decide_eq_false nl, decide_eq_true ex, Bool.false_or, Bool.true_and]
    refine PySem.W.kat_go (fun e2 => ?_) (fun e2 => ?_)
    · have ey : x.2 = y.2 := by simpa using e2
      refine PySem.W.kat_yes (PySem.W.kat_nil ⟨rfl, ?_⟩)
      rw [e3, ey]
      simp
    · exact PySem.W.kat_no (PySem.W.kat_one _ _ (PyProof.Rows.lt_int ⟨rfl, e3.symm⟩))
  · have ex : ¬ x.1 = y.1 := by simpa using e1
    have e3 : ltT x y = decide (x.1.cps.toList < y.1.cps.toList) := by
      unfold ltT
      simp [ex]
    exact PySem.W.kat_no (oneLt_str ⟨rfl, e3.symm⟩)
theorem tx_firsts {h : Heap} {k : Value → TX} : ∀ {vs : List Value}, (∀ v ∈ vs, IsTx h v (k v)) → ∃ fs : List Value, PySem.W.KatTups h vs fs ∧ fs.length = vs.length ∧ ∀ f ∈ fs, ∃ x t, f = Value.str x t
  | [], _ => ⟨[], PySem.W.KatTups.nil, rfl, fun _ hm => by cases hm⟩
  | v :: vs, hp => by
    obtain ⟨fs, h1, h2, h3⟩ := tx_firsts (vs := vs) fun v' hm => hp v' (List.mem_cons_of_mem _ hm)
    obtain ⟨a, o, t, u, n, rfl, ho, hc, hd⟩ := hp v List.mem_cons_self
    refine ⟨_ :: fs, PySem.W.KatTups.cons ho hc hd rfl h1, by rw [List.length_cons, List.length_cons, h2], fun f hm => ?_⟩
    rcases List.mem_cons.mp hm with e | hm
    · exact ⟨_, _, e⟩
    · exact h3 f hm
theorem tx_sortable {a : Addr} {vs : List Value} {k : Value → TX} (h0 : 0 < vs.length) (hp : ∀ v ∈ vs, IsTx s.heap v (k v)) (ha : ∀ o, s.heap.get? a = some o → o.cls ≠ .type "tuple") : SrtO.SortableO prog w A s a vs fun v u => ltT (k v) (k u) := by
  intro h' keep
  have hp' : ∀ v ∈ vs, IsTx h' v (k v) := fun v hm => (hp v hm).keeps fun b o e c => keep b o (fun z => by rw [z] at e; exact ha o e c) e
  obtain ⟨fs, h1, h2, h3⟩ := tx_firsts hp'
  refine ⟨tuples' true, fun Q E hq => ?_, tx_cmp hp'⟩
  refine PySem.W.kat_kind (T := .type "str") h1 (by omega) (fun f hm => ?_) (by rfl) ?_
  · obtain ⟨x, t, rfl⟩ := h3 f hm
    exact PySem.W.Looks.of_pure rfl
  · have e : (Value.type "str" != Value.type "tuple") = true := by first | decide +kernel | rfl | decide
    rw [e]
    exact hq
end
/-- what stands at a text's tuple -/
def kx (H : Hp) : V → TX
  | .ref t => match H t with
    | some (.tup [.str x, .int n]) => (x, n)
    | _ => (⟨#[]⟩, 0)
  | _ => (⟨#[]⟩, 0)
theorem kx_of {H : Hp} {v : V} {p : TX} (h : txV H v p) : kx H v = p := by
  obtain ⟨a, rfl, h⟩ := h
  simp only [kx, h]
def rSortedTx (K : PySem.W.Frag) : List V → Hp → VK → Prop := fun vs H Q => ∃ (a : Addr) (xs : List V) (ts : List TX), vs = [V.ref a] ∧ SqL K H a xs ∧ Paired (txV H) xs ts ∧
  ∀ ys ts' p, Paired (txV H) ys ts' → ts'.Perm ts → ts'.Pairwise (fun p q => ltT q p = false) → H p = none → Q (.ref p) (upd H p (.lst ys))
theorem tx_pair {H : Hp} : ∀ {xs : List V}, (∀ x ∈ xs, txV H x (kx H x)) → Paired (txV H) xs (xs.map (kx H))
  | [], _ => .nil
  | x :: xs, h => .cons (h x List.mem_cons_self) (tx_pair fun y hy => h y (List.mem_cons_of_mem _ hy))
theorem tx_map {H : Hp} : ∀ {xs : List V} {ts : List TX}, Paired (txV H) xs ts → xs.map (kx H) = ts ∧ ∀ x ∈ xs, txV H x (kx H x)
  | _, _, .nil => ⟨rfl, fun x h => by cases h⟩
  | x :: xs, t :: ts, .cons r p => by
    obtain ⟨h1, h2⟩ := tx_map p
    refine ⟨by rw [List.map_cons, h1, kx_of r], fun y hy => ?_⟩
    rcases List.mem_cons.mp hy with e | hy
    · rw [e, kx_of r]; exact r
    · exact h2 y hy
section
variable {X : Cx}
theorem cr_sortedTx : CallR X (.builtin "sorted") (rSortedTx X.K) := by
  intro pins s σ H vs us Q I r h
  obtain ⟨a, xs, ts, rfl, hs, hx, q⟩ := h
  obtain ⟨its, rv, hl, hz⟩ := I.list hs
  obtain ⟨u, rfl, ru⟩ := vals1 r
  obtain rfl : u = Value.ref a := ru
  obtain ⟨em, hx2⟩ := tx_map hx
  obtain ⟨e1, e2⟩ := refs_back rv fun x m => by
    obtain ⟨t, e, _⟩ := hx2 x m
    exact ⟨t, e⟩
  have hp : ∀ v ∈ its, IsTx s.heap v (kx H (backV v)) := by
    intro v hv
    obtain ⟨t, rfl⟩ := e2 v hv
    have hm : V.ref t ∈ xs := by rw [e1]; exact List.mem_map.mpr ⟨_, hv, rfl⟩
    have h := hx2 _ hm
    show IsTx s.heap (.ref t) (kx H (.ref t))
    generalize kx H (.ref t) = p at h ⊢
    obtain ⟨t', e, ht⟩ := h
    cases e
    obtain ⟨_, its2, r2, o, ho, hc, n, hd⟩ := I.hok _ _ ht
    obtain ⟨u1, u2, rfl, ri, rj⟩ := vals2 r2
    obtain ⟨t1, rfl⟩ := ri
    obtain ⟨t2, rfl⟩ := rj
    exact ⟨t, o, t1, t2, n, rfl, ho, hc, hd⟩
  refine SrtO.sorted_ord (ltT_swo fun u => kx H (backV u)) hl.isList (by rw [← rv.length]; exact hz) (fun h2 h₁ a' ha kk => ?_) fun out h1 h2 => ?_
  · refine tx_sortable (s := { s with heap := h₁ }) (by omega) (fun v hm => (hp v hm).keeps fun b o e _ => (kk b o e).2) fun o e => ?_
    have e' : some o = some (seqObj "list" its.toArray 0) := e.symm.trans ha
    cases e'
    intro c
    exact absurd (Value.type.inj c) (by decide)
  · have h3 : ∀ u ∈ out, ∃ a, u = Value.ref a := fun u hu => e2 u (h2.perm.mem_iff.mp hu)
    obtain ⟨n, hn⟩ := PyProof.Rows.sortedAll_at s.heap its out.toArray
    have hperm : (out.map backV).Perm xs := by
      rw [e1]
      exact h2.perm.map backV
    refine ⟨.ref _, upd H (s.heap.objs.size + 1) (.lst (out.map backV)), I.laid (t' := s.toks) (fun _ _ => PyProof.Rows.sortedAll_old) (Nat.le_succ _) ⟨?_, out, n, vals_back h3, hn⟩, rfl, q (out.map backV) ((out.map backV).map (kx H)) _ ?_ ?_ ?_ (I.hok.fresh (Nat.le_succ _))⟩
    · rw [hperm.length_eq]
      exact hz
    · exact tx_pair fun x hm => hx2 x (hperm.mem_iff.mp hm)
    · rw [← em]
      exact hperm.map _
    · rw [List.map_map]
      exact List.pairwise_map.mpr h1
end
end K13

namespace K13
open PySem PySem.Spec PyProof.Rows L2

/-! ### repr of data -/
structure Shw (d : PyData) : Prop where
  tp : ∃ l, d = .tuple l
  sh : d.showable = true
  hd : d.hasDict = false
  dp : d.depth ≤ 10
  sz : d.shown.length ≤ sizeLine
def rRepr (K : PySem.W.Frag) : List V → Hp → VK → Prop := fun xs H Q => ∃ x d, xs = [x] ∧ Dp K H x d ∧ Shw d ∧ Q (.str d.shown) H
theorem call_repr {X : Cx} (hg : X.A.guards = some []) (hu : X.A.units + 64 < cLine) : CallR X (.builtin "repr") (rRepr X.K) := by
  intro pins s σ H xs us Q I r h
  obtain ⟨x, d, rfl, hd, S, q⟩ := h
  obtain ⟨u, rfl, ru⟩ := vals1 r
  obtain ⟨as, rd⟩ := hd.reads I d x u ru
  obtain ⟨l, rfl⟩ := S.tp
  have hdp := S.dp
  cases rd with
  | tuple h1 h2 h3 h4 =>
    exact repr_of_reads' (.tuple h1 h2 h3 h4) S.sh (PyData.noDict_hsm S.hd) hg (by omega) (fun _ _ e => e) (fun h' u' tk hk => ⟨.str _, H, I.kept hk, ⟨_, rfl⟩, q⟩) S.sz

/-! ### small boxes -/
def tinyT : Th → Prop
  | .key k => 0 ≤ k ∧ k < 6
  | .txt x n => (x = "memo" ∨ x = "a" ∨ x = "world") ∧ (n = 0 ∨ n = 1)
structure Tiny (bs : List Bx) : Prop where
  len : bs.length ≤ 5
  th : ∀ b, b ∈ bs → tinyT b.1
  ks : ∀ b, b ∈ bs → b.2.length ≤ 3
  nn : ∀ b, b ∈ bs → ∀ k, k ∈ b.2 → 0 ≤ k ∧ k < 6
theorem int_six {k : Int} (h : 0 ≤ k ∧ k < 6) : k = 0 ∨ k = 1 ∨ k = 2 ∨ k = 3 ∨ k = 4 ∨ k = 5 := by omega
theorem shown_int {k : Int} (h : 0 ≤ k ∧ k < 6) : (PyData.shown (.int k)).length ≤ 20 ∧ PyData.showable (.int k) = true := by
  rcases int_six h with rfl | rfl | rfl | rfl | rfl | rfl <;> decide +kernel
theorem shown_th {t : Th} (h : tinyT t) : (thD t).shown.length ≤ 30 ∧ (thD t).showable = true ∧ (thD t).hasDict = false := by
  cases t with
  | key k =>
    have q := shown_int h
    refine ⟨by show (PyData.shown (.int k)).length ≤ 30; omega, q.2, ?_⟩
    simp [thD, PyData.hasDict]
  | txt x n =>
    obtain ⟨hx, hn⟩ := h
    rcases hx with rfl | rfl | rfl <;> rcases hn with rfl | rfl <;> decide +kernel
theorem tupleText_le (ts : List Str) : (tupleText ts).length ≤ piled ts + 4 := by
  have e : (tupleText ts).length = 1 + (Str.join ", " ts).length + (if ts.length == 1 then 2 else 1) := by
    unfold tupleText
    rw [Str.length_append, Str.length_append]
    split <;> rfl
  rw [e]
  cases ts with
  | nil => decide
  | cons t ts =>
    have := join_length_add (t :: ts) (by simp)
    split <;> omega
theorem piled_le {ts : List Str} {n : Nat} (h : ∀ t, t ∈ ts → t.length ≤ n) : piled ts ≤ ts.length * (n + 2) := by
  induction ts with
  | nil => simp [piled]
  | cons t ts ih =>
    rw [piled_cons, List.length_cons, Nat.add_mul]
    have h1 := h t List.mem_cons_self
    have h2 := ih fun x hx => h x (List.mem_cons_of_mem _ hx)
    omega
theorem shownAll_map {α : Type} (f : α → PyData) : ∀ l : List α, PyData.shownAll (l.map f) = l.map fun x => (f x).shown
  | [] => by simp [PyData.shownAll]
  | x :: l => by simp [PyData.shownAll, shownAll_map f l]
theorem showableAll_map {α : Type} (f : α → PyData) : ∀ {l : List α}, (∀ x, x ∈ l → (f x).showable = true) → PyData.showableAll (l.map f) = true
  | [], _ => by simp [PyData.showableAll]
  | x :: l, h => by simp [PyData.showableAll, h x List.mem_cons_self, showableAll_map f fun y hy => h y (List.mem_cons_of_mem _ hy)]
theorem hasDictAll_map {α : Type} (f : α → PyData) : ∀ {l : List α}, (∀ x, x ∈ l → (f x).hasDict = false) → PyData.hasDictAll (l.map f) = false
  | [], _ => by simp [PyData.hasDictAll]
  | x :: l, h => by simp [PyData.hasDictAll, h x List.mem_cons_self, hasDictAll_map f fun y hy => h y (List.mem_cons_of_mem _ hy)]
theorem shown_ns {l : List Int} (hl : l.length ≤ 3) (h : ∀ k, k ∈ l → 0 ≤ k ∧ k < 6) : (nsD l).shown.length ≤ 80 ∧ (nsD l).showable = true ∧ (nsD l).hasDict = false := by
  refine ⟨?_, ?_, ?_⟩
  · have e : (nsD l).shown = tupleText (l.map fun k => (PyData.int k).shown) := by
      unfold nsD
      rw [PyData.shown, shownAll_map]
    rw [e]
    have h1 := tupleText_le (l.map fun k => (PyData.int k).shown)
    have h2 := piled_le (ts := l.map fun k => (PyData.int k).shown) (n := 20) fun t ht => by
      obtain ⟨k, hk, rfl⟩ := List.mem_map.mp ht
      exact (shown_int (h k hk)).1
    rw [List.length_map] at h2
    omega
  · unfold nsD
    simp only [PyData.showable]
    exact showableAll_map _ fun k hk => (shown_int (h k hk)).2
  · unfold nsD
    simp only [PyData.hasDict]
    exact hasDictAll_map _ fun k hk => by simp [PyData.hasDict]
theorem shown_bx {b : Bx} (ht : tinyT b.1) (hl : b.2.length ≤ 3) (h : ∀ k, k ∈ b.2 → 0 ≤ k ∧ k < 6) : (bxD b).shown.length ≤ 130 ∧ (bxD b).showable = true ∧ (bxD b).hasDict = false := by
  obtain ⟨t1, t2, t3⟩ := shown_th ht
  obtain ⟨n1, n2, n3⟩ := shown_ns hl h
  refine ⟨?_, ?_, ?_⟩
  · have e : (bxD b).shown = tupleText [(thD b.1).shown, (nsD b.2).shown] := by simp [bxD, PyData.shown, PyData.shownAll]
    rw [e]
    have h1 := tupleText_le [(thD b.1).shown, (nsD b.2).shown]
    rw [piled_cons, piled_cons, piled_nil] at h1
    omega
  · simp [bxD, PyData.showable, PyData.showableAll, t2, n2]
  · simp [bxD, PyData.hasDict, PyData.hasDictAll, t3, n3]
theorem shw_bs {bs : List Bx} (T : Tiny bs) : Shw (bsD bs) := by
  have q : ∀ b, b ∈ bs → (bxD b).shown.length ≤ 130 ∧ (bxD b).showable = true ∧ (bxD b).hasDict = false := fun b hb => shown_bx (T.th b hb) (T.ks b hb) (T.nn b hb)
  refine ⟨⟨_, rfl⟩, ?_, ?_, ?_, ?_⟩
  · unfold bsD
    simp only [PyData.showable]
    exact showableAll_map _ fun b hb => (q b hb).2.1
  · unfold bsD
    simp only [PyData.hasDict]
    exact hasDictAll_map _ fun b hb => (q b hb).2.2
  · have g : PyData.depthAll (bs.map bxD) ≤ 2 := dep_map fun x _ => dep_bx x
    unfold bsD
    simp only [PyData.depth]
    omega
  · have e : (bsD bs).shown = tupleText (bs.map fun b => (bxD b).shown) := by
      unfold bsD
      rw [PyData.shown, shownAll_map]
    rw [e]
    have h1 := tupleText_le (bs.map fun b => (bxD b).shown)
    have h2 := piled_le (ts := bs.map fun b => (bxD b).shown) (n := 130) fun t ht => by
      obtain ⟨b, hb, rfl⟩ := List.mem_map.mp ht
      exact (q b hb).1
    rw [List.length_map] at h2
    have h3 := T.len
    have h4 : 1000 ≤ sizeLine := by decide
    omega
end K13

namespace K13
open PySem PySem.Spec PyProof.Rows L2

/-! ### the text by places -/
def top (i : Nat) : Stmt := PySem.Challenge.pw_sealshelf_k13_whole_chests.main.body.getD i (.Pass ⟨0, 0, 0, 0⟩)
/-! ### built-in names that the module does not rebind -/
structure Gb (mg : Str → Option Value) : Prop where
  isi : mg "isinstance" = none
  len : mg "len" = none
  all : mg "all" = none
  zip : mg "zip" = none
  list : mg "list" = none
  tuple : mg "tuple" = none
  sorted : mg "sorted" = none
  int : mg "int" = none
  bool : mg "bool" = none
  str : mg "str" = none
  range : mg "range" = none
  repr : mg "repr" = none
  super : mg "super" = none
/-- a def of the module that keeps a promise -/
structure Cl1 (P : Program) (w : World) (K : PySem.W.Frag) (mg : Str → Option Value) (base : Heap) (k : Nat) (x : Str) (sp : Sp) : Prop where
  ex : ∃ (f : Addr) (fd : FuncData) (ps : List Str), FnOk P w K mg base CX0 k f fd ps sp ∧ mg x = some (.ref f) ∧ PySem.W.keepIn K (.ref f) = true ∧ Binds K fd ps []
theorem Cl1.mono {P : Program} {w : World} {K : PySem.W.Frag} {mg : Str → Option Value} {base : Heap} {j k : Nat} {x : Str} {sp : Sp} (c : Cl1 P w K mg base j x sp) (h : j ≤ k) : Cl1 P w K mg base k x sp := let ⟨f, fd, ps, F, r⟩ := c; ⟨f, fd, ps, F.mono h, r⟩
theorem Cl1.imp {P : Program} {w : World} {K : PySem.W.Frag} {mg : Str → Option Value} {base : Heap} {k : Nat} {x : Str} {sp sp' : Sp} (c : Cl1 P w K mg base k x sp) (h : ∀ vs H Q E, sp' vs H Q E → sp vs H Q E) : Cl1 P w K mg base k x sp' := let ⟨f, fd, ps, F, r⟩ := c; ⟨f, fd, ps, F.imp h, r⟩
def tCl (sp : Sp) (t : TA) : TE := fun σ H Q => t σ H fun vs H1 => sp vs H1 Q E0
section
variable {X : Cx} {k : Nat} {x : Str} {sp : Sp} {t : TA} {e : Expr} {es : List Expr} {p pos : Pos}
theorem pe_cl (c : Cl1 X.prog X.w X.K X.mg X.base k x sp) (hr : Room k X.A) (ha : PA X (e :: es) t) (hg : Gl X x := by rfl) (hdb : (x == ("__debug__" : Str)) = false := by decide) (he : starEach (e :: es) X.env = (false, eval e X.env) :: starEach es X.env := by rfl) (hpl : (backTo pos (starEach es X.env)).any (·.1) = false := by rfl) :
    PE X (.Call (.Name x p) (e :: es) [] pos) (tCl sp t) := by
  obtain ⟨f, fd, ps, F, hm, hk, hb⟩ := c
  refine ⟨fun pins s σ H Q I h => (pe_call (E := E0) (dvs := []) F hr hg hm hk hb .nil pass0 ha hdb he hpl).run pins s σ H Q I ?_⟩
  unfold tCl at h
  unfold tCall
  simpa only [List.append_nil] using h
end
/-- isinstance(x, T) -/
theorem isi_of {K : PySem.W.Frag} {H : Hp} {Q : VK} {x : V} {t n : String} {b : Bool} (ty : TyX K H x (.type t)) (e : kitB t n = some b) (q : Q (.bl b) H) : rIsi K [x, .ty n] H Q := ⟨x, .ty n, .type t, .type n, b, rfl, .ty n, ty, kit_ty e, q⟩
def tIsi (te : TE) (K : PySem.W.Frag) (n : String) : TE := fun σ H Q => te σ H fun x H1 => rIsi K [x, .ty n] H1 Q
section
variable {X : Cx} {e : Expr} {te : TE} {p p' pos : Pos} {T : Str} {n : String}
theorem pe_isi (G : Gb X.mg) (he : PE X e te) (hT : X.mg T = none) (hb : bootBuiltins T = some (.type n)) (hg : Gl X "isinstance" := by rfl) (hgT : Gl X T := by rfl) (hn : T ≠ "__name__" := by decide) (hd : (T == ("__debug__" : Str)) = false := by decide)
    (h1 : starEach [e, .Name T p'] X.env = (false, eval e X.env) :: starEach [.Name T p'] X.env := by rfl) (h2 : (backTo pos (starEach [.Name T p'] X.env)).any (·.1) = false := by rfl) :
    PE X (.Call (.Name "isinstance" p) [e, .Name T p'] [] pos) (tIsi te X.K n) :=
  pe_callB call_isi hg G.isi PyProof.Rows.boot_isinstance (pa_cons he (pa_cons (pe_bltn hgT hT hb (v := .ty n) rfl hn hd) pa_nil) h1) (he := h1) (hpl := h2)
end
theorem ty_th {K : PySem.W.Frag} {H : Hp} {v : V} {k : Int} (h : thV H v (.key k)) : TyX K H v (.type "int") := by
  have e : v = .int k := h
  rw [e]
  exact .base (.int k)
theorem ty_tx {K : PySem.W.Frag} {H : Hp} {v : V} {x : Str} {n : Int} (h : thV H v (.txt x n)) : TyX K H v (.type "tuple") := by
  obtain ⟨a, rfl, h⟩ := h
  exact .base (.tup h)

/-! ### a list comprehension whose steps only make objects -/
theorem Same.tr {H H1 H2 : Hp} (a : Same H H1) (b : Same H1 H2) : Same H H2 := fun c o h => b c o (a c o h)
theorem Same.rf (H : Hp) : Same H H := fun _ _ h => h
/-- at turn i the new list at D holds what R says -/
def PvL (H1 : Hp) (D : Addr) (R : Nat → List V → Hp → Prop) (i : Nat) (H : Hp) : Prop := Same H1 H ∧ ∃ acc, H D = some (.lst acc) ∧ acc.length ≤ i ∧ R i acc H
section
variable {H1 H H3 H4 : Hp} {D : Addr} {R : Nat → List V → Hp → Prop} {i : Nat} {acc : List V} {y : V}
theorem PvL.put (hD : H1 D = none) (hn : i < sizeLine) (sm : Same H1 H) (hH : H D = some (.lst acc)) (hl : acc.length ≤ i) (s4 : Same H H4) (r : ∀ H5, TK H4 H5 → R (i + 1) (acc ++ [y]) H5) :
    ∃ acc, H4 D = some (.lst acc) ∧ acc.length < sizeLine ∧ PvL H1 D R (i + 1) (upd H4 D (.lst (acc ++ [y]))) := by
  have hH4 : H4 D = some (.lst acc) := s4 _ _ hH
  exact ⟨acc, hH4, Nat.lt_of_le_of_lt hl hn, Same.at_new (Same.tr sm s4) hD, acc ++ [y], upd_same, by rw [List.length_append]; simp; omega, r _ (TK.put hH4 fun xs e => by cases e)⟩
theorem PvL.skip (sm : Same H1 H) (hH : H D = some (.lst acc)) (hl : acc.length ≤ i) (s3 : Same H H3) (r : R (i + 1) acc H3) : PvL H1 D R (i + 1) H3 := ⟨Same.tr sm s3, acc, s3 _ _ hH, by omega, r⟩
end
section
variable {J : It} {n : Nat} {G : Hp → Prop} {Y : Nat → Hp → V → Hp → Prop} {g : TG} {te : TE} {tt : TT} {vs : List Nat} {σ : L2.St} {H1 : Hp} {D : Addr} {Qd : Hp → Prop}
theorem lc_gen (w : Walk J n G Y) (hD : H1 D = none) (R : Nat → List V → Hp → Prop) (h0 : ∀ H5, TK H1 H5 → R 0 [] H5) (hG : ∀ H, Same H1 H → G H)
    (hs : ∀ i x H H' acc, i < n → Same H1 H → H D = some (.lst acc) → acc.length ≤ i → R i acc H → Y i H x H' → g x (wipe σ vs) H' fun σ2 H2 => wipe σ2 vs = wipe σ vs ∧ tt σ2 H2 fun b H3 =>
      if b = true then te σ2 H3 fun y H4 => ∃ acc, H4 D = some (.lst acc) ∧ acc.length < sizeLine ∧ PvL H1 D R (i + 1) (upd H4 D (.lst (acc ++ [y]))) else PvL H1 D R (i + 1) H3)
    (hd : ∀ H acc, Same H1 H → H D = some (.lst acc) → acc.length ≤ n → R n acc H → Qd H) :
    ∃ W : Nat → Nat → Hp → Prop, (∃ m, W 0 m (upd H1 D (.lst []))) ∧ ∀ i m H, W i m H →
      (J.stop i H ∧ Qd H) ∨ (J.go i H ∧ ∃ Nx : Hp → Prop, (∀ H', Nx H' → ∃ m', m' < m ∧ W (i + 1) m' H') ∧ ∀ x H', J.yld i H x H' → g x (wipe σ vs) H' fun σ2 H2 => wipe σ2 vs = wipe σ vs ∧ tt σ2 H2 fun b H3 =>
        if b = true then te σ2 H3 fun y H4 => ∃ acc, H4 D = some (.lst acc) ∧ acc.length < sizeLine ∧ Nx (upd H4 D (.lst (acc ++ [y]))) else Nx H3) :=
  lc_it w (PvL H1 D R) ⟨Same.new hD, [], upd_same, Nat.le_refl _, h0 _ (TK.new hD)⟩ (fun i H _ p => hG H p.1)
    (fun i x H H' hi ⟨sm, acc, hH, hl, r⟩ y => hs i x H H' acc hi sm hH hl r y) fun H ⟨sm, acc, hH, hl, r⟩ => hd H acc sm hH hl r
end
/-- the accumulated answers are all True -/
def RTrue : Nat → List V → Hp → Prop := fun i acc _ => acc = List.replicate i (.bl true)
theorem RTrue.step {i : Nat} {acc : List V} {H H5 : Hp} (h : RTrue i acc H) : RTrue (i + 1) (acc ++ [.bl true]) H5 := by
  have h : acc = List.replicate i (.bl true) := h
  show acc ++ [V.bl true] = _
  rw [h, List.replicate_succ']
theorem all_true {K : PySem.W.Frag} {H : Hp} {D : Addr} {n : Nat} {acc : List V} {Q : VK} (h : H D = some (.lst acc)) (r : RTrue n acc H) (q : Q (.bl true) H) : rAll K [.ref D] H Q := by
  have r : acc = List.replicate n (.bl true) := r
  refine ⟨D, List.replicate n true, rfl, .inl (.inl ?_), ?_⟩
  · rw [h, r, List.map_replicate]
  · have e : (List.replicate n true).all id = true := by rw [List.all_eq_true]; intro b hb; exact List.eq_of_mem_replicate hb
    rw [e]
    exact q
theorem all_lst {H : Hp} {D : Addr} {n : Nat} {acc : List V} (h : H D = some (.lst acc)) (r : RTrue n acc H) : H D = some (.lst ((List.replicate n true).map V.bl)) := by
  have r : acc = List.replicate n (.bl true) := r
  rw [h, r, List.map_replicate]
theorem all_id (n : Nat) : (List.replicate n true).all id = true := by rw [List.all_eq_true]; intro b hb; exact List.eq_of_mem_replicate hb
theorem PvL.tr {H1 H H4 : Hp} {D : Addr} {i : Nat} {acc : List V} {b : Bool} (hD : H1 D = none) (hn : i < sizeLine) (sm : Same H1 H) (hH : H D = some (.lst acc)) (hl : acc.length ≤ i) (s4 : Same H H4) (r : RTrue i acc H) (hb : b = true) :
    ∃ acc, H4 D = some (.lst acc) ∧ acc.length < sizeLine ∧ PvL H1 D RTrue (i + 1) (upd H4 D (.lst (acc ++ [.bl b]))) := by
  rw [hb]
  exact PvL.put hD hn sm hH hl s4 fun _ _ => r.step
theorem ifT {c : Bool} {A B : Prop} (h : c = true) (a : A) : if c = true then A else B := by
  rw [if_pos h]
  exact a
theorem ifF {c : Bool} {A B : Prop} (h : c = false) (b : B) : if c = true then A else B := by
  rw [h, if_neg Bool.false_ne_true]
  exact b
theorem ifB {c : Bool} {A B : Prop} (a : c = true → A) (b : c = false → B) : if c = true then A else B := by
  cases c with
  | true => exact ifT rfl (a rfl)
  | false => exact ifF rfl (b rfl)
end K13

namespace K13
open PySem PySem.Spec PyProof.Rows L2

section
variable {P : Program} {w : World} {K : PySem.W.Frag} {mg : Str → Option Value} {base : Heap}
theorem b_int : bootBuiltins "int" = some (.type "int") := by decide +kernel
theorem b_bool : bootBuiltins "bool" = some (.type "bool") := by decide +kernel
theorem b_str : bootBuiltins "str" = some (.type "str") := by decide +kernel
theorem b_tuple : bootBuiltins "tuple" = some (.type "tuple") := by decide +kernel
def isKey : Th → Bool
  | .key _ => true
  | .txt _ _ => false
/-! ### is_integer -/
def spInt : Sp := fun vs H Q _ => ∃ v t, vs = [v] ∧ thV H v t ∧ Q (.bl (isKey t)) H
theorem sc3 : FnScope ["thing"] ["thing"] (defScope (top 3)) := ⟨rfl, rfl, rfl, by decide +kernel, rfl, by decide +kernel, by decide +kernel⟩
theorem ok_integer {f : Addr} {fd : FuncData} (F : Fun K "is_integer" "is_integer" (top 3) f fd) (G : Gb mg) : FnOk P w K mg base CX0 1 f fd ["thing"] spInt := by
  refine F.ok sc3 (fun vs H Q E h => ?_) (fun cdv A outer s H vs Q E hr h => ?_)
  · obtain ⟨v, t, rfl, _⟩ := h
    rfl
  · obtain ⟨v, t, rfl, ht, q⟩ := h
    refine ⟨_, pss_one (ps_ret (pe_and (pe_isi G (pv 0) G.int b_int) (pe_one (pe_not (pe_isi G (pv 0) G.bool b_bool))))), ?_⟩
    cases t with
    | key k =>
      refine ⟨_, rfl, isi_of (ty_th ht) (b := true) (by decide +kernel) ⟨_, rfl, iteT ?_⟩⟩
      exact ⟨_, rfl, isi_of (ty_th ht) (b := false) (by decide +kernel) ⟨_, rfl, q⟩⟩
    | txt x n => exact ⟨_, rfl, isi_of (ty_tx ht) (b := false) (by decide +kernel) ⟨_, rfl, iteF q⟩⟩
/-! ### is_number -/
def numB : Th → Bool
  | .key k => decide (0 ≤ k)
  | .txt _ _ => false
def spNum : Sp := fun vs H Q _ => ∃ v t, vs = [v] ∧ thV H v t ∧ Q (.bl (numB t)) H
theorem sc4 : FnScope ["thing"] ["thing"] (defScope (top 4)) := ⟨rfl, rfl, rfl, by decide +kernel, rfl, by decide +kernel, by decide +kernel⟩
theorem ok_number {f : Addr} {fd : FuncData} (F : Fun K "is_number" "is_number" (top 4) f fd) (C1 : Cl1 P w K mg base 1 "is_integer" spInt) : FnOk P w K mg base CX0 2 f fd ["thing"] spNum := by
  refine F.ok sc4 (fun vs H Q E h => ?_) (fun cdv A outer s H vs Q E hr h => ?_)
  · obtain ⟨v, t, rfl, _⟩ := h
    rfl
  · obtain ⟨v, t, rfl, ht, q⟩ := h
    refine ⟨_, pss_one (ps_ret (pe_and (pe_cl C1 hr (pa_cons (pv 0) pa_nil)) (pe_one (pe_cmp (pc_ge (pv 0) pe_int) rfl)))), ?_⟩
    refine ⟨_, rfl, _, t, rfl, ht, ⟨_, rfl, ?_⟩⟩
    cases t with
    | key k =>
      refine iteT ⟨_, rfl, ?_⟩
      have e : v = .int k := ht
      subst e
      exact ⟨k, 0, rfl, rfl, q⟩
    | txt x n => exact iteF q
/-! ### is_name -/
structure Cst (mg : Str → Option Value) : Prop where
  letters : ∃ t, mg "LETTERS" = some (.str "abcdefghijklmnopqrstuvwxyz" t)
  longest : ∃ t, mg "LONGEST" = some (.int 8 t)
theorem letters_has {c : Nat} (h : 97 ≤ c ∧ c ≤ 122) : c ∈ ("abcdefghijklmnopqrstuvwxyz" : Str).cps.toList := by
  have : ∀ c, c < 26 → (c + 97) ∈ ("abcdefghijklmnopqrstuvwxyz" : Str).cps.toList := by decide +kernel
  have q := this (c - 97) (by omega)
  rwa [show c - 97 + 97 = c by omega] at q
def spName : Sp := fun vs H Q _ => ∃ x, vs = [.str x] ∧ low x ∧ ∀ H', Same H H' → Q (.bl true) H'
theorem sc5 : FnScope ["thing", "sign"] ["thing"] (defScope (top 5)) := ⟨rfl, rfl, rfl, by decide +kernel, rfl, by decide +kernel, by decide +kernel⟩
theorem ok_name {f : Addr} {fd : FuncData} (F : Fun K "is_name" "is_name" (top 5) f fd) (G : Gb mg) (B : Cst mg) : FnOk P w K mg base CX0 1 f fd ["thing"] spName := by
  refine F.ok sc5 (fun vs H Q E h => ?_) (fun cdv A outer s H vs Q E hr h => ?_)
  · obtain ⟨x, rfl, _⟩ := h
    rfl
  · obtain ⟨x, rfl, hx, q⟩ := h
    obtain ⟨t1, g1⟩ := B.letters
    obtain ⟨t2, g2⟩ := B.longest
    refine ⟨_, pss_cons (ps_if (PW.pt (pw_or (pt_not (pt_val (pe_isi G (pv 0) G.str b_str))) (pw_or1 (pt_not (pt_chain op_le op_le pe_int (pe_callB call_len_str (by rfl) G.len PySem.boot_len (pa_cons (pv 0) pa_nil)) (pe_glob rfl g2 (v := .int 8) ⟨_, rfl⟩)))))) (pss_one (ps_ret pe_bl)) pss_nil)
      (pss_one (ps_ret (pe_callB (cr_all rfl) (by rfl) G.all PyProof.Rows.boot_all (pa_cons (pe_lc (own := [("sign", 1)]) (g := gName 1) (tt := tYes) rfl sc5.nd (pi_str (pv 0)) (blkOk_by (N := ["thing", "sign"]) (sc := defScope (top 5)) (by decide +kernel))
        (fun _ _ _ _ _ => pg_name (i := 1) sc5.nd rfl (Or.inl rfl)) (fun _ _ _ _ _ => pts_nil) (fun _ _ _ _ _ => pe_cmpR op_in_sign (pv 1) (pe_glob rfl g1 (v := .str "abcdefghijklmnopqrstuvwxyz") ⟨_, rfl⟩) (by rfl))) pa_nil)))), ?_⟩
    have hlen : x.length ≤ sizeLine := by
      have h1 : x.length = x.cps.size := rfl
      have h2 := hx.2.1
      have h3 : 8 ≤ sizeLine := by decide
      omega
    have hle : (1 : Int) ≤ (x.length : Int) := by have h1 : x.length = x.cps.size := rfl; have := hx.1; omega
    have hle8 : (x.length : Int) ≤ 8 := by have h1 : x.length = x.cps.size := rfl; have := hx.2.1; omega
    refine ⟨_, rfl, isi_of (.base (.str x)) (b := true) (by decide +kernel) ⟨_, rfl, ifF rfl ?_⟩⟩
    refine ⟨_, rfl, _, rfl, hlen, _, _, rfl, rfl, _, rfl, ifT (decide_eq_true hle) ⟨_, _, rfl, rfl, ?_⟩⟩
    refine ⟨_, rfl, ifF (by rw [decide_eq_true hle8]; rfl) ?_⟩
    refine ⟨_, rfl, x, rfl, fun D hD => lc_gen (walk_str (z := x)) hD RTrue (fun _ _ => rfl) (fun _ _ => trivial) ?_ ?_⟩
    · rintro i y H1 H' acc hi sm hH hl r ⟨rfl, c, hc, rfl⟩
      have hm : c ∈ x.cps.toList := Array.mem_toList_iff.mpr (Array.mem_of_getElem? hc)
      refine ⟨rfl, _, rfl, c, _, rfl, rfl, ?_⟩
      rw [decide_eq_true (letters_has (hx.2.2 c hm))]
      exact PvL.put hD (Nat.lt_of_lt_of_le hi hlen) sm hH hl (Same.rf _) fun _ _ => r.step
    · intro H' acc sm hH hl r
      exact all_true hH r (q H' sm)
/-! ### is_key, is_text, is_thing -/
def spKey : Sp := spNum
theorem sc6 : FnScope ["thing"] ["thing"] (defScope (top 6)) := ⟨rfl, rfl, rfl, by decide +kernel, rfl, by decide +kernel, by decide +kernel⟩
theorem ok_key {f : Addr} {fd : FuncData} (F : Fun K "is_key" "is_key" (top 6) f fd) (C : Cl1 P w K mg base 2 "is_number" spNum) : FnOk P w K mg base CX0 3 f fd ["thing"] spNum := by
  refine F.ok sc6 (fun vs H Q E h => ?_) (fun cdv A outer s H vs Q E hr h => ?_)
  · obtain ⟨v, t, rfl, _⟩ := h
    rfl
  · obtain ⟨v, t, rfl, ht, q⟩ := h
    exact ⟨_, pss_one (ps_ret (pe_cl C hr (pa_cons (pv 0) pa_nil))), _, rfl, _, t, rfl, ht, q⟩
def spTxt : Sp := fun vs H Q _ => ∃ v x n, vs = [v] ∧ thV H v (.txt x n) ∧ low x ∧ 0 ≤ n ∧ ∀ H', Same H H' → Q (.bl true) H'
theorem sc7 : FnScope ["thing"] ["thing"] (defScope (top 7)) := ⟨rfl, rfl, rfl, by decide +kernel, rfl, by decide +kernel, by decide +kernel⟩
theorem ok_text {f : Addr} {fd : FuncData} (F : Fun K "is_text" "is_text" (top 7) f fd) (G : Gb mg) (C1 : Cl1 P w K mg base 2 "is_name" spName) (C2 : Cl1 P w K mg base 2 "is_number" spNum) : FnOk P w K mg base CX0 3 f fd ["thing"] spTxt := by
  refine F.ok sc7 (fun vs H Q E h => ?_) (fun cdv A outer s H vs Q E hr h => ?_)
  · obtain ⟨v, x, n, rfl, _⟩ := h
    rfl
  · obtain ⟨v, x, n, rfl, ht, hx, hn, q⟩ := h
    obtain ⟨a, rfl, ha⟩ := id ht
    refine ⟨_, pss_one (ps_ret (pe_and (pe_isi G (pv 0) G.tuple b_tuple) (pe_and (pe_cmp (pc_eqI (pe_callB call_len_seq (by rfl) G.len PySem.boot_len (pa_cons (pv 0) pa_nil)) pe_int) rfl)
      (pe_and (pe_cl C1 hr (pa_cons (pe_ix ix_tup (pv 0) pe_int (fun _ _ => rfl)) pa_nil)) (pe_one (pe_cl C2 hr (pa_cons (pe_ix ix_tup (pv 0) pe_int (fun _ _ => rfl)) pa_nil))))))), ?_⟩
    refine ⟨_, rfl, isi_of (ty_tx ht) (b := true) (by decide +kernel) ⟨_, rfl, ?_⟩⟩
    refine ⟨_, rfl, a, _, rfl, .inr (SqT.of ha), _, _, rfl, rfl, ⟨_, rfl, ?_⟩⟩
    refine ⟨_, rfl, a, _, 0, _, rfl, rfl, SqT.of ha, atI_nat (j := 0) rfl, x, rfl, hx, fun H1 sm => ⟨_, rfl, ?_⟩⟩
    refine ⟨_, rfl, a, _, 1, _, rfl, rfl, SqT.of (sm _ _ ha), atI_nat (j := 1) rfl, _, .key n, rfl, rfl, ?_⟩
    show Q (.bl (decide (0 ≤ n))) H1
    rw [decide_eq_true hn]
    exact q H1 sm
def spThg : Sp := fun vs H Q _ => ∃ v t, vs = [v] ∧ thV H v t ∧ goodT t ∧ ∀ H', Same H H' → Q (.bl true) H'
theorem sc8 : FnScope ["thing"] ["thing"] (defScope (top 8)) := ⟨rfl, rfl, rfl, by decide +kernel, rfl, by decide +kernel, by decide +kernel⟩
theorem ok_thing {f : Addr} {fd : FuncData} (F : Fun K "is_thing" "is_thing" (top 8) f fd) (C1 : Cl1 P w K mg base 3 "is_key" spNum) (C2 : Cl1 P w K mg base 3 "is_text" spTxt) : FnOk P w K mg base CX0 4 f fd ["thing"] spThg := by
  refine F.ok sc8 (fun vs H Q E h => ?_) (fun cdv A outer s H vs Q E hr h => ?_)
  · obtain ⟨v, t, rfl, _⟩ := h
    rfl
  · obtain ⟨v, t, rfl, ht, hg, q⟩ := h
    refine ⟨_, pss_one (ps_ret (pe_or (pe_cl C1 hr (pa_cons (pv 0) pa_nil)) (pe_one (pe_cl C2 hr (pa_cons (pv 0) pa_nil))))), ?_⟩
    refine ⟨_, rfl, _, t, rfl, ht, _, rfl, ?_⟩
    cases t with
    | key k => exact ifT (decide_eq_true hg) (q H (Same.rf H))
    | txt x n => exact ifF rfl ⟨_, rfl, v, x, n, rfl, ht, hg.1, hg.2, q⟩
/-! ### rises -/
theorem walk_zT {a b : Addr} {xs ys : List V} {n : Nat} (hn : n = min xs.length ys.length) : Walk (RZ.ItzT K a b) n (fun H => SqT K H a xs ∧ SqT K H b ys) (YPair (fun i => xs[i]?) (fun i => ys[i]?)) := by
  subst hn
  refine ⟨fun i _ hi q => ?_, fun _ q => ⟨xs, ys, q.1, q.2, by omega⟩, fun i H v H' _ q y => ?_⟩
  · exact ⟨xs, ys, xs[i], ys[i], q.1, q.2, List.getElem?_eq_getElem (by omega), List.getElem?_eq_getElem (by omega)⟩
  · obtain ⟨T, x, z, h1, h2, h3, h4, h5⟩ := y
    exact ⟨T, x, z, h1, h2, h3, h4 xs q.1, h5 ys q.2⟩
def spRise : Sp := fun vs H Q _ => ∃ v l, vs = [v] ∧ nsV H v l ∧ SS l ∧ l ≠ [] ∧ l.length ≤ sizeLine ∧ ∀ H', Same H H' → Q (.bl true) H'
theorem sc9 : FnScope ["values", "one", "other"] ["values"] (defScope (top 9)) := ⟨rfl, rfl, rfl, by decide +kernel, rfl, by decide +kernel, by decide +kernel⟩
theorem ok_rises {f : Addr} {fd : FuncData} (F : Fun K "rises" "rises" (top 9) f fd) (G : Gb mg) : FnOk P w K mg base CX0 1 f fd ["values"] spRise := by
  refine F.ok sc9 (fun vs H Q E h => ?_) (fun cdv A outer s H vs Q E hr h => ?_)
  · obtain ⟨v, l, rfl, _⟩ := h
    rfl
  · obtain ⟨v, l, rfl, ⟨a, rfl, ha⟩, hs, hne, hlen, q⟩ := h
    refine ⟨_, pss_one (ps_ret (pe_callB (cr_all rfl) (by rfl) G.all PyProof.Rows.boot_all (pa_cons (pe_lc (own := [("one", 1), ("other", 2)]) (g := gTup K 2 (gCons (gName 1) (gCons (gName 2) gNil))) (tt := tYes) rfl sc9.nd (RZ.pi_zipA (by rfl) G.zip (pa_cons (pv 0) (pa_cons (pe_slice sl_tup (pv 0) (po_some pe_int) po_none) pa_nil)))
      (blkOk_by (N := ["values", "one", "other"]) (sc := defScope (top 9)) (by decide +kernel)) (fun _ _ _ _ _ => pg_tup rfl (pgs_cons (pg_name (i := 1) sc9.nd rfl (Or.inl rfl)) (pgs_cons (pg_name (i := 2) sc9.nd rfl (Or.inl rfl)) pgs_nil)))
      (fun _ _ _ _ _ => pts_nil) (fun _ _ _ _ _ => pe_cmp (pc_lt (pv 1) (pv 2)) rfl)) pa_nil))), ?_⟩
    have hl0 : 0 < l.length := List.length_pos_iff.mpr hne
    have hcut : cutV (l.map V.int) (some 1) none = (l.tail).map V.int := by
      unfold cutV
      rw [show HT.sIx (l.map V.int).length 0 (some 1) = 1 from by rw [show (1 : Int) = ((1 : Nat) : Int) from rfl, HT.sIx_nat, List.length_map]; omega, HT.sIx_none, List.drop_one, List.take_of_length_le (by rw [List.length_tail]; omega), List.map_tail]
    refine ⟨_, rfl, _, rfl, _, rfl, a, _, rfl, SqT.of ha, ?_, fun p hp => ?_⟩
    · rw [List.length_map]
      rintro ⟨h1, _⟩
      rw [show (1 : Int) = ((1 : Nat) : Int) from rfl, HT.sIx_nat] at h1
      omega
    · rw [hcut]
      have sm0 : Same H (upd H p (.tup (l.tail.map V.int))) := Same.new hp
      refine ⟨a, p, _, _, rfl, .inr ⟨SqT.of (sm0 _ _ ha), SqT.of upd_same, fun D hD => lc_gen (walk_zT (n := l.length - 1) (xs := l.map V.int) (ys := l.tail.map V.int) (by rw [List.length_map, List.length_map, List.length_tail]; omega)) hD RTrue (fun _ _ => rfl) (fun H1 sm => ⟨SqT.of (sm _ _ (sm0 _ _ ha)), SqT.of (sm _ _ upd_same)⟩) ?_ ?_⟩⟩
      · rintro i y H1 H' acc hi sm hH hl r ⟨T, x1, x2, rfl, hT, rfl, e1, e2⟩
        have k1 : l[i]? = some l[i] := List.getElem?_eq_getElem (by omega)
        have k2 : l[i + 1]? = some l[i + 1] := List.getElem?_eq_getElem (by omega)
        have e1 : (l.map V.int)[i]? = some x1 := e1
        have e2 : (l.tail.map V.int)[i]? = some x2 := e2
        rw [List.getElem?_map, k1] at e1
        rw [List.getElem?_map, List.getElem?_tail, k2] at e2
        obtain rfl : V.int l[i] = x1 := Option.some.inj e1
        obtain rfl : V.int l[i + 1] = x2 := Option.some.inj e2
        refine ⟨T, _, rfl, SqT.of upd_same, rfl, _, _, rfl, _, _, rfl, rfl, rfl, _, rfl, _, rfl, _, _, rfl, rfl, ?_⟩
        have hlt : l[i] < l[i + 1] := List.pairwise_iff_getElem.mp hs i (i + 1) (by omega) (by omega) (by omega)
        exact PvL.tr hD (by omega) sm hH hl (Same.new hT) r (decide_eq_true hlt)
      · intro H' acc sm hH hl r
        exact all_true hH r (q H' (Same.tr sm0 sm))
/-! ### is_rising, is_keys -/
def spRis (fk : Addr) : Sp := fun vs H Q _ => ∃ v l, vs = [v, .ref fk] ∧ nsV H v l ∧ SS l ∧ l ≠ [] ∧ l.length ≤ sizeLine ∧ (∀ k, k ∈ l → 0 ≤ k) ∧ ∀ H', Same H H' → Q (.bl true) H'
theorem sc10 : FnScope ["thing", "check", "own"] ["thing", "check"] (defScope (top 10)) := ⟨rfl, rfl, rfl, by decide +kernel, rfl, by decide +kernel, by decide +kernel⟩
theorem ok_rising {f fk : Addr} {fd fdk : FuncData} {psk : List Str} (F : Fun K "is_rising" "is_rising" (top 10) f fd) (G : Gb mg) (Fk : FnOk P w K mg base CX0 3 fk fdk psk spNum) (kk : PySem.W.keepIn K (.ref fk) = true) (bk : Binds K fdk psk []) (C : Cl1 P w K mg base 1 "rises" spRise) : FnOk P w K mg base CX0 4 f fd ["thing", "check"] (spRis fk) := by
  refine F.ok sc10 (fun vs H Q E h => ?_) (fun cdv A outer s H vs Q E hr h => ?_)
  · obtain ⟨v, l, rfl, _⟩ := h
    rfl
  · obtain ⟨v, l, rfl, ⟨a, rfl, ha⟩, hs, hne, hlen, hnn, q⟩ := h
    refine ⟨_, pss_one (ps_ret (pe_and (pe_isi G (pv 0) G.tuple b_tuple) (pe_and (pe_callB (cr_all rfl) (by rfl) G.all PyProof.Rows.boot_all (pa_cons (pe_lc (own := [("own", 2)]) (g := gName 2) (tt := tYes) rfl sc10.nd (pi_tup (pv 0))
      (blkOk_by (N := ["thing", "check", "own"]) (sc := defScope (top 10)) (by decide +kernel)) (fun _ _ _ _ _ => pg_name (i := 2) sc10.nd rfl (Or.inl rfl)) (fun _ _ _ _ _ => pts_nil)
      (fun _ _ _ _ _ => pe_callL (i := 1) (E := E0) (dvs := []) Fk hr rfl (by first | exact Or.inl rfl | exact Or.inr (Or.inl rfl) | exact Or.inr (Or.inr rfl)) kk bk .nil pass0 (pa_cons (pv 2) pa_nil))) pa_nil))
      (pe_one (pe_cl (C.mono (by decide)) hr (pa_cons (pv 0) pa_nil)))))), ?_⟩
    refine ⟨_, rfl, isi_of (.base (.tup ha)) (b := true) (by decide +kernel) ⟨_, rfl, ?_⟩⟩
    refine ⟨_, rfl, a, rfl, ⟨_, SqT.of ha⟩, fun D hD => lc_gen (walk_tup (xs := l.map V.int)) hD RTrue (fun _ _ => rfl) (fun H1 sm => SqT.of (sm _ _ ha)) ?_ ?_⟩
    · rintro i y H1 H' acc hi sm hH hl r ⟨rfl, e⟩
      rw [List.length_map] at hi
      rw [List.getElem?_map, List.getElem?_eq_getElem hi] at e
      obtain rfl : V.int l[i] = y := Option.some.inj e
      refine ⟨rfl, rfl, _, rfl, _, .key l[i], rfl, rfl, ?_⟩
      exact PvL.tr hD (by omega) sm hH hl (Same.rf _) r (decide_eq_true (hnn _ (List.getElem_mem hi)))
    · intro H' acc sm hH hl r
      refine ⟨D, _, rfl, .inl (.inl (all_lst hH r)), ?_⟩
      rw [all_id]
      exact ⟨_, rfl, _, rfl, _, l, rfl, ⟨a, rfl, sm _ _ ha⟩, hs, hne, hlen, fun H2 sm2 => q H2 (Same.tr sm sm2)⟩
def spKeys : Sp := fun vs H Q _ => ∃ v l, vs = [v] ∧ nsV H v l ∧ SS l ∧ l ≠ [] ∧ l.length ≤ sizeLine ∧ (∀ k, k ∈ l → 0 ≤ k) ∧ ∀ H', Same H H' → Q (.bl true) H'
theorem sc11 : FnScope ["thing"] ["thing"] (defScope (top 11)) := ⟨rfl, rfl, rfl, by decide +kernel, rfl, by decide +kernel, by decide +kernel⟩
theorem ok_keys {f fk : Addr} {fd : FuncData} (F : Fun K "is_keys" "is_keys" (top 11) f fd) (mk : mg "is_key" = some (.ref fk)) (C : Cl1 P w K mg base 4 "is_rising" (spRis fk)) : FnOk P w K mg base CX0 5 f fd ["thing"] spKeys := by
  refine F.ok sc11 (fun vs H Q E h => ?_) (fun cdv A outer s H vs Q E hr h => ?_)
  · obtain ⟨v, l, rfl, _⟩ := h
    rfl
  · obtain ⟨v, l, rfl, hv, hs, hne, hlen, hnn, q⟩ := h
    exact ⟨_, pss_one (ps_ret (pe_cl C hr (pa_cons (pv 0) (pa_cons (pe_glob rfl mk (v := .ref fk) rfl) pa_nil)))), _, rfl, v, l, rfl, hv, hs, hne, hlen, hnn, q⟩
end
end K13

namespace K13
open PySem PySem.Spec PyProof.Rows L2
theorem hu65 {A : Around} {k : Nat} (hr : Room k A) : A.units + 65 < cLine := by have := hr.un; omega
theorem nomark_in {e : Expr} {op : CmpOp} (h : behindInMarks op e = false) : behindInMarks op e = false := h
section
variable {P : Program} {w : World} {K : PySem.W.Frag} {mg : Str → Option Value} {base : Heap}
/-! ### is_box, is_boxes -/
def spBox : Sp := fun vs H Q _ => ∃ v b, vs = [v] ∧ bxV H v b ∧ Good b ∧ b.2.length ≤ sizeLine ∧ ∀ H', Same H H' → Q (.bl true) H'
theorem sc12 : FnScope ["thing"] ["thing"] (defScope (top 12)) := ⟨rfl, rfl, rfl, by decide +kernel, rfl, by decide +kernel, by decide +kernel⟩
theorem ok_box {f : Addr} {fd : FuncData} (F : Fun K "is_box" "is_box" (top 12) f fd) (G : Gb mg) (C1 : Cl1 P w K mg base 5 "is_thing" spThg) (C2 : Cl1 P w K mg base 5 "is_keys" spKeys) : FnOk P w K mg base CX0 6 f fd ["thing"] spBox := by
  refine F.ok sc12 (fun vs H Q E h => ?_) (fun cdv A outer s H vs Q E hr h => ?_)
  · obtain ⟨v, b, rfl, _⟩ := h
    rfl
  · obtain ⟨v, ⟨t, l⟩, rfl, ⟨a, vt, vk, rfl, ha, ht, hk⟩, hg, hlen, q⟩ := h
    have ht : thV H vt t := ht
    have hk : nsV H vk l := hk
    refine ⟨_, pss_cons (ps_if (PW.pt (pw_or (pt_not (pt_val (pe_isi G (pv 0) G.tuple b_tuple))) (pw_or (pt_cmp (pc_neI (pe_callB call_len_seq (by rfl) G.len PySem.boot_len (pa_cons (pv 0) pa_nil)) pe_int))
      (pw_or (pt_not (pt_val (pe_cl C1 hr (pa_cons (pe_ix ix_tup (pv 0) pe_int (fun _ _ => rfl)) pa_nil)))) (pw_or1 (pt_not (pt_val (pe_cl C2 hr (pa_cons (pe_ix ix_tup (pv 0) pe_int (fun _ _ => rfl)) pa_nil)))))))))
      (pss_one (ps_ret pe_bl)) pss_nil)
      (pss_one (ps_ret (pe_and (pe_cmpR (op_neD hr.units) (pe_ix ix_tup (pv 0) pe_int (fun _ _ => rfl)) (pe_tup pa_nil) (nomark _)) (pe_one (pe_cmpR (op_ninT (hu65 hr)) (pe_ix ix_tup (pv 0) pe_int (fun _ _ => rfl)) (pe_ix ix_tup (pv 0) pe_int (fun _ _ => rfl)) (by rfl)))))), ?_⟩
    refine ⟨_, rfl, isi_of (.base (.tup ha)) (b := true) (by decide +kernel) ⟨_, rfl, ifF rfl ?_⟩⟩
    refine ⟨_, rfl, a, _, rfl, .inr (SqT.of ha), _, _, rfl, rfl, ⟨_, rfl, ifF rfl ?_⟩⟩
    refine ⟨_, rfl, a, _, 0, _, rfl, rfl, SqT.of ha, atI_nat (j := 0) rfl, vt, t, rfl, ht, hg.t, fun H1 s1 => ⟨_, rfl, ifF rfl ?_⟩⟩
    refine ⟨_, rfl, a, _, 1, _, rfl, rfl, SqT.of (s1 _ _ ha), atI_nat (j := 1) rfl, vk, l, rfl, hk.mono (TK.of s1), hg.ss, hg.ne, hlen, hg.nn, fun H2 s2 => ⟨_, rfl, ifF rfl ?_⟩⟩
    have s12 : Same H H2 := Same.tr s1 s2
    refine ⟨_, rfl, a, _, 1, _, rfl, rfl, SqT.of (s12 _ _ ha), atI_nat (j := 1) rfl, Nat.zero_le _, fun p hp => ⟨nsD l, .tuple [], ?_, .tup (SqT.of upd_same) .nil, sh_ns l, by decide, _, rfl, ?_⟩⟩
    · exact (hk.mono (TK.of (Same.at_new s12 (by cases hH : H p with | none => rfl | some o => rw [s12 _ _ hH] at hp; cases hp)))).dp
    · have e0 : PyData.eqv (nsD l) (.tuple []) = false := by
        rw [show PyData.tuple [] = nsD [] from rfl, eqv_ns]
        exact decide_eq_false hg.ne
      rw [e0]
      have hp0 : H p = none := by cases hH : H p with | none => rfl | some o => rw [s12 _ _ hH] at hp; cases hp
      have s3 : Same H (upd H2 p (.tup [])) := Same.at_new s12 hp0
      refine ⟨_, rfl, a, _, 0, _, rfl, rfl, SqT.of (s3 _ _ ha), atI_nat (j := 0) rfl, _, rfl, a, _, 1, _, rfl, rfl, SqT.of (s3 _ _ ha), atI_nat (j := 1) rfl, thD t, l.map PyData.int, (ht.mono (TK.of s3)).dp, (hk.mono (TK.of s3)).dp, sh_th (goodT_low hg.t), sh_ns l, ?_⟩
      have e1 : thIn t l = false := by
        cases t with
        | key k => exact decide_eq_false (hg.own k rfl)
        | txt x n => rfl
      rw [any_th, e1]
      exact q _ s3
def spBoxes : Sp := fun vs H Q _ => ∃ v bs, vs = [v] ∧ bsV H v bs ∧ Goods bs ∧ bs.length ≤ sizeLine ∧ (∀ b, b ∈ bs → b.2.length ≤ sizeLine) ∧ ∀ H', Same H H' → Q (.bl true) H'
theorem sc13 : FnScope ["thing", "own"] ["thing"] (defScope (top 13)) := ⟨rfl, rfl, rfl, by decide +kernel, rfl, by decide +kernel, by decide +kernel⟩
theorem ok_boxes {f : Addr} {fd : FuncData} (F : Fun K "is_boxes" "is_boxes" (top 13) f fd) (G : Gb mg) (C : Cl1 P w K mg base 6 "is_box" spBox) : FnOk P w K mg base CX0 7 f fd ["thing"] spBoxes := by
  refine F.ok sc13 (fun vs H Q E h => ?_) (fun cdv A outer s H vs Q E hr h => ?_)
  · obtain ⟨v, b, rfl, _⟩ := h
    rfl
  · obtain ⟨v, bs, rfl, ⟨a, xs, rfl, ha, hp⟩, hg, hlen, hl2, q⟩ := h
    refine ⟨_, pss_one (ps_ret (pe_and (pe_isi G (pv 0) G.tuple b_tuple) (pe_one (pe_callB (cr_all rfl) (by rfl) G.all PyProof.Rows.boot_all (pa_cons (pe_lc (own := [("own", 1)]) (g := gName 1) (tt := tYes) rfl sc13.nd (pi_tup (pv 0))
      (blkOk_by (N := ["thing", "own"]) (sc := defScope (top 13)) (by decide +kernel)) (fun _ _ _ _ _ => pg_name (i := 1) sc13.nd rfl (Or.inl rfl)) (fun _ _ _ _ _ => pts_nil)
      (fun _ _ _ _ _ => pe_cl C hr (pa_cons (pv 1) pa_nil))) pa_nil))))), ?_⟩
    refine ⟨_, rfl, isi_of (.base (.tup ha)) (b := true) (by decide +kernel) ⟨_, rfl, ?_⟩⟩
    have hxl := paired_len hp
    refine ⟨_, rfl, a, rfl, ⟨_, SqT.of ha⟩, fun D hD => lc_gen (walk_tup (xs := xs)) hD RTrue (fun _ _ => rfl) (fun H1 sm => SqT.of (sm _ _ ha)) ?_ ?_⟩
    · rintro i y H1 H' acc hi sm hH hl r ⟨rfl, e⟩
      obtain ⟨b, hb, fb⟩ := paired_get hp e
      have hm := List.mem_of_getElem? hb
      refine ⟨rfl, _, rfl, y, b, rfl, fb.mono (TK.of sm), hg b hm, hl2 b hm, fun H2 s2 => ?_⟩
      exact PvL.tr hD (by omega) sm hH hl s2 r rfl
    · intro H' acc sm hH hl r
      exact all_true hH r (q H' sm)
end
end K13

namespace K13
open PySem PySem.Spec PyProof.Rows L2
theorem Same.no {H H1 : Hp} {p : Addr} (s : Same H H1) (h : H1 p = none) : H p = none := by
  cases q : H p with
  | none => rfl
  | some o => rw [s _ _ q] at h; cases h
/-! ### {x: True for x in ..}, x a thing -/
section
variable {J : It} {n : Nat} {G : Hp → Prop} {Y : Nat → Hp → V → Hp → Prop} {w : World} {vs : List Nat} {σ : L2.St} {H1 : Hp} {D : Addr} {Qd : Hp → Prop} {j : Nat}
def PvM (w : World) (H1 : Hp) (D : Addr) (ts : List Th) (i : Nat) (H : Hp) : Prop := Same H1 H ∧ ∃ L, H D = some (mdO w D L) ∧ InD H L ∧ L.length ≤ i ∧ (L.map (·.1)).Nodup ∧ ∀ t, t ∈ L.map (·.1) ↔ t ∈ ts.take i
theorem dc_gen (wk : Walk J n G Y) (hD : H1 D = none) (ts : List Th) (hl : ts.length = n) (hn : n < sizeLine) (hG : ∀ H, Same H1 H → G H) (hw : ∀ v, wipe ((wipe σ vs).set j (some v)) vs = wipe σ vs) (hget : ∀ v, ((wipe σ vs).set j (some v))[j]? = some (some v))
    (hx : ∀ i x H H', i < n → Same H1 H → Y i H x H' → H' = H ∧ ∃ t, ts[i]? = some t ∧ thV H x t)
    (hd : ∀ H L, Same H1 H → H D = some (mdO w D L) → InD H L → L.length ≤ n → (L.map (·.1)).Nodup → (∀ t, t ∈ L.map (·.1) ↔ t ∈ ts) → Qd H) :
    ∃ W : Nat → Nat → Hp → Prop, (∃ m, W 0 m (upd H1 D (mdO w D []))) ∧ ∀ i m H, W i m H → Trn w J (gName j) (tVar j) (tC (.bl true)) vs σ D Qd i m W H := by
  have hnil : ∀ H : Hp, InD H [] := fun H p hp => absurd hp (by simp)
  refine ⟨fun i m H => m = n - i ∧ i ≤ n ∧ PvM w H1 D ts i H, ⟨n, (Nat.sub_zero n).symm, Nat.zero_le _, Same.new hD, [], upd_same, hnil _, Nat.le_refl _, List.nodup_nil, fun t => by simp⟩, ?_⟩
  rintro i m H ⟨rfl, hi, sm, L, hL, hin, hll, hnd, hm⟩
  by_cases hlt : i < n
  · refine .inr ⟨wk.goes i H hlt (hG H sm), PvM w H1 D ts (i + 1), fun H' p' => ⟨n - (i + 1), by omega, rfl, hlt, p'⟩, fun x H' y => ?_⟩
    obtain ⟨rfl, t, ht, hv⟩ := hx i x H H' hlt sm (wk.yields i H x H' hlt (hG H sm) y)
    refine ⟨hw x, x, hget x, rfl, L, t, hv, hL, hin, by omega, Same.at_new sm hD, putM L t x, upd_same, ?_, ?_, putM_nd hnd, fun u => ?_⟩
    · exact (hin.put hv).mono (TK.put hL fun xs e => by cases e)
    · have := putM_len (L := L) (t := t) (v := x)
      omega
    · rw [putM_mem, List.take_add_one, ht, hm, List.mem_append]
      simp
  · have e : i = n := by omega
    subst e
    refine .inl ⟨wk.stops H (hG H sm), hd H L sm hL hin hll hnd fun t => ?_⟩
    rw [hm, List.take_of_length_le (by omega)]
end
/-! ### answers told by a list of bools -/
def RB (f : Nat → Bool) : Nat → List V → Hp → Prop := fun i acc _ => acc = ((List.range i).map f).map V.bl
theorem RB.step {f : Nat → Bool} {i : Nat} {acc : List V} {H H5 : Hp} (h : RB f i acc H) : RB f (i + 1) (acc ++ [.bl (f i)]) H5 := by
  have h : acc = ((List.range i).map f).map V.bl := h
  show acc ++ [V.bl (f i)] = _
  rw [h, List.range_succ, List.map_append, List.map_append]
  rfl
theorem PvL.trB {H1 H H4 : Hp} {D : Addr} {i : Nat} {acc : List V} {f : Nat → Bool} {b : Bool} (hD : H1 D = none) (hn : i < sizeLine) (sm : Same H1 H) (hH : H D = some (.lst acc)) (hl : acc.length ≤ i) (s4 : Same H H4) (r : RB f i acc H) (hb : b = f i) :
    ∃ acc, H4 D = some (.lst acc) ∧ acc.length < sizeLine ∧ PvL H1 D (RB f) (i + 1) (upd H4 D (.lst (acc ++ [.bl b]))) := by
  rw [hb]
  exact PvL.put hD hn sm hH hl s4 fun _ _ => r.step
theorem range_all {α : Type} (l : List α) (p : α → Bool) (f : Nat → Bool) (h : ∀ i (hi : i < l.length), f i = p l[i]) : ((List.range l.length).map f).all id = l.all p := by
  have e : (List.range l.length).map f = l.map p := by
    refine List.ext_getElem (by simp) fun i h1 h2 => ?_
    rw [List.getElem_map, List.getElem_map, List.getElem_range]
    exact h i (by simpa using h1)
  rw [e, List.all_map]
  rfl
end K13

namespace K13
open PySem PySem.Spec PyProof.Rows L2
structure Bok (bs : List Bx) : Prop where
  low : Lows bs
  ne : ∀ b, b ∈ bs → b.2 ≠ []
  len : bs.length ≤ 1000
  kl : ∀ b, b ∈ bs → b.2.length ≤ 1000
def satL (L : TL) (l : List Int) : Bool := l.all fun k => decide (Th.key k ∈ L.map (·.1))
theorem satL_iff {L : TL} {l : List Int} : satL L l = true ↔ ∀ k, k ∈ l → Th.key k ∈ L.map (·.1) := by
  unfold satL
  rw [List.all_eq_true]
  exact forall_congr' fun k => forall_congr' fun _ => decide_eq_true_iff
def rdy (L : TL) (r : List Bx) : List Th := (r.filter fun b => satL L b.2).map (·.1)
def rst (L : TL) (r : List Bx) : List Bx := r.filter fun b => !satL L b.2
theorem rdy_rst (L : TL) : ∀ r : List Bx, (rdy L r).length + (rst L r).length = r.length
  | [] => rfl
  | b :: r => by
    have ih := rdy_rst L r
    unfold rdy rst at ih ⊢
    rw [List.filter_cons, List.filter_cons]
    cases h : satL L b.2 with
    | true =>
      simp only [h, if_true, Bool.not_true, Bool.false_eq_true, if_false, List.map_cons, List.length_cons]
      omega
    | false =>
      simp only [h, Bool.false_eq_true, if_false, Bool.not_false, if_true, List.length_cons]
      omega
/-- between two rounds -/
structure HadI (ks : List Int) (bs : List Bx) (L : TL) (r : List Bx) : Prop where
  nd : (L.map (·.1)).Nodup
  sound : ∀ t, t ∈ L.map (·.1) → Cl ks bs t
  base : ∀ k, k ∈ ks → Th.key k ∈ L.map (·.1)
  sub : ∀ b, b ∈ r → b ∈ bs
  done : ∀ b, b ∈ bs → b ∈ r ∨ b.1 ∈ L.map (·.1)
  sz : L.length + r.length ≤ ks.length + bs.length
theorem HadI.end {ks : List Int} {bs : List Bx} {L : TL} {r : List Bx} (h : HadI ks bs L r) (e : rdy L r = []) (t : Th) : t ∈ L.map (·.1) ↔ Cl ks bs t := by
  refine ⟨h.sound t, fun c => ?_⟩
  induction c with
  | base hk => exact h.base _ hk
  | @step t ns hb a ih =>
    rcases h.done _ hb with q | q
    · exfalso
      have hs : satL L ns = true := satL_iff.mpr fun k hk => ih k hk
      have : t ∈ rdy L r := List.mem_map.mpr ⟨(t, ns), List.mem_filter.mpr ⟨q, hs⟩, rfl⟩
      rw [e] at this
      cases this
    · exact q
theorem HadI.next {ks : List Int} {bs : List Bx} {L M : TL} {r : List Bx} (h : HadI ks bs L r) (hM : ∀ t, t ∈ M.map (·.1) ↔ t ∈ rdy L r) (hl : M.length ≤ (rdy L r).length) : HadI ks bs (putAll L M) (rst L r) := by
  refine ⟨?_, fun t ht => ?_, fun k hk => putAll_mem.mpr (.inl (h.base k hk)), fun b hb => h.sub b (List.mem_filter.mp hb).1, fun b hb => ?_, ?_⟩
  · have : ∀ (M L : TL), (L.map (·.1)).Nodup → ((putAll L M).map (·.1)).Nodup := by
      intro M
      induction M with
      | nil => intro L h; exact h
      | cons p M ih => intro L h; exact ih (putM L p.1 p.2) (putM_nd h)
    exact this M L h.nd
  · rcases putAll_mem.mp ht with q | q
    · exact h.sound t q
    · obtain ⟨b, hb, rfl⟩ := List.mem_map.mp ((hM t).mp q)
      obtain ⟨h1, h2⟩ := List.mem_filter.mp hb
      exact .step (h.sub b h1) fun n hn => h.sound _ (satL_iff.mp h2 n hn)
  · rcases h.done b hb with q | q
    · cases hs : satL L b.2 with
      | true => exact .inr (putAll_mem.mpr (.inr ((hM b.1).mpr (List.mem_map.mpr ⟨b, List.mem_filter.mpr ⟨q, hs⟩, rfl⟩))))
      | false => exact .inl (List.mem_filter.mpr ⟨q, by rw [hs]; rfl⟩)
    · exact .inr (putAll_mem.mpr (.inl q))
  · have h1 := putAll_len (M := M) (L := L)
    have h2 := rdy_rst L r
    have h3 := h.sz
    omega
def spHad (w : World) : Sp := fun vs H Q _ => ∃ vk vb ks bs, vs = [vk, vb] ∧ nsV H vk ks ∧ bsV H vb bs ∧ Bok bs ∧ ks.length ≤ 1000 ∧
  ∀ d L H', Same H H' → H d = none → H' d = some (mdO w d L) → InD H' L → (L.map (·.1)).Nodup → L.length ≤ 2000 → (∀ t, t ∈ L.map (·.1) ↔ Cl ks bs t) → Q (.ref d) H'
section
variable {P : Program} {w : World} {K : PySem.W.Frag} {mg : Str → Option Value} {base : Heap}
abbrev N15 : List Str := ["keys", "boxes", "found", "left", "ready", "key", "own", "needs", "box"]
theorem sc15 : FnScope N15 ["keys", "boxes"] (defScope (top 15)) := ⟨rfl, rfl, rfl, by decide +kernel, rfl, by decide +kernel, by decide +kernel⟩
theorem ok_had {f : Addr} {fd : FuncData} (F : Fun K "had_by" "had_by" (top 15) f fd) (G : Gb mg) : FnOk P w K mg base CX0 1 f fd ["keys", "boxes"] (spHad w) := by
  refine F.ok sc15 (fun vs H Q E h => ?_) (fun cdv A outer s H vs Q E hr h => ?_)
  · obtain ⟨vk, vb, ks, bs, rfl, _⟩ := h
    rfl
  · obtain ⟨vk, vb, ks, bs, rfl, ⟨ak, rfl, hak⟩, ⟨ab, bvs, rfl, hab, hbp⟩, hB, hkl, q⟩ := h
    have nd := sc15.nd
    have hu := hu65 hr
    refine ⟨_, pss_cons (ps_set (i := 2) nd rfl (Or.inr rfl) (pe_dcM (own := [("key", 5)]) (g := gName 5) hu rfl nd (pi_tup (pv 0)) (blkOk_by (N := N15) (sc := defScope (top 15)) (by decide +kernel)) (fun _ _ _ _ _ => pg_name (i := 5) nd rfl (Or.inl rfl)) (fun _ _ _ _ _ => pv 5) (fun _ _ _ _ _ => pe_bl)))
      (pss_cons (ps_set (i := 3) nd rfl (Or.inl rfl) (pe_callTy call_list_of (by rfl) G.list PyProof.Rows.boot_list (pa_cons (pv 1) pa_nil)))
      (pss_one (ps_while PassesOwn.never (pt_val pe_bl)
        (pss_cons (ps_setLc (i := 4) (own := [("own", 6), ("needs", 7)]) (g := gTup K 2 (gCons (gName 6) (gCons (gName 7) gNil))) (tt := tB (tCB (rAll K) (tCons (tLc (iTup K (tVar 7)) (gName 5) tYes (tOp (rInM w) (tVar 5) (tVar 2)) [5]) tNil))) rfl nd rfl rfl (sw_true rfl rfl rfl (by decide +kernel)) (pi_list (pv 3)) (blkOk_by (N := N15) (sc := defScope (top 15)) (by decide +kernel))
          (fun _ _ _ _ _ => pg_tup rfl (pgs_cons (pg_name (i := 6) nd rfl (Or.inl rfl)) (pgs_cons (pg_name (i := 7) nd rfl (Or.inl rfl)) pgs_nil)))
          (fun _ _ _ _ _ => pts_one (pt_val (pe_callB (cr_all rfl) (by rfl) G.all PyProof.Rows.boot_all (pa_cons (pe_lc (own := [("key", 5)]) (g := gName 5) (tt := tYes) rfl nd (pi_tup (pv 7)) (blkOk_by (by rfl)) (fun _ _ _ _ _ => pg_name (i := 5) nd rfl (Or.inl rfl)) (fun _ _ _ _ _ => pts_nil)
            (fun _ _ _ _ _ => pe_cmpR (op_inM hu) (pv 5) (pv 2) (by rfl))) pa_nil)))) (fun _ _ _ _ _ => pv 6))
        (pss_cons (ps_if (pt_cmpR (op_eqD hr.units) (pv 4) (pe_lst pa_nil) (nomark _)) (pss_one (ps_ret (pv 2))) pss_nil)
        (pss_cons (ps_setLc (i := 3) (own := [("box", 8)]) (g := gName 8) (tt := tNot (tB (tCB (rAll K) (tCons (tLc (iTup K (tOp (rIxT K) (tVar 8) (tC (.int 1)))) (gName 5) tYes (tOp (rInM w) (tVar 5) (tVar 2)) [5]) tNil)))) rfl nd rfl rfl (sw_true rfl rfl rfl (by decide +kernel)) (pi_list (pv 3)) (blkOk_by (N := N15) (sc := defScope (top 15)) (by decide +kernel)) (fun _ _ _ _ _ => pg_name (i := 8) nd rfl (Or.inl rfl))
          (fun _ _ _ _ _ => pts_one (pt_not (pt_val (pe_callB (cr_all rfl) (by rfl) G.all PyProof.Rows.boot_all (pa_cons (pe_lc (own := [("key", 5)]) (g := gName 5) (tt := tYes) rfl nd (pi_tup (pe_ix ix_tup (pv 8) pe_int (fun _ _ => rfl))) (blkOk_by (by rfl)) (fun _ _ _ _ _ => pg_name (i := 5) nd rfl (Or.inl rfl)) (fun _ _ _ _ _ => pts_nil)
            (fun _ _ _ _ _ => pe_cmpR (op_inM hu) (pv 5) (pv 2) (by rfl))) pa_nil))))) (fun _ _ _ _ _ => pv 8))
        (pss_one (ps_expr (pe_updM hu (pv 2) (pe_dcM (own := [("own", 6)]) (g := gName 6) hu rfl nd (pi_list (pv 4)) (blkOk_by (N := N15) (sc := defScope (top 15)) (by decide +kernel)) (fun _ _ _ _ _ => pg_name (i := 6) nd rfl (Or.inl rfl)) (fun _ _ _ _ _ => pv 6) (fun _ _ _ _ _ => pe_bl)) ⟨by rfl, by rfl, by rfl, by rfl⟩))))))))), ?_⟩
    have h1k : 3000 < sizeLine := by decide
    have hbl := paired_len hbp
    refine ⟨_, rfl, ak, rfl, ⟨_, SqT.of hak⟩, fun d hd => dc_gen (walk_tup (xs := ks.map V.int)) hd (ks.map Th.key) (by simp) (by rw [List.length_map]; omega) (fun H1 s1 => SqT.of (s1 _ _ hak)) (fun _ => rfl) (fun _ => rfl) ?_ ?_⟩
    · rintro i x H1 H' hi s1 ⟨rfl, e⟩
      rw [List.length_map] at hi
      rw [List.getElem?_map, List.getElem?_eq_getElem hi] at e
      obtain rfl : V.int ks[i] = x := Option.some.inj e
      exact ⟨rfl, .key ks[i], by rw [List.getElem?_map, List.getElem?_eq_getElem hi]; rfl, rfl⟩
    intro H1 L1 s1 hL1 hin1 hl1 hnd1 hm1
    rw [List.length_map] at hl1
    refine ⟨_, rfl, ab, bvs, rfl, .inr (SqT.of (s1 _ _ hab)), fun lp0 hlp0 => ?_⟩
    have s1' : Same H (upd H1 lp0 (.lst bvs)) := Same.at_new s1 (Same.no s1 hlp0)
    have hd1 : (upd H1 lp0 (.lst bvs)) d = some (mdO w d L1) := by rw [upd_ne (ne_of_none hL1 hlp0)]; exact hL1
    refine ⟨fun m σ H' => ∃ L r lp rs rv, σ = [some (.ref ak), some (.ref ab), some (.ref d), some (.ref lp), rv, none, none, none, none] ∧ Same H H' ∧ H' d = some (mdO w d L) ∧ InD H' L ∧ H' lp = some (.lst rs) ∧ Paired (bxV H') rs r ∧ HadI ks bs L r ∧ m = r.length,
      ⟨bs.length, L1, bs, lp0, bvs, none, rfl, s1', hd1, hin1.mono (TK.new hlp0), upd_same, pMono (fun _ _ z => z.mono (TK.of s1')) hbp, ⟨hnd1, fun t ht => ?_, fun k hk => (hm1 _).mpr (List.mem_map.mpr ⟨k, hk, rfl⟩), fun b hb => hb, fun b hb => .inl hb, by omega⟩, rfl⟩, ?_⟩
    · obtain ⟨k, hk, rfl⟩ := List.mem_map.mp ((hm1 t).mp ht)
      exact .base hk
    rintro m σ H2 ⟨L, r, lp, rs, rv, rfl, s2, hL, hin, hlp, hrp, I, rfl⟩
    have hsz := I.sz
    have hbB := hB.len
    have hrl := paired_len hrp
    refine ⟨true, rfl, _, fun σ' H' h => h, ?_⟩
    -- ready
    refine ⟨_, rfl, lp, rfl, ⟨_, SqL.of hlp⟩, fun D hD => lc_gen (walk_list (xs := rs)) hD (fun i acc H' => Paired (thV H') acc (rdy L (r.take i))) (fun _ _ => .nil) (fun H3 s3 => SqL.of (s3 _ _ hlp)) ?_ ?_⟩
    · rintro i x H3 H3' acc hi s3 hH3 hl3 r3 ⟨rfl, e⟩
      obtain ⟨⟨t, l⟩, hb, fb⟩ := paired_get hrp e
      have hb' := I.sub _ (List.mem_of_getElem? hb)
      obtain ⟨ba, vt, vk, rfl, hba, ht, ⟨na, rfl, hna⟩⟩ := fb.mono (TK.of s3)
      have ht : thV H3' vt t := ht
      have hna : H3' na = some (.tup (l.map V.int)) := hna
      have hll : l.length ≤ 1000 := hB.kl _ hb'
      refine ⟨ba, _, rfl, SqT.of hba, rfl, vt, _, rfl, _, _, rfl, rfl, rfl, _, rfl, na, rfl, ⟨_, SqT.of hna⟩, fun D2 hD2 => lc_gen (walk_tup (xs := l.map V.int)) hD2 (RB fun j => decide (Th.key (l.getD j 0) ∈ L.map (·.1))) (fun _ _ => rfl) (fun H5 s5 => SqT.of (s5 _ _ hna)) ?_ ?_⟩
      · rintro j y H5 H5' acc2 hj s5 hH5 hl5 r5 ⟨rfl, e2⟩
        rw [List.length_map] at hj
        rw [List.getElem?_map, List.getElem?_eq_getElem hj] at e2
        obtain rfl : V.int l[j] = y := Option.some.inj e2
        refine ⟨rfl, _, rfl, _, rfl, .key l[j], d, L, rfl, rfl, s5 _ _ (s3 _ _ hL), (hin.mono (TK.of s3)).mono (TK.of s5), ?_⟩
        exact PvL.trB hD2 (by omega) s5 hH5 hl5 (Same.rf _) r5 (by rw [List.getD_eq_getElem?_getD, List.getElem?_eq_getElem hj]; rfl)
      · intro H5 acc2 s5 hH5 hl5 r5
        have r5 : acc2 = ((List.range (l.map V.int).length).map _).map V.bl := r5
        refine ⟨D2, _, rfl, .inl (.inl (by rw [hH5, r5])), _, rfl, ?_⟩
        rw [List.length_map, range_all l (fun k => decide (Th.key k ∈ L.map (·.1))) _ (fun j hj => by rw [List.getD_eq_getElem?_getD, List.getElem?_eq_getElem hj]; rfl)]
        have e3 : rdy L (r.take (i + 1)) = rdy L (r.take i) ++ (if satL L l = true then [t] else []) := by
          unfold rdy
          rw [List.take_add_one, hb, List.filter_append, List.map_append]
          congr 1
          show (List.filter _ [(t, l)]).map _ = _
          rw [List.filter_cons]
          split <;> rfl
        show if satL L l = true then _ else _
        refine ifB (fun hs => ?_) (fun hs => ?_)
        · rw [if_pos hs] at e3
          refine ⟨_, rfl, PvL.put hD (by omega) s3 hH3 hl3 s5 fun H7 k7 => ?_⟩
          rw [e3]
          exact paired_app (pMono (fun _ _ z => z.mono ((TK.of s5).trans k7)) r3) (.cons ((ht.mono (TK.of s5)).mono k7) .nil)
        · rw [hs, if_neg Bool.false_ne_true, List.append_nil] at e3
          refine PvL.skip s3 hH3 hl3 s5 ?_
          rw [e3]
          exact pMono (fun _ _ z => z.mono (TK.of s5)) r3
    intro H3 vr s3 hH3 hl3 r3
    rw [hrl, List.take_length] at r3
    have lows : ∀ t, t ∈ rdy L r → lowT t := fun t ht => by
      obtain ⟨b, hb, rfl⟩ := List.mem_map.mp ht
      exact hB.low b (I.sub b (List.mem_filter.mp hb).1)
    -- if ready == []
    refine ⟨_, rfl, Nat.zero_le _, fun e he => ⟨.list ((rdy L r).map thD), .list [], .lst (SqL.of (by rw [upd_ne (ne_of_none hH3 he)]; exact hH3)) (dp_all (fun v x z => (z.mono (TK.new he)).dp) r3), .lst (SqL.of upd_same) .nil, ?_, by decide, _, rfl, ?_⟩⟩
    · have g : PyData.depthAll ((rdy L r).map thD) ≤ 1 := dep_map fun x _ => dep_th x
      refine sh_of ?_ ?_
      · simp only [PyData.canLay0]
        exact lay_map fun x hx => lay_th (lows x hx)
      · simp only [PyData.depth]
        omega
    have e0 : PyData.eqv (.list ((rdy L r).map thD)) (.list []) = decide (rdy L r = []) := by
      have := eqv_map eqv_th (rdy L r) []
      rw [List.map_nil] at this
      simp only [PyData.eqv, this]
    rw [e0]
    have s3' : Same H2 (upd H3 e (.lst [])) := Same.at_new s3 (Same.no s3 he)
    have sH : Same H (upd H3 e (.lst [])) := Same.tr s2 s3'
    refine ifB (fun hc => ?_) (fun hc => ?_)
    · refine ⟨_, rfl, q d L _ sH hd (s3' _ _ hL) (hin.mono (TK.of s3')) I.nd (by omega) (I.end (of_decide_eq_true hc))⟩
    have hne : rdy L r ≠ [] := of_decide_eq_false hc
    -- left
    have hrp3 : Paired (bxV (upd H3 e (.lst []))) rs r := pMono (fun _ _ z => z.mono (TK.of s3')) hrp
    generalize hH4 : upd H3 e (.lst []) = H4 at s3' sH hrp3
    have hvr : H4 D = some (.lst vr) := by rw [← hH4, upd_ne (ne_of_none hH3 he)]; exact hH3
    have hvp : Paired (thV H4) vr (rdy L r) := pMono (fun _ _ z => z.mono (by rw [← hH4]; exact TK.new he)) r3
    refine ⟨_, rfl, lp, rfl, ⟨_, SqL.of (s3' _ _ hlp)⟩, fun D5 hD5 => lc_gen (walk_list (xs := rs)) hD5 (fun i acc H' => Paired (bxV H') acc (rst L (r.take i))) (fun _ _ => .nil) (fun H5 s5 => SqL.of (s5 _ _ (s3' _ _ hlp))) ?_ ?_⟩
    · rintro i x H5 H5' acc hi s5 hH5 hl5 r5 ⟨rfl, e1⟩
      obtain ⟨⟨t, l⟩, hb, fb⟩ := paired_get hrp3 e1
      have hb' := I.sub _ (List.mem_of_getElem? hb)
      have fb5 := fb.mono (TK.of s5)
      obtain ⟨ba, vt, vk, rfl, hba, ht, ⟨na, rfl, hna⟩⟩ := id fb5
      have hna : H5' na = some (.tup (l.map V.int)) := hna
      have hll : l.length ≤ 1000 := hB.kl _ hb'
      have hin5 : InD H5' L := (hin.mono (TK.of s3')).mono (TK.of s5)
      have hL5 : H5' d = some (mdO w d L) := s5 _ _ (s3' _ _ hL)
      refine ⟨rfl, _, rfl, ba, _, 1, _, rfl, rfl, SqT.of hba, atI_nat (j := 1) rfl, na, rfl, ⟨_, SqT.of hna⟩, fun D2 hD2 => lc_gen (walk_tup (xs := l.map V.int)) hD2 (RB fun j => decide (Th.key (l.getD j 0) ∈ L.map (·.1))) (fun _ _ => rfl) (fun H6 s6 => SqT.of (s6 _ _ hna)) ?_ ?_⟩
      · rintro j y H6 H6' acc2 hj s6 hH6 hl6 r6 ⟨rfl, e2⟩
        rw [List.length_map] at hj
        rw [List.getElem?_map, List.getElem?_eq_getElem hj] at e2
        obtain rfl : V.int l[j] = y := Option.some.inj e2
        refine ⟨rfl, _, rfl, _, rfl, .key l[j], d, L, rfl, rfl, s6 _ _ hL5, hin5.mono (TK.of s6), ?_⟩
        exact PvL.trB hD2 (by omega) s6 hH6 hl6 (Same.rf _) r6 (by rw [List.getD_eq_getElem?_getD, List.getElem?_eq_getElem hj]; rfl)
      · intro H6 acc2 s6 hH6 hl6 r6
        have r6 : acc2 = ((List.range (l.map V.int).length).map _).map V.bl := r6
        refine ⟨D2, _, rfl, .inl (.inl (by rw [hH6, r6])), _, rfl, ?_⟩
        rw [List.length_map, range_all l (fun k => decide (Th.key k ∈ L.map (·.1))) _ (fun j hj => by rw [List.getD_eq_getElem?_getD, List.getElem?_eq_getElem hj]; rfl)]
        have e3 : rst L (r.take (i + 1)) = rst L (r.take i) ++ (if (!satL L l) = true then [(t, l)] else []) := by
          unfold rst
          rw [List.take_add_one, hb, List.filter_append]
          congr 1
          show List.filter _ [(t, l)] = _
          rw [List.filter_cons]
          split <;> rfl
        show if (!satL L l) = true then _ else _
        refine ifB (fun hs => ?_) (fun hs => ?_)
        · rw [if_pos hs] at e3
          refine ⟨_, rfl, PvL.put hD5 (by omega) s5 hH5 hl5 s6 fun H7 k7 => ?_⟩
          rw [e3]
          exact paired_app (pMono (fun _ _ z => z.mono ((TK.of s6).trans k7)) r5) (.cons ((fb5.mono (TK.of s6)).mono k7) .nil)
        · rw [hs, if_neg Bool.false_ne_true, List.append_nil] at e3
          refine PvL.skip s5 hH5 hl5 s6 ?_
          rw [e3]
          exact pMono (fun _ _ z => z.mono (TK.of s6)) r5
    intro H5 vl s5 hH5 hl5 r5
    rw [hrl, List.take_length] at r5
    -- update
    have hvr5 := s5 _ _ hvr
    have hvl := paired_len hvp
    have hrdl := rdy_rst L r
    refine ⟨_, rfl, d, rfl, ⟨L, s5 _ _ (s3' _ _ hL)⟩, _, rfl, D, rfl, ⟨_, SqL.of hvr5⟩, fun d2 hd2 => dc_gen (walk_list (xs := vr)) hd2 (rdy L r) hvl.symm (by omega) (fun H6 s6 => SqL.of (s6 _ _ hvr5)) (fun _ => rfl) (fun _ => rfl) ?_ ?_⟩
    · rintro i x H6 H6' hi s6 ⟨rfl, e1⟩
      obtain ⟨t, ht, fv⟩ := paired_get hvp e1
      exact ⟨rfl, t, ht, (fv.mono (TK.of s5)).mono (TK.of s6)⟩
    intro H6 M s6 hM hinM hlM hndM hmM
    have hL6 : H6 d = some (mdO w d L) := s6 _ _ (s5 _ _ (s3' _ _ hL))
    have hdd : d ≠ d2 := ne_of_none (s5 _ _ (s3' _ _ hL)) hd2
    have hin6 : InD H6 L := ((hin.mono (TK.of s3')).mono (TK.of s5)).mono (TK.of s6)
    have hLne : L ≠ [] := by
      intro e1
      obtain ⟨t, ht⟩ := List.exists_mem_of_ne_nil _ hne
      obtain ⟨b, hb, rfl⟩ := List.mem_map.mp ht
      obtain ⟨h1, h2⟩ := List.mem_filter.mp hb
      obtain ⟨k, hk⟩ := List.exists_mem_of_ne_nil _ (hB.ne b (I.sub b h1))
      have := satL_iff.mp h2 k hk
      rw [e1] at this
      cases this
    have tk6 : TK H6 (upd H6 d (mdO w d (putAll L M))) := TK.put hL6 fun xs e => by cases e
    have hM2 : M.length ≤ (rdy L r).length := by omega
    refine ⟨d2, L, M, rfl, hL6, hM, hdd, hin6, hinM, hLne, by omega, (rst L r).length, ?_, putAll L M, rst L r, D5, vl, some (.ref D), rfl, ?_, upd_same, (putAll_in hin6 hinM).mono tk6, ?_, pMono (fun _ _ z => (z.mono (TK.of s6)).mono tk6) r5, I.next hmM hM2, rfl⟩
    · have : 0 < (rdy L r).length := List.length_pos_iff.mpr hne
      omega
    · exact Same.at_new (Same.tr sH (Same.tr s5 s6)) hd
    · have hDd : D5 ≠ d := fun z => by
        have h6 := s6 _ _ hH5
        rw [z, hL6] at h6
        cases h6
      rw [upd_ne hDd]
      exact s6 _ _ hH5
end
end K13

namespace K13
open PySem PySem.Spec PyProof.Rows L2
def keyO : Th → Option Int
  | .key k => some k
  | .txt _ _ => none
def txtO : Th → Option TX
  | .key _ => none
  | .txt x n => some (x, n)
def nums (ts : List Th) : List Int := ts.filterMap keyO
def txs (ts : List Th) : List TX := ts.filterMap txtO
theorem mem_nums {ts : List Th} {k : Int} : k ∈ nums ts ↔ Th.key k ∈ ts := by
  unfold nums
  rw [List.mem_filterMap]
  constructor
  · rintro ⟨t, ht, e⟩
    cases t with
    | key j => rw [← Option.some.inj (show some j = some k from e)]; exact ht
    | txt x n => cases e
  · intro h
    exact ⟨_, h, rfl⟩
theorem mem_txs {ts : List Th} {p : TX} : p ∈ txs ts ↔ Th.txt p.1 p.2 ∈ ts := by
  unfold txs
  rw [List.mem_filterMap]
  constructor
  · rintro ⟨t, ht, e⟩
    cases t with
    | key j => cases e
    | txt x n => rw [← Option.some.inj (show some (x, n) = some p from e)]; exact ht
  · intro h
    exact ⟨_, h, rfl⟩
theorem nd_nums : ∀ {ts : List Th}, ts.Nodup → (nums ts).Nodup
  | [], _ => List.nodup_nil
  | .key k :: ts, h => by
    obtain ⟨h1, h2⟩ := List.nodup_cons.mp h
    exact List.nodup_cons.mpr ⟨fun q => h1 (mem_nums.mp q), nd_nums h2⟩
  | .txt x n :: ts, h => (show (nums ts).Nodup from nd_nums (List.nodup_cons.mp h).2)
theorem nd_txs : ∀ {ts : List Th}, ts.Nodup → (txs ts).Nodup
  | [], _ => List.nodup_nil
  | .key k :: ts, h => (show (txs ts).Nodup from nd_txs (List.nodup_cons.mp h).2)
  | .txt x n :: ts, h => by
    obtain ⟨h1, h2⟩ := List.nodup_cons.mp h
    exact List.nodup_cons.mpr ⟨fun q => h1 (mem_txs.mp q), nd_txs h2⟩
theorem Same.unlock {H H' : Hp} {d : Addr} {o : Obj} {u : HO} (h : H d = some u) (s : Same (upd H d (.frz o u)) H') : Same H (upd H' d u) := fun b v e => by
  by_cases hb : b = d
  · rw [hb] at e ⊢
    rw [h] at e
    cases e
    exact upd_same
  · rw [upd_ne hb]
    exact s b v (by rw [upd_ne hb]; exact e)
theorem walk_m {w : World} {d : Addr} {o : Obj} {L : TL} : Walk (Itm w d o L) L.length (fun H => H d = some (.frz o (mdO w d L))) (fun i H x H' => H' = H ∧ ∃ t, L[i]? = some (t, x)) :=
  ⟨fun _ _ hi q => ⟨q, hi⟩, fun _ q => ⟨q, Nat.le_refl _⟩, fun _ _ _ _ _ _ y => y⟩
def spOpened : Sp := fun vs H Q _ => ∃ vk vb ks bs, vs = [vk, vb] ∧ nsV H vk ks ∧ bsV H vb bs ∧ Bok bs ∧ ks.length ≤ 1000 ∧ ∀ v ns ts H', Same H H' → prV H' v (ns, ts) → Opn ks bs ns ts → Q v H'
section
variable {P : Program} {w : World} {K : PySem.W.Frag} {mg : Str → Option Value} {base : Heap}
abbrev N16 : List Str := ["keys", "boxes", "found", "numbers", "texts", "own"]
theorem sc16 : FnScope N16 ["keys", "boxes"] (defScope (top 16)) := ⟨rfl, rfl, rfl, by decide +kernel, rfl, by decide +kernel, by decide +kernel⟩
theorem ok_opened {f : Addr} {fd : FuncData} (F : Fun K "opened" "opened" (top 16) f fd) (G : Gb mg) (C1 : Cl1 P w K mg base 1 "had_by" (spHad w)) (C2 : Cl1 P w K mg base 1 "is_integer" spInt) : FnOk P w K mg base CX0 2 f fd ["keys", "boxes"] spOpened := by
  refine F.ok sc16 (fun vs H Q E h => ?_) (fun cdv A outer s H vs Q E hr h => ?_)
  · obtain ⟨vk, vb, ks, bs, rfl, _⟩ := h
    rfl
  · obtain ⟨vk, vb, ks, bs, rfl, hk, hb, hB, hkl, q⟩ := h
    have nd := sc16.nd
    refine ⟨_, pss_cons (ps_set (i := 2) nd rfl (Or.inl rfl) (pe_cl C1 hr (pa_cons (pv 0) (pa_cons (pv 1) pa_nil))))
      (pss_cons (ps_lock (ps_setLc (i := 3) (own := [("own", 5)]) (g := gName 5) (tt := tB (tCl spInt (tCons (tVar 5) tNil))) rfl nd rfl rfl (sw_true rfl rfl rfl (by decide +kernel)) (pi_m (pv 2)) (blkOk_by (N := N16) (sc := defScope (top 16)) (by decide +kernel))
          (fun _ _ _ _ _ => pg_name (i := 5) nd rfl (Or.inl rfl)) (fun _ _ _ _ _ => pts_one (pt_val (pe_cl C2 hr (pa_cons (pv 5) pa_nil)))) (fun _ _ _ _ _ => pv 5)))
      (pss_cons (ps_lock (ps_setLc (i := 4) (own := [("own", 5)]) (g := gName 5) (tt := tNot (tB (tCl spInt (tCons (tVar 5) tNil)))) rfl nd rfl rfl (sw_true rfl rfl rfl (by decide +kernel)) (pi_m (pv 2)) (blkOk_by (N := N16) (sc := defScope (top 16)) (by decide +kernel))
          (fun _ _ _ _ _ => pg_name (i := 5) nd rfl (Or.inl rfl)) (fun _ _ _ _ _ => pts_one (pt_not (pt_val (pe_cl C2 hr (pa_cons (pv 5) pa_nil))))) (fun _ _ _ _ _ => pv 5)))
      (pss_one (ps_ret (pe_tup (pa_cons (pe_callTy call_tuple_of (by rfl) G.tuple PyProof.Rows.boot_tuple (pa_cons (pe_callB cr_sortedI (by rfl) G.sorted PyProof.Rows.boot_sorted (pa_cons (pv 3) pa_nil)) pa_nil))
        (pa_cons (pe_callTy call_tuple_of (by rfl) G.tuple PyProof.Rows.boot_tuple (pa_cons (pe_callB cr_sortedTx (by rfl) G.sorted PyProof.Rows.boot_sorted (pa_cons (pv 4) pa_nil)) pa_nil)) pa_nil))))))), ?_⟩
    refine ⟨_, rfl, _, rfl, vk, vb, ks, bs, rfl, hk, hb, hB, hkl, fun d L H1 s1 hd hL hin hnd hll hmem => ?_⟩
    have h3 : 3000 < sizeLine := by decide
    -- numbers
    refine ⟨d, _, hL, trivial, fun od => ?_⟩
    have tkL : TK H1 (upd H1 d (.frz od (mdO w d L))) := TK.put hL fun xs e => by cases e
    refine ⟨_, rfl, d, od, L, rfl, upd_same, fun D hD => lc_gen (walk_m (w := w) (d := d) (o := od) (L := L)) hD (fun i acc _ => acc = (nums ((L.take i).map (·.1))).map V.int) (fun _ _ => rfl) (fun H2 s2 => s2 _ _ upd_same) ?_ ?_⟩
    · rintro i x H2 H2' acc hi s2 hH2 hl2 r2 ⟨rfl, t, ht⟩
      have hv : thV H2' x t := ((hin _ (List.mem_of_getElem? ht)).mono tkL).mono (TK.of s2)
      refine ⟨rfl, _, rfl, x, t, rfl, hv, _, rfl, ?_⟩
      have r2 : acc = (nums ((L.take i).map (·.1))).map V.int := r2
      cases t with
      | key k =>
        have e : x = .int k := hv
        refine ⟨_, rfl, PvL.put hD (by omega) s2 hH2 hl2 (Same.rf _) fun H5 _ => ?_⟩
        show acc ++ [x] = _
        rw [List.take_add_one, ht, r2, e, List.map_append]
        unfold nums
        rw [List.filterMap_append, List.map_append]
        rfl
      | txt y n =>
        show if isKey (Th.txt y n) = true then _ else _
        refine ifF rfl (PvL.skip s2 hH2 hl2 (Same.rf _) ?_)
        show acc = _
        rw [List.take_add_one, ht, r2, List.map_append]
        unfold nums
        rw [List.filterMap_append]
        show _ = List.map V.int (_ ++ [])
        rw [List.append_nil]
    intro H2 vn s2 hH2 hl2 r2
    have r2 : vn = (nums ((L.take L.length).map (·.1))).map V.int := r2
    rw [List.take_length] at r2
    have hLf : H2 d = some (.frz od (mdO w d L)) := s2 _ _ upd_same
    refine ⟨hLf, ?_⟩
    have u2 : Same H1 (upd H2 d (mdO w d L)) := Same.unlock hL s2
    have hDd : D ≠ d := fun z => by rw [z, hLf] at hH2; cases hH2
    have hN : (upd H2 d (mdO w d L)) D = some (.lst ((nums (L.map (·.1))).map V.int)) := by rw [upd_ne hDd, hH2, r2]
    have hL2 : (upd H2 d (mdO w d L)) d = some (mdO w d L) := upd_same
    have hin2 : InD (upd H2 d (mdO w d L)) L := hin.mono (TK.of u2)
    generalize upd H2 d (mdO w d L) = H3 at u2 hN hL2 hin2
    -- texts
    refine ⟨d, _, hL2, trivial, fun od2 => ?_⟩
    have tkL2 : TK H3 (upd H3 d (.frz od2 (mdO w d L))) := TK.put hL2 fun xs e => by cases e
    refine ⟨_, rfl, d, od2, L, rfl, upd_same, fun D2 hD2 => lc_gen (walk_m (w := w) (d := d) (o := od2) (L := L)) hD2 (fun i acc H' => Paired (txV H') acc (txs ((L.take i).map (·.1)))) (fun _ _ => .nil) (fun H4 s4 => s4 _ _ upd_same) ?_ ?_⟩
    · rintro i x H4 H4' acc hi s4 hH4 hl4 r4 ⟨rfl, t, ht⟩
      have hv : thV H4' x t := ((hin2 _ (List.mem_of_getElem? ht)).mono tkL2).mono (TK.of s4)
      refine ⟨rfl, _, rfl, x, t, rfl, hv, _, rfl, ?_⟩
      cases t with
      | key k =>
        show if (!isKey (Th.key k)) = true then _ else _
        refine ifF rfl (PvL.skip s4 hH4 hl4 (Same.rf _) ?_)
        show Paired _ acc _
        rw [List.take_add_one, ht, List.map_append]
        unfold txs
        rw [List.filterMap_append]
        show Paired _ acc (_ ++ [])
        rw [List.append_nil]
        exact r4
      | txt y n =>
        refine ⟨_, rfl, PvL.put hD2 (by omega) s4 hH4 hl4 (Same.rf _) fun H5 k5 => ?_⟩
        show Paired _ (acc ++ [x]) _
        rw [List.take_add_one, ht, List.map_append]
        unfold txs
        rw [List.filterMap_append]
        have hx : txV H5 x (y, n) := by
          obtain ⟨a, e, ha⟩ := hv
          exact ⟨a, e, k5 _ _ ha⟩
        exact paired_app (pMono (fun _ _ z => z.mono k5) r4) (.cons hx .nil)
    intro H4 vt s4 hH4 hl4 r4
    rw [List.take_length] at r4
    have hLf2 : H4 d = some (.frz od2 (mdO w d L)) := s4 _ _ upd_same
    refine ⟨hLf2, ?_⟩
    have u4 : Same H3 (upd H4 d (mdO w d L)) := Same.unlock hL2 s4
    have hDd2 : D2 ≠ d := fun z => by rw [z, hLf2] at hH4; cases hH4
    have hT : (upd H4 d (mdO w d L)) D2 = some (.lst vt) := by rw [upd_ne hDd2, hH4]
    have tk4 : TK H4 (upd H4 d (mdO w d L)) := TK.put hLf2 fun xs e => by cases e
    have hTp : Paired (txV (upd H4 d (mdO w d L))) vt (txs (L.map (·.1))) := pMono (fun _ _ z => z.mono tk4) r4
    have hN4 := u4 _ _ hN
    have sH : Same H (upd H4 d (mdO w d L)) := Same.tr s1 (Same.tr u2 u4)
    generalize upd H4 d (mdO w d L) = H5 at hT hTp hN4 sH
    -- the pair
    refine ⟨_, rfl, D, _, rfl, SqL.of hN4, fun ns' p hpn hps hp => ?_⟩
    refine ⟨p, _, rfl, .inl ⟨SqL.of upd_same, fun l hl => ?_⟩⟩
    have s5 : Same H5 (upd (upd H5 p (.lst (ns'.map V.int))) l (.tup (ns'.map V.int))) := Same.at_new (Same.new hp) (Same.no (Same.new hp) hl)
    have hns : nsV (upd (upd H5 p (.lst (ns'.map V.int))) l (.tup (ns'.map V.int))) (.ref l) ns' := ⟨l, rfl, upd_same⟩
    generalize upd (upd H5 p (.lst (ns'.map V.int))) l (.tup (ns'.map V.int)) = H6 at s5 hns
    refine ⟨_, rfl, D2, vt, _, rfl, SqL.of (s5 _ _ hT), pMono (fun _ _ z => z.mono (TK.of s5)) hTp, fun ys ts' p2 hys htp hts hp2 => ?_⟩
    refine ⟨p2, _, rfl, .inl ⟨SqL.of upd_same, fun l2 hl2 => ?_⟩⟩
    have s6 : Same H6 (upd (upd H6 p2 (.lst ys)) l2 (.tup ys)) := Same.at_new (Same.new hp2) (Same.no (Same.new hp2) hl2)
    have hts2 : tsV (upd (upd H6 p2 (.lst ys)) l2 (.tup ys)) (.ref l2) ts' := ⟨l2, ys, rfl, upd_same, pMono (fun _ _ z => z.mono (TK.of s6)) hys⟩
    have hns2 := hns.mono (TK.of s6)
    generalize upd (upd H6 p2 (.lst ys)) l2 (.tup ys) = H7 at s6 hts2 hns2
    refine ⟨by show 2 ≤ sizeLine; decide, fun p7 hp7 => ?_⟩
    refine q (.ref p7) ns' ts' _ (Same.at_new (Same.tr sH (Same.tr s5 s6)) (Same.no (Same.tr sH (Same.tr s5 s6)) hp7)) ⟨p7, _, _, rfl, upd_same, hns2.mono (TK.new hp7), hts2.mono (TK.new hp7)⟩ ⟨?_, ?_, fun k => ?_, fun z => ?_⟩
    · have hndn : ns'.Nodup := hpn.nodup_iff.mpr (nd_nums hnd)
      exact List.Pairwise.imp₂ (R := fun a b => a ≤ b) (S := fun a b => a ≠ b) (fun a b h1 h2 => by omega) hps hndn
    · have hndt : ts'.Nodup := htp.nodup_iff.mpr (nd_txs hnd)
      exact List.Pairwise.imp₂ (R := fun a b => ltT b a = false) (S := fun a b => a ≠ b) (fun a b h1 h2 => by
        rw [← Bool.not_eq_false]
        exact fun h3 => h2 (ltT_total h3 h1)) hts hndt
    · rw [hpn.mem_iff, mem_nums, hmem]
    · rw [htp.mem_iff, mem_txs, hmem]
end
end K13

namespace K13
open PySem PySem.Spec PyProof.Rows L2
theorem putF_length (f : Str) (v : V) : ∀ fs : List (Str × V), (putF f v fs).length ≤ fs.length + 1
  | [] => Nat.le_refl _
  | (g, x) :: r => by
    show (if g = f then (g, v) :: r else (g, x) :: putF f v r).length ≤ _
    have := putF_length f v r
    split <;> simp only [List.length_cons] <;> omega
/-! ### __init__ -/
abbrev FG := V → List V → List (Str × V) → List (Str × V)
def spIn (C : Addr) (g : FG) : SpK := fun vs zs H Q => ∃ x vb dx fs, vs = [.ref x, vb] ∧ H x = some (.ins C dx fs) ∧ fs.length ≤ 900 ∧ ∀ H', H' x = some (.ins C dx (g vb zs fs)) → (∀ b o, H b = some o → b ≠ x → H' b = some o) → Q .non H'
def g0 : FG := fun vb _ fs => putF "packed" vb fs
structure Nos (K : PySem.W.Frag) (C : Addr) : Prop where
  cl : Cls K C
  packed : NoAttr K C "packed"
  left : NoAttr K C "left_out"
  shift : NoAttr K C "shift"
  seen : NoAttr K C "seen_key"
  extra : NoAttr K C "extra_key"
section
variable {P : Program} {w : World} {K : PySem.W.Frag} {mg : Str → Option Value} {base : Heap}
abbrev cI : Stmt := inClass (top 18) 0
theorem scI : FnScope ["self", "boxes"] ["self", "boxes"] (defScope cI) := ⟨rfl, rfl, rfl, by decide +kernel, rfl, by decide +kernel, by decide +kernel⟩
def spIn0 (C : Addr) : Sp := fun vs H Q _ => spIn C g0 vs [] H Q
theorem ok_initC {f C : Addr} {fd : FuncData} (F : Fun K "__init__" "Chest.__init__" cI f fd) (T : Nos K C) : FnOk P w K mg base CX0 1 f fd ["self", "boxes"] (spIn0 C) := by
  refine F.ok scI (fun vs H Q E h => ?_) (fun cdv A outer s H vs Q E hr h => ?_)
  · obtain ⟨x, vb, dx, fs, rfl, _⟩ := h
    rfl
  · obtain ⟨x, vb, dx, fs, rfl, hx, hl, q⟩ := h
    refine ⟨_, pss_one (ps_fld (pv 0) (pv 1) rfl), ?_⟩
    refine ⟨_, rfl, _, rfl, x, C, dx, _, rfl, hx, T.cl, T.packed, by omega, ?_⟩
    exact q _ upd_same fun b o e hb => by rw [upd_ne hb]; exact e
theorem kw_initC {f C : Addr} {fd : FuncData} (F : Fun K "__init__" "Chest.__init__" cI f fd) (b : Binds K fd ["self", "boxes"] []) (T : Nos K C) : FnKw P w K mg base 1 f [] (spIn C g0) :=
  kw_of_fn (ok_initC F T) b fun vs zs H Q h => h
/-! ### methods that capture __class__ -/
structure SupF (P : Program) (K : PySem.W.Frag) (mg : Str → Option Value) : Prop where
  ms : mg "super" = none
  top : (P.main.scope.names.lookup ("super" : Str)).isSome = false
  thr : PySem.W.nsIn K cStatics "thirdparty.any" = some none
structure FunK (P : Program) (K : PySem.W.Frag) (x qual : Str) (st : Stmt) (f cc cda D : Addr) : Prop where
  lk : ∃ (oc : Value) (od : Option Addr) (kV doc pm : Value) (an : Option Addr) (ct : Value) (osl : Array (Option Value)), K.lookup f = some ⟨oc, od, .func (PySem.W.ksFn x qual (defArgs st) (defBody st) (defScope st) .none kV doc pm an (.ref cda) ct cc), osl⟩
  cd : PySem.W.codeIn K (.ref cda) qual = true
  co : ∃ ccl cdd vs ccs file tf, K.lookup cda = some ⟨ccl, cdd, .fields vs, ccs⟩ ∧ vs[2]? = some (.str file tf) ∧ ((P.main.file : Str) == file) = true
  ce : ∃ cl0 cld csl, K.lookup cc = some ⟨cl0, cld, .cell (some (.ref D)), csl⟩
  cl : ∃ cdD, PySem.W.clsIn K D = some cdD
theorem FunK.sup {x qual : Str} {st : Stmt} {f cc cda D : Addr} {N : List Str} {A : Around} {outer : List Env} {s : Shared} {H : Hp} {ar : Arg} (F : FunK P K x qual st f cc cda D) (Z : SupF P K mg)
    (har : ((defArgs st).posonlyargs ++ (defArgs st).args).head? = some ar) (ha : ar.arg = ("self" : Str)) (ks : (envK qual (defScope st) s.heap.objs.size f (.ref cda) cc).kindOf "super" = some .globalImplicit) (kc : (envK qual (defScope st) s.heap.objs.size f (.ref cda) cc).kindOf "__class__" = some .free)
    (cel : (celK (defScope st) s.heap.objs.size cc).lookup ("__class__" : Str) = some cc) (slot : N[0]? = some ("self" : Str)) (vis : Vis (defScope st) "self") : Sup (cxK CX0 P w K mg base N qual (defScope st) f (.ref cda) cc A outer s H E0) f cc cda D 0 := by
  obtain ⟨oc, od, kV, doc, pm, an, ct, osl, lk⟩ := F.lk
  exact ⟨rfl, rfl, ks, kc, cel, Z.ms, ⟨_, _, _, _, ar, lk, har, ha⟩, F.co, Z.top, F.ce, F.cl, slot, vis, Z.thr⟩
theorem kw_keep {H : Hp} {d q a : Addr} {L : List (Str × V)} {g : Addr} {o : HO} {b : Addr} (hd : H d = none) (hq : (upd H d (kwO d L)) q = none) (e : H b = some o) : (upd (upd H d (kwO d L)) q (.met g a)) b = some o := by
  rw [upd_ne (ne_of_none (by rw [upd_ne (ne_of_none e hd)]; exact e) hq), upd_ne (ne_of_none e hd)]
  exact e
abbrev wI : Stmt := inClass (top 19) 0
abbrev NW : List Str := ["self", "boxes", "key", "more"]
theorem scW : ScK NW NW (defScope wI) := scK_by (by decide +kernel)
def gW (gn : FG) : FG := fun vb zs fs => putF "left_out" (zs.getD 0 .non) (gn vb [] fs)
theorem ok_initW {f cc cda D g C : Addr} {k : Nat} {gn : FG} (F : FunK P K "__init__" "Without.__init__" wI f cc cda D) (Z : SupF P K mg) (SA : SupAt K C D "__init__" g) (Nx : FnKw P w K mg base k g [] (spIn C gn)) (T : Nos K C) (hgn : ∀ vb zs fs, (gn vb zs fs).length ≤ fs.length + 10) :
    FnKw P w K mg base (k + 1) f ["key"] (spIn C (gW gn)) := by
  obtain ⟨oc, od, kV, doc, pm, an, ct, osl, lk⟩ := F.lk
  obtain ⟨cl0, cld, csl, lc⟩ := F.ce
  refine fn_kw (N := NW) (ps := NW) (xs := []) (ix := []) (iy := [0]) lk F.cd lc scW List.nodup_nil (fun vs zs H Q h => ?_) (fun zs h => ?_) (fun u0 u1 ws hl => ?_) (fun A outer s H vs zs Q d hr hl hd hsp => ?_)
  · obtain ⟨x, vb, dx, fs, rfl, _⟩ := h
    rfl
  · match zs, h with
    | [z], _ => rfl
  · match ws, hl with
    | [z], _ => rfl
  · obtain ⟨z, rfl⟩ : ∃ z, zs = [z] := by
      match zs, hl with
      | [z], _ => exact ⟨z, rfl⟩
    obtain ⟨x, vb, dx, fs, rfl, hx, hfl, q⟩ := hsp
    have U := F.sup (w := w) (base := base) (N := NW) (A := A) (outer := outer) (s := s) (H := upd H d (kwO d [])) Z rfl rfl rfl rfl rfl rfl (Or.inl rfl)
    refine ⟨_, psa_cons (psa_expr (pea_supKw (mo := "more") (j := 3) (xs := []) U SA Nx hr (pv 1) rfl (Or.inl rfl) List.nodup_nil (Nat.zero_le _))) (PSs.at (pss_one (ps_fld (pv 0) (pv 2) rfl))), ?_⟩
    refine ⟨x, dx, fs, rfl, by rw [upd_ne (ne_of_none hx hd)]; exact hx, fun p hp => ⟨vb, rfl, d, [], rfl, ?_, rfl, upd_same, x, vb, dx, fs, rfl, kw_keep hd hp hx, hfl, fun H' hH' kp => ?_⟩⟩
    · rw [upd_ne (ne_of_none upd_same hp)]
      exact upd_same
    · have hle := hgn vb [] fs
      refine ⟨z, rfl, _, rfl, x, C, dx, _, rfl, hH', T.cl, T.left, by omega, ?_⟩
      refine q _ upd_same fun b o e hb => ?_
      rw [upd_ne hb]
      exact kp b o (kw_keep hd hp e) hb
/-! ### Shifted.__init__ -/
abbrev sI : Stmt := inClass (top 20) 0
abbrev NS : List Str := ["self", "boxes", "by", "more"]
theorem scS : ScK NS NS (defScope sI) := scK_by (by decide +kernel)
/-- zs: what was given by keyword; i: the place of by; ix: those of the rest -/
def gS (gn : FG) (i : Nat) (ix : List Nat) : FG := fun vb zs fs => putF "shift" (zs.getD i .non) (gn vb (pick ix zs) fs)
theorem init_S {f cc cda D g C : Addr} {k : Nat} {gn : FG} {ks xs : List Str} {ix : List Nat} (F : FunK P K "__init__" "Shifted.__init__" sI f cc cda D) (Z : SupF P K mg) (SA : SupAt K C D "__init__" g) (Nx : FnKw P w K mg base k g xs (spIn C gn)) (T : Nos K C) (hgn : ∀ vb zs fs, (gn vb zs fs).length ≤ fs.length + 10)
    (hxs : xs.Nodup) (hxl : xs.length ≤ 100) (hby : ∀ (α : Type) (ws : List α), ws.length = ks.length → ∃ z, pick [0] ws = [z] ∧ ws[0]? = some z ∧ (pick ix ws).length = xs.length)
    (hb : ∀ (kV doc pm : Value) (an : Option Addr) (ct : Value) (u0 u1 : Value) (ws : List Value), ws.length = ks.length → bindArgs (PySem.W.ksFn "__init__" "Shifted.__init__" (defArgs sI) (defBody sI) (defScope sI) .none kV doc pm an (.ref cda) ct cc) ⟨[u0, u1], ks.zip ws⟩ = (do
      let d ← alloc { cls := .type "dict", data := .dict #[] }
      for kv in xs.zip (pick ix ws) do nsSet d kv.1 kv.2
      return NS.zip ([u0, u1] ++ pick [0] ws ++ [.ref d]))) :
    FnKw P w K mg base (k + 1) f ks (spIn C (gS gn 0 ix)) := by
  obtain ⟨oc, od, kV, doc, pm, an, ct, osl, lk⟩ := F.lk
  obtain ⟨cl0, cld, csl, lc⟩ := F.ce
  refine fn_kw (N := NS) (ps := NS) (xs := xs) (ix := ix) (iy := [0]) lk F.cd lc scS hxs (fun vs zs H Q h => ?_) (fun zs h => ?_) (hb _ _ _ _ _) (fun A outer s H vs zs Q d hr hl hd hsp => ?_)
  · obtain ⟨x, vb, dx, fs, rfl, _⟩ := h
    rfl
  · obtain ⟨z, e, _⟩ := hby V zs h
    rw [e]
    rfl
  · obtain ⟨z, e1, e2, e3⟩ := hby V zs hl
    obtain ⟨x, vb, dx, fs, rfl, hx, hfl, q⟩ := hsp
    have U := F.sup (w := w) (base := base) (N := NS) (A := A) (outer := outer) (s := s) (H := upd H d (kwO d (xs.zip (pick ix zs)))) Z rfl rfl rfl rfl rfl rfl (Or.inl rfl)
    refine ⟨_, psa_cons (psa_expr (pea_supKw (mo := "more") (j := 3) (xs := xs) U SA Nx hr (pv 1) rfl (Or.inl rfl) hxs hxl)) (PSs.at (pss_one (ps_fld (pv 0) (pv 2) rfl))), ?_⟩
    rw [e1]
    refine ⟨x, dx, fs, rfl, by rw [upd_ne (ne_of_none hx hd)]; exact hx, fun p hp => ⟨vb, rfl, d, pick ix zs, rfl, ?_, e3, upd_same, x, vb, dx, fs, rfl, kw_keep hd hp hx, hfl, fun H' hH' kp => ?_⟩⟩
    · rw [upd_ne (ne_of_none upd_same hp)]
      exact upd_same
    · have hle := hgn vb (pick ix zs) fs
      refine ⟨z, rfl, _, rfl, x, C, dx, _, rfl, hH', T.cl, T.shift, by omega, ?_⟩
      refine q _ ?_ fun b o e hb => ?_
      · rw [upd_same]
        unfold gS
        rw [List.getD_eq_getElem?_getD, e2]
        rfl
      · rw [upd_ne hb]
        exact kp b o (kw_keep hd hp e) hb
/-! ### Doubled.__init__ -/
abbrev dI : Stmt := inClass (top 21) 0
abbrev ND : List Str := ["self", "boxes", "key", "extra", "more"]
theorem scD : ScK ND ND (defScope dI) := scK_by (by decide +kernel)
def gD (gn : FG) (i j : Nat) (ix : List Nat) : FG := fun vb zs fs => putF "extra_key" (zs.getD j .non) (putF "seen_key" (zs.getD i .non) (gn vb (pick ix zs) fs))
theorem init_D {f cc cda D g C : Addr} {k : Nat} {gn : FG} {ks xs : List Str} {ix : List Nat} {i j : Nat} (F : FunK P K "__init__" "Doubled.__init__" dI f cc cda D) (Z : SupF P K mg) (SA : SupAt K C D "__init__" g) (Nx : FnKw P w K mg base k g xs (spIn C gn)) (T : Nos K C) (hgn : ∀ vb zs fs, (gn vb zs fs).length ≤ fs.length + 10)
    (hxs : xs.Nodup) (hxl : xs.length ≤ 100) (hby : ∀ (α : Type) (ws : List α), ws.length = ks.length → ∃ y z, pick [i, j] ws = [y, z] ∧ ws[i]? = some y ∧ ws[j]? = some z ∧ (pick ix ws).length = xs.length)
    (hb : ∀ (kV doc pm : Value) (an : Option Addr) (ct : Value) (u0 u1 : Value) (ws : List Value), ws.length = ks.length → bindArgs (PySem.W.ksFn "__init__" "Doubled.__init__" (defArgs dI) (defBody dI) (defScope dI) .none kV doc pm an (.ref cda) ct cc) ⟨[u0, u1], ks.zip ws⟩ = (do
      let d ← alloc { cls := .type "dict", data := .dict #[] }
      for kv in xs.zip (pick ix ws) do nsSet d kv.1 kv.2
      return ND.zip ([u0, u1] ++ pick [i, j] ws ++ [.ref d]))) :
    FnKw P w K mg base (k + 1) f ks (spIn C (gD gn i j ix)) := by
  obtain ⟨oc, od, kV, doc, pm, an, ct, osl, lk⟩ := F.lk
  obtain ⟨cl0, cld, csl, lc⟩ := F.ce
  refine fn_kw (N := ND) (ps := ND) (xs := xs) (ix := ix) (iy := [i, j]) lk F.cd lc scD hxs (fun vs zs H Q h => ?_) (fun zs h => ?_) (hb _ _ _ _ _) (fun A outer s H vs zs Q d hr hl hd hsp => ?_)
  · obtain ⟨x, vb, dx, fs, rfl, _⟩ := h
    rfl
  · obtain ⟨y, z, e, _⟩ := hby V zs h
    rw [e]
    rfl
  · obtain ⟨y, z, e1, e2, e2', e3⟩ := hby V zs hl
    obtain ⟨x, vb, dx, fs, rfl, hx, hfl, q⟩ := hsp
    have U := F.sup (w := w) (base := base) (N := ND) (A := A) (outer := outer) (s := s) (H := upd H d (kwO d (xs.zip (pick ix zs)))) Z rfl rfl rfl rfl rfl rfl (Or.inl rfl)
    refine ⟨_, psa_cons (psa_expr (pea_supKw (mo := "more") (j := 4) (xs := xs) U SA Nx hr (pv 1) rfl (Or.inl rfl) hxs hxl)) (PSs.at (pss_cons (ps_fld (pv 0) (pv 2) rfl) (pss_one (ps_fld (pv 0) (pv 3) rfl)))), ?_⟩
    rw [e1]
    refine ⟨x, dx, fs, rfl, by rw [upd_ne (ne_of_none hx hd)]; exact hx, fun p hp => ⟨vb, rfl, d, pick ix zs, rfl, ?_, e3, upd_same, x, vb, dx, fs, rfl, kw_keep hd hp hx, hfl, fun H' hH' kp => ?_⟩⟩
    · rw [upd_ne (ne_of_none upd_same hp)]
      exact upd_same
    · have hle := hgn vb (pick ix zs) fs
      have hle2 := putF_length "seen_key" y (gn vb (pick ix zs) fs)
      refine ⟨y, rfl, _, rfl, x, C, dx, _, rfl, hH', T.cl, T.seen, by omega, ?_⟩
      refine ⟨z, rfl, _, rfl, x, C, dx, _, rfl, upd_same, T.cl, T.extra, by omega, ?_⟩
      refine q _ ?_ fun b o e hb => ?_
      · rw [upd_same]
        unfold gD
        rw [List.getD_eq_getElem?_getD, List.getD_eq_getElem?_getD, e2, e2']
        rfl
      · rw [upd_ne hb, upd_ne hb]
        exact kp b o (kw_keep hd hp e) hb
/-! ### the shapes that the program uses -/
theorem g0_len (vb : V) (zs : List V) (fs : List (Str × V)) : (g0 vb zs fs).length ≤ fs.length + 10 := by have := putF_length "packed" vb fs; unfold g0; omega
theorem gS_len {gn : FG} {i : Nat} {ix : List Nat} (h : ∀ vb zs fs, (gn vb zs fs).length ≤ fs.length + 5) (vb : V) (zs : List V) (fs : List (Str × V)) : (gS gn i ix vb zs fs).length ≤ fs.length + 10 := by
  have h1 := h vb (pick ix zs) fs
  have h2 := putF_length "shift" (zs.getD i .non) (gn vb (pick ix zs) fs)
  unfold gS
  omega
theorem gD_len {gn : FG} {i j : Nat} {ix : List Nat} (h : ∀ vb zs fs, (gn vb zs fs).length ≤ fs.length + 5) (vb : V) (zs : List V) (fs : List (Str × V)) : (gD gn i j ix vb zs fs).length ≤ fs.length + 10 := by
  have h1 := h vb (pick ix zs) fs
  have h2 := putF_length "seen_key" (zs.getD i .non) (gn vb (pick ix zs) fs)
  have h3 := putF_length "extra_key" (zs.getD j .non) (putF "seen_key" (zs.getD i .non) (gn vb (pick ix zs) fs))
  unfold gD
  omega
theorem kw_S1 {f cc cda D g C : Addr} {k : Nat} {gn : FG} (F : FunK P K "__init__" "Shifted.__init__" sI f cc cda D) (Z : SupF P K mg) (SA : SupAt K C D "__init__" g) (Nx : FnKw P w K mg base k g [] (spIn C gn)) (T : Nos K C) (hgn : ∀ vb zs fs, (gn vb zs fs).length ≤ fs.length + 10) :
    FnKw P w K mg base (k + 1) f ["by"] (spIn C (gS gn 0 [])) :=
  init_S F Z SA Nx T hgn List.nodup_nil (by decide) (fun α ws h => match ws, h with | [z], _ => ⟨z, rfl, rfl, rfl⟩) fun kV doc pm an ct u0 u1 ws h => match ws, h with | [z], _ => rfl
theorem kw_S3 {f cc cda D g C : Addr} {k : Nat} {gn : FG} (F : FunK P K "__init__" "Shifted.__init__" sI f cc cda D) (Z : SupF P K mg) (SA : SupAt K C D "__init__" g) (Nx : FnKw P w K mg base k g ["key", "extra"] (spIn C gn)) (T : Nos K C) (hgn : ∀ vb zs fs, (gn vb zs fs).length ≤ fs.length + 10) :
    FnKw P w K mg base (k + 1) f ["by", "key", "extra"] (spIn C (gS gn 0 [1, 2])) :=
  init_S F Z SA Nx T hgn (by decide) (by decide) (fun α ws h => match ws, h with | [z, _, _], _ => ⟨z, rfl, rfl, rfl⟩) fun kV doc pm an ct u0 u1 ws h => match ws, h with | [z, _, _], _ => rfl
theorem kw_D2 {f cc cda D g C : Addr} {k : Nat} {gn : FG} (F : FunK P K "__init__" "Doubled.__init__" dI f cc cda D) (Z : SupF P K mg) (SA : SupAt K C D "__init__" g) (Nx : FnKw P w K mg base k g [] (spIn C gn)) (T : Nos K C) (hgn : ∀ vb zs fs, (gn vb zs fs).length ≤ fs.length + 10) :
    FnKw P w K mg base (k + 1) f ["key", "extra"] (spIn C (gD gn 0 1 [])) :=
  init_D F Z SA Nx T hgn List.nodup_nil (by decide) (fun α ws h => match ws, h with | [y, z], _ => ⟨y, z, rfl, rfl, rfl, rfl⟩) fun kV doc pm an ct u0 u1 ws h => match ws, h with | [y, z], _ => rfl
theorem kw_D3 {f cc cda D g C : Addr} {k : Nat} {gn : FG} (F : FunK P K "__init__" "Doubled.__init__" dI f cc cda D) (Z : SupF P K mg) (SA : SupAt K C D "__init__" g) (Nx : FnKw P w K mg base k g ["by"] (spIn C gn)) (T : Nos K C) (hgn : ∀ vb zs fs, (gn vb zs fs).length ≤ fs.length + 10) :
    FnKw P w K mg base (k + 1) f ["by", "key", "extra"] (spIn C (gD gn 1 2 [0])) :=
  init_D F Z SA Nx T hgn (by decide) (by decide) (fun α ws h => match ws, h with | [_, y, z], _ => ⟨y, z, rfl, rfl, rfl, rfl⟩) fun kV doc pm an ct u0 u1 ws h => match ws, h with | [_, y, z], _ => rfl
end
end K13

namespace K13
open PySem PySem.Spec PyProof.Rows L2
theorem PSAs.nox {X : Cx} {c : Code} {st : List Stmt} {t : TS} (h : PSAs X.nox c st t) : PSAs X c st t := ⟨fun pins s σ H D I hw =>
  PySem.wpAt_mono (h.run pins s σ H D (I.wish _) hw) (fun f s' q => q.unwish) fun e s' q => False.elim q⟩
theorem Sup.nox {X : Cx} {f cc cda D : Addr} {i : Nat} (U : Sup X f cc cda D i) : Sup X.nox f cc cda D i := ⟨U.fu, U.cod, U.ks, U.kc, U.cel, U.ms, U.lf, U.lcd, U.top, U.lc, U.lD, U.slot, U.vis, U.thr⟩
abbrev Gm := Addr → Hp → List Bx → Prop
/-- what a content() promises of an object of which Γ speaks -/
def spCo (Γ : Gm) : Sp := fun vs H Q _ => ∃ a bs, vs = [.ref a] ∧ Γ a H bs ∧ ∀ v H', Same H H' → bsV H' v bs → Q v H'
def GmM (Γ : Gm) : Prop := ∀ a H H' bs, Same H H' → Γ a H bs → Γ a H' bs
structure Sm (bs : List Bx) : Prop where
  low : Lows bs
  len : bs.length ≤ 1000
  kl : ∀ b, b ∈ bs → b.2.length ≤ 1000
def Γ0 (C : Addr) : Gm := fun a H bs => ∃ dx fs vb, H a = some (.ins C dx fs) ∧ fs.lookup ("packed" : Str) = some vb ∧ bsV H vb bs
def ΓW (C : Addr) (Γ : Gm) : Gm := fun a H bs => ∃ dx fs k bs0, H a = some (.ins C dx fs) ∧ fs.lookup ("left_out" : Str) = some (.int k) ∧ Γ a H bs0 ∧ Sm bs0 ∧ bs = without k bs0
def ΓS (C : Addr) (Γ : Gm) : Gm := fun a H bs => ∃ dx fs m bs0, H a = some (.ins C dx fs) ∧ fs.lookup ("shift" : Str) = some (.int m) ∧ Γ a H bs0 ∧ Sm bs0 ∧ bs = shift m bs0
def ΓD (C : Addr) (Γ : Gm) : Gm := fun a H bs => ∃ dx fs k e bs0, H a = some (.ins C dx fs) ∧ fs.lookup ("seen_key" : Str) = some (.int k) ∧ fs.lookup ("extra_key" : Str) = some (.int e) ∧ Γ a H bs0 ∧ Sm bs0 ∧ bs = double k e bs0
theorem mono0 (C : Addr) : GmM (Γ0 C) := fun a H H' bs s ⟨dx, fs, vb, h1, h2, h3⟩ => ⟨dx, fs, vb, s _ _ h1, h2, h3.mono (TK.of s)⟩
theorem monoW {C : Addr} {Γ : Gm} (h : GmM Γ) : GmM (ΓW C Γ) := fun a H H' bs s ⟨dx, fs, k, b0, h1, h2, h3, h4⟩ => ⟨dx, fs, k, b0, s _ _ h1, h2, h _ _ _ _ s h3, h4⟩
theorem monoS {C : Addr} {Γ : Gm} (h : GmM Γ) : GmM (ΓS C Γ) := fun a H H' bs s ⟨dx, fs, k, b0, h1, h2, h3, h4⟩ => ⟨dx, fs, k, b0, s _ _ h1, h2, h _ _ _ _ s h3, h4⟩
theorem monoD {C : Addr} {Γ : Gm} (h : GmM Γ) : GmM (ΓD C Γ) := fun a H H' bs s ⟨dx, fs, k, e, b0, h1, h2, h3, h4, h5⟩ => ⟨dx, fs, k, e, b0, s _ _ h1, h2, h3, h _ _ _ _ s h4, h5⟩
/-- a content() at g that keeps its promise -/
structure CoOk (P : Program) (w : World) (K : PySem.W.Frag) (mg : Str → Option Value) (base : Heap) (k : Nat) (g : Addr) (Γ : Gm) : Prop where
  ex : ∃ (fd : FuncData) (ps : List Str), FnOk P w K mg base CX0 k g fd ps (spCo Γ) ∧ Binds K fd ps []
section
variable {P : Program} {w : World} {K : PySem.W.Frag} {mg : Str → Option Value} {base : Heap}
/-! ### Chest.content -/
abbrev cC : Stmt := inClass (top 18) 1
theorem scC : FnScope ["self"] ["self"] (defScope cC) := ⟨rfl, rfl, rfl, by decide +kernel, rfl, by decide +kernel, by decide +kernel⟩
theorem co_C {f C : Addr} {fd : FuncData} (F : Fun K "content" "Chest.content" cC f fd) (b : Binds K fd ["self"] []) (T : Nos K C) : CoOk P w K mg base 1 f (Γ0 C) := by
  refine ⟨fd, ["self"], F.ok scC (fun vs H Q E h => ?_) (fun cdv A outer s H vs Q E hr h => ?_), b⟩
  · obtain ⟨a, bs, rfl, _⟩ := h
    rfl
  · obtain ⟨a, bs, rfl, ⟨dx, fs, vb, h1, h2, h3⟩, q⟩ := h
    exact ⟨_, pss_one (ps_ret (pe_fld (pv 0) rfl)), _, rfl, a, C, dx, _, _, rfl, h1, T.cl, T.packed, h2, q _ _ (Same.rf H) h3⟩
/-! ### Without.content -/
abbrev wC : Stmt := inClass (top 19) 1
abbrev NWc : List Str := ["self", "found", "box"]
theorem scWc : ScK NWc ["self"] (defScope wC) := scK_by (by decide +kernel)
theorem binds1 {x qual : Str} {st : Stmt} {f cc cda D : Addr} (F : FunK P K x qual st f cc cda D) (h : ∀ (kV doc pm : Value) (an : Option Addr) (ct : Value) (u : Value), bindArgs (PySem.W.ksFn x qual (defArgs st) (defBody st) (defScope st) .none kV doc pm an (.ref cda) ct cc) ⟨[u], []⟩ = pure [(("self" : Str), u)])
    {kV doc pm : Value} {an : Option Addr} {ct : Value} : Binds K (PySem.W.ksFn x qual (defArgs st) (defBody st) (defScope st) .none kV doc pm an (.ref cda) ct cc) ["self"] [] := .all fun us hl => match us, hl with | [u], _ => h kV doc pm an ct u
theorem co_W {f cc cda D g C : Addr} {k : Nat} {Γ : Gm} (G : Gb mg) (F : FunK P K "content" "Without.content" wC f cc cda D) (Z : SupF P K mg) (SA : SupAt K C D "content" g) (Nx : CoOk P w K mg base k g Γ) (hΓ : GmM Γ) (T : Nos K C) : CoOk P w K mg base (k + 1) f (ΓW C Γ) := by
  obtain ⟨oc, od, kV, doc, pm, an, ct, osl, lk⟩ := F.lk
  obtain ⟨cl0, cld, csl, lc⟩ := F.ce
  obtain ⟨fdg, psg, Fg, bg⟩ := Nx.ex
  refine ⟨_, ["self"], fn_ofK (N := NWc) lk F.cd lc scWc (fun vs H Q E h => ?_) (fun A outer s H vs Q E hr h => ?_), binds1 F (fun _ _ _ _ _ _ => rfl)⟩
  · obtain ⟨a, bs, rfl, _⟩ := h
    rfl
  · obtain ⟨a, bs, rfl, ⟨dx, fs, k, bs0, hx, hk, hg, hs, rfl⟩, q⟩ := h
    have U := F.sup (w := w) (base := base) (N := NWc) (A := A) (outer := outer) (s := s) (H := H) Z rfl rfl rfl rfl rfl rfl (Or.inr (Or.inl rfl))
    refine ⟨_, PSAs.nox (psa_cons (psa_set (i := 1) scWc.nd rfl (Or.inl rfl) (pea_sup0 (pl := _) U.nox SA Fg hr bg pass0))
      (PSs.at (pss_one (ps_ret (pe_callTy call_tuple_of (by rfl) G.tuple PyProof.Rows.boot_tuple (pa_cons (pe_lc (own := [("box", 2)]) (g := gName 2) (tt := tAnd (tTest (tOp (rNeD K) (tOp (rIxT K) (tVar 2) (tC (.int 0))) (tFld K (tVar 0) "left_out"))) (tTest (tOp (rNinT K) (tFld K (tVar 0) "left_out") (tOp (rIxT K) (tVar 2) (tC (.int 1)))))) rfl scWc.nd (pi_tup (pv 1))
        (blkOk_by (N := NWc) (sc := defScope wC) (by decide +kernel)) (fun _ _ _ _ _ => pg_name (i := 2) scWc.nd rfl (Or.inl rfl))
        (fun _ _ _ _ _ => pts_one (PW.pt (pw_and (pt_cmpR (op_neD hr.units) (pe_ix ix_tup (pv 2) pe_int (fun _ _ => rfl)) (pe_fld (pv 0) rfl) (nomark _)) (pw_and1 (pt_cmpR (op_ninT (hu65 hr)) (pe_fld (pv 0) rfl) (pe_ix ix_tup (pv 2) pe_int (fun _ _ => rfl)) (by rfl))))))
        (fun _ _ _ _ _ => pv 2)) pa_nil)))))), ?_⟩
    refine ⟨a, dx, fs, rfl, hx, fun p hp => ?_⟩
    have s1 : Same H (upd H p (.met g a)) := Same.new hp
    refine ⟨a, bs0, rfl, hΓ _ _ _ _ s1 hg, fun v H2 s2 hv => ?_⟩
    have s2' : Same H H2 := Same.tr s1 s2
    obtain ⟨lp, vs, rfl, hlp, hpr⟩ := hv
    have hvl := paired_len hpr
    have h3 : 3000 < sizeLine := by decide
    have hsl := hs.len
    refine ⟨_, rfl, lp, rfl, ⟨_, SqT.of hlp⟩, fun D1 hD => lc_gen (walk_tup (xs := vs)) hD (fun i acc H' => Paired (bxV H') acc ((bs0.take i).filter (keepB k))) (fun _ _ => .nil) (fun H3 s3 => SqT.of (s3 _ _ hlp)) ?_ ?_⟩
    · rintro i x H3 H3' acc hi s3 hH3 hl3 r3 ⟨rfl, e⟩
      obtain ⟨⟨t, l⟩, hb, fb⟩ := paired_get hpr e
      have hm := List.mem_of_getElem? hb
      have fb3 := fb.mono (TK.of s3)
      obtain ⟨ba, vt, vk, rfl, hba, ht, hn⟩ := id fb3
      have ht : thV H3' vt t := ht
      have hn : nsV H3' vk l := hn
      have hx3 : H3' a = some (.ins C dx fs) := s3 _ _ (s2' _ _ hx)
      have lowt : lowT t := hs.low _ hm
      refine ⟨rfl, _, rfl, ba, _, 0, _, rfl, rfl, SqT.of hba, atI_nat (j := 0) rfl, _, rfl, a, C, dx, fs, _, rfl, hx3, T.cl, T.left, hk, thD t, thD (.key k), ht.dp, .int k, sh_th lowt, sh_th (t := .key k) trivial, _, rfl, ?_⟩
      rw [eqv_th]
      have e3 : (bs0.take (i + 1)).filter (keepB k) = (bs0.take i).filter (keepB k) ++ (if keepB k (t, l) = true then [(t, l)] else []) := by
        rw [List.take_add_one, hb, List.filter_append]
        congr 1
        show List.filter _ [(t, l)] = _
        rw [List.filter_cons]
        split <;> rfl
      have ek : keepB k (t, l) = (!decide (t = .key k) && !decide (k ∈ l)) := by
        unfold keepB
        simp only [ne_eq, decide_not]
      refine ifB (fun h1 => ?_) (fun h1 => ?_)
      · refine ⟨_, rfl, a, C, dx, fs, _, rfl, hx3, T.cl, T.left, hk, _, rfl, ba, _, 1, _, rfl, rfl, SqT.of hba, atI_nat (j := 1) rfl, thD (.key k), l.map PyData.int, .int k, hn.dp, sh_th (t := .key k) trivial, sh_ns l, _, rfl, ?_⟩
        rw [any_th]
        show if (!decide (k ∈ l)) = true then _ else _
        refine ifB (fun h2 => ?_) (fun h2 => ?_)
        · rw [ek, h1, h2, if_pos (by decide)] at e3
          refine ⟨_, rfl, PvL.put hD (by omega) s3 hH3 hl3 (Same.rf _) fun H7 k7 => ?_⟩
          rw [e3]
          exact paired_app (pMono (fun _ _ z => z.mono k7) r3) (.cons (fb3.mono k7) .nil)
        · rw [ek, h1, h2, if_neg (by decide), List.append_nil] at e3
          refine PvL.skip s3 hH3 hl3 (Same.rf _) ?_
          rw [e3]
          exact r3
      · rw [ek, h1, if_neg (by simp), List.append_nil] at e3
        show if false = true then _ else _
        refine ifF rfl (PvL.skip s3 hH3 hl3 (Same.rf _) ?_)
        rw [e3]
        exact r3
    intro H3 acc s3 hH3 hl3 r3
    rw [hvl, List.take_length] at r3
    refine ⟨D1, acc, rfl, .inl ⟨SqL.of hH3, fun l hl => ?_⟩⟩
    have s4 : Same H2 (upd H3 l (.tup acc)) := Same.at_new s3 (Same.no s3 hl)
    exact q _ _ (Same.tr s2' s4) ⟨l, acc, rfl, upd_same, pMono (fun _ _ z => z.mono (TK.new hl)) r3⟩
end
end K13

namespace K13
open PySem PySem.Spec PyProof.Rows L2
section
variable {P : Program} {w : World} {K : PySem.W.Frag} {mg : Str → Option Value} {base : Heap}
/-! ### Shifted.content -/
abbrev sC : Stmt := inClass (top 20) 1
abbrev NSc : List Str := ["self", "found", "own", "keys", "moved", "key"]
theorem scSc : ScK NSc ["self"] (defScope sC) := scK_by (by decide +kernel)
theorem co_S {f cc cda D g C : Addr} {k : Nat} {Γ : Gm} (G : Gb mg) (F : FunK P K "content" "Shifted.content" sC f cc cda D) (Z : SupF P K mg) (SA : SupAt K C D "content" g) (Nx : CoOk P w K mg base k g Γ) (hΓ : GmM Γ) (T : Nos K C) : CoOk P w K mg base (k + 1) f (ΓS C Γ) := by
  obtain ⟨oc, od, kV, doc, pm, an, ct, osl, lk⟩ := F.lk
  obtain ⟨cl0, cld, csl, lc⟩ := F.ce
  obtain ⟨fdg, psg, Fg, bg⟩ := Nx.ex
  refine ⟨_, ["self"], fn_ofK (N := NSc) lk F.cd lc scSc (fun vs H Q E h => ?_) (fun A outer s H vs Q E hr h => ?_), binds1 F (fun _ _ _ _ _ _ => rfl)⟩
  · obtain ⟨a, bs, rfl, _⟩ := h
    rfl
  · obtain ⟨a, bs, rfl, ⟨dx, fs, m, bs0, hx, hk, hg, hs, rfl⟩, q⟩ := h
    have U := F.sup (w := w) (base := base) (N := NSc) (A := A) (outer := outer) (s := s) (H := H) Z rfl rfl rfl rfl rfl rfl (Or.inr (Or.inl rfl))
    have nd := scSc.nd
    refine ⟨_, PSAs.nox (psa_cons (PS.at (ps_set (i := 1) nd rfl (Or.inl rfl) (pe_lst pa_nil)))
      (psa_cons (psa_forT PassesOwn.never rfl (pea_sup0 (pl := _) U.nox SA Fg hr bg pass0) (pg_tup rfl (pgs_cons (pg_name (i := 2) nd rfl (Or.inl rfl)) (pgs_cons (pg_name (i := 3) nd rfl (Or.inl rfl)) pgs_nil)))
        (pss_cons (ps_set (i := 4) nd rfl (Or.inl rfl) (pe_ifExp (pt_val (pe_isi G (pv 2) G.int b_int)) (pe_op op_add (pv 2) (pe_fld (pv 0) rfl)) (pv 2)))
        (pss_one (ps_expr (pe_bm PySem.F.plainAttrs_list PySem.F.slot_list_append PySem.F.type_list_append mt_append (pv 1) (pa_cons (pe_tup (pa_cons (pv 4) (pa_cons (pe_callTy call_tuple_of (by rfl) G.tuple PyProof.Rows.boot_tuple
          (pa_cons (pe_lc (own := [("key", 5)]) (g := gName 5) (tt := tYes) (te := tOp (rI0 fun i j => .int (i + j)) (tVar 5) (tFld K (tVar 0) "shift")) rfl nd (pi_tup (pv 3)) (blkOk_by (N := NSc) (sc := defScope sC) (by decide +kernel)) (fun _ _ _ _ _ => pg_name (i := 5) nd rfl (Or.inl rfl)) (fun _ _ _ _ _ => pts_nil)
            (fun _ _ _ _ _ => pe_op op_add (pv 5) (pe_fld (pv 0) rfl))) pa_nil)) pa_nil))) pa_nil))))))
      (PSs.at (pss_one (ps_ret (pe_callTy call_tuple_of (by rfl) G.tuple PyProof.Rows.boot_tuple (pa_cons (pv 1) pa_nil))))))), ?_⟩
    have h3 : 3000 < sizeLine := by decide
    have hsl := hs.len
    refine ⟨Nat.zero_le _, fun fl hfl => ?_⟩
    have sA : Same H (upd H fl (.lst [])) := Same.new hfl
    refine ⟨a, dx, fs, rfl, sA _ _ hx, fun p hp => ?_⟩
    have sB : Same H (upd (upd H fl (.lst [])) p (.met g a)) := Same.tr sA (Same.new hp)
    have hflB : (upd (upd H fl (.lst [])) p (.met g a)) fl = some (.lst []) := by rw [upd_ne (ne_of_none upd_same hp)]; exact upd_same
    refine ⟨a, bs0, rfl, hΓ _ _ _ _ sB hg, fun v H2 s2 hv => ?_⟩
    have sC2 : Same H H2 := Same.tr sB s2
    obtain ⟨lp, vs, rfl, hlp, hpr⟩ := hv
    have hvl := paired_len hpr
    refine ⟨lp, vs, rfl, SqT.of hlp, for_it (walk_tup (xs := vs)) (fun i σ H' => ∃ acc o2 o3 o4, σ = [some (.ref a), some (.ref fl), o2, o3, o4, none] ∧ Same H H' ∧ TK H2 H' ∧ H' fl = some (.lst acc) ∧ acc.length ≤ i ∧ Paired (bxV H') acc ((bs0.take i).map (shB m)))
      ⟨[], none, none, none, rfl, sC2, TK.refl _, s2 _ _ hflB, Nat.le_refl _, .nil⟩ (fun i σ H' _ ⟨_, _, _, _, _, _, tk, _⟩ => SqT.of (tk _ _ hlp)) ?_ ?_⟩
    · rintro i x σ H3 H3' hi ⟨acc, o2, o3, o4, rfl, s3, tk3, hfl3, hl3, r3⟩ ⟨rfl, e⟩
      obtain ⟨⟨t, l⟩, hb, fb⟩ := paired_get hpr e
      have hm := List.mem_of_getElem? hb
      obtain ⟨ba, vt, vk, rfl, hba, ht, ⟨na, rfl, hna⟩⟩ := fb.mono tk3
      have ht : thV H3' vt t := ht
      have hna : H3' na = some (.tup (l.map V.int)) := hna
      have hll : l.length ≤ 1000 := hs.kl _ hm
      have hx3 : H3' a = some (.ins C dx fs) := s3 _ _ hx
      cases t with
      | key k =>
        have e1 : vt = .int k := ht
        subst e1
        have hvt : thV H3' (.int (k + m)) (shT m (.key k)) := rfl
        refine ⟨ba, _, rfl, SqT.of hba, rfl, _, _, rfl, _, _, rfl, rfl, ?_⟩
        refine ⟨_, rfl, isi_of (.base (.int k)) (b := true) (by decide +kernel) ⟨_, rfl, ?_⟩⟩
        refine ⟨_, rfl, _, rfl, a, C, dx, fs, _, rfl, hx3, T.cl, T.shift, hk, _, _, rfl, rfl, ?_⟩
        refine ⟨_, rfl, .inl ⟨rfl, _, SqL.of hfl3⟩, _, rfl, _, rfl, na, rfl, ⟨_, SqT.of hna⟩, fun D1 hD => lc_gen (walk_tup (xs := l.map V.int)) hD (fun j acc2 _ => acc2 = ((l.take j).map (· + m)).map V.int) (fun _ _ => rfl) (fun H4 s4 => SqT.of (s4 _ _ hna)) ?_ ?_⟩
        · rintro j y H4 H4' acc2 hj s4 hH4 hl4 r4 ⟨rfl, e2⟩
          rw [List.length_map] at hj
          rw [List.getElem?_map, List.getElem?_eq_getElem hj] at e2
          obtain rfl : V.int l[j] = y := Option.some.inj e2
          have r4 : acc2 = ((l.take j).map (· + m)).map V.int := r4
          refine ⟨rfl, _, rfl, _, rfl, a, C, dx, fs, _, rfl, s4 _ _ hx3, T.cl, T.shift, hk, _, _, rfl, rfl, PvL.put hD (by omega) s4 hH4 hl4 (Same.rf _) fun H5 _ => ?_⟩
          show acc2 ++ [V.int (l[j] + m)] = _
          rw [List.take_add_one, List.getElem?_eq_getElem hj, r4, List.map_append, List.map_append]
          rfl
        intro H4 acc2 s4 hH4 hl4 r4
        have r4 : acc2 = ((l.take (l.map V.int).length).map (· + m)).map V.int := r4
        rw [List.length_map, List.take_length] at r4
        refine ⟨D1, acc2, rfl, .inl ⟨SqL.of hH4, fun l2 hl2 => ⟨by show 2 ≤ sizeLine; decide, fun p2 hp2 => ?_⟩⟩⟩
        have s5 : Same H3' (upd H4 l2 (.tup acc2)) := Same.at_new s4 (Same.no s4 hl2)
        have s6 : Same H3' (upd (upd H4 l2 (.tup acc2)) p2 (.tup [.int (k + m), .ref l2])) := Same.at_new s5 (Same.no s5 hp2)
        have hfl6 := s6 _ _ hfl3
        have hl2' : (upd (upd H4 l2 (.tup acc2)) p2 (.tup [.int (k + m), .ref l2])) l2 = some (.tup acc2) := by rw [upd_ne (ne_of_none upd_same hp2)]; exact upd_same
        refine ⟨fl, acc, _, rfl, rfl, hfl6, by omega, acc ++ [.ref p2], _, _, _, rfl, Same.at_new (Same.tr s3 s6) hfl, (tk3.trans (TK.of s6)).trans (TK.put hfl6 fun xs e => by cases e), upd_same, by rw [List.length_append]; simp; omega, ?_⟩
        rw [List.take_add_one, hb, List.map_append]
        have tk6 : TK (upd (upd H4 l2 (.tup acc2)) p2 (.tup [.int (k + m), .ref l2])) (upd (upd (upd H4 l2 (.tup acc2)) p2 (.tup [.int (k + m), .ref l2])) fl (.lst (acc ++ [.ref p2]))) := TK.put hfl6 fun xs e => by cases e
        refine paired_app (pMono (fun _ _ z => (z.mono (TK.of s6)).mono tk6) r3) (.cons ?_ .nil)
        refine ⟨p2, .int (k + m), .ref l2, rfl, tk6 _ _ upd_same, ?_, ⟨l2, rfl, tk6 _ _ ?_⟩⟩
        · exact (hvt.mono (TK.of s6)).mono tk6
        · rw [hl2', r4]
          rfl

      | txt y n =>
        have hvt : thV H3' vt (shT m (.txt y n)) := ht
        refine ⟨ba, _, rfl, SqT.of hba, rfl, _, _, rfl, _, _, rfl, rfl, ?_⟩
        refine ⟨_, rfl, isi_of (ty_tx ht) (b := false) (by decide +kernel) ⟨_, rfl, ?_⟩⟩
        refine ifF rfl ⟨_, rfl, ?_⟩
        refine ⟨_, rfl, .inl ⟨rfl, _, SqL.of hfl3⟩, _, rfl, _, rfl, na, rfl, ⟨_, SqT.of hna⟩, fun D1 hD => lc_gen (walk_tup (xs := l.map V.int)) hD (fun j acc2 _ => acc2 = ((l.take j).map (· + m)).map V.int) (fun _ _ => rfl) (fun H4 s4 => SqT.of (s4 _ _ hna)) ?_ ?_⟩
        · rintro j y H4 H4' acc2 hj s4 hH4 hl4 r4 ⟨rfl, e2⟩
          rw [List.length_map] at hj
          rw [List.getElem?_map, List.getElem?_eq_getElem hj] at e2
          obtain rfl : V.int l[j] = y := Option.some.inj e2
          have r4 : acc2 = ((l.take j).map (· + m)).map V.int := r4
          refine ⟨rfl, _, rfl, _, rfl, a, C, dx, fs, _, rfl, s4 _ _ hx3, T.cl, T.shift, hk, _, _, rfl, rfl, PvL.put hD (by omega) s4 hH4 hl4 (Same.rf _) fun H5 _ => ?_⟩
          show acc2 ++ [V.int (l[j] + m)] = _
          rw [List.take_add_one, List.getElem?_eq_getElem hj, r4, List.map_append, List.map_append]
          rfl
        intro H4 acc2 s4 hH4 hl4 r4
        have r4 : acc2 = ((l.take (l.map V.int).length).map (· + m)).map V.int := r4
        rw [List.length_map, List.take_length] at r4
        refine ⟨D1, acc2, rfl, .inl ⟨SqL.of hH4, fun l2 hl2 => ⟨by show 2 ≤ sizeLine; decide, fun p2 hp2 => ?_⟩⟩⟩
        have s5 : Same H3' (upd H4 l2 (.tup acc2)) := Same.at_new s4 (Same.no s4 hl2)
        have s6 : Same H3' (upd (upd H4 l2 (.tup acc2)) p2 (.tup [vt, .ref l2])) := Same.at_new s5 (Same.no s5 hp2)
        have hfl6 := s6 _ _ hfl3
        have hl2' : (upd (upd H4 l2 (.tup acc2)) p2 (.tup [vt, .ref l2])) l2 = some (.tup acc2) := by rw [upd_ne (ne_of_none upd_same hp2)]; exact upd_same
        refine ⟨fl, acc, _, rfl, rfl, hfl6, by omega, acc ++ [.ref p2], _, _, _, rfl, Same.at_new (Same.tr s3 s6) hfl, (tk3.trans (TK.of s6)).trans (TK.put hfl6 fun xs e => by cases e), upd_same, by rw [List.length_append]; simp; omega, ?_⟩
        rw [List.take_add_one, hb, List.map_append]
        have tk6 : TK (upd (upd H4 l2 (.tup acc2)) p2 (.tup [vt, .ref l2])) (upd (upd (upd H4 l2 (.tup acc2)) p2 (.tup [vt, .ref l2])) fl (.lst (acc ++ [.ref p2]))) := TK.put hfl6 fun xs e => by cases e
        refine paired_app (pMono (fun _ _ z => (z.mono (TK.of s6)).mono tk6) r3) (.cons ?_ .nil)
        refine ⟨p2, vt, .ref l2, rfl, tk6 _ _ upd_same, ?_, ⟨l2, rfl, tk6 _ _ ?_⟩⟩
        · exact (hvt.mono (TK.of s6)).mono tk6
        · rw [hl2', r4]
          rfl

    · rintro σ H3 ⟨acc, o2, o3, o4, rfl, s3, tk3, hfl3, hl3, r3⟩
      rw [hvl, List.take_length] at r3
      refine ⟨_, rfl, fl, acc, rfl, .inl ⟨SqL.of hfl3, fun l hl => ?_⟩⟩
      exact q _ _ (Same.at_new s3 (Same.no s3 hl)) ⟨l, acc, rfl, upd_same, pMono (fun _ _ z => z.mono (TK.new hl)) r3⟩
end
end K13

namespace K13
open PySem PySem.Spec PyProof.Rows L2
theorem sh_mix {t : Th} {l : List Int} (h : lowT t) : SeqAt.shaped (.tuple (thD t :: l.map PyData.int)) = true := by
  have h1 := lay_th h
  have h2 := lay_ints l
  have h3 := dep_th t
  have h4 := dep_ints l
  refine sh_of ?_ ?_
  · simp only [PyData.canLay0, PyData.canLayAll0, h1, h2, Bool.and_self]
  · simp only [PyData.depth, PyData.depthAll, h4]
    omega
theorem any_mix (t : Th) (l : List Int) (e : Int) : ((thD t :: l.map PyData.int).any fun z => PyData.eqv z (thD (.key e))) = (decide (t = .key e) || decide (e ∈ l)) := by
  rw [List.any_cons, any_th, eqv_th]
  rfl
section
variable {P : Program} {w : World} {K : PySem.W.Frag} {mg : Str → Option Value} {base : Heap}
/-! ### Doubled.content -/
abbrev dC : Stmt := inClass (top 21) 1
abbrev NDc : List Str := ["self", "found", "own", "keys", "kept", "key"]
theorem scDc : ScK NDc ["self"] (defScope dC) := scK_by (by decide +kernel)
theorem co_D {f cc cda D g C : Addr} {k : Nat} {Γ : Gm} (G : Gb mg) (F : FunK P K "content" "Doubled.content" dC f cc cda D) (Z : SupF P K mg) (SA : SupAt K C D "content" g) (Nx : CoOk P w K mg base k g Γ) (hΓ : GmM Γ) (T : Nos K C) : CoOk P w K mg base (k + 1) f (ΓD C Γ) := by
  obtain ⟨oc, od, kV, doc, pm, an, ct, osl, lk⟩ := F.lk
  obtain ⟨cl0, cld, csl, lc⟩ := F.ce
  obtain ⟨fdg, psg, Fg, bg⟩ := Nx.ex
  refine ⟨_, ["self"], fn_ofK (N := NDc) lk F.cd lc scDc (fun vs H Q E h => ?_) (fun A outer s H vs Q E hr h => ?_), binds1 F (fun _ _ _ _ _ _ => rfl)⟩
  · obtain ⟨a, bs, rfl, _⟩ := h
    rfl
  · obtain ⟨a, bs, rfl, ⟨dx, fs, k, e, bs0, hx, hk, he, hg, hs, rfl⟩, q⟩ := h
    have U := F.sup (w := w) (base := base) (N := NDc) (A := A) (outer := outer) (s := s) (H := H) Z rfl rfl rfl rfl rfl rfl (Or.inr (Or.inl rfl))
    have nd := scDc.nd
    have hu := hu65 hr
    refine ⟨_, PSAs.nox (psa_cons (PS.at (ps_set (i := 1) nd rfl (Or.inl rfl) (pe_lst pa_nil)))
      (psa_cons (psa_forT PassesOwn.never rfl (pea_sup0 (pl := _) U.nox SA Fg hr bg pass0) (pg_tup rfl (pgs_cons (pg_name (i := 2) nd rfl (Or.inl rfl)) (pgs_cons (pg_name (i := 3) nd rfl (Or.inl rfl)) pgs_nil)))
        (pss_cons (ps_expr (pe_bm PySem.F.plainAttrs_list PySem.F.slot_list_append PySem.F.type_list_append mt_append (pv 1) (pa_cons (pe_tup (pa_cons (pv 2) (pa_cons (pv 3) pa_nil))) pa_nil)))
        (pss_one (ps_if (PW.pt (pw_and (pt_cmpR (op_inT hu) (pe_fld (pv 0) rfl) (pv 3) (by rfl)) (pw_and1 (pt_cmpR (op_ninT hu) (pe_fld (pv 0) rfl) (pe_tup (pa_cons (pv 2) (StX.pa_star (pv 3) pa_nil))) (by rfl)))))
          (pss_cons (ps_setLc (i := 4) (own := [("key", 5)]) (g := gName 5) (tt := tB (tNeI (tVar 5) (tFld K (tVar 0) "seen_key"))) rfl nd rfl rfl (sw_true rfl rfl rfl (by decide +kernel)) (pi_tup (pv 3)) (blkOk_by (N := NDc) (sc := defScope dC) (by decide +kernel)) (fun _ _ _ _ _ => pg_name (i := 5) nd rfl (Or.inl rfl))
            (fun _ _ _ _ _ => pts_one (pt_cmp (pc_neI (pv 5) (pe_fld (pv 0) rfl)))) (fun _ _ _ _ _ => pv 5))
          (pss_one (ps_expr (pe_bm PySem.F.plainAttrs_list PySem.F.slot_list_append PySem.F.type_list_append mt_append (pv 1) (pa_cons (pe_tup (pa_cons (pv 2) (pa_cons (pe_callTy call_tuple_of (by rfl) G.tuple PyProof.Rows.boot_tuple
            (pa_cons (pe_callB cr_sortedI (by rfl) G.sorted PyProof.Rows.boot_sorted (pa_cons (pe_lst (StX.pa_star (pv 4) (pa_cons (pe_fld (pv 0) rfl) pa_nil))) pa_nil)) pa_nil)) pa_nil))) pa_nil)))))
          pss_nil))))
      (PSs.at (pss_one (ps_ret (pe_callTy call_tuple_of (by rfl) G.tuple PyProof.Rows.boot_tuple (pa_cons (pv 1) pa_nil))))))), ?_⟩
    have h3 : 3000 < sizeLine := by decide
    have hsl := hs.len
    refine ⟨Nat.zero_le _, fun fl hfl => ?_⟩
    have sA : Same H (upd H fl (.lst [])) := Same.new hfl
    refine ⟨a, dx, fs, rfl, sA _ _ hx, fun p hp => ?_⟩
    have sB : Same H (upd (upd H fl (.lst [])) p (.met g a)) := Same.tr sA (Same.new hp)
    have hflB : (upd (upd H fl (.lst [])) p (.met g a)) fl = some (.lst []) := by rw [upd_ne (ne_of_none upd_same hp)]; exact upd_same
    refine ⟨a, bs0, rfl, hΓ _ _ _ _ sB hg, fun v H2 s2 hv => ?_⟩
    have sC2 : Same H H2 := Same.tr sB s2
    obtain ⟨lp, vs, rfl, hlp, hpr⟩ := hv
    have hvl := paired_len hpr
    refine ⟨lp, vs, rfl, SqT.of hlp, for_it (walk_tup (xs := vs)) (fun i σ H' => ∃ acc o2 o3 o4, σ = [some (.ref a), some (.ref fl), o2, o3, o4, none] ∧ Same H H' ∧ TK H2 H' ∧ H' fl = some (.lst acc) ∧ acc.length ≤ 2 * i ∧ Paired (bxV H') acc (double k e (bs0.take i)))
      ⟨[], none, none, none, rfl, sC2, TK.refl _, s2 _ _ hflB, Nat.le_refl _, .nil⟩ (fun i σ H' _ ⟨_, _, _, _, _, _, tk, _⟩ => SqT.of (tk _ _ hlp)) ?_ ?_⟩
    · rintro i x σ H3 H3' hi ⟨acc, o2, o3, o4, rfl, s3, tk3, hfl3, hl3, r3⟩ ⟨rfl, e0⟩
      obtain ⟨⟨t, l⟩, hb, fb⟩ := paired_get hpr e0
      have hm := List.mem_of_getElem? hb
      have lowt : lowT t := hs.low _ hm
      obtain ⟨ba, vt, vk, rfl, hba, ht, ⟨na, rfl, hna⟩⟩ := fb.mono tk3
      have ht : thV H3' vt t := ht
      have hna : H3' na = some (.tup (l.map V.int)) := hna
      have hll : l.length ≤ 1000 := hs.kl _ hm
      have ed : double k e (bs0.take (i + 1)) = double k e (bs0.take i) ++ dblB k e (t, l) := by
        unfold double
        rw [List.take_add_one, hb, List.flatMap_append]
        congr 1
        show List.flatMap (dblB k e) [(t, l)] = _
        rw [List.flatMap_cons, List.flatMap_nil, List.append_nil]
      refine ⟨ba, _, rfl, SqT.of hba, rfl, _, _, rfl, _, _, rfl, rfl, ?_⟩
      -- the box itself
      refine ⟨_, rfl, .inl ⟨rfl, _, SqL.of hfl3⟩, _, rfl, _, rfl, by show 2 ≤ sizeLine; decide, fun p1 hp1 => ?_⟩
      have s1 : Same H3' (upd H3' p1 (.tup [vt, .ref na])) := Same.new hp1
      refine ⟨fl, acc, _, rfl, rfl, s1 _ _ hfl3, by omega, ?_⟩
      have tk1 : TK (upd H3' p1 (.tup [vt, .ref na])) (upd (upd H3' p1 (.tup [vt, .ref na])) fl (.lst (acc ++ [.ref p1]))) := TK.put (s1 _ _ hfl3) fun xs z => by cases z
      have tk4 : TK H3' (upd (upd H3' p1 (.tup [vt, .ref na])) fl (.lst (acc ++ [.ref p1]))) := (TK.of s1).trans tk1
      have s4 : Same H (upd (upd H3' p1 (.tup [vt, .ref na])) fl (.lst (acc ++ [.ref p1]))) := Same.at_new (Same.tr s3 s1) hfl
      have hb4 : bxV (upd (upd H3' p1 (.tup [vt, .ref na])) fl (.lst (acc ++ [.ref p1]))) (.ref p1) (t, l) := ⟨p1, vt, _, rfl, tk1 _ _ upd_same, ht.mono tk4, ⟨na, rfl, tk4 _ _ hna⟩⟩
      have r4 := paired_app (pMono (fun _ _ z => z.mono tk4) r3) (.cons hb4 .nil)
      have hfl4 : (upd (upd H3' p1 (.tup [vt, .ref na])) fl (.lst (acc ++ [.ref p1]))) fl = some (.lst (acc ++ [.ref p1])) := upd_same
      have ht4 := ht.mono tk4
      have hna4 := tk4 _ _ hna
      have tk24 := tk3.trans tk4
      have hx4 := s4 _ _ hx
      generalize upd (upd H3' p1 (.tup [vt, .ref na])) fl (.lst (acc ++ [.ref p1])) = H4 at s4 r4 hfl4 ht4 hna4 tk24 hx4
      have hn4 : nsV H4 (.ref na) l := ⟨na, rfl, hna4⟩
      -- what is left where the box is not doubled
      have skip : hasB k e (t, l) = false → ∀ H5, Same H4 H5 → ∃ acc o2 o3 o4, ([some (.ref a), some (.ref fl), some vt, some (.ref na), some (.ref na), none] : L2.St).length = 6 ∧ Same H H5 ∧ TK H2 H5 ∧ H5 fl = some (.lst acc) ∧ acc.length ≤ 2 * (i + 1) ∧ Paired (bxV H5) acc (double k e (bs0.take (i + 1))) ∧ o2 = some vt ∧ o3 = some (V.ref na) ∧ o4 = (o4 : Option V) := fun hh H5 s5 => by
        refine ⟨acc ++ [.ref p1], some vt, some (.ref na), none, rfl, Same.tr s4 s5, tk24.trans (TK.of s5), s5 _ _ hfl4, by rw [List.length_append]; simp; omega, ?_, rfl, rfl, rfl⟩
        rw [ed]
        have e5 : dblB k e (t, l) = [(t, l)] := by unfold dblB; rw [hh, if_neg Bool.false_ne_true]
        rw [e5]
        exact pMono (fun _ _ z => z.mono (TK.of s5)) r4
      refine ⟨_, rfl, a, C, dx, fs, _, rfl, hx4, T.cl, T.seen, hk, _, rfl, thD (.key k), l.map PyData.int, .int k, hn4.dp, sh_th (t := .key k) trivial, sh_ns l, _, rfl, ?_⟩
      rw [any_th]
      show if decide (k ∈ l) = true then _ else _
      refine ifB (fun c1 => ?_) (fun c1 => ?_)
      · refine ⟨_, rfl, a, C, dx, fs, _, rfl, hx4, T.cl, T.extra, he, _, rfl, _, rfl, na, _, rfl, .inl (SqT.of hna4), by simp; omega, fun p2 hp2 => ?_⟩
        have s5 : Same H4 (upd H4 p2 (.tup (vt :: (l.map V.int ++ [])))) := Same.new hp2
        refine ⟨thD (.key e), thD t :: l.map PyData.int, .int e, .tup (SqT.of upd_same) (.cons (ht4.mono (TK.of s5)).dp (by rw [List.append_nil]; exact dp_ints l)), sh_th (t := .key e) trivial, sh_mix lowt, _, rfl, ?_⟩
        rw [any_mix]
        generalize upd H4 p2 (.tup (vt :: (l.map V.int ++ []))) = H5 at s5
        show if (!(decide (t = .key e) || decide (e ∈ l))) = true then _ else _
        refine ifB (fun c2 => ?_) (fun c2 => ?_)
        · have hh : hasB k e (t, l) = true := by unfold hasB; rw [Bool.and_eq_true]; exact ⟨c1, c2⟩
          have hx5 := s5 _ _ hx4
          have hna5 := s5 _ _ hna4
          refine ⟨_, rfl, na, rfl, ⟨_, SqT.of hna5⟩, fun D1 hD => lc_gen (walk_tup (xs := l.map V.int)) hD (fun j acc2 _ => acc2 = ((l.take j).filter fun z => decide (z ≠ k)).map V.int) (fun _ _ => rfl) (fun H6 s6 => SqT.of (s6 _ _ hna5)) ?_ ?_⟩
          · rintro j y H6 H6' acc2 hj s6 hH6 hl6 r6 ⟨rfl, e2⟩
            rw [List.length_map] at hj
            rw [List.getElem?_map, List.getElem?_eq_getElem hj] at e2
            obtain rfl : V.int l[j] = y := Option.some.inj e2
            have r6 : acc2 = ((l.take j).filter fun z => decide (z ≠ k)).map V.int := r6
            have e6 : ((l.take (j + 1)).filter fun z => decide (z ≠ k)) = ((l.take j).filter fun z => decide (z ≠ k)) ++ (if decide (l[j] ≠ k) = true then [l[j]] else []) := by
              rw [List.take_add_one, List.getElem?_eq_getElem hj, List.filter_append]
              congr 1
              show List.filter _ [l[j]] = _
              rw [List.filter_cons]
              split <;> rfl
            refine ⟨rfl, _, rfl, _, rfl, a, C, dx, fs, _, rfl, s6 _ _ hx5, T.cl, T.seen, hk, _, _, rfl, rfl, _, rfl, ?_⟩
            have en : decide (l[j] ≠ k) = !decide (l[j] = k) := by by_cases hc : l[j] = k <;> simp [hc]
            rw [en] at e6
            show if (!decide (l[j] = k)) = true then _ else _
            refine ifB (fun c3 => ?_) (fun c3 => ?_)
            · rw [if_pos c3] at e6
              refine ⟨_, rfl, PvL.put hD (by omega) s6 hH6 hl6 (Same.rf _) fun H7 _ => ?_⟩
              show acc2 ++ [V.int l[j]] = _
              rw [e6, r6, List.map_append]
              rfl
            · rw [c3, if_neg Bool.false_ne_true, List.append_nil] at e6
              refine PvL.skip s6 hH6 hl6 (Same.rf _) ?_
              show acc2 = _
              rw [e6, r6]
          intro H6 kept s6 hH6 hl6 r6
          have r6 : kept = ((l.take (l.map V.int).length).filter fun z => decide (z ≠ k)).map V.int := r6
          rw [List.length_map, List.take_length] at r6
          have hx6 := s6 _ _ hx5
          have hkl : kept.length ≤ 1000 := by rw [List.length_map] at hl6; omega
          refine ⟨_, rfl, .inl ⟨rfl, _, SqL.of (s6 _ _ (s5 _ _ hfl4))⟩, _, rfl, _, rfl, D1, kept, rfl, .inr (SqL.of hH6), _, rfl, a, C, dx, fs, _, rfl, hx6, T.cl, T.extra, he, by simp; omega, fun q1 hq1 => ?_⟩
          refine ⟨q1, (l.filter fun z => decide (z ≠ k)) ++ [e], rfl, SqL.of (by rw [upd_same, r6, List.map_append]; rfl), fun ns' p3 hpn hps hp3 => ?_⟩
          have s7 : Same H6 (upd (upd H6 q1 (.lst (kept ++ [V.int e]))) p3 (.lst (ns'.map V.int))) := Same.at_new (Same.new hq1) (Same.no (Same.new hq1) hp3)
          refine ⟨p3, _, rfl, .inl ⟨SqL.of upd_same, fun l2 hl2 => ⟨by show 2 ≤ sizeLine; decide, fun p4 hp4 => ?_⟩⟩⟩
          have s8 := Same.at_new (o := .tup (ns'.map V.int)) s7 (Same.no s7 hl2)
          have hl8 : (upd (upd (upd H6 q1 (.lst (kept ++ [V.int e]))) p3 (.lst (ns'.map V.int))) l2 (.tup (ns'.map V.int))) l2 = some (.tup (ns'.map V.int)) := upd_same
          generalize upd (upd (upd H6 q1 (.lst (kept ++ [V.int e]))) p3 (.lst (ns'.map V.int))) l2 (.tup (ns'.map V.int)) = H8 at s8 hl8 hp4
          have s49 : Same H4 (upd H8 p4 (.tup [vt, .ref l2])) := Same.tr (Same.tr s5 (Same.tr s6 s8)) (Same.new hp4)
          have hfl9 := s49 _ _ hfl4
          have hns : ns' = swapK k e l := srt_uniq hpn hps
          refine ⟨fl, acc ++ [.ref p1], _, rfl, rfl, hfl9, by rw [List.length_append]; simp; omega, (acc ++ [.ref p1]) ++ [.ref p4], _, _, _, rfl, Same.at_new (Same.tr s4 s49) hfl, ?_, upd_same, by rw [List.length_append, List.length_append]; simp; omega, ?_⟩
          · exact (tk24.trans (TK.of s49)).trans (TK.put hfl9 fun xs z => by cases z)
          · have tk10 : TK (upd H8 p4 (.tup [vt, .ref l2])) (upd (upd H8 p4 (.tup [vt, .ref l2])) fl (.lst ((acc ++ [.ref p1]) ++ [.ref p4]))) := TK.put hfl9 fun xs z => by cases z
            have e5 : dblB k e (t, l) = [(t, l)] ++ [(t, swapK k e l)] := by unfold dblB; rw [hh, if_pos rfl]; rfl
            rw [ed, e5, ← List.append_assoc]
            refine paired_app (pMono (fun _ _ z => (z.mono (TK.of s49)).mono tk10) r4) (.cons ?_ .nil)
            refine ⟨p4, vt, .ref l2, rfl, tk10 _ _ upd_same, ?_, ⟨l2, rfl, tk10 _ _ ?_⟩⟩
            · exact thV.mono (t := t) (thV.mono (t := t) ht4 (TK.of s49)) tk10
            · rw [← hns, upd_ne (ne_of_none hl8 hp4)]
              exact hl8
        · have hh : hasB k e (t, l) = false := by unfold hasB; rw [c2, Bool.and_false]
          obtain ⟨acc', _, _, _, _, z1, z2, z3, z4, z5, _⟩ := skip hh H5 s5
          exact ⟨acc', _, _, _, rfl, z1, z2, z3, z4, z5⟩
      · have hh : hasB k e (t, l) = false := by unfold hasB; rw [c1, Bool.false_and]
        obtain ⟨acc', _, _, _, _, z1, z2, z3, z4, z5, _⟩ := skip hh H4 (Same.rf _)
        exact ⟨acc', _, _, _, rfl, z1, z2, z3, z4, z5⟩
    · rintro σ H3 ⟨acc, o2, o3, o4, rfl, s3, tk3, hfl3, hl3, r3⟩
      rw [hvl, List.take_length] at r3
      refine ⟨_, rfl, fl, acc, rfl, .inl ⟨SqL.of hfl3, fun l hl => ?_⟩⟩
      exact q _ _ (Same.at_new s3 (Same.no s3 hl)) ⟨l, acc, rfl, upd_same, pMono (fun _ _ z => z.mono (TK.new hl)) r3⟩
end
end K13

namespace K13
open PySem PySem.Spec PyProof.Rows L2
/-! ### the six classes -/
inductive Kd where
  | ch | wo | sh | db | sd | ds
def GmOf (C : Addr) : Kd → Gm
  | .ch => Γ0 C
  | .wo => ΓW C (Γ0 C)
  | .sh => ΓS C (Γ0 C)
  | .db => ΓD C (Γ0 C)
  | .sd => ΓS C (ΓD C (Γ0 C))
  | .ds => ΓD C (ΓS C (Γ0 C))
theorem monoOf (C : Addr) : ∀ i, GmM (GmOf C i)
  | .ch => mono0 C
  | .wo => monoW (mono0 C)
  | .sh => monoS (mono0 C)
  | .db => monoD (mono0 C)
  | .sd => monoS (monoD (mono0 C))
  | .ds => monoD (monoS (mono0 C))
structure KF (P : Program) (w : World) (K : PySem.W.Frag) (mg : Str → Option Value) (base : Heap) (T : Kd → Addr) (fe fo : Addr) : Prop where
  no : ∀ i, Nos K (T i)
  co : ∀ i, ∃ g, Meth K (T i) "content" g ∧ CoOk P w K mg base 3 g (GmOf (T i) i)
  op : ∀ i, Meth K (T i) "opening" fo
  eq : ∀ i, EqC K (T i) fe
  ha : ∀ i, PySem.W.findIn K (.ref (T i)) "__class__" = some (some (.builtin "object.__class__"))
  kit : ∀ i, PySem.W.kitOne K (.ref (T i)) (.ref (T .ch)) = some true
  hn : PySem.W.specialIn K (.builtin "object.__class__") "__get__" = some (some (.builtin "getset_descriptor.__get__"))
  htk : PySem.W.takesIn K (.builtin "object.__class__") = some true
  hmg : mg "Chest" = some (.ref (T .ch))
  fi : PySem.W.isFn K (.ref fe) = true
/-- a chest of one of the six classes with this content -/
def Ob (T : Kd → Addr) (a : Addr) (H : Hp) (bs : List Bx) : Prop := ∃ i dx fs, H a = some (.ins (T i) dx fs) ∧ fs.lookup ("content" : Str) = none ∧ fs.lookup ("opening" : Str) = none ∧ GmOf (T i) i a H bs
theorem Ob.mono {T : Kd → Addr} {a : Addr} {H H' : Hp} {bs : List Bx} (h : Ob T a H bs) (s : Same H H') : Ob T a H' bs :=
  let ⟨i, dx, fs, h1, h2, h3, h4⟩ := h
  ⟨i, dx, fs, s _ _ h1, h2, h3, monoOf _ i _ _ _ _ s h4⟩
section
variable {X : Cx} {e : Expr} {t t' : TE}
theorem PE.imp (h : PE X e t) (i : ∀ σ H Q, t' σ H Q → t σ H Q) : PE X e t' := ⟨fun pins s σ H Q I q => h.run pins s σ H Q I (i _ _ _ q)⟩
theorem pe_ex {α : Type} {t : α → TE} (h : ∀ i, PE X e (t i)) : PE X e (fun σ H Q => ∃ i, t i σ H Q) := ⟨fun pins s σ H Q I ⟨i, q⟩ => (h i).run pins s σ H Q I q⟩
end
/-- x.content() -/
def tCo (T : Kd → Addr) (te : TE) : TE := fun σ H Q => ∃ i, tMeth (T i) "content" (spCo (GmOf (T i) i)) [] E0 te tNil σ H Q
theorem co_var {T : Kd → Addr} {σ : L2.St} {j : Nat} {a : Addr} {H : Hp} {bs : List Bx} {Q : VK} (hσ : σ[j]? = some (some (.ref a))) (h : Ob T a H bs) (q : ∀ v H', Same H H' → bsV H' v bs → Q v H') : tCo T (tVar j) σ H Q :=
  let ⟨i, dx, fs, h1, h2, _, h4⟩ := h
  ⟨i, .ref a, hσ, a, dx, fs, rfl, h1, h2, a, bs, rfl, h4, q⟩
def spOpg (T : Kd → Addr) : Sp := fun vs H Q _ => ∃ a vk ks bs, vs = [.ref a, vk] ∧ Ob T a H bs ∧ nsV H vk ks ∧ Bok bs ∧ ks.length ≤ 1000 ∧ ∀ v ns ts H', Same H H' → prV H' v (ns, ts) → Opn ks bs ns ts → Q v H'
/-- x.opening(e) -/
def tOpg (T : Kd → Addr) (te : TE) (t : TA) : TE := fun σ H Q => ∃ i, tMeth (T i) "opening" (spOpg T) [] E0 te t σ H Q
theorem og_var {T : Kd → Addr} {σ : L2.St} {j : Nat} {a : Addr} {H : Hp} {bs : List Bx} {Q : VK} {t : TA} (hσ : σ[j]? = some (some (.ref a))) (h : Ob T a H bs) (q : t σ H fun vs H2 => spOpg T (.ref a :: (vs ++ [])) H2 Q E0) : tOpg T (tVar j) t σ H Q :=
  let ⟨i, dx, fs, h1, _, h3, _⟩ := h
  ⟨i, .ref a, hσ, a, dx, fs, rfl, h1, h3, q⟩
/-- the answer of == on chests -/
def Rch (T : Kd → Addr) : Rl := fun a b H r => ∃ ca cb, Ob T a H ca ∧ Ob T b H cb ∧ Lows ca ∧ Lows cb ∧ r = decide (ca = cb)
section
variable {P : Program} {w : World} {K : PySem.W.Frag} {mg : Str → Option Value} {base : Heap} {T : Kd → Addr} {fe fo : Addr}
section
variable {X : Cx} {o e : Expr} {es : List Expr} {te : TE} {t : TA} {apos pos : Pos}
theorem pe_content {pl : Sem Bool} (Z : KF X.prog X.w X.K X.mg X.base T fe fo) (hr : Room 3 X.A) (he : PE X o te)
    (ht : eval (.Call (.Attribute o "content" apos) [] [] pos) X.env = (do
      let v0 ← eval o X.env
      standAt apos.atName
      let (g0, fst0) ← holding [v0] (getMethod v0 "content" pl)
      callWith pos g0 fst0 (backTo pos (starEach [] X.env)) (backToKw pos (keywordEach [] X.env))) := by rfl) : PE X (.Call (.Attribute o "content" apos) [] [] pos) (tCo T te) := by
  refine pe_ex (t := fun i => tMeth (T i) "content" (spCo (GmOf (T i) i)) [] E0 te tNil) fun i => ?_
  obtain ⟨g, hm, ⟨fd, ps, F, b⟩⟩ := Z.co i
  exact pe_meth0 (pl := pl) he (Z.no i).cl hm F hr b .nil pass0 ht
end
/-! ### Chest.opening -/
abbrev cO : Stmt := inClass (top 18) 2
theorem scO : FnScope ["self", "keys"] ["self", "keys"] (defScope cO) := ⟨rfl, rfl, rfl, by decide +kernel, rfl, by decide +kernel, by decide +kernel⟩
theorem ok_opening {f : Addr} {fd : FuncData} (F : Fun K "opening" "Chest.opening" cO f fd) (Z : KF P w K mg base T fe fo) (C1 : Cl1 P w K mg base 3 "opened" spOpened) : FnOk P w K mg base CX0 4 f fd ["self", "keys"] (spOpg T) := by
  refine F.ok scO (fun vs H Q E h => ?_) (fun cdv A outer s H vs Q E hr h => ?_)
  · obtain ⟨a, vk, ks, bs, rfl, _⟩ := h
    rfl
  · obtain ⟨a, vk, ks, bs, rfl, ha, hk, hB, hl, q⟩ := h
    refine ⟨_, pss_one (ps_ret (pe_cl C1 hr (pa_cons (pv 1) (pa_cons (pe_content (pl := _) Z hr (pv 0)) pa_nil)))), ?_⟩
    refine ⟨_, rfl, co_var rfl ha fun v H1 s1 hb => ?_⟩
    exact ⟨vk, v, ks, bs, rfl, hk.mono (TK.of s1), hb, hB, hl, fun v' ns ts H' s' hp ho => q v' ns ts H' (Same.tr s1 s') hp ho⟩
/-! ### Chest.__eq__ -/
abbrev cE : Stmt := inClass (top 18) 3
theorem scE : FnScope ["self", "other"] ["self", "other"] (defScope cE) := ⟨rfl, rfl, rfl, by decide +kernel, rfl, by decide +kernel, by decide +kernel⟩
theorem ty_ob (Z : KF P w K mg base T fe fo) {a : Addr} {H : Hp} {bs : List Bx} (h : Ob T a H bs) : ∃ i, TyX K H (.ref a) (.ref (T i)) :=
  let ⟨i, _, _, h1, _⟩ := h
  ⟨i, .base (.ins h1 (Z.no i).cl (Z.ha i) Z.hn Z.htk (Z.eq i).obj)⟩
theorem ok_eq {f : Addr} {fd : FuncData} (F : Fun K "__eq__" "Chest.__eq__" cE f fd) (G : Gb mg) (Z : KF P w K mg base T fe fo) : FnOk P w K mg base CX0 4 f fd ["self", "other"] (spCmp (Rch T)) := by
  refine F.ok scE (fun vs H Q E h => ?_) (fun cdv A outer s H vs Q E hr h => ?_)
  · obtain ⟨a, b, r, rfl, _⟩ := h
    rfl
  · obtain ⟨a, b, r, rfl, ⟨ca, cb, ha, hb, la, lb, rfl⟩, q⟩ := h
    refine ⟨_, pss_one (ps_ret (pe_and (pe_callB call_isi (by rfl) G.isi PyProof.Rows.boot_isinstance (pa_cons (pv 1) (pa_cons (pe_glob (v := .ref (T .ch)) (by rfl) Z.hmg rfl) pa_nil))) (pe_one (pe_cmpR (op_eqD hr.units) (pe_content (pl := _) Z hr (pv 0)) (pe_content (pl := _) Z hr (pv 1)) (by rfl))))), ?_⟩
    obtain ⟨i, ty⟩ := ty_ob Z hb
    refine ⟨_, rfl, _, _, _, _, true, rfl, .own _, ty, Z.kit i, _, rfl, ?_⟩
    show tOp (rEqD K) (tCo T (tVar 0)) (tCo T (tVar 1)) _ _ _
    refine co_var rfl ha fun v H1 s1 h1 => ?_
    refine co_var rfl (hb.mono s1) fun v2 H2 s2 h2 => ?_
    refine ⟨bsD ca, bsD cb, (h1.mono (TK.of s2)).dp, h2.dp, sh_bs la, sh_bs lb, ?_⟩
    rw [eqv_bs]
    exact q _ (Same.tr s1 s2)
end
end K13

namespace K13
open PySem PySem.Spec PyProof.Rows L2
/-! ### new chests -/
theorem made {C : Addr} {g : FG} {H : Hp} {vb : V} {zs : List V} {Q : VK} (q : ∀ x dx H3, Same H H3 → H3 x = some (.ins C dx (g vb zs [])) → Q (.ref x) H3) :
    ∀ x dx, H x = none → H dx = none → dx ≠ x → spIn C g [.ref x, vb] zs (upd (upd H dx (.own x)) x (.ins C dx [])) (fun v H3 => v = .non ∧ Q (.ref x) H3) := fun x dx hx hd hne =>
  ⟨x, vb, dx, [], rfl, upd_same, by decide, fun H' h1 h2 => ⟨rfl, q x dx H' (fun b o e => h2 b o (by rw [upd_ne (ne_of_none e hx), upd_ne (ne_of_none e hd)]; exact e) (ne_of_none e hx)) h1⟩⟩
section
variable {T : Kd → Addr} {H : Hp} {vb : V} {bs : List Bx} {Q : VK} {k e m : Int}
theorem new_ch (hb : bsV H vb bs) (q : ∀ x H3, Same H H3 → Ob T x H3 bs → Q (.ref x) H3) : ∀ x dx, H x = none → H dx = none → dx ≠ x → spIn0 (T .ch) [.ref x, vb] (upd (upd H dx (.own x)) x (.ins (T .ch) dx [])) (fun v H3 => v = .non ∧ Q (.ref x) H3) E0 :=
  made (g := g0) (zs := []) fun x dx H3 s h => q x H3 s ⟨.ch, dx, _, h, rfl, rfl, dx, _, vb, h, rfl, hb.mono (TK.of s)⟩
theorem new_wo (hb : bsV H vb bs) (hs : Sm bs) (q : ∀ x H3, Same H H3 → Ob T x H3 (without k bs) → Q (.ref x) H3) : ∀ x dx, H x = none → H dx = none → dx ≠ x → spIn (T .wo) (gW g0) [.ref x, vb] [.int k] (upd (upd H dx (.own x)) x (.ins (T .wo) dx [])) (fun v H3 => v = .non ∧ Q (.ref x) H3) :=
  made fun x dx H3 s h => q x H3 s ⟨.wo, dx, _, h, rfl, rfl, dx, _, k, bs, h, rfl, ⟨dx, _, vb, h, rfl, hb.mono (TK.of s)⟩, hs, rfl⟩
theorem new_sh (hb : bsV H vb bs) (hs : Sm bs) (q : ∀ x H3, Same H H3 → Ob T x H3 (shift m bs) → Q (.ref x) H3) : ∀ x dx, H x = none → H dx = none → dx ≠ x → spIn (T .sh) (gS g0 0 []) [.ref x, vb] [.int m] (upd (upd H dx (.own x)) x (.ins (T .sh) dx [])) (fun v H3 => v = .non ∧ Q (.ref x) H3) :=
  made fun x dx H3 s h => q x H3 s ⟨.sh, dx, _, h, rfl, rfl, dx, _, m, bs, h, rfl, ⟨dx, _, vb, h, rfl, hb.mono (TK.of s)⟩, hs, rfl⟩
theorem new_db (hb : bsV H vb bs) (hs : Sm bs) (q : ∀ x H3, Same H H3 → Ob T x H3 (double k e bs) → Q (.ref x) H3) : ∀ x dx, H x = none → H dx = none → dx ≠ x → spIn (T .db) (gD g0 0 1 []) [.ref x, vb] [.int k, .int e] (upd (upd H dx (.own x)) x (.ins (T .db) dx [])) (fun v H3 => v = .non ∧ Q (.ref x) H3) :=
  made fun x dx H3 s h => q x H3 s ⟨.db, dx, _, h, rfl, rfl, dx, _, k, e, bs, h, rfl, rfl, ⟨dx, _, vb, h, rfl, hb.mono (TK.of s)⟩, hs, rfl⟩
theorem new_sd (hb : bsV H vb bs) (hs : Sm bs) (hs2 : Sm (double k e bs)) (q : ∀ x H3, Same H H3 → Ob T x H3 (shift m (double k e bs)) → Q (.ref x) H3) : ∀ x dx, H x = none → H dx = none → dx ≠ x → spIn (T .sd) (gS (gD g0 0 1 []) 0 [1, 2]) [.ref x, vb] [.int m, .int k, .int e] (upd (upd H dx (.own x)) x (.ins (T .sd) dx [])) (fun v H3 => v = .non ∧ Q (.ref x) H3) :=
  made fun x dx H3 s h => q x H3 s ⟨.sd, dx, _, h, rfl, rfl, dx, _, m, _, h, rfl, ⟨dx, _, k, e, bs, h, rfl, rfl, ⟨dx, _, vb, h, rfl, hb.mono (TK.of s)⟩, hs, rfl⟩, hs2, rfl⟩
theorem new_ds (hb : bsV H vb bs) (hs : Sm bs) (hs2 : Sm (shift m bs)) (q : ∀ x H3, Same H H3 → Ob T x H3 (double k e (shift m bs)) → Q (.ref x) H3) : ∀ x dx, H x = none → H dx = none → dx ≠ x → spIn (T .ds) (gD (gS g0 0 []) 1 2 [0]) [.ref x, vb] [.int m, .int k, .int e] (upd (upd H dx (.own x)) x (.ins (T .ds) dx [])) (fun v H3 => v = .non ∧ Q (.ref x) H3) :=
  made fun x dx H3 s h => q x H3 s ⟨.ds, dx, _, h, rfl, rfl, dx, _, k, e, _, h, rfl, rfl, ⟨dx, _, m, bs, h, rfl, ⟨dx, _, vb, h, rfl, hb.mono (TK.of s)⟩, hs, rfl⟩, hs2, rfl⟩
end
/-- how the six are made -/
structure MF (P : Program) (w : World) (K : PySem.W.Frag) (mg : Str → Option Value) (base : Heap) (T : Kd → Addr) (fi : Kd → Addr) : Prop where
  mks : ∀ i, Mk K (T i) (fi i)
  ch : ∃ fd, FnOk P w K mg base CX0 1 (fi .ch) fd ["self", "boxes"] (spIn0 (T .ch)) ∧ Binds K fd ["self", "boxes"] []
  wo : FnKw P w K mg base 3 (fi .wo) ["key"] (spIn (T .wo) (gW g0))
  sh : FnKw P w K mg base 3 (fi .sh) ["by"] (spIn (T .sh) (gS g0 0 []))
  db : FnKw P w K mg base 3 (fi .db) ["key", "extra"] (spIn (T .db) (gD g0 0 1 []))
  sd : FnKw P w K mg base 3 (fi .sd) ["by", "key", "extra"] (spIn (T .sd) (gS (gD g0 0 1 []) 0 [1, 2]))
  ds : FnKw P w K mg base 3 (fi .ds) ["by", "key", "extra"] (spIn (T .ds) (gD (gS g0 0 []) 1 2 [0]))
  nch : mg "Chest" = some (.ref (T .ch))
  nwo : mg "Without" = some (.ref (T .wo))
  nsh : mg "Shifted" = some (.ref (T .sh))
  ndb : mg "Doubled" = some (.ref (T .db))
  nsd : mg "ShiftedDouble" = some (.ref (T .sd))
  nds : mg "DoubledShift" = some (.ref (T .ds))
/-! ### answers of == and != -/
theorem cmp_ob {K : PySem.W.Frag} {P : Program} {w : World} {mg : Str → Option Value} {base : Heap} {T : Kd → Addr} {fe fo : Addr} (Z : KF P w K mg base T fe fo) {a b : Addr} {H : Hp} {ca cb : List Bx} {f : Bool → Bool} {Q : VK} (ha : Ob T a H ca) (hb : Ob T b H cb) (la : Lows ca) (lb : Lows cb)
    (q : ∀ H', Same H H' → Q (.bl (f (decide (ca = cb)))) H') : rCmp K fe (Rch T) f (.ref a) (.ref b) H Q := by
  refine ⟨a, b, decide (ca = cb), rfl, rfl, ?_, ?_, ⟨ca, cb, ha, hb, la, lb, rfl⟩, ⟨cb, ca, hb, ha, lb, la, decide_eq_decide.mpr eq_comm⟩, q⟩
  · obtain ⟨i, dx, fs, h, _⟩ := ha
    exact ⟨_, _, _, h, Z.eq i⟩
  · obtain ⟨i, dx, fs, h, _⟩ := hb
    exact ⟨_, _, _, h, Z.eq i⟩
end K13

namespace K13
open PySem PySem.Spec PyProof.Rows L2
/-! ### the feed -/
abbrev fdL (l : Addr) (a lf c : Int) : List (Key × V) := [(.inr "cells", .ref l), (.inr "at", .int a), (.inr "left", .int lf), (.inr "count", .int c)]
abbrev fdD (l : Addr) (a lf c : Int) : HO := .dK (fdL l a lf c)
theorem v_cells (l : Addr) (a lf c : Int) : valV (fdL l a lf c) (.inr "cells") = some (.ref l) := by rfl
theorem v_at (l : Addr) (a lf c : Int) : valV (fdL l a lf c) (.inr "at") = some (.int a) := by rfl
theorem v_left (l : Addr) (a lf c : Int) : valV (fdL l a lf c) (.inr "left") = some (.int lf) := by rfl
theorem v_count (l : Addr) (a lf c : Int) : valV (fdL l a lf c) (.inr "count") = some (.int c) := by rfl
theorem p_at (l : Addr) (a lf c x : Int) : putK (fdL l a lf c) (.inr "at") (.int x) = fdL l x lf c := by rfl
theorem p_left (l : Addr) (a lf c x : Int) : putK (fdL l a lf c) (.inr "left") (.int x) = fdL l a x c := by rfl
theorem p_count (l : Addr) (a lf c x : Int) : putK (fdL l a lf c) (.inr "count") (.int x) = fdL l a lf x := by rfl
section
variable {H : Hp} {d l : Addr} {a lf c x : Int}
theorem g_cells (h : H d = some (fdD l a lf c)) : DGet H d (.str "cells") (some (.ref l)) := DGet.k (k := .inr "cells") h
theorem g_at (h : H d = some (fdD l a lf c)) : DGet H d (.str "at") (some (.int a)) := DGet.k (k := .inr "at") h
theorem g_left (h : H d = some (fdD l a lf c)) : DGet H d (.str "left") (some (.int lf)) := DGet.k (k := .inr "left") h
theorem g_count (h : H d = some (fdD l a lf c)) : DGet H d (.str "count") (some (.int c)) := DGet.k (k := .inr "count") h
theorem u_at (h : H d = some (fdD l a lf c)) : DPut H d (.str "at") (.int x) (upd H d (fdD l x lf c)) := DPut.k (k := .inr "at") h (by show 4 < sizeLine; decide)
theorem u_left (h : H d = some (fdD l a lf c)) : DPut H d (.str "left") (.int x) (upd H d (fdD l a x c)) := DPut.k (k := .inr "left") h (by show 4 < sizeLine; decide)
theorem u_count (h : H d = some (fdD l a lf c)) : DPut H d (.str "count") (.int x) (upd H d (fdD l a lf x)) := DPut.k (k := .inr "count") h (by show 4 < sizeLine; decide)
end
theorem sql_mono {K : PySem.W.Frag} {H H' : Hp} {a : Addr} {xs : List V} (h : SqL K H a xs) (s : Same H H') : SqL K H' a xs := by
  rcases h with (h | ⟨o, h⟩) | h
  · exact .inl (.inl (s _ _ h))
  · exact .inl (.inr ⟨o, s _ _ h⟩)
  · exact .inr h
def Fd (l : Addr) (H : Hp) (d : Addr) : Prop := ∃ (ns : List Int) (a lf c : Int), H d = some (fdD l a lf c) ∧ H l = some (.lst (ns.map V.int)) ∧ ns.length < 1000
def SX (d : Addr) (H H' : Hp) : Prop := ∀ b o, b ≠ d → H b = some o → H' b = some o
theorem SX.tr {d : Addr} {H H1 H2 : Hp} (a : SX d H H1) (b : SX d H1 H2) : SX d H H2 := fun c o n h => b c o n (a c o n h)
theorem SX.of {d : Addr} {H H1 : Hp} (a : Same H H1) : SX d H H1 := fun c o _ h => a c o h
theorem SX.put {d : Addr} {H : Hp} {o : HO} : SX d H (upd H d o) := fun b u n e => by rw [upd_ne n]; exact e
theorem Fd.tk {l : Addr} {H H' : Hp} {d : Addr} (h : Fd l H d) (s : SX d H H') : TK H H' := fun b xs e => s b _ (fun z => by
  obtain ⟨ns, a, lf, c, h1, _⟩ := h
  rw [z, h1] at e
  cases e) e
theorem Fd.ne {l : Addr} {H : Hp} {d b : Addr} {xs : List V} (h : Fd l H d) (e : H b = some (.lst xs)) : b ≠ d := fun z => by
  obtain ⟨ns, a, lf, c, h1, _⟩ := h
  rw [z, h1] at e
  cases e
theorem Fd.mono {l : Addr} {H H' : Hp} {d : Addr} (h : Fd l H d) (s : Same H H') : Fd l H' d :=
  let ⟨ns, a, lf, c, h1, h2, h3⟩ := h
  ⟨ns, a, lf, c, s _ _ h1, s _ _ h2, h3⟩
theorem fm_nn {i m : Int} (h : 0 < m) : 0 ≤ i.fmod m ∧ i.fmod m < m := ⟨Int.fmod_nonneg_of_pos i h, Int.fmod_lt_of_pos i h⟩
theorem at_fm {xs : List Int} {i : Int} (h : 0 < xs.length) : ∃ k, atI (xs.map V.int) (i.fmod ((xs.map V.int).length : Int)) = some (.int k) := by
  rw [List.length_map]
  obtain ⟨h1, h2⟩ := fm_nn (i := i) (m := (xs.length : Int)) (by omega)
  obtain ⟨j, hj⟩ : ∃ j : Nat, i.fmod (xs.length : Int) = (j : Int) := ⟨(i.fmod (xs.length : Int)).toNat, by omega⟩
  rw [hj] at h1 h2 ⊢
  have hl : j < xs.length := by omega
  exact ⟨xs[j], atI_nat (by rw [List.getElem?_map, List.getElem?_eq_getElem hl]; rfl)⟩
theorem cutV_map (ns : List Int) (lo hi : Option Int) : ∃ ms : List Int, cutV (ns.map V.int) lo hi = ms.map V.int ∧ ms.length ≤ ns.length := by
  refine ⟨(ns.drop (HT.sIx (ns.map V.int).length 0 lo)).take (HT.sIx (ns.map V.int).length (ns.map V.int).length hi - HT.sIx (ns.map V.int).length 0 lo), ?_, ?_⟩
  · unfold cutV
    rw [List.map_take, List.map_drop]
  · rw [List.length_take, List.length_drop]
    omega
theorem if_te {c : Bool} {t u : TE} {σ : L2.St} {H : Hp} {Q : VK} (a : c = true → (∀ i, Q (.int i) H) → t σ H Q) (b : c = false → (∀ i, Q (.int i) H) → u σ H Q) (q : ∀ i, Q (.int i) H) : if c = true then t σ H Q else u σ H Q := ifB (fun h => a h q) fun h => b h q
def spFeed (K : PySem.W.Frag) : Sp := fun vs H Q _ => ∃ (a : Addr) (ns : List Int), vs = [.ref a] ∧ SqL K H a (ns.map V.int) ∧ ns.length < 1000 ∧ ∀ d l H', Same H H' → H d = none → Fd l H' d → Q (.ref d) H'
def spDraw : Sp := fun vs H Q _ => ∃ d l m, vs = [.ref d, .int m] ∧ Fd l H d ∧ 0 < m ∧ m < 1000000 ∧ ∀ r H', 0 ≤ r → r < m → Fd l H' d → SX d H H' → Q (.int r) H'
section
variable {P : Program} {w : World} {K : PySem.W.Frag} {mg : Str → Option Value} {base : Heap}
theorem sc25 : FnScope ["_law_script"] ["_law_script"] (defScope (top 25)) := ⟨rfl, rfl, rfl, by decide +kernel, rfl, by decide +kernel, by decide +kernel⟩
theorem ok_feed {f : Addr} {fd : FuncData} (F : Fun K "_law_feed" "_law_feed" (top 25) f fd) (G : Gb mg) : FnOk P w K mg base CX0 1 f fd ["_law_script"] (spFeed K) := by
  refine F.ok sc25 (fun vs H Q E h => ?_) (fun cdv A outer s H vs Q E hr h => ?_)
  · obtain ⟨a, ns, rfl, _⟩ := h
    rfl
  · obtain ⟨a, ns, rfl, ha, hn, q⟩ := h
    refine ⟨_, pss_one (ps_ret (pe_disp (pps_cons pe_str (pe_callTy call_list_of (by rfl) G.list PyProof.Rows.boot_list (pa_cons (pe_slice sl_list (pv 0) po_none (po_some pe_int)) pa_nil))
      (pps_cons pe_str pe_int (pps_cons pe_str pe_int (pps_cons pe_str pe_int pps_nil)))) (by rfl) (by rfl) (fun z => by cases z) (by decide))), ?_⟩
    obtain ⟨ms, em, hm⟩ := cutV_map ns none (some 63)
    intro d hd
    have s1 : Same H (upd H d (.dK [])) := Same.new hd
    refine ⟨_, rfl, _, rfl, a, ns.map V.int, rfl, ?_, fun p hp => ?_⟩
    · exact sql_mono ha s1
    rw [em]
    refine ⟨p, _, rfl, .inl (SqL.of upd_same), fun l hl => ?_⟩
    have s2 : Same H (upd (upd H d (.dK [])) p (.lst (ms.map V.int))) := Same.at_new s1 (Same.no s1 hp)
    have s3 : Same H (upd (upd (upd H d (.dK [])) p (.lst (ms.map V.int))) l (.lst (ms.map V.int))) := Same.at_new s2 (Same.no s2 hl)
    have hd2 : (upd (upd H d (.dK [])) p (.lst (ms.map V.int))) d = some (.dK []) := by rw [upd_ne (ne_of_none upd_same hp)]; exact upd_same
    have hd3 : (upd (upd (upd H d (.dK [])) p (.lst (ms.map V.int))) l (.lst (ms.map V.int))) d = some (.dK []) := by rw [upd_ne (ne_of_none hd2 hl)]; exact hd2
    have hl3 : (upd (upd (upd H d (.dK [])) p (.lst (ms.map V.int))) l (.lst (ms.map V.int))) l = some (.lst (ms.map V.int)) := upd_same
    have nl : l ≠ d := (ne_of_none hd2 hl).symm
    refine ⟨hd3, fdL l 0 0 0, rfl, (by show 4 ≤ 15; omega), ?_⟩
    exact q d l _ (Same.at_new s3 hd) hd ⟨ms, 0, 0, 0, upd_same, by rw [upd_ne nl]; exact hl3, by omega⟩
abbrev N26 : List Str := ["_law_feed_here", "_law_many", "_law_digit", "_law_spot", "_law_cell", "_law_mixed"]
theorem sc26 : FnScope N26 ["_law_feed_here", "_law_many"] (defScope (top 26)) := ⟨rfl, rfl, rfl, by decide +kernel, rfl, by decide +kernel, by decide +kernel⟩
theorem ok_draw {f : Addr} {fd : FuncData} (F : Fun K "_law_draw" "_law_draw" (top 26) f fd) (G : Gb mg) : FnOk P w K mg base CX0 1 f fd ["_law_feed_here", "_law_many"] spDraw := by
  refine F.ok sc26 (fun vs H Q E h => ?_) (fun cdv A outer s H vs Q E hr h => ?_)
  · obtain ⟨d, l, m, rfl, _⟩ := h
    rfl
  · obtain ⟨d, l, m, rfl, ⟨ns, at0, lf, c, hd, hl, hn⟩, hm0, hm1, q⟩ := h
    have nd := sc26.nd
    have hu := hu_of hr
    refine ⟨_, pss_cons (ps_dput hu (pv 0) pe_str (pe_op op_add (pe_dget hu (pv 0) pe_str (fun _ _ => rfl)) pe_int) rfl)
      (pss_cons (ps_if (pt_cmpR op_gt (pe_dget hu (pv 0) pe_str (fun _ _ => rfl)) pe_int (nomark _))
        (pss_cons (ps_set (i := 2) nd rfl (Or.inl rfl) (pe_op op_modN (pe_callTy call_int1 (by rfl) G.int PyProof.Rows.boot_int (pa_cons (pe_dget hu (pv 0) pe_str (fun _ _ => rfl)) pa_nil)) (pv 1)))
        (pss_cons (ps_dput hu (pv 0) pe_str (pe_op op_fdivN (pe_dget hu (pv 0) pe_str (fun _ _ => rfl)) (pv 1)) rfl)
        (pss_one (ps_ret (pv 2))))) pss_nil)
      (pss_cons (ps_set (i := 3) nd rfl (Or.inl rfl) (pe_dget hu (pv 0) pe_str (fun _ _ => rfl)))
      (pss_cons (ps_dput hu (pv 0) pe_str (pe_op op_add (pv 3) pe_int) rfl)
      (pss_cons (ps_set (i := 4) nd rfl (Or.inl rfl) (pe_ifExp (pt_cmpR (op_neD hr.units) (pe_dget hu (pv 0) pe_str (fun _ _ => rfl)) (pe_lst pa_nil) (nomark _))
        (pe_ix ix_list (pe_dget hu (pv 0) pe_str (fun _ _ => rfl)) (pe_op op_modN (pe_callTy call_int1 (by rfl) G.int PyProof.Rows.boot_int (pa_cons (pv 3) pa_nil)) (pe_callB call_len_seq (by rfl) G.len PySem.boot_len (pa_cons (pe_dget hu (pv 0) pe_str (fun _ _ => rfl)) pa_nil))) (fun _ _ => rfl))
        pe_int))
      (pss_cons (ps_if (PW.pt (pw_and (pt_cmpR op_ge (pv 4) (pe_op op_pow pe_int pe_int) (nomark _)) (pw_and1 (pt_cmpR op_lt (pv 3) (pe_callB call_len_seq (by rfl) G.len PySem.boot_len (pa_cons (pe_dget hu (pv 0) pe_str (fun _ _ => rfl)) pa_nil)) (nomark _)))))
        (pss_cons (ps_dput hu (pv 0) pe_str (pe_op op_fdivN (pv 4) (pv 1)) rfl) (pss_one (ps_ret (pe_op op_modN (pe_callTy call_int1 (by rfl) G.int PyProof.Rows.boot_int (pa_cons (pv 4) pa_nil)) (pv 1))))) pss_nil)
      (pss_cons (ps_set (i := 5) nd rfl (Or.inl rfl) (pe_op op_modN (pe_callTy call_int1 (by rfl) G.int PyProof.Rows.boot_int (pa_cons (pe_op op_add (pe_op op_add (pe_op op_modN (pe_callTy call_int1 (by rfl) G.int PyProof.Rows.boot_int (pa_cons (pv 4) pa_nil)) pe_int) (pe_op op_mul pe_int (pe_dget hu (pv 0) pe_str (fun _ _ => rfl)))) pe_int) pa_nil)) pe_int))
      (pss_cons (ps_set (i := 5) nd rfl (Or.inl rfl) (pe_op op_modN (pe_callTy call_int1 (by rfl) G.int PyProof.Rows.boot_int (pa_cons (pe_op op_add (pe_op op_add (pe_op op_mul (pv 5) (pv 5)) (pe_op op_mul pe_int (pe_dget hu (pv 0) pe_str (fun _ _ => rfl)))) pe_int) pa_nil)) pe_int))
      (pss_one (ps_ret (pe_op op_modN (pe_callTy call_int1 (by rfl) G.int PyProof.Rows.boot_int (pa_cons (pe_op op_fdivN (pe_op op_modN (pe_callTy call_int1 (by rfl) G.int PyProof.Rows.boot_int (pa_cons (pe_op op_add (pe_op op_mul (pv 5) (pv 5)) (pe_op op_mul pe_int (pv 5))) pa_nil)) pe_int) pe_int) pa_nil)) (pv 1)))))))))))
      , ?_⟩
    have nl : l ≠ d := fun z => by rw [z, hd] at hl; cases hl
    refine ⟨_, rfl, d, _, rfl, g_count hd, _, _, rfl, rfl, _, rfl, d, _, rfl, u_count hd, ?_⟩
    have hl := (upd_ne (H := H) (o := fdD l at0 lf (c + 1)) nl).trans hl
    have x1 : SX d H (upd H d (fdD l at0 lf (c + 1))) := SX.put
    have hd : (upd H d (fdD l at0 lf (c + 1))) d = some (fdD l at0 lf (c + 1)) := upd_same
    generalize upd H d (fdD l at0 lf (c + 1)) = H1 at x1 hd hl
    generalize c + 1 = c1 at hd
    have hms : m ≠ 0 ∧ m.natAbs < 1073741824 := by omega
    have rng : ∀ i : Int, 0 ≤ i.fmod m ∧ i.fmod m < m := fun i => fm_nn hm0
    refine ⟨_, rfl, d, _, rfl, g_left hd, _, _, rfl, rfl, _, rfl, ?_⟩
    refine ifB (fun hp => ?_) (fun hp => ?_)
    · refine ⟨_, rfl, d, _, rfl, g_left hd, .inl ⟨_, rfl, _, rfl, _, _, rfl, rfl, hms.1, ?_⟩⟩
      refine ⟨_, rfl, d, _, rfl, g_left hd, _, rfl, _, _, rfl, rfl, hms, _, rfl, d, _, rfl, u_left hd, ?_⟩
      refine ⟨_, rfl, ?_⟩
      have hl3 := (upd_ne (H := H1) (o := fdD l at0 (lf.fdiv m) c1) nl).trans hl
      exact q _ _ (rng _).1 (rng _).2 ⟨ns, _, _, _, upd_same, hl3, hn⟩ (SX.tr x1 SX.put)
    refine ⟨_, rfl, d, _, rfl, g_at hd, ?_⟩
    refine ⟨_, rfl, _, _, rfl, rfl, _, rfl, d, _, rfl, u_at hd, ?_⟩
    have x2 : SX d H (upd H1 d (fdD l (at0 + 1) lf c1)) := SX.tr x1 SX.put
    have hl := (upd_ne (H := H1) (o := fdD l (at0 + 1) lf c1) nl).trans hl
    have hd : (upd H1 d (fdD l (at0 + 1) lf c1)) d = some (fdD l (at0 + 1) lf c1) := upd_same
    generalize upd H1 d (fdD l (at0 + 1) lf c1) = H2 at x2 hd hl
    -- the rest, from the cell
    refine ⟨_, rfl, d, _, rfl, g_cells hd, Nat.zero_le _, fun e he => ⟨.list (ns.map PyData.int), .list [], .lst (SqL.of (by rw [upd_ne (ne_of_none hl he)]; exact hl)) (dp_ints ns), .lst (SqL.of upd_same) .nil, ?_, by decide, _, rfl, ?_⟩⟩
    · refine sh_of ?_ ?_
      · simp only [PyData.canLay0, lay_ints]
      · simp only [PyData.depth, dep_ints]
        decide
    have e0 : PyData.eqv (.list (ns.map PyData.int)) (.list []) = decide (ns = []) := by
      have := eqv_ints ns []
      rw [List.map_nil] at this
      simp only [PyData.eqv, this]
    rw [e0]
    have x3 : SX d H (upd H2 e (.lst [])) := SX.tr x2 (SX.of (Same.new he))
    have hl : (upd H2 e (.lst [])) l = some (.lst (ns.map V.int)) := by rw [upd_ne (ne_of_none hl he)]; exact hl
    have hd : (upd H2 e (.lst [])) d = some (fdD l (at0 + 1) lf c1) := by rw [upd_ne (ne_of_none hd he)]; exact hd
    generalize upd H2 e (.lst []) = H3 at x3 hl hd
    generalize at0 + 1 = at1 at hd
    refine if_te (H := H3) (fun hc q0 => ?_) (fun hc q0 => q0 59) (fun cell => ?_)
    · have hne : ns ≠ [] := fun z => by rw [z] at hc; exact absurd hc (by decide)
      have hpos : 0 < ns.length := List.length_pos_iff.mpr hne
      obtain ⟨k, hk⟩ := at_fm (i := at0) hpos
      refine ⟨_, rfl, d, _, rfl, g_cells hd, _, rfl, .inl ⟨_, rfl, _, rfl, d, _, rfl, g_cells hd, l, _, rfl, .inl (SqL.of hl), _, _, rfl, rfl, ?_, l, _, _, _, rfl, rfl, SqL.of hl, hk, q0 k⟩⟩
      rw [List.length_map]
      omega
    have r1 : ∀ i : Int, 0 ≤ i.fmod 2147483399 ∧ i.fmod 2147483399 < 2147483399 := fun i => fm_nn (by decide)
    have r2 : ∀ i : Int, 0 ≤ i.fmod 2147483353 ∧ i.fmod 2147483353 < 2147483353 := fun i => fm_nn (by decide)
    have fin : ∀ r : Int, 0 ≤ r → r < m → Q (.int r) H3 := fun r h1 h2 => q r H3 h1 h2 ⟨ns, _, _, _, hd, hl, hn⟩ x3
    refine ⟨_, rfl, _, _, rfl, rfl, ⟨by decide, by decide, by decide⟩, _, _, rfl, rfl, _, rfl, ?_⟩
    refine ifB (fun h1 => ?_) (fun h1 => ?_)
    refine ⟨_, rfl, _, rfl, d, _, rfl, g_cells hd, l, _, rfl, .inl (SqL.of hl), _, _, rfl, rfl, _, rfl, ?_⟩
    refine ifB (fun h2 => ?_) (fun h2 => ?_)
    · refine ⟨_, rfl, _, rfl, _, _, rfl, rfl, hms, _, rfl, d, _, rfl, u_left hd, ?_⟩
      have hl4 := (upd_ne (H := H3) (o := fdD l at1 (cell.fdiv m) c1) nl).trans hl
      exact ⟨_, rfl, .inl ⟨_, rfl, _, rfl, _, _, rfl, rfl, hms.1, q _ _ (rng _).1 (rng _).2 ⟨ns, _, _, _, upd_same, hl4, hn⟩ (SX.tr x3 SX.put)⟩⟩
    all_goals have w1 : ∀ i : Int, -(2 ^ 64) < i.fmod 2147483399 ∧ i.fmod 2147483399 < 2 ^ 64 := fun i => by have := r1 i; omega
    all_goals have w2 : ∀ i : Int, -(2 ^ 64) < i.fmod 2147483353 ∧ i.fmod 2147483353 < 2 ^ 64 := fun i => by have := r2 i; omega
    all_goals
      refine ⟨_, rfl, .inl ⟨_, rfl, _, _, rfl, rfl, (by show (1000000427 : Int) ≠ 0; decide), _, rfl, d, _, rfl, g_count hd, _, _, rfl, rfl, .inl ⟨by decide, by decide⟩, _, _, rfl, rfl, _, _, rfl, rfl, .inl ⟨_, rfl, _, _, rfl, rfl, (by show (2147483399 : Int) ≠ 0; decide), ?_⟩⟩⟩
      refine ⟨_, rfl, _, rfl, _, _, rfl, rfl, .inl (w1 _), _, rfl, d, _, rfl, g_count hd, _, _, rfl, rfl, .inl ⟨by decide, by decide⟩, _, _, rfl, rfl, _, _, rfl, rfl, .inl ⟨_, rfl, _, _, rfl, rfl, (by show (2147483353 : Int) ≠ 0; decide), ?_⟩⟩
      exact ⟨_, rfl, _, rfl, _, _, rfl, rfl, .inl (w2 _), _, rfl, _, _, rfl, rfl, .inl ⟨by decide, by decide⟩, _, _, rfl, rfl, .inl ⟨_, rfl, _, _, rfl, rfl, (by show (2147483323 : Int) ≠ 0; decide), _, _, rfl, rfl, (by show (16 : Int) ≠ 0 ∧ (16 : Int).natAbs < 1073741824; decide), .inl ⟨_, rfl, _, rfl, _, _, rfl, rfl, hms.1, fin _ (rng _).1 (rng _).2⟩⟩⟩
end
end K13

namespace K13
open PySem PySem.Spec PyProof.Rows L2
theorem SX.no {d p : Addr} {H H1 : Hp} (s : SX d H H1) (n : d ≠ p) (h : H1 p = none) : H p = none := by
  cases e : H p with
  | none => rfl
  | some o => rw [s _ _ n.symm e] at h; cases h
theorem SX.at_new {d p : Addr} {H H1 : Hp} {o : HO} (s : SX d H H1) (h : H p = none) : SX d H (upd H1 p o) := fun b u n e => by
  rw [upd_ne (ne_of_none e h)]
  exact s _ _ n e
theorem SX.rf (d : Addr) (H : Hp) : SX d H H := fun _ _ _ h => h
theorem Fd.upd {l p : Addr} {H : Hp} {d : Addr} {o : HO} (h : Fd l H d) (n1 : d ≠ p) (n2 : l ≠ p) : Fd l (upd H p o) d :=
  let ⟨ns, a, lf, c, h1, h2, h3⟩ := h
  ⟨ns, a, lf, c, by rw [upd_ne n1]; exact h1, by rw [upd_ne n2]; exact h2, h3⟩
theorem Fd.at {l p : Addr} {H : Hp} {d : Addr} {o : HO} (h : Fd l H d) (hn : H p = none) : Fd l (L2.upd H p o) d :=
  let ⟨ns, a, lf, c, h1, h2, h3⟩ := h
  Fd.upd ⟨ns, a, lf, c, h1, h2, h3⟩ (ne_of_none h1 hn) (ne_of_none h2 hn)
theorem Fd.new_d {l p : Addr} {H : Hp} {d : Addr} (h : Fd l H d) (hn : H p = none) : d ≠ p := let ⟨ns, a, lf, c, h1, h2, h3⟩ := h; ne_of_none h1 hn
theorem Fd.new_l {l p : Addr} {H : Hp} {d : Addr} (h : Fd l H d) (hn : H p = none) : l ≠ p := let ⟨ns, a, lf, c, h1, h2, h3⟩ := h; ne_of_none h2 hn
theorem erase_map {α β : Type} (f : α → β) : ∀ (l : List α) (j : Nat), (l.map f).eraseIdx j = (l.eraseIdx j).map f
  | [], _ => rfl
  | _ :: _, 0 => rfl
  | a :: l, j + 1 => by
    rw [List.map_cons, List.eraseIdx_cons_succ, erase_map f l j, List.eraseIdx_cons_succ, List.map_cons]
theorem get_erase {α : Type} : ∀ (l : List α) (j : Nat) (h : j < l.length), (l[j] :: l.eraseIdx j).Perm l
  | a :: l, 0, _ => List.Perm.refl _
  | a :: l, j + 1, h => by
    have hj : j < l.length := by simpa using h
    have ih := get_erase l j hj
    exact (List.Perm.swap a (l[j]'hj) (l.eraseIdx j)).trans (ih.cons a)
def spGrip : Sp := fun vs H Q _ => ∃ d l, vs = [.ref d, .int 6, .int 3] ∧ Fd l H d ∧ ∀ v ks H', nsV H' v ks → ks.length ≤ 3 → (∀ k, k ∈ ks → 0 ≤ k ∧ k < 6) → SS ks → Fd l H' d → SX d H H' → Q v H'
def six : List Int := [0, 1, 2, 3, 4, 5]
theorem rg_six : rgV 0 6 = six.map V.int := by rfl
section
variable {P : Program} {w : World} {K : PySem.W.Frag} {mg : Str → Option Value} {base : Heap}
abbrev N27 : List Str := ["_law_feed_here", "_law_many", "_law_most", "_law_pool", "_law_found", "_law_k"]
theorem sc27 : FnScope N27 ["_law_feed_here", "_law_many", "_law_most"] (defScope (top 27)) := ⟨rfl, rfl, rfl, by decide +kernel, rfl, by decide +kernel, by decide +kernel⟩
theorem ok_grip {f : Addr} {fd : FuncData} (F : Fun K "_law_grip" "_law_grip" (top 27) f fd) (G : Gb mg) (C1 : Cl1 P w K mg base 1 "_law_draw" spDraw) : FnOk P w K mg base CX0 2 f fd ["_law_feed_here", "_law_many", "_law_most"] spGrip := by
  refine F.ok sc27 (fun vs H Q E h => ?_) (fun cdv A outer s H vs Q E hr h => ?_)
  · obtain ⟨d, l, rfl, _⟩ := h
    rfl
  · obtain ⟨d, l, rfl, hF, q⟩ := h
    have nd := sc27.nd
    refine ⟨_, pss_cons (ps_par (i := 3) (j := 4) rfl nd rfl rfl (by decide) (by rfl) (by rfl) (pa_cons (pe_listRg rfl (by rfl) G.list (prg_1 (by rfl) G.range (pv 1))) (pa_cons (pe_lst pa_nil) pa_nil)) (by rfl))
      (pss_cons (ps_for PassesOwn.never rfl (pi_range1 (by rfl) G.range (pa_cons (pe_cl C1 hr (pa_cons (pv 0) (pa_cons (pe_op op_add (pv 2) pe_int) pa_nil))) pa_nil)) (pg_name (i := 5) nd rfl (Or.inl rfl))
        (pss_one (ps_expr (pe_bm PySem.F.plainAttrs_list PySem.F.slot_list_append PySem.F.type_list_append mt_append (pv 4) (pa_cons (pe_bm PySem.F.plainAttrs_list PySem.F.slot_list_pop PySem.F.type_list_pop mt_popAt (pv 3)
          (pa_cons (pe_cl C1 hr (pa_cons (pv 0) (pa_cons (pe_callB call_len_seq (by rfl) G.len PySem.boot_len (pa_cons (pv 3) pa_nil)) pa_nil))) pa_nil)) pa_nil)))))
      (pss_one (ps_ret (pe_callTy call_tuple_of (by rfl) G.tuple PyProof.Rows.boot_tuple (pa_cons (pe_callB cr_sortedI (by rfl) G.sorted PyProof.Rows.boot_sorted (pa_cons (pv 4) pa_nil)) pa_nil))))), ?_⟩
    refine ⟨_, rfl, 6, rfl, RgOk.of_le (by decide) (by decide) (by decide) (by decide), fun pl hpl => ⟨Nat.zero_le _, fun fl hfl => ⟨_, _, rfl, ?_⟩⟩⟩
    rw [rg_six] at hfl ⊢
    have nd1 := hF.new_d hpl
    have nl1 := hF.new_l hpl
    have x1 : SX d H (upd (upd H pl (.lst (six.map V.int))) fl (.lst [])) := SX.at_new (SX.at_new (SX.rf d H) hpl) (Same.no (Same.new hpl) hfl)
    have f1 : Fd l (upd (upd H pl (.lst (six.map V.int))) fl (.lst [])) d := (hF.at hpl).at hfl
    have nd2 := (hF.at (o := .lst (six.map V.int)) hpl).new_d hfl
    have nl2 := (hF.at (o := .lst (six.map V.int)) hpl).new_l hfl
    have npf : pl ≠ fl := ne_of_none (upd_same (H := H) (a := pl) (o := .lst (six.map V.int))) hfl
    have hp1 : (upd (upd H pl (.lst (six.map V.int))) fl (.lst [])) pl = some (.lst (six.map V.int)) := by rw [upd_ne npf]; exact upd_same
    have hf1 : (upd (upd H pl (.lst (six.map V.int))) fl (.lst [])) fl = some (.lst (([] : List Int).map V.int)) := upd_same
    have hpl0 : H pl = none := hpl
    have hfl0 : H fl = none := Same.no (Same.new hpl) hfl
    generalize upd (upd H pl (.lst (six.map V.int))) fl (.lst []) = H1 at x1 f1 hp1 hf1
    refine ⟨_, rfl, _, rfl, _, _, rfl, rfl, d, l, 4, rfl, f1, by decide, by decide, fun r H2 r0 r1 f2 x2 => ⟨r, rfl, by omega, by omega, for_range (lo := 0) (n := r.toNat) (fun i σ H' => ∃ pool acc kv, σ = [some (.ref d), some (.int 6), some (.int 3), some (.ref pl), some (.ref fl), kv] ∧ SX d H H' ∧ Fd l H' d ∧ H' pl = some (.lst (pool.map V.int)) ∧ H' fl = some (.lst (acc.map V.int)) ∧ acc.length = i ∧ (acc ++ pool).Perm six)
      ⟨six, [], none, rfl, SX.tr x1 x2, f2, x2 _ _ nd1.symm hp1, x2 _ _ nd2.symm hf1, rfl, List.Perm.refl _⟩ ?_ ?_⟩⟩
    · rintro i σ H3 hi ⟨pool, acc, kv, rfl, x3, f3, hp3, hf3, hl3, pm⟩
      have hlen := pm.length_eq
      rw [List.length_append, hl3] at hlen
      have hlen : i + pool.length = 6 := hlen
      have h3k : 3000 < sizeLine := by decide
      refine ⟨_, rfl, .inl ⟨rfl, _, SqL.of hf3⟩, _, rfl, .inl ⟨rfl, _, SqL.of hp3⟩, _, rfl, _, rfl, pl, _, rfl, .inl (SqL.of hp3), d, l, _, rfl, f3, ?_, ?_, fun k H4 k0 k1 f4 x4 => ?_⟩
      · rw [List.length_map]; omega
      · rw [List.length_map]; omega
      rw [List.length_map] at k1
      obtain ⟨j, rfl⟩ : ∃ j : Nat, k = (j : Int) := ⟨k.toNat, by omega⟩
      have hj : j < pool.length := by omega
      have hp4 := x4 _ _ nd1.symm hp3
      have hf4 := x4 _ _ nd2.symm hf3
      refine ⟨pl, _, _, j, V.int pool[j], rfl, rfl, hp4, by omega, by omega, ?_, by rw [List.getElem?_map, List.getElem?_eq_getElem hj]; rfl, ?_⟩
      · rw [List.length_map]
        exact seqIndex_at (by omega) (by omega)
      have hf5 : (upd H4 pl (.lst ((pool.map V.int).eraseIdx j))) fl = some (.lst (acc.map V.int)) := by rw [upd_ne npf.symm]; exact hf4
      refine ⟨fl, _, _, rfl, rfl, hf5, by rw [List.length_map]; omega, pool.eraseIdx j, acc ++ [pool[j]], _, rfl, SX.at_new (SX.at_new (SX.tr x3 x4) hpl0) hfl0, (f4.upd nd1 nl1).upd nd2 nl2, ?_, ?_, by rw [List.length_append, hl3]; rfl, ?_⟩
      · rw [upd_ne npf, upd_same, erase_map]
      · rw [upd_same, List.map_append]
        rfl
      · rw [List.append_assoc]
        exact ((get_erase pool j hj).append_left acc).trans pm
    · rintro σ H3 ⟨pool, acc, kv, rfl, x3, f3, hp3, hf3, hl3, pm⟩
      refine ⟨_, rfl, fl, acc, rfl, SqL.of hf3, fun ns' p hpn hps hp => ?_⟩
      refine ⟨p, _, rfl, .inl ⟨SqL.of upd_same, fun l2 hl2 => ?_⟩⟩
      have hnd : acc.Nodup := by
        have : (acc ++ pool).Nodup := pm.nodup_iff.mpr (by decide)
        exact (List.nodup_append.mp this).1
      have hnn : ns'.Nodup := hpn.nodup_iff.mpr hnd
      refine q (.ref l2) ns' _ ⟨l2, rfl, upd_same⟩ ?_ (fun k hk => ?_) ?_ ((f3.at hp).at hl2) ?_
      · rw [hpn.length_eq, hl3]; omega
      · have h1 : k ∈ acc := hpn.mem_iff.mp hk
        have h2 : k ∈ six := pm.mem_iff.mp (List.mem_append_left _ h1)
        unfold six at h2
        simp only [List.mem_cons, List.not_mem_nil, or_false] at h2
        omega
      · exact List.Pairwise.imp₂ (R := fun a b => a ≤ b) (S := fun a b => a ≠ b) (fun a b h1 h2 => by omega) hps hnn
      · refine SX.at_new (SX.at_new x3 (x3.no (f3.new_d hp) hp)) ?_
        have := Same.no (Same.new hp) hl2
        exact x3.no (f3.new_d this) this
end
end K13

namespace K13
open PySem PySem.Spec PyProof.Rows L2
section
variable {X : Cx}
/-- in a list of data -/
def rInL (K : PySem.W.Frag) : R2 := fun x y H Q => ∃ d ds, Dp K H x d ∧ Dp K H y (.list ds) ∧ SeqAt.shaped d = true ∧ SeqAt.shaped (.list ds) = true ∧ Q (.bl (ds.any fun z => PyData.eqv z d)) H
theorem op_inL (hu : X.A.units + 65 < cLine) : OpR X (compareOp .In) (rInL X.K) := by
  intro pins s σ H x y v u Q I rx ry ⟨d, ds, g1, g2, g3, g4, q⟩
  obtain ⟨as, e1⟩ := Dp.reads I d x v g1 rx
  obtain ⟨cs, e2⟩ := Dp.reads I _ y u g2 ry
  exact SeqAt.in_list_reads e2 e1 (SeqAt.canLay_of_shaped (d := .list ds) g4) (SeqAt.canLay_of_shaped g3) (room_in_shaped g3 hu) ⟨V.bl _, H, I, rfl, q⟩
end
/-! ### ways that meet -/
theorem if_jn {c : Bool} {t u : TE} {σ : L2.St} {H : Hp} {Q : VK} (J : V → Hp → Prop) (a : c = true → ∀ Q' : VK, (∀ v H', J v H' → Q' v H') → t σ H Q') (b : c = false → ∀ Q' : VK, (∀ v H', J v H' → Q' v H') → u σ H Q') (q : ∀ v H', J v H' → Q v H') : if c = true then t σ H Q else u σ H Q := ifB (fun h => a h Q q) fun h => b h Q q
theorem if_sj {c : Bool} {t u : TS} {σ : L2.St} {H : Hp} {D : Ends} (J : L2.St → Hp → Prop) (a : c = true → ∀ D' : Ends, (∀ σ' H', J σ' H' → D'.nx σ' H') → t D' σ H) (b : c = false → ∀ D' : Ends, (∀ σ' H', J σ' H' → D'.nx σ' H') → u D' σ H) (q : ∀ σ' H', J σ' H' → D.nx σ' H') : if c = true then t D σ H else u D σ H := ifB (fun h => a h D q) fun h => b h D q
theorem if_tt {c : Bool} {t : TT} {σ : L2.St} {H : Hp} {Q : Bool → Hp → Prop} (J : Bool → Hp → Prop) (a : c = true → ∀ Q' : Bool → Hp → Prop, (∀ b H', J b H' → Q' b H') → t σ H Q') (b : c = false → J false H) (q : ∀ b H', J b H' → Q b H') : if c = true then t σ H Q else Q false H := ifB (fun h => a h Q q) fun h => q _ _ (b h)
/-! ### the heap behind draws and own lists -/
structure BS (d l : Addr) (H H' : Hp) : Prop where
  x : SX d H H'
  f : Fd l H' d
structure Own (d l : Addr) (H H' : Hp) (p : Addr) (xs : List V) : Prop where
  h : H' p = some (.lst xs)
  n : H p = none
  d : d ≠ p
  l : l ≠ p
section
variable {d l p : Addr} {H H' H2 : Hp} {xs ys : List V} {o : HO}
theorem BS.no (b : BS d l H H') (h : H' p = none) : H p = none := b.x.no (b.f.new_d h) h
theorem BS.new (b : BS d l H H') (h : H' p = none) : BS d l H (upd H' p o) := ⟨SX.at_new b.x (b.no h), b.f.at h⟩
theorem BS.draw (b : BS d l H H') (f : Fd l H2 d) (x : SX d H' H2) : BS d l H H2 := ⟨SX.tr b.x x, f⟩
theorem BS.same (b : BS d l H H') (s : Same H' H2) : BS d l H H2 := ⟨SX.tr b.x (SX.of s), b.f.mono s⟩
theorem BS.put (b : BS d l H H') (w : Own d l H H' p xs) : BS d l H (upd H' p o) := ⟨SX.at_new b.x w.n, b.f.upd w.d w.l⟩
theorem Own.new (b : BS d l H H') (h : H' p = none) : Own d l H (upd H' p (.lst xs)) p xs := ⟨upd_same, b.no h, b.f.new_d h, b.f.new_l h⟩
theorem Own.draw (w : Own d l H H' p xs) (x : SX d H' H2) : Own d l H H2 p xs := ⟨x _ _ w.d.symm w.h, w.n, w.d, w.l⟩
theorem Own.same (w : Own d l H H' p xs) (s : Same H' H2) : Own d l H H2 p xs := ⟨s _ _ w.h, w.n, w.d, w.l⟩
theorem Own.oth {q : Addr} (w : Own d l H H' p xs) (n : p ≠ q) : Own d l H (upd H' q o) p xs := ⟨by rw [upd_ne n]; exact w.h, w.n, w.d, w.l⟩
theorem Own.put (w : Own d l H H' p xs) : Own d l H (upd H' p (.lst ys)) p ys := ⟨upd_same, w.n, w.d, w.l⟩
theorem Own.tk (w : Own d l H H' p xs) : TK H' (upd H' p o) := TK.put w.h fun xs z => by cases z
end
/-- what stands while a box is drawn -/
structure Mid (d l : Addr) (H : Hp) (fl pl sl nr : Addr) (acc : List V) (bs : List Bx) (vg : V) (t : Th) (near : List V) (nts : List Th) (H' : Hp) (pool som : List Int) : Prop where
  b : BS d l H H'
  w : Own d l H H' fl acc
  r : Paired (bxV H') acc bs
  ht : thV H' vg t
  p : Own d l H H' pl (pool.map V.int)
  q : Own d l H H' sl (som.map V.int)
  n : Own d l H H' nr near
  m : Paired (thV H') near nts
section
variable {d l : Addr} {H : Hp} {fl pl sl nr a : Addr} {acc : List V} {bs : List Bx} {vg : V} {t : Th} {near xs : List V} {nts : List Th} {H' H2 : Hp} {pool som pool2 som2 : List Int} {o : HO}
theorem Mid.draw (M : Mid d l H fl pl sl nr acc bs vg t near nts H' pool som) (f : Fd l H2 d) (x : SX d H' H2) : Mid d l H fl pl sl nr acc bs vg t near nts H2 pool som :=
  ⟨M.b.draw f x, M.w.draw x, pMono (fun _ _ z => z.mono (M.b.f.tk x)) M.r, M.ht.mono (M.b.f.tk x), M.p.draw x, M.q.draw x, M.n.draw x, pMono (fun _ _ z => z.mono (M.b.f.tk x)) M.m⟩
theorem Mid.same (M : Mid d l H fl pl sl nr acc bs vg t near nts H' pool som) (s : Same H' H2) : Mid d l H fl pl sl nr acc bs vg t near nts H2 pool som :=
  ⟨M.b.same s, M.w.same s, pMono (fun _ _ z => z.mono (TK.of s)) M.r, M.ht.mono (TK.of s), M.p.same s, M.q.same s, M.n.same s, pMono (fun _ _ z => z.mono (TK.of s)) M.m⟩
theorem Mid.putS (M : Mid d l H fl pl sl nr acc bs vg t near nts H' pool som) (n1 : fl ≠ sl) (n2 : pl ≠ sl) (n3 : sl ≠ nr) : Mid d l H fl pl sl nr acc bs vg t near nts (upd H' sl (.lst (som2.map V.int))) pool som2 :=
  have k : TK H' (upd H' sl (.lst (som2.map V.int))) := M.q.tk
  ⟨M.b.put M.q, M.w.oth n1, pMono (fun _ _ z => z.mono k) M.r, M.ht.mono k, M.p.oth n2, M.q.put, M.n.oth n3.symm, pMono (fun _ _ z => z.mono k) M.m⟩
theorem Mid.putP (M : Mid d l H fl pl sl nr acc bs vg t near nts H' pool som) (n1 : fl ≠ pl) (n2 : pl ≠ sl) (n3 : pl ≠ nr) : Mid d l H fl pl sl nr acc bs vg t near nts (upd H' pl (.lst (pool2.map V.int))) pool2 som :=
  have k : TK H' (upd H' pl (.lst (pool2.map V.int))) := M.p.tk
  ⟨M.b.put M.p, M.w.oth n1, pMono (fun _ _ z => z.mono k) M.r, M.ht.mono k, M.p.put, M.q.oth n2.symm, M.n.oth n3.symm, pMono (fun _ _ z => z.mono k) M.m⟩
end
theorem first_at {y : Int} : ∀ {xs : List Int}, y ∈ xs → ∃ j, ∃ h : j < xs.length, xs[j] = y ∧ ∀ m : Nat, m < j → xs[m]? ≠ some y
  | x :: xs, h => by
    by_cases e : x = y
    · exact ⟨0, by simp, e, fun m z => by omega⟩
    · rcases List.mem_cons.mp h with h | h
      · exact absurd h.symm e
      · obtain ⟨j, hj, e1, e2⟩ := first_at h
        refine ⟨j + 1, by simpa using hj, by simpa using e1, fun m z => ?_⟩
        cases m with
        | zero => simpa using e
        | succ m =>
          have := e2 m (by omega)
          simpa using this
theorem ne_nilI (l : List Int) : PyData.eqv (.list (l.map PyData.int)) (.list []) = decide (l = []) := by
  have := eqv_ints l []
  rw [List.map_nil] at this
  simp only [PyData.eqv, this]
/-- x != [] of a list of data -/
theorem ne_nil {α : Type} [DecidableEq α] {f : α → PyData} (g : ∀ a b, PyData.eqv (f a) (f b) = decide (a = b)) (l : List α) : PyData.eqv (.list (l.map f)) (.list []) = decide (l = []) := by
  have := eqv_map g l []
  rw [List.map_nil] at this
  simp only [PyData.eqv, this]
theorem sh_bl {bs : List Bx} (h : Lows bs) : SeqAt.shaped (.list (bs.map bxD)) = true := by
  have g : PyData.depthAll (bs.map bxD) ≤ 2 := dep_map fun x _ => dep_bx x
  refine sh_of ?_ ?_
  · simp only [PyData.canLay0]
    exact lay_map fun x hx => lay_bx (h x hx)
  · simp only [PyData.depth]
    omega
theorem sh_tl {ts : List Th} (h : ∀ t, t ∈ ts → lowT t) : SeqAt.shaped (.list (ts.map thD)) = true := by
  have g : PyData.depthAll (ts.map thD) ≤ 1 := dep_map fun x _ => dep_th x
  refine sh_of ?_ ?_
  · simp only [PyData.canLay0]
    exact lay_map fun x hx => lay_th (h x hx)
  · simp only [PyData.depth]
    omega
theorem sh_il (ns : List Int) : SeqAt.shaped (.list (ns.map PyData.int)) = true := by
  refine sh_of ?_ ?_
  · simp only [PyData.canLay0, lay_ints]
  · simp only [PyData.depth, dep_ints]
    decide
theorem at_words {k : Int} (h0 : 0 ≤ k) (h1 : k < 3) : ∃ x : Str, atI [V.str "memo", V.str "a", V.str "world"] k = some (.str x) ∧ (x = "memo" ∨ x = "a" ∨ x = "world") := by
  have h : k = 0 ∨ k = 1 ∨ k = 2 := by omega
  rcases h with rfl | rfl | rfl
  · exact ⟨_, rfl, .inl rfl⟩
  · exact ⟨_, rfl, .inr (.inl rfl)⟩
  · exact ⟨_, rfl, .inr (.inr rfl)⟩
theorem six_get {j : Nat} (h : j < 6) : six[j]? = some (0 + (j : Int)) := by
  have h : j = 0 ∨ j = 1 ∨ j = 2 ∨ j = 3 ∨ j = 4 ∨ j = 5 := by omega
  rcases h with rfl | rfl | rfl | rfl | rfl | rfl <;> rfl
def pool0 (t : Th) : List Int := six.filter fun k => decide (Th.key k ≠ t)
theorem pool0_len (t : Th) : 5 ≤ (pool0 t).length := by
  cases t with
  | txt x n =>
    have e : pool0 (.txt x n) = six := by
      unfold pool0
      exact List.filter_eq_self.mpr fun k _ => decide_eq_true (by intro z; cases z)
    rw [e]
    decide
  | key g =>
    have e : pool0 (.key g) = six.filter fun k => decide (k ≠ g) := by
      unfold pool0
      exact List.filter_congr fun k _ => decide_eq_decide.mpr (by simp)
    rw [e]
    have h : g = 0 ∨ g = 1 ∨ g = 2 ∨ g = 3 ∨ g = 4 ∨ g = 5 ∨ (g < 0 ∨ 5 < g) := by omega
    rcases h with rfl | rfl | rfl | rfl | rfl | rfl | h
    iterate 6 decide
    have e2 : (six.filter fun k => decide (k ≠ g)) = six := List.filter_eq_self.mpr fun k hk => decide_eq_true (by
      unfold six at hk
      simp only [List.mem_cons, List.not_mem_nil, or_false] at hk
      omega)
    rw [e2]
    decide
theorem mem_pool0 {t : Th} {k : Int} (h : k ∈ pool0 t) : 0 ≤ k ∧ k < 6 ∧ Th.key k ≠ t := by
  obtain ⟨h1, h2⟩ := List.mem_filter.mp h
  unfold six at h1
  simp only [List.mem_cons, List.not_mem_nil, or_false] at h1
  exact ⟨by omega, by omega, of_decide_eq_true h2⟩
theorem pool0_nd (t : Th) : (pool0 t).Nodup := List.Nodup.sublist List.filter_sublist (by decide)
theorem low_words {x : Str} (h : x = "memo" ∨ x = "a" ∨ x = "world") : low x := by
  rcases h with rfl | rfl | rfl <;> (unfold low; decide +kernel)
theorem at_ones {k : Int} (h0 : 0 ≤ k) (h1 : k < 6) : ∃ m : Int, atI [V.int 1, V.int 1, V.int 1, V.int 2, V.int 2, V.int 3] k = some (.int m) ∧ 1 ≤ m ∧ m ≤ 3 := by
  have h : k = 0 ∨ k = 1 ∨ k = 2 ∨ k = 3 ∨ k = 4 ∨ k = 5 := by omega
  rcases h with rfl | rfl | rfl | rfl | rfl | rfl <;> exact ⟨_, rfl, by decide, by decide⟩
section
variable {P : Program} {w : World} {K : PySem.W.Frag} {mg : Str → Option Value} {base : Heap}
def LotB (b : Bx) : Prop := Good b ∧ tinyT b.1 ∧ b.2.length ≤ 3 ∧ ∀ k, k ∈ b.2 → 0 ≤ k ∧ k < 6
def spLot : Sp := fun vs H Q _ => ∃ d l n, vs = [.ref d, .int n, .int 6] ∧ 0 ≤ n ∧ n < 6 ∧ Fd l H d ∧ ∀ v bs H', bsV H' v bs → (∀ b, b ∈ bs → LotB b) → bs.length ≤ 5 → Fd l H' d → SX d H H' → Q v H'
abbrev N28 : List Str := ["_law_feed_here", "_law_size", "_law_many", "_law_found", "_law_k", "_law_goal", "_law_pool", "_law_some", "_law_near", "_law_j", "_law_menu", "_law_key_in", "_law_one"]
theorem sc28 : FnScope N28 ["_law_feed_here", "_law_size", "_law_many"] (defScope (top 28)) := ⟨rfl, rfl, rfl, by decide +kernel, rfl, by decide +kernel, by decide +kernel⟩
theorem ok_lot {f : Addr} {fd : FuncData} (F : Fun K "_law_lot" "_law_lot" (top 28) f fd) (G : Gb mg) (C1 : Cl1 P w K mg base 1 "_law_draw" spDraw) : FnOk P w K mg base CX0 2 f fd ["_law_feed_here", "_law_size", "_law_many"] spLot := by
  refine F.ok sc28 (fun vs H Q E h => ?_) (fun cdv A outer s H vs Q E hr h => ?_)
  · obtain ⟨d, l, n, rfl, _⟩ := h
    rfl
  · obtain ⟨d, l, n, rfl, n0, n1, hF, q⟩ := h
    have nd := sc28.nd
    have hu := hu65 hr
    refine ⟨_, pss_cons (ps_set (i := 3) nd rfl (Or.inl rfl) (pe_lst pa_nil))
      (pss_cons (ps_for PassesOwn.never rfl (pi_range1 (by rfl) G.range (pa_cons (pv 1) pa_nil)) (pg_name (i := 4) nd rfl (Or.inl rfl))
        (pss_cons (ps_if (PW.pt (pw_and (pt_cmpR (op_neD hr.units) (pv 3) (pe_lst pa_nil) (nomark _)) (pw_and1 (pt_cmpR op_eq (pe_cl C1 hr (pa_cons (pv 0) (pa_cons pe_int pa_nil))) pe_int (nomark _)))))
          (pss_cons (ps_expr (pe_bm PySem.F.plainAttrs_list PySem.F.slot_list_append PySem.F.type_list_append mt_append (pv 3) (pa_cons (pe_ix ix_list (pv 3) (pe_cl C1 hr (pa_cons (pv 0) (pa_cons (pe_callB call_len_seq (by rfl) G.len PySem.boot_len (pa_cons (pv 3) pa_nil)) pa_nil))) (fun _ _ => rfl)) pa_nil)))
          (pss_one ps_continue)) pss_nil)
        (pss_cons (ps_set (i := 5) nd rfl (Or.inr rfl) (pe_cl C1 hr (pa_cons (pv 0) (pa_cons (pv 2) pa_nil))))
        (pss_cons (ps_if (pt_cmpR op_eq (pe_cl C1 hr (pa_cons (pv 0) (pa_cons pe_int pa_nil))) pe_int (nomark _))
          (pss_one (ps_set (i := 5) nd rfl (Or.inr rfl) (pe_tup (pa_cons (pe_ix ix_list (pe_lst (pa_cons pe_str (pa_cons pe_str (pa_cons pe_str pa_nil)))) (pe_cl C1 hr (pa_cons (pv 0) (pa_cons pe_int pa_nil))) (fun _ _ => rfl)) (pa_cons (pe_cl C1 hr (pa_cons (pv 0) (pa_cons pe_int pa_nil))) pa_nil))))) pss_nil)
        (pss_cons (ps_par (i := 6) (j := 7) rfl nd rfl rfl (by decide) (by rfl) (by rfl) (pa_cons (pe_lc (own := [("_law_key_in", 11)]) (g := gName 11) (tt := tTest (tOp (rNeD K) (tVar 11) (tVar 5))) (te := tVar 11) rfl nd (pi_range1 (by rfl) G.range (pa_cons (pv 2) pa_nil))
            (blkOk_by (N := N28) (sc := defScope (top 28)) (by decide +kernel)) (fun _ _ _ _ _ => pg_name (i := 11) nd rfl (Or.inl rfl)) (fun _ _ _ _ _ => pts_one (pt_cmpR (op_neD hr.units) (pv 11) (pv 5) (nomark _))) (fun _ _ _ _ _ => pv 11)) (pa_cons (pe_lst pa_nil) pa_nil)) (by rfl))
        (pss_cons (ps_set (i := 8) nd rfl (Or.inr rfl) (pe_op op_cat (pe_lst (pa_cons pe_int (pa_cons pe_int pa_nil))) (pe_lc (own := [("_law_one", 12)]) (g := gName 12) (tt := tYes) (te := tOp (rIxT K) (tVar 12) (tC (.int 0))) rfl nd (pi_list (pv 3))
            (blkOk_by (N := N28) (sc := defScope (top 28)) (by decide +kernel)) (fun _ _ _ _ _ => pg_name (i := 12) nd rfl (Or.inl rfl)) (fun _ _ _ _ _ => pts_nil) (fun _ _ _ _ _ => pe_ix ix_tup (pv 12) pe_int (fun _ _ => rfl)))))
        (pss_cons (ps_for PassesOwn.never rfl (pi_range1 (by rfl) G.range (pa_cons (pe_ix ix_list (pe_lst (pa_cons pe_int (pa_cons pe_int (pa_cons pe_int (pa_cons pe_int (pa_cons pe_int (pa_cons pe_int pa_nil))))))) (pe_cl C1 hr (pa_cons (pv 0) (pa_cons pe_int pa_nil))) (fun _ _ => rfl)) pa_nil)) (pg_name (i := 9) nd rfl (Or.inl rfl))
          (pss_cons (ps_set (i := 10) nd rfl (Or.inl rfl) (pe_ifExp (pt_cmpR op_gt (pe_cl C1 hr (pa_cons (pv 0) (pa_cons pe_int pa_nil))) pe_int (nomark _))
            (pe_lc (own := [("_law_key_in", 11)]) (g := gName 11) (tt := tTest (tOp (rInL K) (tVar 11) (tVar 8))) (te := tVar 11) rfl nd (pi_list (pv 6))
              (blkOk_by (N := N28) (sc := defScope (top 28)) (by decide +kernel)) (fun _ _ _ _ _ => pg_name (i := 11) nd rfl (Or.inl rfl)) (fun _ _ _ _ _ => pts_one (pt_cmpR (op_inL hu) (pv 11) (pv 8) (by rfl))) (fun _ _ _ _ _ => pv 11))
            (pv 6)))
          (pss_cons (ps_expr (pe_bm PySem.F.plainAttrs_list PySem.F.slot_list_append PySem.F.type_list_append mt_append (pv 7) (pa_cons (pe_ifExp (pt_cmpR (op_neD hr.units) (pv 10) (pe_lst pa_nil) (nomark _))
            (pe_ix ix_list (pv 10) (pe_cl C1 hr (pa_cons (pv 0) (pa_cons (pe_callB call_len_seq (by rfl) G.len PySem.boot_len (pa_cons (pv 10) pa_nil)) pa_nil))) (fun _ _ => rfl)) (pe_ix ix_list (pv 6) pe_int (fun _ _ => rfl))) pa_nil)))
          (pss_one (ps_expr (pe_bm PySem.F.plainAttrs_list PySem.F.slot_list_remove PySem.F.type_list_remove mt_remove (pv 6) (pa_cons (pe_ix ix_list (pv 7) (pe_un un_neg pe_int) (fun _ _ => rfl)) pa_nil)))))))
        (pss_one (ps_expr (pe_bm PySem.F.plainAttrs_list PySem.F.slot_list_append PySem.F.type_list_append mt_append (pv 3) (pa_cons (pe_tup (pa_cons (pv 5) (pa_cons (pe_callTy call_tuple_of (by rfl) G.tuple PyProof.Rows.boot_tuple (pa_cons (pe_callB cr_sortedI (by rfl) G.sorted PyProof.Rows.boot_sorted (pa_cons (pv 7) pa_nil)) pa_nil)) pa_nil))) pa_nil)))))))))))
      (pss_one (ps_ret (pe_callTy call_tuple_of (by rfl) G.tuple PyProof.Rows.boot_tuple (pa_cons (pe_ifExp (pt_cmpR op_eq (pe_cl C1 hr (pa_cons (pv 0) (pa_cons pe_int pa_nil))) pe_int (nomark _)) (pe_revL (pv 3)) (pv 3)) pa_nil))))), ?_⟩
    have h3k : 3000 < sizeLine := by decide
    refine ⟨Nat.zero_le _, fun fl hfl => ?_⟩
    have b0 : BS d l H H := ⟨SX.rf d H, hF⟩
    have b1 : BS d l H (upd H fl (.lst [])) := b0.new hfl
    have w1 : Own d l H (upd H fl (.lst [])) fl [] := Own.new b0 hfl
    generalize upd H fl (.lst []) = H1 at b1 w1
    refine ⟨_, rfl, n, rfl, by omega, by omega, for_range (lo := 0) (n := n.toNat) (fun i σ H' => ∃ acc bs o4 o5 o6 o7 o8 o9 o10, σ = [some (.ref d), some (.int n), some (.int 6), some (.ref fl), o4, o5, o6, o7, o8, o9, o10, none, none] ∧ BS d l H H' ∧ Own d l H H' fl acc ∧ acc.length ≤ i ∧ Paired (bxV H') acc bs ∧ ∀ b, b ∈ bs → LotB b)
      ⟨[], [], none, none, none, none, none, none, none, rfl, b1, w1, Nat.le_refl _, .nil, fun b z => by cases z⟩ ?_ ?_⟩
    · rintro i σ H2 hi ⟨acc, bs, o4, o5, o6, o7, o8, o9, o10, rfl, b2, w2, hl2, r2, hB⟩
      have lows : Lows bs := fun b hb => goodT_low (hB b hb).1.t
      have hal := paired_len r2
      refine ⟨_, rfl, Nat.zero_le _, fun e he => ⟨.list (bs.map bxD), .list [], .lst (SqL.of (w2.same (Same.new he)).h) (dp_all (fun _ _ z => (z.mono (TK.new he)).dp) r2), .lst (SqL.of upd_same) .nil, sh_bl lows, by decide, _, rfl, ?_⟩⟩
      rw [ne_nil eqv_bx]
      have b2 := b2.same (Same.new (o := .lst []) he)
      have w2 := w2.same (Same.new (o := .lst []) he)
      have r2 := pMono (fun _ _ z => z.mono (TK.new (o := .lst []) he)) r2
      generalize upd H2 e (.lst []) = H3 at b2 w2 r2
      refine if_tt (fun b H' => BS d l H H' ∧ Own d l H H' fl acc ∧ Paired (bxV H') acc bs ∧ (b = true → bs ≠ [])) (fun c1 Q' q' => ?_) (fun c1 => ⟨b2, w2, r2, fun z => by cases z⟩) ?_
      · refine ⟨_, rfl, d, l, 9, rfl, b2.f, by decide, by decide, fun r H4 r0 r1 f4 x4 => ?_⟩
        refine ⟨rfl, _, rfl, q' _ _ ⟨b2.draw f4 x4, w2.draw x4, pMono (fun _ _ z => z.mono (b2.f.tk x4)) r2, fun _ => ?_⟩⟩
        intro z
        rw [z] at c1
        exact absurd c1 (by decide)
      rintro b H4 ⟨b4, w4, r4, hne⟩
      refine ifB (fun c2 => ?_) (fun c2 => ?_)
      · have hpos : 0 < acc.length := by
          rw [hal]
          exact List.length_pos_iff.mpr (hne c2)
        refine ⟨_, rfl, .inl ⟨rfl, _, SqL.of w4.h⟩, _, rfl, _, rfl, _, rfl, fl, _, rfl, .inl (SqL.of w4.h), d, l, _, rfl, b4.f, by omega, by omega, fun k H5 k0 k1 f5 x5 => ?_⟩
        obtain ⟨j, rfl⟩ : ∃ j : Nat, k = (j : Int) := ⟨k.toNat, by omega⟩
        have hj : j < acc.length := by omega
        have w5 := w4.draw x5
        have b5 := b4.draw f5 x5
        have r5 := pMono (fun _ _ z => z.mono (b4.f.tk x5)) r4
        obtain ⟨bx, hbx, hv⟩ := paired_get r5 (List.getElem?_eq_getElem hj)
        refine ⟨fl, acc, _, acc[j], rfl, rfl, SqL.of w5.h, atI_nat (List.getElem?_eq_getElem hj), fl, acc, _, rfl, rfl, w5.h, by omega, ?_⟩
        refine ⟨acc ++ [acc[j]], bs ++ [bx], _, _, _, _, _, _, _, rfl, b5.put w5, w5.put, by rw [List.length_append]; simp; omega, pMono (fun _ _ z => z.mono w5.tk) (paired_app r5 (.cons hv .nil)), fun b hb => ?_⟩
        rcases List.mem_append.mp hb with hb | hb
        · exact hB b hb
        · rw [List.mem_singleton.mp hb]
          exact hB _ (List.mem_of_getElem? hbx)
      -- the goal
      refine ⟨_, rfl, _, rfl, d, l, 6, rfl, b4.f, by decide, by decide, fun g H5 g0 g1 f5 x5 => ?_⟩
      have b5 := b4.draw f5 x5
      have w5 := w4.draw x5
      have r5 := pMono (fun _ _ z => z.mono (b4.f.tk x5)) r4
      refine ⟨_, rfl, d, l, 4, rfl, b5.f, by decide, by decide, fun r H6 r0 r1 f6 x6 => ⟨rfl, _, rfl, ?_⟩⟩
      have b6 := b5.draw f6 x6
      have w6 := w5.draw x6
      have r6 := pMono (fun _ _ z => z.mono (b5.f.tk x6)) r5
      refine if_sj (fun σ' H' => ∃ vg t, σ' = [some (.ref d), some (.int n), some (.int 6), some (.ref fl), some (.int (0 + (i : Int))), some vg, o6, o7, o8, o9, o10, none, none] ∧ BS d l H H' ∧ Own d l H H' fl acc ∧ Paired (bxV H') acc bs ∧ thV H' vg t ∧ goodT t ∧ tinyT t) (fun c3 D' q' => ?_) (fun c3 D' q' => ?_) ?_
      · refine ⟨by show 3 ≤ sizeLine; decide, fun nl hnl => ?_⟩
        have b7 : BS d l H (upd H6 nl (.lst [V.str "memo", V.str "a", V.str "world"])) := b6.new hnl
        have w7 := w6.same (Same.new (o := .lst [V.str "memo", V.str "a", V.str "world"]) hnl)
        have r7 := pMono (fun _ _ z => z.mono (TK.new (o := .lst [V.str "memo", V.str "a", V.str "world"]) hnl)) r6
        have n7 : Own d l H _ nl _ := Own.new (xs := [V.str "memo", V.str "a", V.str "world"]) b6 hnl
        refine ⟨_, rfl, d, l, 3, rfl, b7.f, by decide, by decide, fun k H8 k0 k1 f8 x8 => ?_⟩
        have b8 := b7.draw f8 x8
        have w8 := w7.draw x8
        have n8 := n7.draw x8
        have r8 := pMono (fun _ _ z => z.mono (b7.f.tk x8)) r7
        obtain ⟨x, hx, ex⟩ := at_words k0 k1
        refine ⟨nl, _, _, .str x, rfl, rfl, SqL.of n8.h, hx, _, rfl, d, l, 2, rfl, b8.f, by decide, by decide, fun m H9 m0 m1 f9 x9 => ⟨by show 2 ≤ sizeLine; decide, fun p hp => q' _ _ ?_⟩⟩
        have b9 := b8.draw f9 x9
        have w9 := w8.draw x9
        have r9 := pMono (fun _ _ z => z.mono (b8.f.tk x9)) r8
        exact ⟨.ref p, .txt x m, rfl, b9.new hp, w9.same (Same.new hp), pMono (fun _ _ z => z.mono (TK.new hp)) r9, ⟨p, rfl, upd_same⟩, ⟨low_words ex, m0⟩, ex, by omega⟩
      · exact q' _ _ ⟨.int g, .key g, rfl, b6, w6, r6, rfl, g0, g0, g1⟩
      rintro σ' H7 ⟨vg, t, rfl, b7, w7, r7, ht, tg, tt⟩
      -- the pool
      have hm : ∀ xs : List V, True := fun _ => trivial
      refine ⟨_, rfl, 6, rfl, by decide, by decide, fun pl hpl => lc_gen (walk_range (lo := 0) (n := 6)) hpl (fun j acc2 _ => acc2 = ((six.take j).filter fun k => decide (Th.key k ≠ t)).map V.int) (fun _ _ => rfl) (fun _ _ => trivial) ?_ ?_⟩
      · rintro j y H8 H8' acc2 hj s8 hH8 hl8 r8 ⟨rfl, rfl⟩
        have ht8 : thV H8' vg t := ht.mono (TK.of s8)
        refine ⟨rfl, _, rfl, vg, rfl, thD (.key (0 + (j : Int))), thD t, .int _, ht8.dp, sh_th (t := .key (0 + (j : Int))) trivial, sh_th (goodT_low tg), _, rfl, ?_⟩
        rw [eqv_th]
        have r8 : acc2 = ((six.take j).filter fun k => decide (Th.key k ≠ t)).map V.int := r8
        have e6 : ((six.take (j + 1)).filter fun k => decide (Th.key k ≠ t)) = ((six.take j).filter fun k => decide (Th.key k ≠ t)) ++ (if decide (Th.key (0 + (j : Int)) ≠ t) = true then [0 + (j : Int)] else []) := by
          rw [List.take_add_one, six_get hj, List.filter_append]
          congr 1
          show List.filter _ [0 + (j : Int)] = _
          rw [List.filter_cons]
          split <;> rfl
        have en : decide (Th.key (0 + (j : Int)) ≠ t) = !decide (Th.key (0 + (j : Int)) = t) := by by_cases hc : Th.key (0 + (j : Int)) = t <;> simp [hc]
        rw [en] at e6
        refine ifB (fun c4 => ?_) (fun c4 => ?_)
        · rw [if_pos c4] at e6
          refine ⟨_, rfl, PvL.put hpl (by omega) s8 hH8 hl8 (Same.rf _) fun H9 _ => ?_⟩
          show acc2 ++ [V.int (0 + (j : Int))] = _
          rw [e6, r8, List.map_append]
          rfl
        · rw [c4, if_neg Bool.false_ne_true, List.append_nil] at e6
          refine PvL.skip s8 hH8 hl8 (Same.rf _) ?_
          show acc2 = _
          rw [e6, r8]
      intro H8 pv8 s8 hp8 hpl8 rp8
      have rp8 : pv8 = (pool0 t).map V.int := rp8
      subst rp8
      have b8 := b7.same s8
      have w8 := w7.same s8
      have r8 := pMono (fun _ _ z => z.mono (TK.of s8)) r7
      have ht8 := ht.mono (TK.of s8)
      have p8 : Own d l H H8 pl ((pool0 t).map V.int) := ⟨hp8, b7.no hpl, b7.f.new_d hpl, b7.f.new_l hpl⟩
      have npf : fl ≠ pl := ne_of_none w7.h hpl
      refine ⟨Nat.zero_le _, fun sl hsl => ⟨_, _, rfl, ?_⟩⟩
      have s9 : Same H8 (upd H8 sl (.lst [])) := Same.new hsl
      have b9 := b8.same s9
      have w9 := w8.same s9
      have p9 := p8.same s9
      have r9 := pMono (fun _ _ z => z.mono (TK.of s9)) r8
      have ht9 := ht8.mono (TK.of s9)
      have q9 : Own d l H (upd H8 sl (.lst [])) sl (([] : List Int).map V.int) := Own.new b8 hsl
      have nsf : fl ≠ sl := ne_of_none w8.h hsl
      have nsp : pl ≠ sl := ne_of_none p8.h hsl
      generalize upd H8 sl (.lst []) = H9 at s9 b9 w9 p9 r9 ht9 q9
      -- near
      refine ⟨by show 2 ≤ sizeLine; decide, fun ql hql => ?_⟩
      have sA : Same H9 (upd H9 ql (.lst [.int 0, .int 1])) := Same.new hql
      refine ⟨_, rfl, fl, rfl, ⟨_, SqL.of (w9.same sA).h⟩, fun nl hnl => lc_gen (walk_list (xs := acc)) hnl (fun j acc2 H' => Paired (thV H') acc2 ((bs.take j).map (·.1))) (fun _ _ => .nil) (fun H' s' => SqL.of (s' _ _ (w9.same sA).h)) ?_ ?_⟩
      · rintro j y HA HA' acc2 hj sB hHA hlA rA ⟨rfl, e2⟩
        obtain ⟨⟨t2, l2⟩, hb2, fb2⟩ := paired_get r9 e2
        obtain ⟨ba, vt, vk, rfl, hba, ht2, hn2⟩ := fb2.mono (TK.of (Same.tr sA sB))
        refine ⟨rfl, _, rfl, ba, _, 0, _, rfl, rfl, SqT.of hba, atI_nat (j := 0) rfl, PvL.put hnl (by omega) sB hHA hlA (Same.rf _) fun HB kB => ?_⟩
        rw [List.take_add_one, hb2, List.map_append]
        exact paired_app (pMono (fun _ _ z => z.mono kB) rA) (.cons (ht2.mono kB) .nil)
      intro HA nv sB hnA hlA rA
      rw [hal, List.take_length] at rA
      have nqn : ql ≠ nl := ne_of_none (upd_same (H := H9) (a := ql) (o := .lst [.int 0, .int 1])) hnl
      refine ⟨ql, nl, _, nv, rfl, rfl, sB _ _ upd_same, hnA, ?_, fun nr hnr => ?_⟩
      · show 2 + nv.length ≤ sizeLine
        omega
      have sC : Same H9 (upd HA nr (.lst ([.int 0, .int 1] ++ nv))) := Same.tr (Same.tr sA sB) (Same.new hnr)
      have bC := b9.same sC
      have wC := w9.same sC
      have pC := p9.same sC
      have qC := q9.same sC
      have rC := pMono (fun _ _ z => z.mono (TK.of sC)) r9
      have htC := ht9.mono (TK.of sC)
      have nC : Own d l H (upd HA nr (.lst ([.int 0, .int 1] ++ nv))) nr ([.int 0, .int 1] ++ nv) := Own.new (b9.same (Same.tr sA sB)) hnr
      have nrC : Paired (thV (upd HA nr (.lst ([.int 0, .int 1] ++ nv)))) ([.int 0, .int 1] ++ nv) ([.key 0, .key 1] ++ bs.map (·.1)) := paired_app (.cons rfl (.cons rfl .nil)) (pMono (fun _ _ z => z.mono (TK.new hnr)) rA)
      have nfr : fl ≠ nr := ne_of_none ((w9.same (Same.tr sA sB))).h hnr
      have npr : pl ≠ nr := ne_of_none ((p9.same (Same.tr sA sB))).h hnr
      have nsr : sl ≠ nr := ne_of_none ((q9.same (Same.tr sA sB))).h hnr
      generalize upd HA nr (.lst ([.int 0, .int 1] ++ nv)) = HC at sC bC wC pC qC rC htC nC nrC
      generalize ([.int 0, .int 1] ++ nv : List V) = near at nC nrC
      have hnl : ∀ t2, t2 ∈ ([.key 0, .key 1] ++ bs.map (·.1) : List Th) → lowT t2 := fun t2 h2 => by
        rcases List.mem_append.mp h2 with h2 | h2
        · simp only [List.mem_cons, List.not_mem_nil, or_false] at h2
          rcases h2 with rfl | rfl <;> trivial
        · obtain ⟨b, hb, rfl⟩ := List.mem_map.mp h2
          exact lows b hb
      generalize ([.key 0, .key 1] ++ bs.map (·.1) : List Th) = nts at nrC hnl
      have M0 : Mid d l H fl pl sl nr acc bs vg t near nts HC (pool0 t) [] := ⟨bC, wC, rC, htC, pC, qC, nC, nrC⟩
      clear bC wC pC qC rC htC nC nrC sC
      refine ⟨by show 6 ≤ sizeLine; decide, fun ol hol => ?_⟩
      have M1 := M0.same (Same.new (o := .lst [V.int 1, V.int 1, V.int 1, V.int 2, V.int 2, V.int 3]) hol)
      have oO : Own d l H _ ol _ := Own.new (xs := [V.int 1, V.int 1, V.int 1, V.int 2, V.int 2, V.int 3]) M0.b hol
      refine ⟨_, rfl, d, l, 6, rfl, M1.b.f, by decide, by decide, fun k HD k0 k1 fD xD => ?_⟩
      obtain ⟨mm, hmm, m0, m1⟩ := at_ones k0 k1
      refine ⟨ol, _, _, _, rfl, rfl, SqL.of (oO.draw xD).h, hmm, mm, rfl, by omega, by omega, for_range (lo := 0) (n := mm.toNat) (fun j σ H' => ∃ pool som o9 o10, σ = [some (.ref d), some (.int n), some (.int 6), some (.ref fl), some (.int (0 + (i : Int))), some vg, some (.ref pl), some (.ref sl), some (.ref nr), o9, o10, none, none]
          ∧ Mid d l H fl pl sl nr acc bs vg t near nts H' pool som ∧ som.length = j ∧ (som ++ pool).Perm (pool0 t)) ⟨pool0 t, [], _, _, rfl, M1.draw fD xD, rfl, List.Perm.refl _⟩ ?_ ?_⟩
      · rintro j σ HE hj ⟨pool, som, o9, o10, rfl, M, hsl2, pm⟩
        have hlen := pm.length_eq
        rw [List.length_append, hsl2] at hlen
        have hp0 := pool0_len t
        have hp1 : (pool0 t).length ≤ 6 := List.length_filter_le _ six
        have hpp : 0 < pool.length := by omega
        refine ⟨_, rfl, d, l, 4, rfl, M.b.f, by decide, by decide, fun r2 HF r20 r21 fF xF => ⟨_, _, rfl, rfl, _, rfl, ?_⟩⟩
        have M := M.draw fF xF
        refine if_jn (fun v H' => ∃ (m : Addr) (ms : List Int), v = .ref m ∧ Same HF H' ∧ H' m = some (.lst (ms.map V.int)) ∧ (∀ k, k ∈ ms → k ∈ pool) ∧ ms.length ≤ 6) (fun c5 Q' q' => ?_) (fun c5 Q' q' => ?_) ?_
        · refine ⟨_, rfl, pl, rfl, ⟨_, SqL.of M.p.h⟩, fun D hD => lc_gen (walk_list (xs := pool.map V.int)) hD (fun i2 acc2 _ => ∃ ms : List Int, acc2 = ms.map V.int ∧ ∀ k, k ∈ ms → k ∈ pool) (fun _ _ => ⟨[], rfl, fun k z => by cases z⟩) (fun H' s' => SqL.of (s' _ _ M.p.h)) ?_ ?_⟩
          · rintro i2 y HG HG' acc2 hi2 sG hHG hlG ⟨ms, rfl, hms⟩ ⟨rfl, e2⟩
            rw [List.length_map] at hi2
            rw [List.getElem?_map, List.getElem?_eq_getElem hi2] at e2
            obtain rfl : V.int pool[i2] = y := Option.some.inj e2
            have MG := M.same sG
            refine ⟨rfl, _, rfl, _, rfl, thD (.key pool[i2]), nts.map thD, .int _, .lst (SqL.of MG.n.h) (dp_all (fun _ _ z => z.dp) MG.m), sh_th (t := .key pool[i2]) trivial, sh_tl hnl, _, rfl, ?_⟩
            refine ifB (fun c6 => ?_) (fun c6 => ?_)
            · refine ⟨_, rfl, PvL.put hD (by omega) sG hHG hlG (Same.rf _) fun HH _ => ⟨ms ++ [pool[i2]], by rw [List.map_append]; rfl, fun k hk => ?_⟩⟩
              rcases List.mem_append.mp hk with hk | hk
              · exact hms k hk
              · rw [List.mem_singleton.mp hk]
                exact List.getElem_mem hi2
            · exact PvL.skip sG hHG hlG (Same.rf _) ⟨ms, rfl, hms⟩
          · rintro HG acc2 sG hHG hlG ⟨ms, rfl, hms⟩
            rw [List.length_map, List.length_map] at hlG
            exact q' _ _ ⟨D, ms, rfl, sG, hHG, hms, by omega⟩
        · exact ⟨_, rfl, q' _ _ ⟨pl, pool, rfl, Same.rf _, M.p.h, fun k hk => hk, by omega⟩⟩
        rintro vm HG ⟨m, ms, rfl, sG, hm, hms, hml⟩
        have M := M.same sG
        refine ⟨_, rfl, .inl ⟨rfl, _, SqL.of M.q.h⟩, _, rfl, Nat.zero_le _, fun e2 he2 => ?_⟩
        have sH : Same HG (upd HG e2 (.lst [])) := Same.new he2
        refine ⟨.list (ms.map PyData.int), .list [], .lst (SqL.of (sH _ _ hm)) (dp_ints ms), .lst (SqL.of upd_same) .nil, sh_il ms, by decide, _, rfl, ?_⟩
        rw [ne_nilI]
        have M := M.same sH
        have hm := sH _ _ hm
        generalize upd HG e2 (.lst []) = HI at M hm
        refine if_jn (fun v H' => ∃ y, v = .int y ∧ y ∈ pool ∧ Mid d l H fl pl sl nr acc bs vg t near nts H' pool som) (fun c7 Q' q' => ?_) (fun c7 Q' q' => ?_) ?_
        · have hne : ms ≠ [] := fun z => by rw [z] at c7; exact absurd c7 (by decide)
          have hpos : 0 < ms.length := List.length_pos_iff.mpr hne
          refine ⟨_, rfl, _, rfl, _, rfl, m, _, rfl, .inl (SqL.of hm), d, l, _, rfl, M.b.f, by rw [List.length_map]; omega, by rw [List.length_map]; omega, fun k HJ k0 k1 fJ xJ => ?_⟩
          rw [List.length_map] at k1
          obtain ⟨j2, rfl⟩ : ∃ j2 : Nat, k = (j2 : Int) := ⟨k.toNat, by omega⟩
          have hj2 : j2 < ms.length := by omega
          exact ⟨m, _, _, .int ms[j2], rfl, rfl, SqL.of (xJ _ _ (M.b.f.ne hm) hm), atI_nat (by rw [List.getElem?_map, List.getElem?_eq_getElem hj2]; rfl), q' _ _ ⟨_, rfl, hms _ (List.getElem_mem hj2), M.draw fJ xJ⟩⟩
        · exact ⟨_, rfl, pl, _, 0, .int pool[0], rfl, rfl, SqL.of M.p.h, atI_nat (j := 0) (by rw [List.getElem?_map, List.getElem?_eq_getElem hpp]; rfl), q' _ _ ⟨_, rfl, List.getElem_mem hpp, M⟩⟩
        rintro vy HJ ⟨y, rfl, hy, M⟩
        refine ⟨sl, _, _, rfl, rfl, M.q.h, by rw [List.length_map]; omega, ?_⟩
        have e8 : som.map V.int ++ [V.int y] = (som ++ [y]).map V.int := by rw [List.map_append]; rfl
        rw [e8]
        have M := M.putS (som2 := som ++ [y]) nsf nsp nsr
        generalize upd HJ sl (.lst ((som ++ [y]).map V.int)) = HK at M
        obtain ⟨j3, hj3, ey, hfirst⟩ := first_at hy
        refine ⟨_, rfl, .inl ⟨rfl, _, SqL.of M.p.h⟩, _, rfl, _, rfl, sl, _, _, .int y, rfl, rfl, SqL.of M.q.h, by rw [← e8]; exact atI_last _ _, pl, pool, y, j3, rfl, rfl, M.p.h, by rw [List.getElem?_eq_getElem hj3, ey], hfirst, ?_⟩
        refine ⟨pool.eraseIdx j3, som ++ [y], _, _, rfl, M.putP npf nsp npr, by rw [List.length_append, hsl2]; rfl, ?_⟩
        rw [List.append_assoc]
        have e9 := get_erase pool j3 hj3
        rw [ey] at e9
        exact (e9.append_left som).trans pm
      · rintro σ HE ⟨pool, som, o9, o10, rfl, M, hsl2, pm⟩
        refine ⟨_, rfl, .inl ⟨rfl, _, SqL.of M.w.h⟩, vg, rfl, _, rfl, sl, som, rfl, SqL.of M.q.h, fun ns' p hpn hps hp => ?_⟩
        have M := M.same (Same.new (o := .lst (ns'.map V.int)) hp)
        refine ⟨p, _, rfl, .inl ⟨SqL.of upd_same, fun l2 hl2 => ⟨by show 2 ≤ sizeLine; decide, fun p3 hp3 => ?_⟩⟩⟩
        have M := M.same (Same.new (o := .tup (ns'.map V.int)) hl2)
        have hl2' : (upd (upd HE p (.lst (ns'.map V.int))) l2 (.tup (ns'.map V.int))) l2 = some (.tup (ns'.map V.int)) := upd_same
        generalize upd (upd HE p (.lst (ns'.map V.int))) l2 (.tup (ns'.map V.int)) = HF at M hl2' hp3
        have M := M.same (Same.new (o := .tup [vg, .ref l2]) hp3)
        have hl3 : (upd HF p3 (.tup [vg, .ref l2])) l2 = some (.tup (ns'.map V.int)) := by rw [upd_ne (ne_of_none hl2' hp3)]; exact hl2'
        have hp4 : (upd HF p3 (.tup [vg, .ref l2])) p3 = some (.tup [vg, .ref l2]) := upd_same
        generalize upd HF p3 (.tup [vg, .ref l2]) = HG at M hl3 hp4
        refine ⟨fl, acc, _, rfl, rfl, M.w.h, by omega, acc ++ [.ref p3], bs ++ [(t, ns')], _, _, _, _, _, _, _, rfl, M.b.put M.w, M.w.put, by rw [List.length_append]; simp; omega, pMono (fun _ _ z => z.mono M.w.tk) (paired_app M.r (.cons ⟨p3, vg, .ref l2, rfl, hp4, M.ht, ⟨l2, rfl, hl3⟩⟩ .nil)), fun b hb => ?_⟩
        rcases List.mem_append.mp hb with hb | hb
        · exact hB b hb
        · rw [List.mem_singleton.mp hb]
          have hnd : som.Nodup := (List.nodup_append.mp (pm.nodup_iff.mpr (pool0_nd t))).1
          have hmem : ∀ k, k ∈ ns' → 0 ≤ k ∧ k < 6 ∧ Th.key k ≠ t := fun k hk => mem_pool0 (pm.mem_iff.mp (List.mem_append_left _ (hpn.mem_iff.mp hk)))
          have hnn : ns'.Nodup := hpn.nodup_iff.mpr hnd
          have hln := hpn.length_eq
          refine ⟨⟨tg, ?_, ?_, fun k hk => (hmem k hk).1, fun k hk hk2 => (hmem k hk2).2.2 hk.symm⟩, tt, ?_, fun k hk => ⟨(hmem k hk).1, (hmem k hk).2.1⟩⟩
          · intro z
            have z : ns' = [] := z
            rw [z, hsl2] at hln
            simp at hln
            omega
          · exact List.Pairwise.imp₂ (R := fun a b => a ≤ b) (S := fun a b => a ≠ b) (fun a b h1 h2 => by omega) hps hnn
          · show ns'.length ≤ 3
            rw [hln, hsl2]
            omega
    · rintro σ H2 ⟨acc, bs, o4, o5, o6, o7, o8, o9, o10, rfl, b2, w2, hl2, r2, hB⟩
      have hal := paired_len r2
      refine ⟨_, rfl, d, l, 2, rfl, b2.f, by decide, by decide, fun r H3 r0 r1 f3 x3 => ⟨rfl, _, rfl, ?_⟩⟩
      have b3 := b2.draw f3 x3
      have w3 := w2.draw x3
      have r3 := pMono (fun _ _ z => z.mono (b2.f.tk x3)) r2
      refine if_jn (fun v H' => ∃ p acc2 bs2, v = .ref p ∧ BS d l H H' ∧ H' p = some (.lst acc2) ∧ Paired (bxV H') acc2 bs2 ∧ (∀ b, b ∈ bs2 → LotB b) ∧ bs2.length ≤ 5) (fun c1 Q' q' => ?_) (fun c1 Q' q' => ?_) ?_
      · refine ⟨_, rfl, fl, acc, rfl, SqL.of w3.h, fun p hp => q' _ _ ⟨p, acc.reverse, bs.reverse, rfl, b3.new hp, upd_same, pMono (fun _ _ z => z.mono (TK.new hp)) (paired_rev r3), fun b hb => hB b (List.mem_reverse.mp hb), ?_⟩⟩
        rw [List.length_reverse]
        omega
      · exact ⟨_, rfl, q' _ _ ⟨fl, acc, bs, rfl, b3, w3.h, r3, hB, by omega⟩⟩
      rintro v H4 ⟨p, acc2, bs2, rfl, b4, h4, r4, hB4, hl4⟩
      refine ⟨p, acc2, rfl, .inl ⟨SqL.of h4, fun l2 hl2 => ?_⟩⟩
      have b5 := b4.new (o := .tup acc2) hl2
      exact q _ bs2 _ ⟨l2, acc2, rfl, upd_same, pMono (fun _ _ z => z.mono (TK.new hl2)) r4⟩ hB4 hl4 b5.f b5.x
end
end K13

namespace K13
open PySem PySem.Spec PyProof.Rows L2
/-- the six classes with all that is promised of them -/
structure LW (P : Program) (w : World) (K : PySem.W.Frag) (mg : Str → Option Value) (base : Heap) (T fi : Kd → Addr) (fe fo : Addr) : Prop where
  G : Gb mg
  Z : KF P w K mg base T fe fo
  M : MF P w K mg base T fi
  E : ∃ (fd : FuncData) (ps : List Str), FnOk P w K mg base CX0 4 fe fd ps (spCmp (Rch T)) ∧ Binds K fd ps []
  O : ∃ (fd : FuncData) (ps : List Str), FnOk P w K mg base CX0 4 fo fd ps (spOpg T) ∧ Binds K fd ps []
  op : Cl1 P w K mg base 2 "opened" spOpened
section
variable {X : Cx} {T fi : Kd → Addr} {fe fo : Addr} {o e : Expr} {es : List Expr} {te : TE} {t : TA} {apos pos p : Pos}
theorem pe_opening {pl : Sem Bool} (L : LW X.prog X.w X.K X.mg X.base T fi fe fo) (hr : Room 4 X.A) (he : PE X o te) (ha : PA X (e :: es) t)
    (hst : starEach (e :: es) X.env = (false, eval e X.env) :: starEach es X.env := by rfl) (hpl : (backTo pos (starEach es X.env)).any (·.1) = false := by rfl)
    (ht : eval (.Call (.Attribute o "opening" apos) (e :: es) [] pos) X.env = (do
      let v0 ← eval o X.env
      standAt apos.atName
      let (g0, fst0) ← holding [v0] (getMethod v0 "opening" pl)
      callWith pos g0 fst0 (backTo pos (starEach (e :: es) X.env)) (backToKw pos (keywordEach [] X.env))) := by rfl) : PE X (.Call (.Attribute o "opening" apos) (e :: es) [] pos) (tOpg T te t) := by
  refine pe_ex (t := fun i => tMeth (T i) "opening" (spOpg T) [] E0 te t) fun i => ?_
  obtain ⟨fd, ps, F, b⟩ := L.O
  exact pe_meth (pl := pl) he (L.Z.no i).cl (L.Z.op i) F hr b .nil pass0 ha hst hpl ht
theorem op_neC (L : LW X.prog X.w X.K X.mg X.base T fi fe fo) (hr : Room 5 X.A) : OpR X (compareOp .NotEq) (rCmp X.K fe (Rch T) not) := by
  obtain ⟨fd, ps, F, b⟩ := L.E
  exact op_neI F b L.Z.fi hr
theorem op_eqC (L : LW X.prog X.w X.K X.mg X.base T fi fe fo) (hr : Room 4 X.A) : OpR X (compareOp .Eq) (rCmp X.K fe (Rch T) id) := by
  obtain ⟨fd, ps, F, b⟩ := L.E
  exact op_eqI F b L.Z.fi hr
def one1 (f : V → Prop) : List V → Prop
  | [v] => f v
  | _ => False
theorem one1_of {f : V → Prop} : ∀ {vs : List V}, one1 f vs → ∃ v, vs = [v] ∧ f v
  | [v], h => ⟨v, rfl, h⟩
  | [], h => h.elim
  | _ :: _ :: _, h => h.elim
def Ob1 (T : Kd → Addr) (i : Kd) (a : Addr) (H : Hp) (bs : List Bx) : Prop := ∃ dx fs, H a = some (.ins (T i) dx fs) ∧ fs.lookup ("content" : Str) = none ∧ fs.lookup ("opening" : Str) = none ∧ GmOf (T i) i a H bs
theorem Ob1.ob {T : Kd → Addr} {i : Kd} {a : Addr} {H : Hp} {bs : List Bx} (h : Ob1 T i a H bs) : Ob T a H bs := ⟨i, h⟩
/-- Chest(e) -/
def tNewC (T : Kd → Addr) (te : TE) : TE := fun σ H Q => te σ H fun vb H1 => ∃ bs, bsV H1 vb bs ∧ ∀ x H2, Same H1 H2 → Ob1 T .ch x H2 bs → Q (.ref x) H2
theorem pe_newC (L : LW X.prog X.w X.K X.mg X.base T fi fe fo) (hr : Room 2 X.A) (ha : PE X e te) (hg : Gl X "Chest" := by rfl)
    (h1 : starEach [e] X.env = (false, eval e X.env) :: starEach [] X.env := by rfl) (h2 : (backTo pos (starEach [] X.env)).any (·.1) = false := by rfl) : PE X (.Call (.Name "Chest" p) [e] [] pos) (tNewC T te) := by
  obtain ⟨fd, F, b⟩ := L.M.ch
  refine ⟨fun pins s σ H Q I h => ?_⟩
  refine wpAny_Call_Name_kw (ld_glob I hg L.M.nch ?_ (by decide))
  refine PySem.W.callWith_K (h₀ := X.base) I.ok.mod.kin (L.M.mks .ch).kp (thn ((pa_cons ha pa_nil h1).run pos pins s σ H (fun vs H1 => one1 (fun vb => ∃ bs, bsV H1 vb bs ∧ ∀ x H2, Same H1 H2 → Ob1 T .ch x H2 bs → Q (.ref x) H2) vs) I h) fun us s1 ⟨vs, H1, I1, r, q⟩ => ⟨I1.kIn, ?_⟩) h1 h2
  obtain ⟨vb, rfl, bs, hb, q⟩ := one1_of q
  exact run_make (L.M.mks .ch) F hr b .nil pass0 I1 r (made (g := g0) (zs := []) fun x dx H3 sm hx => q x H3 sm ⟨dx, _, hx, rfl, rfl, dx, _, vb, hx, rfl, hb.mono (TK.of sm)⟩)
/-- C(e, k = v, ..): R says which content the new chest has -/
def tNewK (T : Kd → Addr) (n : Nat) (R : V → List V → Hp → List Bx → Prop) (te : TE) (tk : TA) : TE := fun σ H Q => te σ H fun vb H1 => tk σ H1 fun zs H2 => ∃ bs, zs.length = n ∧ R vb zs H2 bs ∧ ∀ x H3, Same H2 H3 → Ob T x H3 bs → Q (.ref x) H3
theorem pe_newK {nm : Str} {i : Kd} {ks : List Str} {g : FG} {kws : List Keyword} {tk : TA} {R : V → List V → Hp → List Bx → Prop} (L : LW X.prog X.w X.K X.mg X.base T fi fe fo) (F : FnKw X.prog X.w X.K X.mg X.base 3 (fi i) ks (spIn (T i) g)) (hm : X.mg nm = some (.ref (T i)))
    (hR : ∀ vb zs H2 bs, R vb zs H2 bs → ∀ x dx H3, Same H2 H3 → H3 x = some (.ins (T i) dx (g vb zs [])) → Ob T x H3 bs) (hr : Room 4 X.A) (ha : PE X e te) (hkw : PK X kws tk) (hg : Gl X nm := by rfl)
    (hall : (backToKw pos (keywordEach kws X.env)).all (·.1.isSome) = true := by rfl) (hks : (backToKw pos (keywordEach kws X.env)).filterMap (·.1) = ks := by rfl) (hdb : (nm == ("__debug__" : Str)) = false := by decide)
    (h1 : starEach [e] X.env = (false, eval e X.env) :: starEach [] X.env := by rfl) (h2 : ((backTo pos (starEach [e] X.env)).any (·.1) || (backToKw pos (keywordEach kws X.env)).any (·.1.isNone)) = false := by rfl) :
    PE X (.Call (.Name nm p) [e] kws pos) (tNewK T ks.length R te tk) := by
  refine ⟨fun pins s σ H Q I h => ?_⟩
  refine wpAny_Call_Name_kw (ld_glob I hg hm ?_ hdb)
  refine PySem.W.callWith_KW (h₀ := X.base) I.ok.mod.kin (L.M.mks i).kp hall (thn ((pa_cons ha pa_nil h1).run pos pins s σ H (fun vs H1 => one1 (fun vb => tk σ H1 fun zs H2 => ∃ bs, zs.length = ks.length ∧ R vb zs H2 bs ∧ ∀ x H3, Same H2 H3 → Ob T x H3 bs → Q (.ref x) H3) vs) I h) fun us s1 ⟨vs, H1, I1, r, q⟩ => ?_) h2 h1
  obtain ⟨vb, rfl, q⟩ := one1_of q
  refine thn (hkw.run pos pins s1 σ H1 _ I1 q) fun ws s2 ⟨zs, H2, I2, rz, bs, l2, hR2, q2⟩ => ⟨I2.kIn, ?_⟩
  rw [hks]
  exact run_makeKw (L.M.mks i) F hr I2 r rz l2 (made fun x dx H3 sm hx => q2 x H3 sm (hR vb zs H2 bs hR2 x dx H3 sm hx))
def RW (vb : V) (zs : List V) (H : Hp) (bs : List Bx) : Prop := ∃ k b0, zs = [.int k] ∧ bsV H vb b0 ∧ Sm b0 ∧ bs = without k b0
def RS (vb : V) (zs : List V) (H : Hp) (bs : List Bx) : Prop := ∃ m b0, zs = [.int m] ∧ bsV H vb b0 ∧ Sm b0 ∧ bs = shift m b0
def RD (vb : V) (zs : List V) (H : Hp) (bs : List Bx) : Prop := ∃ k e b0, zs = [.int k, .int e] ∧ bsV H vb b0 ∧ Sm b0 ∧ bs = double k e b0
def RSD (vb : V) (zs : List V) (H : Hp) (bs : List Bx) : Prop := ∃ m k e b0, zs = [.int m, .int k, .int e] ∧ bsV H vb b0 ∧ Sm b0 ∧ Sm (double k e b0) ∧ bs = shift m (double k e b0)
def RDS (vb : V) (zs : List V) (H : Hp) (bs : List Bx) : Prop := ∃ m k e b0, zs = [.int m, .int k, .int e] ∧ bsV H vb b0 ∧ Sm b0 ∧ Sm (shift m b0) ∧ bs = double k e (shift m b0)
section
variable {kws : List Keyword} {tk : TA}
theorem pe_newW (L : LW X.prog X.w X.K X.mg X.base T fi fe fo) (hr : Room 4 X.A) (ha : PE X e te) (hkw : PK X kws tk) (hg : Gl X "Without" := by rfl)
    (hall : (backToKw pos (keywordEach kws X.env)).all (·.1.isSome) = true := by rfl) (hks : (backToKw pos (keywordEach kws X.env)).filterMap (·.1) = (["key"] : List Str) := by rfl)
    (h1 : starEach [e] X.env = (false, eval e X.env) :: starEach [] X.env := by rfl) (h2 : ((backTo pos (starEach [e] X.env)).any (·.1) || (backToKw pos (keywordEach kws X.env)).any (·.1.isNone)) = false := by rfl) :
    PE X (.Call (.Name "Without" p) [e] kws pos) (tNewK T 1 RW te tk) :=
  pe_newK L L.M.wo L.M.nwo (fun vb zs H2 bs ⟨k, b0, ez, hb, hs, eb⟩ x dx H3 sm hx => by subst ez eb; exact ⟨.wo, dx, _, hx, rfl, rfl, dx, _, k, b0, hx, rfl, ⟨dx, _, vb, hx, rfl, hb.mono (TK.of sm)⟩, hs, rfl⟩) hr ha hkw hg hall hks (by decide) h1 h2
theorem pe_newS (L : LW X.prog X.w X.K X.mg X.base T fi fe fo) (hr : Room 4 X.A) (ha : PE X e te) (hkw : PK X kws tk) (hg : Gl X "Shifted" := by rfl)
    (hall : (backToKw pos (keywordEach kws X.env)).all (·.1.isSome) = true := by rfl) (hks : (backToKw pos (keywordEach kws X.env)).filterMap (·.1) = (["by"] : List Str) := by rfl)
    (h1 : starEach [e] X.env = (false, eval e X.env) :: starEach [] X.env := by rfl) (h2 : ((backTo pos (starEach [e] X.env)).any (·.1) || (backToKw pos (keywordEach kws X.env)).any (·.1.isNone)) = false := by rfl) :
    PE X (.Call (.Name "Shifted" p) [e] kws pos) (tNewK T 1 RS te tk) :=
  pe_newK L L.M.sh L.M.nsh (fun vb zs H2 bs ⟨k, b0, ez, hb, hs, eb⟩ x dx H3 sm hx => by subst ez eb; exact ⟨.sh, dx, _, hx, rfl, rfl, dx, _, k, b0, hx, rfl, ⟨dx, _, vb, hx, rfl, hb.mono (TK.of sm)⟩, hs, rfl⟩) hr ha hkw hg hall hks (by decide) h1 h2
theorem pe_newD (L : LW X.prog X.w X.K X.mg X.base T fi fe fo) (hr : Room 4 X.A) (ha : PE X e te) (hkw : PK X kws tk) (hg : Gl X "Doubled" := by rfl)
    (hall : (backToKw pos (keywordEach kws X.env)).all (·.1.isSome) = true := by rfl) (hks : (backToKw pos (keywordEach kws X.env)).filterMap (·.1) = (["key", "extra"] : List Str) := by rfl)
    (h1 : starEach [e] X.env = (false, eval e X.env) :: starEach [] X.env := by rfl) (h2 : ((backTo pos (starEach [e] X.env)).any (·.1) || (backToKw pos (keywordEach kws X.env)).any (·.1.isNone)) = false := by rfl) :
    PE X (.Call (.Name "Doubled" p) [e] kws pos) (tNewK T 2 RD te tk) :=
  pe_newK L L.M.db L.M.ndb (fun vb zs H2 bs ⟨k, e2, b0, ez, hb, hs, eb⟩ x dx H3 sm hx => by subst ez eb; exact ⟨.db, dx, _, hx, rfl, rfl, dx, _, k, e2, b0, hx, rfl, rfl, ⟨dx, _, vb, hx, rfl, hb.mono (TK.of sm)⟩, hs, rfl⟩) hr ha hkw hg hall hks (by decide) h1 h2
theorem pe_newSD (L : LW X.prog X.w X.K X.mg X.base T fi fe fo) (hr : Room 4 X.A) (ha : PE X e te) (hkw : PK X kws tk) (hg : Gl X "ShiftedDouble" := by rfl)
    (hall : (backToKw pos (keywordEach kws X.env)).all (·.1.isSome) = true := by rfl) (hks : (backToKw pos (keywordEach kws X.env)).filterMap (·.1) = (["by", "key", "extra"] : List Str) := by rfl)
    (h1 : starEach [e] X.env = (false, eval e X.env) :: starEach [] X.env := by rfl) (h2 : ((backTo pos (starEach [e] X.env)).any (·.1) || (backToKw pos (keywordEach kws X.env)).any (·.1.isNone)) = false := by rfl) :
    PE X (.Call (.Name "ShiftedDouble" p) [e] kws pos) (tNewK T 3 RSD te tk) :=
  pe_newK L L.M.sd L.M.nsd (fun vb zs H2 bs ⟨m, k, e2, b0, ez, hb, hs, hs2, eb⟩ x dx H3 sm hx => by subst ez eb; exact ⟨.sd, dx, _, hx, rfl, rfl, dx, _, m, _, hx, rfl, ⟨dx, _, k, e2, b0, hx, rfl, rfl, ⟨dx, _, vb, hx, rfl, hb.mono (TK.of sm)⟩, hs, rfl⟩, hs2, rfl⟩) hr ha hkw hg hall hks (by decide) h1 h2
theorem pe_newDS (L : LW X.prog X.w X.K X.mg X.base T fi fe fo) (hr : Room 4 X.A) (ha : PE X e te) (hkw : PK X kws tk) (hg : Gl X "DoubledShift" := by rfl)
    (hall : (backToKw pos (keywordEach kws X.env)).all (·.1.isSome) = true := by rfl) (hks : (backToKw pos (keywordEach kws X.env)).filterMap (·.1) = (["by", "key", "extra"] : List Str) := by rfl)
    (h1 : starEach [e] X.env = (false, eval e X.env) :: starEach [] X.env := by rfl) (h2 : ((backTo pos (starEach [e] X.env)).any (·.1) || (backToKw pos (keywordEach kws X.env)).any (·.1.isNone)) = false := by rfl) :
    PE X (.Call (.Name "DoubledShift" p) [e] kws pos) (tNewK T 3 RDS te tk) :=
  pe_newK L L.M.ds L.M.nds (fun vb zs H2 bs ⟨m, k, e2, b0, ez, hb, hs, hs2, eb⟩ x dx H3 sm hx => by subst ez eb; exact ⟨.ds, dx, _, hx, rfl, rfl, dx, _, k, e2, _, hx, rfl, rfl, ⟨dx, _, m, b0, hx, rfl, ⟨dx, _, vb, hx, rfl, hb.mono (TK.of sm)⟩, hs, rfl⟩, hs2, rfl⟩) hr ha hkw hg hall hks (by decide) h1 h2
end
end
/-! ### _law_shifted_pair -/
def spPair : Sp := fun vs H Q _ => ∃ (vp : V) (m : Int) (ns : List Int) (ts : List TX), vs = [vp, .int m] ∧ prV H vp (ns, ts) ∧ ns.length ≤ 1000 ∧ ∀ v H', Same H H' → prV H' v (ns.map (· + m), ts) → Q v H'
section
variable {P : Program} {w : World} {K : PySem.W.Frag} {mg : Str → Option Value} {base : Heap} {T fi : Kd → Addr} {fe fo : Addr}
abbrev N29 : List Str := ["_law_pair", "_law_more", "_law_one"]
theorem sc29 : FnScope N29 ["_law_pair", "_law_more"] (defScope (top 29)) := ⟨rfl, rfl, rfl, by decide +kernel, rfl, by decide +kernel, by decide +kernel⟩
theorem ok_pair {f : Addr} {fd : FuncData} (F : Fun K "_law_shifted_pair" "_law_shifted_pair" (top 29) f fd) (G : Gb mg) : FnOk P w K mg base CX0 1 f fd ["_law_pair", "_law_more"] spPair := by
  refine F.ok sc29 (fun vs H Q E h => ?_) (fun cdv A outer s H vs Q E hr h => ?_)
  · obtain ⟨vp, m, ns, ts, rfl, _⟩ := h
    rfl
  · obtain ⟨vp, m, ns, ts, rfl, ⟨pa, x, y, rfl, hpa, ⟨na, rfl, hna⟩, hy⟩, hl, q⟩ := h
    have nd := sc29.nd
    refine ⟨_, pss_one (ps_ret (pe_tup (pa_cons (pe_callTy call_tuple_of (by rfl) G.tuple PyProof.Rows.boot_tuple (pa_cons (pe_lc (own := [("_law_one", 2)]) (g := gName 2) (tt := tYes) (te := tOp (rI0 fun i j => .int (i + j)) (tVar 2) (tVar 1)) rfl nd (pi_tup (pe_ix ix_tup (pv 0) pe_int (fun _ _ => rfl)))
      (blkOk_by (N := N29) (sc := defScope (top 29)) (by decide +kernel)) (fun _ _ _ _ _ => pg_name (i := 2) nd rfl (Or.inl rfl)) (fun _ _ _ _ _ => pts_nil) (fun _ _ _ _ _ => pe_op op_add (pv 2) (pv 1))) pa_nil))
      (pa_cons (pe_ix ix_tup (pv 0) pe_int (fun _ _ => rfl)) pa_nil)))), ?_⟩
    have h3 : 3000 < sizeLine := by decide
    refine ⟨_, rfl, pa, _, 0, _, rfl, rfl, SqT.of hpa, atI_nat (j := 0) rfl, na, rfl, ⟨_, SqT.of hna⟩, fun D hD => lc_gen (walk_tup (xs := ns.map V.int)) hD (fun j acc _ => acc = ((ns.take j).map (· + m)).map V.int) (fun _ _ => rfl) (fun H' s' => SqT.of (s' _ _ hna)) ?_ ?_⟩
    · rintro j z H4 H4' acc2 hj s4 hH4 hl4 r4 ⟨rfl, e2⟩
      rw [List.length_map] at hj
      rw [List.getElem?_map, List.getElem?_eq_getElem hj] at e2
      obtain rfl : V.int ns[j] = z := Option.some.inj e2
      have r4 : acc2 = ((ns.take j).map (· + m)).map V.int := r4
      refine ⟨rfl, _, rfl, _, rfl, _, _, rfl, rfl, PvL.put hD (by omega) s4 hH4 hl4 (Same.rf _) fun H5 _ => ?_⟩
      show acc2 ++ [V.int (ns[j] + m)] = _
      rw [List.take_add_one, List.getElem?_eq_getElem hj, r4, List.map_append, List.map_append]
      rfl
    intro H4 acc2 s4 hH4 hl4 r4
    have r4 : acc2 = ((ns.take (ns.map V.int).length).map (· + m)).map V.int := r4
    rw [List.length_map, List.take_length] at r4
    refine ⟨D, acc2, rfl, .inl ⟨SqL.of hH4, fun l2 hl2 => ?_⟩⟩
    have s5 : Same H (upd H4 l2 (.tup acc2)) := Same.at_new s4 (Same.no s4 hl2)
    refine ⟨_, rfl, pa, _, 1, _, rfl, rfl, SqT.of (s5 _ _ hpa), atI_nat (j := 1) rfl, by show 2 ≤ sizeLine; decide, fun p2 hp2 => ?_⟩
    have s6 : Same H (upd (upd H4 l2 (.tup acc2)) p2 (.tup [.ref l2, y])) := Same.at_new s5 (Same.no s5 hp2)
    refine q _ _ s6 ⟨p2, .ref l2, y, rfl, upd_same, ⟨l2, rfl, ?_⟩, hy.mono (TK.of s6)⟩
    rw [upd_ne (ne_of_none upd_same hp2), upd_same, r4]
/-! ### _law_alike_right -/
def obV (T : Kd → Addr) (H : Hp) (v : V) (bs : List Bx) : Prop := ∃ a, v = .ref a ∧ Ob T a H bs
theorem obV.mono {H H' : Hp} {v : V} {bs : List Bx} (h : obV T H v bs) (s : Same H H') : obV T H' v bs := let ⟨a, e, h⟩ := h; ⟨a, e, h.mono s⟩
structure Fit (bs : List Bx) : Prop where
  g : Goods bs
  len : bs.length ≤ 1000
  kl : ∀ b, b ∈ bs → b.2.length ≤ 1000
theorem Fit.bok {bs : List Bx} (h : Fit bs) : Bok bs := ⟨h.g.lows, fun b hb => (h.g b hb).ne, h.len, h.kl⟩
theorem opn_low {ks : List Int} {bs : List Bx} {ns : List Int} {ts : List TX} (h : Opn ks bs ns ts) (l : Lows bs) : ∀ q, q ∈ ts → low q.1 := fun q hq => by
  have c := (h.m2 q).mp hq
  cases c with
  | step hb _ => exact l _ hb
theorem ne_pr {ks : List Int} {bs : List Bx} {ns ns' : List Int} {ts ts' : List TX} (h : Opn ks bs ns ts) (h' : Opn ks bs ns' ts') : PyData.eqv (prD (ns, ts)) (prD (ns', ts')) = true := by
  obtain ⟨e1, e2⟩ := h.uniq h' fun _ => Iff.rfl
  rw [eqv_pr, e1, e2]
  exact decide_eq_true rfl
def spAlike (T : Kd → Addr) : Sp := fun vs H Q _ => ∃ (vk : V) (ml : Addr) (ks : List Int) (obs : List V) (cs : List (List Bx)), vs = [vk, .ref ml] ∧ nsV H vk ks ∧ ks.length ≤ 1000 ∧ H ml = some (.lst obs) ∧ Paired (obV T H) obs cs ∧ (∀ c, c ∈ cs → Fit c) ∧ obs.length ≤ 1000 ∧ ∀ H', Same H H' → Q (.bl true) H'
abbrev N30 : List Str := ["_law_grip_here", "_law_made", "_law_one", "_law_beside"]
theorem sc30 : FnScope N30 ["_law_grip_here", "_law_made"] (defScope (top 30)) := ⟨rfl, rfl, rfl, by decide +kernel, rfl, by decide +kernel, by decide +kernel⟩
theorem ok_alike {f : Addr} {fd : FuncData} (F : Fun K "_law_alike_right" "_law_alike_right" (top 30) f fd) (L : LW P w K mg base T fi fe fo) (CB : Cl1 P w K mg base 7 "is_boxes" spBoxes) : FnOk P w K mg base CX0 8 f fd ["_law_grip_here", "_law_made"] (spAlike T) := by
  refine F.ok sc30 (fun vs H Q E h => ?_) (fun cdv A outer s H vs Q E hr h => ?_)
  · obtain ⟨vk, ml, ks, obs, cs, rfl, _⟩ := h
    rfl
  · obtain ⟨vk, ml, ks, obs, cs, rfl, hk, hkl, hml, hob, hcs, hol, q⟩ := h
    have nd := sc30.nd
    have r5 := hr.mono (show 5 ≤ 7 by decide)
    have r4 := hr.mono (show 4 ≤ 7 by decide)
    have r3 := hr.mono (show 3 ≤ 7 by decide)
    have r2 := hr.mono (show 2 ≤ 7 by decide)
    refine ⟨_, pss_cons (ps_for PassesOwn.never rfl (pi_list (pv 1)) (pg_name (i := 2) nd rfl (Or.inr rfl))
        (pss_cons (ps_if (PW.pt (pw_or (pt_not (pt_val (pe_cl CB hr (pa_cons (pe_content (pl := _) L.Z r3 (pv 2)) pa_nil)))) (pw_or1 (pt_cmpR (op_neC L r5) (pv 2) (pe_newC L r2 (pe_content (pl := _) L.Z r3 (pv 2))) (nomark _))))) (pss_one (ps_ret pe_bl)) pss_nil)
        (pss_cons (ps_if (pt_cmpR (op_neD hr.units) (pe_opening (pl := _) L r4 (pv 2) (pa_cons (pv 0) pa_nil)) (pe_cl L.op r2 (pa_cons (pv 0) (pa_cons (pe_content (pl := _) L.Z r3 (pv 2)) pa_nil))) (nomark _)) (pss_one (ps_ret pe_bl)) pss_nil)
        (pss_one (ps_if (pt_cmpR (op_neD hr.units) (pe_lc (own := [("_law_beside", 3)]) (g := gName 3) (tt := tTest (tOp rNe (tOp (rCmp K fe (Rch T) id) (tVar 2) (tVar 3)) (tOp (rEqD K) (tCo T (tVar 2)) (tCo T (tVar 3))))) (te := tVar 3) rfl nd (pi_list (pv 1)) (blkOk_by (N := N30) (sc := defScope (top 30)) (by decide +kernel)) (fun _ _ _ _ _ => pg_name (i := 3) nd rfl (Or.inl rfl))
          (fun _ _ _ _ _ => pts_one (pt_cmpR op_ne (pe_cmpR (op_eqC L r4) (pv 2) (pv 3) (nomark _)) (pe_cmpR (op_eqD hr.units) (pe_content (pl := _) L.Z r3 (pv 2)) (pe_content (pl := _) L.Z r3 (pv 3)) (nomark _)) (nomark _))) (fun _ _ _ _ _ => pv 3)) (pe_lst pa_nil) (nomark _)) (pss_one (ps_ret pe_bl)) pss_nil)))))
      (pss_one (ps_ret pe_bl)), ?_⟩
    have h3k : 3000 < sizeLine := by decide
    refine ⟨_, rfl, ml, rfl, ⟨_, SqL.of hml⟩, for_it (walk_list (xs := obs)) (fun i σ H' => ∃ o2, σ = [some vk, some (.ref ml), o2, none] ∧ Same H H') ⟨none, rfl, Same.rf H⟩ (fun i σ H' _ ⟨_, _, s'⟩ => SqL.of (s' _ _ hml)) ?_ ?_⟩
    · rintro i x σ H1 H1' hi ⟨o2, rfl, s1⟩ ⟨rfl, e⟩
      obtain ⟨c, hc, ⟨a, rfl, hO⟩⟩ := paired_get hob e
      have fc := hcs c (List.mem_of_getElem? hc)
      have hO := hO.mono s1
      have hk1 := hk.mono (TK.of s1)
      have hob1 := pMono (fun _ _ z => obV.mono z s1) hob
      have hml1 := s1 _ _ hml
      refine co_var rfl hO fun v2 H2 s2 hv2 => ?_
      refine ⟨v2, c, rfl, hv2, fc.g, by have := fc.len; omega, fun b hb => by have := fc.kl b hb; omega, fun H3 s3 => ?_⟩
      refine ⟨_, rfl, ?_⟩
      have s13 := Same.tr s2 s3
      refine ⟨_, rfl, co_var rfl (hO.mono s13) fun v4 H4 s4 hv4 => ⟨c, hv4, fun y H5 s5 hO5 => ?_⟩⟩
      have hO5 := hO5.ob
      have s15 := Same.tr s13 (Same.tr s4 s5)
      refine cmp_ob L.Z (hO.mono s15) hO5 fc.g.lows fc.g.lows fun H6 s6 => ?_
      have s16 := Same.tr s15 s6
      rw [decide_eq_true (rfl : c = c)]
      refine ⟨_, rfl, ?_⟩
      show if false = true then _ else _
      refine ifF rfl ?_
      have hO6 := hO.mono s16
      have hk6 := hk1.mono (TK.of s16)
      refine og_var rfl hO6 ⟨_, rfl, a, vk, ks, c, rfl, hO6, hk6, fc.bok, hkl, fun v7 ns ts H7 s7 hp7 ho7 => ?_⟩
      refine ⟨_, rfl, ?_⟩
      refine co_var rfl (hO6.mono s7) fun v8 H8 s8 hv8 => ?_
      have s68 := Same.tr s7 s8
      refine ⟨vk, v8, ks, c, rfl, hk6.mono (TK.of s68), hv8, fc.bok, hkl, fun v9 ns' ts' H9 s9 hp9 ho9 => ?_⟩
      refine ⟨prD (ns, ts), prD (ns', ts'), (hp7.mono (TK.of (Same.tr s8 s9))).dp, hp9.dp, sh_pr (opn_low ho7 fc.g.lows), sh_pr (opn_low ho9 fc.g.lows), _, rfl, ?_⟩
      rw [ne_pr ho7 ho9]
      show if false = true then _ else _
      refine ifF rfl ?_
      have s19 := Same.tr s16 (Same.tr s68 s9)
      have hO9 := hO.mono s19
      have hob9 := pMono (fun _ _ z => obV.mono z s19) hob1
      have hml9 := s19 _ _ hml1
      refine ⟨_, rfl, ml, rfl, ⟨_, SqL.of hml9⟩, fun D hD => lc_gen (walk_list (xs := obs)) hD (fun _ acc _ => acc = []) (fun _ _ => rfl) (fun H' s' => SqL.of (s' _ _ hml9)) ?_ ?_⟩
      · rintro j y HA HA' acc hj sA hHA hlA rA ⟨rfl, e2⟩
        obtain ⟨c2, hc2, ⟨a2, rfl, hO2⟩⟩ := paired_get (pMono (fun _ _ z => obV.mono z sA) hob9) e2
        have fc2 := hcs c2 (List.mem_of_getElem? hc2)
        have hOA := hO9.mono sA
        refine ⟨rfl, _, rfl, _, rfl, cmp_ob L.Z hOA hO2 fc.g.lows fc2.g.lows fun HB sB => ?_⟩
        refine co_var rfl (hOA.mono sB) fun v1 HC sC hv1 => ?_
        refine co_var rfl (hO2.mono (Same.tr sB sC)) fun v2 HD sD hv2 => ?_
        refine ⟨bsD c, bsD c2, (hv1.mono (TK.of sD)).dp, hv2.dp, sh_bs fc.g.lows, sh_bs fc2.g.lows, rfl, _, rfl, ?_⟩
        have ev : decide (V.bl (id (decide (c = c2))) = V.bl (decide (c = c2))) = true := decide_eq_true rfl
        rw [eqv_bs, ev]
        show if false = true then _ else _
        exact ifF rfl (PvL.skip sA hHA hlA (Same.tr sB (Same.tr sC sD)) rA)
      rintro HA acc sA hHA hlA rfl
      refine ⟨Nat.zero_le _, fun e2 he2 => ?_⟩
      have sB : Same HA (upd HA e2 (.lst [])) := Same.new he2
      refine ⟨.list [], .list [], .lst (SqL.of (sB _ _ hHA)) .nil, .lst (SqL.of upd_same) .nil, by decide, by decide, _, rfl, ?_⟩
      exact ⟨_, rfl, Same.tr s1 (Same.tr s19 (Same.tr sA sB))⟩
    · rintro σ H1 ⟨o2, rfl, s1⟩
      exact q _ s1
end
end K13

namespace K13
open PySem PySem.Spec PyProof.Rows L2
/-! ### how long the answers are -/
theorem nd_len {α : Type} [DecidableEq α] : ∀ {l m : List α}, l.Nodup → (∀ x, x ∈ l → x ∈ m) → l.length ≤ m.length
  | [], _, _, _ => Nat.zero_le _
  | a :: l, m, h, s => by
    obtain ⟨h1, h2⟩ := List.nodup_cons.mp h
    have ha := s a List.mem_cons_self
    have ih := nd_len (m := m.erase a) h2 fun x hx => (List.mem_erase_of_ne (fun z : x = a => h1 (by rw [← z]; exact hx))).mpr (s x (List.mem_cons_of_mem _ hx))
    rw [List.length_erase_of_mem ha] at ih
    have : 0 < m.length := List.length_pos_of_mem ha
    rw [List.length_cons]
    omega
theorem opn_len {ks : List Int} {bs : List Bx} {ns : List Int} {ts : List TX} (h : Opn ks bs ns ts) : ns.length ≤ ks.length + bs.length ∧ ts.length ≤ bs.length := by
  constructor
  · have h1 : ns.length ≤ (ks ++ bs.filterMap fun b => keyO b.1).length := nd_len h.s1.nodup fun k hk => by
      have c := (h.m1 k).mp hk
      cases c with
      | base hb => exact List.mem_append_left _ hb
      | step hb _ => exact List.mem_append_right _ (List.mem_filterMap.mpr ⟨_, hb, rfl⟩)
    have h2 := List.length_filterMap_le (fun b : Bx => keyO b.1) bs
    rw [List.length_append] at h1
    omega
  · have hn : ts.Nodup := h.s2.imp fun {p q} z e => by rw [e, ltT_irrefl] at z; cases z
    have h1 : ts.length ≤ (bs.filterMap fun b => txtO b.1).length := nd_len hn fun p hp => by
      have c := (h.m2 p).mp hp
      cases c with
      | step hb _ => exact List.mem_filterMap.mpr ⟨_, hb, rfl⟩
    have h2 := List.length_filterMap_le (fun b : Bx => txtO b.1) bs
    omega
/-! ### all that is opened, as one tuple -/
def allT (ns : List Int) (ts : List TX) : List Th := ns.map Th.key ++ ts.map fun p => Th.txt p.1 p.2
theorem mem_all {ks : List Int} {bs : List Bx} {ns : List Int} {ts : List TX} (h : Opn ks bs ns ts) (t : Th) : t ∈ allT ns ts ↔ Cl ks bs t := by
  unfold allT
  rw [List.mem_append, List.mem_map, List.mem_map]
  cases t with
  | key k =>
    rw [← h.m1 k]
    constructor
    · rintro (⟨j, hj, e⟩ | ⟨p, _, e⟩)
      · rw [← (Th.key.inj e)]; exact hj
      · cases e
    · exact fun hk => .inl ⟨k, hk, rfl⟩
  | txt x n =>
    rw [← h.m2 (x, n)]
    constructor
    · rintro (⟨j, _, e⟩ | ⟨p, hp, e⟩)
      · cases e
      · obtain ⟨e1, e2⟩ := Th.txt.inj e
        have : p = (x, n) := by rw [← e1, ← e2]
        rw [← this]
        exact hp
    · exact fun hk => .inr ⟨_, hk, rfl⟩
theorem th_ints {H : Hp} : ∀ l : List Int, Paired (thV H) (l.map V.int) (l.map Th.key)
  | [] => .nil
  | k :: l => .cons rfl (th_ints l)
theorem th_txs {H : Hp} : ∀ {vs : List V} {ts : List TX}, Paired (txV H) vs ts → Paired (thV H) vs (ts.map fun p => Th.txt p.1 p.2)
  | _, _, .nil => .nil
  | _, _, .cons r t => .cons r (th_txs t)
theorem all_low {ks : List Int} {bs : List Bx} {ns : List Int} {ts : List TX} (h : Opn ks bs ns ts) (l : Lows bs) : ∀ t, t ∈ allT ns ts → lowT t := fun t ht => by
  have c := (mem_all h t).mp ht
  cases c with
  | base _ => trivial
  | step hb _ => exact l _ hb
theorem sh_tt {ts : List Th} (h : ∀ t, t ∈ ts → lowT t) : SeqAt.shaped (.tuple (ts.map thD)) = true := by
  have g : PyData.depthAll (ts.map thD) ≤ 1 := dep_map fun x _ => dep_th x
  refine sh_of ?_ ?_
  · simp only [PyData.canLay0]
    exact lay_map fun x hx => lay_th (h x hx)
  · simp only [PyData.depth]
    omega
/-- pair[0] + pair[1] -/
theorem cat_pr {K : PySem.W.Frag} {H : Hp} {x y : V} {ns : List Int} {ts : List TX} {Q : VK} (hx : nsV H x ns) (hy : tsV H y ts) (hl : ns.length + ts.length ≤ sizeLine)
    (q : ∀ r H' zs, Same H H' → H' r = some (.tup zs) → Paired (thV H') zs (allT ns ts) → Q (.ref r) H') : rCatA K x y H Q := by
  obtain ⟨a, rfl, ha⟩ := hx
  obtain ⟨b, vs, rfl, hb, hp⟩ := hy
  have hvl := paired_len hp
  have hpt : Paired (thV H) (ns.map V.int ++ vs) (allT ns ts) := paired_app (th_ints ns) (th_txs hp)
  refine ⟨a, b, ns.map V.int, vs, rfl, rfl, SqT.of ha, SqT.of hb, by rw [List.length_map, hvl]; exact hl, fun e => ?_, fun _ e => ?_, fun _ _ p hp0 => ?_⟩
  · rw [e, List.nil_append] at hpt
    exact q b H _ (Same.rf H) hb hpt
  · rw [e, List.append_nil] at hpt
    exact q a H _ (Same.rf H) ha hpt
  · exact q p _ _ (Same.new hp0) upd_same (pMono (fun _ _ z => z.mono (TK.new hp0)) hpt)
/-- a tuple of ints + a tuple of ints -/
theorem cat_ns {K : PySem.W.Frag} {H : Hp} {x y : V} {l m : List Int} {Q : VK} (hx : nsV H x l) (hy : nsV H y m) (hl : l.length + m.length ≤ sizeLine)
    (q : ∀ v H', Same H H' → nsV H' v (l ++ m) → Q v H') : rCatA K x y H Q := by
  obtain ⟨a, rfl, ha⟩ := hx
  obtain ⟨b, rfl, hb⟩ := hy
  refine ⟨a, b, l.map V.int, m.map V.int, rfl, rfl, SqT.of ha, SqT.of hb, by rw [List.length_map, List.length_map]; exact hl, fun e => ?_, fun _ e => ?_, fun _ _ p hp0 => ?_⟩
  · have e : l = [] := List.map_eq_nil_iff.mp e
    rw [e, List.nil_append] at q
    exact q _ H (Same.rf H) ⟨b, rfl, hb⟩
  · have e : m = [] := List.map_eq_nil_iff.mp e
    rw [e, List.append_nil] at q
    exact q _ H (Same.rf H) ⟨a, rfl, ha⟩
  · exact q _ _ (Same.new hp0) ⟨p, rfl, by rw [upd_same, List.map_append]⟩
theorem any_bx {l : List Bx} {b : Bx} (h : b ∈ l) : ((l.map bxD).any fun z => PyData.eqv z (bxD b)) = true := List.any_eq_true.mpr ⟨bxD b, List.mem_map.mpr ⟨b, h, rfl⟩, by rw [eqv_bx]; exact decide_eq_true rfl⟩
theorem any_tt {l : List Th} {t : Th} (h : t ∈ l) : ((l.map thD).any fun z => PyData.eqv z (thD t)) = true := List.any_eq_true.mpr ⟨thD t, List.mem_map.mpr ⟨t, h, rfl⟩, by rw [eqv_th]; exact decide_eq_true rfl⟩
/-! ### != that says False -/
section
variable {K : PySem.W.Frag} {P : Program} {w : World} {mg : Str → Option Value} {base : Heap} {T : Kd → Addr} {fe fo : Addr}
theorem ne_ob (Z : KF P w K mg base T fe fo) {a b : Addr} {H : Hp} {ca cb : List Bx} {Q : VK} (ha : Ob T a H ca) (hb : Ob T b H cb) (la : Lows ca) (lb : Lows cb) (e : ca = cb) (q : ∀ H', Same H H' → Q (.bl false) H') : rCmp K fe (Rch T) not (.ref a) (.ref b) H Q :=
  cmp_ob Z ha hb la lb fun H' s => by
    rw [decide_eq_true e]
    exact q H' s
theorem ne_dp {x y : V} {H : Hp} {d e : PyData} {Q : VK} (hx : Dp K H x d) (hy : Dp K H y e) (sx : SeqAt.shaped d = true) (sy : SeqAt.shaped e = true) (h : PyData.eqv d e = true) (q : Q (.bl false) H) : rNeD K x y H Q :=
  ⟨d, e, hx, hy, sx, sy, by rw [h]; exact q⟩
theorem ne_nl {D e : Addr} {H : Hp} {Q : VK} (hD : H D = some (.lst [])) (he : H e = none) (q : Q (.bl false) (upd H e (.lst []))) : rNeD K (.ref D) (.ref e) (upd H e (.lst [])) Q :=
  ne_dp (.lst (SqL.of (Same.new he _ _ hD)) .nil) (.lst (SqL.of upd_same) .nil) (by decide) (by decide) (by decide) q
end
end K13

namespace K13
open PySem PySem.Spec PyProof.Rows L2
/-! ### sizes -/
structure Fb (n m : Nat) (bs : List Bx) : Prop where
  g : Goods bs
  len : bs.length ≤ n
  kl : ∀ b, b ∈ bs → b.2.length ≤ m
theorem Fb.fit {n m : Nat} {bs : List Bx} (h : Fb n m bs) (h1 : n ≤ 1000) (h2 : m ≤ 1000) : Fit bs := ⟨h.g, Nat.le_trans h.len h1, fun b hb => Nat.le_trans (h.kl b hb) h2⟩
theorem Fit.sm {bs : List Bx} (h : Fit bs) : Sm bs := ⟨h.g.lows, h.len, h.kl⟩
theorem fb_shift {n m : Nat} {bs : List Bx} {k : Int} (h : Fb n m bs) (hk : 0 ≤ k) : Fb n m (shift k bs) := by
  refine ⟨good_shift hk h.g, by rw [shift_length]; exact h.len, fun b hb => ?_⟩
  obtain ⟨c, hc, rfl⟩ := List.mem_map.mp hb
  show (c.2.map (· + k)).length ≤ m
  rw [List.length_map]
  exact h.kl c hc
theorem fb_without {n m : Nat} {bs : List Bx} {k : Int} (h : Fb n m bs) : Fb n m (without k bs) :=
  ⟨good_without h.g, Nat.le_trans (List.length_filter_le _ _) h.len, fun b hb => h.kl b (without_sub hb)⟩
theorem swapK_len (k e : Int) (l : List Int) : (swapK k e l).length ≤ l.length + 1 := by
  unfold swapK
  rw [(srt_perm _).length_eq, List.length_append]
  have := List.length_filter_le (fun j => decide (j ≠ k)) l
  simp only [List.length_cons, List.length_nil]
  omega
theorem double_len (k e : Int) : ∀ bs : List Bx, (double k e bs).length ≤ 2 * bs.length
  | [] => Nat.le_refl _
  | b :: bs => by
    have ih := double_len k e bs
    have h1 : (dblB k e b).length ≤ 2 := by unfold dblB; split <;> simp
    show (dblB k e b ++ double k e bs).length ≤ _
    rw [List.length_append, List.length_cons]
    omega
theorem fb_double {n m : Nat} {bs : List Bx} {k e : Int} (h : Fb n m bs) (he : 0 ≤ e) : Fb (2 * n) (m + 1) (double k e bs) := by
  refine ⟨good_double he h.g, ?_, fun b hb => ?_⟩
  · have h1 := double_len k e bs
    have h2 := h.len
    omega
  · rcases of_double hb with hb | ⟨c, hc, _, rfl⟩
    · have := h.kl b hb
      omega
    · have h1 := swapK_len k e c.2
      have h2 := h.kl c hc
      show (swapK k e c.2).length ≤ m + 1
      omega
theorem fb_lot {bs : List Bx} (h : ∀ b, b ∈ bs → LotB b) (hl : bs.length ≤ 5) : Fb 5 3 bs := ⟨fun b hb => (h b hb).1, hl, fun b hb => (h b hb).2.2.1⟩
theorem below_lot {bs : List Bx} (h : ∀ b, b ∈ bs → LotB b) : Below 6 bs := fun b hb => by
  obtain ⟨_, h1, _, h2⟩ := h b hb
  refine ⟨fun k hk => (h2 k hk).2, fun k e => ?_⟩
  rw [e] at h1
  exact h1.2
theorem tiny_lot {bs : List Bx} (h : ∀ b, b ∈ bs → LotB b) (hl : bs.length ≤ 5) : Tiny bs := ⟨hl, fun b hb => (h b hb).2.1, fun b hb => (h b hb).2.2.1, fun b hb => (h b hb).2.2.2⟩
theorem PSs.imp {X : Cx} {st : List Stmt} {t t' : TS} (h : PSs X st t) (i : ∀ D σ H, t' D σ H → t D σ H) : PSs X st t' := ⟨fun pins s σ H D I q => h.run pins s σ H D I (i D σ H q)⟩
/-- what is known behind the three chests -/
structure Rf (T : Kd → Addr) (H : Hp) (vl vk : V) (xs xd xw : Addr) (key more late : Int) (lot : List Bx) (ks : List Int) : Prop where
  hlot : bsV H vl lot
  hk : nsV H vk ks
  oS : Ob T xs H (shift more lot)
  oD : Ob T xd H (double key late lot)
  oW : Ob T xw H (without key lot)
  hB : ∀ b, b ∈ lot → LotB b
  hl5 : lot.length ≤ 5
  hkl : ks.length ≤ 3
  hk6 : ∀ k, k ∈ ks → 0 ≤ k ∧ k < 6
  m0 : 0 ≤ more
  l0 : 6 ≤ late
theorem Rf.mono {T : Kd → Addr} {H H' : Hp} {vl vk : V} {xs xd xw : Addr} {key more late : Int} {lot : List Bx} {ks : List Int} (R : Rf T H vl vk xs xd xw key more late lot ks) (s : Same H H') : Rf T H' vl vk xs xd xw key more late lot ks :=
  ⟨R.hlot.mono (TK.of s), R.hk.mono (TK.of s), R.oS.mono s, R.oD.mono s, R.oW.mono s, R.hB, R.hl5, R.hkl, R.hk6, R.m0, R.l0⟩
def tRest (T : Kd → Addr) : TS := fun D σ H => ∃ (d : Addr) (vl vk : V) (xs xd xw : Addr) (key more late : Int) (lot : List Bx) (ks : List Int) (o9 o10 o11 o12 o13 : Option V),
  σ = [some (.ref d), some vl, some vk, some (.int key), some (.int more), some (.int late), some (.ref xs), some (.ref xd), some (.ref xw), o9, o10, o11, o12, o13, none] ∧ Rf T H vl vk xs xd xw key more late lot ks ∧ ∀ H', Same H H' → D.rt (.bl true) H'
section
variable {P : Program} {w : World} {K : PySem.W.Frag} {mg : Str → Option Value} {base : Heap} {T fi : Kd → Addr} {fe fo : Addr}
def spRight : Sp := fun vs H Q _ => ∃ (d l : Addr) (vl vk : V) (lot : List Bx) (ks : List Int), vs = [.ref d, vl, vk] ∧ Fd l H d ∧ bsV H vl lot ∧ (∀ b, b ∈ lot → LotB b) ∧ lot.length ≤ 5 ∧ nsV H vk ks ∧ ks.length ≤ 3 ∧ (∀ k, k ∈ ks → 0 ≤ k ∧ k < 6) ∧ ∀ H', Fd l H' d → SX d H H' → Q (.bl true) H'
abbrev N31 : List Str := ["_law_feed_here", "_law_lot_here", "_law_grip_here", "_law_key_in", "_law_more", "_law_late", "_law_shifted", "_law_doubled", "_law_less", "_law_moved_in", "_law_pair", "_law_told", "_law_two", "_law_other_in", "_law_one"]
theorem sc31 : FnScope N31 ["_law_feed_here", "_law_lot_here", "_law_grip_here"] (defScope (top 31)) := ⟨rfl, rfl, rfl, by decide +kernel, rfl, by decide +kernel, by decide +kernel⟩
abbrev XR (P : Program) (w : World) (K : PySem.W.Frag) (mg : Str → Option Value) (base : Heap) (f : Addr) (cdv : Value) (A : Around) (outer : List Env) (s : Shared) (H : Hp) (E : XK) : Cx := (cxOf CX0 P w K mg base N31 "_law_right" (defScope (top 31)) f cdv A outer s H E).nox
section
variable {f : Addr} {cdv : Value} {A : Around} {outer : List Env} {s : Shared} {H0 : Hp} {E : XK}
theorem right4 (L : LW P w K mg base T fi fe fo) (CD : Cl1 P w K mg base 1 "_law_draw" spDraw) (CP : Cl1 P w K mg base 1 "_law_shifted_pair" spPair) (CA : Cl1 P w K mg base 8 "_law_alike_right" (spAlike T)) (hr : Room 8 (XR P w K mg base f cdv A outer s H0 E).A) : PSs (XR P w K mg base f cdv A outer s H0 E) ((defBody (top 31)).drop 12) (tRest T) := by
  have nd := sc31.nd
  have r5 := hr.mono (show 5 ≤ 8 by decide)
  have r4 := hr.mono (show 4 ≤ 8 by decide)
  have r3 := hr.mono (show 3 ≤ 8 by decide)
  have r2 := hr.mono (show 2 ≤ 8 by decide)
  have r1 := hr.mono (show 1 ≤ 8 by decide)
  have hu := hu65 hr
  refine PSs.imp (pss_cons (ps_if (pt_cmpR (op_neC L r5) (pe_newW L r4 (pv 1) (pk_cons (pv 5) pk_nil)) (pe_newC L r2 (pv 1)) (nomark _)) (pss_one (ps_ret pe_bl)) pss_nil)
      (pss_cons (ps_set (i := 12) nd rfl (Or.inl rfl) (pe_newSD L r4 (pv 1) (pk_cons (pv 4) (pk_cons (pv 3) (pk_cons (pv 5) pk_nil)))))
      (pss_cons (ps_if (pt_cmpR (op_neC L r5) (pv 12) (pe_newS L r4 (pe_content (pl := _) L.Z r3 (pv 7)) (pk_cons (pv 4) pk_nil)) (nomark _)) (pss_one (ps_ret pe_bl)) pss_nil)
      (pss_cons (ps_if (pt_cmpR (op_neC L r5) (pv 12) (pe_newDS L r4 (pv 1) (pk_cons (pv 4) (pk_cons (pe_op op_add (pv 3) (pv 4)) (pk_cons (pe_op op_add (pv 5) (pv 4)) pk_nil)))) (nomark _)) (pss_one (ps_ret pe_bl)) pss_nil)
      (pss_cons (ps_set (i := 13) nd rfl (Or.inl rfl) (pe_newDS L r4 (pv 1) (pk_cons (pv 4) (pk_cons (pv 3) (pk_cons (pv 5) pk_nil)))))
      (pss_cons (ps_if (pt_cmpR (op_neC L r5) (pv 13) (pe_newD L r4 (pe_content (pl := _) L.Z r3 (pv 6)) (pk_cons (pv 3) (pk_cons (pv 5) pk_nil))) (nomark _)) (pss_one (ps_ret pe_bl)) pss_nil)
      (pss_one (ps_ret (pe_cl CA hr (pa_cons (pv 2) (pa_cons (pe_lst (pa_cons (pe_newC L r2 (pv 1)) (pa_cons (pv 6) (pa_cons (pv 7) (pa_cons (pv 8) (pa_cons (pv 12) (pa_cons (pv 13) pa_nil))))))) pa_nil))))))))))) ?_
  rintro D σ H ⟨d, vl, vk, xs, xd, xw, key, more, late, lot, ks, o9, o10, o11, o12, o13, rfl, R, q⟩
  obtain ⟨hlot, hk, oS, oD, oW, hB, hl5, hkl, hk6, m0, l0⟩ := id R
  have h3k : 3000 < sizeLine := by decide
  have fL := fb_lot hB hl5
  have fS := fb_shift fL m0
  have fD := fb_double (k := key) (e := late) fL (by omega)
  have fW := fb_without (k := key) fL
  have fitS := fS.fit (by decide) (by decide)
  have fitL := fL.fit (by decide) (by decide)
  have fitD := fD.fit (by decide) (by decide)
  have fitW := fW.fit (by decide) (by decide)
  have smL := fitL.sm
  have far : Far late lot := (below_lot hB).far l0
  -- Without(lot, key=late) != Chest(lot)
  refine ⟨_, rfl, _, rfl, without late lot, rfl, ⟨late, lot, rfl, hlot, smL, rfl⟩, fun x1 H1 s1 o1 => ?_⟩
  refine ⟨_, rfl, lot, hlot.mono (TK.of s1), fun x2 H2 s2 o2 => ?_⟩
  have S1 := Same.tr s1 s2
  refine ne_ob L.Z (o1.mono s2) o2.ob (fb_without fL).g.lows fL.g.lows (without_far far) fun H3 s3 => ⟨_, rfl, ?_⟩
  have S2 := Same.tr S1 s3
  show if false = true then _ else _
  refine ifF rfl ?_
  clear s1 s2 s3 o1 o2 S1
  -- two
  refine ⟨_, rfl, _, rfl, _, rfl, _, rfl, shift more (double key late lot), rfl, ⟨more, key, late, lot, rfl, hlot.mono (TK.of S2), smL, fitD.sm, rfl⟩, fun xt H4 s4 oT => ?_⟩
  have S3 := Same.tr S2 s4
  have fT := fb_shift fD m0
  have fitT := fT.fit (by decide) (by decide)
  refine ⟨_, rfl, co_var rfl (oD.mono S3) fun v5 H5 s5 hv5 => ?_⟩
  have S4 := Same.tr S3 s5
  refine ⟨_, rfl, shift more (double key late lot), rfl, ⟨more, double key late lot, rfl, hv5, fitD.sm, rfl⟩, fun x6 H6 s6 o6 => ?_⟩
  refine ne_ob L.Z (oT.mono (Same.tr s5 s6)) o6 fT.g.lows fT.g.lows rfl fun H7 s7 => ⟨_, rfl, ?_⟩
  have sT := Same.tr s5 (Same.tr s6 s7)
  have S5 := Same.tr S3 sT
  have oT := oT.mono sT
  show if false = true then _ else _
  refine ifF rfl ?_
  clear s4 s5 s6 s7 o6 hv5 sT S2 S3 S4
  refine ⟨_, rfl, _, rfl, _, rfl, _, rfl, _, rfl, _, _, rfl, rfl, _, rfl, _, rfl, _, _, rfl, rfl, double (key + more) (late + more) (shift more lot), rfl, ⟨more, key + more, late + more, lot, rfl, hlot.mono (TK.of S5), smL, fitS.sm, rfl⟩, fun x8 H8 s8 o8 => ?_⟩
  refine ne_ob L.Z (oT.mono s8) o8 fT.g.lows (fb_double fS (by omega)).g.lows (shift_double more key late lot) fun H9 s9 => ⟨_, rfl, ?_⟩
  have S6 := Same.tr S5 (Same.tr s8 s9)
  have oT := oT.mono (Same.tr s8 s9)
  show if false = true then _ else _
  refine ifF rfl ?_
  clear s8 s9 o8 S5
  -- the other way
  have fO := fb_double (k := key) (e := late) fS (by omega)
  have fitO := fO.fit (by decide) (by decide)
  refine ⟨_, rfl, _, rfl, _, rfl, _, rfl, double key late (shift more lot), rfl, ⟨more, key, late, lot, rfl, hlot.mono (TK.of S6), smL, fitS.sm, rfl⟩, fun xo HA sA oO => ?_⟩
  have S7 := Same.tr S6 sA
  refine ⟨_, rfl, co_var rfl (oS.mono S7) fun vB HB sB hvB => ?_⟩
  refine ⟨_, rfl, _, rfl, double key late (shift more lot), rfl, ⟨key, late, shift more lot, rfl, hvB, fitS.sm, rfl⟩, fun xC HC sC oC => ?_⟩
  refine ne_ob L.Z (oO.mono (Same.tr sB sC)) oC fO.g.lows fO.g.lows rfl fun HD sD => ⟨_, rfl, ?_⟩
  have sO := Same.tr sB (Same.tr sC sD)
  have S8 := Same.tr S7 sO
  have oO := oO.mono sO
  have oT := oT.mono (Same.tr sA sO)
  show if false = true then _ else _
  refine ifF rfl ?_
  clear sA sB sC sD oC hvB sO S6 S7
  -- all six
  refine ⟨_, rfl, _, rfl, lot, hlot.mono (TK.of S8), fun xE HE sE oE => ?_⟩
  have S9 := Same.tr S8 sE
  refine ⟨_, rfl, _, rfl, _, rfl, _, rfl, _, rfl, by show 6 ≤ sizeLine; decide, fun ml hml => ?_⟩
  have sM : Same HE (upd HE ml (.lst [.ref xE, .ref xs, .ref xd, .ref xw, .ref xt, .ref xo])) := Same.new hml
  have S10 := Same.tr S9 sM
  refine ⟨vk, ml, ks, _, [lot, shift more lot, double key late lot, without key lot, shift more (double key late lot), double key late (shift more lot)], rfl, hk.mono (TK.of S10), by omega, upd_same,
    .cons ⟨xE, rfl, oE.ob.mono sM⟩ (.cons ⟨xs, rfl, oS.mono S10⟩ (.cons ⟨xd, rfl, oD.mono S10⟩ (.cons ⟨xw, rfl, oW.mono S10⟩ (.cons ⟨xt, rfl, oT.mono (Same.tr sE sM)⟩ (.cons ⟨xo, rfl, oO.mono (Same.tr sE sM)⟩ .nil))))), fun c hc => ?_, by show 6 ≤ 1000; decide, fun H' s' => q H' (Same.tr S10 s')⟩
  simp only [List.mem_cons, List.not_mem_nil, or_false] at hc
  rcases hc with rfl | rfl | rfl | rfl | rfl | rfl
  · exact fitL
  · exact fitS
  · exact fitD
  · exact fitW
  · exact fitT
  · exact fitO
theorem right3 (L : LW P w K mg base T fi fe fo) (CD : Cl1 P w K mg base 1 "_law_draw" spDraw) (CP : Cl1 P w K mg base 1 "_law_shifted_pair" spPair) (CA : Cl1 P w K mg base 8 "_law_alike_right" (spAlike T)) (hr : Room 8 (XR P w K mg base f cdv A outer s H0 E).A) : PSs (XR P w K mg base f cdv A outer s H0 E) ((defBody (top 31)).drop 8) (tRest T) := by
  have nd := sc31.nd
  have r5 := hr.mono (show 5 ≤ 8 by decide)
  have r4 := hr.mono (show 4 ≤ 8 by decide)
  have r3 := hr.mono (show 3 ≤ 8 by decide)
  have r2 := hr.mono (show 2 ≤ 8 by decide)
  have r1 := hr.mono (show 1 ≤ 8 by decide)
  have hu := hu65 hr
  refine PSs.imp (pss_cons (ps_asg (pe_tup (pa_cons (pe_cl L.op r2 (pa_cons (pv 2) (pa_cons (pv 1) pa_nil))) (pa_cons (pe_opening (pl := _) L r4 (pv 7) (pa_cons (pv 2) pa_nil)) pa_nil))) (pg_tup rfl (pgs_cons (pg_name (i := 10) nd rfl (Or.inl rfl)) (pgs_cons (pg_name (i := 11) nd rfl (Or.inr rfl)) pgs_nil))))
      (pss_cons (ps_if (PW.pt (pw_or (pt_cmpR (op_neD hr.units) (pe_lc (own := [("_law_one", 14)]) (g := gName 14) (tt := tTest (tOp (rNinT K) (tVar 14) (tOp (rCatA K) (tOp (rIxT K) (tVar 11) (tC (.int 0))) (tOp (rIxT K) (tVar 11) (tC (.int 1)))))) (te := tVar 14) rfl nd (pi_tup (pe_op op_catA (pe_ix ix_tup (pv 10) pe_int (fun _ _ => rfl)) (pe_ix ix_tup (pv 10) pe_int (fun _ _ => rfl)))) (blkOk_by (N := N31) (sc := defScope (top 31)) (by decide +kernel)) (fun _ _ _ _ _ => pg_name (i := 14) nd rfl (Or.inl rfl)) (fun _ _ _ _ _ => pts_one (pt_cmpR (op_ninT hu) (pv 14) (pe_op op_catA (pe_ix ix_tup (pv 11) pe_int (fun _ _ => rfl)) (pe_ix ix_tup (pv 11) pe_int (fun _ _ => rfl))) (by rfl))) (fun _ _ _ _ _ => pv 14)) (pe_lst pa_nil) (nomark _)) (pw_or1 (PW.pt (pw_and (pt_cmpR (op_ninT hu) (pv 5) (pv 2) (by rfl)) (pw_and1 (pt_cmpR (op_neD hr.units) (pv 11) (pv 10) (nomark _)))))))) (pss_one (ps_ret pe_bl)) pss_nil)
      (pss_cons (ps_set (i := 11) nd rfl (Or.inr rfl) (pe_opening (pl := _) L r4 (pv 7) (pa_cons (pe_op op_catA (pe_callTy call_tuple_of (by rfl) L.G.tuple PyProof.Rows.boot_tuple (pa_cons (pe_lc (own := [("_law_one", 14)]) (g := gName 14) (tt := tB (tNeI (tVar 14) (tVar 3))) (te := tVar 14) rfl nd (pi_tup (pv 2)) (blkOk_by (N := N31) (sc := defScope (top 31)) (by decide +kernel)) (fun _ _ _ _ _ => pg_name (i := 14) nd rfl (Or.inl rfl)) (fun _ _ _ _ _ => pts_one (pt_cmp (pc_neI (pv 14) (pv 3)))) (fun _ _ _ _ _ => pv 14)) pa_nil)) (pe_tup (pa_cons (pv 5) pa_nil))) pa_nil)))
      (pss_cons (ps_if (pt_cmpR (op_neD hr.units) (pe_lc (own := [("_law_one", 14)]) (g := gName 14) (tt := tAnd (tTest (tOp (rNeD K) (tVar 14) (tVar 3))) (tTest (tOp (rNinT K) (tVar 14) (tOp (rCatA K) (tOp (rIxT K) (tVar 11) (tC (.int 0))) (tOp (rIxT K) (tVar 11) (tC (.int 1))))))) (te := tVar 14) rfl nd (pi_tup (pe_op op_catA (pe_ix ix_tup (pv 10) pe_int (fun _ _ => rfl)) (pe_ix ix_tup (pv 10) pe_int (fun _ _ => rfl)))) (blkOk_by (N := N31) (sc := defScope (top 31)) (by decide +kernel)) (fun _ _ _ _ _ => pg_name (i := 14) nd rfl (Or.inl rfl)) (fun _ _ _ _ _ => pts_one (PW.pt (pw_and (pt_cmpR (op_neD hr.units) (pv 14) (pv 3) (nomark _)) (pw_and1 (pt_cmpR (op_ninT hu) (pv 14) (pe_op op_catA (pe_ix ix_tup (pv 11) pe_int (fun _ _ => rfl)) (pe_ix ix_tup (pv 11) pe_int (fun _ _ => rfl))) (by rfl)))))) (fun _ _ _ _ _ => pv 14)) (pe_lst pa_nil) (nomark _)) (pss_one (ps_ret pe_bl)) pss_nil) (right4 L CD CP CA hr))))) ?_
  rintro D σ H ⟨d, vl, vk, xs, xd, xw, key, more, late, lot, ks, o9, o10, o11, o12, o13, rfl, R, q⟩
  obtain ⟨hlot, hk, oS, oD, oW, hB, hl5, hkl, hk6, m0, l0⟩ := id R
  have h3k : 3000 < sizeLine := by decide
  have fL := fb_lot hB hl5
  have fS := fb_shift fL m0
  have fD := fb_double (k := key) (e := late) fL (by omega)
  have fW := fb_without (k := key) fL
  have fitS := fS.fit (by decide) (by decide)
  have fitL := fL.fit (by decide) (by decide)
  have fitD := fD.fit (by decide) (by decide)
  have fitW := fW.fit (by decide) (by decide)
  have smL := fitL.sm
  have far : Far late lot := (below_lot hB).far l0
  obtain ⟨ak, rfl, hak⟩ := id hk
  -- pair, told
  refine ⟨_, rfl, _, rfl, .ref ak, vl, ks, lot, rfl, hk, hlot, fitL.bok, by omega, fun v1 ns ts HT sT hp1 ho1 => ?_⟩
  refine og_var rfl (oD.mono sT) ⟨_, rfl, xd, .ref ak, ks, double key late lot, rfl, oD.mono sT, hk.mono (TK.of sT), fitD.bok, by omega, fun v2 ns2 ts2 HU sU hp2 ho2 => ?_⟩
  have S19 := Same.tr sT sU
  refine ⟨by show 2 ≤ sizeLine; decide, fun tp2 htp2 => ⟨tp2, _, rfl, SqT.of upd_same, rfl, _, _, rfl, _, _, rfl, rfl, ?_⟩⟩
  have S20 := Same.tr S19 (Same.new (o := .tup [v1, v2]) htp2)
  have hp1 := hp1.mono (TK.of (Same.tr sU (Same.new (o := .tup [v1, v2]) htp2)))
  have hp2 := hp2.mono (TK.of (Same.new (o := .tup [v1, v2]) htp2))
  generalize upd HU tp2 (.tup [v1, v2]) = HV at S20 hp1 hp2
  have ln1 := opn_len ho1
  have ln2' := opn_len ho2
  have fdl := fD.len
  have hz1 : ns.length + ts.length ≤ sizeLine := by omega
  have hz2 : ns2.length + ts2.length ≤ sizeLine := by omega
  clear sT sU S19 htp2
  obtain ⟨p1, x1, y1, rfl, hp1a, hx1, hy1⟩ := id hp1
  obtain ⟨p2, x2, y2, rfl, hp2a, hx2, hy2⟩ := id hp2
  -- [..] != []
  refine ⟨_, rfl, p1, _, 0, _, rfl, rfl, SqT.of hp1a, atI_nat (j := 0) rfl, _, rfl, p1, _, 1, _, rfl, rfl, SqT.of hp1a, atI_nat (j := 1) rfl, ?_⟩
  refine cat_pr (ns := ns) (ts := ts) hx1 hy1 hz1 fun rt HW zs sW hrt hzs => ?_
  refine ⟨rt, rfl, ⟨_, SqT.of hrt⟩, fun D3 hD3 => lc_gen (walk_tup (xs := zs)) hD3 (fun _ acc _ => acc = []) (fun _ _ => rfl) (fun H' s' => SqT.of (s' _ _ hrt)) ?_ ?_⟩
  · rintro j z H5 H5' acc hj s5 hH5 hl5' r5' ⟨rfl, e2⟩
    obtain ⟨t, ht, hv⟩ := paired_get hzs e2
    have hin : t ∈ allT ns2 ts2 := (mem_all ho2 t).mpr (((mem_all ho1 t).mp (List.mem_of_getElem? ht)).mono (fun _ z => z) fun _ z => sub_double z)
    have sU5 := Same.tr sW s5
    refine ⟨rfl, _, rfl, _, rfl, p2, _, 0, _, rfl, rfl, SqT.of (sU5 _ _ hp2a), atI_nat (j := 0) rfl, _, rfl, p2, _, 1, _, rfl, rfl, SqT.of (sU5 _ _ hp2a), atI_nat (j := 1) rfl, ?_⟩
    refine cat_pr (ns := ns2) (ts := ts2) (hx2.mono (TK.of sU5)) (hy2.mono (TK.of sU5)) hz2 fun rt2 H6 zs2 s6 hrt2 hzs2 => ?_
    refine ⟨thD t, (allT ns2 ts2).map thD, (hv.mono (TK.of (Same.tr s5 s6))).dp, .tup (SqT.of hrt2) (dp_all (fun _ _ z => z.dp) hzs2), sh_th (all_low ho1 fitL.g.lows t (List.mem_of_getElem? ht)), sh_tt (all_low ho2 fitD.g.lows), _, rfl, ?_⟩
    rw [any_tt hin]
    show if false = true then _ else _
    exact ifF rfl (PvL.skip s5 hH5 hl5' s6 r5')
  rintro HX acc sX hHX hlX rfl
  refine ⟨Nat.zero_le _, fun e1 he1 => ne_nl hHX he1 ⟨_, rfl, ?_⟩⟩
  have sN := Same.tr sW (Same.tr sX (Same.new (o := .lst []) he1))
  have S22 := Same.tr S20 sN
  generalize upd HX e1 (.lst []) = HY at S22 sN
  show if false = true then _ else _
  refine ifF rfl ?_
  clear sX hHX he1 hrt hzs hD3 sW
  -- late not in grip and told != pair
  have hlk : late ∉ ks := fun z => by have := (hk6 late z).2; omega
  refine ⟨_, rfl, _, rfl, thD (.key late), ks.map PyData.int, .int late, (hk.mono (TK.of S22)).dp, sh_th (t := .key late) trivial, sh_ns ks, _, rfl, ?_⟩
  have el : thIn (.key late) ks = false := decide_eq_false hlk
  rw [any_th, el]
  show if true = true then _ else _
  refine ifT rfl ?_
  have eu := ho2.uniq ho1 fun t => ⟨cl_double_far hlk far, fun c => c.mono (fun _ z => z) fun _ z => sub_double z⟩
  refine ⟨_, rfl, _, rfl, ne_dp (hp2.mono (TK.of sN)).dp (hp1.mono (TK.of sN)).dp (sh_pr (opn_low ho2 fitD.g.lows)) (sh_pr (opn_low ho1 fitL.g.lows)) (by rw [eqv_pr, eu.1, eu.2]; exact decide_eq_true rfl) ⟨_, rfl, ?_⟩⟩
  show if false = true then _ else _
  refine ifF rfl ?_
  clear eu el hp2 ho2 hp2a hx2 hy2 hz2 ln2'
  have hp1a := sN _ _ hp1a
  have hx1 := hx1.mono (TK.of sN)
  have hy1 := hy1.mono (TK.of sN)
  clear hp1 S20 sN
  -- told = doubled.opening(.. + (late,))
  refine og_var rfl (oD.mono S22) ?_
  refine ⟨_, rfl, ak, rfl, ⟨_, SqT.of (S22 _ _ hak)⟩, fun D4 hD4 => lc_gen (walk_tup (xs := ks.map V.int)) hD4 (fun j acc _ => acc = ((ks.take j).filter fun z => decide (z ≠ key)).map V.int) (fun _ _ => rfl) (fun H' s' => SqT.of (s' _ _ (S22 _ _ hak))) ?_ ?_⟩
  · rintro j z H6 H6' acc2 hj s6 hH6 hl6 r6 ⟨rfl, e2⟩
    rw [List.length_map] at hj
    rw [List.getElem?_map, List.getElem?_eq_getElem hj] at e2
    obtain rfl : V.int ks[j] = z := Option.some.inj e2
    have r6 : acc2 = ((ks.take j).filter fun z => decide (z ≠ key)).map V.int := r6
    have e6 : ((ks.take (j + 1)).filter fun z => decide (z ≠ key)) = ((ks.take j).filter fun z => decide (z ≠ key)) ++ (if decide (ks[j] ≠ key) = true then [ks[j]] else []) := by
      rw [List.take_add_one, List.getElem?_eq_getElem hj, List.filter_append]
      congr 1
      show List.filter _ [ks[j]] = _
      rw [List.filter_cons]
      split <;> rfl
    have en : decide (ks[j] ≠ key) = !decide (ks[j] = key) := by by_cases hc : ks[j] = key <;> simp [hc]
    rw [en] at e6
    refine ⟨rfl, _, rfl, _, rfl, _, _, rfl, rfl, _, rfl, ?_⟩
    show if (!decide (ks[j] = key)) = true then _ else _
    refine ifB (fun c3 => ?_) (fun c3 => ?_)
    · rw [if_pos c3] at e6
      refine ⟨_, rfl, PvL.put hD4 (by omega) s6 hH6 hl6 (Same.rf _) fun H7 _ => ?_⟩
      show acc2 ++ [V.int ks[j]] = _
      rw [e6, r6, List.map_append]
      rfl
    · rw [c3, if_neg Bool.false_ne_true, List.append_nil] at e6
      refine PvL.skip s6 hH6 hl6 (Same.rf _) ?_
      show acc2 = _
      rw [e6, r6]
  intro HZ acc2 sZ hHZ hlZ rZ
  have rZ : acc2 = ((ks.take (ks.map V.int).length).filter fun z => decide (z ≠ key)).map V.int := rZ
  rw [List.length_map, List.take_length] at rZ
  have hfl : (ks.filter fun z => decide (z ≠ key)).length ≤ 3 := Nat.le_trans (List.length_filter_le _ _) hkl
  refine ⟨D4, acc2, rfl, .inl ⟨SqL.of hHZ, fun l2 hl2 => ?_⟩⟩
  have hn1 : nsV (upd HZ l2 (.tup acc2)) (.ref l2) (ks.filter fun z => decide (z ≠ key)) := ⟨l2, rfl, by rw [upd_same, rZ]⟩
  have sY := Same.at_new (o := .tup acc2) sZ (Same.no sZ hl2)
  refine ⟨_, rfl, by show 1 ≤ sizeLine; decide, fun p5 hp5 => ?_⟩
  have sX := Same.tr sY (Same.new (o := .tup [V.int late]) hp5)
  refine cat_ns (l := ks.filter fun z => decide (z ≠ key)) (m := [late]) (hn1.mono (TK.new hp5)) ⟨p5, rfl, upd_same⟩ (by show _ + 1 ≤ sizeLine; omega) fun v6 H6 s6 hv6 => ?_
  have sW := Same.tr sX s6
  have S23 := Same.tr S22 sW
  refine ⟨xd, v6, (ks.filter fun z => decide (z ≠ key)) ++ [late], double key late lot, rfl, oD.mono S23, hv6, fitD.bok, by rw [List.length_append]; show _ + 1 ≤ 1000; omega, fun v3 ns3 ts3 H7 s7 hp3 ho3 => ?_⟩
  have S24 := Same.tr S23 s7
  have sV := Same.tr sW s7
  have hp1a := sV _ _ hp1a
  have hx1 := hx1.mono (TK.of sV)
  have hy1 := hy1.mono (TK.of sV)
  obtain ⟨p3, x3, y3, rfl, hp3a, hx3, hy3⟩ := id hp3
  have ln3 := opn_len ho3
  rw [List.length_append, List.length_singleton] at ln3
  have hz3 : ns3.length + ts3.length ≤ sizeLine := by omega
  clear sX sY sZ s6 sW s7 sV hHZ hlZ rZ hl2 hp5 hn1 hv6 hD4 S22 S23
  -- [..] != []
  refine ⟨_, rfl, p1, _, 0, _, rfl, rfl, SqT.of hp1a, atI_nat (j := 0) rfl, _, rfl, p1, _, 1, _, rfl, rfl, SqT.of hp1a, atI_nat (j := 1) rfl, ?_⟩
  refine cat_pr (ns := ns) (ts := ts) hx1 hy1 hz1 fun rt HW zs sW hrt hzs => ?_
  refine ⟨rt, rfl, ⟨_, SqT.of hrt⟩, fun D3 hD3 => lc_gen (walk_tup (xs := zs)) hD3 (fun _ acc _ => acc = []) (fun _ _ => rfl) (fun H' s' => SqT.of (s' _ _ hrt)) ?_ ?_⟩
  · rintro j z H5 H5' acc hj s5 hH5 hl5' r5' ⟨rfl, e2⟩
    obtain ⟨t, ht, hv⟩ := paired_get hzs e2
    have hlt : lowT t := all_low ho1 fitL.g.lows t (List.mem_of_getElem? ht)
    have hv5 := hv.mono (TK.of s5)
    refine ⟨rfl, _, rfl, _, rfl, thD t, thD (.key key), hv5.dp, .int key, sh_th hlt, sh_th (t := .key key) trivial, _, rfl, ?_⟩
    rw [eqv_th]
    refine ifB (fun c5 => ?_) (fun c5 => ?_)
    · have hne : t ≠ .key key := fun z => by rw [z] at c5; simp at c5
      have hin : t ∈ allT ns3 ts3 := (mem_all ho3 t).mpr (cl_double_in far ((mem_all ho1 t).mp (List.mem_of_getElem? ht)) hne)
      have sU5 := Same.tr sW s5
      refine ⟨_, rfl, _, rfl, p3, _, 0, _, rfl, rfl, SqT.of (sU5 _ _ hp3a), atI_nat (j := 0) rfl, _, rfl, p3, _, 1, _, rfl, rfl, SqT.of (sU5 _ _ hp3a), atI_nat (j := 1) rfl, ?_⟩
      refine cat_pr (ns := ns3) (ts := ts3) (hx3.mono (TK.of sU5)) (hy3.mono (TK.of sU5)) hz3 fun rt2 H6 zs2 s6 hrt2 hzs2 => ?_
      refine ⟨thD t, (allT ns3 ts3).map thD, (hv5.mono (TK.of s6)).dp, .tup (SqT.of hrt2) (dp_all (fun _ _ z => z.dp) hzs2), sh_th hlt, sh_tt (all_low ho3 fitD.g.lows), _, rfl, ?_⟩
      rw [any_tt hin]
      show if false = true then _ else _
      exact ifF rfl (PvL.skip s5 hH5 hl5' s6 r5')
    · show if false = true then _ else _
      exact ifF rfl (PvL.skip s5 hH5 hl5' (Same.rf _) r5')
  rintro HX acc sX hHX hlX rfl
  refine ⟨Nat.zero_le _, fun e1 he1 => ne_nl hHX he1 ⟨_, rfl, ?_⟩⟩
  have S25 := Same.tr S24 (Same.tr sW (Same.tr sX (Same.new (o := .lst []) he1)))
  show if false = true then _ else _
  refine ifF rfl ?_
  exact ⟨d, vl, .ref ak, xs, xd, xw, key, more, late, lot, ks, _, _, _, _, _, rfl, R.mono S25, fun H' s' => q H' (Same.tr S25 s')⟩
theorem right2 (L : LW P w K mg base T fi fe fo) (CD : Cl1 P w K mg base 1 "_law_draw" spDraw) (CP : Cl1 P w K mg base 1 "_law_shifted_pair" spPair) (CA : Cl1 P w K mg base 8 "_law_alike_right" (spAlike T)) (hr : Room 8 (XR P w K mg base f cdv A outer s H0 E).A) : PSs (XR P w K mg base f cdv A outer s H0 E) ((defBody (top 31)).drop 5) (tRest T) := by
  have nd := sc31.nd
  have r5 := hr.mono (show 5 ≤ 8 by decide)
  have r4 := hr.mono (show 4 ≤ 8 by decide)
  have r3 := hr.mono (show 3 ≤ 8 by decide)
  have r2 := hr.mono (show 2 ≤ 8 by decide)
  have r1 := hr.mono (show 1 ≤ 8 by decide)
  have hu := hu65 hr
  refine PSs.imp (pss_cons (ps_if (PW.pt (pw_or (pt_cmpR (op_neC L r5) (pe_newW L r4 (pe_content (pl := _) L.Z r3 (pv 8)) (pk_cons (pv 3) pk_nil)) (pv 8) (nomark _)) (pw_or1 (pt_cmpR (op_neD hr.units) (pe_lc (own := [("_law_one", 14)]) (g := gName 14) (tt := tTest (tOp (rNinT K) (tVar 14) (tVar 1))) (te := tVar 14) rfl nd (pi_tup (pe_content (pl := _) L.Z r3 (pv 8))) (blkOk_by (N := N31) (sc := defScope (top 31)) (by decide +kernel)) (fun _ _ _ _ _ => pg_name (i := 14) nd rfl (Or.inl rfl)) (fun _ _ _ _ _ => pts_one (pt_cmpR (op_ninT hu) (pv 14) (pv 1) (by rfl))) (fun _ _ _ _ _ => pv 14)) (pe_lst pa_nil) (nomark _))))) (pss_one (ps_ret pe_bl)) pss_nil)
      (pss_cons (ps_set (i := 10) nd rfl (Or.inl rfl) (pe_cl L.op r2 (pa_cons (pv 2) (pa_cons (pe_content (pl := _) L.Z r3 (pv 8)) pa_nil))))
      (pss_cons (ps_if (PW.pt (pw_or (pt_cmpR op_ne (pe_cmpR (op_inT hu) (pv 3) (pe_ix ix_tup (pv 10) pe_int (fun _ _ => rfl)) (by rfl)) (pe_cmpR (op_inT hu) (pv 3) (pv 2) (by rfl)) (nomark _)) (pw_or1 (pt_cmpR (op_neC L r5) (pe_newW L r4 (pe_content (pl := _) L.Z r3 (pv 7)) (pk_cons (pv 5) pk_nil)) (pe_newW L r4 (pv 1) (pk_cons (pv 5) pk_nil)) (nomark _))))) (pss_one (ps_ret pe_bl)) pss_nil) (right3 L CD CP CA hr)))) ?_
  rintro D σ H ⟨d, vl, vk, xs, xd, xw, key, more, late, lot, ks, o9, o10, o11, o12, o13, rfl, R, q⟩
  obtain ⟨hlot, hk, oS, oD, oW, hB, hl5, hkl, hk6, m0, l0⟩ := id R
  have h3k : 3000 < sizeLine := by decide
  have fL := fb_lot hB hl5
  have fS := fb_shift fL m0
  have fD := fb_double (k := key) (e := late) fL (by omega)
  have fW := fb_without (k := key) fL
  have fitS := fS.fit (by decide) (by decide)
  have fitL := fL.fit (by decide) (by decide)
  have fitD := fD.fit (by decide) (by decide)
  have fitW := fW.fit (by decide) (by decide)
  have smL := fitL.sm
  have far : Far late lot := (below_lot hB).far l0
  -- Without(less.content(), key=key) != less
  refine co_var rfl oW fun v5 HH sH hv5 => ?_
  refine ⟨_, rfl, without key (without key lot), rfl, ⟨key, without key lot, rfl, hv5, fitW.sm, rfl⟩, fun x1 HI sI o1 => ?_⟩
  have S8 := Same.tr sH sI
  refine ⟨_, rfl, ne_ob L.Z o1 (oW.mono S8) (fb_without fW).g.lows fW.g.lows (without_twice key lot) fun HJ sJ => ⟨_, rfl, ?_⟩⟩
  have S9 := Same.tr S8 sJ
  show if false = true then _ else _
  refine ifF rfl ?_
  -- [..] != []
  refine co_var rfl (oW.mono S9) fun v6 HK sK hv6 => ?_
  have S10 := Same.tr S9 sK
  obtain ⟨lp6, vs6, rfl, hlp6, hpr6⟩ := hv6
  refine ⟨lp6, rfl, ⟨_, SqT.of hlp6⟩, fun D2 hD2 => lc_gen (walk_tup (xs := vs6)) hD2 (fun _ acc _ => acc = []) (fun _ _ => rfl) (fun H' s' => SqT.of (s' _ _ hlp6)) ?_ ?_⟩
  · rintro j z H5 H5' acc hj s5 hH5 hl5' r5' ⟨rfl, e2⟩
    obtain ⟨bx, hbx, hv⟩ := paired_get hpr6 e2
    have hin : bx ∈ lot := without_sub (List.mem_of_getElem? hbx)
    refine ⟨rfl, _, rfl, _, rfl, bxD bx, lot.map bxD, (hv.mono (TK.of s5)).dp, (hlot.mono (TK.of (Same.tr S10 s5))).dp, sh_bx (fitL.g.lows bx hin), sh_bs fitL.g.lows, _, rfl, ?_⟩
    rw [any_bx hin]
    show if false = true then _ else _
    exact ifF rfl (PvL.skip s5 hH5 hl5' (Same.rf _) r5')
  rintro HL acc sL hHL hlL rfl
  refine ⟨Nat.zero_le _, fun e1 he1 => ne_nl hHL he1 ⟨_, rfl, ?_⟩⟩
  have S11 := Same.tr S10 (Same.tr sL (Same.new (o := .lst []) he1))
  generalize upd HL e1 (.lst []) = HM at S11
  show if false = true then _ else _
  refine ifF rfl ?_
  clear sH sI sJ sK sL hv5 o1 hlp6 hpr6 hHL he1 S8 S9 S10
  -- pair = opened(grip, less.content())
  refine ⟨_, rfl, ?_⟩
  refine co_var rfl (oW.mono S11) fun v7 HN sN hv7 => ?_
  have S12 := Same.tr S11 sN
  refine ⟨vk, v7, ks, without key lot, rfl, hk.mono (TK.of S12), hv7, fitW.bok, by omega, fun v8 ns3 ts3 HO2 sO hp3 ho3 => ?_⟩
  have S13 := Same.tr S12 sO
  obtain ⟨pp, px, py, rfl, hpp, hpx, hpy⟩ := hp3
  -- (key in pair[0]) != (key in grip)
  refine ⟨_, rfl, _, rfl, pp, _, 0, _, rfl, rfl, SqT.of hpp, atI_nat (j := 0) rfl, thD (.key key), ns3.map PyData.int, .int key, hpx.dp, sh_th (t := .key key) trivial, sh_ns ns3, ?_⟩
  refine ⟨_, rfl, _, rfl, thD (.key key), ks.map PyData.int, .int key, (hk.mono (TK.of S13)).dp, sh_th (t := .key key) trivial, sh_ns ks, rfl, _, rfl, ?_⟩
  have ek : thIn (.key key) ns3 = thIn (.key key) ks := by
    show decide (key ∈ ns3) = decide (key ∈ ks)
    refine decide_eq_decide.mpr ⟨fun z => cl_without ((ho3.m1 key).mp z) rfl, fun z => (ho3.m1 key).mpr (.base z)⟩
  rw [any_th, any_th, ek, decide_eq_true (rfl : V.bl (thIn (.key key) ks) = V.bl (thIn (.key key) ks))]
  show if false = true then _ else _
  refine ifF rfl ?_
  clear ek hpx hpy hpp ho3 hv7 sN sO S11 S12
  -- Without(doubled.content(), key=late) != Without(lot, key=late)
  refine co_var rfl (oD.mono S13) fun v9 HP sP hv9 => ?_
  have S14 := Same.tr S13 sP
  refine ⟨_, rfl, without late (double key late lot), rfl, ⟨late, double key late lot, rfl, hv9, fitD.sm, rfl⟩, fun x2 HQ sQ o2 => ?_⟩
  have S15 := Same.tr S14 sQ
  refine ⟨_, rfl, _, rfl, without late lot, rfl, ⟨late, lot, rfl, hlot.mono (TK.of S15), smL, rfl⟩, fun x3 HR sR o3 => ?_⟩
  have S16 := Same.tr S15 sR
  refine ne_ob L.Z (o2.mono sR) o3 (fb_without fD).g.lows (fb_without fL).g.lows (without_double key late lot) fun HS sS => ⟨_, rfl, ?_⟩
  have S17 := Same.tr S16 sS
  show if false = true then _ else _
  refine ifF rfl ?_
  exact ⟨d, vl, vk, xs, xd, xw, key, more, late, lot, ks, _, _, _, _, _, rfl, R.mono S17, fun H' s' => q H' (Same.tr S17 s')⟩
theorem right1 (L : LW P w K mg base T fi fe fo) (CD : Cl1 P w K mg base 1 "_law_draw" spDraw) (CP : Cl1 P w K mg base 1 "_law_shifted_pair" spPair) (CA : Cl1 P w K mg base 8 "_law_alike_right" (spAlike T)) (hr : Room 8 (XR P w K mg base f cdv A outer s H0 E).A) : PSs (XR P w K mg base f cdv A outer s H0 E) ((defBody (top 31)).drop 2) (tRest T) := by
  have nd := sc31.nd
  have r5 := hr.mono (show 5 ≤ 8 by decide)
  have r4 := hr.mono (show 4 ≤ 8 by decide)
  have r3 := hr.mono (show 3 ≤ 8 by decide)
  have r2 := hr.mono (show 2 ≤ 8 by decide)
  have r1 := hr.mono (show 1 ≤ 8 by decide)
  have hu := hu65 hr
  refine PSs.imp (pss_cons (ps_if (PW.pt (pw_or (pt_cmpR (op_neD hr.units) (pe_content (pl := _) L.Z r3 (pe_newC L r2 (pv 1))) (pv 1) (nomark _)) (pw_or1 (pt_cmpR (op_neC L r5) (pe_newS L r4 (pe_content (pl := _) L.Z r3 (pv 6)) (pk_cons pe_int pk_nil)) (pe_newS L r4 (pv 1) (pk_cons (pe_op op_add (pv 4) pe_int) pk_nil)) (nomark _))))) (pss_one (ps_ret pe_bl)) pss_nil)
      (pss_cons (ps_set (i := 9) nd rfl (Or.inl rfl) (pe_callTy call_tuple_of (by rfl) L.G.tuple PyProof.Rows.boot_tuple (pa_cons (pe_lc (own := [("_law_one", 14)]) (g := gName 14) (tt := tYes) (te := tOp (rI0 fun i j => .int (i + j)) (tVar 14) (tVar 4)) rfl nd (pi_tup (pv 2)) (blkOk_by (N := N31) (sc := defScope (top 31)) (by decide +kernel)) (fun _ _ _ _ _ => pg_name (i := 14) nd rfl (Or.inl rfl)) (fun _ _ _ _ _ => pts_nil) (fun _ _ _ _ _ => pe_op op_add (pv 14) (pv 4))) pa_nil)))
      (pss_cons (ps_if (PW.pt (pw_or (pt_cmpR (op_neD hr.units) (pe_opening (pl := _) L r4 (pv 6) (pa_cons (pv 9) pa_nil)) (pe_cl CP r1 (pa_cons (pe_cl L.op r2 (pa_cons (pv 2) (pa_cons (pv 1) pa_nil))) (pa_cons (pv 4) pa_nil))) (nomark _)) (pw_or1 (pt_cmpR op_ne (pe_callB call_len_seq (by rfl) L.G.len PySem.boot_len (pa_cons (pe_content (pl := _) L.Z r3 (pv 6)) pa_nil)) (pe_callB call_len_seq (by rfl) L.G.len PySem.boot_len (pa_cons (pv 1) pa_nil)) (nomark _))))) (pss_one (ps_ret pe_bl)) pss_nil) (right2 L CD CP CA hr)))) ?_
  rintro D σ H ⟨d, vl, vk, xs, xd, xw, key, more, late, lot, ks, o9, o10, o11, o12, o13, rfl, R, q⟩
  obtain ⟨hlot, hk, oS, oD, oW, hB, hl5, hkl, hk6, m0, l0⟩ := id R
  have h3k : 3000 < sizeLine := by decide
  have fL := fb_lot hB hl5
  have fS := fb_shift fL m0
  have fD := fb_double (k := key) (e := late) fL (by omega)
  have fW := fb_without (k := key) fL
  have fitS := fS.fit (by decide) (by decide)
  have fitL := fL.fit (by decide) (by decide)
  have fitD := fD.fit (by decide) (by decide)
  have fitW := fW.fit (by decide) (by decide)
  have smL := fitL.sm
  have far : Far late lot := (below_lot hB).far l0
  -- Chest(lot).content() != lot
  refine ⟨.ch, _, rfl, lot, hlot, fun xc H5 s5 ⟨dx5, fs5, c1, c2, _, c4⟩ => ⟨xc, dx5, fs5, rfl, c1, c2, xc, lot, rfl, c4, fun v6 H6 s6 hv6 => ?_⟩⟩
  have s46 := Same.tr s5 s6
  refine ⟨_, rfl, ne_dp hv6.dp (hlot.mono (TK.of s46)).dp (sh_bs fL.g.lows) (sh_bs fL.g.lows) (by rw [eqv_bs]; exact decide_eq_true rfl) ⟨_, rfl, ?_⟩⟩
  show if false = true then _ else _
  refine ifF rfl ?_
  -- Shifted(shifted.content(), by=2) != Shifted(lot, by=more + 2)
  refine co_var rfl (oS.mono s46) fun v7 H7 s7 hv7 => ?_
  have s47 := Same.tr s46 s7
  refine ⟨shift 2 (shift more lot), rfl, ⟨2, shift more lot, rfl, hv7, fitS.sm, rfl⟩, fun x8 H8 s8 o8 => ?_⟩
  have s48 := Same.tr s47 s8
  refine ⟨_, rfl, _, rfl, _, _, rfl, rfl, shift (more + 2) lot, rfl, ⟨more + 2, lot, rfl, hlot.mono (TK.of s48), smL, rfl⟩, fun x9 H9 s9 o9 => ?_⟩
  have s49 := Same.tr s48 s9
  refine ne_ob L.Z (o8.mono s9) o9 (fb_shift fS (by decide)).g.lows (fb_shift fL (by omega)).g.lows (shift_add more 2 lot) fun HA sA => ⟨_, rfl, ?_⟩
  have S1 := Same.tr s49 sA
  clear s5 s6 s46 s7 s47 s8 s48 s9 s49 sA o8 o9 hv7 hv6 c1 c2 c4
  show if false = true then _ else _
  refine ifF rfl ?_
  -- moved_in
  obtain ⟨ak, rfl, hak⟩ := id hk
  refine ⟨_, rfl, ak, rfl, ⟨_, SqT.of (S1 _ _ hak)⟩, fun D1 hD => lc_gen (walk_tup (xs := ks.map V.int)) hD (fun j acc _ => acc = ((ks.take j).map (· + more)).map V.int) (fun _ _ => rfl) (fun H' s' => SqT.of (s' _ _ (S1 _ _ hak))) ?_ ?_⟩
  · rintro j z H4' H4'' acc2 hj s4 hH4 hl4 r4 ⟨rfl, e2⟩
    rw [List.length_map] at hj
    rw [List.getElem?_map, List.getElem?_eq_getElem hj] at e2
    obtain rfl : V.int ks[j] = z := Option.some.inj e2
    have r4 : acc2 = ((ks.take j).map (· + more)).map V.int := r4
    refine ⟨rfl, _, rfl, _, rfl, _, _, rfl, rfl, PvL.put hD (by omega) s4 hH4 hl4 (Same.rf _) fun H5 _ => ?_⟩
    show acc2 ++ [V.int (ks[j] + more)] = _
    rw [List.take_add_one, List.getElem?_eq_getElem hj, r4, List.map_append, List.map_append]
    rfl
  intro HB acc2 sB hHB hlB rB
  have rB : acc2 = ((ks.take (ks.map V.int).length).map (· + more)).map V.int := rB
  rw [List.length_map, List.take_length] at rB
  refine ⟨D1, acc2, rfl, .inl ⟨SqL.of hHB, fun l2 hl2 => ?_⟩⟩
  have S2 := Same.tr S1 (Same.at_new (o := .tup acc2) sB (Same.no sB hl2))
  have hmv : nsV (upd HB l2 (.tup acc2)) (.ref l2) (ks.map (· + more)) := ⟨l2, rfl, by rw [upd_same, rB]⟩
  generalize upd HB l2 (.tup acc2) = HC at S2 hmv
  clear sB hHB hlB rB hl2 hD S1
  -- shifted.opening(moved_in) != ..
  refine og_var rfl (oS.mono S2) ⟨_, rfl, xs, .ref l2, ks.map (· + more), shift more lot, rfl, oS.mono S2, hmv, fitS.bok, by rw [List.length_map]; omega, fun v1 ns1 ts1 HD sD hp1 ho1 => ?_⟩
  have S3 := Same.tr S2 sD
  refine ⟨_, rfl, _, rfl, .ref ak, vl, ks, lot, rfl, hk.mono (TK.of S3), hlot.mono (TK.of S3), fitL.bok, by omega, fun v2 ns2 ts2 HE sE hp2 ho2 => ?_⟩
  have S4 := Same.tr S3 sE
  have ln2 := opn_len ho2
  refine ⟨_, rfl, v2, more, ns2, ts2, rfl, hp2, by omega, fun v3 HF sF hp3 => ?_⟩
  have S5 := Same.tr S4 sF
  have e12 := ho2.shift ho1
  refine ne_dp (hp1.mono (TK.of (Same.tr sE sF))).dp hp3.dp (sh_pr (opn_low ho1 fitS.g.lows)) (sh_pr (opn_low ho2 fitL.g.lows)) (by rw [eqv_pr, e12.1, e12.2]; exact decide_eq_true rfl) ⟨_, rfl, ?_⟩
  show if false = true then _ else _
  refine ifF rfl ?_
  refine co_var rfl (oS.mono S5) fun v4 HG sG hv4 => ?_
  have S6 := Same.tr S5 sG
  obtain ⟨lp4, vs4, rfl, hlp4, hpr4⟩ := hv4
  obtain ⟨al, vsl, rfl, hal, hprl⟩ := id hlot
  have hll := paired_len hprl
  have hl4' := paired_len hpr4
  rw [shift_length] at hl4'
  refine ⟨lp4, vs4, rfl, .inr (SqT.of hlp4), _, rfl, al, vsl, rfl, .inr (SqT.of (S6 _ _ hal)), rfl, _, rfl, ?_⟩
  rw [hll, hl4', decide_eq_true (rfl : V.int (lot.length : Int) = V.int (lot.length : Int))]
  show if false = true then _ else _
  refine ifF rfl ?_
  exact ⟨d, .ref al, .ref ak, xs, xd, xw, key, more, late, lot, ks, _, _, _, _, _, rfl, R.mono S6, fun H' s' => q H' (Same.tr S6 s')⟩
end
theorem ok_right {f : Addr} {fd : FuncData} (F : Fun K "_law_right" "_law_right" (top 31) f fd) (L : LW P w K mg base T fi fe fo) (CD : Cl1 P w K mg base 1 "_law_draw" spDraw) (CP : Cl1 P w K mg base 1 "_law_shifted_pair" spPair) (CA : Cl1 P w K mg base 8 "_law_alike_right" (spAlike T)) :
    FnOk P w K mg base CX0 9 f fd ["_law_feed_here", "_law_lot_here", "_law_grip_here"] spRight := by
  refine F.ok sc31 (fun vs H Q E h => ?_) (fun cdv A outer s H vs Q E hr h => ?_)
  · obtain ⟨d, l, vl, vk, lot, ks, rfl, _⟩ := h
    rfl
  · obtain ⟨d, l, vl, vk, lot, ks, rfl, hF, hlot, hB, hl5, hk, hkl, hk6, q⟩ := h
    have nd := sc31.nd
    have r5 := hr.mono (show 5 ≤ 8 by decide)
    have r4 := hr.mono (show 4 ≤ 8 by decide)
    have r3 := hr.mono (show 3 ≤ 8 by decide)
    have r2 := hr.mono (show 2 ≤ 8 by decide)
    have r1 := hr.mono (show 1 ≤ 8 by decide)
    have hu := hu65 hr
    refine ⟨_, pss_cons (ps_asg (pe_tup (pa_cons (pe_cl CD r1 (pa_cons (pv 0) (pa_cons pe_int pa_nil))) (pa_cons (pe_cl CD r1 (pa_cons (pv 0) (pa_cons pe_int pa_nil))) (pa_cons (pe_op op_add pe_int (pe_cl CD r1 (pa_cons (pv 0) (pa_cons pe_int pa_nil)))) pa_nil)))) (pg_tup rfl (pgs_cons (pg_name (i := 3) nd rfl (Or.inr rfl)) (pgs_cons (pg_name (i := 4) nd rfl (Or.inr rfl)) (pgs_cons (pg_name (i := 5) nd rfl (Or.inl rfl)) pgs_nil)))))
      (pss_cons (ps_par3 (i := 6) (j := 7) (l := 8) rfl nd rfl rfl rfl (by decide) (by decide) (by decide) (by rfl) (by rfl) (by rfl) (pa_cons (pe_newS L r4 (pv 1) (pk_cons (pv 4) pk_nil)) (pa_cons (pe_newD L r4 (pv 1) (pk_cons (pv 3) (pk_cons (pv 5) pk_nil))) (pa_cons (pe_newW L r4 (pv 1) (pk_cons (pv 3) pk_nil)) pa_nil))) (by rfl)) (right1 L CD CP CA hr)), ?_⟩
    have fL := fb_lot hB hl5
    refine ⟨_, rfl, d, l, 6, rfl, hF, by decide, by decide, fun key HA k0 k1 fA xA => ⟨_, rfl, d, l, 4, rfl, fA, by decide, by decide, fun more HB m0 m1 fB xB => ⟨_, rfl, d, l, 3, rfl, fB, by decide, by decide, fun e HC e0 e1 fC xC => ⟨_, _, rfl, rfl, by show 3 ≤ sizeLine; decide, fun tp htp => ?_⟩⟩⟩⟩
    refine ⟨tp, _, rfl, SqT.of upd_same, rfl, _, _, rfl, _, _, rfl, _, _, rfl, rfl, ?_⟩
    dsimp only
    have l0 : 6 ≤ 6 + e := by omega
    generalize 6 + e = late at l0
    have x1 : SX d H (upd HC tp (.tup [V.int key, V.int more, V.int late])) := SX.tr (SX.tr (SX.tr xA xB) xC) (SX.of (Same.new htp))
    have f1 : Fd l (upd HC tp (.tup [V.int key, V.int more, V.int late])) d := fC.at htp
    generalize upd HC tp (.tup [V.int key, V.int more, V.int late]) = H1 at x1 f1
    have hlot1 := hlot.mono (hF.tk x1)
    have hk1 := hk.mono (hF.tk x1)
    have smL := (fL.fit (by decide) (by decide)).sm
    refine ⟨_, rfl, _, rfl, shift more lot, rfl, ⟨more, lot, rfl, hlot1, smL, rfl⟩, fun xs H2 s2 oS => ?_⟩
    refine ⟨_, rfl, _, rfl, _, rfl, double key late lot, rfl, ⟨key, late, lot, rfl, hlot1.mono (TK.of s2), smL, rfl⟩, fun xd H3 s3 oD => ?_⟩
    have s13 := Same.tr s2 s3
    refine ⟨_, rfl, _, rfl, without key lot, rfl, ⟨key, lot, rfl, hlot1.mono (TK.of s13), smL, rfl⟩, fun xw H4 s4 oW => ⟨_, _, _, rfl, ?_⟩⟩
    have s14 := Same.tr s13 s4
    exact ⟨d, vl, vk, xs, xd, xw, key, more, late, lot, ks, _, _, _, _, _, rfl, ⟨hlot1.mono (TK.of s14), hk1.mono (TK.of s14), oS.mono (Same.tr s3 s4), oD.mono s4, oW, hB, hl5, hkl, hk6, m0, l0⟩, fun H' s' => q H' (f1.mono (Same.tr s14 s')) (SX.tr x1 (SX.of (Same.tr s14 s')))⟩
end
end K13

namespace K13
open PySem PySem.Spec PyProof.Rows L2
section
variable {P : Program} {w : World} {K : PySem.W.Frag} {mg : Str → Option Value} {base : Heap} {T fi : Kd → Addr} {fe fo : Addr}
abbrev N32 : List Str := ["_law_script", "_law_feed_here", "_law_turn", "_law_lot_here", "_law_kept"]
theorem sc32 : FnScope N32 ["_law_script"] (defScope (top 32)) := ⟨rfl, rfl, rfl, by decide +kernel, rfl, by decide +kernel, by decide +kernel⟩
theorem body32 {f a : Addr} {cdv : Value} {A : Around} {outer : List Env} {s : Shared} {H : Hp} {Q : VK} {E : XK} {ns : List Int} (L : LW P w K mg base T fi fe fo) (CF : Cl1 P w K mg base 1 "_law_feed" (spFeed K)) (CD : Cl1 P w K mg base 1 "_law_draw" spDraw) (CL : Cl1 P w K mg base 2 "_law_lot" spLot) (CG : Cl1 P w K mg base 2 "_law_grip" spGrip)
    (CR : Cl1 P w K mg base 9 "_law_right" spRight) (hr : Room 9 (A.deeper (envOfC "law" (defScope (top 32)) s.heap.objs.size f cdv))) (hg : A.guards = some []) (hS : SqL K H a (ns.map V.int)) (hl : ns.length < 1000) (q : ∀ H', Q (.bl true) H') :
    ∃ t, PSs (cxOf CX0 P w K mg base N32 "law" (defScope (top 32)) f cdv A outer s H E).nox (defBody (top 32)) t ∧ t { nx := fun _ H' => Q .non H', rt := Q } (start N32 [.ref a]) H := by
  have nd := sc32.nd
  have r5 := hr.mono (show 5 ≤ 9 by decide)
  have r4 := hr.mono (show 4 ≤ 9 by decide)
  have r3 := hr.mono (show 3 ≤ 9 by decide)
  have r2 := hr.mono (show 2 ≤ 9 by decide)
  have r1 := hr.mono (show 1 ≤ 9 by decide)
  refine ⟨_, pss_cons (ps_set (i := 1) nd rfl (Or.inl rfl) (pe_cl CF r1 (pa_cons (pv 0) pa_nil)))
    (pss_cons (ps_for PassesOwn.never rfl (pi_range1 (by rfl) L.G.range (pa_cons pe_int pa_nil)) (pg_name (i := 2) nd rfl (Or.inl rfl))
      (pss_cons (ps_set (i := 3) nd rfl (Or.inl rfl) (pe_cl CL r2 (pa_cons (pv 1) (pa_cons (pe_cl CD r1 (pa_cons (pv 1) (pa_cons pe_int pa_nil))) (pa_cons pe_int pa_nil)))))
      (pss_cons (ps_set (i := 4) nd rfl (Or.inl rfl) (pe_callB (call_repr hg hr.units) (by rfl) L.G.repr PyProof.Rows.boot_repr (pa_cons (pv 3) pa_nil)))
      (pss_one (ps_if (PW.pt (pw_or (pt_not (pt_val (pe_cl CR hr (pa_cons (pv 1) (pa_cons (pv 3) (pa_cons (pe_cl CG r2 (pa_cons (pv 1) (pa_cons pe_int (pa_cons pe_int pa_nil)))) pa_nil)))))) (pw_or1 (pt_cmpR op_ne (pe_callB (call_repr hg hr.units) (by rfl) L.G.repr PyProof.Rows.boot_repr (pa_cons (pv 3) pa_nil)) (pv 4) (nomark _))))) (pss_one (ps_ret pe_bl)) pss_nil)))))
    (pss_one (ps_ret (pe_and (pe_cmpR (op_eqC L r4) (pe_newC L r2 (pe_tup pa_nil)) (pe_newW L r4 (pe_tup pa_nil) (pk_cons pe_int pk_nil)) (nomark _)) (pe_one (pe_cmpR (op_eqD hr.units) (pe_content (pl := _) L.Z r3 (pe_newC L r2 (pe_tup pa_nil))) (pe_tup pa_nil) (nomark _))))))), ?_⟩
  refine ⟨_, rfl, a, ns, rfl, hS, hl, fun d l H1 s1 hd f1 => ?_⟩
  refine ⟨3, rfl, by decide, by decide, for_range (lo := 0) (n := 3) (fun i σ H' => ∃ o2 o3 o4, σ = [some (.ref a), some (.ref d), o2, o3, o4] ∧ Fd l H' d) ⟨none, none, none, rfl, f1⟩ ?_ ?_⟩
  · rintro i σ H2 hi ⟨o2, o3, o4, rfl, f2⟩
    refine ⟨_, rfl, _, rfl, d, l, 6, rfl, f2, by decide, by decide, fun n H3 n0 n1 f3 x3 => ⟨d, l, n, rfl, n0, n1, f3, fun v lot H4 hv hB hl5 f4 x4 => ?_⟩⟩
    have tn := tiny_lot hB hl5
    refine ⟨_, rfl, v, bsD lot, rfl, hv.dp, shw_bs tn, ?_⟩
    refine ⟨_, rfl, _, rfl, _, rfl, d, l, rfl, f4, fun vk ks H5 hk hkl hk6 hss f5 x5 => ?_⟩
    refine ⟨d, l, v, vk, lot, ks, rfl, f5, hv.mono (f4.tk x5), hB, hl5, hk, hkl, hk6, fun H6 f6 x6 => ⟨_, rfl, ?_⟩⟩
    refine ⟨_, rfl, v, bsD lot, rfl, ((hv.mono (f4.tk x5)).mono (f5.tk x6)).dp, shw_bs tn, _, rfl, rfl, _, rfl, ?_⟩
    rw [decide_eq_true (rfl : V.str (bsD lot).shown = V.str (bsD lot).shown)]
    exact ⟨_, _, _, rfl, f6⟩
  · rintro σ H2 ⟨o2, o3, o4, rfl, f2⟩
    have g0 : Goods [] := fun b z => by cases z
    have b0 : Fb 0 0 [] := ⟨g0, Nat.le_refl _, fun b z => by cases z⟩
    have sm0 : Sm [] := (b0.fit (by decide) (by decide)).sm
    refine ⟨Nat.zero_le _, fun p hp => ?_⟩
    refine ⟨[], ⟨p, [], rfl, upd_same, .nil⟩, fun x1 H3 s3 o1 => ?_⟩
    refine ⟨Nat.zero_le _, fun p2 hp2 => ?_⟩
    refine ⟨without 0 [], rfl, ⟨0, [], rfl, ⟨p2, [], rfl, upd_same, .nil⟩, sm0, rfl⟩, fun x2 H4 s4 o2' => ?_⟩
    refine cmp_ob L.Z (o1.ob.mono (Same.tr (Same.new hp2) s4)) o2' g0.lows g0.lows fun H5 s5 => ?_
    refine ⟨true, rfl, ?_⟩
    refine ⟨.ch, Nat.zero_le _, fun p3 hp3 => ⟨[], ⟨p3, [], rfl, upd_same, .nil⟩, fun x6 H6 s6 ⟨dx, fs, c1, c2, _, c4⟩ => ⟨x6, dx, fs, rfl, c1, c2, x6, [], rfl, c4, fun v7 H7 s7 hv7 => ?_⟩⟩⟩
    refine ⟨Nat.zero_le _, fun p8 hp8 => ⟨bsD [], bsD [], (hv7.mono (TK.new hp8)).dp, .tup (SqT.of upd_same) .nil, by decide, by decide, q _⟩⟩
end
end K13

namespace K13
open PySem PySem.Spec PyProof.Rows L2
section
variable {P : Program} {w : World} {K : PySem.W.Frag} {mg : Str → Option Value} {base : Heap}
/-- one entry of a def, at the activation where it happens -/
theorem enter_at {f : Addr} {name qual : Str} {params : Arguments} {body : List Stmt} {scope : Scope} {dV kV doc pm cdv ct oc : Value} {an od : Option Addr} {osl : Array (Option Value)} {N ps : List Str} {k : Nat}
    (atK : K.lookup f = some ⟨oc, od, .func (PySem.W.fnOf name qual params body scope dV kV doc pm an cdv ct), osl⟩) (atC : PySem.W.codeIn K cdv qual = true) (S : FnScope N ps scope)
    {A : Around} {outer : List Env} {s : Shared} {H : Hp} {args : Args} {us : List Value} {vs : List V} {Q : VK} {E : XK} (rm : Room (k + 1) A) (e0 : Env0 P w K mg base A outer s H)
    (bnd : BindsTo s (PySem.W.fnOf name qual params body scope dV kV doc pm an cdv ct) args (ps.zip us)) (rel : Vals vs us) (len : vs.length = ps.length)
    (bdy : ∃ t, PSs (cxOf CX0 P w K mg base N qual scope f cdv A outer s H E) body t ∧ t { nx := fun _ H' => Q .non H', rt := Q } (start N vs) H) :
    codeAny (model P w) A (.call (.ref f) args) (CR CX0 outer P w H s Q E) s := by
  obtain ⟨t, run, want⟩ := bdy
  have inK : K.In s.heap := e0.mod.kin.keeps fun b o e => (e0.bs b o e).1
  have noL : s.heap.NoLimit := e0.mod.nolimit.keeps fun b o e => (e0.bs b o e).1
  have kinds : ∀ y ∈ ps.zip us, scope.names.lookup y.1 = some .local ∨ (scope.names.lookup y.1 = some .cell ∧ ((cellsFrom (s.heap.objs.size + 1) scope.names []).lookup y.1).isSome = true) := by
    rintro ⟨x, v⟩ hy
    have hx := (List.of_mem_zip hy).1
    exact (S.par x hx).elim Or.inl fun c => Or.inr ⟨c, PySem.W.cellsFrom_some _ _ _ (Or.inl c)⟩
  refine codeAny_call_function rm.depth (inK f _ atK) (by rfl) S.co S.gen (by rfl) (PySem.W.codeRec_of inK atC) ?_
  refine bnd _ _ _ _ ?_
  refine wpAny_newFunctionEnv_cells S.kind kinds fun env isEnv s1 inCall => ?_
  subst isEnv
  have I0 : Inv (cxOf CX0 P w K mg base N qual scope f cdv A outer s H E) [] (L2.start N vs) H s1 := inv_start S rm.hd e0 len rel inCall
  refine ⟨I0.nolimit, codeAny_func (wpAny_mono (run.run [] s1 (L2.start N vs) H _ I0 want) (fun fl s2 out => ?_) fun _ _ z => z)⟩
  cases fl with
  | ret u =>
    obtain ⟨v, σ2, H2, J, rv, qv⟩ := out
    exact ⟨v, H2, J.os, J.bare, J.base, J.hok, rv, qv⟩
  | next =>
    obtain ⟨σ2, H2, J, qv⟩ := out
    exact ⟨.non, H2, J.os, J.bare, J.base, J.hok, rfl, qv⟩
  | brk =>
    obtain ⟨_, _, _, z⟩ := out
    exact z.elim
  | cont =>
    obtain ⟨_, _, _, z⟩ := out
    exact z.elim
/-- the script among the tracked objects, unless the module itself holds it -/
def scrH (K : PySem.W.Frag) (a : Addr) (o : Obj) (xs : List V) : Hp := fun b => if b = a ∧ K.lookup a = none then some (.frz o (.lst xs)) else none
theorem scrH_some {a b : Addr} {o : Obj} {xs : List V} {u : HO} (h : scrH K a o xs b = some u) : b = a ∧ K.lookup a = none ∧ u = .frz o (.lst xs) := by
  unfold scrH at h
  split at h
  · next c => exact ⟨c.1, c.2, (Option.some.inj h).symm⟩
  · cases h
/-- the call of the law, from a run over each heap that tracks the script alone -/
theorem law_at {mb : Str → Option Value} {fa a : Addr} {s₁ : Shared} {vs : List Value} {ns : List Int} (KX : K.In s₁.heap) (hns : s₁.heap.Ns mainGlobals mg) (hb : s₁.heap.Ns builtinsNs mb) (hbb : ∀ x : Str, x ≠ "__name__" → mb x = bootBuiltins x) (hlim : s₁.heap.NoLimit) (hg : s₁.gens = #[])
    (ha : s₁.heap.get? a = some { cls := .type "list", data := .seq vs.toArray }) (hi : IntsAre vs ns) (hl : ns.length ≤ sizeLine)
    (go : ∀ (base : Heap) (H : Hp), K.In base → base.Ns mainGlobals mg → Env0 P w K mg base callerA [] s₁ H → SqL K H a (ns.map V.int) → codeAny (model P w) callerA (.call (.ref fa) ⟨[.ref a], []⟩) (CR CX0 [] P w H s₁ (fun v _ => v = .bl true) E0) s₁) :
    codeAny (model P w) callerA (.call (.ref fa) ⟨[.ref a], []⟩) (fun r s' => r = .ok (.ret (.bool true)) ∧ OldK s₁.heap s'.heap ∧ s'.os = s₁.os ∧ AllBare s'.gens) s₁ := by
  have rel := vals_ints hi
  have hlen := hi.length
  have keep : ∀ b o, s₁.heap.get? b = some o → scrH K a { cls := .type "list", data := .seq vs.toArray } (ns.map V.int) b = none → (hidT s₁.heap (scrH K a { cls := .type "list", data := .seq vs.toArray } (ns.map V.int))).get? b = some o := fun b o e n => hidT_get e n
  generalize hH : scrH K a { cls := .type "list", data := .seq vs.toArray } (ns.map V.int) = H at keep
  have inv : ∀ b u, H b = some u → b = a ∧ K.lookup a = none ∧ u = .frz { cls := .type "list", data := .seq vs.toArray } (.lst (ns.map V.int)) := fun b u z => scrH_some (by rw [hH]; exact z)
  have free : ∀ {b : Addr} {o : Obj}, s₁.heap.get? b = some o → (∀ xs n, o.data ≠ .seq xs n) → H b = none := fun {b o} e d => by
    cases z : H b with
    | none => rfl
    | some u =>
      obtain ⟨rfl, _, _⟩ := inv b u z
      rw [ha] at e
      cases e
      exact absurd rfl (d _ _)
  have names : ∀ {b : Addr} {m : Str → Option Value}, s₁.heap.Ns b m → (hidT s₁.heap H).Ns b m := fun {b m} ⟨o, es, ep, e, d, r⟩ => ⟨o, es, ep, keep b o e (free e fun xs n z => by rw [d] at z; cases z), d, r⟩
  have kin : K.In (hidT s₁.heap H) := fun b o e => keep b o (KX b o e) (by
    cases z : H b with
    | none => rfl
    | some u =>
      obtain ⟨rfl, n, _⟩ := inv b u z
      rw [n] at e
      cases e)
  have whole : HOk P w H s₁.heap := fun b u z => by
    obtain ⟨rfl, _, rfl⟩ := inv b u z
    exact ⟨ha, by rw [List.length_map]; exact hl, vs, _, rel, ha⟩
  have e0 : Env0 P w K mg (hidT s₁.heap H) callerA [] s₁ H :=
    ⟨rfl, ⟨kin, names hns, ⟨mb, names hb, hbb⟩, hlim.elim fun mc h => ⟨mc, names h.1, h.2⟩⟩, fun b o e => of_hidT e, Nat.le_of_eq (hidT_size _ _), trivial, (fun b z => by cases z), whole, AllBare.of_eq hg⟩
  have seq : SqL K H a (ns.map V.int) := by
    cases z : K.lookup a with
    | none => exact .inl (.inr ⟨{ cls := .type "list", data := .seq vs.toArray }, by rw [← hH]; exact if_pos ⟨rfl, z⟩⟩)
    | some o =>
      have e := KX a o z
      rw [ha] at e
      cases e
      exact .inr ⟨_, vs.toArray, _, z, rfl, rfl, rfl, by rw [List.size_toArray, hlen]; exact hl, by simpa using rel⟩
  refine codeAny_mono (go _ H kin (names hns) e0 seq) fun r s2 out => ?_
  cases r with
  | error e => exact False.elim out
  | ok fl =>
    cases fl with
    | next => exact False.elim out
    | brk => exact False.elim out
    | cont => exact False.elim out
    | ret u =>
      obtain ⟨v, H2, os, bare, un, ok2, rv, rfl⟩ := out
      obtain rfl : u = Value.bool true := rv
      refine ⟨rfl, OldK.of_keep fun b o e => ?_, os, bare⟩
      cases z : H b with
      | none => exact un.keep b o e z (fun y => by cases y) (by simp)
      | some x =>
        obtain ⟨rfl, _, rfl⟩ := inv b x z
        rw [ha] at e
        cases e
        exact (ok2 b _ (un.frzs b _ _ z)).1
end
end K13

namespace K13
open PySem PySem.Spec PyProof.Rows L2
theorem FnKw.mono {P : Program} {w : World} {K : PySem.W.Frag} {mg : Str → Option Value} {base : Heap} {j k : Nat} {f : Addr} {ks : List Str} {sp : SpK} (F : FnKw P w K mg base j f ks sp) (h : j ≤ k) : FnKw P w K mg base k f ks sp :=
  ⟨fun A outer s H us ws vs zs Q hr => F.run A outer s H us ws vs zs Q (hr.mono h)⟩
theorem CoOk.mono {P : Program} {w : World} {K : PySem.W.Frag} {mg : Str → Option Value} {base : Heap} {j k : Nat} {g : Addr} {Γ : Gm} (C : CoOk P w K mg base j g Γ) (h : j ≤ k) : CoOk P w K mg base k g Γ :=
  let ⟨fd, ps, F, b⟩ := C.ex
  ⟨fd, ps, F.mono h, b⟩
def mkT (a b c d e f : Addr) : Kd → Addr
  | .ch => a
  | .wo => b
  | .sh => c
  | .db => d
  | .sd => e
  | .ds => f
theorem kit_sub {K : PySem.W.Frag} {C D : Addr} {kd : ClassData} (a : PySem.W.clsIn K D = some kd) (b : PySem.W.typeIn K (.ref D) = some (.type "type")) (c : PySem.W.mroIn K C (.ref D) = some true) : PySem.W.kitOne K (.ref C) (.ref D) = some true := by
  unfold PySem.W.kitOne
  split
  · rfl
  · unfold PySem.W.kitCls
    dsimp only
    rw [a, b, if_pos (by show (true && (some (Value.type "type") == some (Value.type "type"))) = true; decide)]
    exact c
theorem sup_hit {K : PySem.W.Frag} {C D E : Addr} {cd ce : ClassData} {nm : Str} {v : Value} {rest : List Value} (hc : PySem.W.clsIn K C = some cd) (hm : (cd.mro.dropWhile (· != .ref D)).drop 1 = .ref E :: rest) (hE : PySem.W.clsIn K E = some ce) (hn : PySem.W.nsIn K ce.ns nm = some (some v)) : PySem.W.ks_superIn K C D nm = some (some v) := by
  have hown : PySem.W.ownIn K nm (.ref E) = some (some v) := by
    unfold PySem.W.clsIn at hE
    unfold PySem.W.ownIn
    dsimp only
    split at hE
    · next q =>
      cases hE
      rw [q]
      exact hn
    · cases hE
  unfold PySem.W.ks_superIn
  rw [hc, Option.bind_some, hm]
  unfold PySem.W.alongIn
  rw [hown]
/-- all that the last text asks -/
def LawF (P : Program) (w : World) (K : PySem.W.Frag) (mg : Str → Option Value) (fa : Addr) : Prop := ∃ (T fi : Kd → Addr) (fe fo : Addr) (fd : FuncData), Fun K "law" "law" (top 32) fa fd ∧ ∀ base : Heap, LW P w K mg base T fi fe fo ∧ Cl1 P w K mg base 1 "_law_feed" (spFeed K) ∧ Cl1 P w K mg base 1 "_law_draw" spDraw ∧
  Cl1 P w K mg base 2 "_law_lot" spLot ∧ Cl1 P w K mg base 2 "_law_grip" spGrip ∧ Cl1 P w K mg base 9 "_law_right" spRight
theorem all_mk {P : Program} {w : World} {K : PySem.W.Frag} {h : Heap} {mg : Str → Option Value} {fa : Addr} (X : K.In h) (G : h.Ns mainGlobals mg) (hfa : mg "law" = some (.ref fa))
    {f3 f4 f5 f6 f7 f8 f9 f10 f11 f12 f13 f15 f16 f25 f26 f27 f28 f29 f30 f31 f32 Cch Cwo Csh Cdb Csd Cds miC mcC moC meC miW mcW miS mcS miD mcD : Addr}
    {od_3 an_3 : Option Addr} {sl_3 : Array (Option Value)} {oc_3 kV_3 dc_3 pm_3 cd_3 ct_3 : Value}
    {od_4 an_4 : Option Addr} {sl_4 : Array (Option Value)} {oc_4 kV_4 dc_4 pm_4 cd_4 ct_4 : Value}
    {od_5 an_5 : Option Addr} {sl_5 : Array (Option Value)} {oc_5 kV_5 dc_5 pm_5 cd_5 ct_5 : Value}
    {od_6 an_6 : Option Addr} {sl_6 : Array (Option Value)} {oc_6 kV_6 dc_6 pm_6 cd_6 ct_6 : Value}
    {od_7 an_7 : Option Addr} {sl_7 : Array (Option Value)} {oc_7 kV_7 dc_7 pm_7 cd_7 ct_7 : Value}
    {od_8 an_8 : Option Addr} {sl_8 : Array (Option Value)} {oc_8 kV_8 dc_8 pm_8 cd_8 ct_8 : Value}
    {od_9 an_9 : Option Addr} {sl_9 : Array (Option Value)} {oc_9 kV_9 dc_9 pm_9 cd_9 ct_9 : Value}
    {od_10 an_10 : Option Addr} {sl_10 : Array (Option Value)} {oc_10 kV_10 dc_10 pm_10 cd_10 ct_10 : Value}
    {od_11 an_11 : Option Addr} {sl_11 : Array (Option Value)} {oc_11 kV_11 dc_11 pm_11 cd_11 ct_11 : Value}
    {od_12 an_12 : Option Addr} {sl_12 : Array (Option Value)} {oc_12 kV_12 dc_12 pm_12 cd_12 ct_12 : Value}
    {od_13 an_13 : Option Addr} {sl_13 : Array (Option Value)} {oc_13 kV_13 dc_13 pm_13 cd_13 ct_13 : Value}
    {od_15 an_15 : Option Addr} {sl_15 : Array (Option Value)} {oc_15 kV_15 dc_15 pm_15 cd_15 ct_15 : Value}
    {od_16 an_16 : Option Addr} {sl_16 : Array (Option Value)} {oc_16 kV_16 dc_16 pm_16 cd_16 ct_16 : Value}
    {od_25 an_25 : Option Addr} {sl_25 : Array (Option Value)} {oc_25 kV_25 dc_25 pm_25 cd_25 ct_25 : Value}
    {od_26 an_26 : Option Addr} {sl_26 : Array (Option Value)} {oc_26 kV_26 dc_26 pm_26 cd_26 ct_26 : Value}
    {od_27 an_27 : Option Addr} {sl_27 : Array (Option Value)} {oc_27 kV_27 dc_27 pm_27 cd_27 ct_27 : Value}
    {od_28 an_28 : Option Addr} {sl_28 : Array (Option Value)} {oc_28 kV_28 dc_28 pm_28 cd_28 ct_28 : Value}
    {od_29 an_29 : Option Addr} {sl_29 : Array (Option Value)} {oc_29 kV_29 dc_29 pm_29 cd_29 ct_29 : Value}
    {od_30 an_30 : Option Addr} {sl_30 : Array (Option Value)} {oc_30 kV_30 dc_30 pm_30 cd_30 ct_30 : Value}
    {od_31 an_31 : Option Addr} {sl_31 : Array (Option Value)} {oc_31 kV_31 dc_31 pm_31 cd_31 ct_31 : Value}
    {od_32 an_32 : Option Addr} {sl_32 : Array (Option Value)} {oc_32 kV_32 dc_32 pm_32 cd_32 ct_32 : Value}
    {odiC aniC : Option Addr} {sliC : Array (Option Value)} {ociC kViC dciC pmiC cdiC ctiC : Value}
    {odcC ancC : Option Addr} {slcC : Array (Option Value)} {occC kVcC dccC pmcC cdcC ctcC : Value}
    {odoC anoC : Option Addr} {sloC : Array (Option Value)} {ocoC kVoC dcoC pmoC cdoC ctoC : Value}
    {odeC aneC : Option Addr} {sleC : Array (Option Value)} {oceC kVeC dceC pmeC cdeC cteC : Value}
    {odiW aniW xdiW ydiW : Option Addr} {sliW xsiW ysiW : Array (Option Value)} {ociW kViW dciW pmiW ctiW xciW yciW : Value} {caiW ceiW : Addr} {vsiW : Array Value} {fliW : Str} {tfiW : Tok}
    {odcW ancW xdcW ydcW : Option Addr} {slcW xscW yscW : Array (Option Value)} {occW kVcW dccW pmcW ctcW xccW yccW : Value} {cacW cecW : Addr} {vscW : Array Value} {flcW : Str} {tfcW : Tok}
    {odiS aniS xdiS ydiS : Option Addr} {sliS xsiS ysiS : Array (Option Value)} {ociS kViS dciS pmiS ctiS xciS yciS : Value} {caiS ceiS : Addr} {vsiS : Array Value} {fliS : Str} {tfiS : Tok}
    {odcS ancS xdcS ydcS : Option Addr} {slcS xscS yscS : Array (Option Value)} {occS kVcS dccS pmcS ctcS xccS yccS : Value} {cacS cecS : Addr} {vscS : Array Value} {flcS : Str} {tfcS : Tok}
    {odiD aniD xdiD ydiD : Option Addr} {sliD xsiD ysiD : Array (Option Value)} {ociD kViD dciD pmiD ctiD xciD yciD : Value} {caiD ceiD : Addr} {vsiD : Array Value} {fliD : Str} {tfiD : Tok}
    {odcD ancD xdcD ydcD : Option Addr} {slcD xscD yscD : Array (Option Value)} {occD kVcD dccD pmcD ctcD xccD yccD : Value} {cacD cecD : Addr} {vscD : Array Value} {flcD : Str} {tfcD : Tok}
    {kdch : ClassData}
    {kdwo : ClassData}
    {kdsh : ClassData}
    {kddb : ClassData}
    {kdsd : ClassData}
    {kdds : ClassData}
    {rswowo : List Value}
    {rsshsh : List Value}
    {rsdbdb : List Value}
    {rssdsh : List Value}
    {rssddb : List Value}
    {rsdsdb : List Value}
    {rsdssh : List Value}
    {tL tN : Tok}
    (h_a3 : PySem.W.nsIn K mainGlobals "is_integer" = some (some (.ref f3)))
    (h_l3 : K.lookup f3 = some ⟨oc_3, od_3, .func (PySem.W.fnOf "is_integer" "is_integer" (defArgs (top 3)) (defBody (top 3)) (defScope (top 3)) .none kV_3 dc_3 pm_3 an_3 cd_3 ct_3), sl_3⟩)
    (h_c3 : PySem.W.codeIn K cd_3 "is_integer" = true)
    (h_k3 : PySem.W.keepIn K (.ref f3) = true)
    (h_a4 : PySem.W.nsIn K mainGlobals "is_number" = some (some (.ref f4)))
    (h_l4 : K.lookup f4 = some ⟨oc_4, od_4, .func (PySem.W.fnOf "is_number" "is_number" (defArgs (top 4)) (defBody (top 4)) (defScope (top 4)) .none kV_4 dc_4 pm_4 an_4 cd_4 ct_4), sl_4⟩)
    (h_c4 : PySem.W.codeIn K cd_4 "is_number" = true)
    (h_k4 : PySem.W.keepIn K (.ref f4) = true)
    (h_a5 : PySem.W.nsIn K mainGlobals "is_name" = some (some (.ref f5)))
    (h_l5 : K.lookup f5 = some ⟨oc_5, od_5, .func (PySem.W.fnOf "is_name" "is_name" (defArgs (top 5)) (defBody (top 5)) (defScope (top 5)) .none kV_5 dc_5 pm_5 an_5 cd_5 ct_5), sl_5⟩)
    (h_c5 : PySem.W.codeIn K cd_5 "is_name" = true)
    (h_k5 : PySem.W.keepIn K (.ref f5) = true)
    (h_a6 : PySem.W.nsIn K mainGlobals "is_key" = some (some (.ref f6)))
    (h_l6 : K.lookup f6 = some ⟨oc_6, od_6, .func (PySem.W.fnOf "is_key" "is_key" (defArgs (top 6)) (defBody (top 6)) (defScope (top 6)) .none kV_6 dc_6 pm_6 an_6 cd_6 ct_6), sl_6⟩)
    (h_c6 : PySem.W.codeIn K cd_6 "is_key" = true)
    (h_k6 : PySem.W.keepIn K (.ref f6) = true)
    (h_a7 : PySem.W.nsIn K mainGlobals "is_text" = some (some (.ref f7)))
    (h_l7 : K.lookup f7 = some ⟨oc_7, od_7, .func (PySem.W.fnOf "is_text" "is_text" (defArgs (top 7)) (defBody (top 7)) (defScope (top 7)) .none kV_7 dc_7 pm_7 an_7 cd_7 ct_7), sl_7⟩)
    (h_c7 : PySem.W.codeIn K cd_7 "is_text" = true)
    (h_k7 : PySem.W.keepIn K (.ref f7) = true)
    (h_a8 : PySem.W.nsIn K mainGlobals "is_thing" = some (some (.ref f8)))
    (h_l8 : K.lookup f8 = some ⟨oc_8, od_8, .func (PySem.W.fnOf "is_thing" "is_thing" (defArgs (top 8)) (defBody (top 8)) (defScope (top 8)) .none kV_8 dc_8 pm_8 an_8 cd_8 ct_8), sl_8⟩)
    (h_c8 : PySem.W.codeIn K cd_8 "is_thing" = true)
    (h_k8 : PySem.W.keepIn K (.ref f8) = true)
    (h_a9 : PySem.W.nsIn K mainGlobals "rises" = some (some (.ref f9)))
    (h_l9 : K.lookup f9 = some ⟨oc_9, od_9, .func (PySem.W.fnOf "rises" "rises" (defArgs (top 9)) (defBody (top 9)) (defScope (top 9)) .none kV_9 dc_9 pm_9 an_9 cd_9 ct_9), sl_9⟩)
    (h_c9 : PySem.W.codeIn K cd_9 "rises" = true)
    (h_k9 : PySem.W.keepIn K (.ref f9) = true)
    (h_a10 : PySem.W.nsIn K mainGlobals "is_rising" = some (some (.ref f10)))
    (h_l10 : K.lookup f10 = some ⟨oc_10, od_10, .func (PySem.W.fnOf "is_rising" "is_rising" (defArgs (top 10)) (defBody (top 10)) (defScope (top 10)) .none kV_10 dc_10 pm_10 an_10 cd_10 ct_10), sl_10⟩)
    (h_c10 : PySem.W.codeIn K cd_10 "is_rising" = true)
    (h_k10 : PySem.W.keepIn K (.ref f10) = true)
    (h_a11 : PySem.W.nsIn K mainGlobals "is_keys" = some (some (.ref f11)))
    (h_l11 : K.lookup f11 = some ⟨oc_11, od_11, .func (PySem.W.fnOf "is_keys" "is_keys" (defArgs (top 11)) (defBody (top 11)) (defScope (top 11)) .none kV_11 dc_11 pm_11 an_11 cd_11 ct_11), sl_11⟩)
    (h_c11 : PySem.W.codeIn K cd_11 "is_keys" = true)
    (h_k11 : PySem.W.keepIn K (.ref f11) = true)
    (h_a12 : PySem.W.nsIn K mainGlobals "is_box" = some (some (.ref f12)))
    (h_l12 : K.lookup f12 = some ⟨oc_12, od_12, .func (PySem.W.fnOf "is_box" "is_box" (defArgs (top 12)) (defBody (top 12)) (defScope (top 12)) .none kV_12 dc_12 pm_12 an_12 cd_12 ct_12), sl_12⟩)
    (h_c12 : PySem.W.codeIn K cd_12 "is_box" = true)
    (h_k12 : PySem.W.keepIn K (.ref f12) = true)
    (h_a13 : PySem.W.nsIn K mainGlobals "is_boxes" = some (some (.ref f13)))
    (h_l13 : K.lookup f13 = some ⟨oc_13, od_13, .func (PySem.W.fnOf "is_boxes" "is_boxes" (defArgs (top 13)) (defBody (top 13)) (defScope (top 13)) .none kV_13 dc_13 pm_13 an_13 cd_13 ct_13), sl_13⟩)
    (h_c13 : PySem.W.codeIn K cd_13 "is_boxes" = true)
    (h_k13 : PySem.W.keepIn K (.ref f13) = true)
    (h_a15 : PySem.W.nsIn K mainGlobals "had_by" = some (some (.ref f15)))
    (h_l15 : K.lookup f15 = some ⟨oc_15, od_15, .func (PySem.W.fnOf "had_by" "had_by" (defArgs (top 15)) (defBody (top 15)) (defScope (top 15)) .none kV_15 dc_15 pm_15 an_15 cd_15 ct_15), sl_15⟩)
    (h_c15 : PySem.W.codeIn K cd_15 "had_by" = true)
    (h_k15 : PySem.W.keepIn K (.ref f15) = true)
    (h_a16 : PySem.W.nsIn K mainGlobals "opened" = some (some (.ref f16)))
    (h_l16 : K.lookup f16 = some ⟨oc_16, od_16, .func (PySem.W.fnOf "opened" "opened" (defArgs (top 16)) (defBody (top 16)) (defScope (top 16)) .none kV_16 dc_16 pm_16 an_16 cd_16 ct_16), sl_16⟩)
    (h_c16 : PySem.W.codeIn K cd_16 "opened" = true)
    (h_k16 : PySem.W.keepIn K (.ref f16) = true)
    (h_a25 : PySem.W.nsIn K mainGlobals "_law_feed" = some (some (.ref f25)))
    (h_l25 : K.lookup f25 = some ⟨oc_25, od_25, .func (PySem.W.fnOf "_law_feed" "_law_feed" (defArgs (top 25)) (defBody (top 25)) (defScope (top 25)) .none kV_25 dc_25 pm_25 an_25 cd_25 ct_25), sl_25⟩)
    (h_c25 : PySem.W.codeIn K cd_25 "_law_feed" = true)
    (h_k25 : PySem.W.keepIn K (.ref f25) = true)
    (h_a26 : PySem.W.nsIn K mainGlobals "_law_draw" = some (some (.ref f26)))
    (h_l26 : K.lookup f26 = some ⟨oc_26, od_26, .func (PySem.W.fnOf "_law_draw" "_law_draw" (defArgs (top 26)) (defBody (top 26)) (defScope (top 26)) .none kV_26 dc_26 pm_26 an_26 cd_26 ct_26), sl_26⟩)
    (h_c26 : PySem.W.codeIn K cd_26 "_law_draw" = true)
    (h_k26 : PySem.W.keepIn K (.ref f26) = true)
    (h_a27 : PySem.W.nsIn K mainGlobals "_law_grip" = some (some (.ref f27)))
    (h_l27 : K.lookup f27 = some ⟨oc_27, od_27, .func (PySem.W.fnOf "_law_grip" "_law_grip" (defArgs (top 27)) (defBody (top 27)) (defScope (top 27)) .none kV_27 dc_27 pm_27 an_27 cd_27 ct_27), sl_27⟩)
    (h_c27 : PySem.W.codeIn K cd_27 "_law_grip" = true)
    (h_k27 : PySem.W.keepIn K (.ref f27) = true)
    (h_a28 : PySem.W.nsIn K mainGlobals "_law_lot" = some (some (.ref f28)))
    (h_l28 : K.lookup f28 = some ⟨oc_28, od_28, .func (PySem.W.fnOf "_law_lot" "_law_lot" (defArgs (top 28)) (defBody (top 28)) (defScope (top 28)) .none kV_28 dc_28 pm_28 an_28 cd_28 ct_28), sl_28⟩)
    (h_c28 : PySem.W.codeIn K cd_28 "_law_lot" = true)
    (h_k28 : PySem.W.keepIn K (.ref f28) = true)
    (h_a29 : PySem.W.nsIn K mainGlobals "_law_shifted_pair" = some (some (.ref f29)))
    (h_l29 : K.lookup f29 = some ⟨oc_29, od_29, .func (PySem.W.fnOf "_law_shifted_pair" "_law_shifted_pair" (defArgs (top 29)) (defBody (top 29)) (defScope (top 29)) .none kV_29 dc_29 pm_29 an_29 cd_29 ct_29), sl_29⟩)
    (h_c29 : PySem.W.codeIn K cd_29 "_law_shifted_pair" = true)
    (h_k29 : PySem.W.keepIn K (.ref f29) = true)
    (h_a30 : PySem.W.nsIn K mainGlobals "_law_alike_right" = some (some (.ref f30)))
    (h_l30 : K.lookup f30 = some ⟨oc_30, od_30, .func (PySem.W.fnOf "_law_alike_right" "_law_alike_right" (defArgs (top 30)) (defBody (top 30)) (defScope (top 30)) .none kV_30 dc_30 pm_30 an_30 cd_30 ct_30), sl_30⟩)
    (h_c30 : PySem.W.codeIn K cd_30 "_law_alike_right" = true)
    (h_k30 : PySem.W.keepIn K (.ref f30) = true)
    (h_a31 : PySem.W.nsIn K mainGlobals "_law_right" = some (some (.ref f31)))
    (h_l31 : K.lookup f31 = some ⟨oc_31, od_31, .func (PySem.W.fnOf "_law_right" "_law_right" (defArgs (top 31)) (defBody (top 31)) (defScope (top 31)) .none kV_31 dc_31 pm_31 an_31 cd_31 ct_31), sl_31⟩)
    (h_c31 : PySem.W.codeIn K cd_31 "_law_right" = true)
    (h_k31 : PySem.W.keepIn K (.ref f31) = true)
    (h_a32 : PySem.W.nsIn K mainGlobals "law" = some (some (.ref f32)))
    (h_l32 : K.lookup f32 = some ⟨oc_32, od_32, .func (PySem.W.fnOf "law" "law" (defArgs (top 32)) (defBody (top 32)) (defScope (top 32)) .none kV_32 dc_32 pm_32 an_32 cd_32 ct_32), sl_32⟩)
    (h_c32 : PySem.W.codeIn K cd_32 "law" = true)
    (h_k32 : PySem.W.keepIn K (.ref f32) = true)
    (h_gch : PySem.W.nsIn K mainGlobals "Chest" = some (some (.ref Cch)))
    (h_gwo : PySem.W.nsIn K mainGlobals "Without" = some (some (.ref Cwo)))
    (h_gsh : PySem.W.nsIn K mainGlobals "Shifted" = some (some (.ref Csh)))
    (h_gdb : PySem.W.nsIn K mainGlobals "Doubled" = some (some (.ref Cdb)))
    (h_gsd : PySem.W.nsIn K mainGlobals "ShiftedDouble" = some (some (.ref Csd)))
    (h_gds : PySem.W.nsIn K mainGlobals "DoubledShift" = some (some (.ref Cds)))
    (h_pgch : PySem.W.plainGet K Cch Str.empty = true)
    (h_hdch : PySem.W.hasDictIn K Cch = true)
    (h_poch : PySem.W.plainOver K Cch = true)
    (h_sach : PySem.W.findIn K (.ref Cch) "__setattr__" = some (some (.builtin "object.__setattr__")))
    (h_npch : PySem.W.findIn K (.ref Cch) "packed" = some none)
    (h_nwch : PySem.W.findIn K (.ref Cch) "left_out" = some none)
    (h_nsch : PySem.W.findIn K (.ref Cch) "shift" = some none)
    (h_ndch : PySem.W.findIn K (.ref Cch) "seen_key" = some none)
    (h_nech : PySem.W.findIn K (.ref Cch) "extra_key" = some none)
    (h_fich : PySem.W.findIn K (.ref Cch) "__init__" = some (some (.ref miC)))
    (h_fcch : PySem.W.findIn K (.ref Cch) "content" = some (some (.ref mcC)))
    (h_foch : PySem.W.findIn K (.ref Cch) "opening" = some (some (.ref moC)))
    (h_fech : PySem.W.findIn K (.ref Cch) "__eq__" = some (some (.ref meC)))
    (h_fnch : PySem.W.findIn K (.ref Cch) "__ne__" = some (some (.builtin "object.__ne__")))
    (h_hach : PySem.W.findIn K (.ref Cch) "__class__" = some (some (.builtin "object.__class__")))
    (h_mbch : PySem.W.mroIn K Cch (.ref Cch) = some true)
    (h_mkch : PySem.W.makesIn K Cch = true)
    (h_kcch : PySem.W.keepIn K (.ref Cch) = true)
    (h_pgwo : PySem.W.plainGet K Cwo Str.empty = true)
    (h_hdwo : PySem.W.hasDictIn K Cwo = true)
    (h_powo : PySem.W.plainOver K Cwo = true)
    (h_sawo : PySem.W.findIn K (.ref Cwo) "__setattr__" = some (some (.builtin "object.__setattr__")))
    (h_npwo : PySem.W.findIn K (.ref Cwo) "packed" = some none)
    (h_nwwo : PySem.W.findIn K (.ref Cwo) "left_out" = some none)
    (h_nswo : PySem.W.findIn K (.ref Cwo) "shift" = some none)
    (h_ndwo : PySem.W.findIn K (.ref Cwo) "seen_key" = some none)
    (h_newo : PySem.W.findIn K (.ref Cwo) "extra_key" = some none)
    (h_fiwo : PySem.W.findIn K (.ref Cwo) "__init__" = some (some (.ref miW)))
    (h_fcwo : PySem.W.findIn K (.ref Cwo) "content" = some (some (.ref mcW)))
    (h_fowo : PySem.W.findIn K (.ref Cwo) "opening" = some (some (.ref moC)))
    (h_fewo : PySem.W.findIn K (.ref Cwo) "__eq__" = some (some (.ref meC)))
    (h_fnwo : PySem.W.findIn K (.ref Cwo) "__ne__" = some (some (.builtin "object.__ne__")))
    (h_hawo : PySem.W.findIn K (.ref Cwo) "__class__" = some (some (.builtin "object.__class__")))
    (h_mbwo : PySem.W.mroIn K Cwo (.ref Cch) = some true)
    (h_mkwo : PySem.W.makesIn K Cwo = true)
    (h_kcwo : PySem.W.keepIn K (.ref Cwo) = true)
    (h_pgsh : PySem.W.plainGet K Csh Str.empty = true)
    (h_hdsh : PySem.W.hasDictIn K Csh = true)
    (h_posh : PySem.W.plainOver K Csh = true)
    (h_sash : PySem.W.findIn K (.ref Csh) "__setattr__" = some (some (.builtin "object.__setattr__")))
    (h_npsh : PySem.W.findIn K (.ref Csh) "packed" = some none)
    (h_nwsh : PySem.W.findIn K (.ref Csh) "left_out" = some none)
    (h_nssh : PySem.W.findIn K (.ref Csh) "shift" = some none)
    (h_ndsh : PySem.W.findIn K (.ref Csh) "seen_key" = some none)
    (h_nesh : PySem.W.findIn K (.ref Csh) "extra_key" = some none)
    (h_fish : PySem.W.findIn K (.ref Csh) "__init__" = some (some (.ref miS)))
    (h_fcsh : PySem.W.findIn K (.ref Csh) "content" = some (some (.ref mcS)))
    (h_fosh : PySem.W.findIn K (.ref Csh) "opening" = some (some (.ref moC)))
    (h_fesh : PySem.W.findIn K (.ref Csh) "__eq__" = some (some (.ref meC)))
    (h_fnsh : PySem.W.findIn K (.ref Csh) "__ne__" = some (some (.builtin "object.__ne__")))
    (h_hash : PySem.W.findIn K (.ref Csh) "__class__" = some (some (.builtin "object.__class__")))
    (h_mbsh : PySem.W.mroIn K Csh (.ref Cch) = some true)
    (h_mksh : PySem.W.makesIn K Csh = true)
    (h_kcsh : PySem.W.keepIn K (.ref Csh) = true)
    (h_pgdb : PySem.W.plainGet K Cdb Str.empty = true)
    (h_hddb : PySem.W.hasDictIn K Cdb = true)
    (h_podb : PySem.W.plainOver K Cdb = true)
    (h_sadb : PySem.W.findIn K (.ref Cdb) "__setattr__" = some (some (.builtin "object.__setattr__")))
    (h_npdb : PySem.W.findIn K (.ref Cdb) "packed" = some none)
    (h_nwdb : PySem.W.findIn K (.ref Cdb) "left_out" = some none)
    (h_nsdb : PySem.W.findIn K (.ref Cdb) "shift" = some none)
    (h_nddb : PySem.W.findIn K (.ref Cdb) "seen_key" = some none)
    (h_nedb : PySem.W.findIn K (.ref Cdb) "extra_key" = some none)
    (h_fidb : PySem.W.findIn K (.ref Cdb) "__init__" = some (some (.ref miD)))
    (h_fcdb : PySem.W.findIn K (.ref Cdb) "content" = some (some (.ref mcD)))
    (h_fodb : PySem.W.findIn K (.ref Cdb) "opening" = some (some (.ref moC)))
    (h_fedb : PySem.W.findIn K (.ref Cdb) "__eq__" = some (some (.ref meC)))
    (h_fndb : PySem.W.findIn K (.ref Cdb) "__ne__" = some (some (.builtin "object.__ne__")))
    (h_hadb : PySem.W.findIn K (.ref Cdb) "__class__" = some (some (.builtin "object.__class__")))
    (h_mbdb : PySem.W.mroIn K Cdb (.ref Cch) = some true)
    (h_mkdb : PySem.W.makesIn K Cdb = true)
    (h_kcdb : PySem.W.keepIn K (.ref Cdb) = true)
    (h_pgsd : PySem.W.plainGet K Csd Str.empty = true)
    (h_hdsd : PySem.W.hasDictIn K Csd = true)
    (h_posd : PySem.W.plainOver K Csd = true)
    (h_sasd : PySem.W.findIn K (.ref Csd) "__setattr__" = some (some (.builtin "object.__setattr__")))
    (h_npsd : PySem.W.findIn K (.ref Csd) "packed" = some none)
    (h_nwsd : PySem.W.findIn K (.ref Csd) "left_out" = some none)
    (h_nssd : PySem.W.findIn K (.ref Csd) "shift" = some none)
    (h_ndsd : PySem.W.findIn K (.ref Csd) "seen_key" = some none)
    (h_nesd : PySem.W.findIn K (.ref Csd) "extra_key" = some none)
    (h_fisd : PySem.W.findIn K (.ref Csd) "__init__" = some (some (.ref miS)))
    (h_fcsd : PySem.W.findIn K (.ref Csd) "content" = some (some (.ref mcS)))
    (h_fosd : PySem.W.findIn K (.ref Csd) "opening" = some (some (.ref moC)))
    (h_fesd : PySem.W.findIn K (.ref Csd) "__eq__" = some (some (.ref meC)))
    (h_fnsd : PySem.W.findIn K (.ref Csd) "__ne__" = some (some (.builtin "object.__ne__")))
    (h_hasd : PySem.W.findIn K (.ref Csd) "__class__" = some (some (.builtin "object.__class__")))
    (h_mbsd : PySem.W.mroIn K Csd (.ref Cch) = some true)
    (h_mksd : PySem.W.makesIn K Csd = true)
    (h_kcsd : PySem.W.keepIn K (.ref Csd) = true)
    (h_pgds : PySem.W.plainGet K Cds Str.empty = true)
    (h_hdds : PySem.W.hasDictIn K Cds = true)
    (h_pods : PySem.W.plainOver K Cds = true)
    (h_sads : PySem.W.findIn K (.ref Cds) "__setattr__" = some (some (.builtin "object.__setattr__")))
    (h_npds : PySem.W.findIn K (.ref Cds) "packed" = some none)
    (h_nwds : PySem.W.findIn K (.ref Cds) "left_out" = some none)
    (h_nsds : PySem.W.findIn K (.ref Cds) "shift" = some none)
    (h_ndds : PySem.W.findIn K (.ref Cds) "seen_key" = some none)
    (h_neds : PySem.W.findIn K (.ref Cds) "extra_key" = some none)
    (h_fids : PySem.W.findIn K (.ref Cds) "__init__" = some (some (.ref miD)))
    (h_fcds : PySem.W.findIn K (.ref Cds) "content" = some (some (.ref mcD)))
    (h_fods : PySem.W.findIn K (.ref Cds) "opening" = some (some (.ref moC)))
    (h_feds : PySem.W.findIn K (.ref Cds) "__eq__" = some (some (.ref meC)))
    (h_fnds : PySem.W.findIn K (.ref Cds) "__ne__" = some (some (.builtin "object.__ne__")))
    (h_hads : PySem.W.findIn K (.ref Cds) "__class__" = some (some (.builtin "object.__class__")))
    (h_mbds : PySem.W.mroIn K Cds (.ref Cch) = some true)
    (h_mkds : PySem.W.makesIn K Cds = true)
    (h_kcds : PySem.W.keepIn K (.ref Cds) = true)
    (h_liC : K.lookup miC = some ⟨ociC, odiC, .func (PySem.W.fnOf "__init__" "Chest.__init__" (defArgs (cI)) (defBody (cI)) (defScope (cI)) .none kViC dciC pmiC aniC cdiC ctiC), sliC⟩)
    (h_ciC : PySem.W.codeIn K cdiC "Chest.__init__" = true)
    (h_kiC : PySem.W.keepIn K (.ref miC) = true)
    (h_iiC : PySem.W.isFn K (.ref miC) = true)
    (h_lcC : K.lookup mcC = some ⟨occC, odcC, .func (PySem.W.fnOf "content" "Chest.content" (defArgs (cC)) (defBody (cC)) (defScope (cC)) .none kVcC dccC pmcC ancC cdcC ctcC), slcC⟩)
    (h_ccC : PySem.W.codeIn K cdcC "Chest.content" = true)
    (h_kcC : PySem.W.keepIn K (.ref mcC) = true)
    (h_icC : PySem.W.isFn K (.ref mcC) = true)
    (h_loC : K.lookup moC = some ⟨ocoC, odoC, .func (PySem.W.fnOf "opening" "Chest.opening" (defArgs (cO)) (defBody (cO)) (defScope (cO)) .none kVoC dcoC pmoC anoC cdoC ctoC), sloC⟩)
    (h_coC : PySem.W.codeIn K cdoC "Chest.opening" = true)
    (h_koC : PySem.W.keepIn K (.ref moC) = true)
    (h_ioC : PySem.W.isFn K (.ref moC) = true)
    (h_leC : K.lookup meC = some ⟨oceC, odeC, .func (PySem.W.fnOf "__eq__" "Chest.__eq__" (defArgs (cE)) (defBody (cE)) (defScope (cE)) .none kVeC dceC pmeC aneC cdeC cteC), sleC⟩)
    (h_ceC : PySem.W.codeIn K cdeC "Chest.__eq__" = true)
    (h_keC : PySem.W.keepIn K (.ref meC) = true)
    (h_ieC : PySem.W.isFn K (.ref meC) = true)
    (h_liW : K.lookup miW = some ⟨ociW, odiW, .func (PySem.W.ksFn "__init__" "Without.__init__" (defArgs (wI)) (defBody (wI)) (defScope (wI)) .none kViW dciW pmiW aniW (.ref caiW) ctiW ceiW), sliW⟩)
    (h_ciW : PySem.W.codeIn K (.ref caiW) "Without.__init__" = true)
    (h_oiW : K.lookup caiW = some ⟨xciW, xdiW, .fields vsiW, xsiW⟩)
    (h_viW : vsiW[2]? = some (.str fliW tfiW))
    (h_piW : ((P.main.file : Str) == fliW) = true)
    (h_eiW : K.lookup ceiW = some ⟨yciW, ydiW, .cell (some (.ref Cwo)), ysiW⟩)
    (h_kiW : PySem.W.keepIn K (.ref miW) = true)
    (h_iiW : PySem.W.isFn K (.ref miW) = true)
    (h_lcW : K.lookup mcW = some ⟨occW, odcW, .func (PySem.W.ksFn "content" "Without.content" (defArgs (wC)) (defBody (wC)) (defScope (wC)) .none kVcW dccW pmcW ancW (.ref cacW) ctcW cecW), slcW⟩)
    (h_ccW : PySem.W.codeIn K (.ref cacW) "Without.content" = true)
    (h_ocW : K.lookup cacW = some ⟨xccW, xdcW, .fields vscW, xscW⟩)
    (h_vcW : vscW[2]? = some (.str flcW tfcW))
    (h_pcW : ((P.main.file : Str) == flcW) = true)
    (h_ecW : K.lookup cecW = some ⟨yccW, ydcW, .cell (some (.ref Cwo)), yscW⟩)
    (h_kcW : PySem.W.keepIn K (.ref mcW) = true)
    (h_icW : PySem.W.isFn K (.ref mcW) = true)
    (h_liS : K.lookup miS = some ⟨ociS, odiS, .func (PySem.W.ksFn "__init__" "Shifted.__init__" (defArgs (sI)) (defBody (sI)) (defScope (sI)) .none kViS dciS pmiS aniS (.ref caiS) ctiS ceiS), sliS⟩)
    (h_ciS : PySem.W.codeIn K (.ref caiS) "Shifted.__init__" = true)
    (h_oiS : K.lookup caiS = some ⟨xciS, xdiS, .fields vsiS, xsiS⟩)
    (h_viS : vsiS[2]? = some (.str fliS tfiS))
    (h_piS : ((P.main.file : Str) == fliS) = true)
    (h_eiS : K.lookup ceiS = some ⟨yciS, ydiS, .cell (some (.ref Csh)), ysiS⟩)
    (h_kiS : PySem.W.keepIn K (.ref miS) = true)
    (h_iiS : PySem.W.isFn K (.ref miS) = true)
    (h_lcS : K.lookup mcS = some ⟨occS, odcS, .func (PySem.W.ksFn "content" "Shifted.content" (defArgs (sC)) (defBody (sC)) (defScope (sC)) .none kVcS dccS pmcS ancS (.ref cacS) ctcS cecS), slcS⟩)
    (h_ccS : PySem.W.codeIn K (.ref cacS) "Shifted.content" = true)
    (h_ocS : K.lookup cacS = some ⟨xccS, xdcS, .fields vscS, xscS⟩)
    (h_vcS : vscS[2]? = some (.str flcS tfcS))
    (h_pcS : ((P.main.file : Str) == flcS) = true)
    (h_ecS : K.lookup cecS = some ⟨yccS, ydcS, .cell (some (.ref Csh)), yscS⟩)
    (h_kcS : PySem.W.keepIn K (.ref mcS) = true)
    (h_icS : PySem.W.isFn K (.ref mcS) = true)
    (h_liD : K.lookup miD = some ⟨ociD, odiD, .func (PySem.W.ksFn "__init__" "Doubled.__init__" (defArgs (dI)) (defBody (dI)) (defScope (dI)) .none kViD dciD pmiD aniD (.ref caiD) ctiD ceiD), sliD⟩)
    (h_ciD : PySem.W.codeIn K (.ref caiD) "Doubled.__init__" = true)
    (h_oiD : K.lookup caiD = some ⟨xciD, xdiD, .fields vsiD, xsiD⟩)
    (h_viD : vsiD[2]? = some (.str fliD tfiD))
    (h_piD : ((P.main.file : Str) == fliD) = true)
    (h_eiD : K.lookup ceiD = some ⟨yciD, ydiD, .cell (some (.ref Cdb)), ysiD⟩)
    (h_kiD : PySem.W.keepIn K (.ref miD) = true)
    (h_iiD : PySem.W.isFn K (.ref miD) = true)
    (h_lcD : K.lookup mcD = some ⟨occD, odcD, .func (PySem.W.ksFn "content" "Doubled.content" (defArgs (dC)) (defBody (dC)) (defScope (dC)) .none kVcD dccD pmcD ancD (.ref cacD) ctcD cecD), slcD⟩)
    (h_ccD : PySem.W.codeIn K (.ref cacD) "Doubled.content" = true)
    (h_ocD : K.lookup cacD = some ⟨xccD, xdcD, .fields vscD, xscD⟩)
    (h_vcD : vscD[2]? = some (.str flcD tfcD))
    (h_pcD : ((P.main.file : Str) == flcD) = true)
    (h_ecD : K.lookup cecD = some ⟨yccD, ydcD, .cell (some (.ref Cdb)), yscD⟩)
    (h_kcD : PySem.W.keepIn K (.ref mcD) = true)
    (h_icD : PySem.W.isFn K (.ref mcD) = true)
    (h_ty : PySem.W.typeIn K (.ref Cch) = some (.type "type"))
    (h_clch : PySem.W.clsIn K Cch = some kdch)
    (h_clwo : PySem.W.clsIn K Cwo = some kdwo)
    (h_clsh : PySem.W.clsIn K Csh = some kdsh)
    (h_cldb : PySem.W.clsIn K Cdb = some kddb)
    (h_clsd : PySem.W.clsIn K Csd = some kdsd)
    (h_clds : PySem.W.clsIn K Cds = some kdds)
    (h_mrwowo : PySem.W.mroIn K Cwo (.ref Cwo) = some true)
    (h_smwowo : (kdwo.mro.dropWhile (· != .ref Cwo)).drop 1 = .ref Cch :: rswowo)
    (h_mrshsh : PySem.W.mroIn K Csh (.ref Csh) = some true)
    (h_smshsh : (kdsh.mro.dropWhile (· != .ref Csh)).drop 1 = .ref Cch :: rsshsh)
    (h_mrdbdb : PySem.W.mroIn K Cdb (.ref Cdb) = some true)
    (h_smdbdb : (kddb.mro.dropWhile (· != .ref Cdb)).drop 1 = .ref Cch :: rsdbdb)
    (h_mrsdsh : PySem.W.mroIn K Csd (.ref Csh) = some true)
    (h_smsdsh : (kdsd.mro.dropWhile (· != .ref Csh)).drop 1 = .ref Cdb :: rssdsh)
    (h_mrsddb : PySem.W.mroIn K Csd (.ref Cdb) = some true)
    (h_smsddb : (kdsd.mro.dropWhile (· != .ref Cdb)).drop 1 = .ref Cch :: rssddb)
    (h_mrdsdb : PySem.W.mroIn K Cds (.ref Cdb) = some true)
    (h_smdsdb : (kdds.mro.dropWhile (· != .ref Cdb)).drop 1 = .ref Csh :: rsdsdb)
    (h_mrdssh : PySem.W.mroIn K Cds (.ref Csh) = some true)
    (h_smdssh : (kdds.mro.dropWhile (· != .ref Csh)).drop 1 = .ref Cch :: rsdssh)
    (h_nich : PySem.W.nsIn K kdch.ns "__init__" = some (some (.ref miC)))
    (h_ncch : PySem.W.nsIn K kdch.ns "content" = some (some (.ref mcC)))
    (h_nidb : PySem.W.nsIn K kddb.ns "__init__" = some (some (.ref miD)))
    (h_ncdb : PySem.W.nsIn K kddb.ns "content" = some (some (.ref mcD)))
    (h_nish : PySem.W.nsIn K kdsh.ns "__init__" = some (some (.ref miS)))
    (h_ncsh : PySem.W.nsIn K kdsh.ns "content" = some (some (.ref mcS)))
    (h_tiC : PySem.W.typeIn K (.ref miC) = some (.type "function"))
    (h_niC : PySem.W.fnIn K miC = true)
    (h_tcC : PySem.W.typeIn K (.ref mcC) = some (.type "function"))
    (h_ncC : PySem.W.fnIn K mcC = true)
    (h_tiS : PySem.W.typeIn K (.ref miS) = some (.type "function"))
    (h_niS : PySem.W.fnIn K miS = true)
    (h_tcS : PySem.W.typeIn K (.ref mcS) = some (.type "function"))
    (h_ncS : PySem.W.fnIn K mcS = true)
    (h_tiD : PySem.W.typeIn K (.ref miD) = some (.type "function"))
    (h_niD : PySem.W.fnIn K miD = true)
    (h_tcD : PySem.W.typeIn K (.ref mcD) = some (.type "function"))
    (h_ncD : PySem.W.fnIn K mcD = true)
    (h_hn : PySem.W.specialIn K (.builtin "object.__class__") "__get__" = some (some (.builtin "getset_descriptor.__get__")))
    (h_htk : PySem.W.takesIn K (.builtin "object.__class__") = some true)
    (h_thr : PySem.W.nsIn K cStatics "thirdparty.any" = some none)
    (h_tops : (P.main.scope.names.lookup ("super" : Str)).isSome = false)
    (h_z_isinstance : PySem.W.nsIn K mainGlobals "isinstance" = some none)
    (h_z_len : PySem.W.nsIn K mainGlobals "len" = some none)
    (h_z_all : PySem.W.nsIn K mainGlobals "all" = some none)
    (h_z_zip : PySem.W.nsIn K mainGlobals "zip" = some none)
    (h_z_list : PySem.W.nsIn K mainGlobals "list" = some none)
    (h_z_tuple : PySem.W.nsIn K mainGlobals "tuple" = some none)
    (h_z_sorted : PySem.W.nsIn K mainGlobals "sorted" = some none)
    (h_z_int : PySem.W.nsIn K mainGlobals "int" = some none)
    (h_z_bool : PySem.W.nsIn K mainGlobals "bool" = some none)
    (h_z_str : PySem.W.nsIn K mainGlobals "str" = some none)
    (h_z_range : PySem.W.nsIn K mainGlobals "range" = some none)
    (h_z_repr : PySem.W.nsIn K mainGlobals "repr" = some none)
    (h_z_super : PySem.W.nsIn K mainGlobals "super" = some none)
    (h_aL : PySem.W.nsIn K mainGlobals "LETTERS" = some (some (.str "abcdefghijklmnopqrstuvwxyz" tL)))
    (h_aN : PySem.W.nsIn K mainGlobals "LONGEST" = some (some (.int 8 tN))) : LawF P w K mg fa := by
  have e := hfa.symm.trans (PySem.W.mg_of X G h_a32)
  cases e
  have Gx : Gb mg := ⟨PySem.W.mg_none_of X G h_z_isinstance, PySem.W.mg_none_of X G h_z_len, PySem.W.mg_none_of X G h_z_all, PySem.W.mg_none_of X G h_z_zip, PySem.W.mg_none_of X G h_z_list, PySem.W.mg_none_of X G h_z_tuple, PySem.W.mg_none_of X G h_z_sorted, PySem.W.mg_none_of X G h_z_int, PySem.W.mg_none_of X G h_z_bool, PySem.W.mg_none_of X G h_z_str, PySem.W.mg_none_of X G h_z_range, PySem.W.mg_none_of X G h_z_repr, PySem.W.mg_none_of X G h_z_super⟩
  have Bx : Cst mg := ⟨⟨tL, PySem.W.mg_of X G h_aL⟩, ⟨tN, PySem.W.mg_of X G h_aN⟩⟩
  have F3 := fun_mk (st := top 3) h_l3 h_c3 h_k3
  have b3 := F3.binds (ps := ["thing"]) fun _ _ _ _ _ _ us hl => match us, hl with | [_], _ => rfl
  have F4 := fun_mk (st := top 4) h_l4 h_c4 h_k4
  have b4 := F4.binds (ps := ["thing"]) fun _ _ _ _ _ _ us hl => match us, hl with | [_], _ => rfl
  have F5 := fun_mk (st := top 5) h_l5 h_c5 h_k5
  have b5 := F5.binds (ps := ["thing"]) fun _ _ _ _ _ _ us hl => match us, hl with | [_], _ => rfl
  have F6 := fun_mk (st := top 6) h_l6 h_c6 h_k6
  have b6 := F6.binds (ps := ["thing"]) fun _ _ _ _ _ _ us hl => match us, hl with | [_], _ => rfl
  have F7 := fun_mk (st := top 7) h_l7 h_c7 h_k7
  have b7 := F7.binds (ps := ["thing"]) fun _ _ _ _ _ _ us hl => match us, hl with | [_], _ => rfl
  have F8 := fun_mk (st := top 8) h_l8 h_c8 h_k8
  have b8 := F8.binds (ps := ["thing"]) fun _ _ _ _ _ _ us hl => match us, hl with | [_], _ => rfl
  have F9 := fun_mk (st := top 9) h_l9 h_c9 h_k9
  have b9 := F9.binds (ps := ["values"]) fun _ _ _ _ _ _ us hl => match us, hl with | [_], _ => rfl
  have F10 := fun_mk (st := top 10) h_l10 h_c10 h_k10
  have b10 := F10.binds (ps := ["thing", "check"]) fun _ _ _ _ _ _ us hl => match us, hl with | [_, _], _ => rfl
  have F11 := fun_mk (st := top 11) h_l11 h_c11 h_k11
  have b11 := F11.binds (ps := ["thing"]) fun _ _ _ _ _ _ us hl => match us, hl with | [_], _ => rfl
  have F12 := fun_mk (st := top 12) h_l12 h_c12 h_k12
  have b12 := F12.binds (ps := ["thing"]) fun _ _ _ _ _ _ us hl => match us, hl with | [_], _ => rfl
  have F13 := fun_mk (st := top 13) h_l13 h_c13 h_k13
  have b13 := F13.binds (ps := ["thing"]) fun _ _ _ _ _ _ us hl => match us, hl with | [_], _ => rfl
  have F15 := fun_mk (st := top 15) h_l15 h_c15 h_k15
  have b15 := F15.binds (ps := ["keys", "boxes"]) fun _ _ _ _ _ _ us hl => match us, hl with | [_, _], _ => rfl
  have F16 := fun_mk (st := top 16) h_l16 h_c16 h_k16
  have b16 := F16.binds (ps := ["keys", "boxes"]) fun _ _ _ _ _ _ us hl => match us, hl with | [_, _], _ => rfl
  have F25 := fun_mk (st := top 25) h_l25 h_c25 h_k25
  have b25 := F25.binds (ps := ["_law_script"]) fun _ _ _ _ _ _ us hl => match us, hl with | [_], _ => rfl
  have F26 := fun_mk (st := top 26) h_l26 h_c26 h_k26
  have b26 := F26.binds (ps := ["_law_feed_here", "_law_many"]) fun _ _ _ _ _ _ us hl => match us, hl with | [_, _], _ => rfl
  have F27 := fun_mk (st := top 27) h_l27 h_c27 h_k27
  have b27 := F27.binds (ps := ["_law_feed_here", "_law_many", "_law_most"]) fun _ _ _ _ _ _ us hl => match us, hl with | [_, _, _], _ => rfl
  have F28 := fun_mk (st := top 28) h_l28 h_c28 h_k28
  have b28 := F28.binds (ps := ["_law_feed_here", "_law_size", "_law_many"]) fun _ _ _ _ _ _ us hl => match us, hl with | [_, _, _], _ => rfl
  have F29 := fun_mk (st := top 29) h_l29 h_c29 h_k29
  have b29 := F29.binds (ps := ["_law_pair", "_law_more"]) fun _ _ _ _ _ _ us hl => match us, hl with | [_, _], _ => rfl
  have F30 := fun_mk (st := top 30) h_l30 h_c30 h_k30
  have b30 := F30.binds (ps := ["_law_grip_here", "_law_made"]) fun _ _ _ _ _ _ us hl => match us, hl with | [_, _], _ => rfl
  have F31 := fun_mk (st := top 31) h_l31 h_c31 h_k31
  have b31 := F31.binds (ps := ["_law_feed_here", "_law_lot_here", "_law_grip_here"]) fun _ _ _ _ _ _ us hl => match us, hl with | [_, _, _], _ => rfl
  have F32 := fun_mk (st := top 32) h_l32 h_c32 h_k32
  have FiC := fun_mk (st := cI) h_liC h_ciC h_kiC
  have biC := FiC.binds (ps := ["self", "boxes"]) fun _ _ _ _ _ _ us hl => match us, hl with | [_, _], _ => rfl
  have FcC := fun_mk (st := cC) h_lcC h_ccC h_kcC
  have bcC := FcC.binds (ps := ["self"]) fun _ _ _ _ _ _ us hl => match us, hl with | [_], _ => rfl
  have FoC := fun_mk (st := cO) h_loC h_coC h_koC
  have boC := FoC.binds (ps := ["self", "keys"]) fun _ _ _ _ _ _ us hl => match us, hl with | [_, _], _ => rfl
  have FeC := fun_mk (st := cE) h_leC h_ceC h_keC
  have beC := FeC.binds (ps := ["self", "other"]) fun _ _ _ _ _ _ us hl => match us, hl with | [_, _], _ => rfl
  have Z : SupF P K mg := ⟨Gx.super, h_tops, h_thr⟩
  have FiW : FunK P K "__init__" "Without.__init__" wI miW ceiW caiW Cwo := ⟨⟨_, _, _, _, _, _, _, _, h_liW⟩, h_ciW, ⟨_, _, _, _, _, _, h_oiW, h_viW, h_piW⟩, ⟨_, _, _, h_eiW⟩, ⟨_, h_clwo⟩⟩
  have FcW : FunK P K "content" "Without.content" wC mcW cecW cacW Cwo := ⟨⟨_, _, _, _, _, _, _, _, h_lcW⟩, h_ccW, ⟨_, _, _, _, _, _, h_ocW, h_vcW, h_pcW⟩, ⟨_, _, _, h_ecW⟩, ⟨_, h_clwo⟩⟩
  have FiS : FunK P K "__init__" "Shifted.__init__" sI miS ceiS caiS Csh := ⟨⟨_, _, _, _, _, _, _, _, h_liS⟩, h_ciS, ⟨_, _, _, _, _, _, h_oiS, h_viS, h_piS⟩, ⟨_, _, _, h_eiS⟩, ⟨_, h_clsh⟩⟩
  have FcS : FunK P K "content" "Shifted.content" sC mcS cecS cacS Csh := ⟨⟨_, _, _, _, _, _, _, _, h_lcS⟩, h_ccS, ⟨_, _, _, _, _, _, h_ocS, h_vcS, h_pcS⟩, ⟨_, _, _, h_ecS⟩, ⟨_, h_clsh⟩⟩
  have FiD : FunK P K "__init__" "Doubled.__init__" dI miD ceiD caiD Cdb := ⟨⟨_, _, _, _, _, _, _, _, h_liD⟩, h_ciD, ⟨_, _, _, _, _, _, h_oiD, h_viD, h_piD⟩, ⟨_, _, _, h_eiD⟩, ⟨_, h_cldb⟩⟩
  have FcD : FunK P K "content" "Doubled.content" dC mcD cecD cacD Cdb := ⟨⟨_, _, _, _, _, _, _, _, h_lcD⟩, h_ccD, ⟨_, _, _, _, _, _, h_ocD, h_vcD, h_pcD⟩, ⟨_, _, _, h_ecD⟩, ⟨_, h_cldb⟩⟩
  have Nch : Nos K Cch := ⟨⟨h_pgch, h_hdch, h_poch, h_sach⟩, h_npch, h_nwch, h_nsch, h_ndch, h_nech⟩
  have Nwo : Nos K Cwo := ⟨⟨h_pgwo, h_hdwo, h_powo, h_sawo⟩, h_npwo, h_nwwo, h_nswo, h_ndwo, h_newo⟩
  have Nsh : Nos K Csh := ⟨⟨h_pgsh, h_hdsh, h_posh, h_sash⟩, h_npsh, h_nwsh, h_nssh, h_ndsh, h_nesh⟩
  have Ndb : Nos K Cdb := ⟨⟨h_pgdb, h_hddb, h_podb, h_sadb⟩, h_npdb, h_nwdb, h_nsdb, h_nddb, h_nedb⟩
  have Nsd : Nos K Csd := ⟨⟨h_pgsd, h_hdsd, h_posd, h_sasd⟩, h_npsd, h_nwsd, h_nssd, h_ndsd, h_nesd⟩
  have Nds : Nos K Cds := ⟨⟨h_pgds, h_hdds, h_pods, h_sads⟩, h_npds, h_nwds, h_nsds, h_ndds, h_neds⟩
  have Iwowo : SupAt K Cwo Cwo "__init__" miC := ⟨h_mrwowo, sup_hit h_clwo h_smwowo h_clch h_nich, h_tiC, h_niC, rfl⟩
  have Owowo : SupAt K Cwo Cwo "content" mcC := ⟨h_mrwowo, sup_hit h_clwo h_smwowo h_clch h_ncch, h_tcC, h_ncC, rfl⟩
  have Ishsh : SupAt K Csh Csh "__init__" miC := ⟨h_mrshsh, sup_hit h_clsh h_smshsh h_clch h_nich, h_tiC, h_niC, rfl⟩
  have Oshsh : SupAt K Csh Csh "content" mcC := ⟨h_mrshsh, sup_hit h_clsh h_smshsh h_clch h_ncch, h_tcC, h_ncC, rfl⟩
  have Idbdb : SupAt K Cdb Cdb "__init__" miC := ⟨h_mrdbdb, sup_hit h_cldb h_smdbdb h_clch h_nich, h_tiC, h_niC, rfl⟩
  have Odbdb : SupAt K Cdb Cdb "content" mcC := ⟨h_mrdbdb, sup_hit h_cldb h_smdbdb h_clch h_ncch, h_tcC, h_ncC, rfl⟩
  have Isdsh : SupAt K Csd Csh "__init__" miD := ⟨h_mrsdsh, sup_hit h_clsd h_smsdsh h_cldb h_nidb, h_tiD, h_niD, rfl⟩
  have Osdsh : SupAt K Csd Csh "content" mcD := ⟨h_mrsdsh, sup_hit h_clsd h_smsdsh h_cldb h_ncdb, h_tcD, h_ncD, rfl⟩
  have Isddb : SupAt K Csd Cdb "__init__" miC := ⟨h_mrsddb, sup_hit h_clsd h_smsddb h_clch h_nich, h_tiC, h_niC, rfl⟩
  have Osddb : SupAt K Csd Cdb "content" mcC := ⟨h_mrsddb, sup_hit h_clsd h_smsddb h_clch h_ncch, h_tcC, h_ncC, rfl⟩
  have Idsdb : SupAt K Cds Cdb "__init__" miS := ⟨h_mrdsdb, sup_hit h_clds h_smdsdb h_clsh h_nish, h_tiS, h_niS, rfl⟩
  have Odsdb : SupAt K Cds Cdb "content" mcS := ⟨h_mrdsdb, sup_hit h_clds h_smdsdb h_clsh h_ncsh, h_tcS, h_ncS, rfl⟩
  have Idssh : SupAt K Cds Csh "__init__" miC := ⟨h_mrdssh, sup_hit h_clds h_smdssh h_clch h_nich, h_tiC, h_niC, rfl⟩
  have Odssh : SupAt K Cds Csh "content" mcC := ⟨h_mrdssh, sup_hit h_clds h_smdssh h_clch h_ncch, h_tcC, h_ncC, rfl⟩
  refine ⟨mkT Cch Cwo Csh Cdb Csd Cds, mkT miC miW miS miD miS miD, meC, moC, _, F32, fun base => ?_⟩
  have L3 : Cl1 P w K mg base 1 "is_integer" spInt := ⟨_, _, _, ok_integer F3 Gx, PySem.W.mg_of X G h_a3, h_k3, b3⟩
  have L4 : Cl1 P w K mg base 2 "is_number" spNum := ⟨_, _, _, ok_number F4 L3, PySem.W.mg_of X G h_a4, h_k4, b4⟩
  have L5 : Cl1 P w K mg base 1 "is_name" spName := ⟨_, _, _, ok_name F5 Gx Bx, PySem.W.mg_of X G h_a5, h_k5, b5⟩
  have L6 : Cl1 P w K mg base 3 "is_key" spNum := ⟨_, _, _, ok_key F6 L4, PySem.W.mg_of X G h_a6, h_k6, b6⟩
  have L7 : Cl1 P w K mg base 3 "is_text" spTxt := ⟨_, _, _, ok_text F7 Gx (L5.mono (by decide)) L4, PySem.W.mg_of X G h_a7, h_k7, b7⟩
  have L8 : Cl1 P w K mg base 4 "is_thing" spThg := ⟨_, _, _, ok_thing F8 L6 L7, PySem.W.mg_of X G h_a8, h_k8, b8⟩
  have L9 : Cl1 P w K mg base 1 "rises" spRise := ⟨_, _, _, ok_rises F9 Gx, PySem.W.mg_of X G h_a9, h_k9, b9⟩
  have L10 : Cl1 P w K mg base 4 "is_rising" (spRis f6) := ⟨_, _, _, ok_rising F10 Gx (ok_key F6 L4) h_k6 b6 L9, PySem.W.mg_of X G h_a10, h_k10, b10⟩
  have L11 : Cl1 P w K mg base 5 "is_keys" spKeys := ⟨_, _, _, ok_keys F11 (PySem.W.mg_of X G h_a6) L10, PySem.W.mg_of X G h_a11, h_k11, b11⟩
  have L12 : Cl1 P w K mg base 6 "is_box" spBox := ⟨_, _, _, ok_box F12 Gx (L8.mono (by decide)) L11, PySem.W.mg_of X G h_a12, h_k12, b12⟩
  have L13 : Cl1 P w K mg base 7 "is_boxes" spBoxes := ⟨_, _, _, ok_boxes F13 Gx L12, PySem.W.mg_of X G h_a13, h_k13, b13⟩
  have L15 : Cl1 P w K mg base 1 "had_by" (spHad w) := ⟨_, _, _, ok_had F15 Gx, PySem.W.mg_of X G h_a15, h_k15, b15⟩
  have L16 : Cl1 P w K mg base 2 "opened" spOpened := ⟨_, _, _, ok_opened F16 Gx L15 L3, PySem.W.mg_of X G h_a16, h_k16, b16⟩
  have L25 : Cl1 P w K mg base 1 "_law_feed" (spFeed K) := ⟨_, _, _, ok_feed F25 Gx, PySem.W.mg_of X G h_a25, h_k25, b25⟩
  have L26 : Cl1 P w K mg base 1 "_law_draw" spDraw := ⟨_, _, _, ok_draw F26 Gx, PySem.W.mg_of X G h_a26, h_k26, b26⟩
  have L27 : Cl1 P w K mg base 2 "_law_grip" spGrip := ⟨_, _, _, ok_grip F27 Gx L26, PySem.W.mg_of X G h_a27, h_k27, b27⟩
  have L28 : Cl1 P w K mg base 2 "_law_lot" spLot := ⟨_, _, _, ok_lot F28 Gx L26, PySem.W.mg_of X G h_a28, h_k28, b28⟩
  have L29 : Cl1 P w K mg base 1 "_law_shifted_pair" spPair := ⟨_, _, _, ok_pair F29 Gx, PySem.W.mg_of X G h_a29, h_k29, b29⟩
  have coch : CoOk P w K mg base 1 mcC (Γ0 Cch) := co_C FcC bcC Nch
  have cowo : CoOk P w K mg base 1 mcC (Γ0 Cwo) := co_C FcC bcC Nwo
  have cosh : CoOk P w K mg base 1 mcC (Γ0 Csh) := co_C FcC bcC Nsh
  have codb : CoOk P w K mg base 1 mcC (Γ0 Cdb) := co_C FcC bcC Ndb
  have cosd : CoOk P w K mg base 1 mcC (Γ0 Csd) := co_C FcC bcC Nsd
  have cods : CoOk P w K mg base 1 mcC (Γ0 Cds) := co_C FcC bcC Nds
  have d_wo : CoOk P w K mg base 2 mcW (GmOf Cwo .wo) := co_W Gx FcW Z Owowo cowo (mono0 _) Nwo
  have d_sh : CoOk P w K mg base 2 mcS (GmOf Csh .sh) := co_S Gx FcS Z Oshsh cosh (mono0 _) Nsh
  have d_db : CoOk P w K mg base 2 mcD (GmOf Cdb .db) := co_D Gx FcD Z Odbdb codb (mono0 _) Ndb
  have d_sd : CoOk P w K mg base 3 mcS (GmOf Csd .sd) := co_S Gx FcS Z Osdsh (co_D Gx FcD Z Osddb cosd (mono0 _) Nsd) (monoD (mono0 _)) Nsd
  have d_ds : CoOk P w K mg base 3 mcD (GmOf Cds .ds) := co_D Gx FcD Z Odsdb (co_S Gx FcS Z Odssh cods (mono0 _) Nds) (monoS (mono0 _)) Nds
  have ZF : KF P w K mg base (mkT Cch Cwo Csh Cdb Csd Cds) meC moC := ⟨(fun i => match i with | .ch => Nch | .wo => Nwo | .sh => Nsh | .db => Ndb | .sd => Nsd | .ds => Nds), (fun i => match i with | .ch => ⟨mcC, ⟨h_fcch, h_icC, h_kcC⟩, coch.mono (by decide)⟩ | .wo => ⟨mcW, ⟨h_fcwo, h_icW, h_kcW⟩, d_wo.mono (by decide)⟩ | .sh => ⟨mcS, ⟨h_fcsh, h_icS, h_kcS⟩, d_sh.mono (by decide)⟩ | .db => ⟨mcD, ⟨h_fcdb, h_icD, h_kcD⟩, d_db.mono (by decide)⟩ | .sd => ⟨mcS, ⟨h_fcsd, h_icS, h_kcS⟩, d_sd⟩ | .ds => ⟨mcD, ⟨h_fcds, h_icD, h_kcD⟩, d_ds⟩), (fun i => match i with | .ch => ⟨h_foch, h_ioC, h_koC⟩ | .wo => ⟨h_fowo, h_ioC, h_koC⟩ | .sh => ⟨h_fosh, h_ioC, h_koC⟩ | .db => ⟨h_fodb, h_ioC, h_koC⟩ | .sd => ⟨h_fosd, h_ioC, h_koC⟩ | .ds => ⟨h_fods, h_ioC, h_koC⟩), (fun i => match i with | .ch => ⟨h_fech, h_fnch, h_poch⟩ | .wo => ⟨h_fewo, h_fnwo, h_powo⟩ | .sh => ⟨h_fesh, h_fnsh, h_posh⟩ | .db => ⟨h_fedb, h_fndb, h_podb⟩ | .sd => ⟨h_fesd, h_fnsd, h_posd⟩ | .ds => ⟨h_feds, h_fnds, h_pods⟩), (fun i => match i with | .ch => h_hach | .wo => h_hawo | .sh => h_hash | .db => h_hadb | .sd => h_hasd | .ds => h_hads), (fun i => match i with | .ch => kit_sub h_clch h_ty h_mbch | .wo => kit_sub h_clch h_ty h_mbwo | .sh => kit_sub h_clch h_ty h_mbsh | .db => kit_sub h_clch h_ty h_mbdb | .sd => kit_sub h_clch h_ty h_mbsd | .ds => kit_sub h_clch h_ty h_mbds), h_hn, h_htk, PySem.W.mg_of X G h_gch, h_ieC⟩
  have qch : FnKw P w K mg base 1 miC [] (spIn Cch g0) := kw_initC FiC biC Nch
  have qwo : FnKw P w K mg base 1 miC [] (spIn Cwo g0) := kw_initC FiC biC Nwo
  have qsh : FnKw P w K mg base 1 miC [] (spIn Csh g0) := kw_initC FiC biC Nsh
  have qdb : FnKw P w K mg base 1 miC [] (spIn Cdb g0) := kw_initC FiC biC Ndb
  have qsd : FnKw P w K mg base 1 miC [] (spIn Csd g0) := kw_initC FiC biC Nsd
  have qds : FnKw P w K mg base 1 miC [] (spIn Cds g0) := kw_initC FiC biC Nds
  have k_wo : FnKw P w K mg base 2 miW ["key"] (spIn Cwo (gW g0)) := ok_initW FiW Z Iwowo qwo Nwo g0_len
  have k_sh : FnKw P w K mg base 2 miS ["by"] (spIn Csh (gS g0 0 [])) := kw_S1 FiS Z Ishsh qsh Nsh g0_len
  have k_db : FnKw P w K mg base 2 miD ["key", "extra"] (spIn Cdb (gD g0 0 1 [])) := kw_D2 FiD Z Idbdb qdb Ndb g0_len
  have g5 : ∀ (vb : V) (zs : List V) (fs : List (Str × V)), (g0 vb zs fs).length ≤ fs.length + 5 := fun vb zs fs => by have := putF_length "packed" vb fs; unfold g0; omega
  have k_sd : FnKw P w K mg base 3 miS ["by", "key", "extra"] (spIn Csd (gS (gD g0 0 1 []) 0 [1, 2])) := kw_S3 FiS Z Isdsh (kw_D2 FiD Z Isddb qsd Nsd g0_len) Nsd (gD_len g5)
  have k_ds : FnKw P w K mg base 3 miD ["by", "key", "extra"] (spIn Cds (gD (gS g0 0 []) 1 2 [0])) := kw_D3 FiD Z Idsdb (kw_S1 FiS Z Idssh qds Nds g0_len) Nds (gS_len g5)
  have MFx : MF P w K mg base (mkT Cch Cwo Csh Cdb Csd Cds) (mkT miC miW miS miD miS miD) := ⟨(fun i => match i with | .ch => ⟨h_mkch, h_fich, h_iiC, h_kcch⟩ | .wo => ⟨h_mkwo, h_fiwo, h_iiW, h_kcwo⟩ | .sh => ⟨h_mksh, h_fish, h_iiS, h_kcsh⟩ | .db => ⟨h_mkdb, h_fidb, h_iiD, h_kcdb⟩ | .sd => ⟨h_mksd, h_fisd, h_iiS, h_kcsd⟩ | .ds => ⟨h_mkds, h_fids, h_iiD, h_kcds⟩), ⟨_, ok_initC FiC Nch, biC⟩, k_wo.mono (by decide), k_sh.mono (by decide), k_db.mono (by decide), k_sd, k_ds, PySem.W.mg_of X G h_gch, PySem.W.mg_of X G h_gwo, PySem.W.mg_of X G h_gsh, PySem.W.mg_of X G h_gdb, PySem.W.mg_of X G h_gsd, PySem.W.mg_of X G h_gds⟩
  have LWx : LW P w K mg base (mkT Cch Cwo Csh Cdb Csd Cds) (mkT miC miW miS miD miS miD) meC moC := ⟨Gx, ZF, MFx, ⟨_, _, ok_eq FeC Gx ZF, beC⟩, ⟨_, _, ok_opening FoC ZF (L16.mono (by decide)), boC⟩, L16⟩
  have L30 : Cl1 P w K mg base 8 "_law_alike_right" (spAlike (mkT Cch Cwo Csh Cdb Csd Cds)) := ⟨_, _, _, ok_alike F30 LWx L13, PySem.W.mg_of X G h_a30, h_k30, b30⟩
  have L31 : Cl1 P w K mg base 9 "_law_right" spRight := ⟨_, _, _, ok_right F31 LWx L26 L29 L30, PySem.W.mg_of X G h_a31, h_k31, b31⟩
  exact ⟨LWx, L25, L26, L28, L27, L31⟩
theorem walkK {l : PySem.W.OpenLaw} {q : Program} {loose : List Str} {XP : (Str → Option Value) → Heap → Prop} {YP : World → Heap → Prop} {d : DefRec} {K : Params → PySem.W.Frag} (hn : l.most = some 63) (hdf : d.params.defaults = [])
    (hY : ∀ (w : World) (h : Heap), YP w h → (K w.params).In h)
    (F : ∀ (w : World) (mg : Str → Option Value) (fa : Addr) (h : Heap), (K w.params).In h → h.Ns mainGlobals mg → mg d.name = some (.ref fa) → LawF l.prog w (K w.params) mg fa) :
    PySem.W.WalkO q loose XP YP l.row.toRowW d [] (fun f vs => PySem.call f vs) := by
  refine Att.attach_call hn hdf fun w s₀ s₁ mg mb fa o pm cd doc a vs ns Gr Y ho hd hcd hmg hobj hints hlen hgens => ?_
  have inK := hY w _ Y
  obtain ⟨T, fi, fe, fo, fd, Fl, all⟩ := F w mg fa _ inK Gr.T.g hmg
  obtain ⟨oc, od, kV, doc2, pm2, an, cdv, ct, osl, rfl, lk, hc2⟩ := Fl.ex
  have rm : Room 10 callerA := ⟨rfl, by decide, by decide⟩
  refine law_at inK Gr.T.g Gr.T.b Gr.T.builtins Gr.T.nolimit hgens hobj hints (Nat.le_trans hlen (by decide)) fun base H kb nb e0 seq => ?_
  obtain ⟨LWx, CF, CD, CLt, CG, CR⟩ := all base
  have rel1 : Vals [V.ref a] [Value.ref a] := .cons rfl .nil
  refine enter_at (N := N32) (ps := ["_law_script"]) (us := [.ref a]) (vs := [.ref a]) lk hc2 sc32 rm e0 (.of_eq rfl) rel1 rfl ?_
  obtain ⟨t, run, want⟩ := body32 (f := fa) (a := a) (cdv := cdv) (A := callerA) (outer := []) (s := s₁) (H := H) (Q := fun v _ => v = .bl true) (E := E0) (ns := ns) LWx CF CD CLt CG CR (rm.deeper _) rfl seq (by omega) (fun _ => rfl)
  exact ⟨t, run.nox, want⟩
end K13

set_option maxRecDepth 100000 in
set_option maxHeartbeats 0 in
open PySem PySem.W PyProof.Rows in
theorem PySem.Challenge.cw_sealshelf_k13_whole_chests_holds : PySem.Challenge.rw_sealshelf_k13_whole_chests.Holds := by
  w_on; o_law; k_head; (case hw => w_witness2)
  k_fill
  refine K13.walkK (l := PySem.Challenge.rw_sealshelf_k13_whole_chests) rfl rfl (fun w h Y => PySem.W.kIn_of Y) ?F
  case F =>
    intro w mg fa h KX G hmg
    refine' K13.all_mk KX G hmg ?a3 ?l3 ?c3 ?k3 ?a4 ?l4 ?c4 ?k4 ?a5 ?l5 ?c5 ?k5 ?a6 ?l6 ?c6 ?k6 ?a7 ?l7 ?c7 ?k7 ?a8 ?l8 ?c8 ?k8 ?a9 ?l9 ?c9 ?k9 ?a10 ?l10 ?c10 ?k10 ?a11 ?l11 ?c11 ?k11 ?a12 ?l12 ?c12 ?k12 ?a13 ?l13 ?c13 ?k13 ?a15 ?l15 ?c15 ?k15 ?a16 ?l16 ?c16 ?k16 ?a25 ?l25 ?c25 ?k25 ?a26 ?l26 ?c26 ?k26 ?a27 ?l27 ?c27 ?k27 ?a28 ?l28 ?c28 ?k28 ?a29 ?l29 ?c29 ?k29 ?a30 ?l30 ?c30 ?k30 ?a31 ?l31 ?c31 ?k31 ?a32 ?l32 ?c32 ?k32 ?gch ?gwo ?gsh ?gdb ?gsd ?gds ?pgch ?hdch ?poch ?sach ?npch ?nwch ?nsch ?ndch ?nech ?fich ?fcch ?foch ?fech ?fnch ?hach ?mbch ?mkch ?kcch ?pgwo ?hdwo ?powo ?sawo ?npwo ?nwwo ?nswo ?ndwo ?newo ?fiwo ?fcwo ?fowo ?fewo ?fnwo ?hawo ?mbwo ?mkwo ?kcwo ?pgsh ?hdsh ?posh ?sash ?npsh ?nwsh ?nssh ?ndsh ?nesh ?fish ?fcsh ?fosh ?fesh ?fnsh ?hash ?mbsh ?mksh ?kcsh ?pgdb ?hddb ?podb ?sadb ?npdb ?nwdb ?nsdb ?nddb ?nedb ?fidb ?fcdb ?fodb ?fedb ?fndb ?hadb ?mbdb ?mkdb ?kcdb ?pgsd ?hdsd ?posd ?sasd ?npsd ?nwsd ?nssd ?ndsd ?nesd ?fisd ?fcsd ?fosd ?fesd ?fnsd ?hasd ?mbsd ?mksd ?kcsd ?pgds ?hdds ?pods ?sads ?npds ?nwds ?nsds ?ndds ?neds ?fids ?fcds ?fods ?feds ?fnds ?hads ?mbds ?mkds ?kcds ?liC ?ciC ?kiC ?iiC ?lcC ?ccC ?kcC ?icC ?loC ?coC ?koC ?ioC ?leC ?ceC ?keC ?ieC ?liW ?ciW ?oiW ?viW ?piW ?eiW ?kiW ?iiW ?lcW ?ccW ?ocW ?vcW ?pcW ?ecW ?kcW ?icW ?liS ?ciS ?oiS ?viS ?piS ?eiS ?kiS ?iiS ?lcS ?ccS ?ocS ?vcS ?pcS ?ecS ?kcS ?icS ?liD ?ciD ?oiD ?viD ?piD ?eiD ?kiD ?iiD ?lcD ?ccD ?ocD ?vcD ?pcD ?ecD ?kcD ?icD ?ty ?clch ?clwo ?clsh ?cldb ?clsd ?clds ?mrwowo ?smwowo ?mrshsh ?smshsh ?mrdbdb ?smdbdb ?mrsdsh ?smsdsh ?mrsddb ?smsddb ?mrdsdb ?smdsdb ?mrdssh ?smdssh ?nich ?ncch ?nidb ?ncdb ?nish ?ncsh ?tiC ?niC ?tcC ?ncC ?tiS ?niS ?tcS ?ncS ?tiD ?niD ?tcD ?ncD ?hn ?htk ?thr ?tops ?z_isinstance ?z_len ?z_all ?z_zip ?z_list ?z_tuple ?z_sorted ?z_int ?z_bool ?z_str ?z_range ?z_repr ?z_super ?aL ?aN
    (case a3 => k_is)
    (case l3 => k_is)
    (case c3 => k_is)
    (case k3 => k_is)
    (case a4 => k_is)
    (case l4 => k_is)
    (case c4 => k_is)
    (case k4 => k_is)
    (case a5 => k_is)
    (case l5 => k_is)
    (case c5 => k_is)
    (case k5 => k_is)
    (case a6 => k_is)
    (case l6 => k_is)
    (case c6 => k_is)
    (case k6 => k_is)
    (case a7 => k_is)
    (case l7 => k_is)
    (case c7 => k_is)
    (case k7 => k_is)
    (case a8 => k_is)
    (case l8 => k_is)
    (case c8 => k_is)
    (case k8 => k_is)
    (case a9 => k_is)
    (case l9 => k_is)
    (case c9 => k_is)
    (case k9 => k_is)
    (case a10 => k_is)
    (case l10 => k_is)
    (case c10 => k_is)
    (case k10 => k_is)
    (case a11 => k_is)
    (case l11 => k_is)
    (case c11 => k_is)
    (case k11 => k_is)
    (case a12 => k_is)
    (case l12 => k_is)
    (case c12 => k_is)
    (case k12 => k_is)
    (case a13 => k_is)
    (case l13 => k_is)
    (case c13 => k_is)
    (case k13 => k_is)
    (case a15 => k_is)
    (case l15 => k_is)
    (case c15 => k_is)
    (case k15 => k_is)
    (case a16 => k_is)
    (case l16 => k_is)
    (case c16 => k_is)
    (case k16 => k_is)
    (case a25 => k_is)
    (case l25 => k_is)
    (case c25 => k_is)
    (case k25 => k_is)
    (case a26 => k_is)
    (case l26 => k_is)
    (case c26 => k_is)
    (case k26 => k_is)
    (case a27 => k_is)
    (case l27 => k_is)
    (case c27 => k_is)
    (case k27 => k_is)
    (case a28 => k_is)
    (case l28 => k_is)
    (case c28 => k_is)
    (case k28 => k_is)
    (case a29 => k_is)
    (case l29 => k_is)
    (case c29 => k_is)
    (case k29 => k_is)
    (case a30 => k_is)
    (case l30 => k_is)
    (case c30 => k_is)
    (case k30 => k_is)
    (case a31 => k_is)
    (case l31 => k_is)
    (case c31 => k_is)
    (case k31 => k_is)
    (case a32 => k_is)
    (case l32 => k_is)
    (case c32 => k_is)
    (case k32 => k_is)
    (case gch => k_is)
    (case gwo => k_is)
    (case gsh => k_is)
    (case gdb => k_is)
    (case gsd => k_is)
    (case gds => k_is)
    (case pgch => k_is)
    (case hdch => k_is)
    (case poch => k_is)
    (case sach => k_is)
    (case npch => k_is)
    (case nwch => k_is)
    (case nsch => k_is)
    (case ndch => k_is)
    (case nech => k_is)
    (case fich => k_is)
    (case fcch => k_is)
    (case foch => k_is)
    (case fech => k_is)
    (case fnch => k_is)
    (case hach => k_is)
    (case mbch => k_is)
    (case mkch => k_is)
    (case kcch => k_is)
    (case pgwo => k_is)
    (case hdwo => k_is)
    (case powo => k_is)
    (case sawo => k_is)
    (case npwo => k_is)
    (case nwwo => k_is)
    (case nswo => k_is)
    (case ndwo => k_is)
    (case newo => k_is)
    (case fiwo => k_is)
    (case fcwo => k_is)
    (case fowo => k_is)
    (case fewo => k_is)
    (case fnwo => k_is)
    (case hawo => k_is)
    (case mbwo => k_is)
    (case mkwo => k_is)
    (case kcwo => k_is)
    (case pgsh => k_is)
    (case hdsh => k_is)
    (case posh => k_is)
    (case sash => k_is)
    (case npsh => k_is)
    (case nwsh => k_is)
    (case nssh => k_is)
    (case ndsh => k_is)
    (case nesh => k_is)
    (case fish => k_is)
    (case fcsh => k_is)
    (case fosh => k_is)
    (case fesh => k_is)
    (case fnsh => k_is)
    (case hash => k_is)
    (case mbsh => k_is)
    (case mksh => k_is)
    (case kcsh => k_is)
    (case pgdb => k_is)
    (case hddb => k_is)
    (case podb => k_is)
    (case sadb => k_is)
    (case npdb => k_is)
    (case nwdb => k_is)
    (case nsdb => k_is)
    (case nddb => k_is)
    (case nedb => k_is)
    (case fidb => k_is)
    (case fcdb => k_is)
    (case fodb => k_is)
    (case fedb => k_is)
    (case fndb => k_is)
    (case hadb => k_is)
    (case mbdb => k_is)
    (case mkdb => k_is)
    (case kcdb => k_is)
    (case pgsd => k_is)
    (case hdsd => k_is)
    (case posd => k_is)
    (case sasd => k_is)
    (case npsd => k_is)
    (case nwsd => k_is)
    (case nssd => k_is)
    (case ndsd => k_is)
    (case nesd => k_is)
    (case fisd => k_is)
    (case fcsd => k_is)
    (case fosd => k_is)
    (case fesd => k_is)
    (case fnsd => k_is)
    (case hasd => k_is)
    (case mbsd => k_is)
    (case mksd => k_is)
    (case kcsd => k_is)
    (case pgds => k_is)
    (case hdds => k_is)
    (case pods => k_is)
    (case sads => k_is)
    (case npds => k_is)
    (case nwds => k_is)
    (case nsds => k_is)
    (case ndds => k_is)
    (case neds => k_is)
    (case fids => k_is)
    (case fcds => k_is)
    (case fods => k_is)
    (case feds => k_is)
    (case fnds => k_is)
    (case hads => k_is)
    (case mbds => k_is)
    (case mkds => k_is)
    (case kcds => k_is)
    (case liC => k_is)
    (case ciC => k_is)
    (case kiC => k_is)
    (case iiC => k_is)
    (case lcC => k_is)
    (case ccC => k_is)
    (case kcC => k_is)
    (case icC => k_is)
    (case loC => k_is)
    (case coC => k_is)
    (case koC => k_is)
    (case ioC => k_is)
    (case leC => k_is)
    (case ceC => k_is)
    (case keC => k_is)
    (case ieC => k_is)
    (case liW => k_is)
    (case ciW => k_is)
    (case oiW => k_is)
    (case viW => rfl)
    (case piW => rfl)
    (case eiW => k_is)
    (case kiW => k_is)
    (case iiW => k_is)
    (case lcW => k_is)
    (case ccW => k_is)
    (case ocW => k_is)
    (case vcW => rfl)
    (case pcW => rfl)
    (case ecW => k_is)
    (case kcW => k_is)
    (case icW => k_is)
    (case liS => k_is)
    (case ciS => k_is)
    (case oiS => k_is)
    (case viS => rfl)
    (case piS => rfl)
    (case eiS => k_is)
    (case kiS => k_is)
    (case iiS => k_is)
    (case lcS => k_is)
    (case ccS => k_is)
    (case ocS => k_is)
    (case vcS => rfl)
    (case pcS => rfl)
    (case ecS => k_is)
    (case kcS => k_is)
    (case icS => k_is)
    (case liD => k_is)
    (case ciD => k_is)
    (case oiD => k_is)
    (case viD => rfl)
    (case piD => rfl)
    (case eiD => k_is)
    (case kiD => k_is)
    (case iiD => k_is)
    (case lcD => k_is)
    (case ccD => k_is)
    (case ocD => k_is)
    (case vcD => rfl)
    (case pcD => rfl)
    (case ecD => k_is)
    (case kcD => k_is)
    (case icD => k_is)
    (case ty => k_is)
    (case clch => k_is)
    (case clwo => k_is)
    (case clsh => k_is)
    (case cldb => k_is)
    (case clsd => k_is)
    (case clds => k_is)
    (case mrwowo => k_is)
    (case smwowo => rfl)
    (case mrshsh => k_is)
    (case smshsh => rfl)
    (case mrdbdb => k_is)
    (case smdbdb => rfl)
    (case mrsdsh => k_is)
    (case smsdsh => rfl)
    (case mrsddb => k_is)
    (case smsddb => rfl)
    (case mrdsdb => k_is)
    (case smdsdb => rfl)
    (case mrdssh => k_is)
    (case smdssh => rfl)
    (case nich => k_is)
    (case ncch => k_is)
    (case nidb => k_is)
    (case ncdb => k_is)
    (case nish => k_is)
    (case ncsh => k_is)
    (case tiC => k_is)
    (case niC => k_is)
    (case tcC => k_is)
    (case ncC => k_is)
    (case tiS => k_is)
    (case niS => k_is)
    (case tcS => k_is)
    (case ncS => k_is)
    (case tiD => k_is)
    (case niD => k_is)
    (case tcD => k_is)
    (case ncD => k_is)
    (case hn => k_is)
    (case htk => k_is)
    (case thr => k_is)
    (case tops => rfl)
    (case z_isinstance => k_is)
    (case z_len => k_is)
    (case z_all => k_is)
    (case z_zip => k_is)
    (case z_list => k_is)
    (case z_tuple => k_is)
    (case z_sorted => k_is)
    (case z_int => k_is)
    (case z_bool => k_is)
    (case z_str => k_is)
    (case z_range => k_is)
    (case z_repr => k_is)
    (case z_super => k_is)
    (case aL => k_is)
    (case aN => k_is)
